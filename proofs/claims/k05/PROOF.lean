import PyProof.Rows.All
import Wide.All
import OpenK.AllK
import Wide.FinOn
import KE.KStateDown
import KE.SortData
import KE.KDictKeyed
import KE.KExcIs
import KE.GoesEnum
import HandS.ForMost
import HandS.ForExc
import HandS.Defaults
import HandS.Walk
import HandS.Conv
import HandS.IsInst
import HandS.ExcIs
import HandS.ExcInit
import HandS.DictComp
import HandS.TupLe
import HandS.TupAny
import HandS.SortInts
import HandS.More
import HandS.Style
import HandS.Lambda
import HandS.DeepEq
import HandS.EndTab
import HandS.Head0
import HandS.Head1
import HandS.Head2
import HandS.HeadEnd
import HandS.HeadHook1
import HandS.HeadHook2
import HandS.HeadHook3
import HandS.HeadHook4
import HandS.HeadWalk
import PySem.Challenge.RW_sidewayshots_k05_whole_written_forms
set_option Elab.async false
set_option linter.all false
set_option maxRecDepth 100000
set_option maxHeartbeats 4000000
/-! The mathematics: what the reader of lots tells, over lists of signs. -/
namespace K5
/-- the figures, the letters -/
def FIG : List Nat := [48, 49, 50, 51, 52, 53, 54, 55, 56, 57]
def LET : List Nat := [97, 98, 99, 100, 101, 102, 103, 104, 105, 106, 107, 108, 109, 110, 111, 112, 113, 114, 115, 116, 117, 118, 119, 120, 121, 122]
def wCORN : List Nat := [99, 111, 114, 110, 101, 114, 115, 32]
def wSHOT : List Nat := [115, 104, 111, 116, 32]
def wPROG : List Nat := [112, 114, 111, 103, 114, 97, 109]
def wBLANK : List Nat := [32]
/-- how many signs of some kind stand at the front, at most so many -/
def runLen (S : List Nat) : Nat → List Nat → Nat
  | 0, _ => 0
  | _ + 1, [] => 0
  | m + 1, c :: r => if c ∈ S then runLen S m r + 1 else 0
/-- the first place where a word is not at the front -/
def miss : List Nat → List Nat → Option Nat
  | [], _ => none
  | _ :: _, [] => some 0
  | w :: ws, c :: cs => if c = w then (miss ws cs).map (· + 1) else some 0
/-- the value of a figure -/
def fig (c : Nat) : Nat := c - 48
/-- tells p, a fault that is told; else the next -/
def bd {e a b : Type} (x : Except e a) (f : a → Except e b) : Except e b :=
  match x with
  | .error p => .error p
  | .ok v => f v
theorem bd_ok {e a b : Type} (v : a) (f : a → Except e b) : bd (.ok v) f = f v := rfl
theorem bd_er {e a b : Type} (p : e) (f : a → Except e b) : bd (.error p) f = .error p := rfl
/-- a fault at a place of the line k -/
def onRow {a : Type} (k : Nat) (x : Except Nat a) : Except (Nat × Nat) a :=
  match x with
  | .error p => .error (k, p)
  | .ok v => .ok v
theorem onRow_ok {a : Type} (k : Nat) (v : a) : onRow k (.ok v) = .ok v := rfl
theorem onRow_er {a : Type} (k p : Nat) : onRow k (.error p : Except Nat a) = .error (k, p) := rfl
abbrev REx (α : Type) := Except Nat α
def wordAt (line : List Nat) (at_ : Nat) (word : List Nat) : REx Nat :=
  match miss word (line.drop at_) with
  | none => .ok (at_ + word.length)
  | some k => .error (at_ + k)
def turnAt (line : List Nat) (at_ : Nat) : REx (List Nat × Nat) :=
  if runLen FIG 8 (line.drop at_) = 0 then .error at_
  else .ok (((line.drop at_).take (runLen FIG 8 (line.drop at_))).map fig, at_ + runLen FIG 8 (line.drop at_))
def markAt (line : List Nat) (at_ : Nat) : REx (List Nat × Nat) :=
  if (line.drop at_).head? = some 45 then .ok ([], at_ + 1)
  else if runLen LET 8 (line.drop at_) = 0 then .error at_
  else .ok ((line.drop at_).take (runLen LET 8 (line.drop at_)), at_ + runLen LET 8 (line.drop at_))
def endAt (line : List Nat) (at_ : Nat) : REx Unit := if at_ < line.length then .error at_ else .ok ()
abbrev Shot := List Nat × List Nat
abbrev Entry := List Nat × List Nat × List Nat
/-- a turn and a mark, from a place on to the end -/
def pairTold (line : List Nat) (at_ : Nat) : REx Shot :=
  bd (turnAt line at_) fun x => bd (wordAt line x.2 wBLANK) fun a2 => bd (markAt line a2) fun y => bd (endAt line y.2) fun _ => .ok (x.1, y.1)
def shotTold (line : List Nat) : REx Shot := bd (wordAt line 0 wSHOT) (pairTold line)
def entryTold (line : List Nat) : REx Entry :=
  bd (markAt line 0) fun x => bd (wordAt line x.2 wBLANK) fun a2 => bd (pairTold line a2) fun y => .ok (x.1, y.1, y.2)
structure RSt where
  shots : List Shot
  progs : List (List Entry)
/-- put an entry into the last program -/
def addEntry (e : Entry) : List (List Entry) → List (List Entry)
  | [] => []
  | [p] => [p ++ [e]]
  | p :: q :: r => p :: addEntry e (q :: r)
def rowTold (line : List Nat) (s : RSt) : REx RSt :=
  if s.progs = [] ∧ line.head? ≠ some 112 then bd (shotTold line) fun x => .ok ⟨s.shots ++ [x], s.progs⟩
  else if s.progs = [] ∧ s.shots = [] then .error 0
  else if s.progs = [] then bd (wordAt line 0 wPROG) fun a => bd (endAt line a) fun _ => .ok ⟨s.shots, s.progs ++ [[]]⟩
  else if line = wPROG then .ok ⟨s.shots, s.progs ++ [[]]⟩
  else bd (entryTold line) fun e => .ok ⟨s.shots, addEntry e s.progs⟩
/-- the lines behind the first one, from the number k on -/
def rowsTold : Nat → List (List Nat) → RSt → Except (Nat × Nat) RSt
  | _, [], s => .ok s
  | k, l :: r, s => bd (onRow k (rowTold l s)) (rowsTold (k + 1) r)
/-- what is told of the sign behind the first word -/
def afterWord (line : List Nat) (a : Nat) : Option Nat → REx Nat
  | none => .error a
  | some c => if c ∈ FIG then bd (endAt line (a + 1)) fun _ => .ok (fig c) else .error a
def cornersTold (line : List Nat) : REx Nat := bd (wordAt line 0 wCORN) fun a => afterWord line a ((line.drop a).head?)
structure Lot where
  corners : Nat
  shots : List Shot
  progs : List (List Entry)
  deriving DecidableEq
/-- the lot that lines tell; else the line and the place -/
def linesTold (l : List Nat) (r : List (List Nat)) : Except (Nat × Nat) Lot :=
  bd (onRow 0 (cornersTold l)) fun c => bd (rowsTold 1 r ⟨[], []⟩) fun s => if s.shots = [] then .error (r.length + 1, 0) else .ok ⟨c, s.shots, s.progs⟩
/-! ### what is no lot -/
def isAnyTurn (t : List Nat) : Bool := decide (2 ≤ t.length ∧ t.length ≤ 6) && decide (t.Perm (List.range t.length))
def isTurn (c : Nat) (t : List Nat) : Bool := isAnyTurn t && decide (t.length = c)
def isMark (m : List Nat) : Bool := decide (m.length ≤ 8) && m.all fun c => decide (c ∈ LET)
def isShot (c : Nat) (s : Shot) : Bool := isTurn c s.1 && isMark s.2
def isEntry (c : Nat) (e : Entry) : Bool := isMark e.1 && (isTurn c e.2.1 && isMark e.2.2)
def rising : List (List Nat) → Bool
  | [] => true
  | [_] => true
  | x :: y :: r => decide (x < y) && rising (y :: r)
def isProg (c : Nat) (p : List Entry) : Bool := p.all (isEntry c) && rising (p.map (·.1))
/-- not behind the one ahead of it -/
def shotLe (a b : Shot) : Bool := if a.1 = b.1 then !decide (b.2 < a.2) else decide (a.1 < b.1)
/-- the first shot that is none, or does not rise -/
def badShot (c : Nat) : Nat → Option Shot → List Shot → Option Nat
  | _, _, [] => none
  | k, prev, s :: r =>
    if isShot c s && !(match prev with
      | none => false
      | some p => shotLe s p) then badShot c (k + 1) (some s) r else some k
def badProg (c : Nat) : Nat → List (List Entry) → Option Nat
  | _, [] => none
  | k, p :: r => if isProg c p then badProg c (k + 1) r else some k
/-- the marks, each once, in the order in which they come first -/
def addM (l : List (List Nat)) (m : List Nat) : List (List Nat) := if m ∈ l then l else l ++ [m]
def marksOf (x : Lot) : List (List Nat) :=
  (x.progs.flatMap fun p => p.flatMap fun e => [e.1, e.2.2]).foldl addM (x.shots.foldl (fun l s => addM l s.2) [])
inductive Part where
  | corners | shots | programs | marks
  deriving DecidableEq
/-- what is wrong with the shots, with the programs -/
def notShots (c : Nat) (l : List Shot) : Option (Option Nat) := if ¬ (1 ≤ l.length ∧ l.length ≤ 8) then some none else (badShot c 0 none l).map some
def notProgs (c : Nat) (l : List (List Entry)) : Option (Option Nat) := if l.length > 12 then some none else (badProg c 0 l).map some
/-- what is wrong with a lot -/
def notLot (x : Lot) : Option (Part × Option Nat) :=
  if ¬ (2 ≤ x.corners ∧ x.corners ≤ 6) then some (.corners, none)
  else match notShots x.corners x.shots with
    | some k => some (.shots, k)
    | none => match notProgs x.corners x.progs with
      | some k => some (.programs, k)
      | none => if (marksOf x).length > 9 then some (.marks, none) else none
/-! ### written forms -/
def markForm (m : List Nat) : List Nat := if m = [] then [45] else m
def turnForm (t : List Nat) : List Nat := t.map (· + 48)
def shotForm (s : Shot) : List Nat := wSHOT ++ turnForm s.1 ++ [32] ++ markForm s.2
def entryForm (e : Entry) : List Nat := markForm e.1 ++ [32] ++ turnForm e.2.1 ++ [32] ++ markForm e.2.2
def progForm (p : List Entry) : List (List Nat) := wPROG :: p.map entryForm
def headForm (x : Lot) : List Nat := wCORN ++ [x.corners + 48]
def restForm (x : Lot) : List (List Nat) := x.shots.map shotForm ++ x.progs.flatMap progForm
def lotForm (x : Lot) : List (List Nat) := headForm x :: restForm x
end K5
namespace K5
/-! ### the written form of a good lot tells it -/
theorem runLen_le (S : List Nat) : ∀ (m : Nat) (l : List Nat), runLen S m l ≤ m ∧ runLen S m l ≤ l.length
  | 0, l => ⟨Nat.le_refl _, Nat.zero_le _⟩
  | _ + 1, [] => ⟨Nat.zero_le _, Nat.le_refl _⟩
  | m + 1, c :: r => by
    have ih := runLen_le S m r
    unfold runLen
    split
    · exact ⟨by omega, by rw [List.length_cons]; omega⟩
    · exact ⟨Nat.zero_le _, Nat.zero_le _⟩
theorem runLen_app (S : List Nat) : ∀ (l r : List Nat) (m : Nat), l.length ≤ m → (∀ c ∈ l, c ∈ S) → (∀ c, r.head? = some c → c ∉ S) → runLen S m (l ++ r) = l.length
  | [], r, m, _, _, h => by
    cases m with
    | zero => rfl
    | succ m =>
      cases r with
      | nil => rfl
      | cons c r => exact if_neg (h c rfl)
  | c :: l, r, m, hm, ha, h => by
    cases m with
    | zero => exact absurd hm (by simp)
    | succ m =>
      show (if c ∈ S then runLen S m (l ++ r) + 1 else 0) = l.length + 1
      rw [if_pos (ha c (List.mem_cons_self)), runLen_app S l r m (by simpa using hm) (fun d hd => ha d (List.mem_cons_of_mem _ hd)) h]
theorem miss_self : ∀ (w r : List Nat), miss w (w ++ r) = none
  | [], _ => rfl
  | c :: w, r => by
    show (if c = c then (miss w (w ++ r)).map (· + 1) else some 0) = none
    rw [if_pos rfl, miss_self w r]
    rfl
theorem drop_pre (a b : List Nat) : (a ++ b).drop a.length = b := by simp
theorem wordAt_pre (a w r : List Nat) {n : Nat} (hn : n = a.length) : wordAt (a ++ (w ++ r)) n w = .ok (n + w.length) := by
  subst hn
  unfold wordAt
  rw [drop_pre, miss_self]
theorem fig_form : ∀ t : List Nat, (turnForm t).map fig = t
  | [] => rfl
  | c :: r => by
    show (c + 48 - 48) :: (turnForm r).map fig = c :: r
    rw [fig_form r, Nat.add_sub_cancel]
theorem form_len (t : List Nat) : (turnForm t).length = t.length := List.length_map _
structure GoodT (t : List Nat) : Prop where
  pos : 1 ≤ t.length
  le : t.length ≤ 8
  fig : ∀ c ∈ t, c < 10
structure GoodM (m : List Nat) : Prop where
  le : m.length ≤ 8
  let_ : ∀ c ∈ m, c ∈ LET
theorem fig_mem {c : Nat} (h : c < 10) : c + 48 ∈ FIG := by
  have : c = 0 ∨ c = 1 ∨ c = 2 ∨ c = 3 ∨ c = 4 ∨ c = 5 ∨ c = 6 ∨ c = 7 ∨ c = 8 ∨ c = 9 := by omega
  rcases this with h | h | h | h | h | h | h | h | h | h <;> subst h <;> decide
theorem form_fig {t : List Nat} (g : GoodT t) : ∀ c ∈ turnForm t, c ∈ FIG := fun c hc => by
  obtain ⟨d, hd, e⟩ := List.mem_map.mp hc
  rw [← e]
  exact fig_mem (g.fig d hd)
theorem turnAt_pre (a : List Nat) {t r : List Nat} {n : Nat} (hn : n = a.length) (g : GoodT t) (h : ∀ c, r.head? = some c → c ∉ FIG) : turnAt (a ++ (turnForm t ++ r)) n = .ok (t, n + t.length) := by
  subst hn
  unfold turnAt
  rw [drop_pre, runLen_app FIG (turnForm t) r 8 (by rw [form_len]; exact g.le) (form_fig g) h, form_len, if_neg (by have := g.pos; omega)]
  have e : (turnForm t ++ r).take t.length = turnForm t := by
    rw [← form_len t]
    exact List.take_left
  rw [e, fig_form]
theorem let_ne {c : Nat} (h : c ∈ LET) : c ≠ 45 := fun e => by
  rw [e] at h
  exact absurd h (by decide)
theorem markAt_pre (a : List Nat) {m r : List Nat} {n : Nat} (hn : n = a.length) (g : GoodM m) (h : ∀ c, r.head? = some c → c ∉ LET) : markAt (a ++ (markForm m ++ r)) n = .ok (m, n + (markForm m).length) := by
  subst hn
  unfold markAt
  rw [drop_pre]
  cases m with
  | nil =>
    have e : markForm [] = [45] := rfl
    rw [e]
    rfl
  | cons c m =>
    have e : markForm (c :: m) = c :: m := rfl
    rw [e]
    rw [if_neg (show ¬ (((c :: m) ++ r).head? = some 45) from fun z => let_ne (g.let_ c List.mem_cons_self) (Option.some.inj z))]
    rw [runLen_app LET (c :: m) r 8 g.le g.let_ h, if_neg (by simp)]
    rw [List.take_left]
theorem endAt_all {l : List Nat} {n : Nat} (h : n = l.length) : endAt l n = .ok () := if_neg (by omega)
theorem head32 (r : List Nat) : ∀ c, ([32] ++ r).head? = some c → c ∉ FIG ∧ c ∉ LET := fun c hc => by
  have e : 32 = c := Option.some.inj hc
  subst e
  exact ⟨by decide, by decide⟩
theorem pairTold_pre (a : List Nat) {t m : List Nat} {n : Nat} (hn : n = a.length) (gt : GoodT t) (gm : GoodM m) : pairTold (a ++ (turnForm t ++ ([32] ++ markForm m))) n = .ok (t, m) := by
  have e1 : a ++ (turnForm t ++ ([32] ++ markForm m)) = (a ++ turnForm t) ++ (wBLANK ++ markForm m) := by simp [wBLANK]
  have e2 : a ++ (turnForm t ++ ([32] ++ markForm m)) = (a ++ turnForm t ++ [32]) ++ (markForm m ++ []) := by simp
  have w1 := turnAt_pre a hn gt (r := [32] ++ markForm m) (fun c hc => (head32 _ c hc).1)
  have w2 := wordAt_pre (a ++ turnForm t) wBLANK (markForm m) (n := n + t.length) (by rw [List.length_append, form_len, hn])
  have w3 := markAt_pre (a ++ turnForm t ++ [32]) (n := n + t.length + 1) (r := []) (by simp [form_len, hn]; omega) gm (fun c hc => by cases hc)
  rw [← e1] at w2
  rw [← e2] at w3
  unfold pairTold
  rw [w1, bd_ok]
  show bd (wordAt _ (n + t.length) wBLANK) _ = _
  rw [w2, bd_ok]
  show bd (markAt _ (n + t.length + 1)) _ = _
  rw [w3, bd_ok]
  show bd (endAt _ (n + t.length + 1 + (markForm m).length)) _ = _
  rw [endAt_all (by simp [form_len, hn]; omega), bd_ok]
theorem shotTold_form {s : Shot} (gt : GoodT s.1) (gm : GoodM s.2) : shotTold (shotForm s) = .ok s := by
  have e2 : shotForm s = wSHOT ++ (turnForm s.1 ++ ([32] ++ markForm s.2)) := by simp [shotForm]
  have w1 : wordAt (shotForm s) 0 wSHOT = .ok (0 + wSHOT.length) := by
    rw [e2]
    exact wordAt_pre [] wSHOT _ rfl
  unfold shotTold
  rw [w1, bd_ok, e2]
  exact pairTold_pre wSHOT rfl gt gm
structure GoodE (e : Entry) : Prop where
  m : GoodM e.1
  t : GoodT e.2.1
  to : GoodM e.2.2
theorem entryTold_form {e : Entry} (g : GoodE e) : entryTold (entryForm e) = .ok e := by
  have e1 : entryForm e = [] ++ (markForm e.1 ++ ([32] ++ (turnForm e.2.1 ++ ([32] ++ markForm e.2.2)))) := by simp [entryForm]
  have e2 : entryForm e = markForm e.1 ++ (wBLANK ++ (turnForm e.2.1 ++ ([32] ++ markForm e.2.2))) := by simp [entryForm, wBLANK]
  have e3 : entryForm e = (markForm e.1 ++ [32]) ++ (turnForm e.2.1 ++ ([32] ++ markForm e.2.2)) := by simp [entryForm]
  have w1 : markAt (entryForm e) 0 = .ok (e.1, 0 + (markForm e.1).length) := by
    rw [e1]
    exact markAt_pre [] rfl g.m (fun c hc => (head32 _ c hc).2)
  have w2 : wordAt (entryForm e) (0 + (markForm e.1).length) wBLANK = .ok (0 + (markForm e.1).length + wBLANK.length) := by
    rw [e2]
    exact wordAt_pre (markForm e.1) wBLANK _ (by simp)
  have w3 : pairTold (entryForm e) (0 + (markForm e.1).length + wBLANK.length) = .ok (e.2.1, e.2.2) := by
    rw [e3]
    exact pairTold_pre (markForm e.1 ++ [32]) (by simp [wBLANK]) g.t g.to
  unfold entryTold
  rw [w1, bd_ok]
  show bd (wordAt _ (0 + (markForm e.1).length) wBLANK) _ = _
  rw [w2, bd_ok, w3, bd_ok]
/-! rows -/
theorem rows_app : ∀ (a b : List (List Nat)) (k : Nat) (s s' : RSt), rowsTold k a s = .ok s' → rowsTold k (a ++ b) s = rowsTold (k + a.length) b s'
  | [], b, k, s, s', h => by
    cases h
    rfl
  | l :: a, b, k, s, s', h => by
    have h1 : bd (onRow k (rowTold l s)) (rowsTold (k + 1) a) = Except.ok s' := h
    show bd (onRow k (rowTold l s)) (rowsTold (k + 1) (a ++ b)) = _
    cases e : rowTold l s with
    | error p =>
      rw [e] at h1
      cases h1
    | ok s2 =>
      rw [e, onRow_ok, bd_ok] at h1
      rw [onRow_ok, bd_ok, show k + (l :: a).length = k + 1 + a.length by simp; omega]
      exact rows_app a b (k + 1) s2 s' h1
theorem shot_head (s : Shot) : (shotForm s).head? = some 115 := rfl
theorem row_shot {s : Shot} {st : RSt} (gt : GoodT s.1) (gm : GoodM s.2) (hp : st.progs = []) : rowTold (shotForm s) st = .ok ⟨st.shots ++ [s], st.progs⟩ := by
  unfold rowTold
  rw [if_pos ⟨hp, by rw [shot_head]; decide⟩, shotTold_form gt gm, bd_ok]
theorem rows_shots : ∀ (l : List Shot) (k : Nat) (st : RSt), (∀ s ∈ l, GoodT s.1 ∧ GoodM s.2) → st.progs = [] → rowsTold k (l.map shotForm) st = .ok ⟨st.shots ++ l, []⟩
  | [], k, st, _, hp => by
    obtain ⟨a, b⟩ := st
    have hp' : b = [] := hp
    subst hp'
    show Except.ok _ = _
    simp
  | s :: l, k, st, h, hp => by
    show bd (onRow k (rowTold (shotForm s) st)) (rowsTold (k + 1) (l.map shotForm)) = _
    rw [row_shot (h s List.mem_cons_self).1 (h s List.mem_cons_self).2 hp]
    show rowsTold (k + 1) (l.map shotForm) ⟨st.shots ++ [s], st.progs⟩ = _
    rw [rows_shots l (k + 1) ⟨st.shots ++ [s], st.progs⟩ (fun x hx => h x (List.mem_cons_of_mem _ hx)) hp]
    simp
theorem add_snoc (e : Entry) (p : List Entry) : ∀ l : List (List Entry), addEntry e (l ++ [p]) = l ++ [p ++ [e]]
  | [] => rfl
  | [q] => rfl
  | q :: r :: l => by
    show q :: addEntry e (r :: l ++ [p]) = q :: (r :: l ++ [p ++ [e]])
    rw [add_snoc e p (r :: l)]
theorem entry_ne (e : Entry) : entryForm e ≠ wPROG := fun z => by
  have h : (32 : Nat) ∈ entryForm e := by simp [entryForm]
  rw [z] at h
  exact absurd h (by decide)
theorem row_entry {e : Entry} {s : List Shot} {l : List (List Entry)} {p : List Entry} (g : GoodE e) : rowTold (entryForm e) ⟨s, l ++ [p]⟩ = .ok ⟨s, l ++ [p ++ [e]]⟩ := by
  unfold rowTold
  have n : ¬ (l ++ [p] = []) := by simp
  rw [if_neg (fun z => n z.1), if_neg (fun z => n z.1), if_neg n, if_neg (entry_ne e), entryTold_form g, bd_ok]
  show Except.ok (⟨s, addEntry e (l ++ [p])⟩ : RSt) = _
  rw [add_snoc]
theorem rows_entries (s : List Shot) (l : List (List Entry)) : ∀ (es p : List Entry) (k : Nat), (∀ e ∈ es, GoodE e) → rowsTold k (es.map entryForm) ⟨s, l ++ [p]⟩ = .ok ⟨s, l ++ [p ++ es]⟩
  | [], p, k, _ => by simp [rowsTold]
  | e :: es, p, k, h => by
    show bd (onRow k (rowTold (entryForm e) ⟨s, l ++ [p]⟩)) (rowsTold (k + 1) (es.map entryForm)) = _
    rw [row_entry (h e List.mem_cons_self)]
    show rowsTold (k + 1) (es.map entryForm) ⟨s, l ++ [p ++ [e]]⟩ = _
    rw [rows_entries s l es (p ++ [e]) (k + 1) (fun x hx => h x (List.mem_cons_of_mem _ hx))]
    simp
theorem row_prog {s : List Shot} {l : List (List Entry)} (hs : s ≠ []) : rowTold wPROG ⟨s, l⟩ = .ok ⟨s, l ++ [[]]⟩ := by
  unfold rowTold
  rw [if_neg (fun z => z.2 rfl), if_neg (fun z => hs z.2)]
  by_cases h : l = []
  · subst h
    rfl
  · rw [if_neg h, if_pos rfl]
theorem rows_progs (s : List Shot) (hs : s ≠ []) : ∀ (ps l : List (List Entry)) (k : Nat), (∀ p ∈ ps, ∀ e ∈ p, GoodE e) → rowsTold k (ps.flatMap progForm) ⟨s, l⟩ = .ok ⟨s, l ++ ps⟩
  | [], l, k, _ => by simp [rowsTold]
  | p :: ps, l, k, h => by
    have e1 : rowsTold k (progForm p) ⟨s, l⟩ = .ok ⟨s, l ++ [p]⟩ := by
      show bd (onRow k (rowTold wPROG ⟨s, l⟩)) (rowsTold (k + 1) (p.map entryForm)) = _
      rw [row_prog hs]
      show rowsTold (k + 1) (p.map entryForm) ⟨s, l ++ [[]]⟩ = _
      rw [rows_entries s l p [] (k + 1) (h p List.mem_cons_self)]
      simp
    have e2 : (p :: ps).flatMap progForm = progForm p ++ ps.flatMap progForm := by simp
    rw [e2, rows_app _ _ _ _ _ e1, rows_progs s hs ps (l ++ [p]) _ (fun q hq => h q (List.mem_cons_of_mem _ hq))]
    simp
structure GoodL (x : Lot) : Prop where
  c : x.corners < 10
  ne : x.shots ≠ []
  s : ∀ s ∈ x.shots, GoodT s.1 ∧ GoodM s.2
  p : ∀ p ∈ x.progs, ∀ e ∈ p, GoodE e
theorem corners_form {c : Nat} (h : c < 10) : cornersTold (wCORN ++ [c + 48]) = .ok c := by
  have w1 : wordAt (wCORN ++ [c + 48]) 0 wCORN = .ok (0 + wCORN.length) := wordAt_pre [] wCORN [c + 48] rfl
  unfold cornersTold
  rw [w1, bd_ok]
  have e : (List.drop (0 + wCORN.length) (wCORN ++ [c + 48])).head? = some (c + 48) := by simp
  rw [e]
  show (if c + 48 ∈ FIG then bd (endAt (wCORN ++ [c + 48]) (0 + wCORN.length + 1)) fun _ => Except.ok (fig (c + 48)) else Except.error (0 + wCORN.length)) = _
  rw [if_pos (fig_mem h), endAt_all (by simp [wCORN]), bd_ok]
  show Except.ok (c + 48 - 48) = _
  rw [Nat.add_sub_cancel]
/-- THE ROUND -/
theorem told_form {x : Lot} (g : GoodL x) : linesTold (headForm x) (restForm x) = .ok x := by
  unfold linesTold headForm restForm
  rw [corners_form g.c, onRow_ok, bd_ok, rows_app _ _ _ _ _ (rows_shots x.shots 1 ⟨[], []⟩ g.s rfl)]
  show bd (rowsTold _ (x.progs.flatMap progForm) ⟨[] ++ x.shots, []⟩) _ = _
  rw [List.nil_append, rows_progs x.shots g.ne x.progs [] _ g.p, bd_ok]
  show (if x.shots = [] then _ else _) = _
  rw [if_neg g.ne]
  rfl
end K5
namespace K5
open PySem PySem.Spec PyProof.Rows L2
/-! ### the text by places -/
def top (i : Nat) : Stmt := PySem.Challenge.pw_sidewayshots_k05_whole_written_forms.main.body.getD i (.Pass ⟨0, 0, 0, 0⟩)
abbrev s_is_corners : Stmt := top 17
abbrev s_is_any_turn : Stmt := top 18
abbrev s_need_turn : Stmt := top 19
abbrev s_is_mark : Stmt := top 26
abbrev s_is_turn_of : Stmt := top 27
abbrev s_is_shot : Stmt := top 28
abbrev s_is_entry : Stmt := top 29
abbrev s_are_rising : Stmt := top 30
abbrev s_is_program : Stmt := top 31
abbrev s_need_shots : Stmt := top 32
abbrev s_need_programs : Stmt := top 33
abbrev s_need_lot : Stmt := top 34
abbrev s_entries_in : Stmt := top 35
abbrev s_marks_in : Stmt := top 36
abbrev s_turn_words : Stmt := top 46
abbrev s_mark_words : Stmt := top 47
abbrev s_turn_text : Stmt := top 48
abbrev s_lot_text : Stmt := top 49
abbrev s_need_sign : Stmt := top 50
abbrev s_need_word : Stmt := top 51
abbrev s_need_end : Stmt := top 52
abbrev s_run_end : Stmt := top 53
abbrev s_turn_at : Stmt := top 54
abbrev s_mark_at : Stmt := top 55
abbrev s_corners_told : Stmt := top 56
abbrev s_shot_told : Stmt := top 57
abbrev s_entry_told : Stmt := top 58
abbrev s_row_told : Stmt := top 59
abbrev s_read_lot : Stmt := top 60
abbrev s__law_mixed : Stmt := top 62
abbrev s__law_begin : Stmt := top 63
abbrev s__law_draw : Stmt := top 64
abbrev s__law_of : Stmt := top 65
abbrev s__law_turn : Stmt := top 66
abbrev s__law_mark : Stmt := top 67
abbrev s__law_program : Stmt := top 68
abbrev s__law_lot : Stmt := top 69
abbrev s__law_turn_text : Stmt := top 70
abbrev s__law_mark_text : Stmt := top 71
abbrev s__law_lot_text : Stmt := top 72
abbrev s__law_turn_told : Stmt := top 73
abbrev s__law_mark_told : Stmt := top 74
abbrev s__law_word_told : Stmt := top 75
abbrev s__law_pair_told : Stmt := top 76
abbrev s__law_line_told : Stmt := top 77
abbrev s__law_lot_told : Stmt := top 78
abbrev s__law_said : Stmt := top 79
abbrev s__law_right : Stmt := top 80
abbrev s__law_bent : Stmt := top 81
abbrev s__law_hand_right : Stmt := top 82
abbrev s_law : Stmt := top 83
abbrev i_BadLot : Stmt := inClass (top 2) 0
abbrev i_BadText : Stmt := inClass (top 3) 0
abbrev i_BadTurn : Stmt := inClass (top 4) 0
/-! ### their names by slot -/
abbrev n_is_corners : List PySem.Str := ["thing"]
theorem sc_is_corners : FnScope n_is_corners ["thing"] (defScope s_is_corners) := ⟨rfl, rfl, rfl, by decide +kernel, rfl, by decide +kernel, by decide +kernel⟩
abbrev n_is_any_turn : List PySem.Str := ["thing", "place"]
theorem sc_is_any_turn : FnScope n_is_any_turn ["thing"] (defScope s_is_any_turn) := ⟨rfl, rfl, rfl, by decide +kernel, rfl, by decide +kernel, by decide +kernel⟩
abbrev n_need_turn : List PySem.Str := ["thing"]
theorem sc_need_turn : FnScope n_need_turn ["thing"] (defScope s_need_turn) := ⟨rfl, rfl, rfl, by decide +kernel, rfl, by decide +kernel, by decide +kernel⟩
abbrev n_is_mark : List PySem.Str := ["thing", "sign"]
theorem sc_is_mark : FnScope n_is_mark ["thing"] (defScope s_is_mark) := ⟨rfl, rfl, rfl, by decide +kernel, rfl, by decide +kernel, by decide +kernel⟩
abbrev n_is_turn_of : List PySem.Str := ["corners", "thing"]
theorem sc_is_turn_of : FnScope n_is_turn_of ["corners", "thing"] (defScope s_is_turn_of) := ⟨rfl, rfl, rfl, by decide +kernel, rfl, by decide +kernel, by decide +kernel⟩
abbrev n_is_shot : List PySem.Str := ["corners", "thing"]
theorem sc_is_shot : FnScope n_is_shot ["corners", "thing"] (defScope s_is_shot) := ⟨rfl, rfl, rfl, by decide +kernel, rfl, by decide +kernel, by decide +kernel⟩
abbrev n_is_entry : List PySem.Str := ["corners", "thing"]
theorem sc_is_entry : FnScope n_is_entry ["corners", "thing"] (defScope s_is_entry) := ⟨rfl, rfl, rfl, by decide +kernel, rfl, by decide +kernel, by decide +kernel⟩
abbrev n_are_rising : List PySem.Str := ["things", "at"]
theorem sc_are_rising : FnScope n_are_rising ["things"] (defScope s_are_rising) := ⟨rfl, rfl, rfl, by decide +kernel, rfl, by decide +kernel, by decide +kernel⟩
abbrev n_is_program : List PySem.Str := ["corners", "thing", "entry"]
theorem sc_is_program : FnScope n_is_program ["corners", "thing"] (defScope s_is_program) := ⟨rfl, rfl, rfl, by decide +kernel, rfl, by decide +kernel, by decide +kernel⟩
abbrev n_need_shots : List PySem.Str := ["corners", "shots", "number", "shot"]
theorem sc_need_shots : FnScope n_need_shots ["corners", "shots"] (defScope s_need_shots) := ⟨rfl, rfl, rfl, by decide +kernel, rfl, by decide +kernel, by decide +kernel⟩
abbrev n_need_programs : List PySem.Str := ["corners", "programs", "number", "program"]
theorem sc_need_programs : FnScope n_need_programs ["corners", "programs"] (defScope s_need_programs) := ⟨rfl, rfl, rfl, by decide +kernel, rfl, by decide +kernel, by decide +kernel⟩
abbrev n_need_lot : List PySem.Str := ["thing", "corners", "shots", "programs"]
theorem sc_need_lot : FnScope n_need_lot ["thing"] (defScope s_need_lot) := ⟨rfl, rfl, rfl, by decide +kernel, rfl, by decide +kernel, by decide +kernel⟩
abbrev n_entries_in : List PySem.Str := ["lot", "number", "program", "entry"]
theorem sc_entries_in : FnScope n_entries_in ["lot"] (defScope s_entries_in) := ⟨rfl, rfl, rfl, by decide +kernel, rfl, by decide +kernel, by decide +kernel⟩
abbrev n_marks_in : List PySem.Str := ["lot", "found", "shot", "number", "entry"]
theorem sc_marks_in : FnScope n_marks_in ["lot"] (defScope s_marks_in) := ⟨rfl, rfl, rfl, by decide +kernel, rfl, by decide +kernel, by decide +kernel⟩
abbrev n_turn_words : List PySem.Str := ["turn", "place"]
theorem sc_turn_words : FnScope n_turn_words ["turn"] (defScope s_turn_words) := ⟨rfl, rfl, rfl, by decide +kernel, rfl, by decide +kernel, by decide +kernel⟩
abbrev n_mark_words : List PySem.Str := ["mark"]
theorem sc_mark_words : FnScope n_mark_words ["mark"] (defScope s_mark_words) := ⟨rfl, rfl, rfl, by decide +kernel, rfl, by decide +kernel, by decide +kernel⟩
abbrev n_turn_text : List PySem.Str := ["turn"]
theorem sc_turn_text : FnScope n_turn_text ["turn"] (defScope s_turn_text) := ⟨rfl, rfl, rfl, by decide +kernel, rfl, by decide +kernel, by decide +kernel⟩
abbrev n_lot_text : List PySem.Str := ["lot", "corners", "shots", "programs", "lines", "stored", "mark", "program", "turn", "to"]
theorem sc_lot_text : FnScope n_lot_text ["lot"] (defScope s_lot_text) := ⟨rfl, rfl, rfl, by decide +kernel, rfl, by decide +kernel, by decide +kernel⟩
abbrev n_need_sign : List PySem.Str := ["line", "at", "signs", "row"]
theorem sc_need_sign : FnScope n_need_sign ["line", "at", "signs", "row"] (defScope s_need_sign) := ⟨rfl, rfl, rfl, by decide +kernel, rfl, by decide +kernel, by decide +kernel⟩
abbrev n_need_word : List PySem.Str := ["line", "at", "word", "row", "number", "sign"]
theorem sc_need_word : FnScope n_need_word ["line", "at", "word", "row"] (defScope s_need_word) := ⟨rfl, rfl, rfl, by decide +kernel, rfl, by decide +kernel, by decide +kernel⟩
abbrev n_need_end : List PySem.Str := ["line", "at", "row"]
theorem sc_need_end : FnScope n_need_end ["line", "at", "row"] (defScope s_need_end) := ⟨rfl, rfl, rfl, by decide +kernel, rfl, by decide +kernel, by decide +kernel⟩
abbrev n_run_end : List PySem.Str := ["line", "at", "signs", "most", "end"]
theorem sc_run_end : FnScope n_run_end ["line", "at", "signs", "most"] (defScope s_run_end) := ⟨rfl, rfl, rfl, by decide +kernel, rfl, by decide +kernel, by decide +kernel⟩
abbrev n_turn_at : List PySem.Str := ["line", "at", "row", "end", "figure"]
theorem sc_turn_at : FnScope n_turn_at ["line", "at", "row"] (defScope s_turn_at) := ⟨rfl, rfl, rfl, by decide +kernel, rfl, by decide +kernel, by decide +kernel⟩
abbrev n_mark_at : List PySem.Str := ["line", "at", "row", "end"]
theorem sc_mark_at : FnScope n_mark_at ["line", "at", "row"] (defScope s_mark_at) := ⟨rfl, rfl, rfl, by decide +kernel, rfl, by decide +kernel, by decide +kernel⟩
abbrev n_corners_told : List PySem.Str := ["line", "at"]
theorem sc_corners_told : FnScope n_corners_told ["line"] (defScope s_corners_told) := ⟨rfl, rfl, rfl, by decide +kernel, rfl, by decide +kernel, by decide +kernel⟩
abbrev n_shot_told : List PySem.Str := ["line", "row", "stored", "at", "mark"]
theorem sc_shot_told : FnScope n_shot_told ["line", "row"] (defScope s_shot_told) := ⟨rfl, rfl, rfl, by decide +kernel, rfl, by decide +kernel, by decide +kernel⟩
abbrev n_entry_told : List PySem.Str := ["line", "row", "mark", "at", "turn", "to"]
theorem sc_entry_told : FnScope n_entry_told ["line", "row"] (defScope s_entry_told) := ⟨rfl, rfl, rfl, by decide +kernel, rfl, by decide +kernel, by decide +kernel⟩
abbrev n_row_told : List PySem.Str := ["line", "row", "shots", "programs"]
theorem sc_row_told : FnScope n_row_told ["line", "row", "shots", "programs"] (defScope s_row_told) := ⟨rfl, rfl, rfl, by decide +kernel, rfl, by decide +kernel, by decide +kernel⟩
abbrev n_read_lot : List PySem.Str := ["string", "lines", "shots", "programs", "corners", "row", "line", "entries"]
theorem sc_read_lot : FnScope n_read_lot ["string"] (defScope s_read_lot) := ⟨rfl, rfl, rfl, by decide +kernel, rfl, by decide +kernel, by decide +kernel⟩
abbrev n__law_mixed : List PySem.Str := ["_law_cell", "_law_k"]
theorem sc__law_mixed : FnScope n__law_mixed ["_law_cell", "_law_k"] (defScope s__law_mixed) := ⟨rfl, rfl, rfl, by decide +kernel, rfl, by decide +kernel, by decide +kernel⟩
abbrev n__law_begin : List PySem.Str := ["_law_script", "_law_cells", "_law_cell"]
theorem sc__law_begin : FnScope n__law_begin ["_law_script"] (defScope s__law_begin) := ⟨rfl, rfl, rfl, by decide +kernel, rfl, by decide +kernel, by decide +kernel⟩
abbrev n__law_draw : List PySem.Str := ["_law_state", "_law_many", "_law_at", "_law_place", "_law_left", "_law_number"]
theorem sc__law_draw : FnScope n__law_draw ["_law_state", "_law_many"] (defScope s__law_draw) := ⟨rfl, rfl, rfl, by decide +kernel, rfl, by decide +kernel, by decide +kernel⟩
abbrev n__law_of : List PySem.Str := ["_law_state", "_law_some"]
theorem sc__law_of : FnScope n__law_of ["_law_state", "_law_some"] (defScope s__law_of) := ⟨rfl, rfl, rfl, by decide +kernel, rfl, by decide +kernel, by decide +kernel⟩
abbrev n__law_turn : List PySem.Str := ["_law_state", "_law_corners", "_law_left", "_law_found", "_law_k"]
theorem sc__law_turn : FnScope n__law_turn ["_law_state", "_law_corners"] (defScope s__law_turn) := ⟨rfl, rfl, rfl, by decide +kernel, rfl, by decide +kernel, by decide +kernel⟩
abbrev n__law_mark : List PySem.Str := ["_law_state"]
theorem sc__law_mark : FnScope n__law_mark ["_law_state"] (defScope s__law_mark) := ⟨rfl, rfl, rfl, by decide +kernel, rfl, by decide +kernel, by decide +kernel⟩
abbrev n__law_program : List PySem.Str := ["_law_state", "_law_corners", "_law_found", "_law_k", "_law_mark_here"]
theorem sc__law_program : FnScope n__law_program ["_law_state", "_law_corners"] (defScope s__law_program) := ⟨rfl, rfl, rfl, by decide +kernel, rfl, by decide +kernel, by decide +kernel⟩
abbrev n__law_lot : List PySem.Str := ["_law_state", "_law_most", "_law_corners", "_law_shots", "_law_k", "_law_programs"]
theorem sc__law_lot : FnScope n__law_lot ["_law_state", "_law_most"] (defScope s__law_lot) := ⟨rfl, rfl, rfl, by decide +kernel, rfl, by decide +kernel, by decide +kernel⟩
abbrev n__law_turn_text : List PySem.Str := ["_law_turn_here", "_law_place"]
theorem sc__law_turn_text : FnScope n__law_turn_text ["_law_turn_here"] (defScope s__law_turn_text) := ⟨rfl, rfl, rfl, by decide +kernel, rfl, by decide +kernel, by decide +kernel⟩
abbrev n__law_mark_text : List PySem.Str := ["_law_mark_here"]
theorem sc__law_mark_text : FnScope n__law_mark_text ["_law_mark_here"] (defScope s__law_mark_text) := ⟨rfl, rfl, rfl, by decide +kernel, rfl, by decide +kernel, by decide +kernel⟩
abbrev n__law_lot_text : List PySem.Str := ["_law_lot_here", "_law_lines", "_law_stored", "_law_mark_here", "_law_program_here", "_law_turn_here", "_law_to", "_law_row"]
theorem sc__law_lot_text : FnScope n__law_lot_text ["_law_lot_here"] (defScope s__law_lot_text) := ⟨rfl, rfl, rfl, by decide +kernel, rfl, by decide +kernel, by decide +kernel⟩
abbrev n__law_turn_told : List PySem.Str := ["_law_line", "_law_at", "_law_end", "_law_figure"]
theorem sc__law_turn_told : FnScope n__law_turn_told ["_law_line", "_law_at"] (defScope s__law_turn_told) := ⟨rfl, rfl, rfl, by decide +kernel, rfl, by decide +kernel, by decide +kernel⟩
abbrev n__law_mark_told : List PySem.Str := ["_law_line", "_law_at", "_law_end"]
theorem sc__law_mark_told : FnScope n__law_mark_told ["_law_line", "_law_at"] (defScope s__law_mark_told) := ⟨rfl, rfl, rfl, by decide +kernel, rfl, by decide +kernel, by decide +kernel⟩
abbrev n__law_word_told : List PySem.Str := ["_law_line", "_law_word", "_law_wrong", "_law_k"]
theorem sc__law_word_told : FnScope n__law_word_told ["_law_line", "_law_word"] (defScope s__law_word_told) := ⟨rfl, rfl, rfl, by decide +kernel, rfl, by decide +kernel, by decide +kernel⟩
abbrev n__law_pair_told : List PySem.Str := ["_law_line", "_law_at", "_law_is_mark_ahead", "_law_found", "_law_k", "_law_is_turn_due", "_law_one", "_law_end", "_law_is_last"]
theorem sc__law_pair_told : FnScope n__law_pair_told ["_law_line", "_law_at", "_law_is_mark_ahead"] (defScope s__law_pair_told) := ⟨rfl, rfl, rfl, by decide +kernel, rfl, by decide +kernel, by decide +kernel⟩
abbrev n__law_line_told : List PySem.Str := ["_law_line", "_law_shots", "_law_programs", "_law_at", "_law_is_there", "_law_one"]
theorem sc__law_line_told : FnScope n__law_line_told ["_law_line", "_law_shots", "_law_programs"] (defScope s__law_line_told) := ⟨rfl, rfl, rfl, by decide +kernel, rfl, by decide +kernel, by decide +kernel⟩
abbrev n__law_lot_told : List PySem.Str := ["_law_thing", "_law_lines", "_law_shots", "_law_programs", "_law_at", "_law_is_there", "_law_k", "_law_is_good", "_law_place", "_law_fresh", "_law_entries"]
theorem sc__law_lot_told : FnScope n__law_lot_told ["_law_thing"] (defScope s__law_lot_told) := ⟨rfl, rfl, rfl, by decide +kernel, rfl, by decide +kernel, by decide +kernel⟩
abbrev n__law_said : List PySem.Str := ["_law_call", "_law_found", "_law_caught", "e", "_law_marks", "_law_word"]
theorem sc__law_said : FnScope n__law_said ["_law_call"] (defScope s__law_said) := ⟨rfl, rfl, rfl, by decide +kernel, rfl, by decide +kernel, by decide +kernel⟩
abbrev n__law_right : List PySem.Str := ["_law_thing", "_law_due", "_law_turn_here"]
theorem sc__law_right : FnScope n__law_right ["_law_thing"] (defScope s__law_right) := ⟨rfl, rfl, rfl, by decide +kernel, rfl, by decide +kernel, by decide +kernel⟩
abbrev n__law_bent : List PySem.Str := ["_law_state", "_law_text", "_law_at", "_law_way", "_law_sign", "_law_some", "_law_lines", "_law_far"]
theorem sc__law_bent : FnScope n__law_bent ["_law_state", "_law_text"] (defScope s__law_bent) := ⟨rfl, rfl, rfl, by decide +kernel, rfl, by decide +kernel, by decide +kernel⟩
abbrev n__law_hand_right : List PySem.Str := ["_law_ahead", "_law_some", "_law_line", "_law_many", "_law_k", "_law_thing", "_law_odd"]
theorem sc__law_hand_right : FnScope n__law_hand_right [] (defScope s__law_hand_right) := ⟨rfl, rfl, rfl, by decide +kernel, rfl, by decide +kernel, by decide +kernel⟩
abbrev n_law : List PySem.Str := ["_law_script", "_law_state", "_law_turn_here", "_law_lot_here", "_law_text", "_law_k", "_law_one", "_law_two", "_law_due"]
theorem sc_law : FnScope n_law ["_law_script"] (defScope s_law) := ⟨rfl, rfl, rfl, by decide +kernel, rfl, by decide +kernel, by decide +kernel⟩
abbrev ni_BadLot : List PySem.Str := ["self", "part", "number"]
theorem sci_BadLot : FnScope ni_BadLot ["self", "part", "number"] (defScope i_BadLot) := ⟨rfl, rfl, rfl, by decide +kernel, rfl, by decide +kernel, by decide +kernel⟩
abbrev ni_BadText : List PySem.Str := ["self", "line", "place"]
theorem sci_BadText : FnScope ni_BadText ["self", "line", "place"] (defScope i_BadText) := ⟨rfl, rfl, rfl, by decide +kernel, rfl, by decide +kernel, by decide +kernel⟩
abbrev ni_BadTurn : List PySem.Str := ["self", "given"]
theorem sci_BadTurn : FnScope ni_BadTurn ["self", "given"] (defScope i_BadTurn) := ⟨rfl, rfl, rfl, by decide +kernel, rfl, by decide +kernel, by decide +kernel⟩
/-! ### the defs as data -/
def d_is_corners : He.DefD := ⟨("is_corners", none), "is_corners", "is_corners", defArgs s_is_corners, defBody s_is_corners, defScope s_is_corners, [], []⟩
def d_is_any_turn : He.DefD := ⟨("is_any_turn", none), "is_any_turn", "is_any_turn", defArgs s_is_any_turn, defBody s_is_any_turn, defScope s_is_any_turn, [], []⟩
def d_need_turn : He.DefD := ⟨("need_turn", none), "need_turn", "need_turn", defArgs s_need_turn, defBody s_need_turn, defScope s_need_turn, [], []⟩
def d_is_mark : He.DefD := ⟨("is_mark", none), "is_mark", "is_mark", defArgs s_is_mark, defBody s_is_mark, defScope s_is_mark, [], []⟩
def d_is_turn_of : He.DefD := ⟨("is_turn_of", none), "is_turn_of", "is_turn_of", defArgs s_is_turn_of, defBody s_is_turn_of, defScope s_is_turn_of, [], []⟩
def d_is_shot : He.DefD := ⟨("is_shot", none), "is_shot", "is_shot", defArgs s_is_shot, defBody s_is_shot, defScope s_is_shot, [], []⟩
def d_is_entry : He.DefD := ⟨("is_entry", none), "is_entry", "is_entry", defArgs s_is_entry, defBody s_is_entry, defScope s_is_entry, [], []⟩
def d_are_rising : He.DefD := ⟨("are_rising", none), "are_rising", "are_rising", defArgs s_are_rising, defBody s_are_rising, defScope s_are_rising, [], []⟩
def d_is_program : He.DefD := ⟨("is_program", none), "is_program", "is_program", defArgs s_is_program, defBody s_is_program, defScope s_is_program, [], []⟩
def d_need_shots : He.DefD := ⟨("need_shots", none), "need_shots", "need_shots", defArgs s_need_shots, defBody s_need_shots, defScope s_need_shots, [], []⟩
def d_need_programs : He.DefD := ⟨("need_programs", none), "need_programs", "need_programs", defArgs s_need_programs, defBody s_need_programs, defScope s_need_programs, [], []⟩
def d_need_lot : He.DefD := ⟨("need_lot", none), "need_lot", "need_lot", defArgs s_need_lot, defBody s_need_lot, defScope s_need_lot, [], []⟩
def d_entries_in : He.DefD := ⟨("entries_in", none), "entries_in", "entries_in", defArgs s_entries_in, defBody s_entries_in, defScope s_entries_in, [], []⟩
def d_marks_in : He.DefD := ⟨("marks_in", none), "marks_in", "marks_in", defArgs s_marks_in, defBody s_marks_in, defScope s_marks_in, [], []⟩
def d_turn_words : He.DefD := ⟨("turn_words", none), "turn_words", "turn_words", defArgs s_turn_words, defBody s_turn_words, defScope s_turn_words, [], []⟩
def d_mark_words : He.DefD := ⟨("mark_words", none), "mark_words", "mark_words", defArgs s_mark_words, defBody s_mark_words, defScope s_mark_words, [], []⟩
def d_turn_text : He.DefD := ⟨("turn_text", none), "turn_text", "turn_text", defArgs s_turn_text, defBody s_turn_text, defScope s_turn_text, [], []⟩
def d_lot_text : He.DefD := ⟨("lot_text", none), "lot_text", "lot_text", defArgs s_lot_text, defBody s_lot_text, defScope s_lot_text, [], []⟩
def d_need_sign : He.DefD := ⟨("need_sign", none), "need_sign", "need_sign", defArgs s_need_sign, defBody s_need_sign, defScope s_need_sign, [], []⟩
def d_need_word : He.DefD := ⟨("need_word", none), "need_word", "need_word", defArgs s_need_word, defBody s_need_word, defScope s_need_word, [], []⟩
def d_need_end : He.DefD := ⟨("need_end", none), "need_end", "need_end", defArgs s_need_end, defBody s_need_end, defScope s_need_end, [], []⟩
def d_run_end : He.DefD := ⟨("run_end", none), "run_end", "run_end", defArgs s_run_end, defBody s_run_end, defScope s_run_end, [], []⟩
def d_turn_at : He.DefD := ⟨("turn_at", none), "turn_at", "turn_at", defArgs s_turn_at, defBody s_turn_at, defScope s_turn_at, [], []⟩
def d_mark_at : He.DefD := ⟨("mark_at", none), "mark_at", "mark_at", defArgs s_mark_at, defBody s_mark_at, defScope s_mark_at, [], []⟩
def d_corners_told : He.DefD := ⟨("corners_told", none), "corners_told", "corners_told", defArgs s_corners_told, defBody s_corners_told, defScope s_corners_told, [], []⟩
def d_shot_told : He.DefD := ⟨("shot_told", none), "shot_told", "shot_told", defArgs s_shot_told, defBody s_shot_told, defScope s_shot_told, [], []⟩
def d_entry_told : He.DefD := ⟨("entry_told", none), "entry_told", "entry_told", defArgs s_entry_told, defBody s_entry_told, defScope s_entry_told, [], []⟩
def d_row_told : He.DefD := ⟨("row_told", none), "row_told", "row_told", defArgs s_row_told, defBody s_row_told, defScope s_row_told, [], []⟩
def d_read_lot : He.DefD := ⟨("read_lot", none), "read_lot", "read_lot", defArgs s_read_lot, defBody s_read_lot, defScope s_read_lot, [], []⟩
def d__law_mixed : He.DefD := ⟨("_law_mixed", none), "_law_mixed", "_law_mixed", defArgs s__law_mixed, defBody s__law_mixed, defScope s__law_mixed, [], []⟩
def d__law_begin : He.DefD := ⟨("_law_begin", none), "_law_begin", "_law_begin", defArgs s__law_begin, defBody s__law_begin, defScope s__law_begin, [], []⟩
def d__law_draw : He.DefD := ⟨("_law_draw", none), "_law_draw", "_law_draw", defArgs s__law_draw, defBody s__law_draw, defScope s__law_draw, [], []⟩
def d__law_of : He.DefD := ⟨("_law_of", none), "_law_of", "_law_of", defArgs s__law_of, defBody s__law_of, defScope s__law_of, [], []⟩
def d__law_turn : He.DefD := ⟨("_law_turn", none), "_law_turn", "_law_turn", defArgs s__law_turn, defBody s__law_turn, defScope s__law_turn, [], []⟩
def d__law_mark : He.DefD := ⟨("_law_mark", none), "_law_mark", "_law_mark", defArgs s__law_mark, defBody s__law_mark, defScope s__law_mark, [], []⟩
def d__law_program : He.DefD := ⟨("_law_program", none), "_law_program", "_law_program", defArgs s__law_program, defBody s__law_program, defScope s__law_program, [], []⟩
def d__law_lot : He.DefD := ⟨("_law_lot", none), "_law_lot", "_law_lot", defArgs s__law_lot, defBody s__law_lot, defScope s__law_lot, [], []⟩
def d__law_turn_text : He.DefD := ⟨("_law_turn_text", none), "_law_turn_text", "_law_turn_text", defArgs s__law_turn_text, defBody s__law_turn_text, defScope s__law_turn_text, [], []⟩
def d__law_mark_text : He.DefD := ⟨("_law_mark_text", none), "_law_mark_text", "_law_mark_text", defArgs s__law_mark_text, defBody s__law_mark_text, defScope s__law_mark_text, [], []⟩
def d__law_lot_text : He.DefD := ⟨("_law_lot_text", none), "_law_lot_text", "_law_lot_text", defArgs s__law_lot_text, defBody s__law_lot_text, defScope s__law_lot_text, [], []⟩
def d__law_turn_told : He.DefD := ⟨("_law_turn_told", none), "_law_turn_told", "_law_turn_told", defArgs s__law_turn_told, defBody s__law_turn_told, defScope s__law_turn_told, [], []⟩
def d__law_mark_told : He.DefD := ⟨("_law_mark_told", none), "_law_mark_told", "_law_mark_told", defArgs s__law_mark_told, defBody s__law_mark_told, defScope s__law_mark_told, [], []⟩
def d__law_word_told : He.DefD := ⟨("_law_word_told", none), "_law_word_told", "_law_word_told", defArgs s__law_word_told, defBody s__law_word_told, defScope s__law_word_told, [], []⟩
def d__law_pair_told : He.DefD := ⟨("_law_pair_told", none), "_law_pair_told", "_law_pair_told", defArgs s__law_pair_told, defBody s__law_pair_told, defScope s__law_pair_told, [], []⟩
def d__law_line_told : He.DefD := ⟨("_law_line_told", none), "_law_line_told", "_law_line_told", defArgs s__law_line_told, defBody s__law_line_told, defScope s__law_line_told, [], []⟩
def d__law_lot_told : He.DefD := ⟨("_law_lot_told", none), "_law_lot_told", "_law_lot_told", defArgs s__law_lot_told, defBody s__law_lot_told, defScope s__law_lot_told, [], []⟩
def d__law_said : He.DefD := ⟨("_law_said", none), "_law_said", "_law_said", defArgs s__law_said, defBody s__law_said, defScope s__law_said, [], []⟩
def d__law_right : He.DefD := ⟨("_law_right", none), "_law_right", "_law_right", defArgs s__law_right, defBody s__law_right, defScope s__law_right, [], []⟩
def d__law_bent : He.DefD := ⟨("_law_bent", none), "_law_bent", "_law_bent", defArgs s__law_bent, defBody s__law_bent, defScope s__law_bent, [], []⟩
def d__law_hand_right : He.DefD := ⟨("_law_hand_right", none), "_law_hand_right", "_law_hand_right", defArgs s__law_hand_right, defBody s__law_hand_right, defScope s__law_hand_right, [], []⟩
def d_law : He.DefD := ⟨("law", none), "law", "law", defArgs s_law, defBody s_law, defScope s_law, [], []⟩
def di_BadLot : He.DefD := ⟨("BadLot", some "__init__"), "__init__", "BadLot.__init__", defArgs i_BadLot, defBody i_BadLot, defScope i_BadLot, [], []⟩
def di_BadText : He.DefD := ⟨("BadText", some "__init__"), "__init__", "BadText.__init__", defArgs i_BadText, defBody i_BadText, defScope i_BadText, [], []⟩
def di_BadTurn : He.DefD := ⟨("BadTurn", some "__init__"), "__init__", "BadTurn.__init__", defArgs i_BadTurn, defBody i_BadTurn, defScope i_BadTurn, [], []⟩
def fn : List He.DefD := [d_is_corners, d_is_any_turn, d_need_turn, d_is_mark, d_is_turn_of, d_is_shot, d_is_entry, d_are_rising, d_is_program, d_need_shots, d_need_programs, d_need_lot, d_entries_in, d_marks_in, d_turn_words, d_mark_words, d_turn_text, d_lot_text, d_need_sign, d_need_word, d_need_end, d_run_end, d_turn_at, d_mark_at, d_corners_told, d_shot_told, d_entry_told, d_row_told, d_read_lot, d__law_mixed, d__law_begin, d__law_draw, d__law_of, d__law_turn, d__law_mark, d__law_program, d__law_lot, d__law_turn_text, d__law_mark_text, d__law_lot_text, d__law_turn_told, d__law_mark_told, d__law_word_told, d__law_pair_told, d__law_line_told, d__law_lot_told, d__law_said, d__law_right, d__law_bent, d__law_hand_right, d_law, di_BadLot, di_BadText, di_BadTurn]
end K5
/-! ### what the top has written -/
namespace K5
open PySem PySem.Spec PyProof.Rows L2
abbrev CZ (P : Program) (w : World) : CXT := L2.CX P w
/-- signs as a text -/
def S (l : List Nat) : Str := ⟨l.toArray⟩
theorem S_tl (z : Str) : S (TL.tl z) = z := TL.mk_tl z
theorem tl_S (l : List Nat) : TL.tl (S l) = l := rfl
theorem S_len (l : List Nat) : (S l).length = l.length := by
  rw [TL.len_tl]
  rfl
theorem S_inj {a b : List Nat} (h : S a = S b) : a = b := congrArg TL.tl h
/-- numbers as values -/
def vN (t : List Nat) : List V := t.map fun n : Nat => V.int (n : Int)
theorem vN_len (t : List Nat) : (vN t).length = t.length := List.length_map _
/-- no list here is long -/
abbrev BIG : Nat := 100000
theorem sz {n : Nat} (h : n ≤ BIG) : n ≤ sizeLine := Nat.le_trans h (by decide)
theorem szl {n : Nat} (h : n ≤ BIG) : n < sizeLine := Nat.lt_of_le_of_lt h (by decide)
theorem sz2 {n : Nat} (h : n ≤ 2 * BIG) : n ≤ sizeLine := Nat.le_trans h (by decide)
/-! heaps -/
theorem _root_.L2.Same.new {H : Hp} {p : Addr} {o : HO} (h : H p = none) : Same H (upd H p o) := fun b u e => by
  rw [upd_ne (ne_of_none e h)]
  exact e
theorem _root_.L2.Same.tup {K : PySem.W.Frag} {H H' : Hp} {a : Addr} {xs : List V} (e : Same H H') (h : SqT K H a xs) : SqT K H' a xs := by
  rcases h with (h | ⟨o, h⟩) | h
  · exact .inl (.inl (e _ _ h))
  · exact .inl (.inr ⟨o, e _ _ h⟩)
  · exact .inr h
/-- an object that the first heap does not have may change -/
theorem _root_.L2.Same.put {H H' : Hp} {p : Addr} {o : HO} (e : Same H H') (h : H p = none) : Same H (upd H' p o) := fun b u q => by
  rw [upd_ne (ne_of_none q h)]
  exact e b u q
mutual
theorem dp_same {K : PySem.W.Frag} {H H' : Hp} (e : Same H H') : ∀ (d : PyData) (v : V), Dp K H v d → Dp K H' v d
  | _, _, .non => .non
  | _, _, .bl b => .bl b
  | _, _, .int i => .int i
  | _, _, .str x => .str x
  | _, _, .lst h a => .lst (e.seq h) (dpAll_same e _ _ a)
  | _, _, .tup h a => .tup (e.tup h) (dpAll_same e _ _ a)
theorem dpAll_same {K : PySem.W.Frag} {H H' : Hp} (e : Same H H') : ∀ (ds : List PyData) (vs : List V), DpAll K H vs ds → DpAll K H' vs ds
  | _, _, .nil => .nil
  | _, _, .cons h a => .cons (dp_same e _ _ h) (dpAll_same e _ _ a)
end
/-! a def of the text, called -/
structure Gd (P : Program) (w : World) (K : PySem.W.Frag) (mg : Str → Option Value) (base : Heap) (k : Nat) (x : Str) (ps : List Str) (sp : Sp) : Prop where
  ex : ∃ fd, FnOk P w K mg base (CZ P w) k (He.ga K x) fd ps sp ∧ Binds K fd ps []
  m : mg x = some (.ref (He.ga K x))
  kp : PySem.W.keepIn K (.ref (He.ga K x)) = true
section
variable {X : Cx} {k : Nat} {ps : List Str} {sp : Sp} {E : XK} {x : Str} {p pos : Pos} {e : Expr} {es : List Expr} {t : TA}
theorem pe_g (G : Gd X.prog X.w X.K X.mg X.base k x ps sp) (hr : Room k X.A) (hg : Gl X x) (hx : Passes (CZ X.prog X.w) X E) (ha : PA X (e :: es) t)
    (hdb : (x == ("__debug__" : Str)) = false := by decide) (he : starEach (e :: es) X.env = (false, eval e X.env) :: starEach es X.env := by rfl)
    (hpl : (backTo pos (starEach es X.env)).any (·.1) = false := by rfl) : PE X (.Call (.Name x p) (e :: es) [] pos) (tCall sp [] E t) := by
  obtain ⟨fd, F, b⟩ := G.ex
  exact pe_call F hr hg G.m G.kp b .nil hx ha hdb he hpl
/-- what a callee lets out leaves this def, too -/
theorem passD {P : Program} {w : World} {K : PySem.W.Frag} {mg : Str → Option Value} {base : Heap} {N : List Str} {qual : Str} {scope : Scope} {f : Addr} {cd : Value} {A : Around} {outer : List Env} {s : Shared} {H : Hp} :
    Passes (CZ P w) (cxOf (CZ P w) P w K mg base N qual scope f cd A outer s H E) E :=
  passes_call (takes_of (E := E) rfl rfl rfl rfl) (fun _ _ _ _ h => h)
theorem passO {P : Program} {w : World} {K : PySem.W.Frag} {mg : Str → Option Value} {base : Heap} {N : List Str} {qual : Str} {scope : Scope} {f : Addr} {cd : Value} {A : Around} {outer : List Env} {s : Shared} {H : Hp} :
    PassesOwn (model P w) (cxOf (CZ P w) P w K mg base N qual scope f cd A outer s H E).A (cxOf (CZ P w) P w K mg base N qual scope f cd A outer s H E).env (cxOf (CZ P w) P w K mg base N qual scope f cd A outer s H E).xe :=
  PassesOwn.leaving
end
/-! ### the facts -/
def defN0 : List Str := ["is_corners", "is_any_turn", "need_turn", "is_mark", "is_turn_of", "is_shot", "is_entry", "are_rising", "is_program", "need_shots", "need_programs", "need_lot"]
def defN1 : List Str := ["entries_in", "marks_in", "turn_words", "mark_words", "turn_text", "lot_text", "need_sign", "need_word", "need_end", "run_end", "turn_at", "mark_at"]
def defN2 : List Str := ["corners_told", "shot_told", "entry_told", "row_told", "read_lot", "_law_mixed", "_law_begin", "_law_draw", "_law_of", "_law_turn", "_law_mark", "_law_program"]
def defN3 : List Str := ["_law_lot", "_law_turn_text", "_law_mark_text", "_law_lot_text", "_law_turn_told", "_law_mark_told", "_law_word_told", "_law_pair_told", "_law_line_told", "_law_lot_told", "_law_said", "_law_right"]
def defN4 : List Str := ["_law_bent", "_law_hand_right", "law"]
def defN : List Str := defN0 ++ defN1 ++ defN2 ++ defN3 ++ defN4
def clsN : List Str := ["BadLot", "BadText", "BadTurn", "BadNumber", "BadShot", "BadChain", "BadQuestion", "BadMark", "BadPaper", "BadSmall", "BadTable", "TooMany", "ShotError"]
def gloN : List Str := clsN ++ defN
def freeN : List Str := ["isinstance", "int", "bool", "tuple", "len", "all", "sorted", "list", "range", "str", "enumerate", "min", "repr"]
def intN : List (Str × Int) := [("LEAST_CORNERS", 2), ("MOST_CORNERS", 6), ("MOST_LETTERS", 8), ("MOST_SHOTS", 8), ("MOST_PROGRAMS", 12), ("MOST_MARKS", 9), ("MOST_FIGURES", 8)]
def strN : List (Str × List Nat) := [("LETTERS", LET), ("FIGURES", FIG), ("CORNERS", wCORN), ("SHOT", wSHOT), ("PROGRAM", wPROG), ("BLANK", wBLANK), ("NEWLINE", [10]), ("NO_MARK", [45])]
def fa : List He.Fa := gloN.map .glo ++ freeN.map .free ++ intN.map (fun p => .int p.1 p.2) ++ strN.map fun p => .str p.1 (S p.2)
end K5
/-! ### errors with an own __init__ under an own class -/
namespace K5
open PySem PySem.Spec PyProof.Rows L2
/-- the class object, its chain -/
def oexA (K : PySem.W.Frag) (C : Addr) : Bool := match K.lookup C with
  | some ⟨.type "type", _, .cls cd, sl⟩ => (match cd.mro, sl.toList with
    | .ref D :: bm, [_, _, _, _, some (.builtin n), _] => decide (D = C) && (decide (n = "ValueError.__new__") && (!cd.hasDel && (cd.hasDict && PySem.HandSPX.refsVE bm)))
    | _, _ => false)
  | _ => false
def oexB (K : PySem.W.Frag) (C : Addr) : Bool := oexA K C &&
  (decide (PySem.W.findIn K (.ref C) "__setattr__" = some (some (.builtin "object.__setattr__"))) && (decide (PySem.W.subIn K (.ref C) (.type "BaseException") = some true) &&
    (decide (PySem.W.typeIn K (.ref C) = some (.type "type")) && PySem.W.keepIn K (.ref C))))
theorem b2 {a b : Bool} (h : (a && b) = true) : a = true ∧ b = true := Bool.and_eq_true_iff.mp h
theorem oex_of {K : PySem.W.Frag} {C : Addr} (h : oexB K C = true) : OexC K C := by
  obtain ⟨h1, h⟩ := b2 h
  obtain ⟨h2, h⟩ := b2 h
  obtain ⟨h3, h⟩ := b2 h
  obtain ⟨h4, h5⟩ := b2 h
  refine ⟨?_, of_decide_eq_true h2, of_decide_eq_true h3, of_decide_eq_true h4, h5⟩
  unfold oexA at h1
  split at h1
  · rename_i dd cd sl lk
    split at h1
    · rename_i D bm k0 k1 k2 k3 n k5 e1 e2
      obtain ⟨g1, h1⟩ := b2 h1
      obtain ⟨g2, h1⟩ := b2 h1
      obtain ⟨g3, h1⟩ := b2 h1
      obtain ⟨g4, g5⟩ := b2 h1
      have d1 := of_decide_eq_true g1
      have d2 := of_decide_eq_true g2
      subst d1 d2
      obtain ⟨f1, f2, f3, f4, f5, f6, f7, f8, f9, f10, f11⟩ := cd
      obtain ⟨ls⟩ := sl
      dsimp only at e1 e2 g3 g4
      have g3' : f11 = false := by
        cases f11 with
        | false => rfl
        | true => cases g3
      subst e1 e2 g3' g4
      exact ⟨_, _, _, _, _, _, _, _, _, _, _, _, _, _, _, lk, g5⟩
    · cases h1
  · cases h1
/-- the class of errors above these -/
structure ShE (K : PySem.W.Frag) (C : Addr) : Prop where
  sp : PySem.W.specialIn K (.ref C) "__getattribute__" = some (some (.builtin "type.__getattribute__"))
  rd : PySem.W.readsIn K C (.type "type") = true
  fc : PySem.W.findCls K (.ref C) (.type "type") "__init__" = some (.val (.builtin "ValueError.__init__"))
def sheB (K : PySem.W.Frag) (C : Addr) : Bool := decide (PySem.W.specialIn K (.ref C) "__getattribute__" = some (some (.builtin "type.__getattribute__"))) && (PySem.W.readsIn K C (.type "type") &&
  (match PySem.W.findCls K (.ref C) (.type "type") "__init__" with
  | some (.val (.builtin n)) => decide (n = "ValueError.__init__")
  | _ => false))
theorem she_of {K : PySem.W.Frag} {C : Addr} (h : sheB K C = true) : ShE K C := by
  obtain ⟨h1, h⟩ := b2 h
  obtain ⟨h2, h3⟩ := b2 h
  refine ⟨of_decide_eq_true h1, h2, ?_⟩
  split at h3
  · rename_i n e
    rw [e, of_decide_eq_true h3]
  · cases h3
/-- a class with its __init__ and its fields -/
structure InC (K : PySem.W.Frag) (c : Str) (flds : List Str) : Prop where
  o : OexC K (He.ga K c)
  i : PySem.W.findIn K (.ref (He.ga K c)) "__init__" = some (some (.ref (He.ma K (He.ga K c) "__init__")))
  t : PySem.W.typeIn K (.ref (He.ma K (He.ga K c) "__init__")) = some (.type "function")
  no : ∀ f ∈ flds, PySem.W.findIn K (.ref (He.ga K c)) f = some none
def inB (K : PySem.W.Frag) (c : Str) (flds : List Str) : Bool := oexB K (He.ga K c) && (decide (PySem.W.findIn K (.ref (He.ga K c)) "__init__" = some (some (.ref (He.ma K (He.ga K c) "__init__")))) &&
  (decide (PySem.W.typeIn K (.ref (He.ma K (He.ga K c) "__init__")) = some (.type "function")) && flds.all fun f => decide (PySem.W.findIn K (.ref (He.ga K c)) f = some none)))
theorem in_of {K : PySem.W.Frag} {c : Str} {flds : List Str} (h : inB K c flds = true) : InC K c flds := by
  obtain ⟨h1, h⟩ := b2 h
  obtain ⟨h2, h⟩ := b2 h
  obtain ⟨h3, h4⟩ := b2 h
  exact ⟨oex_of h1, of_decide_eq_true h2, of_decide_eq_true h3, fun f hf => of_decide_eq_true (List.all_eq_true.mp h4 f hf)⟩
/-! C0.__init__(self, text), C0 the own class above -/
section
variable {X : Cx} {e : Expr} {es : List Expr} {ta : TA} {x : Str} {C0 : Addr} {p1 p2 pos : Pos}
theorem pe_shinit {pl : Sem Bool} (hg : Gl X x) (hm : X.mg x = some (.ref C0)) (T : ShE X.K C0) (ha : PA X (e :: es) ta) (hdb : (x == ("__debug__" : Str)) = false := by decide)
    (hc : eval (.Call (.Attribute (.Name x p1) "__init__" p2) (e :: es) [] pos) X.env = (eval (.Name x p1) X.env >>= fun ov => standAt p2.atName >>= fun _ => holding [ov] (getMethod ov "__init__" pl) >>= fun y =>
      callWith pos y.1 y.2 (backTo pos (starEach (e :: es) X.env)) (backToKw pos (keywordEach [] X.env))) := by rfl)
    (hst : starEach (e :: es) X.env = (false, eval e X.env) :: starEach es X.env := by rfl) (hpl : (backTo pos (starEach es X.env)).any (·.1) = false := by rfl) :
    PE X (.Call (.Attribute (.Name x p1) "__init__" p2) (e :: es) [] pos) (tVeI X.K ta) := by
  constructor
  intro pins s σ H Q I h
  refine PySem.W.methodCall_KW (ld_glob I hg hm ?_ hdb) hc
  refine PySem.W.method_cls I.kIn T.sp (PySem.W.cls_value I.kIn T.rd T.fc (by decide +kernel) ?_)
  have J := I.tok (s.toks + 1)
  refine PyProof.Rows.callWith_method1 (thn (ha.run pos pins _ σ H _ J h) fun us s1 z => ?_) hst hpl
  obtain ⟨vs, H1, I1, rv, a, C, ws, ev, hl, O, ea, q⟩ := z
  subst ev
  cases rv with
  | @cons _ u0 _ ur ra rw' =>
    obtain rfl : u0 = Value.ref a := ra
    refine oinit_ok O I1 ea ?_ fun s2 I2 => ⟨.non, H1, I2, rfl, q⟩
    rw [← Paired.length rw']
    exact Nat.le_trans hl (by decide)
end
/-! ### the promise of such an __init__, of two fields, of one -/
def spI2 (C : Addr) (f g : Str) : Sp := fun vs H Q _ => ∃ (a : Addr) (x y : V), vs = [.ref a, x, y] ∧ H a = some (exo a C none) ∧
  ∀ d H', H d = none → d ≠ a → H' a = some (exo a C (some d)) → H' d = some (exd d [(g, y), (f, x)]) → (∀ b o, b ≠ a → H b = some o → H' b = some o) → Q .non H'
def spI1 (C : Addr) (f : Str) : Sp := fun vs H Q _ => ∃ (a : Addr) (x : V), vs = [.ref a, x] ∧ H a = some (exo a C none) ∧
  ∀ d H', H d = none → d ≠ a → H' a = some (exo a C (some d)) → H' d = some (exd d [(f, x)]) → (∀ b o, b ≠ a → H b = some o → H' b = some o) → Q .non H'
theorem exo_exd {e d C : Addr} {o : Option Addr} {fs : List (Str × V)} {H : Hp} (h1 : H e = some (exo e C o)) (h2 : H d = none) : e ≠ d := ne_of_none h1 h2
section
variable {P : Program} {w : World} {K : PySem.W.Frag} {mg : Str → Option Value} {base : Heap} {fd : FuncData}
theorem ok_i2 {c f g : Str} {st : Stmt} {qual : Str} {fI : Addr} (F : FunD K "__init__" qual (defArgs st) (defBody st) (defScope st) [] [] fI fd) (sc : FnScope ["self", f, g] ["self", f, g] (defScope st)) {z : Str}
    (T : InC K c [f, g]) (hm : mg "ShotError" = some (.ref (He.ga K "ShotError"))) (E : ShE K (He.ga K "ShotError"))
    (hb : ∀ (cdv : Value) (A : Around) (outer : List Env) (s : Shared) (H : Hp) (E : XK), PSs (cxOf (CZ P w) P w K mg base ["self", f, g] qual (defScope st) fI cdv A outer s H E) (defBody st)
      (tSeq (tDrop (tVeI K (tCons (tVar 0) (tCons (tC (.str z)) tNil)))) (tSeq (tOst K f (tVar 0) (tVar 1)) (tOst K g (tVar 0) (tVar 2))))) :
    FnOk P w K mg base (CZ P w) 1 fI fd ["self", f, g] (spI2 (He.ga K c) f g) := by
  refine F.ok sc (fun vs H Q E h => ?_) (fun cdv A outer s H vs Q E' hr h => ⟨_, hb cdv A outer s H E', ?_⟩)
  · obtain ⟨a, x, y, rfl, _⟩ := h
    rfl
  · obtain ⟨a, x, y, rfl, ea, q⟩ := h
    refine ⟨_, rfl, a, He.ga K c, _, rfl, by simp, T.o, ea, ?_⟩
    refine ⟨_, rfl, _, rfl, a, He.ga K c, rfl, T.o, T.no f (by simp), .inl ⟨ea, fun d hd hda => ?_⟩⟩
    have e1 : upd (upd H d (exd d [(f, x)])) a (exo a (He.ga K c) (some d)) a = some (exo a (He.ga K c) (some d)) := upd_same
    have e2 : upd (upd H d (exd d [(f, x)])) a (exo a (He.ga K c) (some d)) d = some (exd d [(f, x)]) := by rw [upd_ne hda, upd_same]
    refine ⟨_, rfl, _, rfl, a, He.ga K c, rfl, T.o, T.no g (by simp), .inr ⟨d, _, e1, e2, by simp, ?_⟩⟩
    refine q d _ hd hda ?_ upd_same fun b o hb e => ?_
    · rw [upd_ne (Ne.symm hda)]
      exact e1
    · have hbd : b ≠ d := ne_of_none e hd
      rw [upd_ne hbd, upd_ne hb, upd_ne hbd]
      exact e
theorem ok_i1 {c f : Str} {st : Stmt} {qual : Str} {fI : Addr} (F : FunD K "__init__" qual (defArgs st) (defBody st) (defScope st) [] [] fI fd) (sc : FnScope ["self", f] ["self", f] (defScope st)) {z : Str}
    (T : InC K c [f])
    (hb : ∀ (cdv : Value) (A : Around) (outer : List Env) (s : Shared) (H : Hp) (E : XK), PSs (cxOf (CZ P w) P w K mg base ["self", f] qual (defScope st) fI cdv A outer s H E) (defBody st)
      (tSeq (tDrop (tVeI K (tCons (tVar 0) (tCons (tC (.str z)) tNil)))) (tOst K f (tVar 0) (tVar 1)))) :
    FnOk P w K mg base (CZ P w) 1 fI fd ["self", f] (spI1 (He.ga K c) f) := by
  refine F.ok sc (fun vs H Q E h => ?_) (fun cdv A outer s H vs Q E' hr h => ⟨_, hb cdv A outer s H E', ?_⟩)
  · obtain ⟨a, x, rfl, _⟩ := h
    rfl
  · obtain ⟨a, x, rfl, ea, q⟩ := h
    refine ⟨_, rfl, a, He.ga K c, _, rfl, by simp, T.o, ea, ?_⟩
    refine ⟨_, rfl, _, rfl, a, He.ga K c, rfl, T.o, T.no f (by simp), .inl ⟨ea, fun d hd hda => ?_⟩⟩
    refine q d _ hd hda upd_same ?_ fun b o hb e => ?_
    · rw [upd_ne hda, upd_same]
    · rw [upd_ne hb, upd_ne (ne_of_none e hd)]
      exact e
end
/-! ### what an error leaves -/
/-- wished of an error of the class c with these fields: for each heap behind it -/
def Err (K : PySem.W.Frag) (H : Hp) (E : XK) (c : Str) (fs : List (Str × V)) : Prop := ∀ H' d, Same H H' → H d = none → H' d = some (.xd fs) → E (.ref (He.ga K c)) (some d) H'
theorem Err.up {K : PySem.W.Frag} {H H1 : Hp} {E : XK} {c : Str} {fs : List (Str × V)} (h : Err K H E c fs) (s : Same H H1) : Err K H1 E c fs := fun H' d s' n e => h H' d (s.trans s') (s.free n) e
/-- raise c(x, y) -/
def tR2 (c f g : Str) (K : PySem.W.Frag) (ta : TA) : L2.St → Hp → XK → Prop := tMkO (He.ga K c) (spI2 (He.ga K c) f g) [] ta
theorem made2 {K : PySem.W.Frag} {c f g : Str} {x y : V} {H : Hp} {Q : XK} (h : Err K H Q c [(g, y), (f, x)]) :
    [x, y].length ≤ 1000 ∧ ∀ a, H a = none → spI2 (He.ga K c) f g (.ref a :: ([x, y] ++ [])) (upd H a (exo a (He.ga K c) none))
      (fun v H2 => v = .non ∧ ∃ (d : Addr) (fs : List (Str × V)), H2 a = some (exo a (He.ga K c) (some d)) ∧ H2 d = some (exd d fs) ∧ H d = none ∧ Q (.ref (He.ga K c)) (some d) (upd (del H2 a) d (.xd fs))) (fun _ _ _ => False) := by
  refine ⟨by simp, fun a na => ⟨a, x, y, rfl, upd_same, fun d H' hd hda e1 e2 k => ⟨rfl, d, _, e1, e2, ?_, ?_⟩⟩⟩
  · rw [upd_ne hda] at hd
    exact hd
  · have nd : H d = none := by
      rw [upd_ne hda] at hd
      exact hd
    refine h _ d (fun b o e => ?_) nd upd_same
    have hba : b ≠ a := ne_of_none e na
    rw [upd_ne (ne_of_none e nd), del_ne hba]
    exact k b o hba (by rw [upd_ne hba]; exact e)
theorem made1 {K : PySem.W.Frag} {c f : Str} {x : V} {H : Hp} {Q : XK} (h : Err K H Q c [(f, x)]) :
    [x].length ≤ 1000 ∧ ∀ a, H a = none → spI1 (He.ga K c) f (.ref a :: ([x] ++ [])) (upd H a (exo a (He.ga K c) none))
      (fun v H2 => v = .non ∧ ∃ (d : Addr) (fs : List (Str × V)), H2 a = some (exo a (He.ga K c) (some d)) ∧ H2 d = some (exd d fs) ∧ H d = none ∧ Q (.ref (He.ga K c)) (some d) (upd (del H2 a) d (.xd fs))) (fun _ _ _ => False) := by
  refine ⟨by simp, fun a na => ⟨a, x, rfl, upd_same, fun d H' hd hda e1 e2 k => ⟨rfl, d, _, e1, e2, ?_, ?_⟩⟩⟩
  · rw [upd_ne hda] at hd
    exact hd
  · have nd : H d = none := by
      rw [upd_ne hda] at hd
      exact hd
    refine h _ d (fun b o e => ?_) nd upd_same
    have hba : b ≠ a := ne_of_none e na
    rw [upd_ne (ne_of_none e nd), del_ne hba]
    exact k b o hba (by rw [upd_ne hba]; exact e)
/-- a class of errors that can be raised -/
structure Rs (P : Program) (w : World) (K : PySem.W.Frag) (mg : Str → Option Value) (base : Heap) (c : Str) (ps : List Str) (sp : Sp) : Prop where
  o : OexC K (He.ga K c)
  i : PySem.W.findIn K (.ref (He.ga K c)) "__init__" = some (some (.ref (He.ma K (He.ga K c) "__init__")))
  t : PySem.W.typeIn K (.ref (He.ma K (He.ga K c) "__init__")) = some (.type "function")
  m : mg c = some (.ref (He.ga K c))
  ex : ∃ fd, FnOk P w K mg base (CZ P w) 1 (He.ma K (He.ga K c) "__init__") fd ps sp ∧ Binds K fd ps []
theorem ps_rs {X : Cx} {c : Str} {ps : List Str} {sp : Sp} {W : WX} {p pos pos2 : Pos} {e : Expr} {es : List Expr} {ta : TA} (T : Rs X.prog X.w X.K X.mg X.base c ps sp) (hr : Room 2 X.A) (hc : X.calm = true) (tk : Takes X W) (hg : Gl X c) (ha : PA X (e :: es) ta)
    (hdb : (c == ("__debug__" : Str)) = false := by decide) (he : starEach (e :: es) X.env = (false, eval e X.env) :: starEach es X.env := by rfl) (hpl : (backTo pos (starEach es X.env)).any (·.1) = false := by rfl) :
    PS X (.Raise (some (.Call (.Name c p) (e :: es) [] pos)) none pos2) (fun _ σ H => tMkO (He.ga X.K c) sp [] ta σ H fun cls d H' => W cls d σ H') := by
  obtain ⟨fd, F, b⟩ := T.ex
  exact ps_raise hc tk (pmk_oex T.o T.i T.t F hr b .nil passL hg T.m ha hdb he hpl)
end K5
/-! ### what is known of the written part -/
namespace K5
open PySem PySem.Spec PyProof.Rows L2
structure Txt (P : Program) (w : World) (K : PySem.W.Frag) (mg : Str → Option Value) (base : Heap) : Prop where
  glo : ∀ x, x ∈ gloN → mg x = some (.ref (He.ga K x))
  free : ∀ x, x ∈ freeN → mg x = none
  int : ∀ p, p ∈ intN → ∃ t, mg p.1 = some (.int p.2 t)
  str : ∀ p, p ∈ strN → ∃ t, mg p.1 = some (.str (S p.2) t)
  defs : ∀ d ∈ fn, ∃ fd, FunD K d.name d.qual d.params d.body d.scope [] [] (He.fAd K d.at_) fd
  she : ShE K (He.ga K "ShotError")
  inT : InC K "BadText" ["line", "place"]
  inL : InC K "BadLot" ["part", "number"]
  inN : InC K "BadTurn" ["given"]
section
variable {P : Program} {w : World} {K : PySem.W.Frag} {mg : Str → Option Value} {base : Heap}
theorem rs_text (T : Txt P w K mg base) : Rs P w K mg base "BadText" ["self", "line", "place"] (spI2 (He.ga K "BadText") "line" "place") := by
  obtain ⟨fd, F⟩ := T.defs di_BadText (by simp [fn])
  have hm := T.glo "ShotError" (by decide +kernel)
  refine ⟨T.inT.o, T.inT.i, T.inT.t, T.glo "BadText" (by decide +kernel), fd, ?_, F.bindsN fun _ _ _ _ _ _ us hl => match us, hl with | [_, _, _], _ => rfl⟩
  exact ok_i2 (st := i_BadText) F sci_BadText T.inT hm T.she fun cdv A outer s H E =>
    pss_cons (ps_expr (pe_shinit rfl hm T.she (pa_cons (pv 0) (pa_cons pe_str pa_nil)))) (pss_cons (ps_ost (pv 0) (pv 1)) (pss_one (ps_ost (pv 0) (pv 2))))
theorem rs_lot (T : Txt P w K mg base) : Rs P w K mg base "BadLot" ["self", "part", "number"] (spI2 (He.ga K "BadLot") "part" "number") := by
  obtain ⟨fd, F⟩ := T.defs di_BadLot (by simp [fn])
  have hm := T.glo "ShotError" (by decide +kernel)
  refine ⟨T.inL.o, T.inL.i, T.inL.t, T.glo "BadLot" (by decide +kernel), fd, ?_, F.bindsN fun _ _ _ _ _ _ us hl => match us, hl with | [_, _, _], _ => rfl⟩
  exact ok_i2 (st := i_BadLot) F sci_BadLot T.inL hm T.she fun cdv A outer s H E =>
    pss_cons (ps_expr (pe_shinit rfl hm T.she (pa_cons (pv 0) (pa_cons pe_str pa_nil)))) (pss_cons (ps_ost (pv 0) (pv 1)) (pss_one (ps_ost (pv 0) (pv 2))))
theorem rs_turn (T : Txt P w K mg base) : Rs P w K mg base "BadTurn" ["self", "given"] (spI1 (He.ga K "BadTurn") "given") := by
  obtain ⟨fd, F⟩ := T.defs di_BadTurn (by simp [fn])
  have hm := T.glo "ShotError" (by decide +kernel)
  refine ⟨T.inN.o, T.inN.i, T.inN.t, T.glo "BadTurn" (by decide +kernel), fd, ?_, F.bindsN fun _ _ _ _ _ _ us hl => match us, hl with | [_, _], _ => rfl⟩
  exact ok_i1 (st := i_BadTurn) F sci_BadTurn T.inN fun cdv A outer s H E =>
    pss_cons (ps_expr (pe_shinit rfl hm T.she (pa_cons (pv 0) (pa_cons pe_str pa_nil)))) (pss_one (ps_ost (pv 0) (pv 1)))
end
end K5
/-! ### enumerate over a tuple, over a text -/
namespace K5
open PySem PySem.Spec PyProof.Rows L2
section
variable {X : Cx} {pins : List (Addr × Obj)} {σ : L2.St} {H : Hp} {s : Shared} {e it : Addr} {E : Value → Shared → Prop}
/-- one turn of enumerate over anything that is drawn -/
theorem enum_go {fp' : List Addr} {n i : Nat} {Pq : Nat → Value → Prop} {Sa Sb : Nat → Heap → Prop} {old : Value} {elts : List Expr} {kk : Nat} {tpos : Pos} {Src : V → Prop} {tn : Nat → Heap → Prop} {Y : V → Hp → Prop}
    (D : Draws X.prog X.w X.A.in1 it fp' n Pq Sa) (I : Inv X pins σ H s) (he : IsEnum s.heap e it ((i : Nat) : Int) old) (hst : Sa i s.heap) (hlt : i < n) (hne : e ≠ it) (hef : e ∉ fp') (hf : ∀ b ∈ [e, it], FpOk X pins H b) (hil : it < s.heap.objs.size)
    (pr : ∀ j h, Sa j h → Sb j h) (kp : ∀ j (h h' : Heap), Sb j h → (∀ o, h.get? it = some o → h'.get? it = some o) → Sb j h') (rel : ∀ x, Pq i x → ∃ v, RelV v x ∧ Src v)
    (ht : ∀ h, (∃ o, IsEnum h e it ((i + 1 : Nat) : Int) o) → Sb (i + 1) h → tn (i + 1) h) (hy : ∀ T v, H T = none → Src v → Y (.ref T) (upd H T (.tup [.int (i : Nat), v]))) :
    wpAny (model X.prog X.w) X.A (pyNext (.ref e)) (fun r s1 => ∃ u, r = some u ∧
      wpAny (model X.prog X.w) X.A (letOwnedTupleGo (.Tuple elts kk tpos) (.ref e) u) (fun _ s2 => ∃ x H', Inv X pins σ H' s2 ∧ RelV x u ∧ Y x H' ∧ tn (i + 1) s2.heap ∧ ∀ b ∈ [e, it], H' b = none) E s1) E s := by
  have hel : e < s.heap.objs.size := Heap.lt_size he
  refine wpAny_pyNext_enum_itemD D he hst hlt hne hef fun x h1 tk px out st1 tup size1 keep1 => ⟨_, rfl, ?_⟩
  obtain ⟨v, rv, sv⟩ := rel x px
  refine wpAny_letOwnedTupleGo_enum (s := { s with heap := h1, toks := tk + 1 }) out fun h2 en2 but2 => ?_
  have tup2 : h2.get? s.heap.objs.size = some { cls := .type "tuple", data := .seq #[.int i tk, x] } := (but2.2 _ (Nat.ne_of_gt hel)).trans tup
  have fresh := I.hok.fresh (Nat.le_refl s.heap.objs.size)
  have obj2 : ObjOk X.prog X.w (upd H s.heap.objs.size (.tup [.int (i : Nat), v])) h2 s.heap.objs.size (.tup [.int (i : Nat), v]) :=
    ⟨show 2 ≤ sizeLine by decide, [.int i tk, x], .cons ⟨tk, rfl⟩ (.cons rv .nil), _, tup2, rfl, _, rfl⟩
  have J : Inv X pins σ (upd H s.heap.objs.size (.tup [.int (i : Nat), v])) { s with heap := h2, toks := tk + 1 } := by
    refine I.turnedNew (ch := [e, it]) (fun b ob nb q => ?_) hf (Nat.le_refl _) obj2
    have n1 : b ≠ e := fun z => nb (by rw [z]; exact List.mem_cons_self)
    have n2 : b ≠ it := fun z => nb (by rw [z]; exact List.mem_cons_of_mem _ List.mem_cons_self)
    exact (but2.2 b n1).trans (keep1 b ob n1 n2 q)
  refine ⟨.ref s.heap.objs.size, _, J, rfl, hy _ v fresh sv, ht h2 ⟨x, ?_⟩ (kp _ h1 h2 (pr _ _ st1) fun o q => (but2.2 it (Ne.symm hne)).trans q), fun b hb => ?_⟩
  · have z : ((i + 1 : Nat) : Int) = (i : Int) + 1 := by omega
    rw [z]
    exact en2
  · have lt : b < s.heap.objs.size := by
      rcases List.mem_cons.mp hb with z | z
      · rw [z]; exact hel
      · rw [List.mem_singleton.mp z]; exact hil
    rw [upd_ne (Nat.ne_of_lt lt)]
    exact (hf b hb).1
theorem enum_done {fp' : List Addr} {n : Nat} {Pq : Nat → Value → Prop} {Sa : Nat → Heap → Prop} {i : Int} {old : Value} (D : Draws X.prog X.w X.A.in1 it fp' n Pq Sa) (I : Inv X pins σ H s) (he : IsEnum s.heap e it i old) (hst : Sa n s.heap) (hf : FpOk X pins H it) :
    wpAny (model X.prog X.w) X.A (pyNext (.ref e)) (fun r s1 => r = none ∧ Inv X pins σ H s1) E s := by
  obtain ⟨f0, f1, f2, f3, f4, f5⟩ := hf
  exact wpAny_pyNext_enum_endD D he hst fun h1 z => ⟨rfl, I.turned (t' := s.toks) (fun b o hb q => z b o hb q) f0 f1 f3 f4 f5⟩
end
/-! over a tuple -/
def IteT (K : PySem.W.Frag) (a : Addr) : It where
  go i H := ∃ (xs : List V) (x : V), SqT K H a xs ∧ xs[i]? = some x
  yld i H v H' := ∃ T x, v = .ref T ∧ H T = none ∧ H' = upd H T (.tup [.int (i : Nat), x]) ∧ ∀ xs, SqT K H a xs → xs[i]? = some x
  stop i H := ∃ xs : List V, SqT K H a xs ∧ xs.length = i
theorem cls_ne {h : Heap} {a b : Addr} {o o' : Obj} {c c' : String} (h1 : h.get? a = some o) (h2 : h.get? b = some o') (e1 : o.cls = .type c) (e2 : o'.cls = .type c') (n : c ≠ c') : a ≠ b := fun z => by
  rw [z, h2] at h1
  cases h1
  rw [e2] at e1
  exact n (Value.type.inj e1).symm
theorem turn_enumT {P : Program} {w : World} {K : PySem.W.Frag} {elts : List Expr} {kk : Nat} {tpos : Pos} (a e it : Addr) :
    Turn P w K (.Tuple elts kk tpos) (IteT K a) [e, it] e (fun i h => (∃ old, IsEnum h e it ((i : Nat) : Int) old) ∧ h.IsTupleIter it a i ∧ e ≠ it) where
  mem := List.mem_cons_self
  obj := fun i h st b hb => by
    obtain ⟨⟨old, he⟩, ⟨o, ho, -, hd⟩, -⟩ := st
    rcases List.mem_cons.mp hb with z | z
    · refine ⟨_, (by rw [z]; exact he), fun v q => ?_⟩
      cases q
    · refine ⟨o, by rw [List.mem_singleton.mp z]; exact ho, fun v q => ?_⟩
      rw [hd] at q
      cases q
  keep := fun i h h' st k => by
    obtain ⟨⟨old, he⟩, hi, hne⟩ := st
    exact ⟨⟨old, k e List.mem_cons_self _ he⟩, hi.at fun o q => k it (by simp) o q, hne⟩
  item := fun X hP hw hK hc i pins s σ H E I hf st hg => by
    subst hP hw hK
    obtain ⟨⟨old, he⟩, hit, hne⟩ := st
    obtain ⟨xs, x, hq, hx⟩ := hg
    obtain ⟨its, rv, tp, -⟩ := I.tuple hq
    obtain ⟨oi, oi1, oi2, -⟩ := id hit
    obtain ⟨ot, ot1, ot2, -⟩ := id tp
    have n1 : a ≠ it := cls_ne ot1 oi1 ot2 oi2 (by decide)
    have n2 : e ≠ a := cls_ne (show s.heap.get? e = some _ from he) ot1 rfl ot2 (by decide)
    have hl : i < its.toArray.size := by
      have z := rv.length
      have z2 : i < xs.length := (List.getElem?_eq_some_iff.mp hx).1
      rw [List.size_toArray]
      omega
    have D := Draws.tuple (prog := X.prog) (w := X.w) (A := X.A.in1) (I.ok.hd hc) it a n1 its.toArray
    refine enum_go (Src := fun v => xs[i]? = some v) (Sb := fun j h => h.IsTupleIter it a j) (tn := fun j h => (∃ old, IsEnum h e it ((j : Nat) : Int) old) ∧ h.IsTupleIter it a j ∧ e ≠ it) (Y := fun v H' => (IteT X.K a).yld i H v H') D I he ⟨hit, tp⟩ hl hne (fun m => ?_) hf (Heap.lt_size oi1) (fun _ _ z => z.1) (fun _ _ _ z k => Heap.IsTupleIter.at z k) (fun y py => ?_)
      (fun h z1 z2 => ⟨z1, z2, hne⟩) (fun T v nT sv => ⟨T, v, rfl, nT, rfl, fun ys hy => by rw [I.tuple_inj hy hq]; exact sv⟩)
    · rcases List.mem_cons.mp m with z | z
      · exact hne z
      · exact n2 (List.mem_singleton.mp z)
    · obtain ⟨u, hu, ru⟩ := rv.get hx
      have e1 : its[i]? = some y := by simpa using py
      rw [hu] at e1
      cases e1
      exact ⟨x, ru, hx⟩
  done := fun X hP hw hK hc i pins s σ H E I hf st hg => by
    subst hP hw hK
    obtain ⟨⟨old, he⟩, hit, hne⟩ := st
    obtain ⟨xs, hq, hx⟩ := hg
    obtain ⟨its, rv, tp, -⟩ := I.tuple hq
    obtain ⟨oi, oi1, oi2, -⟩ := id hit
    obtain ⟨ot, ot1, ot2, -⟩ := id tp
    have n1 : a ≠ it := cls_ne ot1 oi1 ot2 oi2 (by decide)
    have ln := rv.length
    have D := Draws.tuple (prog := X.prog) (w := X.w) (A := X.A.in1) (I.ok.hd hc) it a n1 its.toArray
    refine enum_done D I he ?_ (hf it (by simp))
    have z : its.toArray.size = i := by
      rw [List.size_toArray]
      omega
    rw [z]
    exact ⟨hit, tp⟩
  self := fun A i s Q E st h => by
    obtain ⟨⟨_, he⟩, _⟩ := st
    exact wpAny_pyIter_enum he h
theorem walk_enumT {K : PySem.W.Frag} {a : Addr} {xs : List V} : Walk (IteT K a) xs.length (fun H => SqT K H a xs) (YPair (fun i => some (.int (i : Nat))) (fun i => xs[i]?)) where
  goes := fun i H hi q => ⟨xs, xs[i], q, List.getElem?_eq_getElem hi⟩
  stops := fun H q => ⟨xs, q, rfl⟩
  yields := fun i H v H' hi q y => by
    obtain ⟨T, x, e1, e2, e3, e4⟩ := y
    exact ⟨T, .int (i : Nat), x, e1, e2, e3, rfl, e4 xs q⟩
/-! over a text -/
def IteS (z : Str) : It where
  go i _ := i < z.cps.size
  yld i H v H' := ∃ T c, v = .ref T ∧ H T = none ∧ H' = upd H T (.tup [.int (i : Nat), .str ⟨#[c]⟩]) ∧ z.cps[i]? = some c
  stop i _ := i = z.cps.size
theorem turn_enumS {P : Program} {w : World} {K : PySem.W.Frag} {elts : List Expr} {kk : Nat} {tpos : Pos} (z : Str) (t : Tok) (e it : Addr) :
    Turn P w K (.Tuple elts kk tpos) (IteS z) [e, it] e (fun i h => (∃ old, IsEnum h e it ((i : Nat) : Int) old) ∧ h.IsStrIter it (strIterType z) z t i ∧ e ≠ it) where
  mem := List.mem_cons_self
  obj := fun i h st b hb => by
    obtain ⟨⟨old, he⟩, ⟨o, ho, -, hd⟩, -⟩ := st
    rcases List.mem_cons.mp hb with q | q
    · refine ⟨_, (by rw [q]; exact he), fun v q => ?_⟩
      cases q
    · refine ⟨o, by rw [List.mem_singleton.mp q]; exact ho, fun v q => ?_⟩
      rw [hd] at q
      cases q
  keep := fun i h h' st k => by
    obtain ⟨⟨old, he⟩, ⟨o, ho, r⟩, hne⟩ := st
    exact ⟨⟨old, k e List.mem_cons_self _ he⟩, ⟨o, k it (by simp) o ho, r⟩, hne⟩
  item := fun X hP hw hK hc i pins s σ H E I hf st hg => by
    subst hP hw hK
    obtain ⟨⟨old, he⟩, hit, hne⟩ := st
    obtain ⟨oi, oi1, -⟩ := id hit
    have D := Draws.text (prog := X.prog) (w := X.w) (A := X.A.in1) (I.ok.hd hc) it z t
    refine enum_go (Src := fun v => ∃ c, z.cps[i]? = some c ∧ v = .str ⟨#[c]⟩) (Sb := fun j h => h.IsStrIter it (strIterType z) z t j) (tn := fun j h => (∃ old, IsEnum h e it ((j : Nat) : Int) old) ∧ h.IsStrIter it (strIterType z) z t j ∧ e ≠ it) (Y := fun v H' => (IteS z).yld i H v H') D I he hit hg hne (fun m => hne (List.mem_singleton.mp m)) hf (Heap.lt_size oi1) (fun _ _ q => q)
      (fun _ _ _ q k => let ⟨o, ho, r⟩ := q; ⟨o, k o ho, r⟩) (fun y py => ?_) (fun h z1 z2 => ⟨z1, z2, hne⟩) (fun T v nT sv => ?_)
    · obtain ⟨c, u, hcx, rfl⟩ := py
      exact ⟨.str ⟨#[c]⟩, ⟨u, rfl⟩, c, hcx, rfl⟩
    · obtain ⟨c, hcx, rfl⟩ := sv
      exact ⟨T, c, rfl, nT, rfl, hcx⟩
  done := fun X hP hw hK hc i pins s σ H E I hf st hg => by
    subst hP hw hK
    obtain ⟨⟨old, he⟩, hit, hne⟩ := st
    have D := Draws.text (prog := X.prog) (w := X.w) (A := X.A.in1) (I.ok.hd hc) it z t
    refine enum_done D I he ?_ (hf it (by simp))
    have q : i = z.cps.size := hg
    rw [← q]
    exact hit
  self := fun A i s Q E st h => by
    obtain ⟨⟨_, he⟩, _⟩ := st
    exact wpAny_pyIter_enum he h
theorem walk_enumS {z : Str} : Walk (IteS z) z.cps.size (fun _ => True) (YPair (fun i => some (.int (i : Nat))) (fun i => z.cps[i]?.map fun c => .str ⟨#[c]⟩)) where
  goes := fun i H hi _ => hi
  stops := fun H _ => rfl
  yields := fun i H v H' hi _ y => by
    obtain ⟨T, c, e1, e2, e3, e4⟩ := y
    exact ⟨T, .int (i : Nat), .str ⟨#[c]⟩, e1, e2, e3, rfl, by show z.cps[i]?.map _ = _; rw [e4]; rfl⟩
/-! the call -/
def iEnT (K : PySem.W.Frag) (ta : TA) : TI := fun σ H R => ta σ H fun vs H1 => ∃ a xs, vs = [.ref a] ∧ SqT K H1 a xs ∧ R (IteT K a) H1
def iEnS (ta : TA) : TI := fun σ H R => ta σ H fun vs H1 => ∃ z, vs = [.str z] ∧ R (IteS z) H1
section
variable {prog : Program} {w : World} {A : Around} {E : Value → Shared → Prop} {s : Shared}
theorem new_enumT (t : Addr) (items : Array Value) (n : Nat) (dct : Option Addr) (sl : Array (Option Value)) :
    Meets (Builtin.«enumerate.__new__» ⟨[.type "enumerate", .ref t], []⟩) (fun _ R s => s.heap.get? t = some ⟨.type "tuple", dct, .seq items n, sl⟩ ∧
      R (.ok (.ret (.ref (s.heap.push { cls := .type "tuple_iterator", data := .fields #[.ref t, .int 0 0] }).objs.size)))
        { s with heap := (s.heap.push { cls := .type "tuple_iterator", data := .fields #[.ref t, .int 0 0] }).push { cls := .type "enumerate", data := .fields #[.none, .bool false, .ref s.heap.objs.size, rawInt 0, .none, .none] } }) :=
  .of_wp fun prog w A R s h => by
    obtain ⟨hl, h⟩ := h
    have hL : s.heap.IsTuple t items := ⟨_, hl, rfl, n, rfl⟩
    obtain ⟨hp, g, d, tk, os⟩ := s
    have hsub := sub_enumerate
    wp_walk
    refine wpAny_stack_any fun st => wpAny_pure ?_
    split
    · rename_i c _ _ _ _ _
      cases (c == Value.type "enumerate")
      · wp_walk using wpAny_loadPart' hl, wpAny_pyIter_tuple hL
        exact ⟨_, rfl, h⟩
      · wp_walk using wpAny_loadPart' hl, wpAny_pyIter_tuple hL
        exact ⟨_, rfl, h⟩
    · wp_walk using wpAny_loadPart' hl, wpAny_pyIter_tuple hL
      exact ⟨_, rfl, h⟩
theorem call_enumT {t : Addr} {items : Array Value} {Q : Value → Shared → Prop} (hL : s.heap.IsTuple t items)
    (h : ∀ h', IsEnum h' (s.heap.objs.size + 1) s.heap.objs.size 0 .none → h'.IsTupleIter s.heap.objs.size t 0 → (∀ b o, s.heap.get? b = some o → h'.get? b = some o) → Q (.ref (s.heap.objs.size + 1)) { s with heap := h' }) :
    wpAny (model prog w) A (call (.type "enumerate") [.ref t]) Q E s := by
  obtain ⟨⟨c, dct, dt, sl⟩, hl, hc, n, hd⟩ := hL
  replace hc : c = .type "tuple" := hc
  replace hd : dt = .seq items n := hd
  subst hc hd
  refine callType_new F.called_enumerate (by decide) (F.typeCall_enumerate_1 _) (F.newCall_enumerate_1 _) (fun obj => F.args_object_init_2 obj _) F.entry_enumerate_new (new_enumT t items n dct sl) ⟨hl, ?_⟩
  have hz : (s.heap.push { cls := .type "tuple_iterator", data := .fields #[.ref t, .int 0 0] }).objs.size = s.heap.objs.size + 1 := Heap.size_push ..
  have k2 : ∀ (o2 : Obj) b o, s.heap.get? b = some o → ((s.heap.push { cls := .type "tuple_iterator", data := .fields #[.ref t, .int 0 0] }).push o2).get? b = some o := fun o2 b o q => Heap.get?_push_of_some _ (Heap.get?_push_of_some _ q)
  have he : IsEnum ((s.heap.push { cls := .type "tuple_iterator", data := .fields #[.ref t, .int 0 0] }).push { cls := .type "enumerate", data := .fields #[.none, .bool false, .ref s.heap.objs.size, rawInt 0, .none, .none] })
      (s.heap.objs.size + 1) s.heap.objs.size 0 .none := by
    have q := Heap.get?_push_size (s.heap.push { cls := .type "tuple_iterator", data := .fields #[.ref t, .int 0 0] }) (o := { cls := .type "enumerate", data := .fields #[.none, .bool false, .ref s.heap.objs.size, rawInt 0, .none, .none] }) rfl
    rw [hz] at q
    exact q
  show _ ∧ _
  rw [hz]
  exact ⟨⟨_, he, rfl⟩, h _ he ⟨_, Heap.get?_push_of_some _ (Heap.get?_push_size _ rfl), rfl, rfl⟩ (k2 _)⟩
end
section
variable {X : Cx} {e : Expr} {ta : TA} {p pos tpos : Pos} {elts : List Expr} {kk : Nat}
theorem fp2 {pins : List (Addr × Obj)} {σ : L2.St} {H : Hp} {s : Shared} (I : Inv X pins σ H s) : ∀ b ∈ [s.heap.objs.size + 1, s.heap.objs.size], FpOk X pins H b := fun b hb => by
  have le : s.heap.objs.size ≤ b := by
    rcases List.mem_cons.mp hb with z | z
    · rw [z]
      exact Nat.le_succ _
    · rw [List.mem_singleton.mp z]
      exact Nat.le_refl _
  exact I.fpOk le (I.hok.fresh le)
theorem pi_enumT (hg : Gl X "enumerate") (hm : X.mg "enumerate" = none) (ha : PA X [e] ta) (hs : starEach [e] X.env = [(false, eval e X.env)] := by rfl) :
    PI X (.Tuple elts kk tpos) (.Call (.Name "enumerate" p) [e] [] pos) (iEnT X.K ta) := by
  constructor
  intro pins s σ H R I h
  refine Call_ (ld_blt I hg hm boot_enumerate (PyProof.Rows.callWith_type1 (thn (ha.run pos pins s σ H _ I h) fun us s1 z => ?_) hs rfl))
  obtain ⟨vs, H1, I1, r1, a, xs, rfl, hq, q⟩ := z
  obtain ⟨u, rfl, r⟩ := vals1 r1
  cases (show u = Value.ref a from r)
  obtain ⟨its, rv, tp, -⟩ := I1.tuple hq
  refine call_enumT tp fun h1 he hit k => wpAny_pyIter_enum he ?_
  have J : Inv X pins σ H1 { s1 with heap := h1 } := I1.kept (t' := s1.toks) k
  exact ⟨_, _, _, _, H1, rfl, J, turn_enumT a (s1.heap.objs.size + 1) s1.heap.objs.size, ⟨⟨.none, he⟩, hit, Nat.succ_ne_self _⟩, fp2 I1, q⟩
theorem pi_enumS (hg : Gl X "enumerate") (hm : X.mg "enumerate" = none) (ha : PA X [e] ta) (hs : starEach [e] X.env = [(false, eval e X.env)] := by rfl) :
    PI X (.Tuple elts kk tpos) (.Call (.Name "enumerate" p) [e] [] pos) (iEnS ta) := by
  constructor
  intro pins s σ H R I h
  refine Call_ (ld_blt I hg hm boot_enumerate (PyProof.Rows.callWith_type1 (thn (ha.run pos pins s σ H _ I h) fun us s1 z => ?_) hs rfl))
  obtain ⟨vs, H1, I1, r1, y, rfl, q⟩ := z
  obtain ⟨u, rfl, t, rfl⟩ := vals1 r1
  refine call_enumerate_str fun h1 he hit hz k => wpAny_pyIter_enum he ?_
  have J : Inv X pins σ H1 { s1 with heap := h1 } := I1.kept (t' := s1.toks) k
  exact ⟨_, _, _, _, H1, rfl, J, turn_enumS y t (s1.heap.objs.size + 1) s1.heap.objs.size, ⟨⟨.none, he⟩, hit, Nat.succ_ne_self _⟩, fp2 I1, q⟩
end
end K5
/-! ### the reader's small defs -/
namespace K5
open PySem PySem.Spec PyProof.Rows L2
/-- a sign of some kind stands at a place -/
def hasSign (l : List Nat) (p : Nat) (g : List Nat) : Bool := match l[p]? with
  | some c => decide (c ∈ g)
  | none => false
abbrev flT (row place : Int) : List (Str × V) := [("place", .int place), ("line", .int row)]
theorem has_drop (l : List Nat) (p c : Nat) : hasSign l p [c] = true ↔ (l.drop p).head? = some c := by
  unfold hasSign
  rw [List.head?_drop]
  cases l[p]? with
  | none => simp
  | some d => simp
theorem miss_at : ∀ (wd : List Nat) (l : List Nat) (p j : Nat) (hj : j < wd.length), (∀ i (hi : i < j), hasSign l (p + i) [wd[i]] = true) → hasSign l (p + j) [wd[j]] = false → miss wd (l.drop p) = some j
  | [], _, _, j, hj, _, _ => absurd hj (Nat.not_lt_zero j)
  | c :: ws, l, p, 0, _, _, h => by
    have h1 : ¬ (l.drop p).head? = some c := fun z => by
      rw [show hasSign l (p + 0) [(c :: ws)[0]] = true from (has_drop l p c).mpr z] at h
      cases h
    cases e : l.drop p with
    | nil => rfl
    | cons d r =>
      rw [e] at h1
      exact if_neg fun z => h1 (by rw [z]; rfl)
  | c :: ws, l, p, j + 1, hj, ha, h => by
    have h0 := (has_drop l p c).mp (ha 0 (Nat.succ_pos j))
    cases e : l.drop p with
    | nil =>
      rw [e] at h0
      cases h0
    | cons d r =>
      rw [e] at h0
      have ed : d = c := Option.some.inj h0
      have er : l.drop (p + 1) = r := by
        rw [← List.drop_drop, e]
        rfl
      have m := miss_at ws l (p + 1) j (by simpa using hj) (fun i hi => by
          have q := ha (i + 1) (by omega)
          rw [show p + 1 + i = p + (i + 1) by omega]
          exact q)
        (by rw [show p + 1 + j = p + (j + 1) by omega]; exact h)
      show (if d = c then (miss ws r).map (· + 1) else some 0) = some (j + 1)
      rw [if_pos ed, ← er, m]
      rfl
theorem miss_all : ∀ (wd : List Nat) (l : List Nat) (p : Nat), (∀ i (hi : i < wd.length), hasSign l (p + i) [wd[i]] = true) → miss wd (l.drop p) = none
  | [], _, _, _ => rfl
  | c :: ws, l, p, ha => by
    have h0 := (has_drop l p c).mp (ha 0 (Nat.succ_pos _))
    cases e : l.drop p with
    | nil =>
      rw [e] at h0
      cases h0
    | cons d r =>
      rw [e] at h0
      have ed : d = c := Option.some.inj h0
      have er : l.drop (p + 1) = r := by
        rw [← List.drop_drop, e]
        rfl
      have m := miss_all ws l (p + 1) (fun i hi => by
          have q := ha (i + 1) (by simpa using hi)
          rw [show p + 1 + i = p + (i + 1) by omega]
          exact q)
      show (if d = c then (miss ws r).map (· + 1) else some 0) = none
      rw [if_pos ed, ← er, m]
      rfl
theorem run_more {g : List Nat} {l : List Nat} {p m : Nat} (h : hasSign l p g = true) : runLen g (m + 1) (l.drop p) = runLen g m (l.drop (p + 1)) + 1 := by
  unfold hasSign at h
  cases e : l[p]? with
  | none =>
    rw [e] at h
    cases h
  | some c =>
    rw [e] at h
    obtain ⟨hp, ec⟩ := List.getElem?_eq_some_iff.mp e
    rw [List.drop_eq_getElem_cons hp, ec]
    exact if_pos (of_decide_eq_true h)
theorem run_stop {g : List Nat} {l : List Nat} {p m : Nat} (h : hasSign l p g = false) : runLen g m (l.drop p) = 0 := by
  unfold hasSign at h
  cases m with
  | zero => rfl
  | succ m =>
    cases e : l[p]? with
    | none =>
      rw [List.drop_eq_nil_of_le (List.getElem?_eq_none_iff.mp e)]
      rfl
    | some c =>
      rw [e] at h
      obtain ⟨hp, ec⟩ := List.getElem?_eq_some_iff.mp e
      rw [List.drop_eq_getElem_cons hp, ec]
      exact if_neg (of_decide_eq_false h)
section
variable {P : Program} {w : World} {K : PySem.W.Frag} {mg : Str → Option Value} {base : Heap}
/-- a def of the text keeps its promise -/
theorem gd_of {x : Str} {d : He.DefD} {ps : List Str} {sp : Sp} {k : Nat} (T : Txt P w K mg base) (hx : x ∈ gloN) (hd : d ∈ fn) (he : d.at_ = (x, none))
    (hb : ∀ (kV doc pm : Value) (an : Option Addr) (cdv ct : Value) (us : List Value), us.length = ps.length → bindArgs (PySem.W.fnOf d.name d.qual d.params d.body d.scope .none kV doc pm an cdv ct) ⟨us, []⟩ = pure (ps.zip us))
    (ok : ∀ fd, FunD K d.name d.qual d.params d.body d.scope [] [] (He.ga K x) fd → FnOk P w K mg base (CZ P w) k (He.ga K x) fd ps sp) : Gd P w K mg base k x ps sp := by
  obtain ⟨fd, F⟩ := T.defs d hd
  have e : He.fAd K d.at_ = He.ga K x := by
    rw [he]
    rfl
  rw [e] at F
  exact ⟨⟨fd, ok fd F, F.bindsN hb⟩, T.glo x hx, F.kp⟩
/-! need_sign -/
def sp_need_sign (K : PySem.W.Frag) : Sp := fun vs H Q E => ∃ (l : List Nat) (p : Nat) (g : List Nat) (row : Int), vs = [.str (S l), .int p, .str (S g), .int row] ∧ l.length ≤ BIG ∧
  (hasSign l p g = true → Q .non H) ∧ (hasSign l p g = false → Err K H E "BadText" (flT row p))
theorem g_need_sign (T : Txt P w K mg base) : Gd P w K mg base 3 "need_sign" ["line", "at", "signs", "row"] (sp_need_sign K) := by
  refine gd_of (d := d_need_sign) T (by decide +kernel) (by simp [fn]) rfl (fun _ _ _ _ _ _ us hl => match us, hl with | [_, _, _, _], _ => rfl) fun fd F => F.ok sc_need_sign (fun vs H Q E h => ?_) fun cdv A outer s H vs Q E hr h => ?_
  · obtain ⟨l, p, g, row, rfl, _⟩ := h
    rfl
  · obtain ⟨l, p, g, row, rfl, hl, yes, no⟩ := h
    refine ⟨_, pss_one (ps_if (PW.pt (pw_or (pt_cmpR op_ge (pv 1) (pe_callB call_len_str rfl (T.free "len" (by decide +kernel)) boot_len (pa_cons (pv 0) pa_nil)) (nomark _))
      (pw_or1 (pt_cmpR op_notIn_sign (pe_ix ix_str (pv 0) (pv 1) (fun _ _ => rfl)) (pv 2) rfl)))) (pss_one (ps_rs (rs_text T) hr rfl (takes_of (E := E) rfl rfl rfl rfl) rfl (pa_cons (pv 3) (pa_cons (pv 1) pa_nil)))) pss_nil), ?_⟩
    refine ⟨_, rfl, _, rfl, _, rfl, sz (by rw [S_len]; exact hl), _, _, rfl, rfl, _, rfl, ite2 (fun c => ?_) (fun c => ?_)⟩
    · have c1 : ((S l).length : Int) ≤ p := of_decide_eq_true c
      rw [S_len] at c1
      refine iteT ⟨_, rfl, _, rfl, made2 (no ?_)⟩
      unfold hasSign
      rw [List.getElem?_eq_none (by omega)]
    · have c1 : ¬ ((S l).length : Int) ≤ p := fun z => c (decide_eq_true z)
      rw [S_len] at c1
      have hp : p < l.length := by omega
      have e : l[p]? = some l[p] := List.getElem?_eq_getElem hp
      refine ⟨_, rfl, _, rfl, _, _, _, rfl, rfl, sz (by rw [S_len]; exact hl), atI_nat e, _, rfl, _, _, rfl, rfl, _, rfl, ite2 (fun d => ?_) (fun d => ?_)⟩
      · refine ⟨_, rfl, _, rfl, made2 (no ?_)⟩
        have d1 : (!decide (l[p] ∈ g)) = true := d
        unfold hasSign
        rw [e]
        simpa using d1
      · refine yes ?_
        have d1 : ¬ (!decide (l[p] ∈ g)) = true := d
        unfold hasSign
        rw [e]
        simpa using d1
/-! need_word -/
def sp_need_word (K : PySem.W.Frag) : Sp := fun vs H Q E => ∃ (l : List Nat) (p : Nat) (wd : List Nat) (row : Int), vs = [.str (S l), .int p, .str (S wd), .int row] ∧ l.length ≤ BIG ∧ wd.length ≤ BIG ∧
  (∀ r, wordAt l p wd = .ok r → ∀ H', Same H H' → Q (.int r) H') ∧ (∀ q, wordAt l p wd = .error q → Err K H E "BadText" (flT row q))
theorem g_need_word (T : Txt P w K mg base) : Gd P w K mg base 4 "need_word" ["line", "at", "word", "row"] (sp_need_word K) := by
  refine gd_of (d := d_need_word) T (by decide +kernel) (by simp [fn]) rfl (fun _ _ _ _ _ _ us hl => match us, hl with | [_, _, _, _], _ => rfl) fun fd F => F.ok sc_need_word (fun vs H Q E h => ?_) fun cdv A outer s H vs Q E hr h => ?_
  · obtain ⟨l, p, g, row, rfl, _⟩ := h
    rfl
  · obtain ⟨l, p, wd, row, rfl, hl, hw, yes, no⟩ := h
    refine ⟨_, pss_cons (ps_for passO rfl (pi_enumS rfl (T.free "enumerate" (by decide +kernel)) (pa_cons (pv 2) pa_nil)) (pg_tup rfl (pgs_cons (pg_name (i := 4) sc_need_word.nd rfl (.inl rfl)) (pgs_cons (pg_name (i := 5) sc_need_word.nd rfl (.inl rfl)) pgs_nil)))
        (pss_one (ps_expr (pe_g (g_need_sign T) hr rfl passD (pa_cons (pv 0) (pa_cons (pe_op op_add (pv 1) (pv 4)) (pa_cons (pv 5) (pa_cons (pv 3) pa_nil))))))))
      (pss_one (ps_ret (pe_op op_add (pv 1) (pe_callB call_len_str rfl (T.free "len" (by decide +kernel)) boot_len (pa_cons (pv 2) pa_nil))))), ?_⟩
    refine ⟨_, rfl, _, rfl, for_it (walk_enumS (z := S wd)) (fun i σ H1 => ∃ a b, σ = [some (.str (S l)), some (.int p), some (.str (S wd)), some (.int row), a, b] ∧ Same H H1 ∧ ∀ j (hj : j < i) (h2 : j < wd.length), hasSign l (p + j) [wd[j]] = true)
      ⟨_, _, rfl, Same.refl H, fun j hj => absurd hj (Nat.not_lt_zero j)⟩ (fun _ _ _ _ _ => trivial) ?_ ?_⟩
    · rintro i x σ H1 H2 hi ⟨a, b, rfl, s1, ok⟩ ⟨T', c1, c2, rfl, nT, rfl, e1, e2⟩
      have hi2 : i < wd.length := by simpa [S] using hi
      have e3 : (S wd).cps[i]? = some wd[i] := by
        show wd.toArray[i]? = _
        simp [hi2]
      have e2' : (S wd).cps[i]?.map (fun c => V.str ⟨#[c]⟩) = some c2 := e2
      rw [e3] at e2'
      cases e1
      cases e2'
      refine ⟨T', _, rfl, SqT.of upd_same, rfl, _, _, rfl, _, _, rfl, rfl, ?_⟩
      refine ⟨_, rfl, _, rfl, _, rfl, _, _, rfl, rfl, _, rfl, _, rfl, l, p + i, [wd[i]], row, rfl, hl, fun h => ?_, fun h => ?_⟩
      · refine ⟨_, _, rfl, s1.trans (Same.new nT), fun j hj h2 => ?_⟩
        rcases Nat.lt_succ_iff_lt_or_eq.mp hj with z | z
        · exact ok j z h2
        · subst z
          exact h
      · have z := miss_at wd l p i hi2 (fun j hj => ok j hj (by omega)) h
        exact (no (p + i) (by unfold wordAt; rw [z])).up (s1.trans (Same.new nT))
    · rintro σ H1 ⟨a, b, rfl, s1, ok⟩
      have z := miss_all wd l p (fun j hj => ok j (by simpa [S] using hj) hj)
      refine ⟨_, rfl, _, rfl, _, rfl, sz (by rw [S_len]; exact hw), _, _, rfl, rfl, ?_⟩
      have q := yes (p + wd.length) (by unfold wordAt; rw [z]) H1 s1
      rw [S_len]
      exact q
/-! need_end -/
def sp_need_end (K : PySem.W.Frag) : Sp := fun vs H Q E => ∃ (l : List Nat) (p : Nat) (row : Int), vs = [.str (S l), .int p, .int row] ∧ l.length ≤ BIG ∧
  (endAt l p = .ok () → Q .non H) ∧ (∀ q, endAt l p = .error q → Err K H E "BadText" (flT row q))
theorem g_need_end (T : Txt P w K mg base) : Gd P w K mg base 3 "need_end" ["line", "at", "row"] (sp_need_end K) := by
  refine gd_of (d := d_need_end) T (by decide +kernel) (by simp [fn]) rfl (fun _ _ _ _ _ _ us hl => match us, hl with | [_, _, _], _ => rfl) fun fd F => F.ok sc_need_end (fun vs H Q E h => ?_) fun cdv A outer s H vs Q E hr h => ?_
  · obtain ⟨l, p, row, rfl, _⟩ := h
    rfl
  · obtain ⟨l, p, row, rfl, hl, yes, no⟩ := h
    refine ⟨_, pss_one (ps_if (pt_cmpR op_lt (pv 1) (pe_callB call_len_str rfl (T.free "len" (by decide +kernel)) boot_len (pa_cons (pv 0) pa_nil)) (nomark _))
      (pss_one (ps_rs (rs_text T) hr rfl (takes_of (E := E) rfl rfl rfl rfl) rfl (pa_cons (pv 2) (pa_cons (pv 1) pa_nil)))) pss_nil), ?_⟩
    refine ⟨_, rfl, _, rfl, _, rfl, sz (by rw [S_len]; exact hl), _, _, rfl, rfl, _, rfl, ite2 (fun c => ?_) (fun c => ?_)⟩
    · have c1 : (p : Int) < ((S l).length : Int) := of_decide_eq_true c
      rw [S_len] at c1
      exact ⟨_, rfl, _, rfl, made2 (no p (if_pos (by omega)))⟩
    · have c1 : ¬ (p : Int) < ((S l).length : Int) := fun z => c (decide_eq_true z)
      rw [S_len] at c1
      exact yes (if_neg (by omega))
/-! run_end -/
def sp_run_end : Sp := fun vs H Q _ => ∃ (l : List Nat) (p : Nat) (g : List Nat) (m : Nat), vs = [.str (S l), .int p, .str (S g), .int m] ∧ l.length ≤ BIG ∧ Q (.int ((p + runLen g m (l.drop p) : Nat) : Int)) H
theorem g_run_end (T : Txt P w K mg base) : Gd P w K mg base 1 "run_end" ["line", "at", "signs", "most"] sp_run_end := by
  refine gd_of (d := d_run_end) T (by decide +kernel) (by simp [fn]) rfl (fun _ _ _ _ _ _ us hl => match us, hl with | [_, _, _, _], _ => rfl) fun fd F => F.ok sc_run_end (fun vs H Q E h => ?_) fun cdv A outer s H vs Q E hr h => ?_
  · obtain ⟨l, p, g, m, rfl, _⟩ := h
    rfl
  · obtain ⟨l, p, g, most, rfl, hl, q⟩ := h
    refine ⟨_, pss_cons (ps_set (i := 4) sc_run_end.nd rfl (.inl rfl) (pv 1)) (pss_cons (ps_while passO
        (PW.pt (pw_and (pt_cmpR op_lt (pv 4) (pe_callB call_len_str rfl (T.free "len" (by decide +kernel)) boot_len (pa_cons (pv 0) pa_nil)) (nomark _))
          (pw_and (pt_cmpR op_lt (pv 4) (pe_op op_add (pv 1) (pv 3)) (nomark _)) (pw_and1 (pt_cmpR op_in_sign (pe_ix ix_str (pv 0) (pv 4) (fun _ _ => rfl)) (pv 2) rfl)))))
        (pss_one (ps_aug (i := 4) sc_run_end.nd rfl (.inl rfl) pe_int ip_add))) (pss_one (ps_ret (pv 4)))), ?_⟩
    refine ⟨_, rfl, fun m σ H1 => ∃ k : Nat, σ = [some (.str (S l)), some (.int p), some (.str (S g)), some (.int most), some (.int ((p + k : Nat) : Int))] ∧ H1 = H ∧ k + m = most ∧ runLen g most (l.drop p) = k + runLen g m (l.drop (p + k)),
      ⟨most, 0, by simp; rfl, rfl, by omega, by simp⟩, ?_⟩
    rintro m σ H1 ⟨k, rfl, rfl, hk, hrun⟩
    have stop : runLen g m (l.drop (p + k)) = 0 → Q (.int ((p + k : Nat) : Int)) H1 := fun z => by
      rw [hrun, z] at q
      exact q
    refine ⟨_, rfl, _, rfl, _, rfl, sz (by rw [S_len]; exact hl), _, _, rfl, rfl, _, rfl, ite2 (fun c => ?_) (fun c => ?_)⟩
    · have c1 : ((p + k : Nat) : Int) < ((S l).length : Int) := of_decide_eq_true c
      rw [S_len] at c1
      have hp : p + k < l.length := by omega
      refine ⟨_, rfl, _, rfl, _, rfl, _, _, rfl, rfl, _, _, rfl, rfl, _, rfl, ite2 (fun d => ?_) (fun d => ?_)⟩
      · have d1 : ((p + k : Nat) : Int) < (p : Int) + (most : Int) := of_decide_eq_true d
        have e : l[p + k]? = some l[p + k] := List.getElem?_eq_getElem hp
        refine ⟨_, rfl, _, rfl, _, _, _, rfl, rfl, sz (by rw [S_len]; exact hl), atI_nat e, _, rfl, _, _, rfl, rfl, _, rfl, ite2 (fun f => ?_) (fun f => ?_)⟩
        · have f1 : l[p + k] ∈ g := of_decide_eq_true f
          have hs : hasSign l (p + k) g = true := by
            unfold hasSign
            rw [e]
            exact decide_eq_true f1
          obtain ⟨m', rfl⟩ : ∃ m', m = m' + 1 := ⟨m - 1, by omega⟩
          refine ⟨_, fun σ' H' h => h, _, rfl, _, _, rfl, rfl, m', Nat.lt_succ_self m', k + 1, rfl, rfl, by omega, ?_⟩
          rw [hrun, run_more hs]
          show _ = k + 1 + runLen g m' (l.drop (p + k + 1))
          omega
        · refine ⟨_, rfl, stop (run_stop ?_)⟩
          have f1 : ¬ l[p + k] ∈ g := fun z => f (decide_eq_true z)
          unfold hasSign
          rw [e]
          exact decide_eq_false f1
      · refine iteF ⟨_, rfl, stop ?_⟩
        have d1 : ¬ ((p + k : Nat) : Int) < (p : Int) + (most : Int) := fun z => d (decide_eq_true z)
        have : m = 0 := by omega
        subst this
        rfl
    · refine iteF ⟨_, rfl, stop (run_stop ?_)⟩
      have c1 : ¬ ((p + k : Nat) : Int) < ((S l).length : Int) := fun z => c (decide_eq_true z)
      rw [S_len] at c1
      unfold hasSign
      rw [List.getElem?_eq_none (by omega)]
end
end K5
/-! ### data: turns, shots, entries, programs, lots as they lie -/
namespace K5
open PySem PySem.Spec PyProof.Rows L2
theorem boot_int : bootBuiltins "int" = some (.type "int") := by decide +kernel
theorem boot_str : bootBuiltins "str" = some (.type "str") := by decide +kernel
theorem boot_list : bootBuiltins "list" = some (.type "list") := by decide +kernel
theorem boot_tuple : bootBuiltins "tuple" = some (.type "tuple") := by decide +kernel
theorem boot_bool : bootBuiltins "bool" = some (.type "bool") := by decide +kernel
theorem boot_all : bootBuiltins "all" = some (.builtin "all") := by decide +kernel
theorem boot_min : bootBuiltins "min" = some (.builtin "min") := by decide +kernel
theorem boot_sorted : bootBuiltins "sorted" = some (.builtin "sorted") := by decide +kernel
theorem boot_repr : bootBuiltins "repr" = some (.builtin "repr") := by decide +kernel
theorem boot_isi : bootBuiltins "isinstance" = some (.builtin "isinstance") := by decide +kernel
section
variable {P : Program} {w : World} {K : PySem.W.Frag} {mg : Str → Option Value} {base : Heap}
theorem Txt.s (T : Txt P w K mg base) (x : Str) (l : List Nat) (h : (x, l) ∈ strN) : ∃ t, mg x = some (.str (S l) t) := T.str (x, l) h
theorem Txt.i (T : Txt P w K mg base) (x : Str) (i : Int) (h : (x, i) ∈ intN) : ∃ t, mg x = some (.int i t) := T.int (x, i) h
end
section
variable {X : Cx} {x : Str} {pos : Pos}
theorem pe_gs {z : Str} (hm : ∃ t, X.mg x = some (.str z t)) (hg : Gl X x := by rfl) (hd : (x == ("__debug__" : Str)) = false := by decide) : PE X (.Name x pos) (tC (.str z)) :=
  let ⟨t, h⟩ := hm
  pe_glob hg h ⟨t, rfl⟩ hd
theorem pe_gi {i : Int} (hm : ∃ t, X.mg x = some (.int i t)) (hg : Gl X x := by rfl) (hd : (x == ("__debug__" : Str)) = false := by decide) : PE X (.Name x pos) (tC (.int i)) :=
  let ⟨t, h⟩ := hm
  pe_glob hg h ⟨t, rfl⟩ hd
end
theorem zl0 : 0 ≤ sizeLine := by decide
theorem zl1 : 1 ≤ sizeLine := by decide
theorem zl2 : 2 ≤ sizeLine := by decide
theorem zl3 : 3 ≤ sizeLine := by decide
/-- tuples stay -/
def TupS (H H' : Hp) : Prop := ∀ b xs, H b = some (.tup xs) → H' b = some (.tup xs)
theorem TupS.refl (H : Hp) : TupS H H := fun _ _ h => h
theorem TupS.trans {H H1 H2 : Hp} (a : TupS H H1) (b : TupS H1 H2) : TupS H H2 := fun c xs h => b c xs (a c xs h)
theorem _root_.L2.Same.ts {H H' : Hp} (e : Same H H') : TupS H H' := fun b xs h => e b _ h
theorem TupS.put {H : Hp} {p : Addr} {o : HO} (h : ∀ xs, H p ≠ some (.tup xs)) : TupS H (upd H p o) := fun b xs e => by
  have n : b ≠ p := fun z => h xs (by rw [← z]; exact e)
  rw [upd_ne n]
  exact e
theorem TupS.lst {H : Hp} {p : Addr} {o : HO} {xs : List V} (h : H p = some (.lst xs)) : TupS H (upd H p o) := TupS.put fun ys z => by
  rw [h] at z
  cases z
def IsTurn (H : Hp) (v : V) (t : List Nat) : Prop := ∃ a, v = .ref a ∧ H a = some (.tup (vN t))
def IsShot (H : Hp) (v : V) (s : Shot) : Prop := ∃ a tv, v = .ref a ∧ H a = some (.tup [tv, .str (S s.2)]) ∧ IsTurn H tv s.1
def IsEntry (H : Hp) (v : V) (e : Entry) : Prop := ∃ a tv, v = .ref a ∧ H a = some (.tup [.str (S e.1), tv, .str (S e.2.2)]) ∧ IsTurn H tv e.2.1
def IsProg (H : Hp) (v : V) (p : List Entry) : Prop := ∃ a vs, v = .ref a ∧ H a = some (.tup vs) ∧ Paired (IsEntry H) vs p
def IsLot (H : Hp) (v : V) (x : Lot) : Prop := ∃ a b c ss ps, v = .ref a ∧ H a = some (.tup [.int (x.corners : Nat), .ref b, .ref c]) ∧ H b = some (.tup ss) ∧ Paired (IsShot H) ss x.shots ∧ H c = some (.tup ps) ∧ Paired (IsProg H) ps x.progs
theorem IsTurn.up {H H' : Hp} {v : V} {t : List Nat} (e : TupS H H') (h : IsTurn H v t) : IsTurn H' v t := let ⟨a, h1, h2⟩ := h; ⟨a, h1, e _ _ h2⟩
theorem IsShot.up {H H' : Hp} {v : V} {t : Shot} (e : TupS H H') (h : IsShot H v t) : IsShot H' v t := let ⟨a, tv, h1, h2, h3⟩ := h; ⟨a, tv, h1, e _ _ h2, h3.up e⟩
theorem IsEntry.up {H H' : Hp} {v : V} {t : Entry} (e : TupS H H') (h : IsEntry H v t) : IsEntry H' v t := let ⟨a, tv, h1, h2, h3⟩ := h; ⟨a, tv, h1, e _ _ h2, h3.up e⟩
theorem IsProg.up {H H' : Hp} {v : V} {t : List Entry} (e : TupS H H') (h : IsProg H v t) : IsProg H' v t := let ⟨a, vs, h1, h2, h3⟩ := h; ⟨a, vs, h1, e _ _ h2, L2.Paired.mapP h3 fun _ _ q => IsEntry.up e q⟩
theorem IsLot.up {H H' : Hp} {v : V} {t : Lot} (e : TupS H H') (h : IsLot H v t) : IsLot H' v t :=
  let ⟨a, b, c, ss, ps, h1, h2, h3, h4, h5, h6⟩ := h
  ⟨a, b, c, ss, ps, h1, e _ _ h2, e _ _ h3, L2.Paired.mapP h4 fun _ _ q => IsShot.up e q, e _ _ h5, L2.Paired.mapP h6 fun _ _ q => IsProg.up e q⟩
/-- a pairing, by places -/
theorem pair_get {α β : Type} {G : α → β → Prop} : ∀ {l : List α} {m : List β}, Paired G l m → ∀ {i : Nat} {a : α}, l[i]? = some a → ∃ b, m[i]? = some b ∧ G a b
  | _, _, .nil, i, a, h => by simp at h
  | _, _, .cons r t, 0, a, h => by
    cases h
    exact ⟨_, rfl, r⟩
  | _, _, .cons r t, i + 1, a, h => pair_get t (i := i) (by simpa using h)
theorem pair_of {α β : Type} {G : α → β → Prop} : ∀ {l : List α} {m : List β}, l.length = m.length → (∀ (i : Nat) (a : α) (b : β), l[i]? = some a → m[i]? = some b → G a b) → Paired G l m
  | [], [], _, _ => .nil
  | [], _ :: _, h, _ => by cases h
  | _ :: _, [], h, _ => by cases h
  | a :: l, b :: m, h, k => .cons (k 0 a b rfl rfl) (pair_of (Nat.succ.inj h) fun i x y e1 e2 => k (i + 1) x y e1 e2)
theorem pair_snoc {α β : Type} {G : α → β → Prop} : ∀ {l : List α} {m : List β} {a : α} {b : β}, Paired G l m → G a b → Paired G (l ++ [a]) (m ++ [b])
  | _, _, _, _, .nil, h => .cons h .nil
  | _, _, _, _, .cons r t, h => .cons r (pair_snoc t h)
/-! ### a comprehension whose turns leave all as it was but what is new -/
section
variable {J : It} {n : Nat} {G : Hp → Prop} {Y : Nat → Hp → V → Hp → Prop} {g : TG} {tt : TT} {te : TE} {vs : List Nat} {σ : L2.St} {H1 : Hp} {D : Addr} {Qd : Hp → Prop}
theorem lc_rel (wk : Walk J n G Y) (Rel : Nat → V → Hp → Prop) (mono : ∀ j y H H', TupS H H' → Rel j y H → Rel j y H') (nD : H1 D = none) (hn : n ≤ BIG) (hG : ∀ H, Same H1 H → G H)
    (hs : ∀ i x H H' (Kt : V → Hp → Prop) (Kf : Hp → Prop), i < n → Same H1 H → Y i H x H' → (∀ y H4, Same H H4 → Rel i y H4 → Kt y H4) →
      g x (wipe σ vs) H' fun σ2 H2 => wipe σ2 vs = wipe σ vs ∧ tt σ2 H2 fun b H3 => if b = true then te σ2 H3 Kt else Kf H3)
    (hd : ∀ H acc, Same H1 H → H D = some (.lst acc) → acc.length = n → (∀ j y, acc[j]? = some y → Rel j y H) → Qd H) :
    ∃ W : Nat → Nat → Hp → Prop, (∃ m, W 0 m (upd H1 D (.lst []))) ∧ ∀ i m H, W i m H →
      (J.stop i H ∧ Qd H) ∨ (J.go i H ∧ ∃ Nx : Hp → Prop, (∀ H', Nx H' → ∃ m', m' < m ∧ W (i + 1) m' H') ∧ ∀ x H', J.yld i H x H' → g x (wipe σ vs) H' fun σ2 H2 => wipe σ2 vs = wipe σ vs ∧ tt σ2 H2 fun b H3 =>
        if b = true then te σ2 H3 fun y H4 => ∃ acc, H4 D = some (.lst acc) ∧ acc.length < sizeLine ∧ Nx (upd H4 D (.lst (acc ++ [y]))) else Nx H3) := by
  refine lc_it wk (fun i H => ∃ acc, Same H1 H ∧ H D = some (.lst acc) ∧ acc.length = i ∧ ∀ j y, acc[j]? = some y → Rel j y H) ⟨[], Same.new nD, upd_same, rfl, fun j y h => by simp at h⟩ (fun i H _ ⟨_, s, _⟩ => hG H s) ?_ fun H ⟨acc, s, e, l, r⟩ => hd H acc s e l r
  rintro i x H H' hi ⟨acc, s, e, l, r⟩ hy
  refine hs i x H H' _ _ hi s hy fun y H4 s4 ry => ⟨acc, s4 D _ e, szl (by omega), acc ++ [y], (s.trans s4).put nD, upd_same, by simp [l], fun j z hz => ?_⟩
  have up : TupS H4 (upd H4 D (.lst (acc ++ [y]))) := TupS.lst (s4 D _ e)
  by_cases hj : j < acc.length
  · rw [List.getElem?_append_left hj] at hz
    exact mono j z _ _ (s4.ts.trans up) (r j z hz)
  · have ej : j = i := by
      have q := (List.getElem?_eq_some_iff.mp hz).1
      simp only [List.length_append, List.length_singleton] at q
      omega
    subst ej
    rw [← l, List.getElem?_append_right (Nat.le_refl _), Nat.sub_self] at hz
    cases hz
    exact mono j y _ _ up ry
/-- .. each item is told ahead -/
theorem lc_fn (wk : Walk J n G Y) (f : Nat → V) (nD : H1 D = none) (hn : n ≤ BIG) (hG : ∀ H, Same H1 H → G H)
    (hs : ∀ i x H H' (Kt : V → Hp → Prop) (Kf : Hp → Prop), i < n → Same H1 H → Y i H x H' → (∀ H4, Same H H4 → Kt (f i) H4) →
      g x (wipe σ vs) H' fun σ2 H2 => wipe σ2 vs = wipe σ vs ∧ tt σ2 H2 fun b H3 => if b = true then te σ2 H3 Kt else Kf H3)
    (hd : ∀ H, Same H1 H → H D = some (.lst ((List.range n).map f)) → Qd H) :
    ∃ W : Nat → Nat → Hp → Prop, (∃ m, W 0 m (upd H1 D (.lst []))) ∧ ∀ i m H, W i m H →
      (J.stop i H ∧ Qd H) ∨ (J.go i H ∧ ∃ Nx : Hp → Prop, (∀ H', Nx H' → ∃ m', m' < m ∧ W (i + 1) m' H') ∧ ∀ x H', J.yld i H x H' → g x (wipe σ vs) H' fun σ2 H2 => wipe σ2 vs = wipe σ vs ∧ tt σ2 H2 fun b H3 =>
        if b = true then te σ2 H3 fun y H4 => ∃ acc, H4 D = some (.lst acc) ∧ acc.length < sizeLine ∧ Nx (upd H4 D (.lst (acc ++ [y]))) else Nx H3) := by
  refine lc_rel wk (fun j y _ => y = f j) (fun _ _ _ _ _ h => h) nD hn hG (fun i x H H' Kt Kf hi s y k => hs i x H H' Kt Kf hi s y fun H4 s4 => k _ H4 s4 rfl) fun H acc s e l r => hd H s ?_
  rw [e]
  refine congrArg (fun z => some (HO.lst z)) (List.ext_getElem (by simp [l]) fun j h1 h2 => ?_)
  rw [r j acc[j] (List.getElem?_eq_getElem h1)]
  simp
end
end K5
/-! ### the reader of a line -/
namespace K5
open PySem PySem.Spec PyProof.Rows L2
theorem cut_nat {l : List Nat} {p e : Nat} (h1 : p ≤ e) (h2 : e ≤ l.length) : cutS (S l) (some (p : Int)) (some (e : Int)) = S ((l.drop p).take (e - p)) := by
  unfold cutS
  rw [HT.sIx_nat, HT.sIx_nat, S_len, Nat.min_eq_left h2, Nat.min_eq_left (Nat.le_trans h1 h2)]
  rfl
theorem fig_int : ∀ c ∈ FIG, PySem.intText? ⟨#[c]⟩ = some ((fig c : Nat) : Int) := by decide +kernel
theorem runLen_all (g : List Nat) : ∀ (m : Nat) (l : List Nat), ∀ c ∈ l.take (runLen g m l), c ∈ g
  | 0, _, c, h => by
    have h' : c ∈ List.take 0 _ := h
    simp at h'
  | m + 1, [], c, h => by simp at h
  | m + 1, d :: r, c, h => by
    unfold runLen at h
    by_cases hd : d ∈ g
    · rw [if_pos hd, List.take_succ_cons] at h
      rcases List.mem_cons.mp h with z | z
      · rw [z]
        exact hd
      · exact runLen_all g m r c z
    · rw [if_neg hd] at h
      simp at h
theorem run_pos {g l : List Nat} {p m : Nat} (h : hasSign l p g = true) : runLen g (m + 1) (l.drop p) ≠ 0 := by
  rw [run_more h]
  exact Nat.succ_ne_zero _
theorem run_end_le (g l : List Nat) (m p : Nat) (h : hasSign l p g = true) : p + runLen g m (l.drop p) ≤ l.length := by
  have z := (runLen_le g m (l.drop p)).2
  rw [List.length_drop] at z
  have : p < l.length := by
    unfold hasSign at h
    cases e : l[p]? with
    | none =>
      rw [e] at h
      cases h
    | some c => exact (List.getElem?_eq_some_iff.mp e).1
  omega
section
variable {P : Program} {w : World} {K : PySem.W.Frag} {mg : Str → Option Value} {base : Heap}
/-! turn_at -/
def sp_turn_at (K : PySem.W.Frag) : Sp := fun vs H Q E => ∃ (l : List Nat) (p : Nat) (row : Int), vs = [.str (S l), .int p, .int row] ∧ l.length ≤ BIG ∧
  (∀ t r, turnAt l p = .ok (t, r) → ∀ H' a tv, Same H H' → H' a = some (.tup [tv, .int (r : Nat)]) → IsTurn H' tv t → Q (.ref a) H') ∧ (∀ q, turnAt l p = .error q → Err K H E "BadText" (flT row q))
theorem g_turn_at (T : Txt P w K mg base) : Gd P w K mg base 4 "turn_at" ["line", "at", "row"] (sp_turn_at K) := by
  refine gd_of (d := d_turn_at) T (by decide +kernel) (by simp [fn]) rfl (fun _ _ _ _ _ _ us hl => match us, hl with | [_, _, _], _ => rfl) fun fd F => F.ok sc_turn_at (fun vs H Q E h => ?_) fun cdv A outer s H vs Q E hr h => ?_
  · obtain ⟨l, p, row, rfl, _⟩ := h
    rfl
  · obtain ⟨l, p, row, rfl, hl, yes, no⟩ := h
    have hF := T.s "FIGURES" FIG (by decide +kernel)
    have hM := T.i "MOST_FIGURES" 8 (by decide +kernel)
    refine ⟨_, pss_cons (ps_expr (pe_g (g_need_sign T) hr rfl passD (pa_cons (pv 0) (pa_cons (pv 1) (pa_cons (pe_gs hF) (pa_cons (pv 2) pa_nil))))))
      (pss_cons (ps_set (i := 3) sc_turn_at.nd rfl (.inl rfl) (pe_g (g_run_end T) (hr.mono (by decide)) rfl passL (pa_cons (pv 0) (pa_cons (pv 1) (pa_cons (pe_gs hF) (pa_cons (pe_gi hM) pa_nil))))))
      (pss_one (ps_ret (pe_tup (pa_cons (pe_callTy call_tuple_of rfl (T.free "tuple" (by decide +kernel)) boot_tuple (pa_cons
        (pe_lc (own := [("figure", 4)]) (g := gName 4) (tt := tYes) rfl sc_turn_at.nd (pi_str (pe_slice sl_str (pv 0) (po_some (pv 1)) (po_some (pv 3)))) (blkOk_by (N := n_turn_at) (sc := defScope s_turn_at) (by decide +kernel))
          (fun _ _ _ _ _ => pg_name (i := 4) sc_turn_at.nd rfl (.inl rfl)) (fun _ _ _ _ _ => pts_nil) (fun _ _ _ _ _ => pe_callTy call_int_str rfl (T.free "int" (by decide +kernel)) boot_int (pa_cons (pv 4) pa_nil))) pa_nil)) (pa_cons (pv 3) pa_nil)))))), ?_⟩
    refine ⟨_, rfl, _, rfl, _, rfl, l, p, FIG, row, rfl, hl, fun hs => ?_, fun hs => ?_⟩
    · -- a figure stands there
      refine ⟨_, rfl, _, rfl, l, p, FIG, 8, rfl, hl, ?_⟩
      have hle := run_end_le FIG l 8 p hs
      have hp : runLen FIG 8 (l.drop p) ≠ 0 := run_pos hs
      have e1 : turnAt l p = .ok (((l.drop p).take (runLen FIG 8 (l.drop p))).map fig, p + runLen FIG 8 (l.drop p)) := if_neg hp
      have hall := runLen_all FIG 8 (l.drop p)
      generalize hn : runLen FIG 8 (l.drop p) = n at e1 hle hp hall
      have cut : cutS (S l) (some ((p : Nat) : Int)) (some ((p + n : Nat) : Int)) = S ((l.drop p).take n) := by
        rw [cut_nat (Nat.le_add_right p n) hle, Nat.add_sub_cancel_left]
      refine ⟨_, rfl, _, rfl, _, rfl, _, rfl, _, rfl, S l, rfl, sz (by rw [S_len]; exact hl), _, rfl, fun D nD => ?_⟩
      rw [cut]
      generalize hg : (l.drop p).take n = seg at hall e1
      have len : seg.length = n := by
        rw [← hg, List.length_take, List.length_drop]
        omega
      refine lc_fn (walk_str (z := S seg)) (fun i => V.int ((fig (seg.getD i 0) : Nat) : Int)) nD (by show seg.toArray.size ≤ BIG; simp; omega) (fun _ _ => trivial) ?_ ?_
      · rintro i x H1 H2 Kt Kf hi s1 ⟨rfl, c, ec, rfl⟩ k
        have ec' : seg[i]? = some c := by
          have z : seg.toArray[i]? = some c := ec
          simpa using z
        have hc : c ∈ FIG := hall c (List.mem_of_getElem? ec')
        refine ⟨rfl, _, rfl, _, _, rfl, fig_int c hc, by show (1 : Nat) ≤ 640; decide, ?_⟩
        have z := k H2 (Same.refl _)
        rw [List.getD_eq_getElem?_getD, ec'] at z
        exact z
      · intro H2 s2 e2
        have hm : (List.range (S seg).cps.size).map (fun i => V.int ((fig (seg.getD i 0) : Nat) : Int)) = vN (seg.map fig) := by
          refine List.ext_getElem (by simp [S, vN]) fun j h1 h2 => ?_
          have hj : j < seg.length := by simpa [S] using h1
          simp [vN, List.getD_eq_getElem?_getD, List.getElem?_eq_getElem hj]
        rw [hm] at e2
        refine ⟨D, _, rfl, .inl ⟨SqL.of e2, fun a na => ⟨_, rfl, zl2, fun b nb => ?_⟩⟩⟩
        refine yes _ _ e1 _ b _ ((s2.trans (Same.new na)).trans (Same.new nb)) upd_same ⟨a, rfl, ?_⟩
        exact Same.new nb _ _ upd_same
    · refine no p ?_
      unfold turnAt
      rw [if_pos (run_stop hs)]
/-! mark_at -/
def sp_mark_at (K : PySem.W.Frag) : Sp := fun vs H Q E => ∃ (l : List Nat) (p : Nat) (row : Int), vs = [.str (S l), .int p, .int row] ∧ l.length ≤ BIG ∧
  (∀ m r, markAt l p = .ok (m, r) → ∀ H' a, Same H H' → H' a = some (.tup [.str (S m), .int (r : Nat)]) → Q (.ref a) H') ∧ (∀ q, markAt l p = .error q → Err K H E "BadText" (flT row q))
theorem has_app (l : List Nat) (p : Nat) (g : List Nat) (d : Nat) : hasSign l p (g ++ [d]) = (hasSign l p g || hasSign l p [d]) := by
  unfold hasSign
  cases l[p]? with
  | none => rfl
  | some c => simp
theorem g_mark_at (T : Txt P w K mg base) : Gd P w K mg base 4 "mark_at" ["line", "at", "row"] (sp_mark_at K) := by
  refine gd_of (d := d_mark_at) T (by decide +kernel) (by simp [fn]) rfl (fun _ _ _ _ _ _ us hl => match us, hl with | [_, _, _], _ => rfl) fun fd F => F.ok sc_mark_at (fun vs H Q E h => ?_) fun cdv A outer s H vs Q E hr h => ?_
  · obtain ⟨l, p, row, rfl, _⟩ := h
    rfl
  · obtain ⟨l, p, row, rfl, hl, yes, no⟩ := h
    have hL := T.s "LETTERS" LET (by decide +kernel)
    have hN := T.s "NO_MARK" [45] (by decide +kernel)
    have hM := T.i "MOST_LETTERS" 8 (by decide +kernel)
    refine ⟨_, pss_cons (ps_expr (pe_g (g_need_sign T) hr rfl passD (pa_cons (pv 0) (pa_cons (pv 1) (pa_cons (pe_op op_add_str (pe_gs hL) (pe_gs hN)) (pa_cons (pv 2) pa_nil))))))
      (pss_cons (ps_if (pt_cmpR op_eq (pe_ix ix_str (pv 0) (pv 1) (fun _ _ => rfl)) (pe_gs hN) (nomark _)) (pss_one (ps_ret (pe_tup (pa_cons pe_str (pa_cons (pe_op op_add (pv 1) pe_int) pa_nil))))) pss_nil)
      (pss_cons (ps_set (i := 3) sc_mark_at.nd rfl (.inl rfl) (pe_g (g_run_end T) (hr.mono (by decide)) rfl passL (pa_cons (pv 0) (pa_cons (pv 1) (pa_cons (pe_gs hL) (pa_cons (pe_gi hM) pa_nil))))))
      (pss_one (ps_ret (pe_tup (pa_cons (pe_slice sl_str (pv 0) (po_some (pv 1)) (po_some (pv 3))) (pa_cons (pv 3) pa_nil))))))), ?_⟩
    have es : (S LET ++ S [45] : Str) = S (LET ++ [45]) := by
      refine TL.ext_tl ?_
      rw [TL.tl_append]
      rfl
    refine ⟨_, rfl, _, rfl, _, _, rfl, rfl, (by decide), _, rfl, l, p, LET ++ [45], row, ?_, hl, fun hs => ?_, fun hs => ?_⟩
    · rw [← es] <;> rfl
    · obtain ⟨c, ec, hc⟩ : ∃ c, l[p]? = some c ∧ c ∈ LET ++ [45] := by
        unfold hasSign at hs
        cases e : l[p]? with
        | none =>
          rw [e] at hs
          cases hs
        | some c =>
          rw [e] at hs
          exact ⟨c, rfl, of_decide_eq_true hs⟩
      have hd : (l.drop p).head? = some c := by
        rw [List.head?_drop]
        exact ec
      refine ⟨_, rfl, _, rfl, _, _, c, rfl, rfl, sz (by rw [S_len]; exact hl), atI_nat ec, rfl, _, rfl, ite2 (fun d => ?_) (fun d => ?_)⟩
      · have d1 : V.str ⟨#[c]⟩ = V.str (S [45]) := of_decide_eq_true d
        have d2 : [c] = [45] := S_inj (V.str.inj d1)
        have d3 : c = 45 := List.head_eq_of_cons_eq d2
        subst d3
        have em : markAt l p = .ok ([], p + 1) := if_pos hd
        exact ⟨_, rfl, _, _, rfl, rfl, zl2, fun a na => yes _ _ em _ a (Same.new na) upd_same⟩
      · have d1 : c ≠ 45 := fun z => d (decide_eq_true (by rw [z]; rfl))
        have hc2 : c ∈ LET := by
          rcases List.mem_append.mp hc with z | z
          · exact z
          · exact absurd (List.mem_singleton.mp z) d1
        have hs2 : hasSign l p LET = true := by
          unfold hasSign
          rw [ec]
          exact decide_eq_true hc2
        refine ⟨_, rfl, _, rfl, l, p, LET, 8, rfl, hl, ?_⟩
        have hle := run_end_le LET l 8 p hs2
        have hp : runLen LET 8 (l.drop p) ≠ 0 := run_pos hs2
        have nh : ¬ (l.drop p).head? = some 45 := fun z => d1 (by rw [hd] at z; exact Option.some.inj z)
        have em : markAt l p = .ok ((l.drop p).take (runLen LET 8 (l.drop p)), p + runLen LET 8 (l.drop p)) := by
          unfold markAt
          rw [if_neg nh, if_neg hp]
        have cut : cutS (S l) (some ((p : Nat) : Int)) (some ((p + runLen LET 8 (l.drop p) : Nat) : Int)) = S ((l.drop p).take (runLen LET 8 (l.drop p))) := by
          rw [cut_nat (Nat.le_add_right p _) hle, Nat.add_sub_cancel_left]
        refine ⟨_, rfl, _, rfl, _, rfl, _, rfl, _, rfl, S l, rfl, sz (by rw [S_len]; exact hl), _, rfl, zl2, fun a na => ?_⟩
        rw [cut]
        exact yes _ _ em _ a (Same.new na) upd_same
    · rw [has_app] at hs
      obtain ⟨h1, h2⟩ := Bool.or_eq_false_iff.mp hs
      refine no p ?_
      unfold markAt
      rw [if_neg (fun z => by rw [(has_drop l p 45).mpr z] at h2; cases h2), if_pos (run_stop h1)]
/-! corners_told -/
def sp_corners_told (K : PySem.W.Frag) : Sp := fun vs H Q E => ∃ (l : List Nat), vs = [.str (S l)] ∧ l.length ≤ BIG ∧
  (∀ c, cornersTold l = .ok c → ∀ H', Same H H' → Q (.int (c : Nat)) H') ∧ (∀ q, cornersTold l = .error q → Err K H E "BadText" (flT 0 q))
theorem g_corners_told (T : Txt P w K mg base) : Gd P w K mg base 5 "corners_told" ["line"] (sp_corners_told K) := by
  refine gd_of (d := d_corners_told) T (by decide +kernel) (by simp [fn]) rfl (fun _ _ _ _ _ _ us hl => match us, hl with | [_], _ => rfl) fun fd F => F.ok sc_corners_told (fun vs H Q E h => ?_) fun cdv A outer s H vs Q E hr h => ?_
  · obtain ⟨l, rfl, _⟩ := h
    rfl
  · obtain ⟨l, rfl, hl, yes, no⟩ := h
    have hF := T.s "FIGURES" FIG (by decide +kernel)
    have hC := T.s "CORNERS" wCORN (by decide +kernel)
    have hr3 := hr.mono (show 3 ≤ 4 by decide)
    refine ⟨_, pss_cons (ps_set (i := 1) sc_corners_told.nd rfl (.inl rfl) (pe_g (g_need_word T) hr rfl passD (pa_cons (pv 0) (pa_cons pe_int (pa_cons (pe_gs hC) (pa_cons pe_int pa_nil))))))
      (pss_cons (ps_expr (pe_g (g_need_sign T) hr3 rfl passD (pa_cons (pv 0) (pa_cons (pv 1) (pa_cons (pe_gs hF) (pa_cons pe_int pa_nil))))))
      (pss_cons (ps_expr (pe_g (g_need_end T) hr3 rfl passD (pa_cons (pv 0) (pa_cons (pe_op op_add (pv 1) pe_int) (pa_cons pe_int pa_nil)))))
      (pss_one (ps_ret (pe_callTy call_int_str rfl (T.free "int" (by decide +kernel)) boot_int (pa_cons (pe_ix ix_str (pv 0) (pv 1) (fun _ _ => rfl)) pa_nil)))))), ?_⟩
    have ew : ∀ q, wordAt l 0 wCORN = .error q → cornersTold l = .error q := fun q z => by
      unfold cornersTold
      rw [z, bd_er]
    refine ⟨_, rfl, l, 0, wCORN, 0, rfl, hl, by decide, fun p hp H1 s1 => ?_, fun q hq => no q (ew q hq)⟩
    have ec : cornersTold l = afterWord l p ((l.drop p).head?) := by
      unfold cornersTold
      rw [hp, bd_ok]
    rw [List.head?_drop] at ec
    refine ⟨_, rfl, _, rfl, l, p, FIG, 0, rfl, hl, fun hs => ?_, fun hs => ?_⟩
    · obtain ⟨c, e, hc⟩ : ∃ c, l[p]? = some c ∧ c ∈ FIG := by
        unfold hasSign at hs
        cases e : l[p]? with
        | none =>
          rw [e] at hs
          cases hs
        | some c =>
          rw [e] at hs
          exact ⟨c, rfl, of_decide_eq_true hs⟩
      rw [e] at ec
      have ec' : cornersTold l = bd (endAt l (p + 1)) fun _ => .ok (fig c) := ec.trans (if_pos hc)
      refine ⟨_, rfl, _, rfl, _, _, rfl, rfl, l, p + 1, 0, rfl, hl, fun he => ?_, fun q hq => (no q (by rw [ec', hq, bd_er])).up s1⟩
      rw [he, bd_ok] at ec'
      exact ⟨_, rfl, _, rfl, _, _, c, rfl, rfl, sz (by rw [S_len]; exact hl), atI_nat e, _, _, rfl, fig_int c hc, by show (1 : Nat) ≤ 640; decide, yes _ ec' H1 s1⟩
    · refine (no p ?_).up s1
      rw [ec]
      unfold hasSign at hs
      cases e : l[p]? with
      | none => rfl
      | some c =>
        rw [e] at hs
        exact if_neg (of_decide_eq_false hs)
end
end K5
/-! ### the reader of a row -/
namespace K5
open PySem PySem.Spec PyProof.Rows L2
theorem shot_er0 {l : List Nat} {q : Nat} (h : wordAt l 0 wSHOT = .error q) : shotTold l = .error q := by
  unfold shotTold
  rw [h, bd_er]
section
variable {P : Program} {w : World} {K : PySem.W.Frag} {mg : Str → Option Value} {base : Heap}
/-! shot_told -/
def sp_shot_told (K : PySem.W.Frag) : Sp := fun vs H Q E => ∃ (l : List Nat) (row : Int), vs = [.str (S l), .int row] ∧ l.length ≤ BIG ∧
  (∀ x, shotTold l = .ok x → ∀ H' v, Same H H' → IsShot H' v x → Q v H') ∧ (∀ q, shotTold l = .error q → Err K H E "BadText" (flT row q))
theorem g_shot_told (T : Txt P w K mg base) : Gd P w K mg base 5 "shot_told" ["line", "row"] (sp_shot_told K) := by
  refine gd_of (d := d_shot_told) T (by decide +kernel) (by simp [fn]) rfl (fun _ _ _ _ _ _ us hl => match us, hl with | [_, _], _ => rfl) fun fd F => F.ok sc_shot_told (fun vs H Q E h => ?_) fun cdv A outer s H vs Q E hr h => ?_
  · obtain ⟨l, row, rfl, _⟩ := h
    rfl
  · obtain ⟨l, row, rfl, hl, yes, no⟩ := h
    have hS := T.s "SHOT" wSHOT (by decide +kernel)
    have hB := T.s "BLANK" wBLANK (by decide +kernel)
    refine ⟨_, pss_cons (ps_asg (pe_g (g_turn_at T) hr rfl passD (pa_cons (pv 0) (pa_cons (pe_g (g_need_word T) hr rfl passD (pa_cons (pv 0) (pa_cons pe_int (pa_cons (pe_gs hS) (pa_cons (pv 1) pa_nil))))) (pa_cons (pv 1) pa_nil))))
        (pg_tup rfl (pgs_cons (pg_name (i := 2) sc_shot_told.nd rfl (.inl rfl)) (pgs_cons (pg_name (i := 3) sc_shot_told.nd rfl (.inl rfl)) pgs_nil))))
      (pss_cons (ps_asg (pe_g (g_mark_at T) hr rfl passD (pa_cons (pv 0) (pa_cons (pe_g (g_need_word T) hr rfl passD (pa_cons (pv 0) (pa_cons (pv 3) (pa_cons (pe_gs hB) (pa_cons (pv 1) pa_nil))))) (pa_cons (pv 1) pa_nil))))
        (pg_tup rfl (pgs_cons (pg_name (i := 4) sc_shot_told.nd rfl (.inl rfl)) (pgs_cons (pg_name (i := 3) sc_shot_told.nd rfl (.inl rfl)) pgs_nil))))
      (pss_cons (ps_expr (pe_g (g_need_end T) (hr.mono (by decide)) rfl passD (pa_cons (pv 0) (pa_cons (pv 3) (pa_cons (pv 1) pa_nil)))))
      (pss_one (ps_ret (pe_tup (pa_cons (pv 2) (pa_cons (pv 4) pa_nil))))))), ?_⟩
    unfold shotTold pairTold at yes no
    refine ⟨_, rfl, _, rfl, _, rfl, l, 0, wSHOT, row, rfl, hl, by decide, fun p hp H1 s1 => ?_, fun q hq => no q (by rw [hq, bd_er])⟩
    rw [hp] at yes no
    refine ⟨_, rfl, l, p, row, rfl, hl, fun t r ht H2 a tv s2 ea it => ?_, fun q hq => (no q (by rw [bd_ok, hq, bd_er])).up s1⟩
    rw [bd_ok, ht] at yes no
    refine ⟨a, _, rfl, SqT.of ea, rfl, _, _, rfl, _, _, rfl, rfl, _, rfl, _, rfl, _, rfl, _, rfl, l, r, wBLANK, row, rfl, hl, by decide, fun p2 hp2 H3 s3 => ?_, fun q hq => (no q (by rw [bd_ok, hq, bd_er])).up (s1.trans s2)⟩
    rw [bd_ok, hp2] at yes no
    refine ⟨_, rfl, l, p2, row, rfl, hl, fun m r2 hm H4 b s4 eb => ?_, fun q hq => (no q (by rw [bd_ok, hq, bd_er])).up ((s1.trans s2).trans s3)⟩
    rw [bd_ok, hm] at yes no
    have s14 := ((s1.trans s2).trans s3).trans s4
    refine ⟨b, _, rfl, SqT.of eb, rfl, _, _, rfl, _, _, rfl, rfl, _, rfl, _, rfl, _, rfl, l, r2, row, rfl, hl, fun he => ?_, fun q hq => (no q (by rw [bd_ok, hq, bd_er])).up s14⟩
    rw [bd_ok, he, bd_ok] at yes
    refine ⟨_, rfl, _, rfl, zl2, fun c nc => yes _ rfl _ _ (s14.trans (Same.new nc)) ⟨c, tv, rfl, upd_same, ?_⟩⟩
    exact it.up ((s3.trans s4).trans (Same.new nc)).ts
/-! entry_told -/
def sp_entry_told (K : PySem.W.Frag) : Sp := fun vs H Q E => ∃ (l : List Nat) (row : Int), vs = [.str (S l), .int row] ∧ l.length ≤ BIG ∧
  (∀ x, entryTold l = .ok x → ∀ H' v, Same H H' → IsEntry H' v x → Q v H') ∧ (∀ q, entryTold l = .error q → Err K H E "BadText" (flT row q))
theorem g_entry_told (T : Txt P w K mg base) : Gd P w K mg base 5 "entry_told" ["line", "row"] (sp_entry_told K) := by
  refine gd_of (d := d_entry_told) T (by decide +kernel) (by simp [fn]) rfl (fun _ _ _ _ _ _ us hl => match us, hl with | [_, _], _ => rfl) fun fd F => F.ok sc_entry_told (fun vs H Q E h => ?_) fun cdv A outer s H vs Q E hr h => ?_
  · obtain ⟨l, row, rfl, _⟩ := h
    rfl
  · obtain ⟨l, row, rfl, hl, yes, no⟩ := h
    have hB := T.s "BLANK" wBLANK (by decide +kernel)
    refine ⟨_, pss_cons (ps_asg (pe_g (g_mark_at T) hr rfl passD (pa_cons (pv 0) (pa_cons pe_int (pa_cons (pv 1) pa_nil))))
        (pg_tup rfl (pgs_cons (pg_name (i := 2) sc_entry_told.nd rfl (.inl rfl)) (pgs_cons (pg_name (i := 3) sc_entry_told.nd rfl (.inl rfl)) pgs_nil))))
      (pss_cons (ps_asg (pe_g (g_turn_at T) hr rfl passD (pa_cons (pv 0) (pa_cons (pe_g (g_need_word T) hr rfl passD (pa_cons (pv 0) (pa_cons (pv 3) (pa_cons (pe_gs hB) (pa_cons (pv 1) pa_nil))))) (pa_cons (pv 1) pa_nil))))
        (pg_tup rfl (pgs_cons (pg_name (i := 4) sc_entry_told.nd rfl (.inl rfl)) (pgs_cons (pg_name (i := 3) sc_entry_told.nd rfl (.inl rfl)) pgs_nil))))
      (pss_cons (ps_asg (pe_g (g_mark_at T) hr rfl passD (pa_cons (pv 0) (pa_cons (pe_g (g_need_word T) hr rfl passD (pa_cons (pv 0) (pa_cons (pv 3) (pa_cons (pe_gs hB) (pa_cons (pv 1) pa_nil))))) (pa_cons (pv 1) pa_nil))))
        (pg_tup rfl (pgs_cons (pg_name (i := 5) sc_entry_told.nd rfl (.inl rfl)) (pgs_cons (pg_name (i := 3) sc_entry_told.nd rfl (.inl rfl)) pgs_nil))))
      (pss_cons (ps_expr (pe_g (g_need_end T) (hr.mono (by decide)) rfl passD (pa_cons (pv 0) (pa_cons (pv 3) (pa_cons (pv 1) pa_nil)))))
      (pss_one (ps_ret (pe_tup (pa_cons (pv 2) (pa_cons (pv 4) (pa_cons (pv 5) pa_nil))))))))), ?_⟩
    unfold entryTold pairTold at yes no
    refine ⟨_, rfl, _, rfl, l, 0, row, rfl, hl, fun m0 r0 hm0 H0 z0 s0 ez0 => ?_, fun q hq => no q (by rw [hq, bd_er])⟩
    rw [hm0, bd_ok] at yes no
    refine ⟨z0, _, rfl, SqT.of ez0, rfl, _, _, rfl, _, _, rfl, rfl, _, rfl, _, rfl, _, rfl, _, rfl, l, r0, wBLANK, row, rfl, hl, by decide, fun p hp H1 s1 => ?_, fun q hq => (no q (by rw [hq, bd_er])).up s0⟩
    rw [hp, bd_ok] at yes no
    have s01 := s0.trans s1
    refine ⟨_, rfl, l, p, row, rfl, hl, fun t r ht H2 a tv s2 ea it => ?_, fun q hq => (no q (by rw [hq, bd_er, bd_er])).up s01⟩
    rw [ht, bd_ok] at yes no
    have s02 := s01.trans s2
    refine ⟨a, _, rfl, SqT.of ea, rfl, _, _, rfl, _, _, rfl, rfl, _, rfl, _, rfl, _, rfl, _, rfl, l, r, wBLANK, row, rfl, hl, by decide, fun p2 hp2 H3 s3 => ?_, fun q hq => (no q (by rw [hq, bd_er, bd_er])).up s02⟩
    rw [hp2, bd_ok] at yes no
    have s03 := s02.trans s3
    refine ⟨_, rfl, l, p2, row, rfl, hl, fun m r2 hm H4 b s4 eb => ?_, fun q hq => (no q (by rw [hq, bd_er, bd_er])).up s03⟩
    rw [hm, bd_ok] at yes no
    have s14 := s03.trans s4
    refine ⟨b, _, rfl, SqT.of eb, rfl, _, _, rfl, _, _, rfl, rfl, _, rfl, _, rfl, _, rfl, l, r2, row, rfl, hl, fun he => ?_, fun q hq => (no q (by rw [hq, bd_er, bd_er])).up s14⟩
    rw [he, bd_ok, bd_ok] at yes
    refine ⟨_, rfl, _, rfl, _, rfl, zl3, fun c nc => yes _ rfl _ _ (s14.trans (Same.new nc)) ⟨c, tv, rfl, upd_same, ?_⟩⟩
    exact it.up ((s3.trans s4).trans (Same.new nc)).ts
end
end K5
/-! ### a list against the empty one -/
namespace K5
open PySem PySem.Spec PyProof.Rows L2
section
variable {X : Cx}
def rEqNil (K : PySem.W.Frag) : R2 := fun x y H Q => ∃ a b xs, x = .ref a ∧ y = .ref b ∧ SqL K H a xs ∧ SqL K H b [] ∧ Q (.bl xs.isEmpty) H
theorem op_eqNil (hu : X.A.units < cLine) : OpR X (compareOp .Eq) (rEqNil X.K) := by
  intro pins s σ H x y v u Q I rx ry h
  obtain ⟨a, b, xs, rfl, rfl, ha, hb, q⟩ := h
  cases rx
  cases ry
  obtain ⟨its, rv, ⟨o, n, ho, hc, _, hd⟩, _⟩ := I.list ha
  obtain ⟨jts, rw', ⟨o', n', ho', hc', _, hd'⟩, _⟩ := I.list hb
  cases rw'
  cases rv with
  | nil =>
    exact SeqAt.RcAt.lists (e := fun _ => true) ⟨o, ho, hc, n, hd⟩ ⟨o', ho', hc', n', hd'⟩ rfl hu (fun j h1 _ => absurd h1 (Nat.not_lt_zero j)) _ _ _ _ ⟨.bl true, H, I, rfl, q⟩
  | cons r rs =>
    exact SeqAt.RcAt.lists_lengths ⟨o, ho, hc, n, hd⟩ ⟨o', ho', hc', n', hd'⟩ (by simp) hu _ _ _ _ ⟨.bl false, H, I, rfl, q⟩
end
end K5
/-! ### the rows as they are gathered -/
namespace K5
open PySem PySem.Spec PyProof.Rows L2
theorem pair_len {α β : Type} {G : α → β → Prop} {l : List α} {m : List β} (h : Paired G l m) : l.length = m.length := by
  induction h with
  | nil => rfl
  | cons _ _ ih => exact congrArg Nat.succ ih
def IsPl (H0 H : Hp) (sh pr : Addr) (v : V) (p : List Entry) : Prop := ∃ a es, v = .ref a ∧ H0 a = none ∧ a ≠ sh ∧ a ≠ pr ∧ H a = some (.lst es) ∧ Paired (IsEntry H) es p
structure RowsV (H0 H : Hp) (sh pr : Addr) (s : RSt) (vs qs : List V) : Prop where
  sm : Same H0 H
  n1 : H0 sh = none
  n2 : H0 pr = none
  ne : sh ≠ pr
  e1 : H sh = some (.lst vs)
  p1 : Paired (IsShot H) vs s.shots
  e2 : H pr = some (.lst qs)
  p2 : Paired (IsPl H0 H sh pr) qs s.progs
  nd : qs.Nodup
def Rows (H0 H : Hp) (sh pr : Addr) (s : RSt) : Prop := ∃ vs qs, RowsV H0 H sh pr s vs qs
def szR (s : RSt) : Nat := s.shots.length + s.progs.length + (s.progs.map List.length).sum
theorem IsPl.up {H0 H H' : Hp} {sh pr : Addr} {v : V} {p : List Entry} (e : Same H H') (h : IsPl H0 H sh pr v p) : IsPl H0 H' sh pr v p :=
  let ⟨a, es, h1, h2, h3, h4, h5, h6⟩ := h
  ⟨a, es, h1, h2, h3, h4, e _ _ h5, L2.Paired.mapP h6 fun _ _ q => IsEntry.up e.ts q⟩
theorem RowsV.up {H0 H H' : Hp} {sh pr : Addr} {s : RSt} {vs qs : List V} (e : Same H H') (h : RowsV H0 H sh pr s vs qs) : RowsV H0 H' sh pr s vs qs :=
  ⟨h.sm.trans e, h.n1, h.n2, h.ne, e _ _ h.e1, L2.Paired.mapP h.p1 fun _ _ q => IsShot.up e.ts q, e _ _ h.e2, L2.Paired.mapP h.p2 fun _ _ q => IsPl.up e q, h.nd⟩
theorem Rows.up {H0 H H' : Hp} {sh pr : Addr} {s : RSt} (e : Same H H') (h : Rows H0 H sh pr s) : Rows H0 H' sh pr s := let ⟨vs, qs, r⟩ := h; ⟨vs, qs, r.up e⟩
theorem Rows.sm {H0 H : Hp} {sh pr : Addr} {s : RSt} (h : Rows H0 H sh pr s) : Same H0 H := let ⟨_, _, r⟩ := h; r.sm
theorem RowsV.shot {H0 H : Hp} {sh pr : Addr} {s : RSt} {vs qs : List V} {v : V} {x : Shot} (h : RowsV H0 H sh pr s vs qs) (hx : IsShot H v x) :
    RowsV H0 (upd H sh (.lst (vs ++ [v]))) sh pr ⟨s.shots ++ [x], s.progs⟩ (vs ++ [v]) qs := by
  have up : TupS H (upd H sh (.lst (vs ++ [v]))) := TupS.lst h.e1
  refine ⟨h.sm.put h.n1, h.n1, h.n2, h.ne, upd_same, pair_snoc (L2.Paired.mapP h.p1 fun _ _ q => IsShot.up up q) (hx.up up), ?_, ?_, h.nd⟩
  · rw [upd_ne (Ne.symm h.ne)]
    exact h.e2
  · refine L2.Paired.mapP h.p2 fun _ _ ⟨a, es, q1, q2, q3, q4, q5, q6⟩ => ⟨a, es, q1, q2, q3, q4, ?_, L2.Paired.mapP q6 fun _ _ q => IsEntry.up up q⟩
    rw [upd_ne q3]
    exact q5
theorem RowsV.prog {H0 H : Hp} {sh pr : Addr} {s : RSt} {vs qs : List V} {a : Addr} (h : RowsV H0 H sh pr s vs qs) (na : H a = none) :
    RowsV H0 (upd (upd H a (.lst [])) pr (.lst (qs ++ [.ref a]))) sh pr ⟨s.shots, s.progs ++ [[]]⟩ vs (qs ++ [.ref a]) := by
  have g := h.up (Same.new na (o := .lst []))
  have nsh : a ≠ sh := Ne.symm (ne_of_none h.e1 na)
  have npr : a ≠ pr := Ne.symm (ne_of_none h.e2 na)
  have na0 : H0 a = none := by
    cases e : H0 a with
    | none => rfl
    | some u =>
      rw [h.sm _ _ e] at na
      cases na
  have up : TupS (upd H a (.lst [])) (upd (upd H a (.lst [])) pr (.lst (qs ++ [.ref a]))) := TupS.lst g.e2
  refine ⟨g.sm.put h.n2, h.n1, h.n2, h.ne, ?_, L2.Paired.mapP g.p1 fun _ _ q => IsShot.up up q, upd_same, pair_snoc (L2.Paired.mapP g.p2 ?_) ⟨a, [], rfl, na0, nsh, npr, ?_, .nil⟩, ?_⟩
  · rw [upd_ne h.ne]
    exact g.e1
  · rintro _ _ ⟨b, es, q1, q2, q3, q4, q5, q6⟩
    refine ⟨b, es, q1, q2, q3, q4, ?_, L2.Paired.mapP q6 fun _ _ q => IsEntry.up up q⟩
    rw [upd_ne q4]
    exact q5
  · rw [upd_ne npr]
    exact upd_same
  · refine List.nodup_append.mpr ⟨h.nd, by simp, fun x hx y hy z => ?_⟩
    rw [List.mem_singleton.mp hy] at z
    subst z
    obtain ⟨i, hi, e⟩ := List.mem_iff_getElem.mp hx
    obtain ⟨_, _, b, es, q1, _, _, _, q5, _⟩ := pair_get h.p2 (i := i) (a := V.ref a) (by rw [List.getElem?_eq_getElem hi, e])
    cases q1
    rw [na] at q5
    cases q5
theorem pair_split {α β : Type} {G : α → β → Prop} {l : List α} {m : List β} (h : Paired G l m) (hm : m ≠ []) : ∃ l0 a m0 b, l = l0 ++ [a] ∧ m = m0 ++ [b] ∧ Paired G l0 m0 ∧ G a b := by
  induction h with
  | nil => exact absurd rfl hm
  | @cons a b l m r t ih =>
    cases t with
    | nil => exact ⟨[], a, [], b, rfl, rfl, .nil, r⟩
    | cons r2 t2 =>
      obtain ⟨l0, a1, m0, b1, e1, e2, e3, e4⟩ := ih (by simp)
      exact ⟨a :: l0, a1, b :: m0, b1, by rw [e1]; rfl, by rw [e2]; rfl, .cons r e3, e4⟩
theorem addEntry_snoc (e : Entry) : ∀ (l : List (List Entry)) (p : List Entry), addEntry e (l ++ [p]) = l ++ [p ++ [e]]
  | [], _ => rfl
  | [_], _ => rfl
  | a :: b :: r, p => by
    show a :: addEntry e (b :: (r ++ [p])) = a :: b :: (r ++ [p ++ [e]])
    exact congrArg (a :: ·) (addEntry_snoc e (b :: r) p)
theorem RowsV.entry {H0 H : Hp} {sh pr : Addr} {s : RSt} {vs qs : List V} (h : RowsV H0 H sh pr s vs qs) (hp : s.progs ≠ []) :
    ∃ qs0 a es p, qs = qs0 ++ [.ref a] ∧ H a = some (.lst es) ∧ es.length = p.length ∧ p ∈ s.progs ∧ ∀ H2 v e, Same H H2 → IsEntry H2 v e → RowsV H0 (upd H2 a (.lst (es ++ [v]))) sh pr ⟨s.shots, addEntry e s.progs⟩ vs qs := by
  obtain ⟨l0, v0, m0, p, rfl, ep, h0, a, es, rfl, q2, q3, q4, q5, q6⟩ := pair_split h.p2 hp
  refine ⟨l0, a, es, p, rfl, q5, pair_len q6, by rw [ep]; simp, fun H2 v e s2 iv => ?_⟩
  have g := h.up s2
  have q5' := s2 _ _ q5
  have up : TupS H2 (upd H2 a (.lst (es ++ [v]))) := TupS.lst q5'
  refine ⟨g.sm.put q2, h.n1, h.n2, h.ne, ?_, L2.Paired.mapP g.p1 fun _ _ q => IsShot.up up q, ?_, ?_, h.nd⟩
  · rw [upd_ne (Ne.symm q3)]
    exact g.e1
  · rw [upd_ne (Ne.symm q4)]
    exact g.e2
  · rw [ep, addEntry_snoc]
    refine pair_snoc ?_ ⟨a, _, rfl, q2, q3, q4, upd_same, pair_snoc (L2.Paired.mapP q6 fun _ _ q => IsEntry.up (s2.ts.trans up) q) (iv.up up)⟩
    refine pair_of (pair_len h0) fun i x y e1 e2 => ?_
    obtain ⟨y', ey, b, es', z1, z2, z3, z4, z5, z6⟩ := pair_get h0 e1
    rw [e2] at ey
    cases ey
    refine ⟨b, es', z1, z2, z3, z4, ?_, L2.Paired.mapP z6 fun _ _ q => IsEntry.up (s2.ts.trans up) q⟩
    have nb : b ≠ a := fun z => by
      have := (List.nodup_append.mp h.nd).2.2 x (List.mem_of_getElem? e1) (.ref a) (List.mem_singleton.mpr rfl)
      exact this (by rw [z1, z])
    rw [upd_ne nb]
    exact s2 _ _ z5
theorem Rows.nil {H0 H : Hp} {sh pr : Addr} (e : Same H0 H) (n1 : H0 sh = none) (n2 : H0 pr = none) (ne : sh ≠ pr) (e1 : H sh = some (.lst [])) (e2 : H pr = some (.lst [])) : Rows H0 H sh pr ⟨[], []⟩ :=
  ⟨[], [], e, n1, n2, ne, e1, .nil, e2, .nil, List.nodup_nil⟩
theorem pair_nil {α β : Type} {G : α → β → Prop} {l : List α} {m : List β} (h : Paired G l m) : l.isEmpty = decide (m = []) := by
  cases h <;> rfl
theorem len_mem : ∀ (l : List (List Entry)) (p : List Entry), p ∈ l → p.length ≤ (l.map List.length).sum
  | [], _, h => nomatch h
  | a :: r, p, h => by
    simp only [List.map_cons, List.sum_cons]
    rcases List.mem_cons.mp h with z | z
    · subst z
      omega
    · have := len_mem r p z
      omega
theorem szR_mem {s : RSt} {p : List Entry} (h : p ∈ s.progs) : p.length ≤ szR s := by
  have := len_mem _ _ h
  unfold szR
  omega
end K5
/-! ### a row, read -/
namespace K5
open PySem PySem.Spec PyProof.Rows L2
theorem cut_one (l : List Nat) : cutS (S l) none (some 1) = S (l.take 1) := by
  cases l with
  | nil => rfl
  | cons a r =>
    unfold cutS
    have e1 : HT.sIx (S (a :: r)).length (S (a :: r)).length (some 1) = 1 := by
      rw [S_len]
      unfold HT.sIx
      simp
    have e2 : HT.sIx (S (a :: r)).length 0 none = 0 := rfl
    rw [e1, e2]
    rfl
theorem take_one (l : List Nat) (c : Nat) : V.str (S (l.take 1)) = V.str (S [c]) ↔ l.head? = some c := by
  cases l with
  | nil =>
    refine ⟨fun h => ?_, fun h => by cases h⟩
    have := S_inj (V.str.inj h)
    cases this
  | cons a r =>
    refine ⟨fun h => ?_, fun h => ?_⟩
    · have := S_inj (V.str.inj h)
      exact congrArg some (List.head_eq_of_cons_eq this)
    · cases h
      rfl
section
variable {P : Program} {w : World} {K : PySem.W.Frag} {mg : Str → Option Value} {base : Heap}
def sp_row_told (K : PySem.W.Frag) : Sp := fun vs H Q E => ∃ (l : List Nat) (row : Int) (sh pr : Addr) (s : RSt) (H0 : Hp), vs = [.str (S l), .int row, .ref sh, .ref pr] ∧ l.length ≤ BIG ∧ Rows H0 H sh pr s ∧ szR s < BIG ∧
  (∀ s', rowTold l s = .ok s' → ∀ H', Rows H0 H' sh pr s' → Q .non H') ∧ (∀ q, rowTold l s = .error q → Err K H0 E "BadText" (flT row q))
theorem g_row_told (T : Txt P w K mg base) : Gd P w K mg base 6 "row_told" ["line", "row", "shots", "programs"] (sp_row_told K) := by
  refine gd_of (d := d_row_told) T (by decide +kernel) (by simp [fn]) rfl (fun _ _ _ _ _ _ us hl => match us, hl with | [_, _, _, _], _ => rfl) fun fd F => F.ok sc_row_told (fun vs H Q E h => ?_) fun cdv A outer s H vs Q E hr h => ?_
  · obtain ⟨l, row, sh, pr, s, H0, rfl, hl, ⟨us, qs, R⟩, hz, yes, no⟩ := h
    rfl
  · obtain ⟨l, row, sh, pr, s, H0, rfl, hl, ⟨us, qs, R⟩, hz, yes, no⟩ := h
    have h_PROGRAM := T.s "PROGRAM" wPROG (by decide +kernel)
    refine ⟨_, (pss_one (ps_if (PW.pt (pw_and (pt_cmpR (op_eqNil hr.units0) (pv 3) (pe_lst pa_nil) (nomark _)) (pw_and1 (pt_cmpR op_ne (pe_slice sl_str (pv 0) po_none (po_some pe_int)) (pe_ix ix_str (pe_gs h_PROGRAM) pe_int (fun _ _ => rfl)) (nomark _))))) (pss_one (ps_expr (pe_bm PySem.F.plainAttrs_list PySem.F.slot_list_append PySem.F.type_list_append mt_append (pv 2) (pa_cons (pe_g (g_shot_told T) (hr.mono (by decide)) rfl passD (pa_cons (pv 0) (pa_cons (pv 1) pa_nil))) pa_nil)))) (pss_one (ps_if (PW.pt (pw_and (pt_cmpR (op_eqNil hr.units0) (pv 3) (pe_lst pa_nil) (nomark _)) (pw_and1 (pt_cmpR (op_eqNil hr.units0) (pv 2) (pe_lst pa_nil) (nomark _))))) (pss_one (ps_rs (rs_text T) (hr.mono (by decide)) rfl (takes_of (E := E) rfl rfl rfl rfl) rfl (pa_cons (pv 1) (pa_cons pe_int pa_nil)))) (pss_one (ps_if (pt_cmpR (op_eqNil hr.units0) (pv 3) (pe_lst pa_nil) (nomark _)) (pss_cons (ps_expr (pe_g (g_need_end T) (hr.mono (by decide)) rfl passD (pa_cons (pv 0) (pa_cons (pe_g (g_need_word T) (hr.mono (by decide)) rfl passD (pa_cons (pv 0) (pa_cons pe_int (pa_cons (pe_gs h_PROGRAM) (pa_cons (pv 1) pa_nil))))) (pa_cons (pv 1) pa_nil)))))
      (pss_one (ps_expr (pe_bm PySem.F.plainAttrs_list PySem.F.slot_list_append PySem.F.type_list_append mt_append (pv 3) (pa_cons (pe_lst pa_nil) pa_nil))))) (pss_one (ps_if (pt_cmpR op_eq (pv 0) (pe_gs h_PROGRAM) (nomark _)) (pss_one (ps_expr (pe_bm PySem.F.plainAttrs_list PySem.F.slot_list_append PySem.F.type_list_append mt_append (pv 3) (pa_cons (pe_lst pa_nil) pa_nil)))) (pss_one (ps_expr (pe_bm PySem.F.plainAttrs_list PySem.F.slot_list_append PySem.F.type_list_append mt_append (pe_ix ix_list (pv 3) (pe_un un_neg pe_int) (fun _ _ => rfl)) (pa_cons (pe_g (g_entry_told T) (hr.mono (by decide)) rfl passD (pa_cons (pv 0) (pa_cons (pv 1) pa_nil))) pa_nil)))))))))))), ?_⟩
    have z1 : us.length = s.shots.length := pair_len R.p1
    have z2 : qs.length = s.progs.length := pair_len R.p2
    have ui := pair_nil R.p1
    have qi := pair_nil R.p2
    have szs : us.length < sizeLine := szl (by unfold szR at hz; omega)
    have szq : qs.length < sizeLine := szl (by unfold szR at hz; omega)
    have hd1 : (¬ V.str (S (l.take 1)) = V.str (S [112])) ↔ l.head? ≠ some 112 := not_congr (take_one l 112)
    refine ⟨_, rfl, zl0, fun a1 n1 => ?_⟩
    have s1 := Same.new n1 (o := .lst [])
    have R1 := R.up s1
    refine ⟨pr, a1, qs, rfl, rfl, SqL.of R1.e2, SqL.of upd_same, _, rfl, ite2 (fun c => ?_) (fun c => ?_)⟩
    · rw [qi] at c
      have c0 : s.progs = [] := of_decide_eq_true c
      refine ⟨_, rfl, _, rfl, S l, rfl, sz (by rw [S_len]; exact hl), _, _, 112, rfl, rfl, (by decide), rfl, rfl, _, rfl, ite2 (fun d => ?_) (fun d => ?_)⟩
      · rw [cut_one] at d
        have d0 : l.head? ≠ some 112 := hd1.mp (fun z => by rw [show (V.str ⟨#[112]⟩ : V) = V.str (S [112]) from rfl, z] at d; simp at d)
        have er : ∀ s', rowTold l s = s' → bd (shotTold l) (fun x => .ok ⟨s.shots ++ [x], s.progs⟩) = s' := fun s' e => by
          rw [← e]
          unfold rowTold
          rw [if_pos ⟨c0, d0⟩]
        refine ⟨_, rfl, .inl ⟨rfl, _, SqL.of R1.e1⟩, _, rfl, _, rfl, l, row, rfl, hl, fun x hx H2 v s2 iv => ?_, fun q hq => (no q ?_).up (R.sm.trans s1)⟩
        · have R2 := R1.up s2
          refine ⟨sh, _, _, rfl, rfl, R2.e1, szs, yes _ ?_ _ ⟨_, _, R2.shot iv⟩⟩
          rw [← er _ rfl, hx, bd_ok]
        · rw [← er _ rfl, hq, bd_er]
      · rw [cut_one] at d
        have d0 : l.head? = some 112 := (take_one l 112).mp (Decidable.byContradiction fun z => d (by rw [show (V.str ⟨#[112]⟩ : V) = V.str (S [112]) from rfl, decide_eq_false z]; rfl))
        have n0 : ¬ (s.progs = [] ∧ l.head? ≠ some 112) := fun z => z.2 d0
        refine ⟨_, rfl, zl0, fun a2 n2 => ?_⟩
        have s2 := Same.new n2 (o := .lst [])
        have R2 := R1.up s2
        refine ⟨pr, a2, qs, rfl, rfl, SqL.of R2.e2, SqL.of upd_same, _, rfl, ite2 (fun _ => ?_) (fun c => ?_)⟩
        · refine ⟨_, rfl, zl0, fun a3 n3 => ?_⟩
          have s3 := Same.new n3 (o := .lst [])
          have R3 := R2.up s3
          refine ⟨sh, a3, us, rfl, rfl, SqL.of R3.e1, SqL.of upd_same, _, rfl, ite2 (fun f => ?_) (fun f => ?_)⟩
          · rw [ui] at f
            have f0 : s.shots = [] := of_decide_eq_true f
            refine ⟨_, rfl, made2 ((no 0 ?_).up R3.sm)⟩
            unfold rowTold
            rw [if_neg n0, if_pos ⟨c0, f0⟩]
          · rw [ui] at f
            have f0 : ¬ s.shots = [] := fun z => f (decide_eq_true z)
            have n1' : ¬ (s.progs = [] ∧ s.shots = []) := fun z => f0 z.2
            have er : ∀ s', rowTold l s = s' → (bd (wordAt l 0 wPROG) fun a => bd (endAt l a) fun _ => .ok ⟨s.shots, s.progs ++ [[]]⟩) = s' := fun s' e => by
              rw [← e]
              unfold rowTold
              rw [if_neg n0, if_neg n1', if_pos c0]
            refine ⟨_, rfl, zl0, fun a4 n4 => ?_⟩
            have s4 := Same.new n4 (o := .lst [])
            have R4 := R3.up s4
            refine ⟨pr, a4, qs, rfl, rfl, SqL.of R4.e2, SqL.of upd_same, _, rfl, ite2 (fun _ => ?_) (fun c => ?_)⟩
            · refine ⟨_, rfl, _, rfl, _, rfl, l, 0, wPROG, row, rfl, hl, by decide, fun p hp H5 s5 => ?_, fun q hq => (no q ?_).up R4.sm⟩
              · have R5 := R4.up s5
                refine ⟨_, rfl, l, p, row, rfl, hl, fun he => ?_, fun q hq => (no q ?_).up R5.sm⟩
                · refine ⟨_, rfl, .inl ⟨rfl, _, SqL.of R5.e2⟩, zl0, fun a6 n6 => ?_⟩
                  refine ⟨pr, _, _, rfl, rfl, (R5.up (Same.new n6)).e2, szq, yes _ ?_ _ ⟨_, _, R5.prog n6⟩⟩
                  rw [← er _ rfl, hp, bd_ok, he, bd_ok]
                · rw [← er _ rfl, hp, bd_ok, hq, bd_er]
              · rw [← er _ rfl, hq, bd_er]
            · rw [qi] at c
              exact absurd (decide_eq_true c0) c
        · rw [qi] at c
          exact absurd (decide_eq_true c0) c
    · rw [qi] at c
      have c0 : ¬ s.progs = [] := fun z => c (decide_eq_true z)
      have n0 : ¬ (s.progs = [] ∧ l.head? ≠ some 112) := fun z => c0 z.1
      have n1' : ¬ (s.progs = [] ∧ s.shots = []) := fun z => c0 z.1
      refine ⟨_, rfl, zl0, fun a2 n2 => ?_⟩
      have s2 := Same.new n2 (o := .lst [])
      have R2 := R1.up s2
      refine ⟨pr, a2, qs, rfl, rfl, SqL.of R2.e2, SqL.of upd_same, _, rfl, ite2 (fun c => ?_) (fun _ => ?_)⟩
      · rw [qi] at c
        exact absurd (of_decide_eq_true c) c0
      · refine ⟨_, rfl, zl0, fun a3 n3 => ?_⟩
        have s3 := Same.new n3 (o := .lst [])
        have R3 := R2.up s3
        refine ⟨pr, a3, qs, rfl, rfl, SqL.of R3.e2, SqL.of upd_same, _, rfl, ite2 (fun c => ?_) (fun _ => ?_)⟩
        · rw [qi] at c
          exact absurd (of_decide_eq_true c) c0
        · refine ⟨_, rfl, rfl, _, rfl, ite2 (fun g => ?_) (fun g => ?_)⟩
          · have g0 : l = wPROG := S_inj (V.str.inj (of_decide_eq_true g))
            refine ⟨_, rfl, .inl ⟨rfl, _, SqL.of R3.e2⟩, zl0, fun a6 n6 => ?_⟩
            refine ⟨pr, _, _, rfl, rfl, (R3.up (Same.new n6)).e2, szq, yes _ ?_ _ ⟨_, _, R3.prog n6⟩⟩
            unfold rowTold
            rw [if_neg n0, if_neg n1', if_neg c0, if_pos g0]
          · have g0 : ¬ l = wPROG := fun z => g (decide_eq_true (by rw [z]))
            obtain ⟨qs0, a, es, p, rfl, ea, le, mp, k⟩ := R3.entry c0
            have er : ∀ s', rowTold l s = s' → (bd (entryTold l) fun e => .ok ⟨s.shots, addEntry e s.progs⟩) = s' := fun s' e => by
              rw [← e]
              unfold rowTold
              rw [if_neg n0, if_neg n1', if_neg c0, if_neg g0]
            refine ⟨_, rfl, _, rfl, pr, _, _, _, rfl, rfl, SqL.of R3.e2, atI_last _ _, .inl ⟨rfl, _, SqL.of ea⟩, _, rfl, _, rfl, l, row, rfl, hl, fun e he H4 v s4 iv => ?_, fun q hq => (no q ?_).up R3.sm⟩
            · refine ⟨a, es, _, rfl, rfl, s4 _ _ ea, szl ?_, yes _ ?_ _ ⟨_, _, k H4 v e s4 iv⟩⟩
              · have := szR_mem mp
                omega
              · rw [← er _ rfl, he, bd_ok]
            · rw [← er _ rfl, hq, bd_er]
end
end K5
/-! ### sorted of a tuple of whole numbers; whole numbers as data -/
namespace K5
open PySem PySem.Spec PyProof.Rows L2
theorem perm_of_map {a b : List Nat} (h : (a.map fun n : Nat => (n : Int)).Perm (b.map fun n : Nat => (n : Int))) : a.Perm b := by
  have z := h.map Int.toNat
  rw [List.map_map, List.map_map] at z
  have e : (Int.toNat ∘ fun n : Nat => (n : Int)) = id := funext fun n => Int.toNat_natCast n
  rw [e, List.map_id, List.map_id] at z
  exact z
theorem rg_sorted (n : Nat) : ((List.range n).map fun k : Nat => (k : Int)).Pairwise (· ≤ ·) :=
  List.pairwise_map.mpr (List.pairwise_lt_range.imp fun {a b} h => by omega)
/-- sorted, it is the first numbers just if it is these in some order -/
theorem sort_rg {t : List Nat} {ns : List Int} (h1 : ns.Perm (t.map fun n : Nat => (n : Int))) (h2 : ns.Pairwise (· ≤ ·)) (n : Nat) :
    decide (ns = (List.range n).map fun k : Nat => (k : Int)) = decide (t.Perm (List.range n)) := by
  rw [decide_eq_decide]
  refine ⟨fun e => perm_of_map (h1.symm.trans (by rw [e])), fun p => ?_⟩
  exact List.Perm.eq_of_pairwise (fun a b _ _ x y => Int.le_antisymm x y) h2 (rg_sorted n) (h1.trans (p.map _))
/-! data of whole numbers -/
theorem eqv_ints : ∀ a b : List Int, PyData.eqvAll (a.map .int) (b.map .int) = decide (a = b)
  | [], [] => rfl
  | [], _ :: _ => rfl
  | _ :: _, [] => rfl
  | x :: a, y :: b => by
    show (PyData.eqv (.int x) (.int y) && PyData.eqvAll (a.map .int) (b.map .int)) = _
    rw [eqv_ints a b, Bool.eq_iff_iff]
    simp [PyData.eqv]
theorem dpAll_ints {K : PySem.W.Frag} {H : Hp} : ∀ a : List Int, DpAll K H (a.map V.int) (a.map .int)
  | [] => .nil
  | x :: a => .cons (.int x) (dpAll_ints a)
theorem canLay_ints : ∀ a : List Int, PyData.canLayAll0 (a.map .int) = true
  | [] => by simp [PyData.canLayAll0]
  | x :: a => by simp [PyData.canLayAll0, PyData.canLay0, canLay_ints a]
theorem shaped_ints (a : List Int) : SeqAt.shaped (.list (a.map .int)) = true := by
  unfold SeqAt.shaped
  simp only [PyData.canLay0, canLay_ints, Bool.true_and, PyData.depth, PySem.W.depth_ints]
  decide
section
variable {X : Cx}
/-- sorted(t), t a tuple of few whole numbers -/
def rSortedTI (K : PySem.W.Frag) : List V → Hp → VK → Prop := fun vs H Q => ∃ (a : Addr) (ns : List Int), vs = [V.ref a] ∧ SqT K H a (ns.map V.int) ∧ ns.length < 64 ∧
  ∀ (ms : List Int) (p : Addr), ms.Perm ns → ms.Pairwise (· ≤ ·) → H p = none → Q (.ref p) (upd H p (.lst (ms.map V.int)))
theorem cr_sortedTI : CallR X (.builtin "sorted") (rSortedTI X.K) := by
  intro pins s σ H vs us Q I r h
  obtain ⟨a, ns, rfl, hs, h64, q⟩ := h
  obtain ⟨its, rv, ⟨o, ho, hc, n, hd⟩, _⟩ := I.tuple hs
  have hi := rv.ints
  have lz : its.length < 64 := by
    have z := rv.length
    rw [List.length_map] at z
    omega
  have lz' : its.length ≤ sizeLine := Nat.le_trans (Nat.le_of_lt lz) (by decide)
  rw [Vals.ref1 r]
  refine Calls.call_function_entry kind_sorted plain_sorted entry_sorted (args_sorted1 _) (?_ : wpAny _ _ (Builtin.«sorted» _) _ _ _)
  unfold Builtin.«sorted»
  refine wpAny_bind (m := checkCount "sorted" 1 1 _) (wpAny_pure (wpAny_bind (wpAny_collect_seq a (.inr rfl) ho hc hd (fun h' hk => ?_) (by simpa using lz'))))
  have e0 : its.toArray.toList = its := by simp
  rw [e0]
  have I1 : Inv X pins σ H { s with heap := h' } := I.kept (t' := s.toks) hk
  refine wpAny_bind (wpAny_newList ?_ lz')
  have hoL : (h'.push (seqObj "list" its.toArray 0)).get? h'.objs.size = some (seqObj "list" its.toArray 0) := Heap.get?_push_size _ rfl
  show wpAny _ _ _ _ _ { s with heap := h'.push (seqObj "list" its.toArray 0) }
  refine wpAny_bind (wpAny_holding (wpAny_call_entry slot_list_sort ⟨_, hoL, rfl⟩ entry_list_sort (list_sort_tree hoL hi lz fun out ms k1 k2 k3 => ⟨_, rfl, wpAny_pure ⟨_, rfl, ?_⟩⟩) (args_list_sort _)))
  obtain ⟨e', he'⟩ := sortedHeap_at (vs := its) (out := out) hoL
  have hlen : (ms.map V.int).length ≤ sizeLine := by
    rw [List.length_map, k2.length_eq]
    exact Nat.le_trans (Nat.le_of_lt h64) (by decide)
  refine ⟨.ref h'.objs.size, upd H h'.objs.size (.lst (ms.map V.int)), I1.laid (t' := s.toks) (fun b u e => ?_) (Nat.le_refl _)
    (show ObjOk X.prog X.w _ _ _ (.lst (ms.map V.int)) from ⟨hlen, out.toList, e', vals_of_ints k1, by rw [Array.toArray_toList]; exact he'⟩), rfl, q ms _ k2 k3 (I1.hok.fresh (Nat.le_refl _))⟩
  have hb : b < h'.objs.size := Heap.lt_size e
  exact (sortedHeap_old (Nat.ne_of_lt hb) (by rw [size_push']; exact Nat.lt_succ_of_lt hb)).trans (Heap.get?_push_of_some _ e)
end
end K5
/-! ### is it a turn, a mark, a shot, an entry, a program -/
namespace K5
open PySem PySem.Spec PyProof.Rows L2
theorem call_isi' {X : Cx} {K : PySem.W.Frag} (h : X.K = K) : CallR X (.builtin "isinstance") (rIsi K) := h ▸ call_isi
theorem ix_tup' {X : Cx} {K : PySem.W.Frag} (h : X.K = K) : IxR X (rIxT K) := h ▸ ix_tup
theorem ix_list' {X : Cx} {K : PySem.W.Frag} (h : X.K = K) : IxR X (rIxL K) := h ▸ ix_list
def rTupOf (K : PySem.W.Frag) : List V → Hp → VK → Prop := fun xs H Q => ∃ p ys, xs = [V.ref p] ∧ ((SqL K H p ys ∧ ∀ l, H l = none → Q (.ref l) (upd H l (.tup ys))) ∨ (SqT K H p ys ∧ Q (.ref p) H))
theorem call_tuple_of' {X : Cx} {K : PySem.W.Frag} (h : X.K = K) : CallR X (.type "tuple") (rTupOf K) := h ▸ call_tuple_of
def NoTup (K : PySem.W.Frag) (H : Hp) (v : V) : Prop := ∃ t, TyX K H v t ∧ PySem.W.kitOne K t (.type "tuple") = some false
section
variable {P : Program} {w : World} {K : PySem.W.Frag} {mg : Str → Option Value} {base : Heap}
/-! is_corners -/
def sp_is_corners : Sp := fun vs H Q _ => ∃ i : Int, vs = [.int i] ∧ Q (.bl (decide (2 ≤ i ∧ i ≤ 6))) H
theorem g_is_corners (T : Txt P w K mg base) : Gd P w K mg base 1 "is_corners" ["thing"] (sp_is_corners) := by
  refine gd_of (d := d_is_corners) T (by decide +kernel) (by simp [fn]) rfl (fun _ _ _ _ _ _ us hl => match us, hl with | [_], _ => rfl) fun fd F => F.ok sc_is_corners (fun vs H Q E h => ?_) fun cdv A outer s H vs Q E hr h => ?_
  · obtain ⟨i, rfl, q⟩ := h
    rfl
  · obtain ⟨i, rfl, q⟩ := h
    have h_LEAST_CORNERS := T.i "LEAST_CORNERS" 2 (by decide +kernel)
    have h_MOST_CORNERS := T.i "MOST_CORNERS" 6 (by decide +kernel)
    refine ⟨_, (pss_one (ps_ret (pe_and (pe_callB (call_isi' (K := K) rfl) rfl (T.free "isinstance" (by decide +kernel)) boot_isi (pa_cons (pv 0) (pa_cons (pe_bltn (v := .ty "int") rfl (T.free "int" (by decide +kernel)) boot_int rfl) pa_nil))) (pe_and (pe_not (pe_callB (call_isi' (K := K) rfl) rfl (T.free "isinstance" (by decide +kernel)) boot_isi (pa_cons (pv 0) (pa_cons (pe_bltn (v := .ty "bool") rfl (T.free "bool" (by decide +kernel)) boot_bool rfl) pa_nil)))) (pe_one (pe_chain op_le op_le (pe_gi h_LEAST_CORNERS) (pv 0) (pe_gi h_MOST_CORNERS))))))), ?_⟩
    refine ⟨_, rfl, _, .ty "int", _, .type "int", true, rfl, .ty _, .base (.int _), kit_ty (by decide +kernel), true, rfl, ?_⟩
    refine ⟨_, rfl, _, .ty "bool", _, .type "bool", false, rfl, .ty _, .base (.int _), kit_ty (by decide +kernel), false, rfl, true, rfl, ?_⟩
    refine ⟨_, rfl, _, _, rfl, rfl, _, rfl, ite2 (fun c => ?_) (fun c => ?_)⟩
    · have c1 : (2 : Int) ≤ i := of_decide_eq_true c
      refine ⟨_, _, rfl, rfl, ?_⟩
      have e : decide (i ≤ 6) = decide (2 ≤ i ∧ i ≤ 6) := by
        rw [decide_eq_decide]
        exact ⟨fun h => ⟨c1, h⟩, fun h => h.2⟩
      rw [← e] at q
      exact q
    · have c1 : ¬ (2 : Int) ≤ i := fun h => c (decide_eq_true h)
      have e : decide (2 ≤ i ∧ i ≤ 6) = false := decide_eq_false fun h => c1 h.1
      rw [e] at q
      exact q
/-! is_any_turn -/
def sp_is_any_turn (K : PySem.W.Frag) : Sp := fun vs H Q _ => ∃ v, vs = [v] ∧ ((∃ t, IsTurn H v t ∧ t.length ≤ BIG ∧ ∀ H', Same H H' → Q (.bl (isAnyTurn t)) H') ∨ (NoTup K H v ∧ Q (.bl false) H))
theorem g_is_any_turn (T : Txt P w K mg base) : Gd P w K mg base 2 "is_any_turn" ["thing"] (sp_is_any_turn K) := by
  refine gd_of (d := d_is_any_turn) T (by decide +kernel) (by simp [fn]) rfl (fun _ _ _ _ _ _ us hl => match us, hl with | [_], _ => rfl) fun fd F => F.ok sc_is_any_turn (fun vs H Q E h => ?_) fun cdv A outer s H vs Q E hr h => ?_
  · obtain ⟨v, rfl, h⟩ := h
    rfl
  · obtain ⟨v, rfl, h⟩ := h
    refine ⟨_, (pss_cons (ps_if (PW.pt (pw_or (pt_not (pt_val (pe_callB (call_isi' (K := K) rfl) rfl (T.free "isinstance" (by decide +kernel)) boot_isi (pa_cons (pv 0) (pa_cons (pe_bltn (v := .ty "tuple") rfl (T.free "tuple" (by decide +kernel)) boot_tuple rfl) pa_nil))))) (pw_or1 (pt_not (pt_val (pe_g (g_is_corners T) (hr.mono (by decide)) rfl passL (pa_cons (pe_callB call_len_seq rfl (T.free "len" (by decide +kernel)) boot_len (pa_cons (pv 0) pa_nil)) pa_nil))))))) (pss_one (ps_ret pe_bl)) pss_nil)
      (pss_cons (ps_if (pt_not (pt_val (pe_callB (cr_all rfl) rfl (T.free "all" (by decide +kernel)) boot_all (pa_cons (pe_lc (own := [("place", 1)]) (g := gName 1) (tt := tYes) rfl sc_is_any_turn.nd (pi_tup (pv 0)) (blkOk_by (N := n_is_any_turn) (sc := defScope s_is_any_turn) (by decide +kernel)) (fun _ _ _ _ _ => pg_name (i := 1) sc_is_any_turn.nd rfl (.inl rfl)) (fun _ _ _ _ _ => pts_nil) (fun _ _ _ _ _ => (pe_and (pe_callB (call_isi' (K := K) rfl) rfl (T.free "isinstance" (by decide +kernel)) boot_isi (pa_cons (pv 1) (pa_cons (pe_bltn (v := .ty "int") rfl (T.free "int" (by decide +kernel)) boot_int rfl) pa_nil))) (pe_one (pe_not (pe_callB (call_isi' (K := K) rfl) rfl (T.free "isinstance" (by decide +kernel)) boot_isi (pa_cons (pv 1) (pa_cons (pe_bltn (v := .ty "bool") rfl (T.free "bool" (by decide +kernel)) boot_bool rfl) pa_nil)))))))) pa_nil)))) (pss_one (ps_ret pe_bl)) pss_nil)
      (pss_one (ps_ret (pe_cmpR (op_eqD hr.units) (pe_callB cr_sortedTI rfl (T.free "sorted" (by decide +kernel)) boot_sorted (pa_cons (pv 0) pa_nil)) (pe_listRg rfl rfl (T.free "list" (by decide +kernel)) (prg_1 rfl (T.free "range" (by decide +kernel)) (pe_callB call_len_seq rfl (T.free "len" (by decide +kernel)) boot_len (pa_cons (pv 0) pa_nil)))) (nomark _)))))), ?_⟩
    rcases h with ⟨t, ⟨a, rfl, ea⟩, hl, q⟩ | ⟨⟨t, ty, k⟩, q⟩
    · have ez : t.length ≤ sizeLine := sz hl
      refine ⟨_, rfl, _, .ty "tuple", _, .type "tuple", true, rfl, .ty _, .base (.tup ea), kit_ty (by decide +kernel), true, rfl, ?_⟩
      refine ⟨_, rfl, a, _, rfl, .inr (SqT.of ea), _, rfl, ?_⟩
      refine ⟨_, rfl, ite2 (fun c => ?_) (fun c => ?_)⟩
      · have c1 : ¬ (2 ≤ t.length ∧ t.length ≤ 6) := fun h => by
          rw [vN_len] at c
          have : decide ((2 : Int) ≤ t.length ∧ (t.length : Int) ≤ 6) = true := decide_eq_true (by omega)
          rw [this] at c
          cases c
        have e : isAnyTurn t = false := by
          unfold isAnyTurn
          rw [decide_eq_false c1, Bool.false_and]
        have z := q H (Same.refl H)
        rw [e] at z
        exact z
      · have c1 : 2 ≤ t.length ∧ t.length ≤ 6 := by
          rw [vN_len] at c
          refine Decidable.byContradiction fun h => c ?_
          rw [decide_eq_false (by omega)]
          rfl
        refine ⟨_, rfl, a, rfl, ⟨_, SqT.of ea⟩, fun D nD => ?_⟩
        refine lc_fn (walk_tup (K := K) (a := a) (xs := vN t)) (fun _ => V.bl true) nD (by rw [vN_len]; exact hl) (fun H2 s2 => SqT.of (s2 a _ ea)) ?_ ?_
        · rintro i x H1 H2 Kt Kf hi s1 ⟨rfl, ei⟩ k
          obtain ⟨n, en⟩ : ∃ n : Nat, x = .int n := by
            unfold vN at ei
            rw [List.getElem?_map] at ei
            cases e : t[i]? with
            | none =>
              rw [e] at ei
              cases ei
            | some n =>
              rw [e] at ei
              exact ⟨n, (Option.some.inj ei).symm⟩
          subst en
          exact ⟨rfl, _, rfl, _, .ty "int", _, .type "int", true, rfl, .ty _, .base (.int _), kit_ty (by decide +kernel), true, rfl, _, rfl, _, .ty "bool", _, .type "bool", false, rfl, .ty _, .base (.int _), kit_ty (by decide +kernel), false, rfl, k _ (Same.refl _)⟩
        · intro H2 s2 e2
          have ea2 := s2 a _ ea
          have e2' : H2 D = some (.lst ((List.replicate (vN t).length true).map V.bl)) := by
            rw [e2]
            refine congrArg (fun z => some (HO.lst z)) (List.ext_getElem (by simp) fun j h1 h2 => by simp)
          have ev : vN t = (t.map fun n : Nat => (n : Int)).map V.int := by
            rw [List.map_map]
            rfl
          have t2 : SqT K H2 a ((t.map fun n : Nat => (n : Int)).map V.int) := by
            rw [← ev]
            exact SqT.of ea2
          refine ⟨D, _, rfl, SqL.of e2', true, congrArg V.bl (by simp), ?_⟩
          refine ⟨_, rfl, a, _, rfl, t2, by rw [List.length_map]; omega, fun ms p pm so np => ?_⟩
          have s3 := Same.new np (o := .lst (ms.map V.int))
          refine ⟨_, rfl, a, _, rfl, .inr (SqT.of (s3 a _ ea2)), _, rfl, RgOk.of_le (by omega) (by rw [vN_len]; omega) (by omega) (by omega), fun p2 n2 => ?_⟩
          have er : rgV 0 ((vN t).length : Nat) = ((List.range t.length).map fun k : Nat => (k : Int)).map V.int := by
            unfold rgV
            rw [vN_len, List.map_map]
            refine List.map_congr_left fun k _ => ?_
            show V.int (0 + (k : Int)) = V.int k
            rw [Int.zero_add]
          refine ⟨_, _, .lst (SqL.of ((Same.new n2) p _ upd_same)) (dpAll_ints ms), .lst (SqL.of upd_same) (by rw [er]; exact dpAll_ints _), shaped_ints _, shaped_ints _, ?_⟩
          have fin : PyData.eqv (.list (ms.map .int)) (.list (((List.range t.length).map fun k : Nat => (k : Int)).map .int)) = isAnyTurn t := by
            unfold isAnyTurn
            rw [decide_eq_true c1, Bool.true_and]
            exact (eqv_ints _ _).trans (sort_rg pm so _)
          rw [fin]
          exact q _ ((s2.trans s3).trans (Same.new n2))
    · exact ⟨_, rfl, _, .ty "tuple", _, .type "tuple", false, rfl, .ty _, ty, k, false, rfl, q⟩
end
end K5
/-! ### .. on: marks, shots, entries, programs -/
namespace K5
open PySem PySem.Spec PyProof.Rows L2
theorem all_false {l : List Nat} {g : List Nat} : ((l.map fun c => decide (c ∈ g)).all id) = l.all fun c => decide (c ∈ g) := by
  rw [List.all_map]
  rfl
section
variable {P : Program} {w : World} {K : PySem.W.Frag} {mg : Str → Option Value} {base : Heap}
/-! need_turn -/
def sp_need_turn (K : PySem.W.Frag) : Sp := fun vs H Q E => ∃ v, vs = [v] ∧ ((∃ t, IsTurn H v t ∧ t.length ≤ BIG ∧ (isAnyTurn t = true → ∀ H', Same H H' → Q v H') ∧ (isAnyTurn t = false → Err K H E "BadTurn" [("given", v)])) ∨ (NoTup K H v ∧ Err K H E "BadTurn" [("given", v)]))
theorem g_need_turn (T : Txt P w K mg base) : Gd P w K mg base 3 "need_turn" ["thing"] (sp_need_turn K) := by
  refine gd_of (d := d_need_turn) T (by decide +kernel) (by simp [fn]) rfl (fun _ _ _ _ _ _ us hl => match us, hl with | [_], _ => rfl) fun fd F => F.ok sc_need_turn (fun vs H Q E h => ?_) fun cdv A outer s H vs Q E hr h => ?_
  · obtain ⟨v, rfl, h⟩ := h
    rfl
  · obtain ⟨v, rfl, h⟩ := h
    refine ⟨_, (pss_cons (ps_if (pt_not (pt_val (pe_g (g_is_any_turn T) (hr.mono (by decide)) rfl passL (pa_cons (pv 0) pa_nil)))) (pss_one (ps_rs (rs_turn T) (hr.mono (by decide)) rfl (takes_of (E := E) rfl rfl rfl rfl) rfl (pa_cons (pv 0) pa_nil))) pss_nil)
      (pss_one (ps_ret (pv 0)))), ?_⟩
    rcases h with ⟨t, it, hl, yes, no⟩ | ⟨nt, no⟩
    · refine ⟨_, rfl, v, rfl, .inl ⟨t, it, hl, fun H1 s1 => ?_⟩⟩
      refine ⟨_, rfl, ite2 (fun c => ?_) (fun c => ?_)⟩
      · have c1 : isAnyTurn t = false := by simpa using c
        exact ⟨_, rfl, made1 ((no c1).up s1)⟩
      · have c1 : isAnyTurn t = true := by simpa using c
        exact ⟨_, rfl, yes c1 H1 s1⟩
    · exact ⟨_, rfl, v, rfl, .inr ⟨nt, _, rfl, _, rfl, made1 no⟩⟩
/-! is_mark -/
def sp_is_mark : Sp := fun vs H Q _ => ∃ m, vs = [.str (S m)] ∧ m.length ≤ BIG ∧ ∀ H', Same H H' → Q (.bl (isMark m)) H'
theorem g_is_mark (T : Txt P w K mg base) : Gd P w K mg base 1 "is_mark" ["thing"] (sp_is_mark) := by
  refine gd_of (d := d_is_mark) T (by decide +kernel) (by simp [fn]) rfl (fun _ _ _ _ _ _ us hl => match us, hl with | [_], _ => rfl) fun fd F => F.ok sc_is_mark (fun vs H Q E h => ?_) fun cdv A outer s H vs Q E hr h => ?_
  · obtain ⟨m, rfl, hl, q⟩ := h
    rfl
  · obtain ⟨m, rfl, hl, q⟩ := h
    have h_LETTERS := T.s "LETTERS" LET (by decide +kernel)
    have h_MOST_LETTERS := T.i "MOST_LETTERS" 8 (by decide +kernel)
    refine ⟨_, (pss_one (ps_ret (pe_and (pe_callB (call_isi' (K := K) rfl) rfl (T.free "isinstance" (by decide +kernel)) boot_isi (pa_cons (pv 0) (pa_cons (pe_bltn (v := .ty "str") rfl (T.free "str" (by decide +kernel)) boot_str rfl) pa_nil))) (pe_and (pe_cmpR op_le (pe_callB call_len_str rfl (T.free "len" (by decide +kernel)) boot_len (pa_cons (pv 0) pa_nil)) (pe_gi h_MOST_LETTERS) (nomark _)) (pe_one (pe_callB (cr_all rfl) rfl (T.free "all" (by decide +kernel)) boot_all (pa_cons (pe_lc (own := [("sign", 1)]) (g := gName 1) (tt := tYes) rfl sc_is_mark.nd (pi_str (pv 0)) (blkOk_by (N := n_is_mark) (sc := defScope s_is_mark) (by decide +kernel)) (fun _ _ _ _ _ => pg_name (i := 1) sc_is_mark.nd rfl (.inl rfl)) (fun _ _ _ _ _ => pts_nil) (fun _ _ _ _ _ => (pe_cmpR op_in_sign (pv 1) (pe_gs h_LETTERS) rfl))) pa_nil))))))), ?_⟩
    refine ⟨_, rfl, _, .ty "str", _, .type "str", true, rfl, .ty _, .base (.str _), kit_ty (by decide +kernel), true, rfl, ?_⟩
    refine ⟨_, rfl, _, rfl, sz (by rw [S_len]; exact hl), _, _, rfl, rfl, _, rfl, ite2 (fun c => ?_) (fun c => ?_)⟩
    · have c1 : m.length ≤ 8 := by
        have := of_decide_eq_true c
        rw [S_len] at this
        omega
      refine ⟨_, rfl, S m, rfl, fun D nD => ?_⟩
      refine lc_fn (walk_str (z := S m)) (fun i => V.bl (decide (m.getD i 0 ∈ LET))) nD (by show m.toArray.size ≤ BIG; simpa using hl) (fun _ _ => trivial) ?_ ?_
      · rintro i x H1 H2 Kt Kf hi s1 ⟨rfl, c, ec, rfl⟩ k
        have ec' : m[i]? = some c := by
          have z : m.toArray[i]? = some c := ec
          simpa using z
        refine ⟨rfl, _, rfl, c, _, rfl, rfl, ?_⟩
        have z := k H2 (Same.refl _)
        rw [List.getD_eq_getElem?_getD, ec'] at z
        exact z
      · intro H2 s2 e2
        have hm : (List.range (S m).cps.size).map (fun i => V.bl (decide (m.getD i 0 ∈ LET))) = (m.map fun c => decide (c ∈ LET)).map V.bl := by
          refine List.ext_getElem (by simp [S]) fun j h1 h2 => ?_
          have hj : j < m.length := by simpa [S] using h1
          simp [List.getD_eq_getElem?_getD, List.getElem?_eq_getElem hj]
        rw [hm] at e2
        refine ⟨D, _, rfl, SqL.of e2, ?_⟩
        have e : isMark m = (m.map fun c => decide (c ∈ LET)).all id := by
          unfold isMark
          rw [decide_eq_true c1, Bool.true_and, all_false]
        rw [← e]
        exact q _ s2
    · have c1 : ¬ m.length ≤ 8 := fun h => c (decide_eq_true (by rw [S_len]; omega))
      have e : isMark m = false := by
        unfold isMark
        rw [decide_eq_false c1, Bool.false_and]
      have z := q H (Same.refl H)
      rw [e] at z
      exact z
/-! is_turn_of -/
def sp_is_turn_of : Sp := fun vs H Q _ => ∃ (c : Nat) (v : V) (t : List Nat), vs = [.int c, v] ∧ IsTurn H v t ∧ t.length ≤ BIG ∧ ∀ H', Same H H' → Q (.bl (isTurn c t)) H'
theorem g_is_turn_of (T : Txt P w K mg base) : Gd P w K mg base 3 "is_turn_of" ["corners", "thing"] (sp_is_turn_of) := by
  refine gd_of (d := d_is_turn_of) T (by decide +kernel) (by simp [fn]) rfl (fun _ _ _ _ _ _ us hl => match us, hl with | [_, _], _ => rfl) fun fd F => F.ok sc_is_turn_of (fun vs H Q E h => ?_) fun cdv A outer s H vs Q E hr h => ?_
  · obtain ⟨c, v, t, rfl, it, hl, q⟩ := h
    rfl
  · obtain ⟨c, v, t, rfl, it, hl, q⟩ := h
    refine ⟨_, (pss_one (ps_ret (pe_and (pe_g (g_is_any_turn T) (hr.mono (by decide)) rfl passL (pa_cons (pv 1) pa_nil)) (pe_one (pe_cmpR op_eq (pe_callB call_len_seq rfl (T.free "len" (by decide +kernel)) boot_len (pa_cons (pv 1) pa_nil)) (pv 0) (nomark _)))))), ?_⟩
    refine ⟨_, rfl, v, rfl, .inl ⟨t, it, hl, fun H1 s1 => ?_⟩⟩
    obtain ⟨a, rfl, ea⟩ := it
    refine ⟨_, rfl, ite2 (fun d => ?_) (fun d => ?_)⟩
    · refine ⟨_, rfl, a, _, rfl, .inr (SqT.of (s1 a _ ea)), _, rfl, rfl, ?_⟩
      have e : decide (V.int ((vN t).length : Nat) = V.int c) = isTurn c t := by
        unfold isTurn
        rw [d, Bool.true_and, vN_len, decide_eq_decide]
        exact ⟨fun h => by have := V.int.inj h; omega, fun h => by rw [h]⟩
      rw [← e] at q
      exact q H1 s1
    · have e : isTurn c t = false := by
        unfold isTurn
        rw [eq_false_of_ne_true d, Bool.false_and]
      rw [e] at q
      exact q H1 s1
/-! is_shot -/
def sp_is_shot : Sp := fun vs H Q _ => ∃ (c : Nat) (v : V) (s : Shot), vs = [.int c, v] ∧ IsShot H v s ∧ s.1.length ≤ BIG ∧ s.2.length ≤ BIG ∧ ∀ H', Same H H' → Q (.bl (isShot c s)) H'
theorem g_is_shot (T : Txt P w K mg base) : Gd P w K mg base 4 "is_shot" ["corners", "thing"] (sp_is_shot) := by
  refine gd_of (d := d_is_shot) T (by decide +kernel) (by simp [fn]) rfl (fun _ _ _ _ _ _ us hl => match us, hl with | [_, _], _ => rfl) fun fd F => F.ok sc_is_shot (fun vs H Q E h => ?_) fun cdv A outer s H vs Q E hr h => ?_
  · obtain ⟨c, v, t, rfl, ⟨a, tv, rfl, ea, it⟩, h1, h2, q⟩ := h
    rfl
  · obtain ⟨c, v, t, rfl, ⟨a, tv, rfl, ea, it⟩, h1, h2, q⟩ := h
    refine ⟨_, (pss_cons (ps_if (PW.pt (pw_or (pt_not (pt_val (pe_callB (call_isi' (K := K) rfl) rfl (T.free "isinstance" (by decide +kernel)) boot_isi (pa_cons (pv 1) (pa_cons (pe_bltn (v := .ty "tuple") rfl (T.free "tuple" (by decide +kernel)) boot_tuple rfl) pa_nil))))) (pw_or1 (pt_cmpR op_ne (pe_callB call_len_seq rfl (T.free "len" (by decide +kernel)) boot_len (pa_cons (pv 1) pa_nil)) pe_int (nomark _))))) (pss_one (ps_ret pe_bl)) pss_nil)
      (pss_one (ps_ret (pe_and (pe_g (g_is_turn_of T) (hr.mono (by decide)) rfl passL (pa_cons (pv 0) (pa_cons (pe_ix ix_tup (pv 1) pe_int (fun _ _ => rfl)) pa_nil))) (pe_one (pe_g (g_is_mark T) (hr.mono (by decide)) rfl passL (pa_cons (pe_ix ix_tup (pv 1) pe_int (fun _ _ => rfl)) pa_nil))))))), ?_⟩
    refine ⟨_, rfl, _, .ty "tuple", _, .type "tuple", true, rfl, .ty _, .base (.tup ea), kit_ty (by decide +kernel), true, rfl, ?_⟩
    refine ⟨_, rfl, a, _, rfl, .inr (SqT.of ea), rfl, false, rfl, ?_⟩
    refine ⟨_, rfl, _, rfl, a, _, _, tv, rfl, rfl, SqT.of ea, rfl, c, tv, t.1, rfl, it, h1, fun H1 s1 => ?_⟩
    refine ⟨_, rfl, ite2 (fun d => ?_) (fun d => ?_)⟩
    · refine ⟨_, rfl, a, _, _, _, rfl, rfl, SqT.of (s1 a _ ea), rfl, t.2, rfl, h2, fun H2 s2 => ?_⟩
      have e : isMark t.2 = isShot c t := by
        unfold isShot
        rw [d, Bool.true_and]
      rw [e]
      exact q _ (s1.trans s2)
    · have e : isShot c t = false := by
        unfold isShot
        rw [eq_false_of_ne_true d, Bool.false_and]
      rw [e] at q
      exact q H1 s1
/-! is_entry -/
def sp_is_entry : Sp := fun vs H Q _ => ∃ (c : Nat) (v : V) (s : Entry), vs = [.int c, v] ∧ IsEntry H v s ∧ s.1.length ≤ BIG ∧ s.2.1.length ≤ BIG ∧ s.2.2.length ≤ BIG ∧ ∀ H', Same H H' → Q (.bl (isEntry c s)) H'
theorem g_is_entry (T : Txt P w K mg base) : Gd P w K mg base 4 "is_entry" ["corners", "thing"] (sp_is_entry) := by
  refine gd_of (d := d_is_entry) T (by decide +kernel) (by simp [fn]) rfl (fun _ _ _ _ _ _ us hl => match us, hl with | [_, _], _ => rfl) fun fd F => F.ok sc_is_entry (fun vs H Q E h => ?_) fun cdv A outer s H vs Q E hr h => ?_
  · obtain ⟨c, v, t, rfl, ⟨a, tv, rfl, ea, it⟩, h1, h2, h3, q⟩ := h
    rfl
  · obtain ⟨c, v, t, rfl, ⟨a, tv, rfl, ea, it⟩, h1, h2, h3, q⟩ := h
    refine ⟨_, (pss_cons (ps_if (PW.pt (pw_or (pt_not (pt_val (pe_callB (call_isi' (K := K) rfl) rfl (T.free "isinstance" (by decide +kernel)) boot_isi (pa_cons (pv 1) (pa_cons (pe_bltn (v := .ty "tuple") rfl (T.free "tuple" (by decide +kernel)) boot_tuple rfl) pa_nil))))) (pw_or1 (pt_cmpR op_ne (pe_callB call_len_seq rfl (T.free "len" (by decide +kernel)) boot_len (pa_cons (pv 1) pa_nil)) pe_int (nomark _))))) (pss_one (ps_ret pe_bl)) pss_nil)
      (pss_one (ps_ret (pe_and (pe_g (g_is_mark T) (hr.mono (by decide)) rfl passL (pa_cons (pe_ix ix_tup (pv 1) pe_int (fun _ _ => rfl)) pa_nil)) (pe_and (pe_g (g_is_turn_of T) (hr.mono (by decide)) rfl passL (pa_cons (pv 0) (pa_cons (pe_ix ix_tup (pv 1) pe_int (fun _ _ => rfl)) pa_nil))) (pe_one (pe_g (g_is_mark T) (hr.mono (by decide)) rfl passL (pa_cons (pe_ix ix_tup (pv 1) pe_int (fun _ _ => rfl)) pa_nil)))))))), ?_⟩
    refine ⟨_, rfl, _, .ty "tuple", _, .type "tuple", true, rfl, .ty _, .base (.tup ea), kit_ty (by decide +kernel), true, rfl, ?_⟩
    refine ⟨_, rfl, a, _, rfl, .inr (SqT.of ea), rfl, false, rfl, ?_⟩
    refine ⟨_, rfl, a, _, _, _, rfl, rfl, SqT.of ea, rfl, t.1, rfl, h1, fun H1 s1 => ?_⟩
    refine ⟨_, rfl, ite2 (fun d => ?_) (fun d => ?_)⟩
    · refine ⟨_, rfl, _, rfl, a, _, _, tv, rfl, rfl, SqT.of (s1 a _ ea), rfl, c, tv, t.2.1, rfl, it.up s1.ts, h2, fun H2 s2 => ?_⟩
      refine ⟨_, rfl, ite2 (fun f => ?_) (fun f => ?_)⟩
      · refine ⟨_, rfl, a, _, _, _, rfl, rfl, SqT.of (s2 _ _ (s1 a _ ea)), rfl, t.2.2, rfl, h3, fun H3 s3 => ?_⟩
        have e : isMark t.2.2 = isEntry c t := by
          unfold isEntry
          rw [d, f, Bool.true_and, Bool.true_and]
        rw [e]
        exact q _ ((s1.trans s2).trans s3)
      · have e : isEntry c t = false := by
          unfold isEntry
          rw [d, eq_false_of_ne_true f, Bool.true_and, Bool.false_and]
        rw [e] at q
        exact q H2 (s1.trans s2)
    · have e : isEntry c t = false := by
        unfold isEntry
        rw [eq_false_of_ne_true d, Bool.false_and]
      rw [e] at q
      exact q H1 s1
end
end K5
/-! ### shots, one against another -/
namespace K5
open PySem PySem.Spec PyProof.Rows L2
theorem lex_shift (e r : Nat → Bool) (z : Bool) : ∀ (k i : Nat), Ob.lexAt e r z (i + 1) k = Ob.lexAt (fun j => e (j + 1)) (fun j => r (j + 1)) z i k
  | 0, _ => rfl
  | k + 1, i => by
    show (if e (i + 1) = true then Ob.lexAt e r z (i + 1 + 1) k else r (i + 1)) = (if e (i + 1) = true then _ else r (i + 1))
    rw [lex_shift e r z k (i + 1)]
abbrev lexN (a b : List Nat) : Bool := Ob.lexAt (fun j => decide (a.getD j 0 = b.getD j 0)) (fun j => decide (a.getD j 0 ≤ b.getD j 0)) (decide (a.length ≤ b.length)) 0 (min a.length b.length)
theorem lex_lt : ∀ a b : List Nat, a ≠ b → lexN a b = decide (a < b)
  | [], [], h => absurd rfl h
  | [], y :: b, _ => by
    have z : ([] : List Nat) < y :: b := List.nil_lt_cons ..
    rw [decide_eq_true z]
    show decide (0 ≤ b.length + 1) = true
    simp
  | x :: a, [], _ => by
    have z : ¬ (x :: a) < ([] : List Nat) := List.not_lt_nil _
    rw [decide_eq_false z]
    show decide (a.length + 1 ≤ 0) = false
    simp
  | x :: a, y :: b, h => by
    have m : min (x :: a).length (y :: b).length = min a.length b.length + 1 := by
      simp only [List.length_cons]
      omega
    unfold lexN
    rw [m, Ob.lexAt_succ, lex_shift]
    have zl : decide ((x :: a).length ≤ (y :: b).length) = decide (a.length ≤ b.length) := by
      rw [decide_eq_decide]
      simp
    rw [zl]
    show (if decide (x = y) = true then lexN a b else decide (x ≤ y)) = _
    by_cases e : x = y
    · subst e
      have ne : a ≠ b := fun z => h (by rw [z])
      rw [if_pos (decide_eq_true rfl)]
      refine (lex_lt a b ne).trans ?_
      rw [decide_eq_decide, List.cons_lt_cons_iff]
      simp
    · rw [if_neg (fun z => e (of_decide_eq_true z))]
      rw [decide_eq_decide, List.cons_lt_cons_iff]
      constructor
      · intro z
        exact .inl (by omega)
      · rintro (z | z)
        · omega
        · exact absurd z.1 e
theorem eqv_turns (a b : List Nat) : PyData.eqv (.tuple ((a.map fun n : Nat => (n : Int)).map .int)) (.tuple ((b.map fun n : Nat => (n : Int)).map .int)) = decide (a = b) := by
  refine (eqv_ints _ _).trans ?_
  rw [decide_eq_decide]
  constructor
  · intro h
    have z := congrArg (List.map Int.toNat) h
    rw [List.map_map, List.map_map] at z
    have e : (Int.toNat ∘ fun n : Nat => (n : Int)) = id := funext fun n => Int.toNat_natCast n
    rw [e, List.map_id, List.map_id] at z
    exact z
  · intro h
    rw [h]
theorem vN_map (t : List Nat) : vN t = (t.map fun n : Nat => (n : Int)).map V.int := by
  rw [List.map_map]
  rfl
def dTurn (t : List Nat) : PyData := .tuple ((t.map fun n : Nat => (n : Int)).map .int)
theorem dp_turn {K : PySem.W.Frag} {H : Hp} {v : V} {t : List Nat} (h : IsTurn H v t) : Dp K H v (dTurn t) := by
  obtain ⟨a, rfl, e⟩ := h
  rw [vN_map] at e
  exact .tup (SqT.of e) (dpAll_ints _)
section
variable {X : Cx}
/-- two tuples of whole numbers under <= -/
theorem turns_le {A : Around} {s : Shared} {a b : Addr} {v u : Array Value} {ns ms : List Nat} (hu : A.units < cLine) (p1 : s.heap.IsTuple a v) (p2 : s.heap.IsTuple b u)
    (i1 : IntsAre v.toList (ns.map fun n : Nat => (n : Int))) (i2 : IntsAre u.toList (ms.map fun n : Nat => (n : Int))) : Ob.RcOp .LtE A s (.ref a) (.ref b) (lexN ns ms) := by
  have e1 : v.size = ns.length := by
    have := i1.length
    simpa using this
  have e2 : u.size = ms.length := by
    have := i2.length
    simpa using this
  have get : ∀ {v : Array Value} {ns : List Nat}, IntsAre v.toList (ns.map fun n : Nat => (n : Int)) → ∀ j (h1 : j < v.size), ∃ t, v[j] = .int ((ns.getD j 0 : Nat) : Int) t := fun {v ns} i j h => by
    have le := i.length
    have hj : j < ns.length := by
      rw [List.length_map, Array.length_toList] at le
      omega
    obtain ⟨t, et⟩ := PyProof.Rows.IntsAre.int_at i j v[j] (by simp [h])
    refine ⟨t, et.trans ?_⟩
    have z : (ns.map fun n : Nat => (n : Int)).getD j 0 = ((ns.getD j 0 : Nat) : Int) := by
      simp [List.getD_eq_getElem?_getD, List.getElem?_eq_getElem hj]
    rw [z]
  have R := Ob.RcOp.tuples_le (A := A) (s := s) (e := fun j => decide (ns.getD j 0 = ms.getD j 0)) (r := fun j => decide (ns.getD j 0 ≤ ms.getD j 0)) p1 p2 hu (fun j h1 h2 => ?_) (fun j h1 h2 _ => ?_)
  · rw [e1, e2] at R
    exact R
  · obtain ⟨t, et⟩ := get i1 j h1
    obtain ⟨t', et'⟩ := get i2 j h2
    rw [et, et']
    have z := SeqAt.EqAt.int_int (A := A.in1) (s := s) ((ns.getD j 0 : Nat) : Int) t ((ms.getD j 0 : Nat) : Int) t'
    have q : (((ns.getD j 0 : Nat) : Int) == ((ms.getD j 0 : Nat) : Int)) = decide (ns.getD j 0 = ms.getD j 0) := by
      rw [Bool.eq_iff_iff]
      simp
      omega
    rw [q] at z
    exact z
  · obtain ⟨t, et⟩ := get i1 j h1
    obtain ⟨t', et'⟩ := get i2 j h2
    rw [et, et']
    have z := Ob.RcOp.le_int (A := A.in1) (s := s) ((ns.getD j 0 : Nat) : Int) ((ms.getD j 0 : Nat) : Int) t t'
    have q : decide (((ns.getD j 0 : Nat) : Int) ≤ ((ms.getD j 0 : Nat) : Int)) = decide (ns.getD j 0 ≤ ms.getD j 0) := by
      rw [decide_eq_decide]
      omega
    rw [q] at z
    exact z
/-- two shots under <= -/
def rLeShot : R2 := fun x y H Q => ∃ s p, IsShot H x s ∧ IsShot H y p ∧ Q (.bl (shotLe s p)) H
theorem op_leShot (hu : X.A.units + 64 < cLine) : OpR X (compareOp .LtE) rLeShot := by
  intro pins s σ H x y v u Q I rx ry h
  obtain ⟨a, b, ⟨p, tp, rfl, ep, it⟩, ⟨q, tq, rfl, eq, iq⟩, k⟩ := h
  cases rx
  cases ry
  obtain ⟨vs, r1, p1, _⟩ := I.tuple (SqT.of (K := X.K) ep)
  obtain ⟨us, r2, p2, _⟩ := I.tuple (SqT.of (K := X.K) eq)
  obtain ⟨c, rfl, ec⟩ := it
  obtain ⟨d, rfl, ed⟩ := iq
  cases r1 with
  | cons v1 v2 =>
    cases v2 with
    | cons v2 v3 =>
      cases v3
      cases r2 with
      | cons u1 u2 =>
        cases u2 with
        | cons u2 u3 =>
          cases u3
          cases v1
          cases u1
          obtain ⟨t1, rfl⟩ := v2
          obtain ⟨t2, rfl⟩ := u2
          obtain ⟨ws, w1, w2, _⟩ := I.tuple (SqT.of (K := X.K) ec)
          obtain ⟨xs, x1, x2, _⟩ := I.tuple (SqT.of (K := X.K) ed)
          rw [vN_map] at w1 x1
          have hu1 : X.A.in1.units < cLine := by
            show X.A.units + 1 < cLine
            omega
          obtain ⟨_, rd1⟩ := Dp.reads I _ _ _ (dp_turn (K := X.K) (t := a.1) ⟨c, rfl, ec⟩) rfl
          obtain ⟨_, rd2⟩ := Dp.reads I _ _ _ (dp_turn (K := X.K) (t := b.1) ⟨d, rfl, ed⟩) rfl
          have lay : ∀ t : List Nat, (dTurn t).canLay0 = true := fun t => by
            unfold dTurn
            simp only [PyData.canLay0, canLay_ints]
          have dep : ∀ t : List Nat, (dTurn t).depth = 1 := fun t => by
            unfold dTurn
            simp only [PyData.depth, PySem.W.depth_ints]
          have R := Ob.RcOp.tuples_le (A := X.A) (s := s) (e := fun j => if j = 0 then decide (a.1 = b.1) else decide (a.2 = b.2)) (r := fun j => if j = 0 then lexN a.1 b.1 else !decide (b.2 < a.2)) p1 p2 (by omega) (fun j h1 h2 => ?_) (fun j h1 h2 _ => ?_)
          · have fin : Ob.lexAt (fun j => if j = 0 then decide (a.1 = b.1) else decide (a.2 = b.2)) (fun j => if j = 0 then lexN a.1 b.1 else !decide (b.2 < a.2)) true 0 2 = shotLe a b := by
              rw [Ob.lexAt_succ, Ob.lexAt_succ, Ob.lexAt_zero]
              unfold shotLe
              by_cases e1 : a.1 = b.1
              · rw [if_pos e1]
                simp only [e1, decide_true, if_true]
                by_cases e2 : a.2 = b.2
                · have nl : ¬ b.2 < a.2 := by
                    rw [e2]
                    exact List.lt_irrefl _
                  simp [e2]
                · simp [e2]
              · rw [if_neg e1, ← lex_lt _ _ e1]
                simp [e1]
            rw [← fin] at k
            exact R X.prog X.w X.xe (EP X pins σ Q) ⟨.bl _, H, I, rfl, k⟩
          · match j, h1, h2 with
            | 0, _, _ =>
              have z := SeqAt.eqAt_reads _ _ X.A.in1 s _ _ _ _ rd1 rd2 (lay _) (lay _) (by rw [dep, dep]; show X.A.units + 1 + _ < cLine; omega)
              unfold dTurn at z
              rw [eqv_turns] at z
              exact z
            | 1, _, _ =>
              have z := SeqAt.EqAt.str_str (A := X.A.in1) (s := s) (S a.2) t1 (S b.2) t2
              have q : (S a.2 == S b.2) = decide (a.2 = b.2) := by
                rw [Bool.eq_iff_iff, beq_iff_eq, decide_eq_true_iff]
                exact ⟨S_inj, fun h => by rw [h]⟩
              rw [q] at z
              exact z
          · match j, h1, h2 with
            | 0, _, _ => exact turns_le hu1 w2 x2 (by simpa using Vals.ints w1) (by simpa using Vals.ints x1)
            | 1, _, _ => exact fun _ _ _ _ h => PySem.P.le_str h
end
end K5
/-! ### programs; all shots, all programs of a lot -/
namespace K5
open PySem PySem.Spec PyProof.Rows L2
theorem rising_all : ∀ ms : List (List Nat), rising ms = (List.range (ms.length - 1)).all fun i => decide (ms.getD i [] < ms.getD (i + 1) [])
  | [] => rfl
  | [_] => rfl
  | x :: y :: r => by
    have ih := rising_all (y :: r)
    have e : (x :: y :: r).length - 1 = ((y :: r).length - 1) + 1 := rfl
    rw [e, List.range_succ_eq_map, List.all_cons, List.all_map]
    show (decide (x < y) && rising (y :: r)) = _
    rw [ih]
    rfl
section
variable {P : Program} {w : World} {K : PySem.W.Frag} {mg : Str → Option Value} {base : Heap}
/-! are_rising -/
def sp_are_rising (K : PySem.W.Frag) : Sp := fun vs H Q _ => ∃ (a : Addr) (ms : List (List Nat)), vs = [.ref a] ∧ SqL K H a (ms.map fun m => V.str (S m)) ∧ ms.length ≤ BIG ∧ ∀ H', Same H H' → Q (.bl (rising ms)) H'
theorem g_are_rising (T : Txt P w K mg base) : Gd P w K mg base 1 "are_rising" ["things"] (sp_are_rising K) := by
  refine gd_of (d := d_are_rising) T (by decide +kernel) (by simp [fn]) rfl (fun _ _ _ _ _ _ us hl => match us, hl with | [_], _ => rfl) fun fd F => F.ok sc_are_rising (fun vs H Q E h => ?_) fun cdv A outer s H vs Q E hr h => ?_
  · obtain ⟨a, ms, rfl, ha, hl, q⟩ := h
    rfl
  · obtain ⟨a, ms, rfl, ha, hl, q⟩ := h
    refine ⟨_, (pss_one (ps_ret (pe_callB (cr_all rfl) rfl (T.free "all" (by decide +kernel)) boot_all (pa_cons (pe_lc (own := [("at", 1)]) (g := gName 1) (tt := tYes) rfl sc_are_rising.nd (pi_range1 rfl (T.free "range" (by decide +kernel)) (pa_cons (pe_op op_sub (pe_callB call_len_seq rfl (T.free "len" (by decide +kernel)) boot_len (pa_cons (pv 0) pa_nil)) pe_int) pa_nil)) (blkOk_by (N := n_are_rising) (sc := defScope s_are_rising) (by decide +kernel)) (fun _ _ _ _ _ => pg_name (i := 1) sc_are_rising.nd rfl (.inl rfl)) (fun _ _ _ _ _ => pts_nil) (fun _ _ _ _ _ => (pe_cmpR op_lt_str (pe_ix (ix_list' (K := K) rfl) (pv 0) (pv 1) (fun _ _ => rfl)) (pe_ix (ix_list' (K := K) rfl) (pv 0) (pe_op op_add (pv 1) pe_int) (fun _ _ => rfl)) (nomark _)))) pa_nil)))), ?_⟩
    have hl' : ms.length ≤ 100000 := hl
    refine ⟨_, rfl, a, _, rfl, .inl ha, _, _, rfl, rfl, ?_⟩
    refine ⟨_, rfl, by rw [List.length_map]; omega, by rw [List.length_map]; omega, fun D nD => ?_⟩
    have en : ((((ms.map fun m => V.str (S m)).length : Nat) : Int) - 1 : Int).toNat = ms.length - 1 := by
      rw [List.length_map]
      omega
    refine lc_fn (walk_range (lo := 0) (n := _)) (fun i => V.bl (decide (ms.getD i [] < ms.getD (i + 1) []))) nD (by rw [en]; omega) (fun _ _ => trivial) ?_ ?_
    · rintro i x H1 H2 Kt Kf hi s1 ⟨rfl, rfl⟩ k
      rw [en] at hi
      have g1 : (ms.map fun m => V.str (S m))[i]? = some (V.str (S (ms.getD i []))) := by
        simp [List.getD_eq_getElem?_getD, List.getElem?_eq_getElem (show i < ms.length by omega)]
      have g2 : (ms.map fun m => V.str (S m))[i + 1]? = some (V.str (S (ms.getD (i + 1) []))) := by
        simp [List.getD_eq_getElem?_getD, List.getElem?_eq_getElem (show i + 1 < ms.length by omega)]
      have l1 := s1.seq ha
      have c1 : (0 : Int) + (i : Nat) = ((i : Nat) : Int) := by omega
      have c2 : (0 : Int) + (i : Nat) + 1 = ((i + 1 : Nat) : Int) := by omega
      refine ⟨rfl, _, rfl, _, rfl, a, _, _, _, rfl, rfl, l1, by rw [c1]; exact atI_nat g1, ?_⟩
      refine ⟨_, rfl, _, rfl, _, _, rfl, rfl, a, _, _, _, rfl, rfl, l1, by rw [c2]; exact atI_nat g2, ?_⟩
      exact ⟨_, _, rfl, rfl, k _ (Same.refl _)⟩
    · intro H2 s2 e2
      rw [en] at e2
      have em : (List.range (ms.length - 1)).map (fun i => V.bl (decide (ms.getD i [] < ms.getD (i + 1) []))) = ((List.range (ms.length - 1)).map fun i => decide (ms.getD i [] < ms.getD (i + 1) [])).map V.bl := by
        rw [List.map_map]
        rfl
      rw [em] at e2
      refine ⟨D, _, rfl, SqL.of e2, ?_⟩
      have e : ((List.range (ms.length - 1)).map fun i => decide (ms.getD i [] < ms.getD (i + 1) [])).all id = rising ms := by
        rw [rising_all, List.all_map]
        rfl
      rw [e]
      exact q _ s2
/-! is_program -/
structure SmallE (e : Entry) : Prop where
  a : e.1.length ≤ BIG
  b : e.2.1.length ≤ BIG
  c : e.2.2.length ≤ BIG
def sp_is_program : Sp := fun vs H Q _ => ∃ (c : Nat) (v : V) (p : List Entry), vs = [.int c, v] ∧ IsProg H v p ∧ p.length ≤ BIG ∧ (∀ e ∈ p, SmallE e) ∧ ∀ H', Same H H' → Q (.bl (isProg c p)) H'
theorem g_is_program (T : Txt P w K mg base) : Gd P w K mg base 5 "is_program" ["corners", "thing"] (sp_is_program) := by
  refine gd_of (d := d_is_program) T (by decide +kernel) (by simp [fn]) rfl (fun _ _ _ _ _ _ us hl => match us, hl with | [_, _], _ => rfl) fun fd F => F.ok sc_is_program (fun vs H Q E h => ?_) fun cdv A outer s H vs Q E hr h => ?_
  · obtain ⟨c, v, p, rfl, ⟨a, vs, rfl, ea, pe⟩, hl, hs, q⟩ := h
    rfl
  · obtain ⟨c, v, p, rfl, ⟨a, vs, rfl, ea, pe⟩, hl, hs, q⟩ := h
    refine ⟨_, (pss_cons (ps_if (PW.pt (pw_or (pt_not (pt_val (pe_callB (call_isi' (K := K) rfl) rfl (T.free "isinstance" (by decide +kernel)) boot_isi (pa_cons (pv 1) (pa_cons (pe_bltn (v := .ty "tuple") rfl (T.free "tuple" (by decide +kernel)) boot_tuple rfl) pa_nil))))) (pw_or1 (pt_not (pt_val (pe_callB (cr_all rfl) rfl (T.free "all" (by decide +kernel)) boot_all (pa_cons (pe_lc (own := [("entry", 2)]) (g := gName 2) (tt := tYes) rfl sc_is_program.nd (pi_tup (pv 1)) (blkOk_by (N := n_is_program) (sc := defScope s_is_program) (by decide +kernel)) (fun _ _ _ _ _ => pg_name (i := 2) sc_is_program.nd rfl (.inl rfl)) (fun _ _ _ _ _ => pts_nil) (fun _ _ _ _ _ => (pe_g (g_is_entry T) (hr.mono (by decide)) rfl passL (pa_cons (pv 0) (pa_cons (pv 2) pa_nil))))) pa_nil))))))) (pss_one (ps_ret pe_bl)) pss_nil)
      (pss_one (ps_ret (pe_g (g_are_rising T) (hr.mono (by decide)) rfl passL (pa_cons (pe_lc (own := [("entry", 2)]) (g := gName 2) (tt := tYes) rfl sc_is_program.nd (pi_tup (pv 1)) (blkOk_by (N := n_is_program) (sc := defScope s_is_program) (by decide +kernel)) (fun _ _ _ _ _ => pg_name (i := 2) sc_is_program.nd rfl (.inl rfl)) (fun _ _ _ _ _ => pts_nil) (fun _ _ _ _ _ => (pe_ix (ix_tup' (K := K) rfl) (pv 2) pe_int (fun _ _ => rfl)))) pa_nil))))), ?_⟩
    have lv : vs.length = p.length := pair_len pe
    refine ⟨_, rfl, _, .ty "tuple", _, .type "tuple", true, rfl, .ty _, .base (.tup ea), kit_ty (by decide +kernel), true, rfl, ?_⟩
    refine ⟨_, rfl, a, rfl, ⟨_, SqT.of ea⟩, fun D nD => ?_⟩
    refine lc_fn (walk_tup (K := K) (a := a) (xs := vs)) (fun i => V.bl (isEntry c (p.getD i ([], [], [])))) nD (by rw [lv]; exact hl) (fun H2 s2 => SqT.of (s2 a _ ea)) ?_ ?_
    · rintro i x H1 H2 Kt Kf hi s1 ⟨rfl, ei⟩ k
      obtain ⟨e, ee, ie⟩ := pair_get pe ei
      have se := hs e (List.mem_of_getElem? ee)
      have gd : p.getD i ([], [], []) = e := by
        rw [List.getD_eq_getElem?_getD, ee]
        rfl
      rw [gd] at k
      exact ⟨rfl, _, rfl, _, rfl, c, x, e, rfl, ie.up s1.ts, se.a, se.b, se.c, fun H3 s3 => k _ s3⟩
    · intro H2 s2 e2
      have em : (List.range vs.length).map (fun i => V.bl (isEntry c (p.getD i ([], [], [])))) = (p.map (isEntry c)).map V.bl := by
        refine List.ext_getElem (by simp [lv]) fun j h1 h2 => ?_
        have hj : j < p.length := by simpa [lv] using h1
        simp [List.getD_eq_getElem?_getD, List.getElem?_eq_getElem hj]
      rw [em] at e2
      refine ⟨D, _, rfl, SqL.of e2, _, rfl, ite2 (fun d => ?_) (fun d => ?_)⟩
      · have d1 : p.all (isEntry c) = false := by
          rw [List.all_map] at d
          simpa using d
        have e : isProg c p = false := by
          unfold isProg
          rw [d1, Bool.false_and]
        rw [e] at q
        exact q _ s2
      · have d1 : p.all (isEntry c) = true := by
          rw [List.all_map] at d
          simpa using d
        refine ⟨_, rfl, a, rfl, ⟨_, SqT.of (s2 a _ ea)⟩, fun D2 nD2 => ?_⟩
        refine lc_fn (walk_tup (K := K) (a := a) (xs := vs)) (fun i => V.str (S (p.getD i ([], [], [])).1)) nD2 (by rw [lv]; exact hl) (fun H3 s3 => SqT.of (s3 a _ (s2 a _ ea))) ?_ ?_
        · rintro i x H3 H4 Kt Kf hi s3 ⟨rfl, ei⟩ k
          obtain ⟨e, ee, b, tv, rfl, eb, _⟩ := pair_get pe ei
          have gd : p.getD i ([], [], []) = e := by
            rw [List.getD_eq_getElem?_getD, ee]
            rfl
          rw [gd] at k
          exact ⟨rfl, _, rfl, b, _, _, _, rfl, rfl, SqT.of (s3 b _ (s2 b _ eb)), rfl, k _ (Same.refl _)⟩
        · intro H3 s3 e3
          have em2 : (List.range vs.length).map (fun i => V.str (S (p.getD i ([], [], [])).1)) = (p.map (·.1)).map fun m => V.str (S m) := by
            refine List.ext_getElem (by simp [lv]) fun j h1 h2 => ?_
            have hj : j < p.length := by simpa [lv] using h1
            simp [List.getD_eq_getElem?_getD, List.getElem?_eq_getElem hj]
          rw [em2] at e3
          refine ⟨D2, p.map (·.1), rfl, SqL.of e3, by rw [List.length_map]; exact hl, fun H4 s4 => ?_⟩
          have e : rising (p.map (·.1)) = isProg c p := by
            unfold isProg
            rw [d1, Bool.true_and]
          rw [e]
          exact q _ ((s2.trans s3).trans s4)
end
end K5
/-! ### the shots and the programs of a lot -/
namespace K5
open PySem PySem.Spec PyProof.Rows L2
def prevOf (l : List Shot) : Nat → Option Shot
  | 0 => none
  | j + 1 => l[j]?
theorem badShot_at {c i : Nat} {l : List Shot} {s : Shot} (h : l[i]? = some s) :
    badShot c i (prevOf l i) (l.drop i) = if (isShot c s && !(match prevOf l i with | none => false | some p => shotLe s p)) = true then badShot c (i + 1) (prevOf l (i + 1)) (l.drop (i + 1)) else some i := by
  obtain ⟨hi, e⟩ := List.getElem?_eq_some_iff.mp h
  rw [List.drop_eq_getElem_cons hi, e]
  have e2 : prevOf l (i + 1) = some s := h
  rw [e2]
  cases prevOf l i <;> rfl
theorem badProg_at {c i : Nat} {l : List (List Entry)} {s : List Entry} (h : l[i]? = some s) : badProg c i (l.drop i) = if isProg c s = true then badProg c (i + 1) (l.drop (i + 1)) else some i := by
  obtain ⟨hi, e⟩ := List.getElem?_eq_some_iff.mp h
  rw [List.drop_eq_getElem_cons hi, e]
  rfl
def numV : Option Nat → V
  | none => .non
  | some k => .int k
def flL (part : Str) (k : Option Nat) : List (Str × V) := [("number", numV k), ("part", .str part)]
structure SmallS (s : Shot) : Prop where
  a : s.1.length ≤ BIG
  b : s.2.length ≤ BIG
section
variable {P : Program} {w : World} {K : PySem.W.Frag} {mg : Str → Option Value} {base : Heap}
/-! need_shots -/
def sp_need_shots (K : PySem.W.Frag) : Sp := fun vs H Q E => ∃ (c : Nat) (a : Addr) (ss : List V) (l : List Shot), vs = [.int c, .ref a] ∧ H a = some (.tup ss) ∧ Paired (IsShot H) ss l ∧ l.length ≤ BIG ∧ (∀ s ∈ l, SmallS s) ∧
  (notShots c l = none → ∀ H', Same H H' → Q .non H') ∧ (∀ k, notShots c l = some k → Err K H E "BadLot" (flL "shots" k))
theorem g_need_shots (T : Txt P w K mg base) : Gd P w K mg base 5 "need_shots" ["corners", "shots"] (sp_need_shots K) := by
  refine gd_of (d := d_need_shots) T (by decide +kernel) (by simp [fn]) rfl (fun _ _ _ _ _ _ us hl => match us, hl with | [_, _], _ => rfl) fun fd F => F.ok sc_need_shots (fun vs H Q E h => ?_) fun cdv A outer s H vs Q E hr h => ?_
  · obtain ⟨c, a, ss, l, rfl, ea, pl, hl, hs, yes, no⟩ := h
    rfl
  · obtain ⟨c, a, ss, l, rfl, ea, pl, hl, hs, yes, no⟩ := h
    have h_MOST_SHOTS := T.i "MOST_SHOTS" 8 (by decide +kernel)
    refine ⟨_, (pss_cons (ps_if (PW.pt (pw_or (pt_not (pt_val (pe_callB (call_isi' (K := K) rfl) rfl (T.free "isinstance" (by decide +kernel)) boot_isi (pa_cons (pv 1) (pa_cons (pe_bltn (v := .ty "tuple") rfl (T.free "tuple" (by decide +kernel)) boot_tuple rfl) pa_nil))))) (pw_or1 (pt_not (pt_chain op_le op_le pe_int (pe_callB call_len_seq rfl (T.free "len" (by decide +kernel)) boot_len (pa_cons (pv 1) pa_nil)) (pe_gi h_MOST_SHOTS)))))) (pss_one (ps_rs (rs_lot T) (hr.mono (by decide)) rfl (takes_of (E := E) rfl rfl rfl rfl) rfl (pa_cons pe_str (pa_cons pe_non pa_nil)))) pss_nil)
      (pss_one (ps_for passO rfl (pi_enumT rfl (T.free "enumerate" (by decide +kernel)) (pa_cons (pv 1) pa_nil)) (pg_tup rfl (pgs_cons (pg_name (i := 2) sc_need_shots.nd rfl (.inl rfl)) (pgs_cons (pg_name (i := 3) sc_need_shots.nd rfl (.inl rfl)) pgs_nil))) (pss_one (ps_if (PW.pt (pw_or (pt_not (pt_val (pe_g (g_is_shot T) (hr.mono (by decide)) rfl passL (pa_cons (pv 0) (pa_cons (pv 3) pa_nil))))) (pw_or1 (PW.pt (pw_and (pt_cmpR op_gt (pv 2) pe_int (nomark _)) (pw_and1 (pt_cmpR (op_leShot hr.units) (pv 3) (pe_ix ix_tup (pv 1) (pe_op op_sub (pv 2) pe_int) (fun _ _ => rfl)) (nomark _)))))))) (pss_one (ps_rs (rs_lot T) (hr.mono (by decide)) rfl (takes_of (E := E) rfl rfl rfl rfl) rfl (pa_cons pe_str (pa_cons (pv 2) pa_nil)))) pss_nil))))), ?_⟩
    have lv : ss.length = l.length := pair_len pl
    refine ⟨_, rfl, _, .ty "tuple", _, .type "tuple", true, rfl, .ty _, .base (.tup ea), kit_ty (by decide +kernel), true, rfl, ?_⟩
    refine ⟨_, rfl, a, _, rfl, .inr (SqT.of ea), ?_⟩
    have raise1 : ¬ (1 ≤ l.length ∧ l.length ≤ 8) → Err K H E "BadLot" (flL "shots" none) := fun h => no none (if_pos h)
    refine ⟨_, _, rfl, rfl, _, rfl, ite2 (fun c1 => ?_) (fun c1 => ?_)⟩
    · have c1' : (1 : Int) ≤ (ss.length : Nat) := of_decide_eq_true c1
      refine ⟨_, _, rfl, rfl, _, rfl, ite2 (fun c2 => ?_) (fun c2 => ?_)⟩
      · have c2' : ¬ ((ss.length : Nat) : Int) ≤ 8 := fun h => by
          rw [decide_eq_true h] at c2
          cases c2
        exact made2 (raise1 (by omega))
      · have c2' : ((ss.length : Nat) : Int) ≤ 8 := Decidable.byContradiction fun h => c2 (by rw [decide_eq_false h]; rfl)
        have en : notShots c l = (badShot c 0 none l).map some := by
          unfold notShots
          rw [if_neg (by omega)]
        refine ⟨_, rfl, a, ss, rfl, SqT.of ea, ?_⟩
        refine for_it (walk_enumT (K := K) (a := a) (xs := ss)) (fun i σ H1 => ∃ x y, σ = [some (.int c), some (.ref a), x, y] ∧ Same H H1 ∧ badShot c 0 none l = badShot c i (prevOf l i) (l.drop i))
          ⟨_, _, rfl, Same.refl H, rfl⟩ (fun i σ H1 _ ⟨_, _, _, s1, _⟩ => SqT.of (s1 a _ ea)) ?_ ?_
        · rintro i v σ H1 H2 hi ⟨x, y, rfl, s1, eb⟩ ⟨T', n, z, rfl, nT, rfl, e1, e2⟩
          cases e1
          have s2 := s1.trans (Same.new nT (o := .tup [.int (i : Nat), z]))
          obtain ⟨s, es, is⟩ := pair_get pl (show ss[i]? = some z from e2)
          have ms := List.mem_of_getElem? es
          rw [badShot_at es] at eb
          have bad : badShot c 0 none l = some i → Err K H E "BadLot" (flL "shots" (some i)) := fun h => no (some i) (by rw [en, h]; rfl)
          refine ⟨T', _, rfl, SqT.of upd_same, rfl, _, _, rfl, _, _, rfl, rfl, ?_⟩
          refine ⟨_, rfl, _, rfl, c, z, s, rfl, is.up s2.ts, (hs s ms).a, (hs s ms).b, fun H3 s3 => ?_⟩
          have s13 := s2.trans s3
          refine ⟨_, rfl, ite2 (fun d => ?_) (fun d => ?_)⟩
          · have d1 : isShot c s = false := by simpa using d
            rw [d1, Bool.false_and, if_neg (by simp)] at eb
            exact ⟨_, rfl, made2 ((bad eb).up s13)⟩
          · have d1 : isShot c s = true := by simpa using d
            rw [d1, Bool.true_and] at eb
            refine ⟨_, rfl, _, _, rfl, rfl, _, rfl, ite2 (fun f => ?_) (fun f => ?_)⟩
            · have f1 : (0 : Int) < (i : Nat) := of_decide_eq_true f
              obtain ⟨j, rfl⟩ : ∃ j, i = j + 1 := ⟨i - 1, by omega⟩
              obtain ⟨v', ev⟩ : ∃ v', ss[j]? = some v' := ⟨ss[j], List.getElem?_eq_getElem (by omega)⟩
              obtain ⟨p, ep, ip⟩ := pair_get pl ev
              have e3 : prevOf l (j + 1) = some p := ep
              rw [e3] at eb
              have cj : (((j + 1 : Nat) : Nat) : Int) - 1 = ((j : Nat) : Int) := by omega
              refine ⟨_, rfl, _, rfl, _, rfl, _, _, rfl, rfl, a, ss, _, v', rfl, rfl, SqT.of (s13 a _ ea), by rw [cj]; exact atI_nat ev, ?_⟩
              refine ⟨s, p, is.up s13.ts, ip.up s13.ts, _, rfl, ite2 (fun g => ?_) (fun g => ?_)⟩
              · rw [if_neg (by simp [g])] at eb
                exact ⟨_, rfl, made2 ((bad eb).up s13)⟩
              · rw [if_pos (by simp [g])] at eb
                exact ⟨_, _, rfl, s13, eb⟩
            · have f1 : i = 0 := by
                have : ¬ (0 : Int) < (i : Nat) := fun h => f (decide_eq_true h)
                omega
              subst f1
              have e0 : prevOf l 0 = none := rfl
              rw [e0, if_pos (by rfl)] at eb
              exact ⟨_, _, rfl, s13, eb⟩
        · rintro σ H1 ⟨x, y, rfl, s1, eb⟩
          rw [lv, List.drop_length] at eb
          exact yes (by rw [en, eb]; rfl) H1 s1
    · have c1' : ¬ (1 : Int) ≤ (ss.length : Nat) := fun h => c1 (decide_eq_true h)
      exact ⟨_, rfl, made2 (raise1 (by omega))⟩
/-! need_programs -/
structure SmallP (p : List Entry) : Prop where
  n : p.length ≤ BIG
  e : ∀ e ∈ p, SmallE e
def sp_need_programs (K : PySem.W.Frag) : Sp := fun vs H Q E => ∃ (c : Nat) (a : Addr) (ss : List V) (l : List (List Entry)), vs = [.int c, .ref a] ∧ H a = some (.tup ss) ∧ Paired (IsProg H) ss l ∧ l.length ≤ BIG ∧ (∀ s ∈ l, SmallP s) ∧
  (notProgs c l = none → ∀ H', Same H H' → Q .non H') ∧ (∀ k, notProgs c l = some k → Err K H E "BadLot" (flL "programs" k))
theorem g_need_programs (T : Txt P w K mg base) : Gd P w K mg base 6 "need_programs" ["corners", "programs"] (sp_need_programs K) := by
  refine gd_of (d := d_need_programs) T (by decide +kernel) (by simp [fn]) rfl (fun _ _ _ _ _ _ us hl => match us, hl with | [_, _], _ => rfl) fun fd F => F.ok sc_need_programs (fun vs H Q E h => ?_) fun cdv A outer s H vs Q E hr h => ?_
  · obtain ⟨c, a, ss, l, rfl, ea, pl, hl, hs, yes, no⟩ := h
    rfl
  · obtain ⟨c, a, ss, l, rfl, ea, pl, hl, hs, yes, no⟩ := h
    have h_MOST_PROGRAMS := T.i "MOST_PROGRAMS" 12 (by decide +kernel)
    refine ⟨_, (pss_cons (ps_if (PW.pt (pw_or (pt_not (pt_val (pe_callB (call_isi' (K := K) rfl) rfl (T.free "isinstance" (by decide +kernel)) boot_isi (pa_cons (pv 1) (pa_cons (pe_bltn (v := .ty "tuple") rfl (T.free "tuple" (by decide +kernel)) boot_tuple rfl) pa_nil))))) (pw_or1 (pt_cmpR op_gt (pe_callB call_len_seq rfl (T.free "len" (by decide +kernel)) boot_len (pa_cons (pv 1) pa_nil)) (pe_gi h_MOST_PROGRAMS) (nomark _))))) (pss_one (ps_rs (rs_lot T) (hr.mono (by decide)) rfl (takes_of (E := E) rfl rfl rfl rfl) rfl (pa_cons pe_str (pa_cons pe_non pa_nil)))) pss_nil)
      (pss_one (ps_for passO rfl (pi_enumT rfl (T.free "enumerate" (by decide +kernel)) (pa_cons (pv 1) pa_nil)) (pg_tup rfl (pgs_cons (pg_name (i := 2) sc_need_programs.nd rfl (.inl rfl)) (pgs_cons (pg_name (i := 3) sc_need_programs.nd rfl (.inl rfl)) pgs_nil))) (pss_one (ps_if (pt_not (pt_val (pe_g (g_is_program T) (hr.mono (by decide)) rfl passL (pa_cons (pv 0) (pa_cons (pv 3) pa_nil))))) (pss_one (ps_rs (rs_lot T) (hr.mono (by decide)) rfl (takes_of (E := E) rfl rfl rfl rfl) rfl (pa_cons pe_str (pa_cons (pv 2) pa_nil)))) pss_nil))))), ?_⟩
    have lv : ss.length = l.length := pair_len pl
    refine ⟨_, rfl, _, .ty "tuple", _, .type "tuple", true, rfl, .ty _, .base (.tup ea), kit_ty (by decide +kernel), true, rfl, ?_⟩
    refine ⟨_, rfl, a, _, rfl, .inr (SqT.of ea), ?_⟩
    refine ⟨_, _, rfl, rfl, _, rfl, ite2 (fun c1 => ?_) (fun c1 => ?_)⟩
    · have c1' : (12 : Int) < (ss.length : Nat) := of_decide_eq_true c1
      exact made2 (no none (if_pos (by omega)))
    · have c1' : ¬ (12 : Int) < (ss.length : Nat) := fun h => c1 (decide_eq_true h)
      have en : notProgs c l = (badProg c 0 l).map some := by
        unfold notProgs
        rw [if_neg (by omega)]
      refine ⟨_, rfl, a, ss, rfl, SqT.of ea, ?_⟩
      refine for_it (walk_enumT (K := K) (a := a) (xs := ss)) (fun i σ H1 => ∃ x y, σ = [some (.int c), some (.ref a), x, y] ∧ Same H H1 ∧ badProg c 0 l = badProg c i (l.drop i))
        ⟨_, _, rfl, Same.refl H, rfl⟩ (fun i σ H1 _ ⟨_, _, _, s1, _⟩ => SqT.of (s1 a _ ea)) ?_ ?_
      · rintro i v σ H1 H2 hi ⟨x, y, rfl, s1, eb⟩ ⟨T', n, z, rfl, nT, rfl, e1, e2⟩
        cases e1
        have s2 := s1.trans (Same.new nT (o := .tup [.int (i : Nat), z]))
        obtain ⟨s, es, is⟩ := pair_get pl (show ss[i]? = some z from e2)
        have ms := List.mem_of_getElem? es
        rw [badProg_at es] at eb
        refine ⟨T', _, rfl, SqT.of upd_same, rfl, _, _, rfl, _, _, rfl, rfl, ?_⟩
        refine ⟨_, rfl, _, rfl, c, z, s, rfl, is.up s2.ts, (hs s ms).n, (hs s ms).e, fun H3 s3 => ?_⟩
        have s13 := s2.trans s3
        refine ⟨_, rfl, ite2 (fun d => ?_) (fun d => ?_)⟩
        · have d1 : isProg c s = false := by simpa using d
          rw [d1, if_neg (by simp)] at eb
          exact ⟨_, rfl, made2 ((no (some i) (by rw [en, eb]; rfl)).up s13)⟩
        · have d1 : isProg c s = true := by simpa using d
          rw [d1, if_pos rfl] at eb
          exact ⟨_, _, rfl, s13, eb⟩
      · rintro σ H1 ⟨x, y, rfl, s1, eb⟩
        rw [lv, List.drop_length] at eb
        exact yes (by rw [en, eb]; rfl) H1 s1
end
end K5
/-! ### two fors in one comprehension; a dict of what was found; its keys, sorted -/
namespace K5
open PySem PySem.Spec PyProof.Rows L2
section
variable {J J1 : It} {n n1 : Nat} {G G1 : Hp → Prop} {Y Y1 : Nat → Hp → V → Hp → Prop} {g g1 : TG} {tt tt1 : TT} {te : TE} {wi1 : TI} {vs vs1 : List Nat} {σ : L2.St} {H1 : Hp} {D : Addr} {Qd : Hp → Prop}
/-- the inner one -/
abbrev inWalk (J1 : It) (D : Addr) (g1 : TG) (tt1 : TT) (te : TE) (vs1 : List Nat) (σ2 : L2.St) (H4 : Hp) (Nx : Hp → Prop) : Prop := ∃ W1 : Nat → Nat → Hp → Prop, (∃ m, W1 0 m H4) ∧ ∀ j k H, W1 j k H →
  (J1.stop j H ∧ Nx H) ∨ (J1.go j H ∧ ∃ Nx1 : Hp → Prop, (∀ H', Nx1 H' → ∃ k', k' < k ∧ W1 (j + 1) k' H') ∧ ∀ x H', J1.yld j H x H' → g1 x (wipe σ2 vs1) H' fun σ3 H5 => wipe σ3 vs1 = wipe σ2 vs1 ∧ tt1 σ3 H5 fun b H6 =>
    if b = true then te σ3 H6 fun y H7 => ∃ acc, H7 D = some (.lst acc) ∧ acc.length < sizeLine ∧ Nx1 (upd H7 D (.lst (acc ++ [y]))) else Nx1 H6)
theorem lc2_in (w : Walk J1 n1 G1 Y1) (Pv : Nat → Hp → Prop) (h0 : Pv 0 H1) (hG : ∀ i H, i ≤ n1 → Pv i H → G1 H)
    (hs : ∀ i x H H', i < n1 → Pv i H → Y1 i H x H' → g1 x (wipe σ vs1) H' fun σ3 H5 => wipe σ3 vs1 = wipe σ vs1 ∧ tt1 σ3 H5 fun b H6 =>
      if b = true then te σ3 H6 fun y H7 => ∃ acc, H7 D = some (.lst acc) ∧ acc.length < sizeLine ∧ Pv (i + 1) (upd H7 D (.lst (acc ++ [y]))) else Pv (i + 1) H6) (hd : ∀ H, Pv n1 H → Qd H) :
    inWalk J1 D g1 tt1 te vs1 σ H1 Qd := by
  refine ⟨fun i m H => m = n1 - i ∧ i ≤ n1 ∧ Pv i H, ⟨n1, by simp, Nat.zero_le _, h0⟩, fun i m H ⟨em, hi, p⟩ => ?_⟩
  subst em
  by_cases lt : i < n1
  · exact .inr ⟨w.goes i H lt (hG i H hi p), Pv (i + 1), fun H' p' => ⟨n1 - (i + 1), by omega, rfl, lt, p'⟩, fun x H' y => hs i x H H' lt p (w.yields i H x H' lt (hG i H hi p) y)⟩
  · obtain rfl : i = n1 := by omega
    exact .inl ⟨w.stops H (hG _ H hi p), hd H p⟩
theorem lc2_out (w : Walk J n G Y) (Pv : Nat → Hp → Prop) (h0 : Pv 0 (upd H1 D (.lst []))) (hG : ∀ i H, i ≤ n → Pv i H → G H)
    (hs : ∀ i x H H', i < n → Pv i H → Y i H x H' → g x (wipe σ vs) H' fun σ2 H2 => wipe σ2 vs = wipe σ vs ∧ tt σ2 H2 fun b H3 =>
      if b = true then wi1 σ2 H3 fun J1 H4 => inWalk J1 D g1 tt1 te vs1 σ2 H4 (Pv (i + 1)) else Pv (i + 1) H3) (hd : ∀ H, Pv n H → Qd H) :
    ∃ W : Nat → Nat → Hp → Prop, (∃ m, W 0 m (upd H1 D (.lst []))) ∧ ∀ i m H, W i m H →
      (J.stop i H ∧ Qd H) ∨ (J.go i H ∧ ∃ Nx : Hp → Prop, (∀ H', Nx H' → ∃ m', m' < m ∧ W (i + 1) m' H') ∧ ∀ x H', J.yld i H x H' → g x (wipe σ vs) H' fun σ2 H2 => wipe σ2 vs = wipe σ vs ∧ tt σ2 H2 fun b H3 =>
        if b = true then wi1 σ2 H3 fun J1 H4 => inWalk J1 D g1 tt1 te vs1 σ2 H4 Nx else Nx H3) := by
  refine ⟨fun i m H => m = n - i ∧ i ≤ n ∧ Pv i H, ⟨n, by simp, Nat.zero_le _, h0⟩, fun i m H ⟨em, hi, p⟩ => ?_⟩
  subst em
  by_cases lt : i < n
  · exact .inr ⟨w.goes i H lt (hG i H hi p), Pv (i + 1), fun H' p' => ⟨n - (i + 1), by omega, rfl, lt, p'⟩, fun x H' y => hs i x H H' lt p (w.yields i H x H' lt (hG i H hi p) y)⟩
  · obtain rfl : i = n := by omega
    exact .inl ⟨w.stops H (hG _ H hi p), hd H p⟩
end
/-! the dict of what was found -/
def mK (l : List (List Nat)) : List (Key × V) := l.map fun m => (.inr (S m), .bl true)
theorem mK_keys (l : List (List Nat)) : (mK l).map (·.1) = (l.map S).map Sum.inr := by
  unfold mK
  rw [List.map_map, List.map_map]
  rfl
theorem mK_put (l : List (List Nat)) (m : List Nat) : putK (mK l) (.inr (S m)) (.bl true) = mK (addM l m) := by
  have ha : ((mK l).any fun kv => decide (kv.1 = Sum.inr (S m))) = decide (m ∈ l) := by
    unfold mK
    rw [List.any_map, Bool.eq_iff_iff]
    simp only [List.any_eq_true, Function.comp, decide_eq_true_eq]
    constructor
    · rintro ⟨x, h1, h2⟩
      rw [← S_inj (Sum.inr.inj h2)]
      exact h1
    · intro h
      exact ⟨m, h, rfl⟩
  unfold putK addM
  rw [ha]
  by_cases h : m ∈ l
  · rw [if_pos (decide_eq_true h), if_pos h]
    unfold mK
    rw [List.map_map]
    refine List.map_congr_left fun x _ => ?_
    show (if _ then (_, V.bl true) else (_, V.bl true)) = _
    split <;> rfl
  · rw [if_neg (by simp [h]), if_neg h]
    unfold mK
    rw [List.map_append]
    rfl
theorem addM_len (l : List (List Nat)) (m : List Nat) : (addM l m).length ≤ l.length + 1 := by
  unfold addM
  split
  · omega
  · simp
section
variable {X : Cx}
/-- name = {..} on one line, the name a local -/
theorem ps_setDc {i : Nat} {y : Str} {py : Pos} {kx vx tg iter : Expr} {ifs : List Expr} {scope : Scope} {own : List (Str × Nat)} {pos spos : Pos} {wi : TI} {g : TG} {tt : TT} {tk tv : TE} (hc : X.calm = true) (hN : X.N.Nodup) (hy : X.N[i]? = some y) (hyl : X.env.scope.names.lookup y = some .local)
    (hsw : swapsWith (.DictComp kx vx [⟨tg, iter, ifs, 0⟩] scope pos) (some (.Name y py)) spos.line X.env = pure true) (hi : PI X tg iter wi) (ok : BlkOk X.N X.env.scope scope own)
    (hg : ∀ (s : Shared) (H : Hp) (C : Addr) (cl : List (Str × Addr)) (fp : List Addr), PG (X.blk s H scope (compEnvC scope cl C X.env) fp) tg g)
    (ht : ∀ (s : Shared) (H : Hp) (C : Addr) (cl : List (Str × Addr)) (fp : List Addr), PTs (X.blk s H scope (compEnvC scope cl C X.env) fp) ifs tt)
    (hk : ∀ (s : Shared) (H : Hp) (C : Addr) (cl : List (Str × Addr)) (fp : List Addr), PE (X.blk s H scope (compEnvC scope cl C X.env) fp) kx tk)
    (he : ∀ (s : Shared) (H : Hp) (C : Addr) (cl : List (Str × Addr)) (fp : List Addr), PE (X.blk s H scope (compEnvC scope cl C X.env) fp) vx tv) (hs : ∀ x, foldedSetIterable iter X.env x = pure x := by intro _; rfl) :
    PS X (.Assign [.Name y py] (.DictComp kx vx [⟨tg, iter, ifs, 0⟩] scope pos) spos) (tAsg (tDc wi g tt tk tv (own.map (·.2))) (gName i)) := by
  constructor
  intro pins s σ H D I h
  have h : tDc wi g tt tk tv (own.map (·.2)) σ H (fun x H1 => gName i x σ H1 D.nx) := h
  rw [exec_Assign_Name_used _ _ _ _ hsw]
  refine wpAny_bind (wpAny_standAt (wpAny_bind (?_ : wpAny _ X.A (do let _ ← comprehension (.DictComp kx vx [⟨tg, iter, ifs, 0⟩] scope pos) scope X.env (firstIterPos [⟨tg, iter, ifs, 0⟩] pos) newDict false (eval iter X.env) (some (assign (.Name y py) X.env))) _ _ s)))
  refine wpAny_bind (thn (dc_core (Qf := fun _ s' => SP X pins D .next s') hc hN I hi ok hg ht hk he hs h fun L C s' m H' I' q hn f => ?_) fun _ _ hq => wpAny_pure (wpAny_pure hq))
  refine wpAny_assign_Name (store_ok2 (v := V.ref L) I' hN hy (.inl hyl) rfl (fun s2 I2 ⟨a, sb, ha⟩ => ?_) (.inr hyl))
  obtain ⟨f0, f1, f2, f3, f4, f5⟩ := f
  have ne : C ≠ a := ha.elim (fun z => by rw [z]; exact f1) fun z e => f4 y a z e.symm
  exact ⟨m, hn.sameBut sb ne, fun h3 sb3 => ⟨_, H', I2.turned (t' := s2.toks) (fun b o hb e => (sb3.2 b hb).trans e) f0 f1 f3 f4 f5, q⟩⟩
theorem sw_dict {kx vx : Expr} {gs : List Comprehension} {scope : Scope} {pos py : Pos} {y : Str} {l : Nat} {env : Env} (hk : env.scope.kind = .function) (hy : env.scope.names.lookup y = some .local) (hl : (py.line == pos.line) = true)
    (ha : (scope.names.any fun (n, k) => n == y && (k == .local || k == .cell)) = false) : swapsWith (.DictComp kx vx gs scope pos) (some (.Name y py)) l env = pure true := by
  have hb : env.blockKind = .function := by
    unfold Env.blockKind
    rw [hk]
    rfl
  have ky : env.kindOf y = some .local := hy
  simp only [swapsWith, hb, ky, ha, Expr.pos, hl]
  rfl
/-- sorted(d), all keys texts, any number of them -/
def rSortedDT : List V → Hp → VK → Prop := fun xs H Q => ∃ (a : Addr) (kvs : List (Key × V)) (ks : List Str), xs = [.ref a] ∧ Rd H a (.dK kvs) ∧ kvs.map (·.1) = ks.map Sum.inr ∧
  ∀ ys p, ys.Perm ks → sortedS ys = true → H p = none → Q (.ref p) (upd H p (.lst (ys.map V.str)))
theorem cr_sortedDT (hcalm : X.calm = true) : CallR X (.builtin "sorted") rSortedDT := by
  intro pins s σ H xs us Q I r q
  obtain ⟨a, kvs, ks, rfl, hd, hks, q⟩ := q
  obtain ⟨u, rfl, rx⟩ := vals1 r
  cases rx
  obtain ⟨z, lo, vs, rel, dd⟩ := dk_rd I.hok hd
  obtain ⟨ep, hat⟩ := dd.dictAt
  have hkeys : vs.map (·.1) = ks.map Sum.inr := rel.keys.symm.trans hks
  have hl : vs.length = ks.length := by simpa using congrArg List.length hkeys
  have hz : vs.length ≤ sizeLine := by
    rw [← rel.length]
    exact z
  refine Calls.call_function_entry kind_sorted plain_sorted entry_sorted (args_sorted1 _) (?_ : wpAny _ _ (Builtin.«sorted» _) _ _ _)
  unfold Builtin.«sorted»
  refine wpAny_bind (m := checkCount "sorted" 1 1 _) (wpAny_pure (wpAny_bind (PySem.W.kdu_collect (A := X.A.in1) (PySem.W.kdl_dict (knd := mixKind X.prog X.w) (kvs := vs) (ep := ep) lo) (I.ok.hd hcalm) hat hz fun h' tk acc hk hacc => ?_)))
  have hal : acc.toList.length = ks.length := by rw [Array.length_toList, hacc.1, hl]
  have la : acc.toList.length ≤ sizeLine := by
    rw [hal, ← hl]
    exact hz
  have hS : StrsAre acc.toList ks := by
    refine strs_at hal fun j v e => ?_
    obtain ⟨k, x, e1, e2⟩ := hacc.2 j v (by rw [← Array.getElem?_toList]; exact e)
    have e3 : (vs.map (·.1))[j]? = some k := by
      rw [List.getElem?_map, e1]
      all_goals rfl
    rw [hkeys, List.getElem?_map] at e3
    cases e4 : ks[j]? with
    | none =>
      rw [e4] at e3
      cases e3
    | some y =>
      rw [e4] at e3
      obtain rfl : Sum.inr y = k := Option.some.inj e3
      obtain ⟨t, ev⟩ := Value.isStrOf_shape (x := y) (v := v) e2
      exact ⟨y, t, rfl, ev⟩
  have I1 : Inv X pins σ H { s with heap := h', toks := tk } := I.kept hk
  refine wpAny_bind (wpAny_newList ?_ la)
  have hoL : (h'.push (seqObj "list" acc.toList.toArray 0)).get? h'.objs.size = some (seqObj "list" acc.toList.toArray 0) := Heap.get?_push_size _ rfl
  show wpAny _ _ _ _ _ { s with heap := h'.push (seqObj "list" acc.toList.toArray 0), toks := tk }
  refine wpAny_bind (wpAny_holding (wpAny_call_entry slot_list_sort ⟨_, hoL, rfl⟩ entry_list_sort
    (list_sort_treeKAny strKind_oneLt (s := { s with heap := h'.push (seqObj "list" acc.toList.toArray 0), toks := tk }) hoL hS.keysOf (fun v₁ v₂ rest e => keyKind_strs (by rw [← e]; exact hS)) la fun st hp hs => ⟨_, rfl, wpAny_pure ⟨_, rfl, ?_⟩⟩)
    (args_list_sort _)))
  obtain ⟨ys, g1, g2, g3⟩ := sorted_out_str hS hp hs
  obtain ⟨e', he'⟩ := sortedHeap_at (vs := acc.toList) (out := (arrOf st).map (·.2)) hoL
  have hlen : (ys.map V.str).length ≤ sizeLine := by
    rw [List.length_map, g2.length_eq, ← hl]
    exact hz
  refine ⟨.ref h'.objs.size, upd H h'.objs.size (.lst (ys.map V.str)), I1.laid (t' := tk) (fun b u e => ?_) (Nat.le_refl _)
    (show ObjOk X.prog X.w _ _ _ (.lst (ys.map V.str)) from ⟨hlen, ((arrOf st).map (·.2)).toList, e', vals_of_strs g1, by rw [Array.toArray_toList]; exact he'⟩), rfl, q ys _ g2 g3 (I1.hok.fresh (Nat.le_refl _))⟩
  have hb : b < h'.objs.size := Heap.lt_size e
  exact (sortedHeap_old (Nat.ne_of_lt hb) (by rw [size_push']; exact Nat.lt_succ_of_lt hb)).trans (Heap.get?_push_of_some _ e)
end
end K5
/-! ### all entries, all marks; a lot that is none -/
namespace K5
open PySem PySem.Spec PyProof.Rows L2
theorem pi_tup' {X : Cx} {K : PySem.W.Frag} {tg e : Expr} {te : TE} (h : X.K = K) (he : PE X e te) : PI X tg e (iTup K te) := h ▸ pi_tup he
def IsIE (H : Hp) (v : V) (e : Entry) : Prop := ∃ a n ev, v = .ref a ∧ H a = some (.tup [n, ev]) ∧ IsEntry H ev e
theorem IsIE.up {H H' : Hp} {v : V} {t : Entry} (e : TupS H H') (h : IsIE H v t) : IsIE H' v t := let ⟨a, n, ev, h1, h2, h3⟩ := h; ⟨a, n, ev, h1, e _ _ h2, h3.up e⟩
theorem flat_len (l : List (List Entry)) : l.flatten.length = (l.map List.length).sum := by rw [List.length_flatten]
theorem flat_take {l : List (List Entry)} {i : Nat} {p : List Entry} (h : l[i]? = some p) : (l.take (i + 1)).flatten = (l.take i).flatten ++ p := by
  obtain ⟨hi, e⟩ := List.getElem?_eq_some_iff.mp h
  rw [List.take_succ_eq_append_getElem hi, e, List.flatten_append]
  simp
theorem take_snoc {α : Type} {l : List α} {i : Nat} {p : α} (h : l[i]? = some p) : l.take (i + 1) = l.take i ++ [p] := by
  obtain ⟨hi, e⟩ := List.getElem?_eq_some_iff.mp h
  rw [List.take_succ_eq_append_getElem hi, e]
theorem flat_le {l : List (List Entry)} {i : Nat} {p : List Entry} (h : l[i]? = some p) : (l.take i).flatten.length + p.length ≤ l.flatten.length := by
  have z := flat_take h
  have e : l.flatten = (l.take (i + 1)).flatten ++ (l.drop (i + 1)).flatten := by
    rw [← List.flatten_append, List.take_append_drop]
  rw [e, List.length_append, z, List.length_append]
  omega
structure SmallL (x : Lot) : Prop where
  sn : x.shots.length ≤ BIG
  s : ∀ s ∈ x.shots, SmallS s
  pn : x.progs.length ≤ BIG
  p : ∀ p ∈ x.progs, SmallP p
  f : x.progs.flatten.length ≤ BIG
section
variable {P : Program} {w : World} {K : PySem.W.Frag} {mg : Str → Option Value} {base : Heap}
/-! entries_in -/
def sp_entries_in : Sp := fun vs H Q _ => ∃ (v : V) (x : Lot), vs = [v] ∧ IsLot H v x ∧ x.progs.flatten.length ≤ BIG ∧ ∀ H' a es, Same H H' → H' a = some (.lst es) → Paired (IsIE H') es x.progs.flatten → Q (.ref a) H'
theorem g_entries_in (T : Txt P w K mg base) : Gd P w K mg base 1 "entries_in" ["lot"] (sp_entries_in) := by
  refine gd_of (d := d_entries_in) T (by decide +kernel) (by simp [fn]) rfl (fun _ _ _ _ _ _ us hl => match us, hl with | [_], _ => rfl) fun fd F => F.ok sc_entries_in (fun vs H Q E h => ?_) fun cdv A outer s H vs Q E hr h => ?_
  · obtain ⟨v, x, rfl, ⟨a, b, c, ss, ps, rfl, ea, eb, pb, ec, pc⟩, hl, q⟩ := h
    rfl
  · obtain ⟨v, x, rfl, ⟨a, b, c, ss, ps, rfl, ea, eb, pb, ec, pc⟩, hl, q⟩ := h
    refine ⟨_, (pss_one (ps_ret (pe_lc2 (own := [("number", 1), ("program", 2), ("entry", 3)]) (vs1 := [3]) (g := gTup K 2 (gCons (gName 1) (gCons (gName 2) gNil))) (g1 := gName 3) (tt := tYes) (tt1 := tYes) rfl sc_entries_in.nd (pi_enumT rfl (T.free "enumerate" (by decide +kernel)) (pa_cons (pe_ix ix_tup (pv 0) pe_int (fun _ _ => rfl)) pa_nil)) (blkOk_by (N := n_entries_in) (sc := defScope s_entries_in) (by decide +kernel)) (by decide) (fun _ _ _ _ _ => pg_tup rfl (pgs_cons (pg_name (i := 1) sc_entries_in.nd rfl (.inl rfl)) (pgs_cons (pg_name (i := 2) sc_entries_in.nd rfl (.inl rfl)) pgs_nil))) (fun _ _ _ _ _ => pts_nil) (fun _ _ _ _ _ => pi_tup' (K := K) rfl (pv 2)) (fun _ _ _ _ _ => pg_name (i := 3) sc_entries_in.nd rfl (.inl rfl)) (fun _ _ _ _ _ => pts_nil) (fun _ _ _ _ _ => pe_tup (pa_cons (pv 1) (pa_cons (pv 3) pa_nil)))))), ?_⟩
    have lv : ps.length = x.progs.length := pair_len pc
    refine ⟨_, rfl, a, _, _, .ref c, rfl, rfl, SqT.of ea, rfl, c, ps, rfl, SqT.of ec, fun D nD => ?_⟩
    refine lc2_out (walk_enumT (K := K) (a := c) (xs := ps)) (fun i H1 => ∃ es, Same H H1 ∧ H1 D = some (.lst es) ∧ Paired (IsIE H1) es (x.progs.take i).flatten)
      ⟨[], Same.new nD, upd_same, .nil⟩ (fun i H1 _ ⟨es, s1, _⟩ => SqT.of (s1 c _ ec)) ?_ ?_
    · rintro i v H1 H2 hi ⟨es, s1, eD, pD⟩ ⟨T', n, z, rfl, nT, rfl, e1, e2⟩
      cases e1
      obtain ⟨p, ep, ip⟩ := pair_get pc (show ps[i]? = some z from e2)
      have s2 := Same.new nT (o := .tup [.int (i : Nat), z])
      obtain ⟨d, us, rfl, ed, pd⟩ := ip.up (s1.trans s2).ts
      refine ⟨T', _, rfl, SqT.of upd_same, rfl, _, _, rfl, _, _, rfl, rfl, rfl, _, rfl, d, rfl, ⟨_, SqT.of ed⟩, ?_⟩
      have up1 : Same H1 (upd H1 T' (.tup [.int (i : Nat), .ref d])) := s2
      refine lc2_in (walk_tup (K := K) (a := d) (xs := us)) (fun j H3 => ∃ fs, Same H H3 ∧ TupS (upd H1 T' (.tup [.int (i : Nat), .ref d])) H3 ∧ H3 D = some (.lst fs) ∧ Paired (IsIE H3) fs ((x.progs.take i).flatten ++ p.take j))
        ⟨es, s1.trans s2, TupS.refl _, s2 _ _ eD, by rw [List.take_zero, List.append_nil]; exact L2.Paired.mapP pD fun _ _ q => IsIE.up s2.ts q⟩ (fun j H3 _ ⟨fs, _, t3, _⟩ => SqT.of (t3 d _ ed)) ?_ ?_
      · rintro j u H3 H4 hj ⟨fs, s3, t3, eD3, pD3⟩ ⟨rfl, eu⟩
        obtain ⟨e, ee, ie⟩ := pair_get pd eu
        refine ⟨rfl, _, rfl, _, rfl, zl2, fun b nb => ?_⟩
        have s4 := Same.new nb (o := .tup [.int (i : Nat), u])
        have lf : fs.length ≤ BIG := by
          rw [pair_len pD3, List.length_append]
          have z1 := flat_le ep
          have z2 : (p.take j).length ≤ p.length := by
            rw [List.length_take]
            omega
          omega
        have eD4 := s4 _ _ eD3
        have up : TupS H4 (upd (upd H4 b (.tup [.int (i : Nat), u])) D (.lst (fs ++ [.ref b]))) := s4.ts.trans (TupS.lst eD4)
        refine ⟨fs, eD4, szl (by omega), fs ++ [.ref b], (s3.trans s4).put nD, t3.trans up, upd_same, ?_⟩
        rw [take_snoc ee, ← List.append_assoc]
        refine pair_snoc (L2.Paired.mapP pD3 fun _ _ q => IsIE.up up q) ⟨b, .int (i : Nat), u, rfl, ?_, (ie.up t3).up up⟩
        exact TupS.lst eD4 _ _ upd_same
      · rintro H3 ⟨fs, s3, t3, eD3, pD3⟩
        refine ⟨fs, s3, eD3, ?_⟩
        rw [pair_len pd, List.take_length, ← flat_take ep] at pD3
        exact pD3
    · rintro H1 ⟨es, s1, eD, pD⟩
      rw [lv, List.take_length] at pD
      exact q H1 D es s1 eD pD
/-! marks_in -/
def shM (x : Lot) (i : Nat) : List (List Nat) := (x.shots.take i).foldl (fun l s => addM l s.2) []
def enM (es : List Entry) (l : List (List Nat)) : List (List Nat) := (es.flatMap fun e => [e.1, e.2.2]).foldl addM l
theorem shM_at {x : Lot} {i : Nat} {s : Shot} (h : x.shots[i]? = some s) : shM x (i + 1) = addM (shM x i) s.2 := by
  unfold shM
  rw [take_snoc h, List.foldl_append]
  rfl
theorem enM_at {es : List Entry} {l : List (List Nat)} {i : Nat} {e : Entry} (h : es[i]? = some e) : enM (es.take (i + 1)) l = addM (addM (enM (es.take i) l) e.1) e.2.2 := by
  unfold enM
  rw [take_snoc h, List.flatMap_append, List.foldl_append]
  rfl
theorem marks_eq (x : Lot) : marksOf x = enM x.progs.flatten (shM x x.shots.length) := by
  unfold marksOf enM shM
  rw [List.take_length]
  refine congrArg (fun z => List.foldl addM _ z) ?_
  induction x.progs with
  | nil => rfl
  | cons p r ih => rw [List.flatMap_cons, List.flatten_cons, List.flatMap_append, ih]
theorem shM_len (x : Lot) : ∀ i, i ≤ x.shots.length → (shM x i).length ≤ i
  | 0, _ => by simp [shM]
  | i + 1, h => by
    obtain ⟨s, e⟩ : ∃ s, x.shots[i]? = some s := ⟨_, List.getElem?_eq_getElem h⟩
    rw [shM_at e]
    have z1 := addM_len (shM x i) s.2
    have z2 := shM_len x i (by omega)
    omega
theorem enM_len (es : List Entry) (l : List (List Nat)) : ∀ i, i ≤ es.length → (enM (es.take i) l).length ≤ l.length + 2 * i
  | 0, _ => by simp [enM]
  | i + 1, h => by
    obtain ⟨s, e⟩ : ∃ s, es[i]? = some s := ⟨_, List.getElem?_eq_getElem h⟩
    rw [enM_at e]
    have z1 := addM_len (enM (es.take i) l) s.1
    have z3 := addM_len (addM (enM (es.take i) l) s.1) s.2.2
    have z2 := enM_len es l i (by omega)
    omega
def sp_marks_in : Sp := fun vs H Q _ => ∃ (v : V) (x : Lot), vs = [v] ∧ IsLot H v x ∧ x.shots.length ≤ BIG ∧ x.progs.flatten.length ≤ BIG ∧ ∀ H' a ys, Same H H' → H' a = some (.lst ys) → ys.length = (marksOf x).length → Q (.ref a) H'
theorem g_marks_in (T : Txt P w K mg base) : Gd P w K mg base 2 "marks_in" ["lot"] (sp_marks_in) := by
  refine gd_of (d := d_marks_in) T (by decide +kernel) (by simp [fn]) rfl (fun _ _ _ _ _ _ us hl => match us, hl with | [_], _ => rfl) fun fd F => F.ok sc_marks_in (fun vs H Q E h => ?_) fun cdv A outer s H vs Q E hr h => ?_
  · obtain ⟨v, x, rfl, IL, h1, h2, q⟩ := h
    rfl
  · obtain ⟨v, x, rfl, IL, h1, h2, q⟩ := h
    refine ⟨_, (pss_cons (ps_setDc (i := 1) (own := [("shot", 2)]) (g := gName 2) (tt := tYes) rfl sc_marks_in.nd rfl rfl (sw_dict rfl rfl rfl (by decide +kernel)) (pi_tup (pe_ix ix_tup (pv 0) pe_int (fun _ _ => rfl))) (blkOk_by (N := n_marks_in) (sc := defScope s_marks_in) (by decide +kernel)) (fun _ _ _ _ _ => pg_name (i := 2) sc_marks_in.nd rfl (.inl rfl)) (fun _ _ _ _ _ => pts_nil) (fun _ _ _ _ _ => pe_ix (ix_tup' (K := K) rfl) (pv 2) pe_int (fun _ _ => rfl)) (fun _ _ _ _ _ => pe_bl))
      (pss_cons (ps_for passO rfl (pi_list (pe_g (g_entries_in T) (hr.mono (by decide)) rfl passL (pa_cons (pv 0) pa_nil))) (pg_tup rfl (pgs_cons (pg_name (i := 3) sc_marks_in.nd rfl (.inl rfl)) (pgs_cons (pg_name (i := 4) sc_marks_in.nd rfl (.inl rfl)) pgs_nil))) (pss_cons (ps_dput (hu_of hr) (pv 1) (pe_ix ix_tup (pv 4) pe_int (fun _ _ => rfl)) pe_bl rfl)
      (pss_one (ps_dput (hu_of hr) (pv 1) (pe_ix ix_tup (pv 4) pe_int (fun _ _ => rfl)) pe_bl rfl))))
      (pss_one (ps_ret (pe_callB (cr_sortedDT rfl) rfl (T.free "sorted" (by decide +kernel)) boot_sorted (pa_cons (pv 1) pa_nil)))))), ?_⟩
    obtain ⟨a, b, c, ss, ps, rfl, ea, eb, pb, ec, pc⟩ := id IL
    have lv : ss.length = x.shots.length := pair_len pb
    refine ⟨_, rfl, a, _, _, .ref b, rfl, rfl, SqT.of ea, rfl, b, rfl, ⟨_, SqT.of eb⟩, fun D nD => ?_⟩
    refine dc_tup (K := K) (a := b) (xs := ss) (fun i H1 => Same H H1 ∧ H1 D = some (.dK (mK (shM x i)))) ⟨Same.new nD, upd_same⟩ (fun i H1 _ ⟨s1, _⟩ => SqT.of (s1 b _ eb)) ?_ ?_
    · rintro i v H1 ev ⟨s1, eD⟩
      obtain ⟨s, es, d, tv, rfl, ed, it⟩ := pair_get pb ev
      have hi : i < ss.length := (List.getElem?_eq_some_iff.mp ev).1
      refine ⟨rfl, _, rfl, d, _, _, _, rfl, rfl, SqT.of (s1 d _ ed), rfl, mK (shM x i), .inr (S s.2), rfl, eD, ?_, s1.put nD, ?_⟩
      · have z := shM_len x i (by omega)
        unfold mK
        rw [List.length_map]
        exact szl (by omega)
      · rw [upd_same, shM_at es, mK_put]
    · rintro H1 ⟨s1, eD⟩
      rw [lv] at eD
      refine ⟨_, rfl, .ref a, x, rfl, IL.up s1.ts, h2, fun H2 L es s2 eL pL => ?_⟩
      refine ⟨L, rfl, ⟨_, SqL.of eL⟩, ?_⟩
      have le : es.length = x.progs.flatten.length := pair_len pL
      have nL : H L = none ∨ True := .inr trivial
      refine for_it (walk_list (K := K) (a := L) (xs := es)) (fun i σ H3 => ∃ y z w', σ = [some (.ref a), some (.ref D), y, z, w'] ∧ Same H H3 ∧ TupS H2 H3 ∧ H3 L = some (.lst es) ∧ H3 D = some (.dK (mK (enM (x.progs.flatten.take i) (shM x x.shots.length)))))
        ⟨_, _, _, rfl, s1.trans s2, TupS.refl _, eL, s2 _ _ eD⟩ (fun i σ H3 _ ⟨_, _, _, _, _, _, e3, _⟩ => SqL.of e3) ?_ ?_
      · rintro i v σ H3 H4 hi ⟨y, z, w', rfl, s3, t3, e3, eD3⟩ ⟨rfl, ev⟩
        obtain ⟨e, ee, d, n, ve, rfl, ed, ie⟩ := pair_get pL ev
        obtain ⟨f, tv, rfl, ef, it⟩ := ie
        have ed3 := t3 d _ ed
        have ef3 := t3 f _ ef
        have sl := shM_len x x.shots.length (Nat.le_refl _)
        have el := enM_len x.progs.flatten (shM x x.shots.length) i (by omega)
        have z1 : (mK (enM (x.progs.flatten.take i) (shM x x.shots.length))).length < sizeLine := by
          unfold mK
          rw [List.length_map]
          have : sizeLine = 16777216 := by decide
          have b1 : x.shots.length ≤ 100000 := h1
          have b2 : x.progs.flatten.length ≤ 100000 := h2
          omega
        have z2 : (mK (addM (enM (x.progs.flatten.take i) (shM x x.shots.length)) e.1)).length < sizeLine := by
          have := addM_len (enM (x.progs.flatten.take i) (shM x x.shots.length)) e.1
          unfold mK
          rw [List.length_map]
          have : sizeLine = 16777216 := by decide
          have b1 : x.shots.length ≤ 100000 := h1
          have b2 : x.progs.flatten.length ≤ 100000 := h2
          omega
        have neD : f ≠ D := fun q => by
          rw [q, eD3] at ef3
          cases ef3
        have neL : L ≠ D := fun q => by
          rw [q, eD3] at e3
          cases e3
        refine ⟨d, _, rfl, SqT.of ed3, rfl, _, _, rfl, _, _, rfl, rfl, ?_⟩
        refine ⟨_, rfl, _, rfl, f, _, _, _, rfl, rfl, SqT.of ef3, rfl, D, _, rfl, DPut.k (k := Sum.inr (S e.1)) eD3 z1, ?_⟩
        rw [mK_put]
        refine ⟨_, rfl, _, rfl, f, _, _, _, rfl, rfl, SqT.of (by rw [upd_ne neD]; exact ef3), rfl, D, _, rfl, DPut.k (k := Sum.inr (S e.2.2)) upd_same z2, ?_⟩
        rw [mK_put]
        have up : TupS H4 (upd (upd H4 D (.dK (mK (addM (enM (x.progs.flatten.take i) (shM x x.shots.length)) e.1)))) D (.dK (mK (addM (addM (enM (x.progs.flatten.take i) (shM x x.shots.length)) e.1) e.2.2)))) :=
          TupS.trans (TupS.put fun xs q => by rw [eD3] at q; cases q) (TupS.put fun xs q => by rw [upd_same] at q; cases q)
        refine ⟨_, _, _, rfl, (s3.put nD).put nD, t3.trans up, by rw [upd_ne neL, upd_ne neL]; exact e3, ?_⟩
        rw [upd_same, enM_at ee]
      · rintro σ H3 ⟨y, z, w', rfl, s3, t3, e3, eD3⟩
        rw [le, List.take_length, ← marks_eq] at eD3
        refine ⟨_, rfl, D, _, (marksOf x).map S, rfl, .inl eD3, mK_keys _, fun ys p pm _ np => ?_⟩
        exact q _ p _ (s3.trans (Same.new np)) upd_same (by rw [List.length_map, pm.length_eq, List.length_map])
end
end K5
/-! ### a lot, or what is wrong with it; the reader -/
namespace K5
open PySem PySem.Spec PyProof.Rows L2
def partS : Part → Str
  | .corners => "corners"
  | .shots => "shots"
  | .programs => "programs"
  | .marks => "marks"
section
variable {P : Program} {w : World} {K : PySem.W.Frag} {mg : Str → Option Value} {base : Heap}
/-! need_lot -/
def LotAsk (K : PySem.W.Frag) (H : Hp) (v : V) (Q : Lot → Hp → Prop) (E : XK) : Prop :=
  (∃ x, IsLot H v x ∧ SmallL x ∧ (notLot x = none → ∀ H', Same H H' → Q x H') ∧ (∀ p k, notLot x = some (p, k) → Err K H E "BadLot" (flL (partS p) k))) ∨
  (NoTup K H v ∧ Err K H E "BadLot" (flL "form" none)) ∨
  (∃ a xs, v = .ref a ∧ H a = some (.tup xs) ∧ xs.length ≠ 3 ∧ Err K H E "BadLot" (flL "form" none)) ∨
  (∃ a y z, ∃ i : Int, v = .ref a ∧ H a = some (.tup [.int i, y, z]) ∧ ¬ (2 ≤ i ∧ i ≤ 6) ∧ Err K H E "BadLot" (flL "corners" none))
def sp_need_lot (K : PySem.W.Frag) : Sp := fun vs H Q E => ∃ v, vs = [v] ∧ LotAsk K H v (fun _ => Q v) E
theorem g_need_lot (T : Txt P w K mg base) : Gd P w K mg base 7 "need_lot" ["thing"] (sp_need_lot K) := by
  refine gd_of (d := d_need_lot) T (by decide +kernel) (by simp [fn]) rfl (fun _ _ _ _ _ _ us hl => match us, hl with | [_], _ => rfl) fun fd F => F.ok sc_need_lot (fun vs H Q E h => ?_) fun cdv A outer s H vs Q E hr h => ?_
  · obtain ⟨v, rfl, h⟩ := h
    rfl
  · obtain ⟨v, rfl, h⟩ := h
    have h_MOST_MARKS := T.i "MOST_MARKS" 9 (by decide +kernel)
    refine ⟨_, (pss_cons (ps_if (PW.pt (pw_or (pt_not (pt_val (pe_callB (call_isi' (K := K) rfl) rfl (T.free "isinstance" (by decide +kernel)) boot_isi (pa_cons (pv 0) (pa_cons (pe_bltn (v := .ty "tuple") rfl (T.free "tuple" (by decide +kernel)) boot_tuple rfl) pa_nil))))) (pw_or1 (pt_cmpR op_ne (pe_callB call_len_seq rfl (T.free "len" (by decide +kernel)) boot_len (pa_cons (pv 0) pa_nil)) pe_int (nomark _))))) (pss_one (ps_rs (rs_lot T) (hr.mono (by decide)) rfl (takes_of (E := E) rfl rfl rfl rfl) rfl (pa_cons pe_str (pa_cons pe_non pa_nil)))) pss_nil)
      (pss_cons (ps_asg (pv 0) (pg_tup rfl (pgs_cons (pg_name (i := 1) sc_need_lot.nd rfl (.inl rfl)) (pgs_cons (pg_name (i := 2) sc_need_lot.nd rfl (.inl rfl)) (pgs_cons (pg_name (i := 3) sc_need_lot.nd rfl (.inl rfl)) pgs_nil)))))
      (pss_cons (ps_if (pt_not (pt_val (pe_g (g_is_corners T) (hr.mono (by decide)) rfl passL (pa_cons (pv 1) pa_nil)))) (pss_one (ps_rs (rs_lot T) (hr.mono (by decide)) rfl (takes_of (E := E) rfl rfl rfl rfl) rfl (pa_cons pe_str (pa_cons pe_non pa_nil)))) pss_nil)
      (pss_cons (ps_expr (pe_g (g_need_shots T) (hr.mono (by decide)) rfl passD (pa_cons (pv 1) (pa_cons (pv 2) pa_nil))))
      (pss_cons (ps_expr (pe_g (g_need_programs T) (hr.mono (by decide)) rfl passD (pa_cons (pv 1) (pa_cons (pv 3) pa_nil))))
      (pss_cons (ps_if (pt_cmpR op_gt (pe_callB call_len_seq rfl (T.free "len" (by decide +kernel)) boot_len (pa_cons (pe_g (g_marks_in T) (hr.mono (by decide)) rfl passL (pa_cons (pv 0) pa_nil)) pa_nil)) (pe_gi h_MOST_MARKS) (nomark _)) (pss_one (ps_rs (rs_lot T) (hr.mono (by decide)) rfl (takes_of (E := E) rfl rfl rfl rfl) rfl (pa_cons pe_str (pa_cons pe_non pa_nil)))) pss_nil)
      (pss_one (ps_ret (pv 0))))))))), ?_⟩
    rcases h with ⟨x, IL, sm, yes, no⟩ | ⟨⟨t, ty, k⟩, no⟩ | ⟨a, xs, rfl, ea, hl, no⟩ | ⟨a, y, z, i, rfl, ea, hi, no⟩
    · obtain ⟨a, b, c, ss, ps, rfl, ea, eb, pb, ec, pc⟩ := id IL
      refine ⟨_, rfl, _, .ty "tuple", _, .type "tuple", true, rfl, .ty _, .base (.tup ea), kit_ty (by decide +kernel), true, rfl, ?_⟩
      refine ⟨_, rfl, a, _, rfl, .inr (SqT.of ea), rfl, false, rfl, ?_⟩
      refine ⟨_, rfl, a, _, rfl, SqT.of ea, rfl, _, _, rfl, _, _, rfl, _, _, rfl, rfl, ?_⟩
      refine ⟨_, rfl, _, rfl, _, rfl, ite2 (fun d => ?_) (fun d => ?_)⟩
      · have d1 : ¬ (2 ≤ x.corners ∧ x.corners ≤ 6) := fun h => by
          rw [decide_eq_true (show (2 : Int) ≤ (x.corners : Nat) ∧ ((x.corners : Nat) : Int) ≤ 6 by omega)] at d
          cases d
        have e : notLot x = some (.corners, none) := if_pos d1
        exact made2 (no _ _ e)
      · have d1 : 2 ≤ x.corners ∧ x.corners ≤ 6 := Decidable.byContradiction fun h => d (by
          rw [decide_eq_false (show ¬ ((2 : Int) ≤ (x.corners : Nat) ∧ ((x.corners : Nat) : Int) ≤ 6) by omega)]
          rfl)
        have e0 : notLot x = match notShots x.corners x.shots with
            | some k => some (.shots, k)
            | none => match notProgs x.corners x.progs with
              | some k => some (.programs, k)
              | none => if (marksOf x).length > 9 then some (.marks, none) else none := if_neg (not_not_intro d1)
        refine ⟨_, rfl, _, rfl, x.corners, b, ss, x.shots, rfl, eb, pb, sm.sn, sm.s, fun h1 H1 s1 => ?_, fun k hk => no .shots k (by rw [e0, hk])⟩
        rw [h1] at e0
        refine ⟨_, rfl, _, rfl, x.corners, c, ps, x.progs, rfl, s1 c _ ec, L2.Paired.mapP pc fun _ _ q => IsProg.up s1.ts q, sm.pn, sm.p, fun h2 H2 s2 => ?_, fun k hk => (no .programs k (by rw [e0, hk])).up s1⟩
        rw [h2] at e0
        have s12 := s1.trans s2
        refine ⟨_, rfl, .ref a, x, rfl, IL.up s12.ts, sm.sn, sm.f, fun H3 L ys s3 eL lL => ?_⟩
        have s13 := s12.trans s3
        refine ⟨L, ys, rfl, .inl (SqL.of eL), _, _, rfl, rfl, _, rfl, ite2 (fun f => ?_) (fun f => ?_)⟩
        · have f1 : (marksOf x).length > 9 := by
            have := of_decide_eq_true f
            omega
          rw [if_pos f1] at e0
          exact made2 ((no _ _ e0).up s13)
        · have f1 : ¬ (marksOf x).length > 9 := fun h => f (decide_eq_true (by omega))
          rw [if_neg f1] at e0
          exact ⟨_, rfl, yes e0 H3 s13⟩
    · exact ⟨_, rfl, _, .ty "tuple", _, .type "tuple", false, rfl, .ty _, ty, k, false, rfl, made2 no⟩
    · refine ⟨_, rfl, _, .ty "tuple", _, .type "tuple", true, rfl, .ty _, .base (.tup ea), kit_ty (by decide +kernel), true, rfl, ?_⟩
      refine ⟨_, rfl, a, _, rfl, .inr (SqT.of ea), rfl, true, ?_, made2 no⟩
      refine congrArg V.bl ?_
      show (!decide (V.int (xs.length : Nat) = V.int 3)) = true
      rw [decide_eq_false fun q => hl (by have := V.int.inj q; omega)]
      rfl
    · refine ⟨_, rfl, _, .ty "tuple", _, .type "tuple", true, rfl, .ty _, .base (.tup ea), kit_ty (by decide +kernel), true, rfl, ?_⟩
      refine ⟨_, rfl, a, _, rfl, .inr (SqT.of ea), rfl, false, rfl, ?_⟩
      refine ⟨_, rfl, a, _, rfl, SqT.of ea, rfl, _, _, rfl, _, _, rfl, _, _, rfl, rfl, ?_⟩
      refine ⟨_, rfl, i, rfl, _, rfl, ite2 (fun d => made2 no) (fun d => ?_)⟩
      rw [decide_eq_false hi] at d
      exact absurd rfl d
end
end K5
/-! ### the lines of a text; sizes of what is told -/
namespace K5
open PySem
def linesOf (l : List Nat) : List (List Nat) := TL.spl [10] 0 [] l
theorem spl_len : ∀ (l : List Nat) (k : Nat) (acc : List Nat), (TL.spl [10] k acc l).length ≤ l.length + 1
  | [], k, acc => by
    rw [TL.spl_nil]
    simp
  | c :: r, 0, acc => by
    cases h : TL.pre [10] (c :: r) with
    | true =>
      rw [TL.spl_hit h]
      have := spl_len r 0 []
      show (TL.spl [10] 0 [] r).length + 1 ≤ r.length + 1 + 1
      omega
    | false =>
      rw [TL.spl_miss h]
      have := spl_len r 0 (acc ++ [c])
      simp only [List.length_cons] at this ⊢
      omega
  | c :: r, k + 1, acc => by
    rw [TL.spl_pass, List.drop_succ_cons, ← TL.spl_pass [10] k acc r]
    have := spl_len r k acc
    simp only [List.length_cons] at this ⊢
    omega
theorem spl_mem : ∀ (l : List Nat) (k : Nat) (acc : List Nat), ∀ p ∈ TL.spl [10] k acc l, p.length ≤ acc.length + l.length
  | [], k, acc, p, h => by
    rw [TL.spl_nil] at h
    rw [List.mem_singleton.mp h]
    simp
  | c :: r, 0, acc, p, h => by
    cases e : TL.pre [10] (c :: r) with
    | true =>
      rw [TL.spl_hit e] at h
      rcases List.mem_cons.mp h with z | z
      · rw [z]
        omega
      · have := spl_mem r 0 [] p z
        simp only [List.length_cons, List.length_nil] at this ⊢
        omega
    | false =>
      rw [TL.spl_miss e] at h
      have := spl_mem r 0 (acc ++ [c]) p h
      simp only [List.length_append, List.length_cons, List.length_nil] at this ⊢
      omega
  | c :: r, k + 1, acc, p, h => by
    rw [TL.spl_pass, List.drop_succ_cons, ← TL.spl_pass [10] k acc r] at h
    have := spl_mem r k acc p h
    simp only [List.length_cons] at this ⊢
    omega
theorem lines_len (l : List Nat) : (linesOf l).length ≤ l.length + 1 := spl_len l 0 []
theorem lines_mem {l p : List Nat} (h : p ∈ linesOf l) : p.length ≤ l.length := by
  have := spl_mem l 0 [] p h
  simpa using this
theorem spl_ne : ∀ (l : List Nat) (k : Nat) (acc : List Nat), TL.spl [10] k acc l ≠ []
  | [], k, acc => by
    rw [TL.spl_nil]
    simp
  | c :: r, 0, acc => by
    cases h : TL.pre [10] (c :: r) with
    | true =>
      rw [TL.spl_hit h]
      simp
    | false =>
      rw [TL.spl_miss h]
      exact spl_ne r 0 _
  | c :: r, k + 1, acc => by
    rw [TL.spl_pass, List.drop_succ_cons, ← TL.spl_pass [10] k acc r]
    exact spl_ne r k acc
theorem lines_cons (l : List Nat) : ∃ h t, linesOf l = h :: t := by
  cases e : linesOf l with
  | nil => exact absurd e (spl_ne l 0 [])
  | cons h t => exact ⟨h, t, rfl⟩
/-! the lot of a text, or what is wrong -/
inductive Res where
  | lot (x : Lot)
  | text (row place : Nat)
  | bad (p : Part) (k : Option Nat)
def lotOr (x : Lot) : Res := match notLot x with
  | none => .lot x
  | some (p, k) => .bad p k
def told (l : List Nat) : Except (Nat × Nat) Lot := match linesOf l with
  | [] => .error (0, 0)
  | h :: t => linesTold h t
def readN (l : List Nat) : Res := match told l with
  | .error (r, p) => .text r p
  | .ok x => lotOr x
/-! sizes -/
structure FineT (t : List Nat) : Prop where
  n : t.length ≤ 8
  c : ∀ c ∈ t, c < 10
structure FineM (m : List Nat) : Prop where
  n : m.length ≤ 8
  c : ∀ c ∈ m, c ∈ LET
structure FineE (e : Entry) : Prop where
  a : FineM e.1
  b : FineT e.2.1
  c : FineM e.2.2
structure FineS (s : Shot) : Prop where
  a : FineT s.1
  b : FineM s.2
def szL (s : List Shot) (p : List (List Entry)) : Nat := s.length + p.length + (p.map List.length).sum
structure FineR (n : Nat) (s : RSt) : Prop where
  sh : ∀ x ∈ s.shots, FineS x
  p : ∀ p ∈ s.progs, ∀ e ∈ p, FineE e
  n : szL s.shots s.progs ≤ n
theorem fig_lt : ∀ c ∈ FIG, fig c < 10 := by decide +kernel
theorem run_all (g : List Nat) : ∀ (m : Nat) (l : List Nat), (∀ c ∈ l.take (runLen g m l), c ∈ g) ∧ runLen g m l ≤ m
  | 0, _ => ⟨fun c h => by
      have h' : c ∈ List.take 0 _ := h
      simp at h', Nat.le_refl _⟩
  | m + 1, [] => ⟨fun c h => by simp at h, Nat.zero_le _⟩
  | m + 1, d :: r => by
    obtain ⟨h1, h2⟩ := run_all g m r
    unfold runLen
    by_cases hd : d ∈ g
    · rw [if_pos hd]
      refine ⟨fun c h => ?_, by omega⟩
      rw [List.take_succ_cons] at h
      rcases List.mem_cons.mp h with z | z
      · rw [z]
        exact hd
      · exact h1 c z
    · rw [if_neg hd]
      exact ⟨fun c h => by simp at h, by omega⟩
theorem turn_fine {l : List Nat} {p r : Nat} {t : List Nat} (h : turnAt l p = .ok (t, r)) : FineT t := by
  unfold turnAt at h
  split at h
  · cases h
  · cases h
    obtain ⟨h1, h2⟩ := run_all FIG 8 (l.drop p)
    refine ⟨by rw [List.length_map, List.length_take]; omega, fun c hc => ?_⟩
    obtain ⟨d, hd, rfl⟩ := List.mem_map.mp hc
    exact fig_lt d (h1 d hd)
theorem mark_fine {l : List Nat} {p r : Nat} {m : List Nat} (h : markAt l p = .ok (m, r)) : FineM m := by
  unfold markAt at h
  split at h
  · cases h
    exact ⟨Nat.zero_le _, fun c hc => by cases hc⟩
  · split at h
    · cases h
    · cases h
      obtain ⟨h1, h2⟩ := run_all LET 8 (l.drop p)
      exact ⟨by rw [List.length_take]; omega, h1⟩
theorem bd_inv {e a b : Type} {x : Except e a} {f : a → Except e b} {y : b} (h : bd x f = .ok y) : ∃ v, x = .ok v ∧ f v = .ok y := by
  cases x with
  | error p => cases h
  | ok v => exact ⟨v, rfl, h⟩
theorem pair_fine {l : List Nat} {p : Nat} {s : Shot} (h : pairTold l p = .ok s) : FineS s := by
  obtain ⟨⟨t, r⟩, h1, h⟩ := bd_inv h
  obtain ⟨a, _, h⟩ := bd_inv h
  obtain ⟨⟨m, r2⟩, h2, h⟩ := bd_inv h
  obtain ⟨_, _, h⟩ := bd_inv h
  cases h
  exact ⟨turn_fine h1, mark_fine h2⟩
theorem entry_fine {l : List Nat} {e : Entry} (h : entryTold l = .ok e) : FineE e := by
  obtain ⟨⟨t, r⟩, h1, h⟩ := bd_inv h
  obtain ⟨a, _, h⟩ := bd_inv h
  obtain ⟨y, h2, h⟩ := bd_inv h
  cases h
  have f := pair_fine h2
  exact ⟨mark_fine h1, f.a, f.b⟩
theorem add_sum (e : Entry) : ∀ p : List (List Entry), (addEntry e p).length = p.length ∧ ((addEntry e p).map List.length).sum ≤ (p.map List.length).sum + 1
  | [] => ⟨rfl, by simp [addEntry]⟩
  | [p] => ⟨rfl, by simp [addEntry]⟩
  | a :: b :: r => by
    obtain ⟨h1, h2⟩ := add_sum e (b :: r)
    show (a :: addEntry e (b :: r)).length = _ ∧ ((a :: addEntry e (b :: r)).map List.length).sum ≤ _
    simp only [List.length_cons, List.map_cons, List.sum_cons] at h1 h2 ⊢
    exact ⟨by omega, by omega⟩
theorem add_mem (e : Entry) : ∀ (p : List (List Entry)), ∀ q ∈ addEntry e p, ∀ f ∈ q, f = e ∨ ∃ q' ∈ p, f ∈ q'
  | [], q, h, _, _ => nomatch h
  | [p], q, h, f, hf => by
    rw [List.mem_singleton.mp h] at hf
    rcases List.mem_append.mp hf with z | z
    · exact .inr ⟨p, by simp, z⟩
    · exact .inl (List.mem_singleton.mp z)
  | a :: b :: r, q, h, f, hf => by
    rcases List.mem_cons.mp (show q ∈ a :: addEntry e (b :: r) from h) with z | z
    · exact .inr ⟨a, by simp, by rw [← z]; exact hf⟩
    · rcases add_mem e (b :: r) q z f hf with y | ⟨q', h1, h2⟩
      · exact .inl y
      · exact .inr ⟨q', List.mem_cons_of_mem _ h1, h2⟩
theorem row_fine {l : List Nat} {n : Nat} {s s' : RSt} (h : rowTold l s = .ok s') (f : FineR n s) : FineR (n + 1) s' := by
  have newP : FineR (n + 1) ⟨s.shots, s.progs ++ [[]]⟩ := by
    refine ⟨f.sh, fun p hp e he => ?_, ?_⟩
    · rcases List.mem_append.mp hp with z | z
      · exact f.p p z e he
      · rw [List.mem_singleton.mp z] at he
        cases he
    · have := f.n
      unfold szL at this ⊢
      simp only [List.length_append, List.map_append, List.sum_append, List.length_cons, List.length_nil, List.map_cons, List.map_nil, List.sum_cons, List.sum_nil]
      omega
  unfold rowTold at h
  split at h
  · obtain ⟨x, h1, h⟩ := bd_inv h
    cases h
    obtain ⟨a, _, h1⟩ := bd_inv h1
    refine ⟨fun y hy => ?_, f.p, ?_⟩
    · rcases List.mem_append.mp hy with z | z
      · exact f.sh y z
      · rw [List.mem_singleton.mp z]
        exact pair_fine h1
    · have := f.n
      unfold szL at this ⊢
      simp only [List.length_append, List.length_cons, List.length_nil]
      omega
  · split at h
    · cases h
    · split at h
      · obtain ⟨a, _, h⟩ := bd_inv h
        obtain ⟨_, _, h⟩ := bd_inv h
        cases h
        exact newP
      · split at h
        · cases h
          exact newP
        · obtain ⟨e, h1, h⟩ := bd_inv h
          cases h
          obtain ⟨z1, z2⟩ := add_sum e s.progs
          refine ⟨f.sh, fun p hp g hg => ?_, ?_⟩
          · rcases add_mem e s.progs p hp g hg with y | ⟨q', y1, y2⟩
            · rw [y]
              exact entry_fine h1
            · exact f.p q' y1 g y2
          · have := f.n
            unfold szL at this ⊢
            show s.shots.length + (addEntry e s.progs).length + ((addEntry e s.progs).map List.length).sum ≤ n + 1
            omega
theorem rows_fine : ∀ (r : List (List Nat)) (k n : Nat) (s s' : RSt), rowsTold k r s = .ok s' → FineR n s → FineR (n + r.length) s'
  | [], _, _, s, s', h, f => by
    cases h
    exact f
  | l :: r, k, n, s, s', h, f => by
    obtain ⟨s1, h1, h⟩ := bd_inv (show bd (onRow k (rowTold l s)) (rowsTold (k + 1) r) = .ok s' from h)
    cases e : rowTold l s with
    | error q =>
      rw [e] at h1
      cases h1
    | ok v =>
      rw [e] at h1
      cases h1
      have := rows_fine r (k + 1) (n + 1) s1 s' h (row_fine e f)
      have z : n + 1 + r.length = n + (l :: r).length := by
        simp only [List.length_cons]
        omega
      rw [← z]
      exact this
structure FineL (n : Nat) (x : Lot) : Prop where
  c : x.corners < 10
  sh : ∀ s ∈ x.shots, FineS s
  p : ∀ p ∈ x.progs, ∀ e ∈ p, FineE e
  n : szL x.shots x.progs ≤ n
theorem corners_fine {l : List Nat} {c : Nat} (h : cornersTold l = .ok c) : c < 10 := by
  obtain ⟨a, _, h⟩ := bd_inv h
  unfold afterWord at h
  split at h
  · cases h
  · split at h
    · obtain ⟨_, _, h⟩ := bd_inv h
      cases h
      exact fig_lt _ ‹_›
    · cases h
theorem lines_fine {h : List Nat} {t : List (List Nat)} {x : Lot} (e : linesTold h t = .ok x) : FineL t.length x := by
  obtain ⟨c, h1, e⟩ := bd_inv e
  obtain ⟨s, h2, e⟩ := bd_inv e
  split at e
  · cases e
  · cases e
    have f := rows_fine t 1 0 ⟨[], []⟩ s h2 ⟨fun _ h => (nomatch h), fun _ h => (nomatch h), Nat.le_refl _⟩
    rw [Nat.zero_add] at f
    refine ⟨?_, f.sh, f.p, f.n⟩
    cases q : cornersTold h with
    | error p =>
      rw [q] at h1
      cases h1
    | ok v =>
      rw [q] at h1
      cases h1
      exact corners_fine q
theorem told_fine {l : List Nat} {x : Lot} (h : told l = .ok x) : FineL l.length x := by
  unfold told at h
  obtain ⟨a, t, e⟩ := lines_cons l
  rw [e] at h
  have f := lines_fine h
  have z := lines_len l
  rw [e] at z
  simp only [List.length_cons] at z
  exact ⟨f.c, f.sh, f.p, Nat.le_trans f.n (by omega)⟩
end K5
/-! ### the reader of lots -/
namespace K5
open PySem PySem.Spec PyProof.Rows L2
theorem split_lines (l : List Nat) : (Txt.split (S l) (S [10])).map V.str = (linesOf l).map fun p => V.str (S p) := by
  have z := TL.split_spl (S l) (S [10]) (by decide) (TL.kind_ok (by decide +kernel))
  have e : Txt.split (S l) (S [10]) = ((Txt.split (S l) (S [10])).map TL.tl).map S := by
    rw [List.map_map]
    exact (List.map_id _).symm.trans (List.map_congr_left fun x _ => (S_tl x).symm)
  rw [e, z, List.map_map]
  rfl
theorem cut_tail (a : V) (r : List V) : cutV (a :: r) (some 1) none = r := by
  unfold cutV
  have e1 : HT.sIx (a :: r).length 0 (some 1) = 1 := by
    unfold HT.sIx
    simp
  have e2 : HT.sIx (a :: r).length (a :: r).length none = r.length + 1 := rfl
  rw [e1, e2]
  simp
def NoStr (K : PySem.W.Frag) (H : Hp) (v : V) : Prop := ∃ t, TyX K H v t ∧ PySem.W.kitOne K t (.type "str") = some false
theorem szR_eq (s : RSt) : szR s = szL s.shots s.progs := rfl
theorem small_of {n : Nat} {x : Lot} (f : FineL n x) (h : n ≤ BIG) : SmallL x := by
  have hb : n ≤ 100000 := h
  have z := f.n
  unfold szL at z
  have fl := flat_len x.progs
  refine ⟨show _ ≤ 100000 by omega, fun s hs => ?_, show _ ≤ 100000 by omega, fun p hp => ⟨?_, fun e he => ?_⟩, show _ ≤ 100000 by omega⟩
  · have q := f.sh s hs
    exact ⟨Nat.le_trans q.a.n (by decide), Nat.le_trans q.b.n (by decide)⟩
  · have := len_mem _ _ hp
    show _ ≤ 100000
    omega
  · have q := f.p p hp e he
    exact ⟨Nat.le_trans q.a.n (by decide), Nat.le_trans q.b.n (by decide), Nat.le_trans q.c.n (by decide)⟩
section
variable {P : Program} {w : World} {K : PySem.W.Frag} {mg : Str → Option Value} {base : Heap}
def ReadAsk (K : PySem.W.Frag) (H : Hp) (l : List Nat) (Q : V → Hp → Prop) (E : XK) : Prop :=
  (∀ x, readN l = .lot x → ∀ H' u, Same H H' → IsLot H' u x → Q u H') ∧ (∀ r p, readN l = .text r p → Err K H E "BadText" (flT (r : Nat) (p : Nat))) ∧ (∀ p k, readN l = .bad p k → Err K H E "BadLot" (flL (partS p) k))
def sp_read_lot (K : PySem.W.Frag) : Sp := fun vs H Q E => ∃ v, vs = [v] ∧ ((∃ l, v = .str (S l) ∧ l.length < BIG ∧ ReadAsk K H l Q E) ∨ (NoStr K H v ∧ Err K H E "BadText" (flT (-1) (-1))))
theorem g_read_lot (T : Txt P w K mg base) : Gd P w K mg base 8 "read_lot" ["string"] (sp_read_lot K) := by
  refine gd_of (d := d_read_lot) T (by decide +kernel) (by simp [fn]) rfl (fun _ _ _ _ _ _ us hl => match us, hl with | [_], _ => rfl) fun fd F => F.ok sc_read_lot (fun vs H Q E h => ?_) fun cdv A outer s H vs Q E hr h => ?_
  · obtain ⟨v, rfl, h⟩ := h
    rfl
  · obtain ⟨v, rfl, h⟩ := h
    have h_NL := T.s "NEWLINE" [10] (by decide +kernel)
    refine ⟨_, (pss_cons (ps_if (pt_not (pt_val (pe_callB (call_isi' (K := K) rfl) rfl (T.free "isinstance" (by decide +kernel)) boot_isi (pa_cons (pv 0) (pa_cons (pe_bltn (v := .ty "str") rfl (T.free "str" (by decide +kernel)) boot_str rfl) pa_nil))))) (pss_one (ps_rs (rs_text T) (hr.mono (by decide)) rfl (takes_of (E := E) rfl rfl rfl rfl) rfl (pa_cons (pe_un un_neg pe_int) (pa_cons (pe_un un_neg pe_int) pa_nil)))) pss_nil)
      (pss_cons (ps_par3 (i := 1) (j := 2) (l := 3) rfl sc_read_lot.nd rfl rfl rfl (by decide) (by decide) (by decide) rfl rfl rfl (pa_cons (pe_split (pv 0) (pe_gs h_NL)) (pa_cons (pe_lst pa_nil) (pa_cons (pe_lst pa_nil) pa_nil))) rfl)
      (pss_cons (ps_set (i := 4) sc_read_lot.nd rfl (.inl rfl) (pe_g (g_corners_told T) (hr.mono (by decide)) rfl passD (pa_cons (pe_ix ix_list (pv 1) pe_int (fun _ _ => rfl)) pa_nil)))
      (pss_cons (ps_for passO rfl (pi_enum rfl (T.free "enumerate" (by decide +kernel)) (pa_cons (pe_slice sl_list (pv 1) (po_some pe_int) po_none) pa_nil)) (pg_tup rfl (pgs_cons (pg_name (i := 5) sc_read_lot.nd rfl (.inl rfl)) (pgs_cons (pg_name (i := 6) sc_read_lot.nd rfl (.inl rfl)) pgs_nil))) (pss_one (ps_expr (pe_g (g_row_told T) (hr.mono (by decide)) rfl passD (pa_cons (pv 6) (pa_cons (pe_op op_add (pv 5) pe_int) (pa_cons (pv 2) (pa_cons (pv 3) pa_nil))))))))
      (pss_cons (ps_if (pt_cmpR (op_eqNil hr.units0) (pv 2) (pe_lst pa_nil) (nomark _)) (pss_one (ps_rs (rs_text T) (hr.mono (by decide)) rfl (takes_of (E := E) rfl rfl rfl rfl) rfl (pa_cons (pe_callB call_len_seq rfl (T.free "len" (by decide +kernel)) boot_len (pa_cons (pv 1) pa_nil)) (pa_cons pe_int pa_nil)))) pss_nil)
      (pss_one (ps_ret (pe_g (g_need_lot T) (hr.mono (by decide)) rfl passD (pa_cons (pe_tup (pa_cons (pv 4) (pa_cons (pe_callTy call_tuple_of rfl (T.free "tuple" (by decide +kernel)) boot_tuple (pa_cons (pv 2) pa_nil)) (pa_cons (pe_callTy call_tuple_of rfl (T.free "tuple" (by decide +kernel)) boot_tuple (pa_cons (pe_lc (own := [("entries", 7)]) (g := gName 7) (tt := tYes) rfl sc_read_lot.nd (pi_list (pv 3)) (blkOk_by (N := n_read_lot) (sc := defScope s_read_lot) (by decide +kernel)) (fun _ _ _ _ _ => pg_name (i := 7) sc_read_lot.nd rfl (.inl rfl)) (fun _ _ _ _ _ => pts_nil) (fun _ _ _ _ _ => (pe_callTy (call_tuple_of' (K := K) rfl) rfl (T.free "tuple" (by decide +kernel)) boot_tuple (pa_cons (pv 7) pa_nil)))) pa_nil)) pa_nil)))) pa_nil))))))))), ?_⟩
    rcases h with ⟨l, rfl, hl, yes, no, bad⟩ | ⟨⟨t, ty, k⟩, no⟩
    · have hl' : l.length < 100000 := hl
      have hz2 : (S l).length + 2 ≤ sizeLine := by
        rw [S_len]
        have : sizeLine = 16777216 := by decide
        omega
      refine ⟨_, rfl, _, .ty "str", _, .type "str", true, rfl, .ty _, .base (.str _), kit_ty (by decide +kernel), true, rfl, ?_⟩
      refine ⟨_, rfl, ⟨_, rfl⟩, S l, S [10], rfl, rfl, rfl, hz2, fun p1 n1 => ?_⟩
      rw [split_lines]
      obtain ⟨hd, tl, el⟩ := lines_cons l
      have mem : ∀ p ∈ hd :: tl, p.length ≤ l.length := fun p hp => lines_mem (by rw [el]; exact hp)
      have lt : tl.length ≤ l.length := by
        have := lines_len l
        rw [el] at this
        simp only [List.length_cons] at this
        omega
      have er : readN l = match linesTold hd tl with
          | .error (r, p) => .text r p
          | .ok x => lotOr x := by
        unfold readN told
        rw [el] <;> rfl
      rw [el]
      have s1 := Same.new n1 (o := .lst ((hd :: tl).map fun p => V.str (S p)))
      generalize hH0 : upd H p1 (.lst ((hd :: tl).map fun p => V.str (S p))) = H0 at s1
      have e1 : H0 p1 = some (.lst ((hd :: tl).map fun p => V.str (S p))) := by
        rw [← hH0]
        exact upd_same
      refine ⟨zl0, fun a2 n2 => ⟨zl0, fun a3 n3 => ⟨_, _, _, rfl, ?_⟩⟩⟩
      have s2 := Same.new n2 (o := .lst [])
      have s3 := Same.new n3 (o := .lst [])
      have ne : a2 ≠ a3 := fun z => by
        rw [← z, upd_same] at n3
        cases n3
      have R0 : Rows H0 (upd (upd H0 a2 (.lst [])) a3 (.lst [])) a2 a3 ⟨[], []⟩ :=
        Rows.nil (s2.trans s3) n2 ((s2.free n3)) ne (by rw [upd_ne ne]; exact upd_same) upd_same
      have s02 := s2.trans s3
      have at0 : atI ((hd :: tl).map fun p => V.str (S p)) 0 = some (V.str (S hd)) := atI_nat (j := 0) rfl
      refine ⟨_, rfl, p1, _, _, _, rfl, rfl, SqL.of (s02 p1 _ e1), at0, hd, rfl, Nat.le_trans (mem hd (by simp)) (Nat.le_of_lt hl), fun c hc H4 s4 => ?_, fun q hq => ?_⟩
      · have e14 := s4 p1 _ (s02 p1 _ e1)
        have R4 : Rows H0 H4 a2 a3 ⟨[], []⟩ := R0.up s4
        refine ⟨_, rfl, 1, rfl, p1, _, rfl, SqL.of e14, fun p5 n5 => ?_⟩
        have s5 := Same.new n5 (o := .lst (cutV (V.str (S hd) :: tl.map fun p => V.str (S p)) (some 1) none))
        rw [show cutV ((hd :: tl).map fun p => V.str (S p)) (some 1) none = tl.map fun p => V.str (S p) from cut_tail _ _]
        generalize hH5 : upd H4 p5 (.lst (tl.map fun p => V.str (S p))) = H5
        have s5 : Same H4 H5 := by
          rw [← hH5]
          exact Same.new n5
        have e5 : H5 p5 = some (.lst (tl.map fun p => V.str (S p))) := by
          rw [← hH5]
          exact upd_same
        refine ⟨p5, _, rfl, SqL.of e5, ?_⟩
        have n50 : H0 p5 = none := (s02.trans s4).free n5
        have s05 : Same (upd H0 p5 (.lst (tl.map fun p => V.str (S p)))) H5 := fun b u e => by
          by_cases q : b = p5
          · rw [q] at e ⊢
            rw [e5, ← e, upd_same]
          · rw [upd_ne q] at e
            exact s5 _ _ (s4 _ _ (s02 _ _ e))
        have s15 : Same H (upd H0 p5 (.lst (tl.map fun p => V.str (S p)))) := s1.trans (Same.new n50)
        have x2 : a2 ≠ p5 := fun z => by
          have y := R4.up s5
          obtain ⟨_, _, y⟩ := y
          have y1 := y.e1
          rw [z, e5] at y1
          have := R4
          obtain ⟨_, _, y⟩ := this
          have y1 := y.e1
          rw [z, n5] at y1
          cases y1
        have x3 : a3 ≠ p5 := fun z => by
          have := R4
          obtain ⟨_, _, y⟩ := this
          have y1 := y.e2
          rw [z, n5] at y1
          cases y1
        have R5 : Rows (upd H0 p5 (.lst (tl.map fun p => V.str (S p)))) H5 a2 a3 ⟨[], []⟩ := by
          obtain ⟨us, qs, y⟩ := R4.up s5
          have y1 := y.p1
          have y2 := y.p2
          cases y1
          cases y2
          exact Rows.nil s05 (by rw [upd_ne x2]; exact y.n1) (by rw [upd_ne x3]; exact y.n2) ne y.e1 y.e2
        generalize hB : upd H0 p5 (.lst (tl.map fun p => V.str (S p))) = HB at s05 s15 R5
        have eB : HB p5 = some (.lst (tl.map fun p => V.str (S p))) := by
          rw [← hB]
          exact upd_same
        refine for_it (walk_enum (K := K) (a := p5) (xs := tl.map fun p => V.str (S p))) (fun i σ H1 => ∃ x y s, σ = [some (.str (S l)), some (.ref p1), some (.ref a2), some (.ref a3), some (.int (c : Nat)), x, y, none] ∧ Rows HB H1 a2 a3 s ∧ rowsTold 1 tl ⟨[], []⟩ = rowsTold (i + 1) (tl.drop i) s ∧ FineR i s)
          ⟨_, _, _, rfl, R5, rfl, ⟨fun _ h => (nomatch h), fun _ h => (nomatch h), Nat.le_refl _⟩⟩ (fun i σ H1 _ ⟨_, _, _, _, R, _⟩ => SqL.of (R.sm _ _ eB)) ?_ ?_
        · rintro i v σ H1 H2 hi ⟨x, y, s, rfl, R, et, fr⟩ ⟨T', n, z, rfl, nT, rfl, x1, x2⟩
          cases x1
          have hi2 : i < tl.length := by simpa using hi
          obtain ⟨p, ep, rfl⟩ : ∃ p, tl[i]? = some p ∧ z = V.str (S p) := by
            have x2' : (tl.map fun p => V.str (S p))[i]? = some z := x2
            rw [List.getElem?_map] at x2'
            cases e : tl[i]? with
            | none =>
              rw [e] at x2'
              cases x2'
            | some p =>
              rw [e] at x2'
              exact ⟨p, rfl, (Option.some.inj x2').symm⟩
          have lp : p.length ≤ BIG := Nat.le_trans (mem p (List.mem_cons_of_mem _ (List.mem_of_getElem? ep))) (Nat.le_of_lt hl)
          have s6 := Same.new nT (o := .tup [.int (i : Nat), .str (S p)])
          have R6 := R.up s6
          have ed : tl.drop i = p :: tl.drop (i + 1) := by
            obtain ⟨h1, h2⟩ := List.getElem?_eq_some_iff.mp ep
            rw [List.drop_eq_getElem_cons h1, h2]
          have zr : szR s < BIG := by
            have := fr.n
            show szL s.shots s.progs < 100000
            omega
          rw [ed] at et
          have c1 : ((i : Nat) : Int) + 1 = ((i + 1 : Nat) : Int) := by omega
          refine ⟨T', _, rfl, SqT.of upd_same, rfl, _, _, rfl, _, _, rfl, rfl, ?_⟩
          refine ⟨_, rfl, _, rfl, _, _, rfl, rfl, _, rfl, _, rfl, p, ((i + 1 : Nat) : Int), a2, a3, s, HB, by rw [← c1] <;> rfl, lp, R6, zr, fun s' hs' H7 R7 => ?_, fun q hq => ?_⟩
          · refine ⟨_, _, s', rfl, R7, ?_, row_fine hs' fr⟩
            rw [et]
            show bd (onRow (i + 1) (rowTold p s)) _ = _
            rw [hs']
            rfl
          · refine (no (i + 1) q ?_).up s15
            rw [er]
            unfold linesTold
            rw [hc, onRow_ok, bd_ok, et]
            show (match bd (bd (onRow (i + 1) (rowTold p s)) _) _ with | .error (r, p) => Res.text r p | .ok x => lotOr x) = _
            rw [hq]
            rfl
        · rintro σ H1 ⟨x, y, s, rfl, R, et, fr⟩
          rw [List.length_map, List.drop_length] at et
          have er2 : readN l = if s.shots = [] then .text (tl.length + 1) 0 else lotOr ⟨c, s.shots, s.progs⟩ := by
            rw [er]
            unfold linesTold
            rw [hc, onRow_ok, bd_ok, et]
            show (match (if s.shots = [] then Except.error (tl.length + 1, 0) else Except.ok (⟨c, s.shots, s.progs⟩ : Lot)) with | .error (r, p) => Res.text r p | .ok x => lotOr x) = _
            by_cases z : s.shots = []
            · rw [if_pos z, if_pos z]
            · rw [if_neg z, if_neg z]
          obtain ⟨us, qs, RV⟩ := id R
          refine ⟨_, rfl, zl0, fun a6 n6 => ?_⟩
          have s6 := Same.new n6 (o := .lst [])
          have R6 := RV.up s6
          refine ⟨a2, a6, us, rfl, rfl, SqL.of R6.e1, SqL.of upd_same, _, rfl, ite2 (fun d => ?_) (fun d => ?_)⟩
          · rw [pair_nil RV.p1] at d
            have d1 : s.shots = [] := of_decide_eq_true d
            rw [if_pos d1] at er2
            have ep1 := R6.sm _ _ ((show Same H0 HB from by rw [← hB]; exact Same.new n50) _ _ e1)
            refine ⟨_, rfl, p1, _, rfl, .inl (SqL.of ep1), made2 ?_⟩
            have z := (no _ _ er2).up (s15.trans R6.sm)
            rw [List.length_map]
            exact z
          · rw [pair_nil RV.p1] at d
            have d1 : ¬ s.shots = [] := fun z => d (decide_eq_true z)
            rw [if_neg d1] at er2
            have lq : qs.length = s.progs.length := pair_len RV.p2
            have ls : us.length = s.shots.length := pair_len RV.p1
            have fz := fr.n
            have lt2 : tl.length < 100000 := by omega
            rw [List.length_map] at fr fz
            have fL : FineL tl.length ⟨c, s.shots, s.progs⟩ := ⟨corners_fine hc, fr.sh, fr.p, fr.n⟩
            unfold szL at fz
            refine ⟨_, rfl, _, rfl, a2, us, rfl, .inl ⟨SqL.of R6.e1, fun b nb => ?_⟩⟩
            have s7 := Same.new nb (o := .tup us)
            have R7 := R6.up s7
            refine ⟨_, rfl, a3, rfl, ⟨_, SqL.of R7.e2⟩, fun D nD => ?_⟩
            refine lc_rel (walk_list (K := K) (a := a3) (xs := qs)) (fun j y H1 => IsProg H1 y (s.progs.getD j [])) (fun j y H1 H2 t => IsProg.up t) nD (show _ ≤ 100000 by omega) (fun H2 s2 => SqL.of (s2 a3 _ R7.e2)) ?_ ?_
            · rintro i v H2 H3 Kt Kf hi s8 ⟨rfl, ev⟩ k
              obtain ⟨p, ep, a, es, rfl, _, _, _, ea, pe⟩ := pair_get R7.p2 ev
              have ea3 := s8 a _ ea
              refine ⟨rfl, _, rfl, a, es, rfl, .inl ⟨SqL.of ea3, fun e ne' => ?_⟩⟩
              have s9 := Same.new ne' (o := .tup es)
              refine k _ _ s9 ⟨e, es, rfl, upd_same, ?_⟩
              rw [List.getD_eq_getElem?_getD, ep]
              exact L2.Paired.mapP pe fun _ _ q => IsEntry.up (s8.trans s9).ts q
            · intro H2 acc s8 eD lacc rel
              refine ⟨D, acc, rfl, .inl ⟨SqL.of eD, fun e ne' => ?_⟩⟩
              have s9 := Same.new ne' (o := .tup acc)
              refine ⟨zl3, fun f nf => ?_⟩
              have s10 := Same.new nf (o := .tup [.int (c : Nat), .ref b, .ref e])
              have s7f := (s8.trans s9).trans s10
              have pr2 : Paired (IsProg H2) acc s.progs := by
                refine pair_of (by rw [lacc, lq]) fun i y p e1 e2 => ?_
                have z := rel i y e1
                rw [List.getD_eq_getElem?_getD, e2] at z
                exact z
              have IL : IsLot (upd (upd H2 e (.tup acc)) f (.tup [.int (c : Nat), .ref b, .ref e])) (.ref f) ⟨c, s.shots, s.progs⟩ :=
                ⟨f, b, e, us, acc, rfl, upd_same, s7f b _ upd_same, L2.Paired.mapP R7.p1 fun _ _ q => IsShot.up s7f.ts q, s10 e _ upd_same, L2.Paired.mapP pr2 fun _ _ q => IsProg.up (s9.trans s10).ts q⟩
              have sall := s15.trans (R7.sm.trans s7f)
              refine ⟨.ref f, rfl, .inl ⟨_, IL, small_of fL (show _ ≤ 100000 by omega), fun hn H9 s9' => ?_, fun p k hp => ?_⟩⟩
              · refine yes _ ?_ H9 (.ref f) (sall.trans s9') (IL.up s9'.ts)
                rw [er2]
                unfold lotOr
                rw [hn]
              · refine (bad p k ?_).up sall
                rw [er2]
                unfold lotOr
                rw [hp]
      · refine (no 0 q ?_).up (s1.trans s02)
        rw [er]
        unfold linesTold
        rw [hq]
        rfl
    · exact ⟨_, rfl, _, .ty "str", _, .type "str", false, rfl, .ty _, ty, k, false, rfl, _, rfl, _, rfl, made2 no⟩
end
end K5
/-! ### a lot, written and read back -/
namespace K5
open PySem
theorem anyTurn_good {t : List Nat} (h : isAnyTurn t = true) : GoodT t ∧ ∀ c ∈ t, c < t.length := by
  unfold isAnyTurn at h
  obtain ⟨h1, h2⟩ := Bool.and_eq_true_iff.mp h
  have l1 := of_decide_eq_true h1
  have l2 := of_decide_eq_true h2
  have lt : ∀ c ∈ t, c < t.length := fun c hc => List.mem_range.mp (l2.mem_iff.mp hc)
  exact ⟨⟨by omega, by omega, fun c hc => by have := lt c hc; omega⟩, lt⟩
theorem isMark_good {m : List Nat} (h : isMark m = true) : GoodM m := by
  unfold isMark at h
  obtain ⟨h1, h2⟩ := Bool.and_eq_true_iff.mp h
  exact ⟨of_decide_eq_true h1, fun c hc => of_decide_eq_true (List.all_eq_true.mp h2 c hc)⟩
theorem isTurn_good {c : Nat} {t : List Nat} (h : isTurn c t = true) : GoodT t := (anyTurn_good (Bool.and_eq_true_iff.mp h).1).1
theorem isShot_good {c : Nat} {s : Shot} (h : isShot c s = true) : GoodT s.1 ∧ GoodM s.2 := by
  obtain ⟨h1, h2⟩ := Bool.and_eq_true_iff.mp h
  exact ⟨isTurn_good h1, isMark_good h2⟩
theorem isEntry_good {c : Nat} {e : Entry} (h : isEntry c e = true) : GoodE e := by
  obtain ⟨h1, h2⟩ := Bool.and_eq_true_iff.mp h
  obtain ⟨h2, h3⟩ := Bool.and_eq_true_iff.mp h2
  exact ⟨isMark_good h1, isTurn_good h2, isMark_good h3⟩
theorem badShot_none {c : Nat} : ∀ {l : List Shot} {k : Nat} {p : Option Shot}, badShot c k p l = none → ∀ s ∈ l, isShot c s = true
  | [], _, _, _, s, h => nomatch h
  | a :: r, k, p, e, s, h => by
    have e' : (if (isShot c a && !(Option.elim p false (shotLe a))) = true then badShot c (k + 1) (some a) r else some k) = none := by
      cases p <;> exact e
    generalize hb : (isShot c a && !(Option.elim p false (shotLe a))) = b at e'
    cases b with
    | true =>
      rcases List.mem_cons.mp h with z | z
      · rw [z]
        exact (Bool.and_eq_true_iff.mp hb).1
      · exact badShot_none e' s z
    | false => cases e'
theorem badProg_none {c : Nat} : ∀ {l : List (List Entry)} {k : Nat}, badProg c k l = none → ∀ p ∈ l, isProg c p = true
  | [], _, _, s, h => nomatch h
  | a :: r, k, e, s, h => by
    unfold badProg at e
    split at e
    · rename_i q
      rcases List.mem_cons.mp h with z | z
      · rw [z]
        exact q
      · exact badProg_none e s z
    · cases e
theorem notLot_parts {x : Lot} (h : notLot x = none) : (2 ≤ x.corners ∧ x.corners ≤ 6) ∧ (1 ≤ x.shots.length ∧ x.shots.length ≤ 8) ∧ (∀ s ∈ x.shots, isShot x.corners s = true) ∧ x.progs.length ≤ 12 ∧ (∀ p ∈ x.progs, isProg x.corners p = true) := by
  unfold notLot at h
  split at h
  · cases h
  · rename_i hc
    split at h
    · cases h
    · rename_i h1
      split at h
      · cases h
      · rename_i h2
        unfold notShots at h1
        unfold notProgs at h2
        split at h1
        · cases h1
        · rename_i l1
          split at h2
          · cases h2
          · rename_i l2
            exact ⟨Decidable.not_not.mp hc, Decidable.not_not.mp l1, badShot_none (Option.map_eq_none_iff.mp h1), by omega, badProg_none (Option.map_eq_none_iff.mp h2)⟩
theorem notLot_good {x : Lot} (h : notLot x = none) : GoodL x := by
  obtain ⟨h1, h2, h3, h4, h5⟩ := notLot_parts h
  refine ⟨by omega, fun e => ?_, fun s hs => isShot_good (h3 s hs), fun p hp e he => ?_⟩
  · rw [e] at h2
    simp at h2
  · have q := (Bool.and_eq_true_iff.mp (h5 p hp)).1
    exact isEntry_good (List.all_eq_true.mp q e he)
/-! the text -/
def lotText (x : Lot) : List Nat := TL.joinL [10] (lotForm x)
theorem letn_ne : ∀ c ∈ LET, c ≠ 10 := by decide
theorem markF_ne {m : List Nat} (g : GoodM m) : 10 ∉ markForm m := fun h => by
  unfold markForm at h
  split at h
  · cases List.mem_singleton.mp h
  · exact letn_ne _ (g.let_ _ h) rfl
theorem turnF_ne (t : List Nat) : 10 ∉ turnForm t := fun h => by
  obtain ⟨c, _, e⟩ := List.mem_map.mp h
  omega
theorem shotF_ne {s : Shot} (g : GoodM s.2) : 10 ∉ shotForm s := fun h => by
  unfold shotForm at h
  rcases List.mem_append.mp h with h | h
  · rcases List.mem_append.mp h with h | h
    · rcases List.mem_append.mp h with h | h
      · revert h
        decide
      · exact turnF_ne _ h
    · revert h
      decide
  · exact markF_ne g h
theorem entryF_ne {e : Entry} (g : GoodE e) : 10 ∉ entryForm e := fun h => by
  unfold entryForm at h
  rcases List.mem_append.mp h with h | h
  · rcases List.mem_append.mp h with h | h
    · rcases List.mem_append.mp h with h | h
      · rcases List.mem_append.mp h with h | h
        · exact markF_ne g.m h
        · revert h
          decide
      · exact turnF_ne _ h
    · revert h
      decide
  · exact markF_ne g.to h
theorem form_ne {x : Lot} (g : GoodL x) : ∀ p ∈ lotForm x, 10 ∉ p := fun p hp h => by
  unfold lotForm restForm at hp
  rcases List.mem_cons.mp hp with z | z
  · rw [z] at h
    unfold headForm at h
    rcases List.mem_append.mp h with h | h
    · revert h
      decide
    · have := List.mem_singleton.mp h
      omega
  · rcases List.mem_append.mp z with z | z
    · obtain ⟨s, hs, rfl⟩ := List.mem_map.mp z
      exact shotF_ne (g.s s hs).2 h
    · obtain ⟨q, hq, z⟩ := List.mem_flatMap.mp z
      unfold progForm at z
      rcases List.mem_cons.mp z with z | z
      · rw [z] at h
        revert h
        decide
      · obtain ⟨e, he, rfl⟩ := List.mem_map.mp z
        exact entryF_ne (g.p q hq e he) h
theorem lines_lot {x : Lot} (g : GoodL x) : linesOf (lotText x) = lotForm x := TL.spl_join (by simp [lotForm]) (form_ne g)
theorem told_lot {x : Lot} (g : GoodL x) : told (lotText x) = .ok x := by
  unfold told
  rw [lines_lot g]
  exact told_form g
theorem readN_lot {x : Lot} (h : notLot x = none) : readN (lotText x) = .lot x := by
  unfold readN
  rw [told_lot (notLot_good h)]
  show lotOr x = _
  unfold lotOr
  rw [h]
/-! sizes of the forms -/
theorem mark_len {m : List Nat} (g : GoodM m) : (markForm m).length ≤ 8 := by
  unfold markForm
  split
  · simp
  · exact g.le
theorem turnF_len (t : List Nat) : (turnForm t).length = t.length := List.length_map _
theorem joinL_len (sep : List Nat) : ∀ l : List (List Nat), (TL.joinL sep l).length ≤ (l.map List.length).sum + l.length * sep.length
  | [] => by simp [TL.joinL]
  | [p] => by simp [TL.joinL]
  | p :: q :: r => by
    have ih := joinL_len sep (q :: r)
    show (p ++ (sep ++ TL.joinL sep (q :: r))).length ≤ _
    simp only [List.length_append, List.map_cons, List.sum_cons, List.length_cons, Nat.add_mul, Nat.one_mul] at ih ⊢
    omega
theorem sum_le {l : List (List Nat)} {n : Nat} (h : ∀ p ∈ l, p.length ≤ n) : (l.map List.length).sum ≤ l.length * n := by
  induction l with
  | nil => simp
  | cons a r ih =>
    have z1 := h a (by simp)
    have z2 := ih fun p hp => h p (List.mem_cons_of_mem _ hp)
    simp only [List.map_cons, List.sum_cons, List.length_cons, Nat.add_mul, Nat.one_mul]
    omega
theorem form_le {x : Lot} (g : GoodL x) : ∀ p ∈ lotForm x, p.length ≤ 40 := fun p hp => by
  unfold lotForm restForm at hp
  rcases List.mem_cons.mp hp with z | z
  · rw [z]
    simp [headForm, wCORN]
  · rcases List.mem_append.mp z with z | z
    · obtain ⟨s, hs, rfl⟩ := List.mem_map.mp z
      have q := g.s s hs
      have := mark_len q.2
      have := q.1.le
      simp only [shotForm, wSHOT, List.length_append, List.length_cons, List.length_nil, turnF_len]
      omega
    · obtain ⟨q, hq, z⟩ := List.mem_flatMap.mp z
      unfold progForm at z
      rcases List.mem_cons.mp z with z | z
      · rw [z]
        decide
      · obtain ⟨e, he, rfl⟩ := List.mem_map.mp z
        have q := g.p q hq e he
        have := mark_len q.m
        have := mark_len q.to
        have := q.t.le
        simp only [entryForm, List.length_append, List.length_cons, List.length_nil, turnF_len]
        omega
theorem form_count (x : Lot) : (lotForm x).length = 1 + (x.shots.length + (x.progs.length + (x.progs.map List.length).sum)) := by
  unfold lotForm restForm
  have z : ∀ l : List (List Entry), (l.flatMap progForm).length = l.length + (l.map List.length).sum := fun l => by
    induction l with
    | nil => rfl
    | cons a r ih =>
      rw [List.flatMap_cons, List.length_append, ih]
      simp only [progForm, List.length_cons, List.length_map, List.map_cons, List.sum_cons]
      omega
  simp only [List.length_cons, List.length_append, List.length_map, z]
  omega
end K5
/-! ### the forms, written -/
namespace K5
open PySem PySem.Spec PyProof.Rows L2
theorem S_app (a b : List Nat) : S a ++ S b = S (a ++ b) := TL.ext_tl (by rw [TL.tl_append]; rfl)
theorem join_S (sep : List Nat) (l : List (List Nat)) : Txt.join (S sep) (l.map S) = S (TL.joinL sep l) := by
  refine TL.ext_tl ?_
  rw [TL.join_eq, TL.tl_join, List.map_map]
  have e : (TL.tl ∘ S) = id := funext fun x => rfl
  rw [e, List.map_id]
  rfl
theorem sum_S (l : List (List Nat)) : ((l.map S).map (·.length)).sum = (l.map List.length).sum := by
  rw [List.map_map]
  exact congrArg List.sum (List.map_congr_left fun x _ => S_len x)
theorem join_one : ∀ t : List Nat, TL.joinL [] (t.map fun c => [c]) = t
  | [] => rfl
  | [_] => rfl
  | a :: b :: r => by
    show [a] ++ ([] ++ TL.joinL [] ((b :: r).map fun c => [c])) = _
    rw [join_one (b :: r)]
    rfl
theorem vS_map (l : List (List Nat)) : l.map (fun p => V.str (S p)) = (l.map S).map V.str := by
  rw [List.map_map]
  rfl
theorem num_S {c : Nat} (h : c < 10) : Str.ofString (toString ((c : Nat) : Int)) = S [c + 48] := by
  refine TL.ext_tl ?_
  rw [TL.tl_num, TL.numL_lt h, Nat.add_comm]
  rfl
theorem log_small {c : Nat} (h : c < 10) : ((c : Nat) : Int).natAbs.log2 < 1920 := by
  have e : ((c : Nat) : Int).natAbs = c := Int.natAbs_natCast c
  rw [e]
  exact Nat.lt_of_le_of_lt (Nat.log2_le_self c) (by omega)
section
variable {P : Program} {w : World} {K : PySem.W.Frag} {mg : Str → Option Value} {base : Heap}
/-! turn_words -/
def sp_turn_words : Sp := fun vs H Q _ => ∃ (v : V) (t : List Nat), vs = [v] ∧ IsTurn H v t ∧ t.length ≤ BIG ∧ (∀ c ∈ t, c < 10) ∧ ∀ H', Same H H' → Q (.str (S (turnForm t))) H'
theorem g_turn_words (T : Txt P w K mg base) : Gd P w K mg base 1 "turn_words" ["turn"] (sp_turn_words) := by
  refine gd_of (d := d_turn_words) T (by decide +kernel) (by simp [fn]) rfl (fun _ _ _ _ _ _ us hl => match us, hl with | [_], _ => rfl) fun fd F => F.ok sc_turn_words (fun vs H Q E h => ?_) fun cdv A outer s H vs Q E hr h => ?_
  · obtain ⟨v, t, rfl, ⟨a, rfl, ea⟩, hl, ht, q⟩ := h
    rfl
  · obtain ⟨v, t, rfl, ⟨a, rfl, ea⟩, hl, ht, q⟩ := h
    refine ⟨_, (pss_one (ps_ret (pe_join pe_str (pe_lc (own := [("place", 1)]) (g := gName 1) (tt := tYes) rfl sc_turn_words.nd (pi_tup (pv 0)) (blkOk_by (N := n_turn_words) (sc := defScope s_turn_words) (by decide +kernel)) (fun _ _ _ _ _ => pg_name (i := 1) sc_turn_words.nd rfl (.inl rfl)) (fun _ _ _ _ _ => pts_nil) (fun _ _ _ _ _ => (pe_callTy call_str_int rfl (T.free "str" (by decide +kernel)) boot_str (pa_cons (pv 1) pa_nil))))))), ?_⟩
    have hl' : t.length ≤ 100000 := hl
    refine ⟨⟨_, rfl⟩, _, rfl, a, rfl, ⟨_, SqT.of ea⟩, fun D nD => ?_⟩
    refine lc_fn (walk_tup (K := K) (a := a) (xs := vN t)) (fun i => V.str (S [t.getD i 0 + 48])) nD (by rw [vN_len]; exact hl) (fun H2 s2 => SqT.of (s2 a _ ea)) ?_ ?_
    · rintro i x H1 H2 Kt Kf hi s1 ⟨rfl, ei⟩ k
      unfold vN at ei
      rw [List.getElem?_map] at ei
      cases e : t[i]? with
      | none =>
        rw [e] at ei
        cases ei
      | some c =>
        rw [e] at ei
        cases ei
        have hc := ht c (List.mem_of_getElem? e)
        refine ⟨rfl, _, rfl, _, rfl, log_small hc, ?_⟩
        rw [num_S hc]
        have z := k H2 (Same.refl _)
        rw [List.getD_eq_getElem?_getD, e] at z
        exact z
    · intro H2 s2 e2
      have em : (List.range (vN t).length).map (fun i => V.str (S [t.getD i 0 + 48])) = (((turnForm t).map fun c => [c]).map S).map V.str := by
        refine List.ext_getElem (by simp [turnForm, vN]) fun j h1 h2 => ?_
        have hj : j < t.length := by simpa [vN] using h1
        simp [turnForm, List.getD_eq_getElem?_getD, List.getElem?_eq_getElem hj]
      rw [em] at e2
      have j1 := join_S [] ((turnForm t).map fun c => [c])
      rw [join_one] at j1
      refine ⟨S [], D, _, rfl, rfl, .inl (SqL.of e2), ?_, ?_⟩
      · rw [sum_S]
        have z : (((turnForm t).map fun c => [c]).map List.length).sum ≤ ((turnForm t).map fun c => [c]).length * 1 := sum_le fun p hp => by
          obtain ⟨c, _, rfl⟩ := List.mem_map.mp hp
          simp
        have z2 : (S ([] : List Nat)).length = 0 := rfl
        rw [z2, Nat.mul_zero]
        rw [List.length_map, turnF_len] at z
        omega
      · rw [j1]
        exact q H2 s2
/-! mark_words -/
def sp_mark_words : Sp := fun vs H Q _ => ∃ m, vs = [.str (S m)] ∧ Q (.str (S (markForm m))) H
theorem g_mark_words (T : Txt P w K mg base) : Gd P w K mg base 1 "mark_words" ["mark"] (sp_mark_words) := by
  refine gd_of (d := d_mark_words) T (by decide +kernel) (by simp [fn]) rfl (fun _ _ _ _ _ _ us hl => match us, hl with | [_], _ => rfl) fun fd F => F.ok sc_mark_words (fun vs H Q E h => ?_) fun cdv A outer s H vs Q E hr h => ?_
  · obtain ⟨m, rfl, q⟩ := h
    rfl
  · obtain ⟨m, rfl, q⟩ := h
    have h_NO_MARK := T.s "NO_MARK" [45] (by decide +kernel)
    refine ⟨_, (pss_one (ps_ret (pe_ifExp (pt_cmpR op_eq (pv 0) pe_str (nomark _)) (pe_gs h_NO_MARK) (pv 0)))), ?_⟩
    refine ⟨_, rfl, rfl, _, rfl, ite2 (fun c => ?_) (fun c => ?_)⟩
    · have c1 : m = [] := S_inj (V.str.inj (of_decide_eq_true c))
      subst c1
      exact q
    · have c1 : m ≠ [] := fun z => c (decide_eq_true (by rw [z]; rfl))
      unfold markForm at q
      rw [if_neg c1] at q
      exact ⟨_, rfl, q⟩
/-! turn_text -/
def sp_turn_text (K : PySem.W.Frag) : Sp := fun vs H Q E => ∃ v, vs = [v] ∧ ((∃ t, IsTurn H v t ∧ t.length ≤ BIG ∧ (isAnyTurn t = true → ∀ H', Same H H' → Q (.str (S (turnForm t))) H') ∧ (isAnyTurn t = false → Err K H E "BadTurn" [("given", v)])) ∨ (NoTup K H v ∧ Err K H E "BadTurn" [("given", v)]))
theorem g_turn_text (T : Txt P w K mg base) : Gd P w K mg base 4 "turn_text" ["turn"] (sp_turn_text K) := by
  refine gd_of (d := d_turn_text) T (by decide +kernel) (by simp [fn]) rfl (fun _ _ _ _ _ _ us hl => match us, hl with | [_], _ => rfl) fun fd F => F.ok sc_turn_text (fun vs H Q E h => ?_) fun cdv A outer s H vs Q E hr h => ?_
  · obtain ⟨v, rfl, h⟩ := h
    rfl
  · obtain ⟨v, rfl, h⟩ := h
    refine ⟨_, (pss_one (ps_ret (pe_g (g_turn_words T) (hr.mono (by decide)) rfl passL (pa_cons (pe_g (g_need_turn T) (hr.mono (by decide)) rfl passD (pa_cons (pv 0) pa_nil)) pa_nil)))), ?_⟩
    rcases h with ⟨t, it, hl, yes, no⟩ | ⟨nt, no⟩
    · refine ⟨_, rfl, v, rfl, .inl ⟨t, it, hl, fun ht H1 s1 => ?_, no⟩⟩
      exact ⟨v, t, rfl, it.up s1.ts, hl, (anyTurn_good ht).1.fig, fun H2 s2 => yes ht H2 (s1.trans s2)⟩
    · exact ⟨_, rfl, v, rfl, .inr ⟨nt, no⟩⟩
end
end K5
/-! ### a lot, written -/
namespace K5
open PySem PySem.Spec PyProof.Rows L2
/-- the lines so far stand at L -/
def LinesAt (H : Hp) (L : Addr) (ls : List (List Nat)) : Prop := H L = some (.lst ((ls.map S).map V.str))
theorem LinesAt.push {H : Hp} {L : Addr} {ls : List (List Nat)} {p : List Nat} : LinesAt (upd H L (.lst ((ls.map S).map V.str ++ [.str (S p)]))) L (ls ++ [p]) := by
  unfold LinesAt
  rw [upd_same]
  simp
theorem prog_lines (l : List (List Entry)) (i : Nat) (p : List Entry) (h : l[i]? = some p) : (l.take (i + 1)).flatMap progForm = (l.take i).flatMap progForm ++ progForm p := by
  rw [take_snoc h, List.flatMap_append]
  simp
theorem shots_lines (l : List Shot) (i : Nat) (s : Shot) (h : l[i]? = some s) : (l.take (i + 1)).map shotForm = (l.take i).map shotForm ++ [shotForm s] := by
  rw [take_snoc h, List.map_append]
  rfl
theorem entry_lines (l : List Entry) (i : Nat) (s : Entry) (h : l[i]? = some s) : (l.take (i + 1)).map entryForm = (l.take i).map entryForm ++ [entryForm s] := by
  rw [take_snoc h, List.map_append]
  rfl
theorem szN {a b : List Nat} (h : a.length + b.length ≤ 1000) : (S a).length + (S b).length ≤ sizeLine := by
  rw [S_len, S_len]
  have : sizeLine = 16777216 := by decide
  omega
theorem sums_take (l : List (List Entry)) (i : Nat) : ((l.take i).flatMap progForm).length ≤ l.length + (l.map List.length).sum := by
  have z : ∀ l : List (List Entry), (l.flatMap progForm).length = l.length + (l.map List.length).sum := fun l => by
    induction l with
    | nil => rfl
    | cons a r ih =>
      rw [List.flatMap_cons, List.length_append, ih]
      simp only [progForm, List.length_cons, List.length_map, List.map_cons, List.sum_cons]
      omega
  rw [z]
  have e : (l.map List.length).sum = ((l.take i).map List.length).sum + ((l.drop i).map List.length).sum := by
    rw [← List.sum_append, ← List.map_append, List.take_append_drop]
  have e2 : (l.take i).length ≤ l.length := by
    rw [List.length_take]
    omega
  omega
theorem line_cap {n : Nat} (h : n ≤ 500000) : n < sizeLine := Nat.lt_of_le_of_lt h (by decide)
section
variable {P : Program} {w : World} {K : PySem.W.Frag} {mg : Str → Option Value} {base : Heap}
def sp_lot_text (K : PySem.W.Frag) : Sp := fun vs H Q E => ∃ v, vs = [v] ∧ LotAsk K H v (fun x => Q (.str (S (lotText x)))) E
theorem g_lot_text (T : Txt P w K mg base) : Gd P w K mg base 8 "lot_text" ["lot"] (sp_lot_text K) := by
  refine gd_of (d := d_lot_text) T (by decide +kernel) (by simp [fn]) rfl (fun _ _ _ _ _ _ us hl => match us, hl with | [_], _ => rfl) fun fd F => F.ok sc_lot_text (fun vs H Q E h => ?_) fun cdv A outer s H vs Q E hr h => ?_
  · obtain ⟨v, rfl, h⟩ := h
    rfl
  · obtain ⟨v, rfl, h⟩ := h
    have h_BLANK := T.s "BLANK" wBLANK (by decide +kernel)
    have h_CORNERS := T.s "CORNERS" wCORN (by decide +kernel)
    have h_NEWLINE := T.s "NEWLINE" [10] (by decide +kernel)
    have h_PROGRAM := T.s "PROGRAM" wPROG (by decide +kernel)
    have h_SHOT := T.s "SHOT" wSHOT (by decide +kernel)
    refine ⟨_, (pss_cons (ps_asg (pe_g (g_need_lot T) (hr.mono (by decide)) rfl passD (pa_cons (pv 0) pa_nil)) (pg_tup rfl (pgs_cons (pg_name (i := 1) sc_lot_text.nd rfl (.inl rfl)) (pgs_cons (pg_name (i := 2) sc_lot_text.nd rfl (.inl rfl)) (pgs_cons (pg_name (i := 3) sc_lot_text.nd rfl (.inl rfl)) pgs_nil)))))
      (pss_cons (ps_set (i := 4) sc_lot_text.nd rfl (.inl rfl) (pe_lst (pa_cons (pe_op op_add_str (pe_gs h_CORNERS) (pe_callTy call_str_int rfl (T.free "str" (by decide +kernel)) boot_str (pa_cons (pv 1) pa_nil))) pa_nil)))
      (pss_cons (ps_for passO rfl (pi_tup (pv 2)) (pg_tup rfl (pgs_cons (pg_name (i := 5) sc_lot_text.nd rfl (.inl rfl)) (pgs_cons (pg_name (i := 6) sc_lot_text.nd rfl (.inl rfl)) pgs_nil))) (pss_one (ps_expr (pe_bm PySem.F.plainAttrs_list PySem.F.slot_list_append PySem.F.type_list_append mt_append (pv 4) (pa_cons (pe_op op_add_str (pe_op op_add_str (pe_op op_add_str (pe_gs h_SHOT) (pe_g (g_turn_words T) (hr.mono (by decide)) rfl passL (pa_cons (pv 5) pa_nil))) (pe_gs h_BLANK)) (pe_g (g_mark_words T) (hr.mono (by decide)) rfl passL (pa_cons (pv 6) pa_nil))) pa_nil)))))
      (pss_cons (ps_for passO rfl (pi_tup (pv 3)) (pg_name (i := 7) sc_lot_text.nd rfl (.inl rfl)) (pss_cons (ps_expr (pe_bm PySem.F.plainAttrs_list PySem.F.slot_list_append PySem.F.type_list_append mt_append (pv 4) (pa_cons (pe_gs h_PROGRAM) pa_nil)))
      (pss_one (ps_for passO rfl (pi_tup (pv 7)) (pg_tup rfl (pgs_cons (pg_name (i := 6) sc_lot_text.nd rfl (.inl rfl)) (pgs_cons (pg_name (i := 8) sc_lot_text.nd rfl (.inl rfl)) (pgs_cons (pg_name (i := 9) sc_lot_text.nd rfl (.inl rfl)) pgs_nil)))) (pss_one (ps_expr (pe_bm PySem.F.plainAttrs_list PySem.F.slot_list_append PySem.F.type_list_append mt_append (pv 4) (pa_cons (pe_join (pe_gs h_BLANK) (pe_lst (pa_cons (pe_g (g_mark_words T) (hr.mono (by decide)) rfl passL (pa_cons (pv 6) pa_nil)) (pa_cons (pe_g (g_turn_words T) (hr.mono (by decide)) rfl passL (pa_cons (pv 8) pa_nil)) (pa_cons (pe_g (g_mark_words T) (hr.mono (by decide)) rfl passL (pa_cons (pv 9) pa_nil)) pa_nil))))) pa_nil))))))))
      (pss_one (ps_ret (pe_join (pe_gs h_NEWLINE) (pv 4)))))))), ?_⟩
    rcases h with ⟨x, IL, sm, yes, no⟩ | h
    · refine ⟨_, rfl, v, rfl, .inl ⟨x, IL, sm, fun hn H1 s1 => ?_, no⟩⟩
      have IL1 := IL.up s1.ts
      obtain ⟨a, b, c, ss, ps, rfl, ea, eb, pb, ec, pc⟩ := id IL1
      have g := notLot_good hn
      have yes' := yes hn
      have b1 : x.shots.length ≤ 100000 := sm.sn
      have b2 : x.progs.length ≤ 100000 := sm.pn
      have b3 : x.progs.flatten.length ≤ 100000 := sm.f
      rw [flat_len] at b3
      refine ⟨a, _, rfl, SqT.of ea, rfl, _, _, rfl, _, _, rfl, _, _, rfl, rfl, ?_⟩
      refine ⟨_, rfl, _, rfl, log_small g.c, ?_⟩
      rw [num_S g.c]
      refine ⟨_, _, rfl, rfl, szN (by simp [wCORN]), zl1, fun L nL => ?_⟩
      have s2 := Same.new nL (o := .lst [V.str (S wCORN ++ S [x.corners + 48])])
      have l2 : LinesAt (upd H1 L (.lst [V.str (S wCORN ++ S [x.corners + 48])])) L [headForm x] := by
        unfold LinesAt
        rw [upd_same, S_app]
        rfl
      generalize upd H1 L (.lst [V.str (S wCORN ++ S [x.corners + 48])]) = H2 at s2 l2
      refine ⟨_, rfl, b, rfl, ⟨ss, SqT.of (s2 b _ eb)⟩, ?_⟩
      refine for_it (walk_tup (K := K) (a := b) (xs := ss)) (fun i σ H3 => ∃ y5 y6 y7 y8 y9, σ = [some (.ref a), some (.int (x.corners : Nat)), some (.ref b), some (.ref c), some (.ref L), y5, y6, y7, y8, y9] ∧ Same H1 H3 ∧ LinesAt H3 L ([headForm x] ++ (x.shots.take i).map shotForm))
        ⟨_, _, _, _, _, rfl, s2, l2⟩ (fun i σ H3 _ ⟨_, _, _, _, _, _, s3, _⟩ => SqT.of (s3 b _ eb)) ?_ ?_
      · rintro i v σ H3 H4 hi ⟨y5, y6, y7, y8, y9, rfl, s3, l3⟩ ⟨rfl, ev⟩
        obtain ⟨s, es, d, tv, rfl, ed, it⟩ := pair_get pb ev
        obtain ⟨gt, gm⟩ := g.s s (List.mem_of_getElem? es)
        have tl := turnF_len s.1
        have gl := gt.le
        have ml := mark_len gm
        refine ⟨d, _, rfl, SqT.of (s3 d _ ed), rfl, _, _, rfl, _, _, rfl, rfl, ?_⟩
        refine ⟨_, rfl, .inl ⟨rfl, _, SqL.of l3⟩, _, rfl, tv, s.1, rfl, it.up s3.ts, Nat.le_trans gl (by decide), gt.fig, fun H5 s5 => ?_⟩
        have l5 : LinesAt H5 L _ := s5 _ _ l3
        refine ⟨_, _, rfl, rfl, szN (by simp only [wSHOT, List.length_cons, List.length_nil]; omega), ?_⟩
        rw [S_app]
        refine ⟨_, _, rfl, rfl, szN (by simp only [wSHOT, wBLANK, List.length_append, List.length_cons, List.length_nil]; omega), ?_⟩
        rw [S_app]
        refine ⟨_, rfl, s.2, rfl, ?_⟩
        refine ⟨_, _, rfl, rfl, szN (by simp only [wSHOT, wBLANK, List.length_append, List.length_cons, List.length_nil]; omega), ?_⟩
        rw [S_app]
        refine ⟨L, _, _, rfl, rfl, l5, ?_, _, _, _, _, _, rfl, (s3.trans s5).put nL, ?_⟩
        · rw [List.length_map, List.length_map, List.length_append, List.length_map, List.length_take]
          refine line_cap ?_
          show 1 + _ ≤ _
          omega
        · rw [shots_lines _ _ _ es, ← List.append_assoc]
          exact LinesAt.push
      · rintro σ H3 ⟨y5, y6, y7, y8, y9, rfl, s3, l3⟩
        rw [pair_len pb, List.take_length] at l3
        refine ⟨_, rfl, c, rfl, ⟨ps, SqT.of (s3 c _ ec)⟩, ?_⟩
        refine for_it (walk_tup (K := K) (a := c) (xs := ps)) (fun i σ H3 => ∃ y5 y6 y7 y8 y9, σ = [some (.ref a), some (.int (x.corners : Nat)), some (.ref b), some (.ref c), some (.ref L), y5, y6, y7, y8, y9] ∧ Same H1 H3 ∧ LinesAt H3 L ([headForm x] ++ x.shots.map shotForm ++ (x.progs.take i).flatMap progForm))
          ⟨_, _, _, _, _, rfl, s3, by rw [List.take_zero]; simpa using l3⟩ (fun i σ H3 _ ⟨_, _, _, _, _, _, s3, _⟩ => SqT.of (s3 c _ ec)) ?_ ?_
        · rintro i v σ H4 H4' hi ⟨y5, y6, y7, y8, y9, rfl, s4, l4⟩ ⟨rfl, ev⟩
          obtain ⟨p, ep, d, us, rfl, ed, pe⟩ := pair_get pc ev
          have mp := List.mem_of_getElem? ep
          have st := sums_take x.progs i
          have lp := len_mem _ _ mp
          have cap : ([headForm x] ++ x.shots.map shotForm ++ (x.progs.take i).flatMap progForm).length ≤ 300001 := by
            simp only [List.length_append, List.length_map, List.length_cons, List.length_nil]
            omega
          refine ⟨_, rfl, .inl ⟨rfl, _, SqL.of l4⟩, L, _, _, rfl, rfl, l4, line_cap (by rw [List.length_map, List.length_map]; omega), ?_⟩
          have l5 : LinesAt (upd H4' L (.lst ((([headForm x] ++ x.shots.map shotForm ++ (x.progs.take i).flatMap progForm).map S).map V.str ++ [.str (S wPROG)]))) L _ := LinesAt.push
          have s5 := s4.put nL (o := .lst ((([headForm x] ++ x.shots.map shotForm ++ (x.progs.take i).flatMap progForm).map S).map V.str ++ [.str (S wPROG)]))
          generalize upd H4' L (.lst ((([headForm x] ++ x.shots.map shotForm ++ (x.progs.take i).flatMap progForm).map S).map V.str ++ [.str (S wPROG)])) = H5 at l5 s5
          generalize hB : [headForm x] ++ x.shots.map shotForm ++ (x.progs.take i).flatMap progForm ++ [wPROG] = B at l5
          have cB : B.length ≤ 300002 := by
            rw [← hB, List.length_append]
            show _ + 1 ≤ _
            omega
          refine ⟨_, rfl, d, rfl, ⟨us, SqT.of (s5 d _ ed)⟩, ?_⟩
          refine for_it (walk_tup (K := K) (a := d) (xs := us)) (fun j σ H3 => ∃ y5 y6 y7 y8 y9, σ = [some (.ref a), some (.int (x.corners : Nat)), some (.ref b), some (.ref c), some (.ref L), y5, y6, y7, y8, y9] ∧ Same H1 H3 ∧ LinesAt H3 L (B ++ (p.take j).map entryForm))
            ⟨_, _, _, _, _, rfl, s5, by rw [List.take_zero]; simpa using l5⟩ (fun i σ H3 _ ⟨_, _, _, _, _, _, s3, _⟩ => SqT.of (s3 d _ ed)) ?_ ?_
          · rintro j v σ H6 H6' hj ⟨y5, y6, y7, y8, y9, rfl, s6, l6⟩ ⟨rfl, eu⟩
            obtain ⟨e, ee, f, tv, rfl, ef, it⟩ := pair_get pe eu
            have ge := g.p p mp e (List.mem_of_getElem? ee)
            refine ⟨f, _, rfl, SqT.of (s6 f _ ef), rfl, _, _, rfl, _, _, rfl, _, _, rfl, rfl, ?_⟩
            refine ⟨_, rfl, .inl ⟨rfl, _, SqL.of l6⟩, ⟨_, rfl⟩, _, rfl, e.1, rfl, _, rfl, tv, e.2.1, rfl, it.up s6.ts, Nat.le_trans ge.t.le (by decide), ge.t.fig, fun H7 s7 => ?_⟩
            refine ⟨_, rfl, e.2.2, rfl, zl3, fun q nq => ?_⟩
            have s8 := Same.new nq (o := .lst [V.str (S (markForm e.1)), V.str (S (turnForm e.2.1)), V.str (S (markForm e.2.2))])
            have e1 := mark_len ge.m
            have e2 := mark_len ge.to
            have e3 := turnF_len e.2.1
            have e4 := ge.t.le
            refine ⟨S [32], q, [S (markForm e.1), S (turnForm e.2.1), S (markForm e.2.2)], rfl, rfl, .inl (SqL.of upd_same), ?_, ?_⟩
            · simp only [List.map_cons, List.map_nil, List.sum_cons, List.sum_nil, S_len, List.length_cons, List.length_nil]
              omega
            · have l8 : LinesAt _ L _ := s8 _ _ (s7 _ _ l6)
              have ej : Txt.join (S [32]) [S (markForm e.1), S (turnForm e.2.1), S (markForm e.2.2)] = S (entryForm e) := by
                refine (join_S [32] [markForm e.1, turnForm e.2.1, markForm e.2.2]).trans ?_
                simp [TL.joinL, entryForm]
              rw [ej]
              refine ⟨L, _, _, rfl, rfl, l8, ?_, _, _, _, _, _, rfl, ((s6.trans s7).trans s8).put nL, ?_⟩
              · rw [List.length_map, List.length_map, List.length_append, List.length_map, List.length_take]
                refine line_cap ?_
                omega
              · rw [entry_lines _ _ _ ee, ← List.append_assoc]
                exact LinesAt.push
          · rintro σ H6 ⟨y5, y6, y7, y8, y9, rfl, s6, l6⟩
            rw [pair_len pe, List.take_length] at l6
            refine ⟨_, _, _, _, _, rfl, s6, ?_⟩
            rw [prog_lines _ _ _ ep]
            have eB : B ++ p.map entryForm = [headForm x] ++ x.shots.map shotForm ++ ((x.progs.take i).flatMap progForm ++ progForm p) := by
              rw [← hB]
              simp [progForm]
            rw [← eB]
            exact l6
        · rintro σ H4 ⟨y5, y6, y7, y8, y9, rfl, s4, l4⟩
          rw [pair_len pc, List.take_length] at l4
          have eL : [headForm x] ++ x.shots.map shotForm ++ x.progs.flatMap progForm = lotForm x := by
            simp [lotForm, restForm]
          rw [eL] at l4
          have fc := form_count x
          have fs := sum_le (form_le g)
          refine ⟨⟨_, rfl⟩, _, rfl, S [10], L, _, rfl, rfl, .inl (SqL.of l4), ?_, ?_⟩
          · rw [sum_S, S_len, List.length_map]
            show _ + _ * 1 ≤ _
            omega
          · rw [join_S]
            exact yes' H4 (s1.trans s4)
    · refine ⟨_, rfl, v, rfl, .inr h⟩
end
end K5
/-! ### what the law draws -/
namespace K5
open PySem PySem.Spec PyProof.Rows L2
structure StA where
  d : Addr
  c : Addr
  l : Addr
def kSt (c l : Addr) (n : Nat) : List (Key × V) := [(.inr "cells", .ref c), (.inr "lefts", .ref l), (.inr "at", .int (n : Int)), (.inr "room", .int 0)]
theorem ixN_at {n j : Nat} (h : j < n) : ixN n (j : Int) = some j := by
  unfold ixN
  rw [if_pos (by omega), if_pos (by omega)]
  simp
theorem kSt_c (c l : Addr) (n : Nat) : valV (kSt c l n) (.inr "cells") = some (.ref c) := rfl
theorem kSt_l (c l : Addr) (n : Nat) : valV (kSt c l n) (.inr "lefts") = some (.ref l) := rfl
theorem kSt_a (c l : Addr) (n : Nat) : valV (kSt c l n) (.inr "at") = some (.int (n : Int)) := rfl
theorem kSt_p (c l : Addr) (n m : Nat) : putK (kSt c l n) (.inr "at") (.int (m : Int)) = kSt c l m := rfl
structure Dr (z : StA) (H : Hp) (n : Nat) : Prop where
  d : H z.d = some (.dK (kSt z.c z.l n))
  c : ∃ cells : List Int, H z.c = some (.lst (cells.map V.int)) ∧ cells ≠ [] ∧ cells.length ≤ 1000 ∧ ∃ lefts : List Int, H z.l = some (.lst (lefts.map V.int)) ∧ lefts.length = cells.length
  ne : z.c ≠ z.l
/-- all but the two objects that a draw changes stays -/
def Sx (z : StA) (H H' : Hp) : Prop := ∀ b u, b ≠ z.d → b ≠ z.l → H b = some u → H' b = some u
theorem Sx.refl (z : StA) (H : Hp) : Sx z H H := fun _ _ _ _ h => h
theorem Sx.trans {z : StA} {H H1 H2 : Hp} (a : Sx z H H1) (b : Sx z H1 H2) : Sx z H H2 := fun c u h1 h2 h => b c u h1 h2 (a c u h1 h2 h)
theorem Sx.of {z : StA} {H H' : Hp} (s : Same H H') : Sx z H H' := fun b u _ _ h => s b u h
theorem Dr.up {z : StA} {H H' : Hp} {n : Nat} (s : Same H H') (h : Dr z H n) : Dr z H' n := by
  obtain ⟨cells, e1, e2, e3, lefts, e4, e5⟩ := h.c
  exact ⟨s _ _ h.d, ⟨cells, s _ _ e1, e2, e3, lefts, s _ _ e4, e5⟩, h.ne⟩
theorem Dr.dl {z : StA} {H : Hp} {n : Nat} (h : Dr z H n) : z.d ≠ z.l := fun e => by
  obtain ⟨cells, e1, e2, e3, lefts, e4, e5⟩ := h.c
  have q := h.d
  rw [e, e4] at q
  cases q
theorem Dr.dc {z : StA} {H : Hp} {n : Nat} (h : Dr z H n) : z.d ≠ z.c := fun e => by
  obtain ⟨cells, e1, e2, e3, lefts, e4, e5⟩ := h.c
  have q := h.d
  rw [e, e1] at q
  cases q
theorem Dr.new {z : StA} {H : Hp} {n : Nat} {b : Addr} (h : Dr z H n) (e : H b = none) : b ≠ z.d ∧ b ≠ z.l := by
  obtain ⟨cells, e1, e2, e3, lefts, e4, e5⟩ := h.c
  exact ⟨fun q => (by rw [q, h.d] at e; cases e), fun q => (by rw [q, e4] at e; cases e)⟩
theorem Dr.ts {z : StA} {H H' : Hp} {n : Nat} (h : Dr z H n) (s : Sx z H H') : TupS H H' := fun b xs e => by
  obtain ⟨cells, e1, e2, e3, lefts, e4, e5⟩ := h.c
  exact s b _ (fun q => by rw [q, h.d] at e; cases e) (fun q => by rw [q, e4] at e; cases e) e
/-- an object of one's own changes -/
theorem Dr.put {z : StA} {H : Hp} {n : Nat} {b : Addr} {o : HO} (h : Dr z H n) (h1 : b ≠ z.d) (h2 : b ≠ z.l) (h3 : b ≠ z.c) : Dr z (upd H b o) n := by
  obtain ⟨cells, e1, e2, e3, lefts, e4, e5⟩ := h.c
  refine ⟨?_, ⟨cells, ?_, e2, e3, lefts, ?_, e5⟩, h.ne⟩
  · rw [upd_ne (Ne.symm h1)]
    exact h.d
  · rw [upd_ne (Ne.symm h3)]
    exact e1
  · rw [upd_ne (Ne.symm h2)]
    exact e4
theorem Dr.nc {z : StA} {H : Hp} {n : Nat} {b : Addr} (h : Dr z H n) (e : H b = none) : b ≠ z.c := by
  obtain ⟨cells, e1, e2, e3, lefts, e4, e5⟩ := h.c
  exact fun q => by rw [q, e1] at e; cases e
section
variable {P : Program} {w : World} {K : PySem.W.Frag} {mg : Str → Option Value} {base : Heap}
/-! _law_mixed -/
def sp__law_mixed : Sp := fun vs H Q _ => ∃ i k : Int, vs = [.int i, .int k] ∧ 0 ≤ k ∧ k ≤ 1000000000 ∧ ∀ r : Int, 0 ≤ r → r < 2147483629 → Q (.int r) H
theorem g__law_mixed (T : Txt P w K mg base) : Gd P w K mg base 1 "_law_mixed" ["_law_cell", "_law_k"] (sp__law_mixed) := by
  refine gd_of (d := d__law_mixed) T (by decide +kernel) (by simp [fn]) rfl (fun _ _ _ _ _ _ us hl => match us, hl with | [_, _], _ => rfl) fun fd F => F.ok sc__law_mixed (fun vs H Q E h => ?_) fun cdv A outer s H vs Q E hr h => ?_
  · obtain ⟨i, k, rfl, k0, k1, q⟩ := h
    rfl
  · obtain ⟨i, k, rfl, k0, k1, q⟩ := h
    refine ⟨_, (pss_cons (ps_set (i := 0) sc__law_mixed.nd rfl (.inl rfl) (pe_op op_mod (pe_callTy call_int1 rfl (T.free "int" (by decide +kernel)) boot_int (pa_cons (pv 0) pa_nil)) pe_int))
      (pss_one (ps_ret (pe_op op_mod (pe_op op_mul (pe_op op_mod (pe_op op_add (pe_op op_add (pe_op op_mul (pv 0) (pe_op op_add pe_int (pe_op op_mul (pe_op op_mul pe_int (pv 1)) (pv 1)))) (pe_op op_mul pe_int (pv 1))) pe_int) pe_int) pe_int) pe_int)))), ?_⟩
    refine ⟨_, rfl, .inl ⟨_, rfl, _, _, rfl, rfl, show (0 : Int) < 2147483647 by decide, ?_⟩⟩
    have c0 : 0 ≤ i % 2147483647 := Int.emod_nonneg _ (by decide)
    have c1 : i % 2147483647 < 2147483647 := Int.emod_lt_of_pos _ (by decide)
    refine ⟨_, rfl, _, rfl, _, _, rfl, rfl, .inl ⟨by decide, by decide⟩, _, rfl, _, _, rfl, rfl, .inl ⟨by omega, by omega⟩, _, _, rfl, rfl, _, _, rfl, rfl, .inl ⟨by omega, by omega⟩, ?_⟩
    refine ⟨_, rfl, _, _, rfl, rfl, .inl ⟨by decide, by decide⟩, _, _, rfl, rfl, _, _, rfl, rfl, _, _, rfl, rfl, show (0 : Int) < 2147483647 by decide, _, _, rfl, rfl, .inr ⟨by decide, by decide⟩, _, _, rfl, rfl, show (0 : Int) < 2147483629 by decide, ?_⟩
    exact q _ (Int.emod_nonneg _ (by decide)) (Int.emod_lt_of_pos _ (by decide))
/-! _law_draw -/
def sp__law_draw : Sp := fun vs H Q _ => ∃ (z : StA) (n many : Nat), vs = [.ref z.d, .int (many : Int)] ∧ 0 < many ∧ many ≤ 100000000 ∧ Dr z H n ∧ n ≤ 1000000 ∧ ∀ H' (r : Nat), Sx z H H' → Dr z H' (n + 1) → r < many → Q (.int (r : Int)) H'
theorem g__law_draw (T : Txt P w K mg base) : Gd P w K mg base 2 "_law_draw" ["_law_state", "_law_many"] (sp__law_draw) := by
  refine gd_of (d := d__law_draw) T (by decide +kernel) (by simp [fn]) rfl (fun _ _ _ _ _ _ us hl => match us, hl with | [_, _], _ => rfl) fun fd F => F.ok sc__law_draw (fun vs H Q E h => ?_) fun cdv A outer s H vs Q E hr h => ?_
  · obtain ⟨z, n, many, rfl, m0, m1, D, hn, q⟩ := h
    rfl
  · obtain ⟨z, n, many, rfl, m0, m1, D, hn, q⟩ := h
    refine ⟨_, (pss_cons (ps_set (i := 2) sc__law_draw.nd rfl (.inl rfl) (pe_dget (hu_of hr) (pv 0) pe_str (fun _ _ => rfl)))
      (pss_cons (ps_dput (hu_of hr) (pv 0) pe_str (pe_op op_add (pv 2) pe_int) rfl)
      (pss_cons (ps_set (i := 3) sc__law_draw.nd rfl (.inl rfl) (pe_op op_mod (pe_callTy call_int1 rfl (T.free "int" (by decide +kernel)) boot_int (pa_cons (pv 2) pa_nil)) (pe_callB call_len_seq rfl (T.free "len" (by decide +kernel)) boot_len (pa_cons (pe_dget (hu_of hr) (pv 0) pe_str (fun _ _ => rfl)) pa_nil))))
      (pss_cons (ps_set (i := 4) sc__law_draw.nd rfl (.inl rfl) (pe_ix ix_list (pe_dget (hu_of hr) (pv 0) pe_str (fun _ _ => rfl)) (pv 3) (fun _ _ => rfl)))
      (pss_cons (ps_if (pt_cmpR op_gt (pv 4) pe_int (nomark _)) (pss_cons (ps_asg (pe_op op_fdiv (pv 4) (pv 1)) (pg_sub (pe_dget (hu_of hr) (pv 0) pe_str (fun _ _ => rfl)) (pv 3) set_list))
      (pss_one (ps_ret (pe_op op_mod (pe_callTy call_int1 rfl (T.free "int" (by decide +kernel)) boot_int (pa_cons (pv 4) pa_nil)) (pv 1))))) pss_nil)
      (pss_cons (ps_set (i := 5) sc__law_draw.nd rfl (.inl rfl) (pe_g (g__law_mixed T) (hr.mono (by decide)) rfl passL (pa_cons (pe_g (g__law_mixed T) (hr.mono (by decide)) rfl passL (pa_cons (pe_ix ix_list (pe_dget (hu_of hr) (pv 0) pe_str (fun _ _ => rfl)) (pv 3) (fun _ _ => rfl)) (pa_cons (pv 2) pa_nil))) (pa_cons (pe_op op_add pe_int (pv 2)) pa_nil))))
      (pss_one (ps_ret (pe_op op_mod (pe_op op_fdiv (pe_callTy call_int1 rfl (T.free "int" (by decide +kernel)) boot_int (pa_cons (pe_op op_add (pe_op op_mul (pv 5) pe_int) (pe_g (g__law_mixed T) (hr.mono (by decide)) rfl passL (pa_cons (pv 5) (pa_cons (pe_op op_add pe_int (pv 2)) pa_nil)))) pa_nil)) pe_int) (pv 1)))))))))), ?_⟩
    obtain ⟨cells, e1, e2, e3, lefts, e4, e5⟩ := D.c
    have hl : 0 < cells.length := List.length_pos_iff.mpr e2
    refine ⟨_, rfl, z.d, _, rfl, DGet.k (k := Sum.inr "at") D.d, ?_⟩
    refine ⟨_, rfl, _, _, rfl, rfl, _, rfl, z.d, _, rfl, DPut.k (k := Sum.inr "at") D.d (show 4 < sizeLine by decide), ?_⟩
    have ep : putK (kSt z.c z.l n) (Sum.inr "at") (.int ((n : Int) + 1)) = kSt z.c z.l (n + 1) := kSt_p z.c z.l n (n + 1)
    rw [ep]
    have D1 : Dr z (upd H z.d (.dK (kSt z.c z.l (n + 1)))) (n + 1) :=
      ⟨upd_same, ⟨cells, by rw [upd_ne (Ne.symm D.dc)]; exact e1, e2, e3, lefts, by rw [upd_ne (Ne.symm D.dl)]; exact e4, e5⟩, D.ne⟩
    have x1 : Sx z H (upd H z.d (.dK (kSt z.c z.l (n + 1)))) := fun b u h1 h2 h => by
      rw [upd_ne h1]
      exact h
    generalize upd H z.d (.dK (kSt z.c z.l (n + 1))) = H1 at D1 x1
    obtain ⟨cells', f1, f2, f3, lefts', f4, f5⟩ := D1.c
    have hl' : 0 < cells'.length := List.length_pos_iff.mpr f2
    refine ⟨_, rfl, .inl ⟨_, rfl, _, rfl, z.d, _, rfl, DGet.k (k := Sum.inr "cells") D1.d, z.c, _, rfl, .inl (SqL.of f1), _, _, rfl, rfl, by rw [List.length_map]; omega, ?_⟩⟩
    have p0 : 0 ≤ (n : Int) % (cells'.length : Int) := Int.emod_nonneg _ (by omega)
    have p1 : (n : Int) % (cells'.length : Int) < (cells'.length : Int) := Int.emod_lt_of_pos _ (by omega)
    obtain ⟨j, ej⟩ : ∃ j : Nat, (n : Int) % (cells'.length : Int) = (j : Int) := ⟨((n : Int) % (cells'.length : Int)).toNat, by omega⟩
    rw [ej] at p1
    have ek : (n : Int) % (((cells'.map V.int).length : Nat) : Int) = (j : Int) := by
      rw [List.length_map]
      exact ej
    have j1 : j < cells'.length := by omega
    have g1 : (cells'.map V.int)[j]? = some (.int cells'[j]) := by simp [j1]
    have j2 : j < lefts'.length := by omega
    have g2 : (lefts'.map V.int)[j]? = some (.int lefts'[j]) := by simp [j2]
    refine ⟨_, rfl, z.d, _, rfl, DGet.k (k := Sum.inr "lefts") D1.d, _, rfl, z.l, _, _, _, rfl, rfl, SqL.of f4, (show atI _ ((n : Int) % (((cells'.map V.int).length : Nat) : Int)) = _ by rw [ek]; exact atI_nat g2), ?_⟩
    refine ⟨_, rfl, _, _, rfl, rfl, _, rfl, ite2 (fun c => ?_) (fun c => ?_)⟩
    · refine ⟨_, rfl, _, rfl, _, _, rfl, rfl, ⟨by omega, by omega⟩, _, rfl, z.d, _, rfl, DGet.k (k := Sum.inr "lefts") D1.d, _, rfl, z.l, _, _, j, rfl, rfl, f4, (show ixN _ ((n : Int) % (((cells'.map V.int).length : Nat) : Int)) = _ by rw [ek]; exact ixN_at (by rw [List.length_map]; exact j2)), ?_⟩
      have D2 : Dr z (upd H1 z.l (.lst ((lefts'.map V.int).set j (.int (lefts'[j] / (many : Int)))))) (n + 1) := by
        refine ⟨by rw [upd_ne D.dl]; exact D1.d, ⟨cells', by rw [upd_ne D.ne]; exact f1, f2, f3, lefts'.set j (lefts'[j] / (many : Int)), ?_, by rw [List.length_set]; exact f5⟩, D.ne⟩
        rw [upd_same, List.map_set]
      have x2 : Sx z H (upd H1 z.l (.lst ((lefts'.map V.int).set j (.int (lefts'[j] / (many : Int)))))) := fun b u h1 h2 h => by
        rw [upd_ne h2]
        exact x1 b u h1 h2 h
      refine ⟨_, rfl, .inl ⟨_, rfl, _, rfl, _, _, rfl, rfl, by omega, ?_⟩⟩
      have r0 : 0 ≤ lefts'[j] % (many : Int) := Int.emod_nonneg _ (by omega)
      have r1 : lefts'[j] % (many : Int) < (many : Int) := Int.emod_lt_of_pos _ (by omega)
      have er : lefts'[j] % (many : Int) = ((lefts'[j] % (many : Int)).toNat : Int) := by omega
      have fin := q _ _ x2 D2 (show (lefts'[j] % (many : Int)).toNat < many by omega)
      rw [← er] at fin
      exact fin
    · refine ⟨_, rfl, z.d, _, rfl, DGet.k (k := Sum.inr "cells") D1.d, _, rfl, z.c, _, _, _, rfl, rfl, SqL.of f1, (show atI _ ((n : Int) % (((cells'.map V.int).length : Nat) : Int)) = _ by rw [ek]; exact atI_nat g1), _, rfl, _, _, rfl, by omega, by omega, fun r r0 r1 => ?_⟩
      refine ⟨_, rfl, _, _, rfl, rfl, _, _, rfl, by omega, by omega, fun m m0' m1' => ?_⟩
      refine ⟨_, rfl, _, _, rfl, rfl, .inr ⟨by decide, by decide⟩, _, rfl, _, rfl, _, _, rfl, rfl, m, _, rfl, by omega, by omega, fun r2 r20 r21 => ?_⟩
      refine ⟨_, _, rfl, rfl, .inl ⟨_, rfl, _, _, rfl, rfl, ⟨by decide, by decide⟩, _, rfl, _, _, rfl, rfl, by omega, ?_⟩⟩
      have r0 : 0 ≤ (m * 2147483647 + r2) / 64 % (many : Int) := Int.emod_nonneg _ (by omega)
      have r1 : (m * 2147483647 + r2) / 64 % (many : Int) < (many : Int) := Int.emod_lt_of_pos _ (by omega)
      have er : (m * 2147483647 + r2) / 64 % (many : Int) = (((m * 2147483647 + r2) / 64 % (many : Int)).toNat : Int) := by omega
      have fin := q _ _ x1 D1 (show ((m * 2147483647 + r2) / 64 % (many : Int)).toNat < many by omega)
      rw [← er] at fin
      exact fin
end
end K5
/-! ### turns and marks, drawn -/
namespace K5
open PySem PySem.Spec PyProof.Rows L2
theorem perm_erase : ∀ (l : List Nat) (k : Nat) (h : k < l.length), (l[k] :: l.eraseIdx k).Perm l
  | a :: r, 0, _ => List.Perm.refl _
  | a :: r, k + 1, h => by
    have hk : k < r.length := by simpa using h
    have ih := perm_erase r k hk
    show (r[k] :: a :: r.eraseIdx k).Perm (a :: r)
    exact (List.Perm.swap ..).trans (ih.cons a)
theorem vN_erase : ∀ (l : List Nat) (k : Nat), (vN l).eraseIdx k = vN (l.eraseIdx k)
  | [], _ => rfl
  | a :: r, 0 => rfl
  | a :: r, k + 1 => by
    show V.int a :: (vN r).eraseIdx k = V.int a :: vN (r.eraseIdx k)
    rw [vN_erase r k]
theorem vN_app (a b : List Nat) : vN (a ++ b) = vN a ++ vN b := List.map_append
theorem perm_turn {c : Nat} {t : List Nat} (h : t.Perm (List.range c)) (h1 : 2 ≤ c) (h2 : c ≤ 6) : isTurn c t = true := by
  have l : t.length = c := by
    rw [h.length_eq, List.length_range]
  unfold isTurn isAnyTurn
  rw [l, decide_eq_true ⟨h1, h2⟩, decide_eq_true h, decide_eq_true rfl]
  rfl
theorem rg_vN (c : Nat) : rgV 0 ((c : Nat) : Int) = vN (List.range c) := by
  unfold rgV vN
  refine (congrArg (fun n => (List.range n).map _) (show (((c : Nat) : Int) - 0).toNat = c by omega)).trans ?_
  refine List.map_congr_left fun k _ => ?_
  show V.int (0 + (k : Int)) = V.int k
  rw [Int.zero_add]
theorem Sx.put {z : StA} {H H1 : Hp} {b : Addr} {o : HO} (s : Sx z H H1) (n : H b = none) : Sx z H (upd H1 b o) := fun c u h1 h2 h => by
  rw [upd_ne (ne_of_none h n)]
  exact s c u h1 h2 h
theorem isTurn_len {H : Hp} {v : V} {t : List Nat} (_ : IsTurn H v t) : True := trivial
section
variable {P : Program} {w : World} {K : PySem.W.Frag} {mg : Str → Option Value} {base : Heap}
/-! _law_of -/
def Some_ (H : Hp) (z : StA) (v : V) (os : List (List Nat)) : Prop := (∃ l, v = .str (S l) ∧ os = l.map fun c => [c]) ∨ ∃ a, v = .ref a ∧ a ≠ z.d ∧ a ≠ z.l ∧ H a = some (.lst (os.map fun p => V.str (S p)))
def sp__law_of : Sp := fun vs H Q _ => ∃ (z : StA) (n : Nat) (v : V) (os : List (List Nat)), vs = [.ref z.d, v] ∧ Some_ H z v os ∧ os ≠ [] ∧ os.length ≤ 1000 ∧ Dr z H n ∧ n ≤ 1000000 ∧ ∀ H' p, Sx z H H' → Dr z H' (n + 1) → p ∈ os → Q (.str (S p)) H'
theorem g__law_of (T : Txt P w K mg base) : Gd P w K mg base 3 "_law_of" ["_law_state", "_law_some"] (sp__law_of) := by
  refine gd_of (d := d__law_of) T (by decide +kernel) (by simp [fn]) rfl (fun _ _ _ _ _ _ us hl => match us, hl with | [_, _], _ => rfl) fun fd F => F.ok sc__law_of (fun vs H Q E h => ?_) fun cdv A outer s H vs Q E hr h => ?_
  · obtain ⟨z, n, v, os, rfl, so, ne, ol, D, hn, q⟩ := h
    rfl
  · obtain ⟨z, n, v, os, rfl, so, ne, ol, D, hn, q⟩ := h
    refine ⟨_, (pss_one (ps_ret (pe_ix ix_seq (pv 1) (pe_g (g__law_draw T) (hr.mono (by decide)) rfl passL (pa_cons (pv 0) (pa_cons (pe_callB call_len rfl (T.free "len" (by decide +kernel)) boot_len (pa_cons (pv 1) pa_nil)) pa_nil))) (fun _ _ => rfl)))), ?_⟩
    have pos : 0 < os.length := List.length_pos_iff.mpr ne
    rcases so with ⟨l, rfl, rfl⟩ | ⟨a, rfl, a1, a2, ea⟩
    · rw [List.length_map] at pos ol
      have sl : (S l).length = l.length := S_len l
      refine ⟨_, rfl, _, rfl, _, rfl, _, l.length, rfl, ⟨by rw [sl]; exact Nat.le_trans ol (by decide), sl.symm⟩, z, n, l.length, rfl, pos, by omega, D, hn, fun H1 r s1 D1 hr => ?_⟩
      refine .inr (.inr ⟨_, _, l[r], rfl, rfl, by rw [sl]; exact Nat.le_trans ol (by decide), atI_nat (j := r) ?_, q _ _ s1 D1 (List.mem_map.mpr ⟨l[r], List.getElem_mem hr, rfl⟩)⟩)
      show l[r]? = some l[r]
      exact List.getElem?_eq_getElem hr
    · refine ⟨_, rfl, _, rfl, _, rfl, _, _, rfl, .inl ⟨_, SqL.of ea, rfl⟩, z, n, os.length, by rw [List.length_map] <;> rfl, pos, by omega, D, hn, fun H1 r s1 D1 hr => ?_⟩
      have e1 := s1 a _ a1 a2 ea
      refine .inl ⟨a, _, _, .str (S os[r]), rfl, rfl, SqL.of e1, atI_nat (j := r) (by simp [hr]), q _ _ s1 D1 (List.getElem_mem hr)⟩
/-! _law_mark -/
def MK : List (List Nat) := [[], [97], [98], [97], [99]]
theorem MK_ok : ∀ m ∈ MK, isMark m = true := by decide
def sp__law_mark : Sp := fun vs H Q _ => ∃ (z : StA) (n : Nat), vs = [.ref z.d] ∧ Dr z H n ∧ n ≤ 1000000 ∧ ∀ H' m, Sx z H H' → Dr z H' (n + 1) → m ∈ MK → Q (.str (S m)) H'
theorem g__law_mark (T : Txt P w K mg base) : Gd P w K mg base 3 "_law_mark" ["_law_state"] (sp__law_mark) := by
  refine gd_of (d := d__law_mark) T (by decide +kernel) (by simp [fn]) rfl (fun _ _ _ _ _ _ us hl => match us, hl with | [_], _ => rfl) fun fd F => F.ok sc__law_mark (fun vs H Q E h => ?_) fun cdv A outer s H vs Q E hr h => ?_
  · obtain ⟨z, n, rfl, D, hn, q⟩ := h
    rfl
  · obtain ⟨z, n, rfl, D, hn, q⟩ := h
    refine ⟨_, (pss_one (ps_ret (pe_ix ix_list (pe_lst (pa_cons pe_str (pa_cons pe_str (pa_cons pe_str (pa_cons pe_str (pa_cons pe_str pa_nil)))))) (pe_g (g__law_draw T) (hr.mono (by decide)) rfl passL (pa_cons (pv 0) (pa_cons pe_int pa_nil))) (fun _ _ => rfl)))), ?_⟩
    refine ⟨show 5 ≤ sizeLine by decide, fun a na => ?_⟩
    obtain ⟨a1, a2⟩ := D.new na
    have s0 := Same.new na (o := .lst (MK.map fun m => V.str (S m)))
    refine ⟨_, rfl, z, n, 5, rfl, by decide, by decide, D.up s0, hn, fun H1 r s1 D1 hr => ?_⟩
    have e1 := s1 a _ a1 a2 (upd_same (o := .lst (MK.map fun m => V.str (S m))))
    exact ⟨a, _, _, .str (S MK[r]), rfl, rfl, SqL.of e1, atI_nat (j := r) (by rw [List.getElem?_map, List.getElem?_eq_getElem (show r < MK.length from hr)]; rfl), q _ _ ((Sx.of s0).trans s1) D1 (List.getElem_mem _)⟩
/-! _law_turn -/
def sp__law_turn : Sp := fun vs H Q _ => ∃ (z : StA) (n c : Nat), vs = [.ref z.d, .int (c : Nat)] ∧ 2 ≤ c ∧ c ≤ 6 ∧ Dr z H n ∧ n ≤ 100000 ∧ ∀ H' v t n', Sx z H H' → Dr z H' n' → n' ≤ n + 7 → IsTurn H' v t → isTurn c t = true → Q v H'
theorem g__law_turn (T : Txt P w K mg base) : Gd P w K mg base 3 "_law_turn" ["_law_state", "_law_corners"] (sp__law_turn) := by
  refine gd_of (d := d__law_turn) T (by decide +kernel) (by simp [fn]) rfl (fun _ _ _ _ _ _ us hl => match us, hl with | [_, _], _ => rfl) fun fd F => F.ok sc__law_turn (fun vs H Q E h => ?_) fun cdv A outer s H vs Q E hr h => ?_
  · obtain ⟨z, n, c, rfl, c1, c2, D, hn, q⟩ := h
    rfl
  · obtain ⟨z, n, c, rfl, c1, c2, D, hn, q⟩ := h
    refine ⟨_, (pss_cons (ps_par (i := 2) (j := 3) rfl sc__law_turn.nd rfl rfl (by decide) rfl rfl (pa_cons (pe_listRg rfl rfl (T.free "list" (by decide +kernel)) (prg_1 rfl (T.free "range" (by decide +kernel)) (pv 1))) (pa_cons (pe_lst pa_nil) pa_nil)) rfl)
      (pss_cons (ps_if (pt_cmpR op_eq (pe_g (g__law_draw T) (hr.mono (by decide)) rfl passL (pa_cons (pv 0) (pa_cons pe_int pa_nil))) pe_int (nomark _)) (pss_one (ps_ret (pe_callTy call_tuple_of rfl (T.free "tuple" (by decide +kernel)) boot_tuple (pa_cons (pv 2) pa_nil)))) pss_nil)
      (pss_cons (ps_for passO rfl (pi_range1 rfl (T.free "range" (by decide +kernel)) (pa_cons (pv 1) pa_nil)) (pg_name (i := 4) sc__law_turn.nd rfl (.inl rfl)) (pss_one (ps_expr (pe_bm PySem.F.plainAttrs_list PySem.F.slot_list_append PySem.F.type_list_append mt_append (pv 3) (pa_cons (pe_bm PySem.F.plainAttrs_list PySem.F.slot_list_pop PySem.F.type_list_pop mt_popAt (pv 2) (pa_cons (pe_g (g__law_draw T) (hr.mono (by decide)) rfl passL (pa_cons (pv 0) (pa_cons (pe_callB call_len_seq rfl (T.free "len" (by decide +kernel)) boot_len (pa_cons (pv 2) pa_nil)) pa_nil))) pa_nil)) pa_nil)))))
      (pss_one (ps_ret (pe_callTy call_tuple_of rfl (T.free "tuple" (by decide +kernel)) boot_tuple (pa_cons (pv 3) pa_nil))))))), ?_⟩
    refine ⟨_, rfl, _, rfl, RgOk.of_le (by omega) (by omega) (by omega) (by omega), fun L nL => ⟨zl0, fun F nF => ⟨_, _, rfl, ?_⟩⟩⟩
    rw [rg_vN] at nF ⊢
    have nF0 : H F = none := (Same.new nL).free nF
    have LF : L ≠ F := fun e => by
      rw [← e, upd_same] at nF
      cases nF
    have s0 : Same H (upd (upd H L (.lst (vN (List.range c)))) F (.lst [])) := (Same.new nL).trans (Same.new nF)
    have eL : (upd (upd H L (.lst (vN (List.range c)))) F (.lst [])) L = some (.lst (vN (List.range c))) := by
      rw [upd_ne LF]
      exact upd_same
    have eF : (upd (upd H L (.lst (vN (List.range c)))) F (.lst [])) F = some (.lst (vN [])) := upd_same
    generalize upd (upd H L (.lst (vN (List.range c)))) F (.lst []) = H1 at s0 eL eF
    obtain ⟨L1, L2'⟩ := D.new nL
    obtain ⟨F1, F2⟩ := D.new nF0
    have L3 := D.nc nL
    have F3 := D.nc nF0
    refine ⟨_, rfl, z, n, 3, rfl, by decide, by decide, D.up s0, by omega, fun H2 r s2 D2 hr => ?_⟩
    have eL2 := s2 L _ L1 L2' eL
    have eF2 := s2 F _ F1 F2 eF
    have x2 : Sx z H H2 := (Sx.of s0).trans s2
    refine ⟨rfl, _, rfl, ite2 (fun d => ?_) (fun d => ?_)⟩
    · refine ⟨_, rfl, L, _, rfl, .inl ⟨SqL.of eL2, fun a na => ?_⟩⟩
      exact q _ _ _ _ (x2.trans (Sx.of (Same.new na))) (D2.up (Same.new na)) (by omega) ⟨a, rfl, upd_same⟩ (perm_turn (List.Perm.refl _) c1 c2)
    · refine ⟨_, rfl, _, rfl, by omega, by omega, ?_⟩
      refine for_range (lo := 0) (n := c) (fun i σ H3 => ∃ a n' lf fd, σ = [some (.ref z.d), some (.int (c : Nat)), some (.ref L), some (.ref F), a] ∧ Sx z H H3 ∧ Dr z H3 n' ∧ n' ≤ n + 1 + i ∧ H3 L = some (.lst (vN lf)) ∧ H3 F = some (.lst (vN fd)) ∧ lf.length + i = c ∧ (fd ++ lf).Perm (List.range c))
        ⟨_, _, _, _, rfl, x2, D2, by omega, eL2, eF2, by rw [List.length_range]; omega, List.Perm.refl _⟩ ?_ ?_
      · rintro i σ H3 hi ⟨a, n', lf, fd, rfl, x3, D3, hn3, e3, f3, hl, pm⟩
        have ll : (vN lf).length = lf.length := vN_len lf
        refine ⟨_, rfl, .inl ⟨rfl, _, SqL.of f3⟩, _, rfl, .inl ⟨rfl, _, SqL.of e3⟩, _, rfl, _, rfl, L, _, rfl, .inl (SqL.of e3), z, n', lf.length, by rw [ll] <;> rfl, by omega, by omega, D3, by omega, fun H4 r s4 D4 hr => ?_⟩
        have e4 := s4 L _ L1 L2' e3
        have f4 := s4 F _ F1 F2 f3
        have ix : ixN (vN lf).length ((r : Nat) : Int) = some r := ixN_at (by rw [ll]; exact hr)
        refine ⟨L, _, _, r, .int (lf[r] : Nat), rfl, rfl, e4, by omega, by omega, (ixN_seq ix).1, by simp [vN, hr], ?_⟩
        have f5 : upd H4 L (.lst ((vN lf).eraseIdx r)) F = some (.lst (vN fd)) := by
          rw [upd_ne (Ne.symm LF)]
          exact f4
        have lfd : fd.length ≤ c := by
          have := pm.length_eq
          rw [List.length_append, List.length_range] at this
          omega
        refine ⟨F, _, _, rfl, rfl, f5, by rw [vN_len]; exact szl (Nat.le_trans lfd (show c ≤ 100000 by omega)), ?_⟩
        refine ⟨_, n' + 1, lf.eraseIdx r, fd ++ [lf[r]], rfl, ((x3.trans s4).put nL).put nF0, (D4.put L1 L2' L3).put F1 F2 F3, by omega, ?_, ?_, ?_, ?_⟩
        · rw [upd_ne LF, upd_same, vN_erase]
        · rw [upd_same, vN_app]
          rfl
        · rw [List.length_eraseIdx_of_lt hr]
          omega
        · have p1 := perm_erase lf r hr
          rw [List.append_assoc]
          exact (List.Perm.append_left fd p1).trans pm
      · rintro σ H3 ⟨a, n', lf, fd, rfl, x3, D3, hn3, e3, f3, hl, pm⟩
        have l0 : lf = [] := List.eq_nil_of_length_eq_zero (by omega)
        subst l0
        rw [List.append_nil] at pm
        refine ⟨_, rfl, F, _, rfl, .inl ⟨SqL.of f3, fun b nb => ?_⟩⟩
        exact q _ _ _ _ (x3.trans (Sx.of (Same.new nb))) (D3.up (Same.new nb)) (by omega) ⟨b, rfl, upd_same⟩ (perm_turn pm c1 c2)
end
end K5
/-! ### the state, begun -/
namespace K5
open PySem PySem.Spec PyProof.Rows L2
theorem ints_of : ∀ acc : List V, (∀ (j : Nat) (y : V), acc[j]? = some y → ∃ k : Int, y = V.int k) → ∃ l : List Int, acc = l.map V.int
  | [], _ => ⟨[], rfl⟩
  | a :: r, h => by
    obtain ⟨k, rfl⟩ := h 0 a rfl
    obtain ⟨l, rfl⟩ := ints_of r fun j y e => h (j + 1) y (by simpa using e)
    exact ⟨k :: l, rfl⟩
theorem eqv_nil (l : List Int) : PyData.eqv (.list (l.map PyData.int)) (.list (([] : List Int).map PyData.int)) = l.isEmpty := by
  refine (eqv_ints l []).trans ?_
  cases l <;> rfl
section
variable {P : Program} {w : World} {K : PySem.W.Frag} {mg : Str → Option Value} {base : Heap}
def sp__law_begin (K : PySem.W.Frag) : Sp := fun vs H Q _ => ∃ (a : Addr) (cells : List Int), vs = [.ref a] ∧ SqL K H a (cells.map V.int) ∧ cells.length ≤ 100 ∧ ∀ H' z, Same H H' → Dr z H' 0 → H z.d = none → H z.l = none → Q (.ref z.d) H'
theorem g__law_begin (T : Txt P w K mg base) : Gd P w K mg base 1 "_law_begin" ["_law_script"] (sp__law_begin K) := by
  refine gd_of (d := d__law_begin) T (by decide +kernel) (by simp [fn]) rfl (fun _ _ _ _ _ _ us hl => match us, hl with | [_], _ => rfl) fun fd F => F.ok sc__law_begin (fun vs H Q E h => ?_) fun cdv A outer s H vs Q E hr h => ?_
  · obtain ⟨a, cells, rfl, ha, hl, q⟩ := h
    rfl
  · obtain ⟨a, cells, rfl, ha, hl, q⟩ := h
    refine ⟨_, (pss_cons (ps_set (i := 1) sc__law_begin.nd rfl (.inl rfl) (pe_ifExp (pt_cmpR (op_neD hr.units) (pv 0) (pe_lst pa_nil) (nomark _)) (pe_callTy call_list_of rfl (T.free "list" (by decide +kernel)) boot_list (pa_cons (pv 0) pa_nil)) (pe_lst (pa_cons pe_int pa_nil))))
      (pss_one (ps_ret (pe_disp (pps_cons pe_str (pv 1) (pps_cons pe_str (pe_lc (own := [("_law_cell", 2)]) (g := gName 2) (tt := tYes) rfl sc__law_begin.nd (pi_list (pv 1)) (blkOk_by (N := n__law_begin) (sc := defScope s__law_begin) (by decide +kernel)) (fun _ _ _ _ _ => pg_name (i := 2) sc__law_begin.nd rfl (.inl rfl)) (fun _ _ _ _ _ => pts_nil) (fun _ _ _ _ _ => (pe_ifExp (pt_cmpR op_ge (pv 2) (pe_op op_pow pe_int pe_int) (nomark _)) (pv 2) pe_int))) (pps_cons pe_str pe_int (pps_cons pe_str pe_int pps_nil)))) rfl rfl (fun z => by cases z) (by decide))))), ?_⟩
    refine ⟨_, rfl, zl0, fun b nb => ?_⟩
    have s0 := Same.new nb (o := .lst [])
    have ha' := s0.seq ha
    refine ⟨_, _, .lst ha' (dpAll_ints cells), .lst (SqL.of (xs := []) upd_same) (dpAll_ints []), shaped_ints _, shaped_ints [], _, rfl, ite2 (fun d => ?_) (fun d => ?_)⟩
    rw [eqv_nil] at d
    have ne : cells ≠ [] := fun z => by
      rw [z] at d
      cases d
    refine ⟨_, rfl, a, _, rfl, .inl ha', fun c nc => ?_⟩
    have s1 := s0.trans (Same.new nc (o := .lst (cells.map V.int)))
    have e1 : upd (upd H b (.lst [])) c (.lst (cells.map V.int)) c = some (.lst (cells.map V.int)) := upd_same
    obtain ⟨cs, ecs⟩ : ∃ cs, cs = cells := ⟨_, rfl⟩
    have lc := hl
    rw [← ecs] at s1 e1 ne lc ⊢
    generalize upd (upd H b (.lst [])) c (.lst (cs.map V.int)) = H1 at s1 e1
    clear hl ha ha' d ecs nc
    revert H1
    rotate_left
    refine ⟨zl1, fun c nc => ?_⟩
    have s1 := s0.trans (Same.new nc (o := .lst [.int 0]))
    have e1 : upd (upd H b (.lst [])) c (.lst [.int 0]) c = some (.lst [.int 0]) := upd_same
    obtain ⟨cs, ecs⟩ : ∃ cs : List Int, cs.map V.int = [.int 0] := ⟨[0], rfl⟩
    have ne : cs ≠ [] := fun z => by
      rw [z] at ecs
      cases ecs
    have lc : cs.length ≤ 100 := by
      have := congrArg List.length ecs
      rw [List.length_map] at this
      rw [this]
      decide
    rw [← ecs] at s1 e1 ⊢
    generalize upd (upd H b (.lst [])) c (.lst (cs.map V.int)) = H1 at s1 e1
    clear hl ha ha' d ecs nc
    revert H1
    all_goals
      intro H1 s1 e1
      refine fun p np => ⟨_, rfl, _, rfl, c, rfl, ?_⟩
      have s2 := Same.new np (o := .dK [])
      refine ⟨⟨_, SqL.of (s2 c _ e1)⟩, fun D nD => ?_⟩
      refine lc_rel (walk_list (K := K) (a := c) (xs := cs.map V.int)) (fun _ y _ => ∃ k : Int, y = .int k) (fun _ _ _ _ _ h => h) nD (by rw [List.length_map]; exact Nat.le_trans lc (by decide)) (fun H2 s3 => SqL.of (s3 c _ (s2 c _ e1))) ?_ ?_
      · rintro i x H2 H3 Kt Kf hi s3 ⟨rfl, ex⟩ k
        obtain ⟨v, rfl⟩ : ∃ v : Int, x = .int v := by
          rw [List.getElem?_map] at ex
          cases e : cs[i]? with
          | none =>
            rw [e] at ex
            cases ex
          | some v =>
            rw [e] at ex
            exact ⟨v, (Option.some.inj ex).symm⟩
        refine ⟨rfl, _, rfl, _, _, rfl, rfl, ⟨by decide, by decide, by decide⟩, _, _, rfl, rfl, _, rfl, ite2 (fun _ => ?_) (fun _ => ?_)⟩
        · exact ⟨_, rfl, k _ _ (Same.refl _) ⟨_, rfl⟩⟩
        · exact k _ _ (Same.refl _) ⟨_, rfl⟩
      · intro H2 acc s3 eD la rel
        obtain ⟨lefts, rfl⟩ := ints_of acc rel
        have s12 := s2.trans s3
        refine ⟨s3 p _ upd_same, kSt c D 0, rfl, by show 4 ≤ 15; decide, ?_⟩
        have em : mergeK [] (kSt c D 0) = kSt c D 0 := rfl
        rw [em]
        have ep : H2 p = some (.dK []) := s3 p _ upd_same
        have ec : H2 c = some (.lst (cs.map V.int)) := s12 c _ e1
        have pc : c ≠ p := fun e => by
          rw [e, ep] at ec
          cases ec
        have pD : D ≠ p := fun e => by
          rw [e, ep] at eD
          cases eD
        have nD1 : H1 D = none := s2.free nD
        have cD : c ≠ D := fun e => by
          rw [← e, e1] at nD1
          cases nD1
        refine q _ ⟨p, c, D⟩ (s1.trans (s12.put np)) ⟨upd_same, ⟨cs, ?_, ne, Nat.le_trans lc (by decide), lefts, ?_, ?_⟩, cD⟩ (s1.free np) (s1.free nD1)
        · rw [upd_ne pc]
          exact ec
        · rw [upd_ne pD]
          exact eD
        · rw [List.length_map] at la
          rw [la, List.length_map]
end
end K5
/-! ### programs, drawn -/
namespace K5
open PySem PySem.Spec PyProof.Rows L2
theorem lists_tri : ∀ a b : List Nat, a < b ∨ a = b ∨ b < a
  | [], [] => .inr (.inl rfl)
  | [], y :: b => .inl (List.nil_lt_cons ..)
  | x :: a, [] => .inr (.inr (List.nil_lt_cons ..))
  | x :: a, y :: b => by
    rcases Nat.lt_trichotomy x y with h | h | h
    · exact .inl (List.cons_lt_cons_iff.mpr (.inl h))
    · subst h
      rcases lists_tri a b with h | h | h
      · exact .inl (List.cons_lt_cons_iff.mpr (.inr ⟨rfl, h⟩))
      · exact .inr (.inl (by rw [h]))
      · exact .inr (.inr (List.cons_lt_cons_iff.mpr (.inr ⟨rfl, h⟩)))
    · exact .inr (.inr (List.cons_lt_cons_iff.mpr (.inl h)))
theorem rising_of : ∀ ms : List (List Nat), ms.Nodup → sortedS (ms.map S) = true → rising ms = true
  | [], _, _ => rfl
  | [_], _, _ => rfl
  | x :: y :: r, nd, h => by
    have h' : (!ltCps y x && risingS (S y) (r.map S)) = true := h
    obtain ⟨h1, h2⟩ := Bool.and_eq_true_iff.mp h'
    have ih := rising_of (y :: r) (List.nodup_cons.mp nd).2 h2
    have hl : x < y := by
      rw [ltCps_eq] at h1
      have n1 : ¬ y < x := by simpa using h1
      rcases lists_tri x y with z | z | z
      · exact z
      · rw [z] at nd
        exact absurd (List.mem_cons_self ..) (List.nodup_cons.mp nd).1
      · exact absurd z n1
    show (decide (x < y) && rising (y :: r)) = true
    rw [ih, decide_eq_true hl]
    rfl
/-! a dict with marks as keys -/
def pk (l : List (List Nat × V)) : List (Key × V) := l.map fun p => (.inr (S p.1), p.2)
theorem pk_len (l : List (List Nat × V)) : (pk l).length = l.length := List.length_map _
theorem pk_any (l : List (List Nat × V)) (m : List Nat) : ((pk l).any fun kv => decide (kv.1 = Sum.inr (S m))) = l.any fun kv => decide (kv.1 = m) := by
  unfold pk
  rw [List.any_map, Bool.eq_iff_iff]
  simp only [List.any_eq_true, Function.comp, decide_eq_true_eq]
  constructor
  · rintro ⟨x, h1, h2⟩
    exact ⟨x, h1, S_inj (Sum.inr.inj h2)⟩
  · rintro ⟨x, h1, h2⟩
    exact ⟨x, h1, by rw [h2]⟩
theorem pk_put (l : List (List Nat × V)) (m : List Nat) (v : V) : putK (pk l) (.inr (S m)) v = pk (putK l m v) := by
  unfold putK
  rw [pk_any]
  split
  · unfold pk
    rw [List.map_map, List.map_map]
    refine List.map_congr_left fun x _ => ?_
    show (if (Sum.inr (S x.1) : Key) = Sum.inr (S m) then _ else _) = _
    by_cases h : x.1 = m
    · rw [if_pos (by rw [h])]
      show _ = (Sum.inr (S (if x.1 = m then (x.1, v) else x).1), (if x.1 = m then (x.1, v) else x).2)
      rw [if_pos h]
    · rw [if_neg (fun z => h (S_inj (Sum.inr.inj z)))]
      show _ = (Sum.inr (S (if x.1 = m then (x.1, v) else x).1), (if x.1 = m then (x.1, v) else x).2)
      rw [if_neg h]
  · unfold pk
    rw [List.map_append]
    rfl
theorem pk_val : ∀ (l : List (List Nat × V)) (m : List Nat), valV (pk l) (.inr (S m)) = valV l m
  | [], _ => rfl
  | p :: r, m => by
    by_cases h : p.1 = m
    · rw [valV_pos h]
      exact valV_pos (by show (Sum.inr (S p.1) : Key) = _; rw [h])
    · have h' : ¬ ((Sum.inr (S p.1), p.2) : Key × V).1 = Sum.inr (S m) := fun z => h (S_inj (Sum.inr.inj z))
      show valV ((Sum.inr (S p.1), p.2) :: pk r) _ = _
      unfold valV
      rw [List.find?_cons_of_neg (by simpa using h'), List.find?_cons_of_neg (by simpa using h)]
      exact pk_val r m
theorem put_mem {l : List (List Nat × V)} {m : List Nat} {v : V} {p : List Nat × V} (h : p ∈ putK l m v) : p ∈ l ∨ p = (m, v) := by
  unfold putK at h
  split at h
  · obtain ⟨x, hx, e⟩ := List.mem_map.mp h
    split at e
    · rename_i q
      exact .inr (by rw [← e, q])
    · exact .inl (by rw [← e]; exact hx)
  · rcases List.mem_append.mp h with z | z
    · exact .inl z
    · exact .inr (List.mem_singleton.mp z)
theorem put_keys (l : List (List Nat × V)) (m : List Nat) (v : V) : (putK l m v).map (·.1) = addM (l.map (·.1)) m := by
  unfold putK addM
  have e : (l.any fun kv => decide (kv.1 = m)) = decide (m ∈ l.map (·.1)) := by
    rw [Bool.eq_iff_iff]
    simp
  rw [e]
  by_cases h : m ∈ l.map (·.1)
  · rw [if_pos (decide_eq_true h), if_pos h, List.map_map]
    refine List.map_congr_left fun x _ => ?_
    show (if x.1 = m then (x.1, v) else x).1 = x.1
    split <;> rfl
  · rw [if_neg (fun z => h (of_decide_eq_true z)), if_neg h, List.map_append]
    rfl
theorem addM_nodup {l : List (List Nat)} (m : List Nat) (h : l.Nodup) : (addM l m).Nodup := by
  unfold addM
  split
  · exact h
  · rename_i q
    refine List.nodup_append.mpr ⟨h, by simp, fun a ha b hb z => ?_⟩
    rw [List.mem_singleton.mp hb] at z
    exact q (z ▸ ha)
theorem val_mem {l : List (List Nat × V)} {m : List Nat} (h : m ∈ l.map (·.1)) : ∃ v, valV l m = some v ∧ (m, v) ∈ l := by
  induction l with
  | nil => cases h
  | cons p r ih =>
    by_cases e : p.1 = m
    · refine ⟨p.2, valV_pos e, ?_⟩
      rw [← e]
      exact List.mem_cons_self ..
    · rw [List.map_cons] at h
      rcases List.mem_cons.mp h with z | z
      · exact absurd z.symm e
      · obtain ⟨v, h1, h2⟩ := ih z
        refine ⟨v, ?_, List.mem_cons_of_mem _ h2⟩
        rw [← h1]
        unfold valV
        rw [List.find?_cons_of_neg (by simpa using e)]
theorem choose_pair {G : V → Entry → Prop} {Z : Entry → Prop} : ∀ (acc : List V) (ms : List (List Nat)), acc.length = ms.length → (∀ (j : Nat) (y : V), acc[j]? = some y → ∃ e, G y e ∧ some e.1 = ms[j]? ∧ Z e) →
    ∃ es, Paired G acc es ∧ es.map (·.1) = ms ∧ ∀ e ∈ es, Z e
  | [], [], _, _ => ⟨[], .nil, rfl, fun _ h => nomatch h⟩
  | a :: acc, m :: ms, hl, h => by
    obtain ⟨e, h1, h2, h3⟩ := h 0 a rfl
    obtain ⟨es, p, q, r⟩ := choose_pair acc ms (by simpa using hl) fun j y ej => h (j + 1) y (by simpa using ej)
    have h2' : e.1 = m := Option.some.inj h2
    refine ⟨e :: es, .cons h1 p, by rw [List.map_cons, q, h2'], fun x hx => ?_⟩
    rcases List.mem_cons.mp hx with z | z
    · rw [z]
      exact h3
    · exact r x z
theorem op_catT' {X : Cx} {K : PySem.W.Frag} (h : X.K = K) : OpR X (binaryOp .Add) (rCatT K) := h ▸ op_catT
def MkE (c : Nat) (e : Entry) : Prop := isEntry c e = true ∧ e.1 ∈ MK ∧ e.2.2 ∈ MK
section
variable {P : Program} {w : World} {K : PySem.W.Frag} {mg : Str → Option Value} {base : Heap}
def KvOk (H : Hp) (c : Nat) (l : List (List Nat × V)) : Prop := ∀ p ∈ l, p.1 ∈ MK ∧ ∃ s : Shot, IsShot H p.2 s ∧ isTurn c s.1 = true ∧ s.2 ∈ MK
theorem KvOk.up {H H' : Hp} {c : Nat} {l : List (List Nat × V)} (e : TupS H H') (h : KvOk H c l) : KvOk H' c l := fun p hp =>
  let ⟨a, s, h1, h2, h3⟩ := h p hp
  ⟨a, s, h1.up e, h2, h3⟩
def sp__law_program : Sp := fun vs H Q _ => ∃ (z : StA) (n c : Nat), vs = [.ref z.d, .int (c : Nat)] ∧ 2 ≤ c ∧ c ≤ 6 ∧ Dr z H n ∧ n ≤ 90000 ∧ ∀ H' v p n', Sx z H H' → Dr z H' n' → n' ≤ n + 28 → IsProg H' v p → isProg c p = true → p.length ≤ 3 → (∀ e ∈ p, MkE c e) → Q v H'
theorem g__law_program (T : Txt P w K mg base) : Gd P w K mg base 4 "_law_program" ["_law_state", "_law_corners"] (sp__law_program) := by
  refine gd_of (d := d__law_program) T (by decide +kernel) (by simp [fn]) rfl (fun _ _ _ _ _ _ us hl => match us, hl with | [_, _], _ => rfl) fun fd F => F.ok sc__law_program (fun vs H Q E h => ?_) fun cdv A outer s H vs Q E hr h => ?_
  · obtain ⟨z, n, c, rfl, c1, c2, D, hn, q⟩ := h
    rfl
  · obtain ⟨z, n, c, rfl, c1, c2, D, hn, q⟩ := h
    refine ⟨_, (pss_cons (ps_set (i := 2) sc__law_program.nd rfl (.inr rfl) pe_dnewK)
      (pss_cons (ps_for passO rfl (pi_range1 rfl (T.free "range" (by decide +kernel)) (pa_cons (pe_g (g__law_draw T) (hr.mono (by decide)) rfl passL (pa_cons (pv 0) (pa_cons pe_int pa_nil))) pa_nil)) (pg_name (i := 3) sc__law_program.nd rfl (.inl rfl)) (pss_one (ps_dput (hu_of hr) (pv 2) (pe_g (g__law_mark T) (hr.mono (by decide)) rfl passL (pa_cons (pv 0) pa_nil)) (pe_tup (pa_cons (pe_g (g__law_turn T) (hr.mono (by decide)) rfl passL (pa_cons (pv 0) (pa_cons (pv 1) pa_nil))) (pa_cons (pe_g (g__law_mark T) (hr.mono (by decide)) rfl passL (pa_cons (pv 0) pa_nil)) pa_nil))) rfl)))
      (pss_one (ps_ret (pe_callTy call_tuple_of rfl (T.free "tuple" (by decide +kernel)) boot_tuple (pa_cons (pe_lc (own := [("_law_mark_here", 4)]) (g := gName 4) (tt := tYes) rfl sc__law_program.nd (pi_list (pe_callB (cr_sortedDT rfl) rfl (T.free "sorted" (by decide +kernel)) boot_sorted (pa_cons (pv 2) pa_nil))) (blkOk_by (N := n__law_program) (sc := defScope s__law_program) (by decide +kernel)) (fun _ _ _ _ _ => pg_name (i := 4) sc__law_program.nd rfl (.inl rfl)) (fun _ _ _ _ _ => pts_nil) (fun _ _ _ _ _ => (pe_op (op_catT' (K := K) rfl) (pe_tup (pa_cons (pv 4) pa_nil)) (pe_dget (hu_of hr) (pv 2) (pv 4) (fun _ _ => rfl))))) pa_nil)))))), ?_⟩
    refine fun F nF => ?_
    obtain ⟨F1, F2⟩ := D.new nF
    have F3 := D.nc nF
    have s0 := Same.new nF (o := .dK [])
    have eF : upd H F (.dK []) F = some (.dK (pk [])) := upd_same
    generalize upd H F (.dK []) = H1 at s0 eF
    refine ⟨_, rfl, z, n, 4, rfl, by decide, by decide, D.up s0, by omega, fun H2 r s2 D2 hr => ?_⟩
    refine ⟨_, rfl, by omega, by omega, ?_⟩
    refine for_range (lo := 0) (n := r) (fun i σ H3 => ∃ a n' l, σ = [some (.ref z.d), some (.int (c : Nat)), some (.ref F), a, none] ∧ Sx z H H3 ∧ Dr z H3 n' ∧ n' ≤ n + 1 + 9 * i ∧ H3 F = some (.dK (pk l)) ∧ (l.map (·.1)).Nodup ∧ l.length ≤ i ∧ KvOk H3 c l)
      ⟨_, _, [], rfl, (Sx.of s0).trans s2, D2, by omega, s2 F _ F1 F2 eF, List.nodup_nil, Nat.le_refl _, fun _ h => nomatch h⟩ ?_ ?_
    · rintro i σ H3 hi ⟨a, n', l, rfl, x3, D3, hn3, e3, nd, ll, kv⟩
      refine ⟨_, rfl, _, rfl, z, n', c, rfl, c1, c2, D3, by omega, fun H4 v t n4 s4 D4 hn4 it gt => ?_⟩
      have e4 := s4 F _ F1 F2 e3
      have t4 := D3.ts s4
      refine ⟨_, rfl, z, n4, rfl, D4, by omega, fun H5 m s5 D5 gm => ?_⟩
      have e5 := s5 F _ F1 F2 e4
      have t5 := D4.ts s5
      refine ⟨zl2, fun b nb => ?_⟩
      have s6 := Same.new nb (o := .tup [v, .str (S m)])
      have e6 := s6 F _ e5
      have D6 := D5.up s6
      have sh6 : IsShot (upd H5 b (.tup [v, .str (S m)])) (.ref b) (t, m) := ⟨b, v, rfl, upd_same, (it.up t5).up s6.ts⟩
      generalize upd H5 b (.tup [v, .str (S m)]) = H6 at s6 e6 D6 sh6
      refine ⟨_, rfl, _, rfl, z, n4 + 1, rfl, D6, by omega, fun H7 k s7 D7 gk => ?_⟩
      have e7 := s7 F _ F1 F2 e6
      have t7 := D6.ts s7
      refine ⟨F, _, rfl, DPut.k (k := Sum.inr (S k)) e7 (by rw [pk_len]; exact szl (show _ ≤ 100000 by omega)), ?_⟩
      rw [pk_put]
      have up : TupS H7 (upd H7 F (.dK (pk (putK l k (.ref b))))) := TupS.put fun xs z => by
        rw [e7] at z
        cases z
      have tall : TupS H3 (upd H7 F (.dK (pk (putK l k (.ref b))))) := ((((t4.trans t5).trans s6.ts).trans t7).trans up)
      refine ⟨_, n4 + 1 + 1, putK l k (.ref b), rfl, ((((x3.trans s4).trans s5).trans (Sx.of s6)).trans s7).put nF, D7.put F1 F2 F3, by omega, upd_same, ?_, ?_, ?_⟩
      · rw [put_keys]
        exact addM_nodup _ nd
      · have := congrArg List.length (put_keys l k (.ref b))
        rw [List.length_map] at this
        have := addM_len (l.map (·.1)) k
        rw [List.length_map] at this
        omega
      · intro p hp
        rcases put_mem hp with y | y
        · exact kv.up tall p y
        · rw [y]
          exact ⟨gk, (t, m), (sh6.up t7).up up, gt, gm⟩
    · rintro σ H3 ⟨a, n', l, rfl, x3, D3, hn3, e3, nd, ll, kv⟩
      refine ⟨_, rfl, F, _, (l.map (·.1)).map S, rfl, .inl e3, by unfold pk; rw [List.map_map, List.map_map, List.map_map]; rfl, fun ys L pm so nL => ?_⟩
      have s4 := Same.new nL (o := .lst (ys.map V.str))
      have ey : ys = (ys.map TL.tl).map S := by
        rw [List.map_map]
        exact (List.map_id _).symm.trans (List.map_congr_left fun x _ => (S_tl x).symm)
      obtain ⟨ms, hms⟩ : ∃ ms, ms = ys.map TL.tl := ⟨_, rfl⟩
      rw [← hms] at ey
      subst ey
      have pm2 : ms.Perm (l.map (·.1)) := by
        have z := pm.map TL.tl
        rw [List.map_map, List.map_map] at z
        have e : (TL.tl ∘ S) = id := funext fun x => rfl
        rw [e, List.map_id, List.map_id] at z
        exact z
      have ndm : ms.Nodup := pm2.nodup_iff.mpr nd
      have lm : ms.length ≤ 3 := by
        have := pm2.length_eq
        rw [List.length_map] at this
        omega
      have eL : upd H3 L (.lst ((ms.map S).map V.str)) L = some (.lst ((ms.map S).map V.str)) := upd_same
      have e4 := s4 F _ e3
      have D4 := D3.up s4
      have kv4 := kv.up s4.ts
      generalize upd H3 L (.lst ((ms.map S).map V.str)) = H4 at s4 eL e4 D4 kv4
      have lL : ((ms.map S).map V.str).length = ms.length := by simp
      refine ⟨L, rfl, ⟨_, SqL.of eL⟩, fun W nW => ?_⟩
      refine lc_rel (walk_list (K := K) (a := L) (xs := (ms.map S).map V.str)) (fun j y H5 => ∃ e, IsEntry H5 y e ∧ some e.1 = ms[j]? ∧ MkE c e) (fun j y H5 H6 t => fun ⟨e, h1, h2⟩ => ⟨e, h1.up t, h2⟩) nW (by rw [lL]; exact Nat.le_trans lm (by decide)) (fun H5 s5 => SqL.of (s5 L _ eL)) ?_ ?_
      · rintro i x H5 H6 Kt Kf hi s5 ⟨rfl, ex⟩ k
        obtain ⟨m, em, rfl⟩ : ∃ m, ms[i]? = some m ∧ x = V.str (S m) := by
          rw [List.getElem?_map, List.getElem?_map] at ex
          cases e : ms[i]? with
          | none =>
            rw [e] at ex
            cases ex
          | some m =>
            rw [e] at ex
            exact ⟨m, rfl, (Option.some.inj ex).symm⟩
        have e5 := s5 F _ e4
        obtain ⟨v, hv, mv⟩ := val_mem (pm2.mem_iff.mp (List.mem_of_getElem? em))
        obtain ⟨gm, s, is, gt, gto⟩ := kv4 _ mv
        obtain ⟨b, tv, rfl, eb, it⟩ := is.up s5.ts
        refine ⟨rfl, _, rfl, zl1, fun d nd' => ?_⟩
        have s6 := Same.new nd' (o := .tup [.str (S m)])
        refine ⟨_, rfl, _, rfl, F, _, rfl, ?_, d, b, _, _, rfl, rfl, SqT.of upd_same, SqT.of (s6 b _ eb), by simp, (show 3 ≤ sizeLine by decide), (fun z => nomatch z), fun _ p np => ?_⟩
        · have g := DGet.k (k := Sum.inr (S m)) (s6 F _ e5)
          rw [pk_val, hv] at g
          exact g
        · have s7 := Same.new np (o := .tup ([.str (S m)] ++ [tv, .str (S s.2)]))
          refine k _ _ (s6.trans s7) ⟨(m, s.1, s.2), ⟨p, tv, rfl, upd_same, (it.up s6.ts).up s7.ts⟩, em.symm, ?_, gm, gto⟩
          unfold isEntry
          rw [MK_ok _ gm, gt, MK_ok _ gto]
          rfl
      · intro H5 acc s5 eW la rel
        rw [lL] at la
        obtain ⟨es, pe, ems, gs⟩ := choose_pair acc ms la rel
        refine ⟨W, acc, rfl, .inl ⟨SqL.of eW, fun d nd' => ?_⟩⟩
        have s6 := Same.new nd' (o := .tup acc)
        refine q _ (.ref d) es n' (((x3.trans (Sx.of s4)).trans (Sx.of s5)).trans (Sx.of s6)) ((D4.up s5).up s6) (by omega) ⟨d, acc, rfl, upd_same, L2.Paired.mapP pe fun _ _ y => IsEntry.up s6.ts y⟩ ?_ ?_ gs
        · unfold isProg
          rw [ems, rising_of ms ndm so, List.all_eq_true.mpr fun e he => (gs e he).1]
          rfl
        · rw [← pair_len pe, la]
          exact lm
end
end K5
/-! ### a dict whose keys are shots: made, stored to, sorted -/
namespace K5
open PySem PySem.Spec PyProof.Rows L2
def kN (t : List Nat) : NestedKey := .tup (t.map fun n : Nat => .num (n : Int))
def kS (s : Shot) : NestedKey := .tup [kN s.1, .text (S s.2)]
theorem kN_inj {a b : List Nat} (h : kN a = kN b) : a = b := by
  have z := NestedKey.tup.inj h
  clear h
  induction a generalizing b with
  | nil =>
    cases b with
    | nil => rfl
    | cons y b => cases z
  | cons x a ih =>
    cases b with
    | nil => cases z
    | cons y b =>
      rw [List.map_cons, List.map_cons] at z
      have z1 := (List.cons.inj z).1
      have z2 := ih (List.cons.inj z).2
      have z3 := NestedKey.num.inj z1
      rw [z2, show x = y by omega]
theorem kS_inj {a b : Shot} (h : kS a = kS b) : a = b := by
  have z := NestedKey.tup.inj h
  have z1 := kN_inj (List.cons.inj z).1
  have z2 := S_inj (NestedKey.text.inj (List.cons.inj (List.cons.inj z).2).1)
  exact Prod.ext z1 z2
theorem depth_nums : ∀ t : List Nat, NestedKey.depthAll (t.map fun n : Nat => .num (n : Int)) = 0
  | [] => by simp [NestedKey.depthAll]
  | a :: r => by
    show NestedKey.depthAll (.num a :: _) = 0
    rw [NestedKey.depthAll, depth_nums r]
    simp [NestedKey.depth]
theorem kS_depth (s : Shot) : (kS s).depth ≤ 8 := by
  unfold kS kN
  simp [NestedKey.depth, NestedKey.depthAll, depth_nums]
theorem nested_ints {h : Heap} : ∀ {t : List Nat} {vs : List Value}, Vals ((t.map fun n : Nat => (n : Int)).map V.int) vs → NestedAll h (t.map fun n : Nat => .num (n : Int)) vs
  | [], _, r => by
    cases r
    exact .nil
  | a :: t, _, r => by
    cases r with
    | cons r1 r2 =>
      obtain ⟨u, rfl⟩ := r1
      exact .cons (.int _ _) (nested_ints r2)
def shX (l : List (Shot × Addr)) : List (NestedKey × Addr × Value) := l.map fun p => (kS p.1, p.2, Value.bool true)
def putSh (l : List (Shot × Addr)) (s : Shot) (b : Addr) : List (Shot × Addr) := if s ∈ l.map (·.1) then l else l ++ [(s, b)]
theorem shX_at (l : List (Shot × Addr)) (s : Shot) : (atKey (shX l) (kS s)).isSome = decide (s ∈ l.map (·.1)) := by
  unfold atKey shX
  rw [Option.isSome_map, Bool.eq_iff_iff, List.find?_isSome]
  simp only [decide_eq_true_eq, List.mem_map]
  constructor
  · rintro ⟨x, ⟨p, hp, rfl⟩, e⟩
    exact ⟨p, hp, kS_inj e⟩
  · rintro ⟨p, hp, e⟩
    exact ⟨_, ⟨p, hp, rfl⟩, by rw [e]⟩
theorem shX_put (l : List (Shot × Addr)) (s : Shot) (b : Addr) : storedH (shX l) (kS s) b (.bool true) = shX (putSh l s b) := by
  unfold storedH putSh
  rw [shX_at]
  by_cases h : s ∈ l.map (·.1)
  · rw [if_pos (decide_eq_true h), if_pos h]
    unfold shX
    rw [List.map_map]
    refine List.map_congr_left fun p _ => ?_
    show putAt (kS s) (.bool true) (kS p.1, p.2, Value.bool true) = _
    unfold putAt
    split <;> rfl
  · rw [if_neg (fun z => h (of_decide_eq_true z)), if_neg h]
    unfold shX
    rw [List.map_append]
    rfl
theorem putSh_nodup {l : List (Shot × Addr)} (s : Shot) (b : Addr) (h : (l.map (·.1)).Nodup) : ((putSh l s b).map (·.1)).Nodup := by
  unfold putSh
  split
  · exact h
  · rename_i q
    rw [List.map_append]
    refine List.nodup_append.mpr ⟨h, by simp, fun x hx y hy z => ?_⟩
    have e : y = s := by simpa using hy
    exact q (by rw [← e, ← z]; exact hx)
theorem putSh_len (l : List (Shot × Addr)) (s : Shot) (b : Addr) : (putSh l s b).length ≤ l.length + 1 ∧ (putSh l s b) ≠ [] := by
  unfold putSh
  split
  · rename_i q
    exact ⟨by omega, fun z => by rw [z] at q; cases q⟩
  · exact ⟨by simp, by simp⟩
theorem putSh_mem {l : List (Shot × Addr)} {s : Shot} {b : Addr} {p : Shot × Addr} (h : p ∈ putSh l s b) : p ∈ l ∨ p = (s, b) := by
  unfold putSh at h
  split at h
  · exact .inl h
  · rcases List.mem_append.mp h with z | z
    · exact .inl z
    · exact .inr (List.mem_singleton.mp z)
/-- what is known of such a dict by itself -/
def shP (P : Program) (w : World) (d : Addr) (l : List (Shot × Addr)) (h : Heap) : Prop :=
  (d == sysModules) = false ∧ ∃ o es ep, h.get? d = some o ∧ o.ExactDict ∧ o.data = .dict es ep ∧ es.toList = (shX l).map (entryOfKey (nestedKind P w))
def ShD (P : Program) (w : World) (d : Addr) (l : List (Shot × Addr)) : HO := .ext (shP P w d l)
theorem shP_obj {P : Program} {w : World} {H : Hp} {h : Heap} {d : Addr} {l : List (Shot × Addr)} (x : shP P w d l h) : ObjOk P w H h d (ShD P w d l) := by
  refine ⟨x, ?_, fun h1 h2 ⟨q0, o, es, ep, q1, q2⟩ k => ⟨q0, o, es, ep, k _ q1, q2⟩⟩
  obtain ⟨_, o, es, ep, q1, _⟩ := x
  exact ⟨o, q1⟩
section
variable {X : Cx}
theorem shot_key {pins : List (Addr × Obj)} {σ : L2.St} {H : Hp} {s : Shared} (I : Inv X pins σ H s) {a : Addr} {t : Shot} (h : IsShot H (.ref a) t) : (nestedKind X.prog X.w).is s.heap (kS t) a := by
  obtain ⟨b, tv, eb, e, it⟩ := h
  cases eb
  obtain ⟨c, rfl, ec⟩ := it
  obtain ⟨vs, r1, ⟨o, ho, hc, n, hd⟩, _⟩ := I.tuple (SqT.of (K := X.K) e)
  obtain ⟨us, u1, ⟨o', ho', hc', n', hd'⟩, _⟩ := I.tuple (SqT.of (K := X.K) ec)
  rw [vN_map] at u1
  cases r1 with
  | cons v1 v2 =>
    cases v2 with
    | cons v2 v3 =>
      cases v3
      cases v1
      obtain ⟨tk, rfl⟩ := v2
      exact ⟨.tup ho hc hd (.cons (.tup ho' hc' hd' (nested_ints u1)) (.cons (.text _ _) .nil)), kS_depth t⟩
theorem pe_dnewSh {P : Program} {w : World} {pos : Pos} (h1 : X.prog = P) (h2 : X.w = w) : PE X (.Dict [] [] pos) (fun _ H Q => ∀ p, H p = none → Q (.ref p) (upd H p (ShD P w p []))) := by
  subst h1 h2
  refine ⟨fun pins s σ H Q I h => ?_⟩
  have hb : (s.heap.objs.size == sysModules) = false := beq_eq_false_iff_ne.mpr (Nat.ne_of_gt I.big)
  obtain ⟨o, es, ep, q1, q2, q3, q4, _⟩ := Heap.DictOfH.new (knd := nestedKind X.prog X.w) s.heap
  exact wpAny_Dict_empty ⟨.ref s.heap.objs.size, _, I.laid (t' := s.toks) (fun _ _ q => Heap.get?_push_of_some _ q) (Nat.le_refl _) (shP_obj (l := []) ⟨hb, o, es, ep, q1, q2, q3, q4⟩), rfl, h _ (I.hok.fresh (Nat.le_refl _))⟩
structure ShAt (P : Program) (w : World) (H : Hp) (d : Addr) (l : List (Shot × Addr)) : Prop where
  e : H d = some (ShD P w d l)
  s : ∀ p ∈ l, IsShot H (.ref p.2) p.1
  nd : (l.map (·.1)).Nodup
  n : l.length ≤ 1000
theorem sh_heap {pins : List (Addr × Obj)} {σ : L2.St} {H : Hp} {s : Shared} {d : Addr} {l : List (Shot × Addr)} (I : Inv X pins σ H s) (h : ShAt X.prog X.w H d l) : (d == sysModules) = false ∧ s.heap.DictOfH (nestedKind X.prog X.w) d (shX l) := by
  obtain ⟨⟨q0, o, es, ep, q1, q2, q3, q4⟩, _, _⟩ := (show ObjOk X.prog X.w H s.heap d (ShD X.prog X.w d l) from I.hok d _ h.e)
  refine ⟨q0, o, es, ep, q1, q2, q3, q4, fun x hx => ?_, ?_⟩
  · obtain ⟨p, hp, rfl⟩ := List.mem_map.mp hx
    exact shot_key I (h.s p hp)
  · have e : (shX l).map (·.1) = (l.map (·.1)).map kS := by
      unfold shX
      rw [List.map_map, List.map_map]
      rfl
    rw [e]
    exact List.Pairwise.map kS (fun a b ne z => ne (kS_inj z)) h.nd
def rSetSh (P : Program) (w : World) : V → V → V → Hp → (Hp → Prop) → Prop := fun o i v H Q => ∃ d l b s, o = .ref d ∧ i = .ref b ∧ v = .bl true ∧ ShAt P w H d l ∧ IsShot H (.ref b) s ∧ Q (upd H d (ShD P w d (putSh l s b)))
theorem set_shot {P : Program} {w : World} (h1 : X.prog = P) (h2 : X.w = w) (hu : X.A.units + 64 < cLine) : PSet X (rSetSh P w) := by
  subst h1 h2
  intro pins s σ H o i v ov iv u Q I ro ri rv h
  obtain ⟨d, l, b, t, rfl, rfl, rfl, sa, is, q⟩ := h
  cases ro
  cases ri
  cases rv
  obtain ⟨q0, dh⟩ := sh_heap I sa
  have hz : (shX l).length ≤ sizeLine := by
    unfold shX
    rw [List.length_map]
    exact Nat.le_trans sa.n (by decide)
  refine wpAny_setItem_heap (hsz := hz) (show X.A.units + 1 + 8 < cLine by omega) (shot_key I is) dh fun h' dd hs => ?_
  rw [shX_put] at dd
  obtain ⟨o, es, ep, k1, k2, k3, k4, _⟩ := dd
  exact ⟨_, d_write I (by rw [sa.e]; exact True.intro) hs ⟨o, k1⟩ (shP_obj ⟨q0, o, es, ep, k1, k2, k3, k4⟩), q⟩
/-! as data -/
def dShot (s : Shot) : PyData := .tuple [dTurn s.1, .str (S s.2)]
theorem shot_reads {pins : List (Addr × Obj)} {σ : L2.St} {H : Hp} {s : Shared} (I : Inv X pins σ H s) {v : V} {u : Value} {t : Shot} (h : IsShot H v t) (r : RelV v u) : ∃ as, Reads s.heap u (dShot t) as := by
  obtain ⟨b, tv, rfl, e, it⟩ := h
  exact Dp.reads I _ _ _ (.tup (SqT.of (K := X.K) e) (.cons (dp_turn it) (.cons (.str _) .nil))) r
theorem alike_turn (a b : List Nat) : PySem.W.alike (dTurn a) (dTurn b) = true := by
  unfold dTurn
  simp only [PySem.W.alike]
  exact PySem.W.alike_ints _ _
theorem alike_shot (a b : Shot) : PySem.W.alike (dShot a) (dShot b) = true := by
  unfold dShot
  simp only [PySem.W.alike, PySem.W.alikeAll, alike_turn, Bool.and_self]
theorem lt_turn (a b : List Nat) : PySem.W.dataLt (dTurn a) (dTurn b) = decide (a < b) := by
  unfold dTurn
  refine (PySem.W.dataLt_tuple _ _).trans ((PySem.W.dataLt_ints _ _).trans ?_)
  rw [decide_eq_decide]
  induction a generalizing b with
  | nil =>
    cases b with
    | nil => simp
    | cons y b => simp
  | cons x a ih =>
    cases b with
    | nil => simp
    | cons y b =>
      rw [List.map_cons, List.map_cons, List.cons_lt_cons_iff, List.cons_lt_cons_iff, ih]
      constructor
      · rintro (h | ⟨h1, h2⟩)
        · exact .inl (by omega)
        · exact .inr ⟨by omega, h2⟩
      · rintro (h | ⟨h1, h2⟩)
        · exact .inl (by omega)
        · exact .inr ⟨by omega, h2⟩
theorem lt_shot (a b : Shot) : PySem.W.dataLt (dShot a) (dShot b) = if a.1 = b.1 then decide (a.2 < b.2) else decide (a.1 < b.1) := by
  unfold dShot
  rw [PySem.W.dataLt_pair (alike_turn _ _) (by simp [PySem.W.alike]), lt_turn, PySem.W.dataLt_str]
  have e1 : PyData.eqv (dTurn a.1) (dTurn b.1) = decide (a.1 = b.1) := eqv_turns _ _
  rw [e1]
  by_cases h : a.1 = b.1
  · rw [if_pos (decide_eq_true h), if_pos h]
    by_cases h2 : a.2 = b.2
    · have nl : ¬ a.2 < b.2 := by
        rw [h2]
        exact List.lt_irrefl _
      rw [decide_eq_false nl, h2]
      simp [PyData.eqv]
    · have e2 : PyData.eqv (.str (S a.2)) (.str (S b.2)) = false := by
        simp only [PyData.eqv, beq_eq_false_iff_ne]
        exact fun z => h2 (S_inj z)
      rw [e2]
      rfl
  · rw [if_neg (fun z => h (of_decide_eq_true z)), if_neg h]
/-- in order, and not twice: each is behind the one ahead of it -/
theorem shotLe_of {a b : Shot} (h : PySem.W.dataLe false dShot a b = true) (ne : a ≠ b) : shotLe b a = false := by
  have h' : (!PySem.W.dataLt (dShot b) (dShot a)) = true := h
  rw [lt_shot] at h'
  unfold shotLe
  by_cases e : b.1 = a.1
  · rw [if_pos e] at h' ⊢
    have e2 : a.2 ≠ b.2 := fun z => ne (Prod.ext e.symm z)
    have nl : ¬ b.2 < a.2 := by simpa using h'
    rcases lists_tri a.2 b.2 with z | z | z
    · simp [z]
    · exact absurd z e2
    · exact absurd z nl
  · rw [if_neg e] at h' ⊢
    simpa using h'
theorem badShot_sorted {c : Nat} : ∀ (l : List Shot) (k : Nat) (p : Option Shot), (∀ s ∈ l, isShot c s = true) → l.Pairwise (fun a b => shotLe b a = false) → (∀ q, p = some q → ∀ s ∈ l, shotLe s q = false) → badShot c k p l = none
  | [], _, _, _, _, _ => by simp [badShot]
  | a :: r, k, p, h1, h2, h3 => by
    have ih := badShot_sorted r (k + 1) (some a) (fun s hs => h1 s (List.mem_cons_of_mem _ hs)) (List.pairwise_cons.mp h2).2 (fun q e s hs => by
      cases e
      exact (List.pairwise_cons.mp h2).1 s hs)
    have a1 := h1 a (List.mem_cons_self ..)
    cases p with
    | none =>
      show (if (isShot c a && !false) = true then badShot c (k + 1) (some a) r else some k) = none
      rw [a1, if_pos (by rfl)]
      exact ih
    | some q =>
      have a3 := h3 q rfl a (List.mem_cons_self ..)
      show (if (isShot c a && !(shotLe a q)) = true then badShot c (k + 1) (some a) r else some k) = none
      rw [a1, a3, if_pos (by rfl)]
      exact ih
theorem each_vals {R : Value → Shot → Prop} : ∀ {us : List Value} {bs : List Shot}, PySem.W.EachIs R us bs → (∀ u b, R u b → ∃ a, u = .ref a) → ∃ as : List Addr, us = as.map Value.ref ∧ Paired (fun a b => R (.ref a) b) as bs
  | _, _, .nil, _ => ⟨[], rfl, .nil⟩
  | _, _, .cons h t, k => by
    obtain ⟨as, e, p⟩ := each_vals t k
    obtain ⟨a, rfl⟩ := k _ _ h
    exact ⟨a :: as, by rw [e]; rfl, .cons h p⟩
theorem vals_refs : ∀ as : List Addr, Vals (as.map V.ref) (as.map Value.ref)
  | [] => .nil
  | a :: as => .cons rfl (vals_refs as)
/-- sorted(d) -/
def rSortedSh (P : Program) (w : World) : List V → Hp → VK → Prop := fun xs H Q => ∃ (d : Addr) (l : List (Shot × Addr)), xs = [.ref d] ∧ ShAt P w H d l ∧
  ∀ (bs : List Shot) (vs : List V) (p : Addr), Paired (IsShot H) vs bs → bs.Perm (l.map (·.1)) → bs.Pairwise (fun a b => shotLe b a = false) → H p = none → Q (.ref p) (upd H p (.lst vs))
theorem cr_sortedSh {P : Program} {w : World} (h1 : X.prog = P) (h2 : X.w = w) (hcalm : X.calm = true) (hu : X.A.units + 64 < cLine) : CallR X (.builtin "sorted") (rSortedSh P w) := by
  subst h1 h2
  intro pins s σ H xs us Q I r q
  obtain ⟨d, l, rfl, sa, q⟩ := q
  obtain ⟨u, rfl, rx⟩ := vals1 r
  cases rx
  obtain ⟨lo, dh⟩ := sh_heap I sa
  obtain ⟨es, ep, raw, hes, hkey⟩ := dh.raw
  have hlen : (shX l).length = l.length := List.length_map _
  have hz : es.size ≤ sizeLine := by
    rw [hes, hlen]
    exact Nat.le_trans sa.n (by decide)
  refine Calls.call_function_entry kind_sorted plain_sorted entry_sorted (args_sorted1 _) (?_ : wpAny _ _ (Builtin.«sorted» _) _ _ _)
  unfold Builtin.«sorted»
  refine wpAny_bind (m := checkCount "sorted" 1 1 _) (wpAny_pure (wpAny_bind (PySem.W.kdu_collect (A := X.A.in1) (KdlSrc.rawDict lo) (I.ok.hd hcalm) raw hz fun h' tk acc hk hacc => ?_)))
  have I1 : Inv X pins σ H { s with heap := h', toks := tk } := I.kept hk
  have ea : acc.toList = (l.map (·.2)).map Value.ref := by
    refine List.ext_getElem (by rw [Array.length_toList, hacc.1, hes, hlen, List.length_map, List.length_map]) fun j k1 k2 => ?_
    have kj : j < es.size := by
      rw [Array.length_toList, hacc.1] at k1
      exact k1
    obtain ⟨hi, ev⟩ := hacc.2 j acc.toList[j] (by rw [← Array.getElem?_toList, List.getElem?_eq_getElem k1])
    obtain ⟨y, hy, e1, _⟩ := hkey j hi
    rw [ev, e1]
    unfold shX at hy
    have kl : j < l.length := by
      rw [hes, hlen] at kj
      exact kj
    rw [List.getElem?_map, List.getElem?_eq_getElem kl] at hy
    cases hy
    simp
  have la : acc.toList.length ≤ sizeLine := by
    rw [Array.length_toList, hacc.1]
    exact hz
  refine wpAny_bind (wpAny_newList ?_ la)
  have hoL : (h'.push (seqObj "list" acc.toList.toArray 0)).get? h'.objs.size = some (seqObj "list" acc.toList.toArray 0) := Heap.get?_push_size _ rfl
  show wpAny _ _ _ _ _ { s with heap := h'.push (seqObj "list" acc.toList.toArray 0), toks := tk }
  have pair0 : ∀ (l : List (Shot × Addr)), (∀ p ∈ l, IsShot H (.ref p.2) p.1) → PySem.W.EachIs (fun u b => ∃ a, u = Value.ref a ∧ IsShot H (.ref a) b) ((l.map (·.2)).map Value.ref) (l.map (·.1)) := fun l => by
    induction l with
    | nil => exact fun _ => .nil
    | cons p r ih => exact fun h => .cons ⟨p.2, rfl, h p (List.mem_cons_self ..)⟩ (ih fun x hx => h x (List.mem_cons_of_mem _ hx))
  have e0 := pair0 l sa.s
  have er : PySem.W.EachIs (fun u b => ∃ as, Reads (h'.push (seqObj "list" acc.toList.toArray 0)) u (dShot b) as ∧ h'.objs.size ∉ as) ((l.map (·.2)).map Value.ref) (l.map (·.1)) := e0.mono fun u b ⟨a, eu, ia⟩ => by
    obtain ⟨as, ra⟩ := shot_reads I1 (u := u) ia (by rw [eu]; exact rfl)
    refine ⟨as, PyProof.Rows.Reads.keeps (fun _ _ z => Heap.get?_push_of_some _ z) ra, fun hm => ?_⟩
    obtain ⟨o, ho⟩ := PyProof.On.reads_mem_get ra _ hm
    exact absurd (Heap.lt_size ho) (Nat.lt_irrefl _)
  have dep : ∀ b : Shot, (dShot b).depth ≤ 8 := fun b => by
    unfold dShot dTurn
    simp only [PyData.depth, PyData.depthAll, PySem.W.depth_ints]
    decide
  rw [ea] at hoL la er ⊢
  refine wpAny_bind (wpAny_holding (PySem.W.list_sort_data (s := { s with heap := h'.push (seqObj "list" ((l.map (·.2)).map Value.ref).toArray 0), toks := tk }) (enc := dShot) hoL e0 er (PySem.W.AllAlike.of alike_shot) (PySem.W.Sortable.tuples fun b => ⟨_, _, rfl⟩)
    (by rw [List.length_map]; exact Nat.le_trans sa.n (by decide)) (fun b _ => by have := dep b; show X.A.units + 1 + 1 + (dShot b).depth < cLine; omega) fun out ho eo => wpAny_pure ⟨_, rfl, ?_⟩))
  obtain ⟨as, eas, pas⟩ := each_vals eo fun u b ⟨a, h, _⟩ => ⟨a, h⟩
  obtain ⟨e', he'⟩ := sortedHeap_at (vs := (l.map (·.2)).map Value.ref) (out := out.toArray) hoL
  have lo' : (as.map V.ref).length ≤ sizeLine := by
    have z := congrArg List.length eas
    rw [List.length_map] at z ⊢
    rw [← z, ho, List.length_map]
    exact Nat.le_trans sa.n (by decide)
  refine ⟨.ref h'.objs.size, upd H h'.objs.size (.lst (as.map V.ref)), I1.laid (t' := tk) (fun b u e => ?_) (Nat.le_refl _)
    (show ObjOk X.prog X.w _ _ _ (.lst (as.map V.ref)) from ⟨lo', out, e', by rw [eas]; exact vals_refs as, he'⟩), rfl, q ((l.map (·.1)).mergeSort (PySem.W.dataLe false dShot)) (as.map V.ref) _ ?_ (List.mergeSort_perm _ _) ?_ (I1.hok.fresh (Nat.le_refl _))⟩
  · have hb : b < h'.objs.size := Heap.lt_size e
    exact (sortedHeap_old (Nat.ne_of_lt hb) (by rw [size_push']; exact Nat.lt_succ_of_lt hb)).trans (Heap.get?_push_of_some _ e)
  · have mk : ∀ {as : List Addr} {bs : List Shot}, Paired (fun a b => ∃ a', Value.ref a = Value.ref a' ∧ IsShot H (.ref a') b) as bs → Paired (IsShot H) (as.map V.ref) bs := fun {as bs} p => by
      induction p with
      | nil => exact .nil
      | cons h _ ih =>
        obtain ⟨a', e1, e2⟩ := h
        cases e1
        exact .cons e2 ih
    exact mk pas
  · have tot := PySem.W.sortLe_total (α := Shot) (PyProof.Rows.listOrd PyProof.Rows.itemOrd) false (fun b => PySem.W.keyToks (dShot b))
    have pw := PySem.W.sort_pairwise tot (l.map (·.1))
    have nd : ((l.map (·.1)).mergeSort (PySem.W.dataLe false dShot)).Nodup := (List.mergeSort_perm _ _).nodup_iff.mpr sa.nd
    exact (pw.and nd).imp fun {a b} h => shotLe_of h.1 h.2
end
end K5
/-! ### lots, drawn -/
namespace K5
open PySem PySem.Spec PyProof.Rows L2
theorem nodup_le : ∀ (l k : List (List Nat)), l.Nodup → (∀ m ∈ l, m ∈ k) → l.length ≤ k.length
  | [], _, _, _ => Nat.zero_le _
  | a :: r, k, nd, h => by
    have ha := h a (List.mem_cons_self ..)
    have ih := nodup_le r (k.erase a) (List.nodup_cons.mp nd).2 fun m hm => by
      have ne : m ≠ a := fun z => (List.nodup_cons.mp nd).1 (z ▸ hm)
      exact (List.mem_erase_of_ne ne).mpr (h m (List.mem_cons_of_mem _ hm))
    rw [List.length_erase_of_mem ha] at ih
    have := List.length_pos_of_mem ha
    simp only [List.length_cons]
    omega
theorem fold_nodup : ∀ (es l : List (List Nat)), l.Nodup → (∀ m ∈ l, m ∈ MK) → (∀ m ∈ es, m ∈ MK) → (es.foldl addM l).Nodup ∧ ∀ m ∈ es.foldl addM l, m ∈ MK
  | [], l, h1, h2, _ => ⟨h1, h2⟩
  | e :: es, l, h1, h2, h3 => by
    refine fold_nodup es (addM l e) (addM_nodup e h1) (fun m hm => ?_) fun m hm => h3 m (List.mem_cons_of_mem _ hm)
    unfold addM at hm
    split at hm
    · exact h2 m hm
    · rcases List.mem_append.mp hm with z | z
      · exact h2 m z
      · rw [List.mem_singleton.mp z]
        exact h3 e (List.mem_cons_self ..)
theorem marks_small {x : Lot} (h1 : ∀ s ∈ x.shots, s.2 ∈ MK) (h2 : ∀ p ∈ x.progs, ∀ e ∈ p, e.1 ∈ MK ∧ e.2.2 ∈ MK) : (marksOf x).length ≤ 9 := by
  unfold marksOf
  have e : x.shots.foldl (fun l s => addM l s.2) [] = (x.shots.map (·.2)).foldl addM [] := by
    rw [List.foldl_map]
  rw [e]
  obtain ⟨a1, a2⟩ := fold_nodup (x.shots.map (·.2)) [] List.nodup_nil (fun _ h => nomatch h) fun m hm => by
    obtain ⟨s, hs, rfl⟩ := List.mem_map.mp hm
    exact h1 s hs
  obtain ⟨b1, b2⟩ := fold_nodup (x.progs.flatMap fun p => p.flatMap fun e => [e.1, e.2.2]) _ a1 a2 fun m hm => by
    obtain ⟨p, hp, hm⟩ := List.mem_flatMap.mp hm
    obtain ⟨e, he, hm⟩ := List.mem_flatMap.mp hm
    rcases List.mem_cons.mp hm with z | z
    · rw [z]
      exact (h2 p hp e he).1
    · rw [List.mem_singleton.mp z]
      exact (h2 p hp e he).2
  exact Nat.le_trans (nodup_le _ _ b1 b2) (by decide)
/-- a lot that the law draws -/
structure Drawn (x : Lot) : Prop where
  ok : notLot x = none
  s : x.shots.length ≤ 2
  p : x.progs.length ≤ 4
  e : ∀ p ∈ x.progs, p.length ≤ 3
theorem drawn_of {c : Nat} {bs : List Shot} {ps : List (List Entry)} (c1 : 2 ≤ c) (c2 : c ≤ 6) (b1 : 1 ≤ bs.length) (b2 : bs.length ≤ 2) (hs : ∀ s ∈ bs, isTurn c s.1 = true ∧ s.2 ∈ MK) (so : bs.Pairwise (fun a b => shotLe b a = false))
    (p1 : ps.length ≤ 4) (hp : ∀ p ∈ ps, isProg c p = true ∧ p.length ≤ 3 ∧ ∀ e ∈ p, MkE c e) : Drawn ⟨c, bs, ps⟩ := by
  refine ⟨?_, b2, p1, fun p h => (hp p h).2.1⟩
  have n1 : notShots c bs = none := by
    unfold notShots
    rw [if_neg (by omega), badShot_sorted bs 0 none (fun s h => by unfold isShot; rw [(hs s h).1, MK_ok _ (hs s h).2]; rfl) so (fun _ h => nomatch h)]
    rfl
  have n2 : notProgs c ps = none := by
    unfold notProgs
    have bp : ∀ (l : List (List Entry)) (k : Nat), (∀ p ∈ l, isProg c p = true) → badProg c k l = none := fun l => by
      induction l with
      | nil => exact fun _ _ => rfl
      | cons a r ih =>
        intro k h
        show (if isProg c a = true then badProg c (k + 1) r else some k) = none
        rw [if_pos (h a (List.mem_cons_self ..))]
        exact ih (k + 1) fun p hp => h p (List.mem_cons_of_mem _ hp)
    rw [if_neg (by omega), bp ps 0 fun p h => (hp p h).1]
    rfl
  have n3 := marks_small (x := ⟨c, bs, ps⟩) (fun s h => (hs s h).2) fun p h e he => ((hp p h).2.2 e he).2
  show (if ¬ (2 ≤ c ∧ c ≤ 6) then _ else match notShots c bs with | some k => _ | none => match notProgs c ps with | some k => _ | none => if (marksOf ⟨c, bs, ps⟩).length > 9 then _ else _) = none
  rw [if_neg (by omega), n1, n2]
  show (if (marksOf ⟨c, bs, ps⟩).length > 9 then _ else _) = none
  rw [if_neg (by omega)]
theorem drawn_small {x : Lot} (d : Drawn x) : SmallL x := by
  have g := notLot_good d.ok
  have h1 := d.s
  have h2 := d.p
  have fl : ∀ l : List (List Entry), (∀ p ∈ l, p.length ≤ 3) → l.flatten.length ≤ l.length * 3 := fun l => by
    induction l with
    | nil => exact fun _ => Nat.le_refl _
    | cons a r ih =>
      intro h
      have z1 := h a (List.mem_cons_self ..)
      have z2 := ih fun p hp => h p (List.mem_cons_of_mem _ hp)
      simp only [List.flatten_cons, List.length_append, List.length_cons]
      omega
  have fz := fl x.progs d.e
  refine ⟨show _ ≤ 100000 by omega, fun s hs => ?_, show _ ≤ 100000 by omega, fun p hp => ⟨Nat.le_trans (d.e p hp) (by decide), fun e he => ?_⟩, show _ ≤ 100000 by omega⟩
  · obtain ⟨a, b⟩ := g.s s hs
    exact ⟨Nat.le_trans a.le (by decide), Nat.le_trans b.le (by decide)⟩
  · have q := g.p p hp e he
    exact ⟨Nat.le_trans q.m.le (by decide), Nat.le_trans q.t.le (by decide), Nat.le_trans q.to.le (by decide)⟩
theorem Sx.free {z : StA} {H H1 : Hp} {n : Nat} {b : Addr} (s : Sx z H H1) (D : Dr z H1 n) (e : H1 b = none) : H b = none := by
  obtain ⟨b1, b2⟩ := D.new e
  cases q : H b with
  | none => rfl
  | some u =>
    rw [s b u b1 b2 q] at e
    cases e
theorem ShAt.up {P : Program} {w : World} {H H' : Hp} {d : Addr} {l : List (Shot × Addr)} (h : ShAt P w H d l) (e : H' d = some (ShD P w d l)) (t : TupS H H') : ShAt P w H' d l := ⟨e, fun p hp => (h.s p hp).up t, h.nd, h.n⟩
section
variable {P : Program} {w : World} {K : PySem.W.Frag} {mg : Str → Option Value} {base : Heap}
def sp__law_lot : Sp := fun vs H Q _ => ∃ (z : StA) (n : Nat), vs = [.ref z.d, .int 4] ∧ Dr z H n ∧ n ≤ 80000 ∧ ∀ H' v x n', Sx z H H' → Dr z H' n' → n' ≤ n + 140 → IsLot H' v x → Drawn x → Q v H'
theorem g__law_lot (T : Txt P w K mg base) : Gd P w K mg base 5 "_law_lot" ["_law_state", "_law_most"] (sp__law_lot) := by
  refine gd_of (d := d__law_lot) T (by decide +kernel) (by simp [fn]) rfl (fun _ _ _ _ _ _ us hl => match us, hl with | [_, _], _ => rfl) fun fd F => F.ok sc__law_lot (fun vs H Q E h => ?_) fun cdv A outer s H vs Q E hr h => ?_
  · obtain ⟨z, n, rfl, D, hn, q⟩ := h
    rfl
  · obtain ⟨z, n, rfl, D, hn, q⟩ := h
    refine ⟨_, (pss_cons (ps_asg (pe_tup (pa_cons (pe_ix ix_list (pe_lst (pa_cons pe_int (pa_cons pe_int (pa_cons pe_int (pa_cons pe_int pa_nil))))) (pe_g (g__law_draw T) (hr.mono (by decide)) rfl passL (pa_cons (pv 0) (pa_cons pe_int pa_nil))) (fun _ _ => rfl)) (pa_cons (pe_dnewSh (P := P) (w := w) rfl rfl) pa_nil))) (pg_tup rfl (pgs_cons (pg_name (i := 2) sc__law_lot.nd rfl (.inr rfl)) (pgs_cons (pg_name (i := 3) sc__law_lot.nd rfl (.inl rfl)) pgs_nil))))
      (pss_cons (ps_for passO rfl (pi_range1 rfl (T.free "range" (by decide +kernel)) (pa_cons (pe_op op_add pe_int (pe_g (g__law_draw T) (hr.mono (by decide)) rfl passL (pa_cons (pv 0) (pa_cons pe_int pa_nil)))) pa_nil)) (pg_name (i := 4) sc__law_lot.nd rfl (.inl rfl)) (pss_one (ps_asg pe_bl (pg_sub (pv 3) (pe_tup (pa_cons (pe_g (g__law_turn T) (hr.mono (by decide)) rfl passL (pa_cons (pv 0) (pa_cons (pv 2) pa_nil))) (pa_cons (pe_g (g__law_mark T) (hr.mono (by decide)) rfl passL (pa_cons (pv 0) pa_nil)) pa_nil))) (set_shot (P := P) (w := w) rfl rfl hr.units)))))
      (pss_cons (ps_setLc (i := 5) (own := [("_law_k", 4)]) (g := gName 4) (tt := tYes) rfl sc__law_lot.nd rfl rfl (sw_true rfl rfl rfl (by decide +kernel)) (pi_range1 rfl (T.free "range" (by decide +kernel)) (pa_cons (pe_g (g__law_draw T) (hr.mono (by decide)) rfl passL (pa_cons (pv 0) (pa_cons (pe_op op_add (pv 1) pe_int) pa_nil))) pa_nil)) (blkOk_by (N := n__law_lot) (sc := defScope s__law_lot) (by decide +kernel)) (fun _ _ _ _ _ => pg_name (i := 4) sc__law_lot.nd rfl (.inl rfl)) (fun _ _ _ _ _ => pts_nil) (fun _ _ _ _ _ => (pe_g (g__law_program T) (hr.mono (by decide)) rfl passL (pa_cons (pv 0) (pa_cons (pv 2) pa_nil)))))
      (pss_one (ps_ret (pe_tup (pa_cons (pv 2) (pa_cons (pe_callTy call_tuple_of rfl (T.free "tuple" (by decide +kernel)) boot_tuple (pa_cons (pe_callB (cr_sortedSh (P := P) (w := w) rfl rfl rfl hr.units) rfl (T.free "sorted" (by decide +kernel)) boot_sorted (pa_cons (pv 3) pa_nil)) pa_nil)) (pa_cons (pe_callTy call_tuple_of rfl (T.free "tuple" (by decide +kernel)) boot_tuple (pa_cons (pv 5) pa_nil)) pa_nil))))))))), ?_⟩
    refine ⟨show 4 ≤ sizeLine by decide, fun a na => ?_⟩
    obtain ⟨a1, a2⟩ := D.new na
    have s0 := Same.new na (o := .lst (vN [2, 3, 3, 4]))
    refine ⟨_, rfl, z, n, 4, rfl, by decide, by decide, D.up s0, by omega, fun H1 r s1 D1 hr4 => ?_⟩
    have e1 : H1 a = some (.lst (vN [2, 3, 3, 4])) := s1 a _ a1 a2 upd_same
    have x1 : Sx z H H1 := (Sx.of s0).trans s1
    obtain ⟨c, ec, c1, c2⟩ : ∃ c, [2, 3, 3, 4][r]? = some c ∧ 2 ≤ c ∧ c ≤ 6 := by
      match r, hr4 with
      | 0, _ => exact ⟨_, rfl, by decide, by decide⟩
      | 1, _ => exact ⟨_, rfl, by decide, by decide⟩
      | 2, _ => exact ⟨_, rfl, by decide, by decide⟩
      | 3, _ => exact ⟨_, rfl, by decide, by decide⟩
    refine ⟨a, vN [2, 3, 3, 4], _, .int (c : Nat), rfl, rfl, SqL.of e1, atI_nat (j := r) (by unfold vN; rw [List.getElem?_map, ec]; rfl), fun F nF => ?_⟩
    have x2 : Sx z H (upd H1 F (ShD P w F [])) := x1.put (x1.free D1 nF)
    obtain ⟨F1, F2⟩ := D1.new nF
    have F3 := D1.nc nF
    have nF0 := x1.free D1 nF
    refine ⟨zl2, fun b nb => ?_⟩
    have s3 := Same.new nb (o := .tup [.int (c : Nat), .ref F])
    have eF : upd (upd H1 F (ShD P w F [])) b (.tup [.int (c : Nat), .ref F]) F = some (ShD P w F []) := s3 F _ upd_same
    have D3 : Dr z (upd (upd H1 F (ShD P w F [])) b (.tup [.int (c : Nat), .ref F])) (n + 1) := (D1.put F1 F2 F3).up s3
    have x3 := x2.trans (Sx.of s3)
    have eb : upd (upd H1 F (ShD P w F [])) b (.tup [.int (c : Nat), .ref F]) b = some (.tup [.int (c : Nat), .ref F]) := upd_same
    generalize upd (upd H1 F (ShD P w F [])) b (.tup [.int (c : Nat), .ref F]) = H3 at eF D3 x3 eb
    refine ⟨b, _, rfl, SqT.of eb, rfl, _, _, rfl, _, _, rfl, rfl, ?_⟩
    refine ⟨_, rfl, z, n + 1, 2, rfl, by decide, by decide, D3, by omega, fun H4 r2 s4 D4 hr2 => ?_⟩
    refine ⟨_, _, rfl, rfl, _, rfl, by omega, by omega, ?_⟩
    refine for_range (lo := 0) (n := ((1 : Int) + (r2 : Int)).toNat) (fun i σ H5 => ∃ y n' l, σ = [some (.ref z.d), some (.int 4), some (.int (c : Nat)), some (.ref F), y, none] ∧ Sx z H H5 ∧ Dr z H5 n' ∧ n' ≤ n + 2 + 8 * i ∧ ShAt P w H5 F l ∧ l.length ≤ i ∧ (0 < i → l ≠ []) ∧ ∀ p ∈ l, isTurn c p.1.1 = true ∧ p.1.2 ∈ MK)
      ⟨_, _, [], rfl, x3.trans s4, D4, by omega, ⟨s4 F _ F1 F2 eF, fun _ h => (nomatch h), List.nodup_nil, by simp⟩, Nat.le_refl _, fun h => absurd h (by omega), fun _ h => (nomatch h)⟩ ?_ ?_
    · rintro i σ H5 hi ⟨y, n', l, rfl, x5, D5, hn5, sa, ll, ne, ok⟩
      have hi2 : i < 2 := by omega
      refine ⟨_, rfl, _, rfl, _, rfl, z, n', c, rfl, c1, c2, D5, by omega, fun H6 v t n6 s6 D6 hn6 it gt => ?_⟩
      have t6 := D5.ts s6
      have sa6 := sa.up (s6 F _ F1 F2 sa.e) t6
      refine ⟨_, rfl, z, n6, rfl, D6, by omega, fun H7 m s7 D7 gm => ?_⟩
      have t7 := D6.ts s7
      have sa7 := sa6.up (s7 F _ F1 F2 sa6.e) t7
      refine ⟨zl2, fun d nd => ?_⟩
      have s8 := Same.new nd (o := .tup [v, .str (S m)])
      have sa8 := sa7.up (s8 F _ sa7.e) s8.ts
      have D8 := D7.up s8
      have sh : IsShot (upd H7 d (.tup [v, .str (S m)])) (.ref d) (t, m) := ⟨d, v, rfl, upd_same, (it.up t7).up s8.ts⟩
      have x8 : Sx z H (upd H7 d (.tup [v, .str (S m)])) := ((x5.trans s6).trans s7).trans (Sx.of s8)
      generalize upd H7 d (.tup [v, .str (S m)]) = H8 at s8 sa8 D8 sh x8
      refine ⟨F, l, d, (t, m), rfl, rfl, rfl, sa8, sh, ?_⟩
      have up : TupS H8 (upd H8 F (ShD P w F (putSh l (t, m) d))) := TupS.put fun xs q => by
        rw [sa8.e] at q
        cases q
      obtain ⟨p1, p2⟩ := putSh_len l (t, m) d
      refine ⟨_, n6 + 1, putSh l (t, m) d, rfl, x8.put nF0, D8.put F1 F2 F3, by omega, ⟨upd_same, fun p hp => ?_, putSh_nodup _ _ sa8.nd, by omega⟩, by omega, fun _ => p2, fun p hp => ?_⟩
      · rcases putSh_mem hp with q | q
        · exact (sa8.s p q).up up
        · rw [q]
          exact sh.up up
      · rcases putSh_mem hp with q | q
        · exact ok p q
        · rw [q]
          exact ⟨gt, gm⟩
    · rintro σ H5 ⟨y, n', l, rfl, x5, D5, hn5, sa, ll, ne, ok⟩
      have l1 : l ≠ [] := ne (by omega)
      have l2 : l.length ≤ 2 := by omega
      refine ⟨_, rfl, _, rfl, _, _, rfl, rfl, z, n', 5, rfl, by decide, by decide, D5, by omega, fun H6 r3 s6 D6 hr3 => ?_⟩
      have sa6 := sa.up (s6 F _ F1 F2 sa.e) (D5.ts s6)
      refine ⟨_, rfl, by omega, by omega, fun W nW => ?_⟩
      obtain ⟨W1, W2⟩ := D6.new nW
      have W3 := D6.nc nW
      refine lc_it (walk_range (lo := 0) (n := r3)) (fun i H7 => ∃ n7 acc ps, Sx z H6 H7 ∧ Dr z H7 n7 ∧ n7 ≤ n' + 1 + 28 * i ∧ H7 W = some (.lst acc) ∧ acc.length = i ∧ Paired (IsProg H7) acc ps ∧ ∀ p ∈ ps, isProg c p = true ∧ p.length ≤ 3 ∧ ∀ e ∈ p, MkE c e)
        ⟨_, [], [], (Sx.refl z H6).put nW, D6.put W1 W2 W3, Nat.le_refl _, upd_same, rfl, .nil, fun _ h => (nomatch h)⟩ (fun _ _ _ _ => trivial) ?_ ?_
      · rintro i x H7 H8 hi ⟨n7, acc, ps, x7, D7, hn7, eW, la, pp, gs⟩ ⟨rfl, rfl⟩
        refine ⟨rfl, _, rfl, _, rfl, z, n7, c, rfl, c1, c2, D7, by omega, fun H9 v p n9 s9 D9 hn9 ip gp lp mp => ?_⟩
        have eW9 := s9 W _ W1 W2 eW
        have up : TupS H9 (upd H9 W (.lst (acc ++ [v]))) := TupS.lst eW9
        refine ⟨acc, eW9, szl (show _ ≤ 100000 by omega), n9, acc ++ [v], ps ++ [p], (x7.trans s9).put nW, D9.put W1 W2 W3, by omega, upd_same, by simp [la], pair_snoc (L2.Paired.mapP pp fun _ _ q => (IsProg.up (D7.ts s9) q).up up) (ip.up up), fun q hq => ?_⟩
        rcases List.mem_append.mp hq with k | k
        · exact gs q k
        · rw [List.mem_singleton.mp k]
          exact ⟨gp, lp, mp⟩
      · rintro H7 ⟨n7, acc, ps, x7, D7, hn7, eW, la, pp, gs⟩
        have sa7 := sa6.up (x7 F _ F1 F2 sa6.e) (D6.ts x7)
        refine ⟨_, rfl, _, rfl, F, l, rfl, sa7, fun bs vs p pe pm so np => ?_⟩
        have s8 := Same.new np (o := .lst vs)
        refine ⟨p, vs, rfl, .inl ⟨SqL.of upd_same, fun g ng => ?_⟩⟩
        have s9 := Same.new ng (o := .tup vs)
        have eW9 := s9 W _ (s8 W _ eW)
        refine ⟨_, rfl, W, acc, rfl, .inl ⟨SqL.of eW9, fun u nu => ⟨zl3, fun f nf => ?_⟩⟩⟩
        have s10 := Same.new nu (o := .tup acc)
        have s11 := Same.new nf (o := .tup [.int (c : Nat), .ref g, .ref u])
        have sall := ((s8.trans s9).trans s10).trans s11
        have lb : bs.length = l.length := by
          rw [pm.length_eq, List.length_map]
        have lp : ps.length = r3 := by
          rw [← pair_len pp, la]
        have l0 : 0 < l.length := List.length_pos_iff.mpr l1
        refine q _ (.ref f) ⟨c, bs, ps⟩ n7 (((x5.trans s6).trans x7).trans (Sx.of sall)) (D7.up sall) (by omega) ⟨f, g, u, vs, acc, rfl, upd_same, (s10.trans s11) g _ upd_same, L2.Paired.mapP pe fun _ _ h => IsShot.up sall.ts h, s11 u _ upd_same, L2.Paired.mapP pp fun _ _ h => IsProg.up sall.ts h⟩ ?_
        refine drawn_of c1 c2 (by omega) (by omega) (fun s hs => ?_) so (by omega) gs
        obtain ⟨x, hx, rfl⟩ := List.mem_map.mp (pm.mem_iff.mp hs)
        exact ok x hx
end
end K5
/-! ### the forms that the law writes -/
namespace K5
open PySem PySem.Spec PyProof.Rows L2
theorem fig_sign {c : Nat} (h : c < 10) : FIG[c]? = some (c + 48) := by
  have : c = 0 ∨ c = 1 ∨ c = 2 ∨ c = 3 ∨ c = 4 ∨ c = 5 ∨ c = 6 ∨ c = 7 ∨ c = 8 ∨ c = 9 := by omega
  rcases this with h | h | h | h | h | h | h | h | h | h <;> subst h <;> rfl
theorem lenA (x y : Str) : (x ++ y).length = x.length + y.length := by
  rw [TL.len_tl, TL.tl_append, List.length_append, ← TL.len_tl, ← TL.len_tl]
theorem o_shot : Str.ofString "shot " = S wSHOT := by decide
theorem o_blank : Str.ofString " " = S [32] := by decide
theorem o_prog : Str.ofString "program" = S wPROG := by decide
theorem o_nl : Str.ofString "\n" = S [10] := by decide
section
variable {P : Program} {w : World} {K : PySem.W.Frag} {mg : Str → Option Value} {base : Heap}
def sp__law_turn_text : Sp := fun vs H Q _ => ∃ (v : V) (t : List Nat), vs = [v] ∧ IsTurn H v t ∧ t.length ≤ BIG ∧ (∀ c ∈ t, c < 10) ∧ ∀ H', Same H H' → Q (.str (S (turnForm t))) H'
theorem g__law_turn_text (T : Txt P w K mg base) : Gd P w K mg base 1 "_law_turn_text" ["_law_turn_here"] (sp__law_turn_text) := by
  refine gd_of (d := d__law_turn_text) T (by decide +kernel) (by simp [fn]) rfl (fun _ _ _ _ _ _ us hl => match us, hl with | [_], _ => rfl) fun fd F => F.ok sc__law_turn_text (fun vs H Q E h => ?_) fun cdv A outer s H vs Q E hr h => ?_
  · obtain ⟨v, t, rfl, ⟨a, rfl, ea⟩, hl, ht, q⟩ := h
    rfl
  · obtain ⟨v, t, rfl, ⟨a, rfl, ea⟩, hl, ht, q⟩ := h
    refine ⟨_, (pss_one (ps_ret (pe_join pe_str (pe_lc (own := [("_law_place", 1)]) (g := gName 1) (tt := tYes) rfl sc__law_turn_text.nd (pi_tup (pv 0)) (blkOk_by (N := n__law_turn_text) (sc := defScope s__law_turn_text) (by decide +kernel)) (fun _ _ _ _ _ => pg_name (i := 1) sc__law_turn_text.nd rfl (.inl rfl)) (fun _ _ _ _ _ => pts_nil) (fun _ _ _ _ _ => (pe_ix ix_str pe_str (pv 1) (fun _ _ => rfl))))))), ?_⟩
    have hl' : t.length ≤ 100000 := hl
    refine ⟨⟨_, rfl⟩, _, rfl, a, rfl, ⟨_, SqT.of ea⟩, fun D nD => ?_⟩
    refine lc_fn (walk_tup (K := K) (a := a) (xs := vN t)) (fun i => V.str (S [t.getD i 0 + 48])) nD (by rw [vN_len]; exact hl) (fun H2 s2 => SqT.of (s2 a _ ea)) ?_ ?_
    · rintro i x H1 H2 Kt Kf hi s1 ⟨rfl, ei⟩ k
      unfold vN at ei
      rw [List.getElem?_map] at ei
      cases e : t[i]? with
      | none =>
        rw [e] at ei
        cases ei
      | some c =>
        rw [e] at ei
        cases ei
        have hc := ht c (List.mem_of_getElem? e)
        have z := k H2 (Same.refl _)
        rw [List.getD_eq_getElem?_getD, e] at z
        exact ⟨rfl, _, rfl, _, _, c + 48, rfl, rfl, (by decide), atI_nat (j := c) (fig_sign hc), z⟩
    · intro H2 s2 e2
      have em : (List.range (vN t).length).map (fun i => V.str (S [t.getD i 0 + 48])) = (((turnForm t).map fun c => [c]).map S).map V.str := by
        refine List.ext_getElem (by simp [turnForm, vN]) fun j h1 h2 => ?_
        have hj : j < t.length := by simpa [vN] using h1
        simp [turnForm, List.getD_eq_getElem?_getD, List.getElem?_eq_getElem hj]
      rw [em] at e2
      have j1 := join_S [] ((turnForm t).map fun c => [c])
      rw [join_one] at j1
      refine ⟨S [], D, _, rfl, rfl, .inl (SqL.of e2), ?_, ?_⟩
      · rw [sum_S]
        have z : (((turnForm t).map fun c => [c]).map List.length).sum ≤ ((turnForm t).map fun c => [c]).length * 1 := sum_le fun p hp => by
          obtain ⟨c, _, rfl⟩ := List.mem_map.mp hp
          simp
        have z2 : (S ([] : List Nat)).length = 0 := rfl
        rw [z2, Nat.mul_zero]
        rw [List.length_map, turnF_len] at z
        omega
      · rw [j1]
        exact q H2 s2
/-! _law_mark_text -/
def sp__law_mark_text : Sp := fun vs H Q _ => ∃ m, vs = [.str (S m)] ∧ Q (.str (S (markForm m))) H
theorem g__law_mark_text (T : Txt P w K mg base) : Gd P w K mg base 1 "_law_mark_text" ["_law_mark_here"] (sp__law_mark_text) := by
  refine gd_of (d := d__law_mark_text) T (by decide +kernel) (by simp [fn]) rfl (fun _ _ _ _ _ _ us hl => match us, hl with | [_], _ => rfl) fun fd F => F.ok sc__law_mark_text (fun vs H Q E h => ?_) fun cdv A outer s H vs Q E hr h => ?_
  · obtain ⟨m, rfl, q⟩ := h
    rfl
  · obtain ⟨m, rfl, q⟩ := h
    refine ⟨_, (pss_one (ps_ret (pe_ifExp (pt_cmpR op_ne (pv 0) pe_str (nomark _)) (pv 0) pe_str))), ?_⟩
    refine ⟨_, rfl, rfl, _, rfl, ite2 (fun c => ?_) (fun c => ?_)⟩
    · have c1 : m ≠ [] := fun z => by
        subst z
        revert c
        decide
      unfold markForm at q
      rw [if_neg c1] at q
      exact ⟨_, rfl, q⟩
    · have c1 : m = [] := Decidable.byContradiction fun z => c (by
        have n : ¬ V.str (S m) = V.str (S []) := fun y => z (S_inj (V.str.inj y))
        show (!decide (V.str (S m) = V.str (S []))) = true
        rw [decide_eq_false n]
        rfl)
      subst c1
      exact q
/-! _law_lot_text -/
def sp__law_lot_text : Sp := fun vs H Q _ => ∃ (v : V) (x : Lot), vs = [v] ∧ IsLot H v x ∧ GoodL x ∧ SmallL x ∧ ∀ H', Same H H' → Q (.str (S (lotText x))) H'
theorem g__law_lot_text (T : Txt P w K mg base) : Gd P w K mg base 2 "_law_lot_text" ["_law_lot_here"] (sp__law_lot_text) := by
  refine gd_of (d := d__law_lot_text) T (by decide +kernel) (by simp [fn]) rfl (fun _ _ _ _ _ _ us hl => match us, hl with | [_], _ => rfl) fun fd F => F.ok sc__law_lot_text (fun vs H Q E h => ?_) fun cdv A outer s H vs Q E hr h => ?_
  · obtain ⟨v, x, rfl, IL1, g, sm, q⟩ := h
    rfl
  · obtain ⟨v, x, rfl, IL1, g, sm, q⟩ := h
    refine ⟨_, (pss_cons (ps_set (i := 1) sc__law_lot_text.nd rfl (.inl rfl) (pe_lst (pa_cons (pe_op op_add_str pe_str (pe_ix ix_str pe_str (pe_ix ix_tup (pv 0) pe_int (fun _ _ => rfl)) (fun _ _ => rfl))) pa_nil)))
      (pss_cons (ps_for passO rfl (pi_tup (pe_ix ix_tup (pv 0) pe_int (fun _ _ => rfl))) (pg_tup rfl (pgs_cons (pg_name (i := 2) sc__law_lot_text.nd rfl (.inl rfl)) (pgs_cons (pg_name (i := 3) sc__law_lot_text.nd rfl (.inl rfl)) pgs_nil))) (pss_one (ps_expr (pe_bm PySem.F.plainAttrs_list PySem.F.slot_list_append PySem.F.type_list_append mt_append (pv 1) (pa_cons (pe_op op_add_str (pe_op op_add_str (pe_op op_add_str pe_str (pe_g (g__law_turn_text T) (hr.mono (by decide)) rfl passL (pa_cons (pv 2) pa_nil))) pe_str) (pe_g (g__law_mark_text T) (hr.mono (by decide)) rfl passL (pa_cons (pv 3) pa_nil))) pa_nil)))))
      (pss_cons (ps_for passO rfl (pi_tup (pe_ix ix_tup (pv 0) pe_int (fun _ _ => rfl))) (pg_name (i := 4) sc__law_lot_text.nd rfl (.inl rfl)) (pss_cons (ps_expr (pe_bm PySem.F.plainAttrs_list PySem.F.slot_list_append PySem.F.type_list_append mt_append (pv 1) (pa_cons pe_str pa_nil)))
      (pss_one (ps_for passO rfl (pi_tup (pv 4)) (pg_tup rfl (pgs_cons (pg_name (i := 3) sc__law_lot_text.nd rfl (.inl rfl)) (pgs_cons (pg_name (i := 5) sc__law_lot_text.nd rfl (.inl rfl)) (pgs_cons (pg_name (i := 6) sc__law_lot_text.nd rfl (.inl rfl)) pgs_nil)))) (pss_cons (ps_set (i := 7) sc__law_lot_text.nd rfl (.inl rfl) (pe_lst (pa_cons (pe_g (g__law_mark_text T) (hr.mono (by decide)) rfl passL (pa_cons (pv 3) pa_nil)) (pa_cons (pe_g (g__law_turn_text T) (hr.mono (by decide)) rfl passL (pa_cons (pv 5) pa_nil)) (pa_cons (pe_g (g__law_mark_text T) (hr.mono (by decide)) rfl passL (pa_cons (pv 6) pa_nil)) pa_nil)))))
      (pss_one (ps_expr (pe_bm PySem.F.plainAttrs_list PySem.F.slot_list_append PySem.F.type_list_append mt_append (pv 1) (pa_cons (pe_join pe_str (pv 7)) pa_nil)))))))))
      (pss_one (ps_ret (pe_join pe_str (pv 1))))))), ?_⟩
    have b1 : x.shots.length ≤ 100000 := sm.sn
    have b2 : x.progs.length ≤ 100000 := sm.pn
    have b3 : x.progs.flatten.length ≤ 100000 := sm.f
    rw [flat_len] at b3
    obtain ⟨a, b, c, ss, ps, rfl, ea, eb, pb, ec, pc⟩ := id IL1
    refine ⟨_, rfl, a, _, _, .int (x.corners : Nat), rfl, rfl, SqT.of ea, rfl, _, _, x.corners + 48, rfl, rfl, (by decide), atI_nat (j := x.corners) (fig_sign g.c), ?_⟩
    refine ⟨_, _, rfl, rfl, szN (a := wCORN) (b := [x.corners + 48]) (by simp [wCORN]), zl1, fun L nL => ?_⟩
    have s2 := Same.new nL (o := .lst [V.str (S wCORN ++ S [x.corners + 48])])
    have l2 : LinesAt (upd H L (.lst [V.str (S wCORN ++ S [x.corners + 48])])) L [headForm x] := by
      unfold LinesAt
      rw [upd_same, S_app]
      rfl
    generalize hH2 : upd H L (.lst [V.str (S wCORN ++ S [x.corners + 48])]) = H2 at s2 l2
    have hH2' : upd H L (.lst [V.str (Str.ofString "corners " ++ ⟨#[x.corners + 48]⟩)]) = H2 := hH2
    rw [hH2']
    refine ⟨_, rfl, a, _, _, .ref b, rfl, rfl, SqT.of (s2 a _ ea), rfl, b, rfl, ⟨ss, SqT.of (s2 b _ eb)⟩, ?_⟩
    refine for_it (walk_tup (K := K) (a := b) (xs := ss)) (fun i σ H3 => ∃ y5 y6 y7 y8 y9 y10, σ = [some (.ref a), some (.ref L), y5, y6, y7, y8, y9, y10] ∧ Same H H3 ∧ LinesAt H3 L ([headForm x] ++ (x.shots.take i).map shotForm))
      ⟨_, _, _, _, _, _, rfl, s2, l2⟩ (fun i σ H3 _ ⟨_, _, _, _, _, _, _, s3, _⟩ => SqT.of (s3 b _ eb)) ?_ ?_
    · rintro i v σ H3 H4 hi ⟨y5, y6, y7, y8, y9, y10, rfl, s3, l3⟩ ⟨rfl, ev⟩
      obtain ⟨s, es, d, tv, rfl, ed, it⟩ := pair_get pb ev
      obtain ⟨gt, gm⟩ := g.s s (List.mem_of_getElem? es)
      have tl := turnF_len s.1
      have gl := gt.le
      have ml := mark_len gm
      refine ⟨d, _, rfl, SqT.of (s3 d _ ed), rfl, _, _, rfl, _, _, rfl, rfl, ?_⟩
      refine ⟨_, rfl, .inl ⟨rfl, _, SqL.of l3⟩, _, rfl, tv, s.1, rfl, it.up s3.ts, Nat.le_trans gl (by decide), gt.fig, fun H5 s5 => ?_⟩
      have l5 : LinesAt H5 L _ := s5 _ _ l3
      have lsh : (Str.ofString "shot ").length = 5 := by decide
      have lbl : (Str.ofString " ").length = 1 := by decide
      have cap : sizeLine = 16777216 := by decide
      have lT := S_len (turnForm s.1)
      have lM := S_len (markForm s.2)
      have ef : (Str.ofString "shot " ++ S (turnForm s.1) ++ Str.ofString " " ++ S (markForm s.2)) = S (shotForm s) := by
        rw [o_shot, o_blank, S_app, S_app, S_app]
        rfl
      refine ⟨_, _, rfl, rfl, (show (Str.ofString "shot ").length + (S (turnForm s.1)).length ≤ sizeLine by omega), ?_⟩
      refine ⟨_, _, rfl, rfl, (show (Str.ofString "shot " ++ S (turnForm s.1)).length + (Str.ofString " ").length ≤ sizeLine by rw [lenA]; omega), ?_⟩
      refine ⟨_, rfl, s.2, rfl, ?_⟩
      refine ⟨_, _, rfl, rfl, (show (Str.ofString "shot " ++ S (turnForm s.1) ++ Str.ofString " ").length + (S (markForm s.2)).length ≤ sizeLine by rw [lenA, lenA]; omega), ?_⟩
      refine ⟨L, _, _, rfl, rfl, l5, ?_, _, _, _, _, _, _, rfl, (s3.trans s5).put nL, ?_⟩
      · rw [List.length_map, List.length_map, List.length_append, List.length_map, List.length_take]
        refine line_cap ?_
        show 1 + _ ≤ _
        omega
      · rw [shots_lines _ _ _ es, ← List.append_assoc]
        have fin := LinesAt.push (H := H5) (L := L) (ls := [headForm x] ++ (x.shots.take i).map shotForm) (p := shotForm s)
        rw [← ef] at fin
        exact fin
    · rintro σ H3 ⟨y5, y6, y7, y8, y9, y10, rfl, s3, l3⟩
      rw [pair_len pb, List.take_length] at l3
      refine ⟨_, rfl, a, _, _, .ref c, rfl, rfl, SqT.of (s3 a _ ea), rfl, c, rfl, ⟨ps, SqT.of (s3 c _ ec)⟩, ?_⟩
      refine for_it (walk_tup (K := K) (a := c) (xs := ps)) (fun i σ H3 => ∃ y5 y6 y7 y8 y9 y10, σ = [some (.ref a), some (.ref L), y5, y6, y7, y8, y9, y10] ∧ Same H H3 ∧ LinesAt H3 L ([headForm x] ++ x.shots.map shotForm ++ (x.progs.take i).flatMap progForm))
        ⟨_, _, _, _, _, _, rfl, s3, by rw [List.take_zero]; simpa using l3⟩ (fun i σ H3 _ ⟨_, _, _, _, _, _, _, s3, _⟩ => SqT.of (s3 c _ ec)) ?_ ?_
      · rintro i v σ H4 H4' hi ⟨y5, y6, y7, y8, y9, y10, rfl, s4, l4⟩ ⟨rfl, ev⟩
        obtain ⟨p, ep, d, us, rfl, ed, pe⟩ := pair_get pc ev
        have mp := List.mem_of_getElem? ep
        have st := sums_take x.progs i
        have lp := len_mem _ _ mp
        have cap : ([headForm x] ++ x.shots.map shotForm ++ (x.progs.take i).flatMap progForm).length ≤ 300001 := by
          simp only [List.length_append, List.length_map, List.length_cons, List.length_nil]
          omega
        refine ⟨_, rfl, .inl ⟨rfl, _, SqL.of l4⟩, L, _, _, rfl, rfl, l4, line_cap (by rw [List.length_map, List.length_map]; omega), ?_⟩
        have l5 : LinesAt (upd H4' L (.lst ((([headForm x] ++ x.shots.map shotForm ++ (x.progs.take i).flatMap progForm).map S).map V.str ++ [.str (Str.ofString "program")]))) L ([headForm x] ++ x.shots.map shotForm ++ (x.progs.take i).flatMap progForm ++ [wPROG]) := by
          rw [o_prog]
          exact LinesAt.push
        have s5 := s4.put nL (o := .lst ((([headForm x] ++ x.shots.map shotForm ++ (x.progs.take i).flatMap progForm).map S).map V.str ++ [.str (Str.ofString "program")]))
        generalize upd H4' L (.lst ((([headForm x] ++ x.shots.map shotForm ++ (x.progs.take i).flatMap progForm).map S).map V.str ++ [.str (Str.ofString "program")])) = H5 at l5 s5
        generalize hB : [headForm x] ++ x.shots.map shotForm ++ (x.progs.take i).flatMap progForm ++ [wPROG] = B at l5
        have cB : B.length ≤ 300002 := by
          rw [← hB, List.length_append]
          show _ + 1 ≤ _
          omega
        refine ⟨_, rfl, d, rfl, ⟨us, SqT.of (s5 d _ ed)⟩, ?_⟩
        refine for_it (walk_tup (K := K) (a := d) (xs := us)) (fun j σ H3 => ∃ y5 y6 y7 y8 y9 y10, σ = [some (.ref a), some (.ref L), y5, y6, y7, y8, y9, y10] ∧ Same H H3 ∧ LinesAt H3 L (B ++ (p.take j).map entryForm))
          ⟨_, _, _, _, _, _, rfl, s5, by rw [List.take_zero]; simpa using l5⟩ (fun i σ H3 _ ⟨_, _, _, _, _, _, _, s3, _⟩ => SqT.of (s3 d _ ed)) ?_ ?_
        · rintro j v σ H6 H6' hj ⟨y5, y6, y7, y8, y9, y10, rfl, s6, l6⟩ ⟨rfl, eu⟩
          obtain ⟨e, ee, f, tv, rfl, ef, it⟩ := pair_get pe eu
          have ge := g.p p mp e (List.mem_of_getElem? ee)
          refine ⟨f, _, rfl, SqT.of (s6 f _ ef), rfl, _, _, rfl, _, _, rfl, _, _, rfl, rfl, ?_⟩
          refine ⟨_, rfl, e.1, rfl, _, rfl, tv, e.2.1, rfl, it.up s6.ts, Nat.le_trans ge.t.le (by decide), ge.t.fig, fun H7 s7 => ?_⟩
          refine ⟨_, rfl, e.2.2, rfl, zl3, fun q' nq => ?_⟩
          have s8 := Same.new nq (o := .lst [V.str (S (markForm e.1)), V.str (S (turnForm e.2.1)), V.str (S (markForm e.2.2))])
          have e1 := mark_len ge.m
          have e2 := mark_len ge.to
          have e3 := turnF_len e.2.1
          have e4 := ge.t.le
          have l8 : LinesAt (upd H7 q' (.lst [V.str (S (markForm e.1)), V.str (S (turnForm e.2.1)), V.str (S (markForm e.2.2))])) L _ := s8 _ _ (s7 _ _ l6)
          refine ⟨_, rfl, .inl ⟨rfl, _, SqL.of l8⟩, ⟨_, rfl⟩, _, rfl, _, q', [S (markForm e.1), S (turnForm e.2.1), S (markForm e.2.2)], rfl, rfl, .inl (SqL.of upd_same), ?_, ?_⟩
          · have lbl : (Str.ofString " ").length = 1 := by decide
            simp only [List.map_cons, List.map_nil, List.sum_cons, List.sum_nil, S_len, List.length_cons, List.length_nil, lbl]
            omega
          · have ej : Txt.join (Str.ofString " ") [S (markForm e.1), S (turnForm e.2.1), S (markForm e.2.2)] = S (entryForm e) := by
              rw [o_blank]
              refine (join_S [32] [markForm e.1, turnForm e.2.1, markForm e.2.2]).trans ?_
              simp [TL.joinL, entryForm]
            refine ⟨L, _, _, rfl, rfl, l8, ?_, _, _, _, _, _, _, rfl, ((s6.trans s7).trans s8).put nL, ?_⟩
            · rw [List.length_map, List.length_map, List.length_append, List.length_map, List.length_take]
              refine line_cap ?_
              omega
            · rw [entry_lines _ _ _ ee, ← List.append_assoc]
              have fin := LinesAt.push (H := upd H7 q' (.lst [V.str (S (markForm e.1)), V.str (S (turnForm e.2.1)), V.str (S (markForm e.2.2))])) (L := L) (ls := B ++ (p.take j).map entryForm) (p := entryForm e)
              rw [← ej] at fin
              exact fin
        · rintro σ H6 ⟨y5, y6, y7, y8, y9, y10, rfl, s6, l6⟩
          rw [pair_len pe, List.take_length] at l6
          refine ⟨_, _, _, _, _, _, rfl, s6, ?_⟩
          rw [prog_lines _ _ _ ep]
          have eB : B ++ p.map entryForm = [headForm x] ++ x.shots.map shotForm ++ ((x.progs.take i).flatMap progForm ++ progForm p) := by
            rw [← hB]
            simp [progForm]
          rw [← eB]
          exact l6
      · rintro σ H4 ⟨y5, y6, y7, y8, y9, y10, rfl, s4, l4⟩
        rw [pair_len pc, List.take_length] at l4
        have eL : [headForm x] ++ x.shots.map shotForm ++ x.progs.flatMap progForm = lotForm x := by
          simp [lotForm, restForm]
        rw [eL] at l4
        have fc := form_count x
        have fs := sum_le (form_le g)
        refine ⟨⟨_, rfl⟩, _, rfl, Str.ofString "\n", L, _, rfl, rfl, .inl (SqL.of l4), ?_, ?_⟩
        · have lnl : (Str.ofString "\n").length = 1 := by decide
          rw [sum_S, lnl, List.length_map]
          omega
        · rw [o_nl, join_S]
          exact q H4 s4
end
end K5
/-! ### the law's own reader: figures, letters, words -/
namespace K5
open PySem PySem.Spec PyProof.Rows L2
theorem cut_at (l : List Nat) (p : Nat) : cutS (S l) (some (p : Int)) (some ((p : Int) + 1)) = S ((l.drop p).take 1) := by
  have e : ((p : Int) + 1) = ((p + 1 : Nat) : Int) := by omega
  unfold cutS
  rw [e, HT.sIx_nat, HT.sIx_nat, S_len]
  show S ((l.drop (min p l.length)).take (min (p + 1) l.length - min p l.length)) = _
  by_cases h : p < l.length
  · rw [show min p l.length = p by omega, show min (p + 1) l.length = p + 1 by omega, Nat.add_sub_cancel_left]
  · rw [show min p l.length = l.length by omega, List.drop_length, List.drop_eq_nil_of_le (by omega)]
    simp
theorem o_fig : (Str.ofString "0123456789").cps.toList = FIG := by decide
theorem o_let : (Str.ofString "abcdefghijklmnopqrstuvwxyz").cps.toList = LET := by decide
theorem o_dash : Str.ofString "-" = S [45] := by decide
section
variable {P : Program} {w : World} {K : PySem.W.Frag} {mg : Str → Option Value} {base : Heap}
/-! _law_turn_told -/
def sp__law_turn_told : Sp := fun vs H Q _ => ∃ (l : List Nat) (p : Nat), vs = [.str (S l), .int p] ∧ l.length ≤ BIG ∧
  (∀ t r, turnAt l p = .ok (t, r) → ∀ H' a tv, Same H H' → H' a = some (.tup [tv, .int (r : Nat)]) → IsTurn H' tv t → Q (.ref a) H') ∧ (∀ q, turnAt l p = .error q → ∀ H' a, Same H H' → H' a = some (.tup [.non, .int (q : Nat)]) → Q (.ref a) H')
theorem g__law_turn_told (T : Txt P w K mg base) : Gd P w K mg base 1 "_law_turn_told" ["_law_line", "_law_at"] (sp__law_turn_told) := by
  refine gd_of (d := d__law_turn_told) T (by decide +kernel) (by simp [fn]) rfl (fun _ _ _ _ _ _ us hl => match us, hl with | [_, _], _ => rfl) fun fd F => F.ok sc__law_turn_told (fun vs H Q E h => ?_) fun cdv A outer s H vs Q E hr h => ?_
  · obtain ⟨l, p, rfl, hl, yes, no⟩ := h
    rfl
  · obtain ⟨l, p, rfl, hl, yes, no⟩ := h
    refine ⟨_, (pss_cons (ps_set (i := 2) sc__law_turn_told.nd rfl (.inl rfl) (pv 1))
      (pss_cons (ps_while passO (PW.pt (pw_and (pt_cmpR op_lt (pv 2) (pe_callB call_len_str rfl (T.free "len" (by decide +kernel)) boot_len (pa_cons (pv 0) pa_nil)) (nomark _)) (pw_and (pt_cmpR op_lt (pv 2) (pe_op op_add (pv 1) pe_int) (nomark _)) (pw_and1 (pt_cmpR op_in_sign (pe_ix ix_str (pv 0) (pv 2) (fun _ _ => rfl)) pe_str rfl))))) (pss_one (ps_set (i := 2) sc__law_turn_told.nd rfl (.inl rfl) (pe_op op_add (pv 2) pe_int))))
      (pss_one (ps_ret (pe_tup (pa_cons (pe_ifExp (pt_cmpR op_eq (pv 2) (pv 1) (nomark _)) pe_non (pe_callTy call_tuple_of rfl (T.free "tuple" (by decide +kernel)) boot_tuple (pa_cons (pe_lc (own := [("_law_figure", 3)]) (g := gName 3) (tt := tYes) rfl sc__law_turn_told.nd (pi_str (pe_slice sl_str (pv 0) (po_some (pv 1)) (po_some (pv 2)))) (blkOk_by (N := n__law_turn_told) (sc := defScope s__law_turn_told) (by decide +kernel)) (fun _ _ _ _ _ => pg_name (i := 3) sc__law_turn_told.nd rfl (.inl rfl)) (fun _ _ _ _ _ => pts_nil) (fun _ _ _ _ _ => (pe_callTy call_int_str rfl (T.free "int" (by decide +kernel)) boot_int (pa_cons (pv 3) pa_nil)))) pa_nil))) (pa_cons (pv 2) pa_nil))))))), ?_⟩
    refine ⟨_, rfl, fun m σ H1 => ∃ k : Nat, σ = [some (.str (S l)), some (.int p), some (.int ((p + k : Nat) : Int)), none] ∧ H1 = H ∧ k + m = 8 ∧ runLen FIG 8 (l.drop p) = k + runLen FIG m (l.drop (p + k)),
      ⟨8, 0, by simp; rfl, rfl, by omega, by simp⟩, ?_⟩
    rintro m σ H1 ⟨k, rfl, rfl, hk, hrun⟩
    by_cases z : runLen FIG m (l.drop (p + k)) = 0
    · refine ⟨_, rfl, _, rfl, _, rfl, sz (by rw [S_len]; exact hl), _, _, rfl, rfl, _, rfl, ite2 (fun c => ⟨_, rfl, _, rfl, _, _, rfl, rfl, _, _, rfl, rfl, _, rfl, ite2 (fun d => ?A) (fun d => iteF ?B)⟩) (fun c => iteF ?C)⟩
      case' A =>
        have c1 : ((p + k : Nat) : Int) < ((S l).length : Int) := of_decide_eq_true c
        rw [S_len] at c1
        have hp : p + k < l.length := by omega
        have d1 : ((p + k : Nat) : Int) < (p : Int) + 8 := of_decide_eq_true d
        have e : l[p + k]? = some l[p + k] := List.getElem?_eq_getElem hp
        refine ⟨_, rfl, _, rfl, _, _, _, rfl, rfl, sz (by rw [S_len]; exact hl), atI_nat e, _, _, rfl, rfl, _, rfl, ite2 (fun f => ?_) (fun f => ?_)⟩
        · exfalso
          rw [o_fig] at f
          have hs : hasSign l (p + k) FIG = true := by
            unfold hasSign
            rw [e]
            exact f
          obtain ⟨m', rfl⟩ : ∃ m', m = m' + 1 := ⟨m - 1, by omega⟩
          rw [run_more hs] at z
          cases z
        clear f d1 e hp c1
      all_goals
        clear c
        rw [z, Nat.add_zero] at hrun
        refine ⟨_, rfl, _, rfl, rfl, _, rfl, ite2 (fun c => ?_) (fun c => ?_)⟩
        · have c1 : k = 0 := by
            have := V.int.inj (of_decide_eq_true c)
            omega
          subst c1
          refine ⟨_, rfl, zl2, fun a na => no p (if_pos hrun) _ a (Same.new na) upd_same⟩
        · have c1 : k ≠ 0 := fun q => c (decide_eq_true (by rw [q]; rfl))
          have hs : hasSign l p FIG = true := by
            cases q : hasSign l p FIG with
            | true => rfl
            | false =>
              rw [run_stop q] at hrun
              exact absurd hrun.symm c1
          have hle := run_end_le FIG l 8 p hs
          have e1 : turnAt l p = .ok (((l.drop p).take (runLen FIG 8 (l.drop p))).map fig, p + runLen FIG 8 (l.drop p)) := if_neg (by rw [hrun]; exact c1)
          have hall := runLen_all FIG 8 (l.drop p)
          rw [hrun] at hle e1 hall
          have cut : cutS (S l) (some ((p : Nat) : Int)) (some ((p + k : Nat) : Int)) = S ((l.drop p).take k) := by
            rw [cut_nat (Nat.le_add_right p k) hle, Nat.add_sub_cancel_left]
          refine ⟨_, rfl, _, rfl, _, rfl, _, rfl, _, rfl, S l, rfl, sz (by rw [S_len]; exact hl), _, rfl, fun D nD => ?_⟩
          rw [cut]
          generalize hg : (l.drop p).take k = seg at hall e1
          have len : seg.length = k := by
            rw [← hg, List.length_take, List.length_drop]
            omega
          refine lc_fn (walk_str (z := S seg)) (fun i => V.int ((fig (seg.getD i 0) : Nat) : Int)) nD (by show seg.toArray.size ≤ BIG; simp; omega) (fun _ _ => trivial) ?_ ?_
          · rintro i x H1' H2 Kt Kf hi s1 ⟨rfl, c, ec, rfl⟩ kk
            have ec' : seg[i]? = some c := by
              have q : seg.toArray[i]? = some c := ec
              simpa using q
            have hc : c ∈ FIG := hall c (List.mem_of_getElem? ec')
            refine ⟨rfl, _, rfl, _, _, rfl, fig_int c hc, by show (1 : Nat) ≤ 640; decide, ?_⟩
            have q := kk H2 (Same.refl _)
            rw [List.getD_eq_getElem?_getD, ec'] at q
            exact q
          · intro H2 s2 e2
            have hm : (List.range (S seg).cps.size).map (fun i => V.int ((fig (seg.getD i 0) : Nat) : Int)) = vN (seg.map fig) := by
              refine List.ext_getElem (by simp [S, vN]) fun j h1 h2 => ?_
              have hj : j < seg.length := by simpa [S] using h1
              simp [vN, List.getD_eq_getElem?_getD, List.getElem?_eq_getElem hj]
            rw [hm] at e2
            refine ⟨D, _, rfl, .inl ⟨SqL.of e2, fun a na => ⟨_, rfl, zl2, fun b nb => ?_⟩⟩⟩
            exact yes _ _ e1 _ b _ ((s2.trans (Same.new na)).trans (Same.new nb)) upd_same ⟨a, rfl, Same.new nb _ _ upd_same⟩
    · have hs : hasSign l (p + k) FIG = true := by
        cases q : hasSign l (p + k) FIG with
        | true => rfl
        | false => exact absurd (run_stop q) z
      have m0 : m ≠ 0 := fun q => z (by rw [q]; rfl)
      obtain ⟨c0, e, f0⟩ : ∃ c, l[p + k]? = some c ∧ decide (c ∈ FIG) = true := by
        unfold hasSign at hs
        cases q : l[p + k]? with
        | none =>
          rw [q] at hs
          cases hs
        | some c =>
          rw [q] at hs
          exact ⟨c, rfl, hs⟩
      have hp : p + k < l.length := (List.getElem?_eq_some_iff.mp e).1
      refine ⟨_, rfl, _, rfl, _, rfl, sz (by rw [S_len]; exact hl), _, _, rfl, rfl, _, rfl, ite2 (fun c => ⟨_, rfl, _, rfl, _, _, rfl, rfl, _, _, rfl, rfl, _, rfl, ite2 (fun d => ?_) (fun d => absurd (decide_eq_true (show ((p + k : Nat) : Int) < (p : Int) + 8 by omega)) d)⟩) (fun c => absurd (decide_eq_true (show ((p + k : Nat) : Int) < ((S l).length : Int) by rw [S_len]; omega)) c)⟩
      refine ⟨_, rfl, _, rfl, _, _, _, rfl, rfl, sz (by rw [S_len]; exact hl), atI_nat e, _, _, rfl, rfl, _, rfl, ite2 (fun f => ?_) (fun f => absurd (by rw [o_fig]; exact f0) f)⟩
      obtain ⟨m', rfl⟩ : ∃ m', m = m' + 1 := ⟨m - 1, by omega⟩
      refine ⟨_, fun σ' H' h => h, _, rfl, _, _, rfl, rfl, m', Nat.lt_succ_self m', k + 1, rfl, rfl, by omega, ?_⟩
      rw [hrun, run_more hs]
      show _ = k + 1 + runLen FIG m' (l.drop (p + k + 1))
      omega
/-! _law_mark_told -/
def sp__law_mark_told : Sp := fun vs H Q _ => ∃ (l : List Nat) (p : Nat), vs = [.str (S l), .int p] ∧ l.length ≤ BIG ∧
  (∀ m r, markAt l p = .ok (m, r) → ∀ H' a, Same H H' → H' a = some (.tup [.str (S m), .int (r : Nat)]) → Q (.ref a) H') ∧ (∀ q, markAt l p = .error q → ∀ H' a, Same H H' → H' a = some (.tup [.non, .int (q : Nat)]) → Q (.ref a) H')
theorem g__law_mark_told (T : Txt P w K mg base) : Gd P w K mg base 1 "_law_mark_told" ["_law_line", "_law_at"] (sp__law_mark_told) := by
  refine gd_of (d := d__law_mark_told) T (by decide +kernel) (by simp [fn]) rfl (fun _ _ _ _ _ _ us hl => match us, hl with | [_, _], _ => rfl) fun fd F => F.ok sc__law_mark_told (fun vs H Q E h => ?_) fun cdv A outer s H vs Q E hr h => ?_
  · obtain ⟨l, p, rfl, hl, yes, no⟩ := h
    rfl
  · obtain ⟨l, p, rfl, hl, yes, no⟩ := h
    refine ⟨_, (pss_cons (ps_if (pt_cmpR op_eq (pe_slice sl_str (pv 0) (po_some (pv 1)) (po_some (pe_op op_add (pv 1) pe_int))) pe_str (nomark _)) (pss_one (ps_ret (pe_tup (pa_cons pe_str (pa_cons (pe_op op_add (pv 1) pe_int) pa_nil))))) pss_nil)
      (pss_cons (ps_set (i := 2) sc__law_mark_told.nd rfl (.inl rfl) (pv 1))
      (pss_cons (ps_while passO (PW.pt (pw_and (pt_cmpR op_lt (pv 2) (pe_callB call_len_str rfl (T.free "len" (by decide +kernel)) boot_len (pa_cons (pv 0) pa_nil)) (nomark _)) (pw_and (pt_cmpR op_lt (pv 2) (pe_op op_add (pv 1) pe_int) (nomark _)) (pw_and1 (pt_cmpR op_in_sign (pe_ix ix_str (pv 0) (pv 2) (fun _ _ => rfl)) pe_str rfl))))) (pss_one (ps_set (i := 2) sc__law_mark_told.nd rfl (.inl rfl) (pe_op op_add (pv 2) pe_int))))
      (pss_one (ps_ret (pe_tup (pa_cons (pe_ifExp (pt_cmpR op_eq (pv 2) (pv 1) (nomark _)) pe_non (pe_slice sl_str (pv 0) (po_some (pv 1)) (po_some (pv 2)))) (pa_cons (pv 2) pa_nil)))))))), ?_⟩
    refine ⟨_, rfl, _, rfl, _, rfl, _, rfl, _, _, rfl, rfl, _, rfl, S l, rfl, sz (by rw [S_len]; exact hl), rfl, _, rfl, ite2 (fun c => ?_) (fun c => ?_)⟩
    · rw [cut_at, o_dash] at c
      have em : markAt l p = .ok ([], p + 1) := if_pos ((take_one _ _).mp (of_decide_eq_true c))
      exact ⟨_, rfl, _, _, rfl, rfl, zl2, fun a na => yes _ _ em _ a (Same.new na) upd_same⟩
    rw [cut_at, o_dash] at c
    have nh : ¬ (l.drop p).head? = some 45 := fun q => c (decide_eq_true ((take_one _ _).mpr q))
    clear c
    refine ⟨_, rfl, fun m σ H1 => ∃ k : Nat, σ = [some (.str (S l)), some (.int p), some (.int ((p + k : Nat) : Int))] ∧ H1 = H ∧ k + m = 8 ∧ runLen LET 8 (l.drop p) = k + runLen LET m (l.drop (p + k)),
      ⟨8, 0, by simp; rfl, rfl, by omega, by simp⟩, ?_⟩
    rintro m σ H1 ⟨k, rfl, rfl, hk, hrun⟩
    by_cases z : runLen LET m (l.drop (p + k)) = 0
    · refine ⟨_, rfl, _, rfl, _, rfl, sz (by rw [S_len]; exact hl), _, _, rfl, rfl, _, rfl, ite2 (fun c => ⟨_, rfl, _, rfl, _, _, rfl, rfl, _, _, rfl, rfl, _, rfl, ite2 (fun d => ?A) (fun d => iteF ?B)⟩) (fun c => iteF ?C)⟩
      case' A =>
        have c1 : ((p + k : Nat) : Int) < ((S l).length : Int) := of_decide_eq_true c
        rw [S_len] at c1
        have hp : p + k < l.length := by omega
        have d1 : ((p + k : Nat) : Int) < (p : Int) + 8 := of_decide_eq_true d
        have e : l[p + k]? = some l[p + k] := List.getElem?_eq_getElem hp
        refine ⟨_, rfl, _, rfl, _, _, _, rfl, rfl, sz (by rw [S_len]; exact hl), atI_nat e, _, _, rfl, rfl, _, rfl, ite2 (fun f => ?_) (fun f => ?_)⟩
        · exfalso
          rw [o_let] at f
          have hs : hasSign l (p + k) LET = true := by
            unfold hasSign
            rw [e]
            exact f
          obtain ⟨m', rfl⟩ : ∃ m', m = m' + 1 := ⟨m - 1, by omega⟩
          rw [run_more hs] at z
          cases z
        clear f d1 e hp c1
      all_goals
        clear c
        rw [z, Nat.add_zero] at hrun
        refine ⟨_, rfl, _, rfl, rfl, _, rfl, ite2 (fun c => ?_) (fun c => ?_)⟩
        · have c1 : k = 0 := by
            have := V.int.inj (of_decide_eq_true c)
            omega
          subst c1
          refine ⟨_, rfl, zl2, fun a na => no p ?_ _ a (Same.new na) upd_same⟩
          unfold markAt
          rw [if_neg nh, if_pos hrun]
        · have c1 : k ≠ 0 := fun q => c (decide_eq_true (by rw [q]; rfl))
          have hs : hasSign l p LET = true := by
            cases q : hasSign l p LET with
            | true => rfl
            | false =>
              rw [run_stop q] at hrun
              exact absurd hrun.symm c1
          have hle := run_end_le LET l 8 p hs
          have em : markAt l p = .ok ((l.drop p).take (runLen LET 8 (l.drop p)), p + runLen LET 8 (l.drop p)) := by
            unfold markAt
            rw [if_neg nh, if_neg (by rw [hrun]; exact c1)]
          rw [hrun] at hle em
          have cut : cutS (S l) (some ((p : Nat) : Int)) (some ((p + k : Nat) : Int)) = S ((l.drop p).take k) := by
            rw [cut_nat (Nat.le_add_right p k) hle, Nat.add_sub_cancel_left]
          refine ⟨_, rfl, _, rfl, _, rfl, _, rfl, _, rfl, S l, rfl, sz (by rw [S_len]; exact hl), _, rfl, zl2, fun a na => ?_⟩
          rw [cut]
          exact yes _ _ em _ a (Same.new na) upd_same
    · have hs : hasSign l (p + k) LET = true := by
        cases q : hasSign l (p + k) LET with
        | true => rfl
        | false => exact absurd (run_stop q) z
      have m0 : m ≠ 0 := fun q => z (by rw [q]; rfl)
      obtain ⟨c0, e, f0⟩ : ∃ c, l[p + k]? = some c ∧ decide (c ∈ LET) = true := by
        unfold hasSign at hs
        cases q : l[p + k]? with
        | none =>
          rw [q] at hs
          cases hs
        | some c =>
          rw [q] at hs
          exact ⟨c, rfl, hs⟩
      have hp : p + k < l.length := (List.getElem?_eq_some_iff.mp e).1
      refine ⟨_, rfl, _, rfl, _, rfl, sz (by rw [S_len]; exact hl), _, _, rfl, rfl, _, rfl, ite2 (fun c => ⟨_, rfl, _, rfl, _, _, rfl, rfl, _, _, rfl, rfl, _, rfl, ite2 (fun d => ?_) (fun d => absurd (decide_eq_true (show ((p + k : Nat) : Int) < (p : Int) + 8 by omega)) d)⟩) (fun c => absurd (decide_eq_true (show ((p + k : Nat) : Int) < ((S l).length : Int) by rw [S_len]; omega)) c)⟩
      refine ⟨_, rfl, _, rfl, _, _, _, rfl, rfl, sz (by rw [S_len]; exact hl), atI_nat e, _, _, rfl, rfl, _, rfl, ite2 (fun f => ?_) (fun f => absurd (by rw [o_let]; exact f0) f)⟩
      obtain ⟨m', rfl⟩ : ∃ m', m = m' + 1 := ⟨m - 1, by omega⟩
      refine ⟨_, fun σ' H' h => h, _, rfl, _, _, rfl, rfl, m', Nat.lt_succ_self m', k + 1, rfl, rfl, by omega, ?_⟩
      rw [hrun, run_more hs]
      show _ = k + 1 + runLen LET m' (l.drop (p + k + 1))
      omega
end
end K5
/-! ### words and pairs, as the law reads them -/
namespace K5
open PySem PySem.Spec PyProof.Rows L2
inductive Pc where
  | turn (t : List Nat)
  | mark (m : List Nat)
def IsPc (H : Hp) (v : V) : Pc → Prop
  | .turn t => IsTurn H v t
  | .mark m => v = .str (S m)
theorem IsPc.up {H H' : Hp} {v : V} {p : Pc} (e : TupS H H') (h : IsPc H v p) : IsPc H' v p := by
  cases p with
  | turn t => exact IsTurn.up e h
  | mark m => exact h
def pcAt (due : Bool) (l : List Nat) (q : Nat) : REx (Pc × Nat) := if due = true then bd (turnAt l q) fun x => .ok (.turn x.1, x.2) else bd (markAt l q) fun x => .ok (.mark x.1, x.2)
def nextAt (last : Bool) (l : List Nat) (e : Nat) : REx Nat := if last = true then bd (endAt l e) fun _ => .ok (e + 1) else wordAt l e wBLANK
/-- a turn at the place b, marks at the others, up to the place 1 + b -/
def pcsTold (b : Nat) (l : List Nat) : Nat → Nat → Nat → REx (List Pc)
  | 0, _, _ => .ok []
  | m + 1, k, q => bd (pcAt (decide (k = b)) l q) fun x => bd (nextAt (decide (k = 1 + b)) l x.2) fun q' => bd (pcsTold b l m (k + 1) q') fun r => .ok (x.1 :: r)
theorem blank_at (l : List Nat) (e : Nat) : wordAt l e wBLANK = if (l.drop e).head? = some 32 then .ok (e + 1) else .error e := by
  unfold wordAt wBLANK
  cases l.drop e with
  | nil => rfl
  | cons c r =>
    show (match (if c = 32 then (miss [] r).map (· + 1) else some 0) with | none => _ | some k => _) = if some c = some 32 then _ else _
    by_cases h : c = 32
    · rw [if_pos h, if_pos (by rw [h])]
      rfl
    · rw [if_neg h, if_neg (fun z => h (Option.some.inj z))]
      rfl
theorem pair_pcs (l : List Nat) (p : Nat) : pairTold l p = match pcsTold 0 l 2 0 p with
    | .error q => .error q
    | .ok [.turn t, .mark m] => .ok (t, m)
    | .ok _ => .error 0 := by
  have e : pcsTold 0 l 2 0 p = bd (bd (turnAt l p) fun x => .ok (Pc.turn x.1, x.2)) fun x => bd (wordAt l x.2 wBLANK) fun q' =>
      bd (bd (bd (markAt l q') fun x => .ok (Pc.mark x.1, x.2)) fun x => bd (bd (endAt l x.2) fun _ => .ok (x.2 + 1)) fun _ => bd (.ok []) fun r => .ok (x.1 :: r)) fun r => .ok (x.1 :: r) := rfl
  rw [e]
  unfold pairTold
  cases turnAt l p with
  | error q => rfl
  | ok x =>
    simp only [bd_ok]
    cases wordAt l x.2 wBLANK with
    | error q => rfl
    | ok a =>
      simp only [bd_ok]
      cases markAt l a with
      | error q => rfl
      | ok y =>
        simp only [bd_ok]
        cases endAt l y.2 with
        | error q => rfl
        | ok u => rfl
theorem entry_pcs (l : List Nat) : entryTold l = match pcsTold 1 l 3 0 0 with
    | .error q => .error q
    | .ok [.mark m, .turn t, .mark o] => .ok (m, t, o)
    | .ok _ => .error 0 := by
  have e : pcsTold 1 l 3 0 0 = bd (bd (markAt l 0) fun x => .ok (Pc.mark x.1, x.2)) fun x => bd (wordAt l x.2 wBLANK) fun q' => bd (bd (bd (turnAt l q') fun x => .ok (Pc.turn x.1, x.2)) fun x => bd (wordAt l x.2 wBLANK) fun q' =>
      bd (bd (bd (markAt l q') fun x => .ok (Pc.mark x.1, x.2)) fun x => bd (bd (endAt l x.2) fun _ => .ok (x.2 + 1)) fun _ => bd (.ok []) fun r => .ok (x.1 :: r)) fun r => .ok (x.1 :: r)) fun r => .ok (x.1 :: r) := rfl
  rw [e]
  unfold entryTold
  cases markAt l 0 with
  | error q => rfl
  | ok x =>
    simp only [bd_ok]
    cases wordAt l x.2 wBLANK with
    | error q => rfl
    | ok a =>
      unfold pairTold
      simp only [bd_ok]
      cases turnAt l a with
      | error q => rfl
      | ok x =>
        simp only [bd_ok]
        cases wordAt l x.2 wBLANK with
        | error q => rfl
        | ok a =>
          simp only [bd_ok]
          cases markAt l a with
          | error q => rfl
          | ok y =>
            simp only [bd_ok]
            cases endAt l y.2 with
            | error q => rfl
            | ok u => rfl
theorem walk_r0 {n : Nat} : Walk (Itr 0 n) n (fun _ => True) (YFn fun i => V.int ((i : Nat) : Int)) := (walk_range (lo := 0) (n := n)).mono (fun _ h => h) fun i H x H' _ _ y => by
  obtain ⟨e1, e2⟩ := y
  exact ⟨e1, by rw [e2]; exact congrArg V.int (Int.zero_add _)⟩
section
variable {P : Program} {w : World} {K : PySem.W.Frag} {mg : Str → Option Value} {base : Heap}
/-! _law_word_told -/
def sp__law_word_told : Sp := fun vs H Q _ => ∃ (l wd : List Nat), vs = [.str (S l), .str (S wd)] ∧ l.length ≤ BIG ∧ wd.length ≤ 1000 ∧
  (∀ r, wordAt l 0 wd = .ok r → ∀ H' a, Same H H' → H' a = some (.tup [.int (r : Nat), .bl true]) → Q (.ref a) H') ∧ (∀ q, wordAt l 0 wd = .error q → ∀ H' a, Same H H' → H' a = some (.tup [.int (q : Nat), .bl false]) → Q (.ref a) H')
theorem g__law_word_told (T : Txt P w K mg base) : Gd P w K mg base 1 "_law_word_told" ["_law_line", "_law_word"] (sp__law_word_told) := by
  refine gd_of (d := d__law_word_told) T (by decide +kernel) (by simp [fn]) rfl (fun _ _ _ _ _ _ us hl => match us, hl with | [_, _], _ => rfl) fun fd F => F.ok sc__law_word_told (fun vs H Q E h => ?_) fun cdv A outer s H vs Q E hr h => ?_
  · obtain ⟨l, wd, rfl, hl, hw, yes, no⟩ := h
    rfl
  · obtain ⟨l, wd, rfl, hl, hw, yes, no⟩ := h
    refine ⟨_, (pss_cons (ps_setLc (i := 2) (own := [("_law_k", 3)]) (g := gName 3) rfl sc__law_word_told.nd rfl rfl (sw_true rfl rfl rfl (by decide +kernel)) (pi_range1 rfl (T.free "range" (by decide +kernel)) (pa_cons (pe_callB call_len_str rfl (T.free "len" (by decide +kernel)) boot_len (pa_cons (pv 1) pa_nil)) pa_nil)) (blkOk_by (N := n__law_word_told) (sc := defScope s__law_word_told) (by decide +kernel)) (fun _ _ _ _ _ => pg_name (i := 3) sc__law_word_told.nd rfl (.inl rfl)) (fun _ _ _ _ _ => (pts_one (pt_cmpR op_ne (pe_slice sl_str (pv 0) (po_some (pv 3)) (po_some (pe_op op_add (pv 3) pe_int))) (pe_ix ix_str (pv 1) (pv 3) (fun _ _ => rfl)) (nomark _)))) (fun _ _ _ _ _ => (pv 3)))
      (pss_one (ps_ret (pe_ifExp (pt_cmpR (op_neD hr.units) (pv 2) (pe_lst pa_nil) (nomark _)) (pe_tup (pa_cons (pe_ix ix_list (pv 2) pe_int (fun _ _ => rfl)) (pa_cons pe_bl pa_nil))) (pe_tup (pa_cons (pe_callB call_len_str rfl (T.free "len" (by decide +kernel)) boot_len (pa_cons (pv 1) pa_nil)) (pa_cons pe_bl pa_nil))))))), ?_⟩
    have lw : (S wd).length = wd.length := S_len wd
    refine ⟨_, rfl, _, rfl, by rw [lw]; exact Nat.le_trans hw (by decide), _, rfl, by rw [lw]; omega, by rw [lw]; omega, fun D nD => ?_⟩
    have en : (((S wd).length : Nat) : Int).toNat = wd.length := by
      rw [lw]
      omega
    refine lc_it (walk_r0 (n := _)) (fun i H1 => ∃ ns : List Int, Same H H1 ∧ H1 D = some (.lst (ns.map V.int)) ∧ ns.length ≤ i ∧ ((ns = [] ∧ ∀ j (h : j < wd.length), j < i → hasSign l j [wd[j]] = true) ∨ ∃ (j : Nat) (h : j < wd.length) (r : List Int), ns = (j : Int) :: r ∧ hasSign l j [wd[j]] = false ∧ ∀ k (h : k < wd.length), k < j → hasSign l k [wd[k]] = true))
      ⟨[], Same.new nD, upd_same, Nat.le_refl _, .inl ⟨rfl, fun j h1 h2 => absurd h2 (Nat.not_lt_zero j)⟩⟩ (fun _ _ _ _ => trivial) ?_ ?_
    · rintro i x H1 H2 hi ⟨ns, s1, eD, ln, inv⟩ ⟨rfl, rfl⟩
      have hi2 : i < wd.length := by
        have : i < (((S wd).length : Nat) : Int).toNat := hi
        rw [en] at this
        exact this
      refine ⟨rfl, _, rfl, _, rfl, _, rfl, _, rfl, _, _, rfl, rfl, _, rfl, S l, rfl, sz (by rw [S_len]; exact hl), _, rfl, _, rfl, _, _, wd[i], rfl, rfl, by rw [lw]; exact Nat.le_trans hw (by decide), atI_nat (j := i) ?_, rfl, _, rfl, ite2 (fun c => ?_) (fun c => ?_)⟩
      · show wd[i]? = _
        exact List.getElem?_eq_getElem hi2
      · rw [cut_at] at c
        have hs : hasSign l i [wd[i]] = false := by
          cases q : hasSign l i [wd[i]] with
          | false => rfl
          | true =>
            have z := (take_one _ _).mpr ((has_drop l i wd[i]).mp q)
            rw [show V.str ⟨#[wd[i]]⟩ = V.str (S [wd[i]]) from rfl, decide_eq_true z] at c
            cases c
        refine ⟨_, rfl, _, eD, by rw [List.length_map]; exact szl (show _ ≤ 100000 by omega), ns ++ [(i : Int)], s1.put nD, by rw [upd_same, List.map_append]; rfl, by simp; omega, .inr ?_⟩
        rcases inv with ⟨rfl, al⟩ | ⟨j, hj, r, rfl, hf, al⟩
        · exact ⟨i, hi2, [], rfl, hs, fun k h hk => al k h hk⟩
        · exact ⟨j, hj, r ++ [(i : Int)], rfl, hf, al⟩
      · rw [cut_at] at c
        have hs : hasSign l i [wd[i]] = true := by
          refine (has_drop l i wd[i]).mpr ((take_one _ _).mp (Decidable.byContradiction fun z => c ?_))
          rw [show V.str ⟨#[wd[i]]⟩ = V.str (S [wd[i]]) from rfl, decide_eq_false z]
          rfl
        refine ⟨ns, s1, eD, by omega, ?_⟩
        rcases inv with ⟨e, al⟩ | z
        · refine .inl ⟨e, fun j h hj => ?_⟩
          rcases Nat.lt_succ_iff_lt_or_eq.mp hj with y | y
          · exact al j h y
          · subst y
            exact hs
        · exact .inr z
    · rintro H1 ⟨ns, s1, eD, ln, inv⟩
      rw [en] at inv
      refine ⟨_, rfl, zl0, fun a2 n2 => ?_⟩
      have s2 := Same.new n2 (o := .lst [])
      refine ⟨_, _, .lst (SqL.of (s2 D _ eD)) (dpAll_ints ns), .lst (SqL.of (xs := []) upd_same) (dpAll_ints []), shaped_ints _, shaped_ints [], _, rfl, ite2 (fun c => ?_) (fun c => ?_)⟩
      · rw [eqv_nil] at c
        rcases inv with ⟨rfl, al⟩ | ⟨j, hj, r, rfl, hf, al⟩
        · cases c
        · have m := miss_at wd l 0 j hj (fun i hi => by rw [Nat.zero_add]; exact al i (by omega) hi) (by rw [Nat.zero_add]; exact hf)
          have ew : wordAt l 0 wd = .error j := by
            unfold wordAt
            rw [m]
            show Except.error (0 + j) = _
            rw [Nat.zero_add]
          refine ⟨_, rfl, D, _, _, _, rfl, rfl, SqL.of (s2 D _ eD), atI_nat (j := 0) rfl, zl2, fun b nb => ?_⟩
          exact no j ew _ b ((s1.trans s2).trans (Same.new nb)) upd_same
      · rw [eqv_nil] at c
        have e0 : ns = [] := by
          cases ns with
          | nil => rfl
          | cons a r => exact absurd rfl c
        rcases inv with ⟨_, al⟩ | ⟨j, hj, r, e1, hf, _⟩
        · have m := miss_all wd l 0 (fun i hi => by rw [Nat.zero_add]; exact al i hi hi)
          have ew : wordAt l 0 wd = .ok wd.length := by
            unfold wordAt
            rw [m]
            show Except.ok (0 + wd.length) = _
            rw [Nat.zero_add]
          refine ⟨_, rfl, _, rfl, by rw [lw]; exact Nat.le_trans hw (by decide), zl2, fun b nb => ?_⟩
          have q := yes wd.length ew _ b ((s1.trans s2).trans (Same.new nb (o := .tup [.int ((S wd).length : Nat), .bl true]))) (by rw [upd_same, lw])
          exact q
        · rw [e0] at e1
          cases e1
end
end K5
/-! ### a turn and marks, as the law reads them -/
namespace K5
open PySem PySem.Spec PyProof.Rows L2
theorem bd_bd {e a b c : Type} (x : Except e a) (f : a → Except e b) (g : b → Except e c) : bd (bd x f) g = bd x fun v => bd (f v) g := by cases x <;> rfl
theorem pc_some {H : Hp} {v : V} {p : Pc} (h : IsPc H v p) : v ≠ .non := fun e => by
  subst e
  cases p with
  | turn t =>
    obtain ⟨a, e, _⟩ := h
    cases e
  | mark m => cases h
theorem o_bl : Str.ofString " " = S [32] := by decide
def bN (b : Bool) : Nat := if b = true then 1 else 0
theorem bN_int (b : Bool) : (if b = true then (1 : Int) else 0) = ((bN b : Nat) : Int) := by cases b <;> rfl
theorem int_eq (i j : Nat) : decide (V.int (i : Int) = V.int (j : Int)) = decide (i = j) := by
  rw [decide_eq_decide]
  exact ⟨fun h => by have := V.int.inj h; omega, fun h => by rw [h]⟩
theorem iteF' {c : Bool} {p q : Prop} (h : c = false) (k : q) : if c = true then p else q := by
  rw [h]
  exact k
theorem iteT' {c : Bool} {p q : Prop} (h : c = true) (k : p) : if c = true then p else q := by
  rw [if_pos h]
  exact k
section
variable {P : Program} {w : World} {K : PySem.W.Frag} {mg : Str → Option Value} {base : Heap}
def sp__law_pair_told : Sp := fun vs H Q _ => ∃ (l : List Nat) (p : Nat) (b : Bool), vs = [.str (S l), .int p, .bl b] ∧ l.length ≤ BIG ∧
  (∀ pcs, pcsTold (bN b) l (2 + bN b) 0 p = .ok pcs → ∀ H' a c us r, Same H H' → H' a = some (.tup [.ref c, .int r]) → H' c = some (.tup us) → Paired (IsPc H') us pcs → Q (.ref a) H') ∧
  (∀ q, pcsTold (bN b) l (2 + bN b) 0 p = .error q → ∀ H' a, Same H H' → H' a = some (.tup [.non, .int (q : Nat)]) → Q (.ref a) H')
theorem g__law_pair_told (T : Txt P w K mg base) : Gd P w K mg base 2 "_law_pair_told" ["_law_line", "_law_at", "_law_is_mark_ahead"] (sp__law_pair_told) := by
  refine gd_of (d := d__law_pair_told) T (by decide +kernel) (by simp [fn]) rfl (fun _ _ _ _ _ _ us hl => match us, hl with | [_, _, _], _ => rfl) fun fd F => F.ok sc__law_pair_told (fun vs H Q E h => ?_) fun cdv A outer s H vs Q E hr h => ?_
  · obtain ⟨l, p, b, rfl, hl, yes, no⟩ := h
    rfl
  · obtain ⟨l, p, b, rfl, hl, yes, no⟩ := h
    refine ⟨_, (pss_cons (ps_set (i := 3) sc__law_pair_told.nd rfl (.inl rfl) (pe_lst pa_nil))
      (pss_cons (ps_for passO rfl (pi_range1 rfl (T.free "range" (by decide +kernel)) (pa_cons (pe_op op_add pe_int (pe_callTy call_int1 rfl (T.free "int" (by decide +kernel)) boot_int (pa_cons (pv 2) pa_nil))) pa_nil)) (pg_name (i := 4) sc__law_pair_told.nd rfl (.inl rfl)) (pss_cons (ps_set (i := 5) sc__law_pair_told.nd rfl (.inl rfl) (pe_cmpR op_eq (pv 4) (pe_callTy call_int1 rfl (T.free "int" (by decide +kernel)) boot_int (pa_cons (pv 2) pa_nil)) (nomark _)))
      (pss_cons (ps_asg (pe_ifExp (pt_val (pv 5)) (pe_g (g__law_turn_told T) (hr.mono (by decide)) rfl passL (pa_cons (pv 0) (pa_cons (pv 1) pa_nil))) (pe_g (g__law_mark_told T) (hr.mono (by decide)) rfl passL (pa_cons (pv 0) (pa_cons (pv 1) pa_nil)))) (pg_tup rfl (pgs_cons (pg_name (i := 6) sc__law_pair_told.nd rfl (.inl rfl)) (pgs_cons (pg_name (i := 7) sc__law_pair_told.nd rfl (.inl rfl)) pgs_nil))))
      (pss_cons (ps_set (i := 8) sc__law_pair_told.nd rfl (.inl rfl) (pe_cmpR op_eq (pv 4) (pe_op op_add pe_int (pe_callTy call_int1 rfl (T.free "int" (by decide +kernel)) boot_int (pa_cons (pv 2) pa_nil))) (nomark _)))
      (pss_cons (ps_if (PW.pt (pw_or (pt_cmpR op_isN (pv 6) pe_non (nomark _)) (pw_or (PW.pt (pw_and (pt_val (pv 8)) (pw_and1 (pt_cmpR op_lt (pv 7) (pe_callB call_len_str rfl (T.free "len" (by decide +kernel)) boot_len (pa_cons (pv 0) pa_nil)) (nomark _))))) (pw_or1 (PW.pt (pw_and (pt_not (pt_val (pv 8))) (pw_and1 (pt_cmpR op_ne (pe_slice sl_str (pv 0) (po_some (pv 7)) (po_some (pe_op op_add (pv 7) pe_int))) pe_str (nomark _))))))))) (pss_one (ps_ret (pe_tup (pa_cons pe_non (pa_cons (pv 7) pa_nil))))) pss_nil)
      (pss_cons (ps_expr (pe_bm PySem.F.plainAttrs_list PySem.F.slot_list_append PySem.F.type_list_append mt_append (pv 3) (pa_cons (pv 6) pa_nil)))
      (pss_one (ps_set (i := 1) sc__law_pair_told.nd rfl (.inl rfl) (pe_op op_add (pv 7) pe_int)))))))))
      (pss_one (ps_ret (pe_tup (pa_cons (pe_callTy call_tuple_of rfl (T.free "tuple" (by decide +kernel)) boot_tuple (pa_cons (pv 3) pa_nil)) (pa_cons (pv 1) pa_nil))))))), ?_⟩
    have b1 : bN b ≤ 1 := by cases b <;> decide
    refine ⟨zl0, fun F nF => ?_⟩
    have s0 := Same.new nF (o := .lst [])
    have eF : upd H F (.lst []) F = some (.lst []) := upd_same
    generalize upd H F (.lst []) = H0 at s0 eF
    refine ⟨_, rfl, .inr ⟨b, rfl, _, _, rfl, rfl, _, rfl, by rw [bN_int]; omega, by rw [bN_int]; omega, ?_⟩⟩
    have en : ((2 : Int) + (if b = true then (1 : Int) else 0)).toNat = 2 + bN b := by
      rw [bN_int]
      omega
    refine for_it (walk_r0 (n := ((2 : Int) + (if b = true then (1 : Int) else 0)).toNat)) (fun i σ H1 => ∃ (q : Nat) (y4 y5 y6 y7 y8 : Option V) (vs : List V) (pcs : List Pc) (r : Int), σ = [some (.str (S l)), some (.int r), some (.bl b), some (.ref F), y4, y5, y6, y7, y8] ∧ r = (q : Int) ∧ Same H H1 ∧ H1 F = some (.lst vs) ∧ Paired (IsPc H1) vs pcs ∧ vs.length = i ∧
        pcsTold (bN b) l (2 + bN b) 0 p = bd (pcsTold (bN b) l (2 + bN b - i) i q) (fun r => .ok (pcs ++ r)))
      ⟨p, _, _, _, _, _, [], [], _, rfl, rfl, s0, eF, .nil, rfl, by
        rw [Nat.sub_zero]
        show _ = bd (pcsTold (bN b) l (2 + bN b) 0 p) fun r => .ok r
        cases pcsTold (bN b) l (2 + bN b) 0 p <;> rfl⟩ (fun _ _ _ _ _ => trivial) ?_ ?_
    · rintro i x σ H1 H1' hi ⟨q, y4, y5, y6, y7, y8, vs, pcs, r, rfl, rfl, s1, e1, pp, lv, inv⟩ ⟨rfl, rfl⟩
      rw [en] at hi
      obtain ⟨m, hm⟩ : ∃ m, 2 + bN b - i = m + 1 := ⟨2 + bN b - i - 1, by omega⟩
      have hm' : m = 2 + bN b - (i + 1) := by omega
      rw [hm] at inv
      have inv : pcsTold (bN b) l (2 + bN b) 0 p = bd (pcAt (decide (i = bN b)) l q) fun x => bd (nextAt (decide (i = 1 + bN b)) l x.2) fun q' => bd (pcsTold (bN b) l m (i + 1) q') fun r => .ok (pcs ++ x.1 :: r) := by
        rw [inv]
        have st : pcsTold (bN b) l (m + 1) i q = bd (pcAt (decide (i = bN b)) l q) fun x => bd (nextAt (decide (i = 1 + bN b)) l x.2) fun q' => bd (pcsTold (bN b) l m (i + 1) q') fun r => .ok (x.1 :: r) := rfl
        rw [st, bd_bd]
        refine congrArg (bd _) (funext fun x => ?_)
        rw [bd_bd]
        refine congrArg (bd _) (funext fun q' => ?_)
        rw [bd_bd]
        rfl
      have d1 : decide (V.int (i : Int) = V.int (if b = true then (1 : Int) else 0)) = decide (i = bN b) := by
        rw [bN_int]
        exact int_eq _ _
      have d2 : decide (V.int (i : Int) = V.int ((1 : Int) + (if b = true then (1 : Int) else 0))) = decide (i = 1 + bN b) := by
        rw [bN_int]
        exact int_eq i (1 + bN b)
      refine ⟨_, rfl, _, rfl, .inr ⟨b, rfl, rfl, ?_⟩⟩
      refine ⟨_, rfl, _, rfl, ite2 (fun du => ⟨_, rfl, _, rfl, l, q, rfl, hl, fun t e ht H2 a one s2 ea it => ⟨a, _, rfl, SqT.of ea, rfl, _, _, rfl, _, _, rfl, rfl, ?A⟩, fun e ht H2 a s2 ea => ⟨a, _, rfl, SqT.of ea, rfl, _, _, rfl, _, _, rfl, rfl, ?B⟩⟩)
        (fun du => ⟨_, rfl, _, rfl, l, q, rfl, hl, fun t e ht H2 a s2 ea => ⟨a, _, rfl, SqT.of ea, rfl, _, _, rfl, _, _, rfl, rfl, ?C⟩, fun e ht H2 a s2 ea => ⟨a, _, rfl, SqT.of ea, rfl, _, _, rfl, _, _, rfl, rfl, ?D⟩⟩)⟩
      case B =>
        rw [d1] at du
        have hp : pcAt true l q = .error e := by
          unfold pcAt
          rw [if_pos rfl, ht, bd_er]
        rw [du, hp, bd_er] at inv
        refine ⟨_, rfl, _, rfl, .inr ⟨b, rfl, _, _, rfl, rfl, rfl, _, rfl, rfl, true, rfl, _, rfl, zl2, fun c nc => ?_⟩⟩
        exact no e inv _ c ((s1.trans s2).trans (Same.new nc)) upd_same
      case D =>
        rw [d1] at du
        have hp : pcAt false l q = .error e := by
          unfold pcAt
          rw [if_neg (by decide), ht, bd_er]
        rw [eq_false_of_ne_true du, hp, bd_er] at inv
        refine ⟨_, rfl, _, rfl, .inr ⟨b, rfl, _, _, rfl, rfl, rfl, _, rfl, rfl, true, rfl, _, rfl, zl2, fun c nc => ?_⟩⟩
        exact no e inv _ c ((s1.trans s2).trans (Same.new nc)) upd_same
      case' A =>
        obtain ⟨pc, hpc⟩ : ∃ pc, pc = Pc.turn t := ⟨_, rfl⟩
        rw [d1] at du
        have hp : pcAt (decide (i = bN b)) l q = .ok (pc, e) := by
          rw [du, hpc]
          unfold pcAt
          rw [if_pos rfl, ht, bd_ok]
        have ip : IsPc H2 one pc := by
          rw [hpc]
          exact it
        clear it ht hpc du ea
      case' C =>
        obtain ⟨one, hone⟩ : ∃ one, one = V.str (S t) := ⟨_, rfl⟩
        obtain ⟨pc, hpc⟩ : ∃ pc, pc = Pc.mark t := ⟨_, rfl⟩
        rw [d1] at du
        have hp : pcAt (decide (i = bN b)) l q = .ok (pc, e) := by
          rw [eq_false_of_ne_true du, hpc]
          unfold pcAt
          rw [if_neg (by decide), ht, bd_ok]
        have ip : IsPc H2 one pc := by
          rw [hpc, hone]
          exact rfl
        rw [← hone]
        clear hone ht hpc du ea
      all_goals
        rw [hp, bd_ok] at inv
        have nn := pc_some ip
        have s12 := s1.trans s2
        refine ⟨_, rfl, _, rfl, .inr ⟨b, rfl, _, _, rfl, rfl, rfl, _, rfl, rfl, _, rfl, ite2 (fun x => absurd (of_decide_eq_true x) nn) (fun _ => ?_)⟩⟩
        have cute := cut_at l e
        refine ⟨_, rfl, _, rfl, ite2 (fun la => ?_) (fun la => ?_)⟩
        · rw [d2] at la
          rw [la] at inv
          refine ⟨_, rfl, _, rfl, _, rfl, sz (by rw [S_len]; exact hl), _, _, rfl, rfl, _, rfl, ite2 (fun lt => ?_) (fun lt => ?_)⟩
          · have lt1 : ((e : Nat) : Int) < ((S l).length : Int) := of_decide_eq_true lt
            rw [S_len] at lt1
            have hn : nextAt true l e = .error e := by
              unfold nextAt endAt
              rw [if_pos rfl, if_pos (by omega), bd_er]
            rw [hn, bd_er] at inv
            exact ⟨_, rfl, zl2, fun c nc => no e inv _ c (s12.trans (Same.new nc)) upd_same⟩
          · have lt1 : ¬ ((e : Nat) : Int) < ((S l).length : Int) := fun z => lt (decide_eq_true z)
            rw [S_len] at lt1
            have hn : nextAt true l e = .ok (e + 1) := by
              unfold nextAt endAt
              rw [if_pos rfl, if_neg (by omega), bd_ok]
            rw [hn, bd_ok] at inv
            refine ⟨_, rfl, _, rfl, iteF' (by rw [d2, la]; rfl) ?_⟩
            have e2 := s2 F _ e1
            refine ⟨_, rfl, .inl ⟨rfl, _, SqL.of e2⟩, _, rfl, F, vs, one, rfl, rfl, e2, szl (show _ ≤ 100000 by omega), ?_⟩
            have up : TupS H2 (upd H2 F (.lst (vs ++ [one]))) := TupS.lst e2
            refine ⟨_, rfl, _, _, rfl, rfl, e + 1, _, _, _, _, _, vs ++ [one], pcs ++ [pc], _, rfl, by omega, s12.put nF, upd_same, pair_snoc (L2.Paired.mapP pp fun _ _ z => IsPc.up (s2.ts.trans up) z) (ip.up up), by simp [lv], ?_⟩
            rw [inv, ← hm']
            refine congrArg (bd _) (funext fun r => ?_)
            rw [List.append_assoc]
            rfl
        · rw [d2] at la
          have la' := eq_false_of_ne_true la
          rw [la'] at inv
          refine ⟨_, rfl, _, rfl, iteT' (by rw [d2, la']; rfl) ?_⟩
          refine ⟨_, rfl, _, rfl, _, rfl, _, rfl, _, _, rfl, rfl, _, rfl, S l, rfl, sz (by rw [S_len]; exact hl), rfl, _, rfl, ite2 (fun ne => ?_) (fun ne => ?_)⟩
          · rw [cute, o_bl] at ne
            have nh : ¬ (l.drop e).head? = some 32 := fun z => by
              rw [decide_eq_true ((take_one _ _).mpr z)] at ne
              cases ne
            have hn : nextAt false l e = .error e := by
              unfold nextAt
              rw [if_neg (by decide), blank_at, if_neg nh]
            rw [hn, bd_er] at inv
            exact ⟨_, rfl, zl2, fun c nc => no e inv _ c (s12.trans (Same.new nc)) upd_same⟩
          · rw [cute, o_bl] at ne
            have nh : (l.drop e).head? = some 32 := (take_one _ _).mp (Decidable.byContradiction fun z => ne (by rw [decide_eq_false z]; rfl))
            have hn : nextAt false l e = .ok (e + 1) := by
              unfold nextAt
              rw [if_neg (by decide), blank_at, if_pos nh]
            rw [hn, bd_ok] at inv
            have e2 := s2 F _ e1
            refine ⟨_, rfl, .inl ⟨rfl, _, SqL.of e2⟩, _, rfl, F, vs, one, rfl, rfl, e2, szl (show _ ≤ 100000 by omega), ?_⟩
            have up : TupS H2 (upd H2 F (.lst (vs ++ [one]))) := TupS.lst e2
            refine ⟨_, rfl, _, _, rfl, rfl, e + 1, _, _, _, _, _, vs ++ [one], pcs ++ [pc], _, rfl, by omega, s12.put nF, upd_same, pair_snoc (L2.Paired.mapP pp fun _ _ z => IsPc.up (s2.ts.trans up) z) (ip.up up), by simp [lv], ?_⟩
            rw [inv, ← hm']
            refine congrArg (bd _) (funext fun r => ?_)
            rw [List.append_assoc]
            rfl
    · rintro σ H1 ⟨q, y4, y5, y6, y7, y8, vs, pcs, r, rfl, rfl, s1, e1, pp, lv, inv⟩
      rw [en, Nat.sub_self] at inv
      have inv' : pcsTold (bN b) l (2 + bN b) 0 p = .ok pcs := by
        rw [inv]
        show Except.ok (pcs ++ []) = _
        rw [List.append_nil]
      refine ⟨_, rfl, F, vs, rfl, .inl ⟨SqL.of e1, fun c nc => ⟨_, rfl, zl2, fun a na => ?_⟩⟩⟩
      have s2 := Same.new nc (o := .tup vs)
      have s3 := Same.new na (o := .tup [.ref c, .int (q : Int)])
      exact yes pcs inv' _ a c vs _ ((s1.trans s2).trans s3) upd_same (s3 c _ upd_same) (L2.Paired.mapP pp fun _ _ z => IsPc.up (s2.trans s3).ts z)
end
end K5
/-! ### a line, as the law reads it -/
namespace K5
open PySem PySem.Spec PyProof.Rows L2
theorem pcs_shape0 {l : List Nat} {p : Nat} {pcs : List Pc} (h : pcsTold 0 l 2 0 p = .ok pcs) : ∃ t m, pcs = [.turn t, .mark m] ∧ pairTold l p = .ok (t, m) := by
  have h0 := h
  have e : pcsTold 0 l 2 0 p = bd (bd (turnAt l p) fun x => .ok (Pc.turn x.1, x.2)) fun x => bd (wordAt l x.2 wBLANK) fun q' =>
      bd (bd (bd (markAt l q') fun x => .ok (Pc.mark x.1, x.2)) fun x => bd (bd (endAt l x.2) fun _ => .ok (x.2 + 1)) fun _ => bd (.ok []) fun r => .ok (x.1 :: r)) fun r => .ok (x.1 :: r) := rfl
  rw [e] at h
  obtain ⟨x, h1, h⟩ := bd_inv h
  obtain ⟨t, _, h1⟩ := bd_inv h1
  cases h1
  obtain ⟨q, _, h⟩ := bd_inv h
  obtain ⟨r, h2, h⟩ := bd_inv h
  cases h
  obtain ⟨y, h3, h2⟩ := bd_inv h2
  obtain ⟨m, _, h3⟩ := bd_inv h3
  cases h3
  obtain ⟨_, _, h2⟩ := bd_inv h2
  obtain ⟨_, h4, h2⟩ := bd_inv h2
  cases h4
  cases h2
  exact ⟨t.1, m.1, rfl, by rw [pair_pcs, h0]⟩
theorem pcs_shape1 {l : List Nat} {pcs : List Pc} (h : pcsTold 1 l 3 0 0 = .ok pcs) : ∃ m t o, pcs = [.mark m, .turn t, .mark o] ∧ entryTold l = .ok (m, t, o) := by
  have h0 := h
  have e : pcsTold 1 l 3 0 0 = bd (bd (markAt l 0) fun x => .ok (Pc.mark x.1, x.2)) fun x => bd (wordAt l x.2 wBLANK) fun q' => bd (bd (bd (turnAt l q') fun x => .ok (Pc.turn x.1, x.2)) fun x => bd (wordAt l x.2 wBLANK) fun q' =>
      bd (bd (bd (markAt l q') fun x => .ok (Pc.mark x.1, x.2)) fun x => bd (bd (endAt l x.2) fun _ => .ok (x.2 + 1)) fun _ => bd (.ok []) fun r => .ok (x.1 :: r)) fun r => .ok (x.1 :: r)) fun r => .ok (x.1 :: r) := rfl
  rw [e] at h
  obtain ⟨x, h1, h⟩ := bd_inv h
  obtain ⟨m, _, h1⟩ := bd_inv h1
  cases h1
  obtain ⟨q, _, h⟩ := bd_inv h
  obtain ⟨r, h2, h⟩ := bd_inv h
  cases h
  obtain ⟨x, k1, k⟩ := bd_inv h2
  obtain ⟨t, _, k1⟩ := bd_inv k1
  cases k1
  obtain ⟨q, _, k⟩ := bd_inv k
  obtain ⟨r, k2, k⟩ := bd_inv k
  clear h2
  cases k
  obtain ⟨y, k3, k4⟩ := bd_inv k2
  obtain ⟨o, _, k3⟩ := bd_inv k3
  cases k3
  obtain ⟨_, _, k5⟩ := bd_inv k4
  clear k2 k4
  cases k5
  exact ⟨m.1, t.1, o.1, rfl, by rw [entry_pcs, h0]⟩
theorem pcs_err0 {l : List Nat} {p q : Nat} (h : pcsTold 0 l 2 0 p = .error q) : pairTold l p = .error q := by rw [pair_pcs, h]
theorem pcs_err1 {l : List Nat} {q : Nat} (h : pcsTold 1 l 3 0 0 = .error q) : entryTold l = .error q := by rw [entry_pcs, h]
theorem shot_of {H : Hp} {c : Addr} {us : List V} {t m : List Nat} (e : H c = some (.tup us)) (p : Paired (IsPc H) us [.turn t, .mark m]) : IsShot H (.ref c) (t, m) := by
  cases p with
  | cons h1 p =>
    cases p with
    | cons h2 p =>
      cases p
      cases h2
      exact ⟨c, _, rfl, e, h1⟩
theorem entry_of {H : Hp} {c : Addr} {us : List V} {m t o : List Nat} (e : H c = some (.tup us)) (p : Paired (IsPc H) us [.mark m, .turn t, .mark o]) : IsEntry H (.ref c) (m, t, o) := by
  cases p with
  | cons h1 p =>
    cases p with
    | cons h2 p =>
      cases p with
      | cons h3 p =>
        cases p
        cases h1
        cases h3
        exact ⟨c, _, rfl, e, h2⟩
theorem miss_le : ∀ wd l : List Nat, miss wd l = none → wd.length ≤ l.length
  | [], _, _ => Nat.zero_le _
  | _ :: _, [], h => by cases h
  | w :: ws, c :: cs, h => by
    have h' : (if c = w then (miss ws cs).map (· + 1) else some 0) = none := h
    split at h'
    · have := miss_le ws cs (Option.map_eq_none_iff.mp h')
      simp only [List.length_cons]
      omega
    · cases h'
theorem word_len {l wd : List Nat} {r : Nat} (h : wordAt l 0 wd = .ok r) : r = wd.length ∧ r ≤ l.length := by
  unfold wordAt at h
  cases e : miss wd (l.drop 0) with
  | some k =>
    rw [e] at h
    cases h
  | none =>
    rw [e] at h
    have z := miss_le _ _ e
    rw [List.drop_zero] at z
    injection h with h
    omega
theorem word_p {l : List Nat} (h : l.head? = some 112) : wordAt l 0 wSHOT = .error 0 := by
  unfold wordAt
  cases l with
  | nil => cases h
  | cons a r =>
    cases h
    rfl
theorem o_progw : Str.ofString "program" = S wPROG := by decide
theorem o_p : Str.ofString "p" = S [112] := by decide
section
variable {P : Program} {w : World} {K : PySem.W.Frag} {mg : Str → Option Value} {base : Heap}
def sp__law_line_told : Sp := fun vs H Q _ => ∃ (l : List Nat) (sh pr : Addr) (s : RSt) (H0 : Hp), vs = [.str (S l), .ref sh, .ref pr] ∧ l.length ≤ BIG ∧ Rows H0 H sh pr s ∧ szR s < BIG ∧
  (∀ s', rowTold l s = .ok s' → ∀ H' a r, Rows H0 H' sh pr s' → H' a = some (.tup [.bl true, .int r]) → Q (.ref a) H') ∧ (∀ q, rowTold l s = .error q → ∀ H' a, Same H0 H' → H' a = some (.tup [.bl false, .int (q : Nat)]) → Q (.ref a) H')
theorem g__law_line_told (T : Txt P w K mg base) : Gd P w K mg base 3 "_law_line_told" ["_law_line", "_law_shots", "_law_programs"] (sp__law_line_told) := by
  refine gd_of (d := d__law_line_told) T (by decide +kernel) (by simp [fn]) rfl (fun _ _ _ _ _ _ us hl => match us, hl with | [_, _, _], _ => rfl) fun fd F => F.ok sc__law_line_told (fun vs H Q E h => ?_) fun cdv A outer s H vs Q E hr h => ?_
  · obtain ⟨l, sh, pr, s, H0, rfl, hl, ⟨us, qs, R⟩, hz, yes, no⟩ := h
    rfl
  · obtain ⟨l, sh, pr, s, H0, rfl, hl, ⟨us, qs, R⟩, hz, yes, no⟩ := h
    refine ⟨_, (pss_cons (ps_if (PW.pt (pw_and (pt_cmpR (op_eqNil hr.units0) (pv 2) (pe_lst pa_nil) (nomark _)) (pw_and1 (PW.pt (pw_or (pt_cmpR op_ne (pe_slice sl_str (pv 0) po_none (po_some pe_int)) pe_str (nomark _)) (pw_or1 (pt_cmpR (op_eqNil hr.units0) (pv 1) (pe_lst pa_nil) (nomark _)))))))) (pss_cons (ps_asg (pe_g (g__law_word_told T) (hr.mono (by decide)) rfl passL (pa_cons (pv 0) (pa_cons pe_str pa_nil))) (pg_tup rfl (pgs_cons (pg_name (i := 3) sc__law_line_told.nd rfl (.inl rfl)) (pgs_cons (pg_name (i := 4) sc__law_line_told.nd rfl (.inl rfl)) pgs_nil))))
      (pss_cons (ps_if (pt_not (pt_val (pv 4))) (pss_one (ps_ret (pe_tup (pa_cons pe_bl (pa_cons (pv 3) pa_nil))))) pss_nil)
      (pss_cons (ps_asg (pe_g (g__law_pair_told T) (hr.mono (by decide)) rfl passL (pa_cons (pv 0) (pa_cons (pv 3) (pa_cons pe_bl pa_nil)))) (pg_tup rfl (pgs_cons (pg_name (i := 5) sc__law_line_told.nd rfl (.inl rfl)) (pgs_cons (pg_name (i := 3) sc__law_line_told.nd rfl (.inl rfl)) pgs_nil))))
      (pss_cons (ps_expr (pe_bm PySem.F.plainAttrs_list PySem.F.slot_list_append PySem.F.type_list_append mt_append (pv 1) (pa_cons (pv 5) pa_nil)))
      (pss_one (ps_ret (pe_tup (pa_cons (pe_cmpR op_notN (pv 5) pe_non (nomark _)) (pa_cons (pv 3) pa_nil))))))))) pss_nil)
      (pss_cons (ps_if (pt_cmpR (op_eqNil hr.units0) (pv 2) (pe_lst pa_nil) (nomark _)) (pss_cons (ps_asg (pe_g (g__law_word_told T) (hr.mono (by decide)) rfl passL (pa_cons (pv 0) (pa_cons pe_str pa_nil))) (pg_tup rfl (pgs_cons (pg_name (i := 3) sc__law_line_told.nd rfl (.inl rfl)) (pgs_cons (pg_name (i := 4) sc__law_line_told.nd rfl (.inl rfl)) pgs_nil))))
      (pss_cons (ps_expr (pe_bm PySem.F.plainAttrs_list PySem.F.slot_list_append PySem.F.type_list_append mt_append (pv 2) (pa_cons (pe_lst pa_nil) pa_nil)))
      (pss_one (ps_ret (pe_tup (pa_cons (pe_and (pv 4) (pe_one (pe_cmpR op_eq (pv 3) (pe_callB call_len_str rfl (T.free "len" (by decide +kernel)) boot_len (pa_cons (pv 0) pa_nil)) (nomark _)))) (pa_cons (pv 3) pa_nil))))))) pss_nil)
      (pss_cons (ps_if (pt_cmpR op_eq (pv 0) pe_str (nomark _)) (pss_cons (ps_expr (pe_bm PySem.F.plainAttrs_list PySem.F.slot_list_append PySem.F.type_list_append mt_append (pv 2) (pa_cons (pe_lst pa_nil) pa_nil)))
      (pss_one (ps_ret (pe_tup (pa_cons pe_bl (pa_cons pe_int pa_nil)))))) pss_nil)
      (pss_cons (ps_asg (pe_g (g__law_pair_told T) (hr.mono (by decide)) rfl passL (pa_cons (pv 0) (pa_cons pe_int (pa_cons pe_bl pa_nil)))) (pg_tup rfl (pgs_cons (pg_name (i := 5) sc__law_line_told.nd rfl (.inl rfl)) (pgs_cons (pg_name (i := 3) sc__law_line_told.nd rfl (.inl rfl)) pgs_nil))))
      (pss_cons (ps_expr (pe_bm PySem.F.plainAttrs_list PySem.F.slot_list_append PySem.F.type_list_append mt_append (pe_ix ix_list (pv 2) (pe_un un_neg pe_int) (fun _ _ => rfl)) (pa_cons (pv 5) pa_nil)))
      (pss_one (ps_ret (pe_tup (pa_cons (pe_cmpR op_notN (pv 5) pe_non (nomark _)) (pa_cons (pv 3) pa_nil)))))))))), ?_⟩
    have z1 : us.length = s.shots.length := pair_len R.p1
    have z2 : qs.length = s.progs.length := pair_len R.p2
    have ui := pair_nil R.p1
    have qi := pair_nil R.p2
    have szs : us.length < sizeLine := szl (by unfold szR at hz; omega)
    have szq : qs.length < sizeLine := szl (by unfold szR at hz; omega)
    have hc1 := cut_one l
    refine ⟨_, rfl, zl0, fun a1 n1 => ?_⟩
    have s1 := Same.new n1 (o := .lst [])
    have R1 := R.up s1
    by_cases c0 : s.progs = []
    · have q0 : qs.isEmpty = true := by rw [qi, decide_eq_true c0]
      refine ⟨pr, a1, qs, rfl, rfl, SqL.of R1.e2, SqL.of upd_same, _, rfl, iteT' q0 ?_⟩
      refine ⟨_, rfl, _, rfl, S l, rfl, sz (by rw [S_len]; exact hl), rfl, _, rfl, ite2 (fun d => ?A) (fun d => ⟨_, rfl, zl0, fun a2 n2 => ⟨sh, a2, us, rfl, rfl, SqL.of (R1.up (Same.new n2)).e1, SqL.of upd_same, _, rfl, ite2 (fun f => ?B) (fun f => ?C)⟩⟩)⟩
      case' A =>
        rw [hc1, o_p] at d
        have hd : l.head? ≠ some 112 := fun z => by
          rw [decide_eq_true ((take_one l 112).mpr z)] at d
          cases d
        have er : rowTold l s = bd (shotTold l) fun x => .ok ⟨s.shots ++ [x], s.progs⟩ := by
          unfold rowTold
          rw [if_pos ⟨c0, hd⟩]
        clear hd d
        generalize upd H a1 (.lst []) = H1 at s1 R1
      case' B =>
        rw [hc1, o_p] at d
        have hd : l.head? = some 112 := (take_one l 112).mp (Decidable.byContradiction fun z => d (by rw [decide_eq_false z]; rfl))
        rw [ui] at f
        have f0 : s.shots = [] := of_decide_eq_true f
        have er : rowTold l s = bd (shotTold l) fun x => .ok ⟨s.shots ++ [x], s.progs⟩ := by
          unfold rowTold shotTold
          rw [if_neg (fun z => z.2 hd), if_pos ⟨c0, f0⟩, word_p hd]
          rfl
        have s2 := s1.trans (Same.new n2 (o := .lst []))
        have R2 := R1.up (Same.new n2 (o := .lst []))
        clear hd f f0 d R1
        have R1 := R2
        clear R2 s1
        have s1 := s2
        clear s2
        generalize upd (upd H a1 (.lst [])) a2 (.lst []) = H1 at s1 R1
        clear n2 a2
      case C =>
        rw [hc1, o_p] at d
        have hd : l.head? = some 112 := (take_one l 112).mp (Decidable.byContradiction fun z => d (by rw [decide_eq_false z]; rfl))
        rw [ui] at f
        have f0 : ¬ s.shots = [] := fun z => f (decide_eq_true z)
        have er : rowTold l s = bd (wordAt l 0 wPROG) fun a => bd (endAt l a) fun _ => .ok ⟨s.shots, s.progs ++ [[]]⟩ := by
          unfold rowTold
          rw [if_neg (fun z => z.2 hd), if_neg (fun z => f0 z.2), if_pos c0]
        have R2 := R1.up (Same.new n2 (o := .lst []))
        refine ⟨_, rfl, zl0, fun a3 n3 => ?_⟩
        have R3 := R2.up (Same.new n3 (o := .lst []))
        refine ⟨pr, a3, qs, rfl, rfl, SqL.of R3.e2, SqL.of upd_same, _, rfl, iteT' q0 ?_⟩
        refine ⟨_, rfl, l, wPROG, rfl, hl, by decide, fun r hr' H4 b s4 eb => ?_, fun q hq H4 b s4 eb => ?_⟩
        · obtain ⟨r1, r2⟩ := word_len hr'
          have R4 := R3.up s4
          refine ⟨b, _, rfl, SqT.of eb, rfl, _, _, rfl, _, _, rfl, rfl, ?_⟩
          refine ⟨_, rfl, .inl ⟨rfl, _, SqL.of R4.e2⟩, zl0, fun a5 n5 => ⟨pr, _, _, rfl, rfl, (R4.up (Same.new n5)).e2, szq, ?_⟩⟩
          have R5 := R4.prog n5
          refine ⟨_, rfl, true, rfl, _, rfl, _, rfl, _, rfl, sz (by rw [S_len]; exact hl), rfl, _, rfl, zl2, fun c nc => ?_⟩
          have sc := Same.new nc (o := .tup [.bl (decide (V.int (r : Nat) = V.int ((S l).length : Nat))), .int (r : Nat)])
          rw [hr', bd_ok] at er
          by_cases lt : r < l.length
          · have ee : endAt l r = .error r := if_pos lt
            rw [ee, bd_er] at er
            refine no r er _ c (R5.sm.trans sc) ?_
            have e0 : decide (V.int (r : Nat) = V.int ((S l).length : Nat)) = false := by
              rw [S_len, int_eq]
              exact decide_eq_false (by omega)
            rw [e0] at sc ⊢
            exact upd_same
          · have ee : endAt l r = .ok () := if_neg lt
            rw [ee, bd_ok] at er
            have e0 : decide (V.int (r : Nat) = V.int ((S l).length : Nat)) = true := by
              rw [S_len, int_eq]
              exact decide_eq_true (by omega)
            rw [e0] at sc ⊢
            exact yes _ er _ c _ ⟨_, _, R5.up sc⟩ upd_same
        · rw [hq, bd_er] at er
          have R4 := R3.up s4
          refine ⟨b, _, rfl, SqT.of eb, rfl, _, _, rfl, _, _, rfl, rfl, ?_⟩
          refine ⟨_, rfl, .inl ⟨rfl, _, SqL.of R4.e2⟩, zl0, fun a5 n5 => ⟨pr, _, _, rfl, rfl, (R4.up (Same.new n5)).e2, szq, ?_⟩⟩
          have R5 := R4.prog n5
          exact ⟨_, rfl, false, rfl, _, rfl, zl2, fun c nc => no q er _ c (R5.sm.trans (Same.new nc)) upd_same⟩
      all_goals
        refine ⟨_, rfl, l, wSHOT, rfl, hl, by decide, fun r hr' H4 b s4 eb => ?_, fun q hq H4 b s4 eb => ?_⟩
        · have R4 := R1.up s4
          have es : shotTold l = pairTold l r := by
            unfold shotTold
            rw [hr', bd_ok]
          rw [es] at er
          refine ⟨b, _, rfl, SqT.of eb, rfl, _, _, rfl, _, _, rfl, rfl, _, rfl, _, rfl, _, rfl, _, rfl, l, r, false, rfl, hl, fun pcs hp H5 a5 c vs k s5 e5 ec pp => ?_, fun q hq H5 a5 s5 e5 => ?_⟩
          · obtain ⟨t, m, rfl, hpt⟩ := pcs_shape0 hp
            rw [hpt, bd_ok] at er
            have R5 := R4.up s5
            refine ⟨a5, _, rfl, SqT.of e5, rfl, _, _, rfl, _, _, rfl, rfl, ?_⟩
            refine ⟨_, rfl, .inl ⟨rfl, _, SqL.of R5.e1⟩, _, rfl, sh, us, _, rfl, rfl, R5.e1, szs, ?_⟩
            have R6 := R5.shot (shot_of ec pp)
            exact ⟨_, rfl, rfl, _, rfl, zl2, fun b6 n6 => yes _ er _ b6 _ ⟨_, _, R6.up (Same.new n6)⟩ upd_same⟩
          · rw [pcs_err0 hq, bd_er] at er
            have R5 := R4.up s5
            refine ⟨a5, _, rfl, SqT.of e5, rfl, _, _, rfl, _, _, rfl, rfl, ?_⟩
            refine ⟨_, rfl, .inl ⟨rfl, _, SqL.of R5.e1⟩, _, rfl, sh, us, _, rfl, rfl, R5.e1, szs, ?_⟩
            exact ⟨_, rfl, rfl, _, rfl, zl2, fun b6 n6 => no q er _ b6 ((R5.sm.put R5.n1).trans (Same.new n6)) upd_same⟩
        · have es : shotTold l = .error q := by
            unfold shotTold
            rw [hq, bd_er]
          rw [es, bd_er] at er
          have R4 := R1.up s4
          exact ⟨b, _, rfl, SqT.of eb, rfl, _, _, rfl, _, _, rfl, rfl, _, rfl, _, rfl, _, rfl, zl2, fun b6 n6 => no q er _ b6 (R4.sm.trans (Same.new n6)) upd_same⟩
    · have q0 : qs.isEmpty = false := by rw [qi, decide_eq_false c0]
      refine ⟨pr, a1, qs, rfl, rfl, SqL.of R1.e2, SqL.of upd_same, _, rfl, iteF' q0 ?_⟩
      refine ⟨_, rfl, zl0, fun a2 n2 => ?_⟩
      have R2 := R1.up (Same.new n2 (o := .lst []))
      refine ⟨pr, a2, qs, rfl, rfl, SqL.of R2.e2, SqL.of upd_same, _, rfl, iteF' q0 ?_⟩
      have m0 : ¬ (s.progs = [] ∧ l.head? ≠ some 112) := fun z => c0 z.1
      have m1 : ¬ (s.progs = [] ∧ s.shots = []) := fun z => c0 z.1
      refine ⟨_, rfl, rfl, _, rfl, ite2 (fun g => ?_) (fun g => ?_)⟩
      · rw [o_progw] at g
        have g0 : l = wPROG := S_inj (V.str.inj (of_decide_eq_true g))
        refine ⟨_, rfl, .inl ⟨rfl, _, SqL.of R2.e2⟩, zl0, fun a6 n6 => ⟨pr, _, _, rfl, rfl, (R2.up (Same.new n6)).e2, szq, ?_⟩⟩
        have R5 := R2.prog n6
        refine ⟨zl2, fun b nb => yes _ ?_ _ b _ ⟨_, _, R5.up (Same.new nb)⟩ upd_same⟩
        unfold rowTold
        rw [if_neg m0, if_neg m1, if_neg c0, if_pos g0]
      · rw [o_progw] at g
        have g0 : ¬ l = wPROG := fun z => g (decide_eq_true (by rw [z]))
        have er : rowTold l s = bd (entryTold l) fun e => .ok ⟨s.shots, addEntry e s.progs⟩ := by
          unfold rowTold
          rw [if_neg m0, if_neg m1, if_neg c0, if_neg g0]
        refine ⟨_, rfl, l, 0, true, rfl, hl, fun pcs hp H5 a5 c vs k s5 e5 ec pp => ?_, fun q hq H5 a5 s5 e5 => ?_⟩
        · obtain ⟨m, t, o, rfl, hpt⟩ := pcs_shape1 hp
          rw [hpt, bd_ok] at er
          have R5 := R2.up s5
          obtain ⟨qs0, a, es, p, rfl, ea, le, mp, kk⟩ := R5.entry c0
          have le2 := szR_mem mp
          refine ⟨a5, _, rfl, SqT.of e5, rfl, _, _, rfl, _, _, rfl, rfl, ?_⟩
          refine ⟨_, rfl, _, rfl, pr, _, _, _, rfl, rfl, SqL.of R5.e2, atI_last _ _, .inl ⟨rfl, _, SqL.of ea⟩, _, rfl, a, es, _, rfl, rfl, ea, szl (by omega), ?_⟩
          have R6 := kk H5 (.ref c) (m, t, o) (Same.refl _) (entry_of ec pp)
          exact ⟨_, rfl, rfl, _, rfl, zl2, fun b6 n6 => yes _ er _ b6 _ ⟨_, _, R6.up (Same.new n6)⟩ upd_same⟩
        · rw [pcs_err1 hq, bd_er] at er
          have R5 := R2.up s5
          obtain ⟨qs0, a, es, p, rfl, ea, le, mp, kk⟩ := R5.entry c0
          have le2 := szR_mem mp
          have n0 : H0 a = none := by
            obtain ⟨_, _, a', es', e1, e2, e3, e4, e5', e6⟩ := pair_get R5.p2 (i := qs0.length) (a := V.ref a) (by simp)
            cases e1
            exact e2
          refine ⟨a5, _, rfl, SqT.of e5, rfl, _, _, rfl, _, _, rfl, rfl, ?_⟩
          refine ⟨_, rfl, _, rfl, pr, _, _, _, rfl, rfl, SqL.of R5.e2, atI_last _ _, .inl ⟨rfl, _, SqL.of ea⟩, _, rfl, a, es, _, rfl, rfl, ea, szl (by omega), ?_⟩
          exact ⟨_, rfl, rfl, _, rfl, zl2, fun b6 n6 => no q er _ b6 ((R5.sm.put n0).trans (Same.new n6)) upd_same⟩
end
end K5
/-! ### an error that is kept behind its except suite -/
namespace K5
open PySem PySem.Spec PyProof.Rows L2
section
variable {X : Cx} {x n : Str} {c : Value} {i : Nat} {body suite rest : List Stmt} {b₀ : Stmt} {np pos pos' : Pos} {tb : WX → TS} {ts t2 : Addr → Value → Option Addr → TS} {t1 : TS} {Wout : WX}
theorem pss_never : PSs X rest (fun _ _ _ => False) := ⟨fun _ _ _ _ _ _ h => h.elim⟩
/-- what the try wishes: the suite, then the rest of the block with the error known -/
def wKeep (K : PySem.W.Frag) (c : Value) (i : Nat) (ts t2 : Addr → Value → Option Addr → TS) (Wout : WX) (D : Ends) : WX := fun cls d σ H =>
  ∃ b, PySem.W.exmOne K cls c = some b ∧ (b = true → ∀ a, H a = none → ts a cls d { nx := fun σ' H' => t2 a cls d D (σ'.set i none) H', rt := fun _ _ => False, bk := fun _ _ => False, ct := fun _ _ => False } (σ.set i (some (.ref a))) H) ∧ (b = false → Wout cls d σ H)
theorem inv_pins {pins : List (Addr × Obj)} {σ : L2.St} {H : Hp} {s : Shared} {q : Addr × Obj} {xe : Value → Shared → Prop} (I : Inv (X.tr (q :: (X.pn ++ pins)) xe) [] σ H s) (ok : X.Ok) : Inv X pins σ H s :=
  ⟨ok, I.os, I.bare, I.base, I.loc, I.cell, I.free, I.freeC, fun p hp => I.pin p (by rw [List.append_nil]; exact List.mem_cons_of_mem _ hp), I.hok, I.len⟩
theorem pss_try_keep (hs : X.stack = X.env :: X.outer) (hf : X.env.frame = some X.env.locals) (hN : X.N.Nodup) (hi : X.N[i]? = some n) (hln : X.env.kindOf n = some .local) (hc : Names X x c) (tk : Takes X Wout)
    (hb : ∀ (W : WX) (pn : List (Addr × Obj)) (xe : Value → Shared → Prop), Takes (X.tr pn xe) W → PassesOwn (model X.prog X.w) X.A X.env xe → PSs (X.tr pn xe) body (tb W))
    (hsu : ∀ (a : Addr) (oe : Obj) (cls : Value) (d : Option Addr) (pn : List (Addr × Obj)), Zc cls d oe → (∃ vs, oe.data = .fields vs) → PSs (X.suite a ((a, oe) :: pn)) (b₀ :: suite) (ts a cls d))
    (h1 : PSs X rest t1) (h2 : ∀ (a : Addr) (oe : Obj) (cls : Value) (d : Option Addr) (pn : List (Addr × Obj)), Zc cls d oe → (∃ vs, oe.data = .fields vs) → PSs (X.tr ((a, oe) :: pn) X.xe) rest (t2 a cls d)) :
    PSs X (.Try body [.ExceptHandler (some (.Name x np)) (some n) (b₀ :: suite) pos'] [] [] pos :: rest) (fun D σ H => tb (wKeep X.K c i ts t2 Wout D) { D with nx := t1 D } σ H) := by
  constructor
  intro pins s σ H D I h
  have ok := I.ok
  have hfr : X.A.frames = some (X.env :: X.outer) := ok.frames.trans (congrArg some hs)
  have hloc : Loc X.env.scope n := .inl hln
  -- what stands behind the try, whichever way it was left
  let R : Flow → Shared → Prop := fun f s1 => SP X pins { D with nx := t1 D } f s1 ∨ (f = .next ∧ ∃ (a : Addr) (oe : Obj) (cls : Value) (d : Option Addr) (σ' : L2.St) (H' : Hp), Inv (X.tr ((a, oe) :: (X.pn ++ pins)) X.xe) [] σ' H' s1 ∧ Zc cls d oe ∧ (∃ vs, oe.data = .fields vs) ∧ t2 a cls d D σ' H')
  suffices g : wpAny (model X.prog X.w) X.A (exec (.Try body [.ExceptHandler (some (.Name x np)) (some n) (b₀ :: suite) pos'] [] [] pos) X.env) R X.xe s by
    refine wpAny_execs_cons (thn g fun f s1 q => ?_)
    rcases q with q | ⟨rfl, a, oe, cls, d, σ', H', I', hz, hd, q⟩
    · cases f with
      | next =>
        obtain ⟨σ', H', I', q⟩ := q
        exact h1.run pins s1 σ' H' D I' q
      | ret v => exact q
      | brk => exact q
      | cont => exact q
    · refine thn ((h2 a oe cls d (X.pn ++ pins) hz hd).run [] s1 σ' H' D I' q) fun f s2 z => ?_
      cases f with
      | next =>
        obtain ⟨σ2, H2, I2, z⟩ := z
        exact ⟨σ2, H2, inv_pins I2 ok, z⟩
      | ret v =>
        obtain ⟨u, σ2, H2, I2, r, z⟩ := z
        exact ⟨u, σ2, H2, inv_pins I2 ok, r, z⟩
      | brk =>
        obtain ⟨σ2, H2, I2, z⟩ := z
        exact ⟨σ2, H2, inv_pins I2 ok, z⟩
      | cont =>
        obtain ⟨σ2, H2, I2, z⟩ := z
        exact ⟨σ2, H2, inv_pins I2 ok, z⟩
  refine wpAny_Try_except (wpAny_mono ((hb (wKeep X.K c i ts t2 Wout D) (X.pn ++ pins) (fun e s₁ => wpAny (model X.prog X.w) X.A (noteFrame e X.env) (fun _ s₂ => wpAny (model X.prog X.w) X.A (setFlight e none) (fun _ s₃ =>
    wpAny (model X.prog X.w) X.A (handleBy e X.env [.ExceptHandler (some (.Name x np)) (some n) (b₀ :: suite) pos']) R X.xe s₃) X.xe s₂) X.xe s₁) (fun u s' xx => ?_) PassesOwn.looking).run [] s σ H { D with nx := t1 D } (I.toTry _) h) (fun f s1 q => ?_) (fun e s1 he => he))
  · obtain ⟨a, B, sI, pins', σ', H', cls, d, rfl, J', nb, up, sky, na, os, ag, b, hb1, hyes, hno⟩ := xx
    have J : Inv X pins σ' H' sI := J'.ofTry ok
    have sky' : Sky B (X.env :: X.outer) a (Zc cls d) X.env.locals s'.heap := hs ▸ sky
    refine (Sky.land Zc.steady hfr hf sky' fun h3 fl3 up3 => ?_ : wpAny (model X.prog X.w) X.A (noteFrame (.ref a) X.env) _ _ _)
    have J3 : Inv X pins σ' H' { s' with heap := h3 } := J.landed nb fl3.1 (up.trans up3) os ag
    obtain ⟨o3, v3, he3, hz3, hd3⟩ := fl3.there
    have nfr : a ∉ frs (X.env :: X.outer) := fun hm => by
      obtain ⟨_, o', e', hnf⟩ := fl3.2.2.1.mem hm
      rw [he3] at e'
      cases e'
      exact hnf _ hd3
    have nL : a ≠ X.env.locals := fun z => nfr (List.mem_filterMap.mpr ⟨X.env, List.mem_cons_self, hf.trans (by rw [z])⟩)
    have nF : a ∉ X.fs := fun hm => by
      obtain ⟨e, he, q⟩ := List.mem_filterMap.mp hm
      exact nfr (List.mem_filterMap.mpr ⟨e, List.mem_cons_of_mem _ he, q⟩)
    have S3 := J3.suite he3 hd3 na nL nF
    refine wpAny_handleBy_cons (codeAny_handlers_test ?_) (fun q => nomatch q)
    have LT : PySem.W.Looks (model X.prog X.w) h3 (typeOf (.ref a)) cls := fun A Q E s k q => wpAny_typeOf_ref (k _ _ he3) (by rw [hz3.1]; exact q)
    have LM := PySem.W.exm_one (M := model X.prog X.w) J3.kIn LT hb1
    have test : ∀ {Q : Value → Shared → Prop} {E : Value → Shared → Prop}, Q c { s' with heap := h3 } → wpAny (model X.prog X.w) (X.A.mark (some (.ref a))) (eval (.Name x np) X.env) Q E { s' with heap := h3 } := fun {Q E} q => by
      obtain ⟨hg, hdbg, hm | ⟨hm, hv, hnn⟩⟩ := hc
      · exact ld_glob (X := X.suite a ((a, o3) :: (X.pn ++ pins))) S3 hg hm q hdbg
      · exact ld_blt (X := X.suite a ((a, o3) :: (X.pn ++ pins))) S3 hg hm hv q hnn hdbg
    refine test (LM.here ?_)
    cases b with
    | true =>
      refine codeAny_handlers_suite_as (HandSPX.lands_againZ fl3 fun h4 fl4 up4 => ?_)
      have J4 : Inv X pins σ' H' { s' with heap := h4 } := J.landed nb fl4.1 ((up.trans up3).trans up4) os ag
      obtain ⟨o4, v4, he4, hz4, hd4⟩ := fl4.there
      refine store_ok (X := X.suite a ((a, o4) :: (X.pn ++ pins))) (v := .ref a) (J4.suite he4 hd4 na nL nF) hN hi hloc rfl (fun s5 S5 => ?_) (.inr hln)
      refine wpAny_mono ((hsu a o4 cls d (X.pn ++ pins) hz4 ⟨_, hd4⟩).run [] s5 _ H' _ S5 (hyes rfl a na)) (fun f s6 q6 => ?_) (fun _ _ z => False.elim z)
      cases f with
      | next =>
        obtain ⟨σ6, H6, S6, z6⟩ := q6
        have S7 : Inv (X.tr ((a, o4) :: (X.pn ++ pins)) X.xe) [] σ6 H6 s6 := ⟨ok.toTry _ _, S6.os, S6.bare, S6.base, S6.loc, S6.cell, S6.free, S6.freeC, S6.pin, S6.hok, S6.len⟩
        exact gone_ok (X := X.tr ((a, o4) :: (X.pn ++ pins)) X.xe) S7 hN hi hln fun s7 J7 => .inr ⟨rfl, a, o4, cls, d, _, _, J7, hz4, ⟨_, hd4⟩, z6⟩
      | brk =>
        obtain ⟨_, _, _, z6⟩ := q6
        exact z6.elim
      | cont =>
        obtain ⟨_, _, _, z6⟩ := q6
        exact z6.elim
      | ret u =>
        obtain ⟨_, _, _, _, _, z6⟩ := q6
        exact z6.elim
    | false =>
      refine (wpAny_handleBy_nil ?_ : wpAny _ X.A (handleBy (.ref a) X.env []) _ _ _)
      obtain ⟨k1, k2, k3, oe, vs, T, oT, ts', he, hz, hd, e1, hr⟩ := id fl3
      have fin : wpAny (model X.prog X.w) X.A (setFlight (.ref a) X.env.frame) (fun _ s4 => wpAny (model X.prog X.w) X.A (throw (.ref a) : Sem Flow) R X.xe s4) X.xe { s' with heap := h3 } := by
        rw [hf]
        refine HandSPX.setFlight_upZ fl3 fun h4 hh4 up4 => wpAny_throw (tk _ _ ⟨a, B, sI, pins, σ', H', cls, d, rfl, J, nb, (up.trans up3).trans up4, .inr (.inr (by rw [hs]; exact hh4)), na, os, ag, hno rfl⟩)
      unfold PySem.passOn
      refine wpAny_bind (wpAny_field he hd e1 ?_)
      rw [if_neg (show ¬ ((Value.ref T == Value.none) = true) from by simp)]
      first
        | exact wpAny_bind (wpAny_pure (wpAny_bind fin))
        | exact wpAny_bind fin
  · cases f with
    | next =>
      obtain ⟨σ2, H2, J2, q⟩ := q
      exact wpAny_execs_nil (.inl ⟨σ2, H2, J2.ofTry ok, q⟩)
    | brk =>
      obtain ⟨σ2, H2, J2, q⟩ := q
      exact .inl ⟨σ2, H2, J2.ofTry ok, q⟩
    | cont =>
      obtain ⟨σ2, H2, J2, q⟩ := q
      exact .inl ⟨σ2, H2, J2.ofTry ok, q⟩
    | ret u =>
      obtain ⟨v, σ2, H2, J2, r, q⟩ := q
      exact .inl ⟨v, σ2, H2, J2.ofTry ok, r, q⟩
end
/-! isinstance and the attributes of an error that is known -/
def PinX (X : Cx) (a : Addr) (cls : Value) (d : Option Addr) : Prop := ∃ oe : Obj, (a, oe) ∈ X.pn ∧ Zc cls d oe ∧ ∃ vs, oe.data = .fields vs
structure ExcQ (K : PySem.W.Frag) (D : Addr) : Prop where
  c : ExcC K D
def excB (K : PySem.W.Frag) (D : Addr) : Bool := decide (PySem.W.findIn K (.ref D) "__getattribute__" = some (some (.builtin "BaseException.__getattribute__"))) && (decide (PySem.W.findIn K (.ref D) "__getattr__" = some none) && (decide (PySem.W.subIn K (.ref D) (.type "BaseException") = some true) &&
  (PySem.W.hasDictIn K D && (decide (PySem.W.findIn K (.ref D) "__class__" = some (some (.builtin "object.__class__"))) && (decide (PySem.W.specialIn K (.builtin "object.__class__") "__get__" = some (some (.builtin "getset_descriptor.__get__"))) &&
  (decide (PySem.W.takesIn K (.builtin "object.__class__") = some true) && decide (PySem.W.mroIn K D (.type "object") = some true)))))))
theorem exc_of {K : PySem.W.Frag} {D : Addr} (h : excB K D = true) : ExcC K D := by
  obtain ⟨h1, h⟩ := b2 h
  obtain ⟨h2, h⟩ := b2 h
  obtain ⟨h3, h⟩ := b2 h
  obtain ⟨h4, h⟩ := b2 h
  obtain ⟨h5, h⟩ := b2 h
  obtain ⟨h6, h⟩ := b2 h
  obtain ⟨h7, h8⟩ := b2 h
  exact ⟨of_decide_eq_true h1, of_decide_eq_true h2, of_decide_eq_true h3, h4, of_decide_eq_true h5, of_decide_eq_true h6, of_decide_eq_true h7, of_decide_eq_true h8⟩
section
variable {X : Cx} {a D dd : Addr} {K : PySem.W.Frag}
theorem inst_at {pins : List (Addr × Obj)} {σ : L2.St} {H : Hp} {s : Shared} {fs : List (Str × V)} (I : Inv X pins σ H s) (P : PinX X a (.ref D) (some dd)) (hd : H dd = some (.xd fs)) :
    ∃ oe od, PySem.W.InstAt s.heap a oe D (some od) ∧ ∃ mA : Str → Option Value, (∀ name, PySem.W.lookIn name od = some (mA name)) ∧ ∀ f, RelO (fs.lookup f) (mA f) := by
  obtain ⟨oe, hm, hz, vs, hv⟩ := P
  obtain ⟨hget, _⟩ := I.pin (a, oe) (List.mem_append.mpr (.inl hm))
  obtain ⟨mA, hns, hr⟩ := (show ObjOk X.prog X.w H s.heap dd (.xd fs) from I.hok dd _ hd)
  obtain ⟨od, ho, hl⟩ := lookIn_ns hns
  exact ⟨oe, od, ⟨hget, hz.1, by unfold PySem.W.notCls; rw [hv] <;> rfl, by rw [hz.2]; exact ho⟩, mA, hl, hr⟩
theorem kit_exc (C : ExcC K D) {x : Addr} {ox : Obj} {od : Option Obj} : PySem.W.KitX K (.ref x) (.ref D) (fun h => PySem.W.InstAt h x ox D od) :=
  PySem.W.kitx_exc (by obtain ⟨cd, hc, _⟩ := PySem.W.any_some C.hd; rw [hc]; rfl) C.hg C.hk C.hs C.ha C.hn C.ht C.hm
def rIsP (K : PySem.W.Frag) (D a dd : Addr) : List V → Hp → VK → Prop := fun xs H Q => ∃ (c : V) (u : Value) (b : Bool) (fs : List (Str × V)), xs = [.ref a, c] ∧ ClsV c u ∧ PySem.W.kitOne K (.ref D) u = some b ∧ H dd = some (.xd fs) ∧ Q (.bl b) H
theorem call_isP (hK : X.K = K) (C : ExcC K D) (P : PinX X a (.ref D) (some dd)) : CallR X (.builtin "isinstance") (rIsP K D a dd) := by
  subst hK
  intro pins s σ H xs us Q I r h
  obtain ⟨c, u, b, fs, rfl, k, e, hd, q⟩ := h
  obtain ⟨u1, u2, rfl, r1, r2⟩ := vals2 r
  have e2 := k.eq r2
  subst e2
  cases (show u1 = Value.ref a from r1)
  obtain ⟨oe, od, J, _⟩ := inst_at I P hd
  exact PySem.W.kia_one (kit_exc C) I.kIn J e (fun z => nomatch z) fun tk => ⟨.bl b, H, I.tok tk, rfl, q⟩
def rIsPT (K : PySem.W.Frag) (D a dd : Addr) : List V → Hp → VK → Prop := fun xs H Q => ∃ (tp : Addr) (cs : List V) (us : List Value) (b : Bool) (fs : List (Str × V)), xs = [.ref a, .ref tp] ∧ H tp = some (.tup cs) ∧ Paired ClsV cs us ∧ PySem.W.kitAny K (.ref D) us = some b ∧ H dd = some (.xd fs) ∧ Q (.bl b) H
theorem call_isPT (hK : X.K = K) (C : ExcC K D) (P : PinX X a (.ref D) (some dd)) : CallR X (.builtin "isinstance") (rIsPT K D a dd) := by
  subst hK
  intro pins s σ H xs us Q I r h
  obtain ⟨tp, cs, ws, b, fs, rfl, hT, k, e, hd, q⟩ := h
  obtain ⟨u1, u2, rfl, r1, r2⟩ := vals2 r
  cases (show u1 = Value.ref a from r1)
  cases (show u2 = Value.ref tp from r2)
  obtain ⟨oe, od, J, _⟩ := inst_at I P hd
  obtain ⟨_, its, rv, ⟨oc, od', dt, sl⟩, t1, t2, n, t3⟩ := (show ObjOk X.prog X.w H s.heap tp (.tup cs) from I.hok tp _ hT)
  have e3 := ClsV.all k rv
  subst e3
  simp only at t2 t3
  subst t2 t3
  exact PySem.W.kia_tup (kit_exc C) I.kIn J t1 e (fun z => nomatch z) fun tk => ⟨.bl b, H, I.tok tk, rfl, q⟩
def tXp (a dd : Addr) (f : Str) (te : TE) : TE := fun σ H Q => te σ H fun x H1 => x = .ref a ∧ ∃ (fs : List (Str × V)) (v : V), H1 dd = some (.xd fs) ∧ fs.lookup f = some v ∧ Q v H1
theorem pe_xp {e : Expr} {te : TE} {pos : Pos} {n : Str} (C : ExcC X.K D) (hno : PySem.W.findIn X.K (.ref D) n = some none) (P : PinX X a (.ref D) (some dd)) (he : PE X e te) (hb : attributeBase e n X.env (eval e X.env) = eval e X.env := by rfl) :
    PE X (.Attribute e n pos) (tXp a dd n te) := by
  constructor
  intro pins s σ H Q I h
  refine attr_of hb (thn (he.run pins s σ H _ I h) fun u s1 hh => ?_)
  obtain ⟨x, H1, I1, rx, rfl, fs, v, hd, l, q⟩ := hh
  obtain rfl : u = Value.ref a := rx
  obtain ⟨oe, od, J, mA, hl, hr⟩ := inst_at I1 P hd
  obtain ⟨u, hu, ru⟩ := RelO.some_of (v := v) (o := mA n) (by rw [← l]; exact hr n)
  exact HandSPX.exc_get I1.kIn J C.hg C.hk C.hs (PySem.W.findObj_own C.hd hno rfl (by rw [hl, hu])) (handed_of ru) ⟨v, H1, I1.tok _, ru, q⟩
end
/-! list.count(True) -/
def rCntB (K : PySem.W.Frag) : V → List V → Hp → VK → Prop := fun x xs H Q => ∃ (p : Addr) (bs : List Bool), x = .ref p ∧ xs = [.bl true] ∧ SqL K H p (bs.map V.bl) ∧ Q (.int (bs.count true : Nat)) H
def isTrueV (v : Value) : Bool := match v with
  | .bool b => b
  | _ => false
theorem cnt_bools : ∀ {bs : List Bool} {us : List Value}, Vals (bs.map V.bl) us → us.countP isTrueV = bs.count true ∧ ∀ u ∈ us, ∃ b, u = .bool b
  | [], _, r => by
    cases r
    exact ⟨rfl, fun _ h => nomatch h⟩
  | b :: bs, _, r => by
    cases r with
    | cons r1 r2 =>
      obtain ⟨h1, h2⟩ := cnt_bools r2
      cases r1
      refine ⟨?_, fun u hu => ?_⟩
      · rw [List.countP_cons, h1, List.count_cons]
        cases b <;> rfl
      · rcases List.mem_cons.mp hu with z | z
        · exact ⟨b, z⟩
        · exact h2 u z
theorem mt_countB {X : Cx} : MtR X "list.count" (rCntB X.K) := by
  intro pins s σ H x xs v us Q I rx rxs h
  obtain ⟨p, bs, rfl, rfl, hs, q⟩ := h
  cases rx
  obtain ⟨u, rfl, ru⟩ := rxs.one
  cases ru
  obtain ⟨its, rv, ⟨⟨cls, dd, data, sl⟩, n, ho, hc, hdn, hd⟩, hlen⟩ := I.list hs
  simp only at hc hd
  subst hc hd
  obtain ⟨ec, eb⟩ := cnt_bools rv
  refine call_meets PySem.F.slot_list_count ⟨_, ho, rfl⟩ PySem.F.entry_list_count (PySem.F.args_list_count_2 _ _) (SeqAt.list_countAt p its.toArray n dd sl (.bool true) isTrueV) ⟨ho, fun y hy => ?_, ?_⟩
  · obtain ⟨b, rfl⟩ := eb y (by simpa using hy)
    have z := SeqAt.EqAt.bool_bool (A := X.A.in1.in1) (s := s) b true
    cases b <;> exact SeqAt.EqAt.bool_bool _ _
  · refine ⟨.int (bs.count true : Nat), H, I.tok _, ⟨s.toks, ?_⟩, q⟩
    show Value.int ((its.toArray.toList.countP isTrueV : Nat) : Int) s.toks = Value.int ((bs.count true : Nat) : Int) s.toks
    rw [← ec]
/-! what the end gives besides -/
def erN : List Str := ["BadLot", "BadText", "BadTurn"]
structure TxtX (P : Program) (w : World) (K : PySem.W.Frag) (mg : Str → Option Value) (base : Heap) : Prop where
  t : Txt P w K mg base
  ex : ∀ D ∈ erN, ExcC K (He.ga K D)
  kit : ∀ D ∈ erN, ∀ C ∈ clsN, PySem.W.kitOne K (.ref (He.ga K D)) (.ref (He.ga K C)) = some (decide (D = C) || decide (C = "ShotError"))
  exm : ∀ D ∈ erN, PySem.W.exmOne K (.ref (He.ga K D)) (.ref (He.ga K "ShotError")) = some true
end K5
/-! ### what is said of a call -/
namespace K5
open PySem PySem.Spec PyProof.Rows L2 LamX
theorem pe_gc {X : Cx} {x : Str} {pos : Pos} {a : Addr} (hm : X.mg x = some (.ref a)) (hg : Gl X x := by rfl) (hd : (x == ("__debug__" : Str)) = false := by decide) : PE X (.Name x pos) (tC (.ref a)) := pe_glob hg hm rfl hd
theorem said_BadLot {X : Cx} (T : TxtX X.prog X.w X.K X.mg X.base) (g : Addr) (s : Shared) (H0 : Hp) {cdg : Value} {a : Addr} {oe : Obj} {pn : List (Addr × Obj)} {dd : Addr} (hz : Zc (.ref (He.ga X.K "BadLot")) (some dd) oe) (hf : ∃ vs, oe.data = .fields vs) (D : Ends) (f0 : V) (F : Addr) (H : Hp) (p n : V) (ed : H dd = some (.xd [("number", n), ("part", p)])) (q : ∀ H3 t, Same H H3 → H3 t = some (.tup [.str "lot", p, n]) → D.rt (.ref t) H3)
    : ∃ t, PSs (((cxOf C8.CX0 X.prog X.w X.K X.mg X.base n__law_said "_law_said" (defScope s__law_said) g cdg X.A X.stack s H0 C8.E0).nox).tr ((a, oe) :: pn) (fun _ _ => False)) ((defBody s__law_said).drop 2) t ∧ t D [some f0, some (.ref F), some (.ref a), none, none, none] H := by
  have hD0 : ("BadLot" : Str) ∈ erN := by decide +kernel
  obtain ⟨D0, e0⟩ : ∃ D0 : Str, D0 = "BadLot" := ⟨_, rfl⟩
  have PX : PinX (((cxOf C8.CX0 X.prog X.w X.K X.mg X.base n__law_said "_law_said" (defScope s__law_said) g cdg X.A X.stack s H0 C8.E0).nox).tr ((a, oe) :: pn) (fun _ _ => False)) a (.ref (He.ga X.K "BadLot")) (some dd) := ⟨oe, List.mem_cons_self, hz, hf⟩
  subst e0
  refine ⟨_, (pss_cons (ps_if (pt_cmpR op_isN (pv 2) pe_non (nomark _)) pss_never pss_nil)
      (pss_cons (ps_set (i := 4) sc__law_said.nd rfl (.inl rfl) (pe_lst (pa_cons (pe_callB (call_isP rfl (T.ex "BadLot" hD0) PX) rfl (T.t.free "isinstance" (by decide +kernel)) boot_isi (pa_cons (pv 2) (pa_cons (pe_gc (T.t.glo "BadTurn" (by decide +kernel))) pa_nil))) (pa_cons (pe_callB (call_isP rfl (T.ex "BadLot" hD0) PX) rfl (T.t.free "isinstance" (by decide +kernel)) boot_isi (pa_cons (pv 2) (pa_cons (pe_gc (T.t.glo "BadNumber" (by decide +kernel))) pa_nil))) (pa_cons (pe_callB (call_isP rfl (T.ex "BadLot" hD0) PX) rfl (T.t.free "isinstance" (by decide +kernel)) boot_isi (pa_cons (pv 2) (pa_cons (pe_gc (T.t.glo "BadShot" (by decide +kernel))) pa_nil))) pa_nil)))))
      (pss_cons (ps_set (i := 4) sc__law_said.nd rfl (.inl rfl) (pe_op op_cat (pv 4) (pe_lst (pa_cons (pe_callB (call_isP rfl (T.ex "BadLot" hD0) PX) rfl (T.t.free "isinstance" (by decide +kernel)) boot_isi (pa_cons (pv 2) (pa_cons (pe_gc (T.t.glo "BadChain" (by decide +kernel))) pa_nil))) (pa_cons (pe_callB (call_isP rfl (T.ex "BadLot" hD0) PX) rfl (T.t.free "isinstance" (by decide +kernel)) boot_isi (pa_cons (pv 2) (pa_cons (pe_gc (T.t.glo "BadLot" (by decide +kernel))) pa_nil))) (pa_cons (pe_callB (call_isP rfl (T.ex "BadLot" hD0) PX) rfl (T.t.free "isinstance" (by decide +kernel)) boot_isi (pa_cons (pv 2) (pa_cons (pe_gc (T.t.glo "BadText" (by decide +kernel))) pa_nil))) pa_nil))))))
      (pss_cons (ps_expr (pe_bm PySem.F.plainAttrs_list PySem.F.slot_list_append PySem.F.type_list_append mt_append (pv 4) (pa_cons (pe_callB (call_isP rfl (T.ex "BadLot" hD0) PX) rfl (T.t.free "isinstance" (by decide +kernel)) boot_isi (pa_cons (pv 2) (pa_cons (pe_gc (T.t.glo "BadQuestion" (by decide +kernel))) pa_nil))) pa_nil)))
      (pss_cons (ps_if (PW.pt (pw_or (pt_cmpR op_ne (pe_bm PySem.F.plainAttrs_list PySem.F.slot_list_count PySem.F.type_list_count mt_countB (pv 4) (pa_cons pe_bl pa_nil)) pe_int (nomark _)) (pw_or1 (pt_val (pe_callB (call_isPT rfl (T.ex "BadLot" hD0) PX) rfl (T.t.free "isinstance" (by decide +kernel)) boot_isi (pa_cons (pv 2) (pa_cons (pe_tup (pa_cons (pe_gc (T.t.glo "BadMark" (by decide +kernel))) (pa_cons (pe_gc (T.t.glo "BadPaper" (by decide +kernel))) (pa_cons (pe_gc (T.t.glo "BadSmall" (by decide +kernel))) (pa_cons (pe_gc (T.t.glo "BadTable" (by decide +kernel))) (pa_cons (pe_gc (T.t.glo "TooMany" (by decide +kernel))) pa_nil)))))) pa_nil))))))) pss_never pss_nil)
      (pss_cons (ps_if (pt_val (pe_callB (call_isP rfl (T.ex "BadLot" hD0) PX) rfl (T.t.free "isinstance" (by decide +kernel)) boot_isi (pa_cons (pv 2) (pa_cons (pe_gc (T.t.glo "BadLot" (by decide +kernel))) pa_nil)))) (pss_one (ps_ret (pe_tup (pa_cons pe_str (pa_cons (pe_xp (T.ex "BadLot" hD0) (T.t.inL.no "part" (by simp)) PX (pv 2)) (pa_cons (pe_xp (T.ex "BadLot" hD0) (T.t.inL.no "number" (by simp)) PX (pv 2)) pa_nil)))))) pss_nil)
      pss_never)))))), ?_⟩
  refine ⟨_, rfl, rfl, false, rfl, ?_⟩
  refine ⟨_, rfl, _, _, _, _, rfl, .own _, T.kit "BadLot" hD0 "BadTurn" (by decide +kernel), ed, _, rfl, _, _, _, _, rfl, .own _, T.kit "BadLot" hD0 "BadNumber" (by decide +kernel), ed, _, rfl, _, _, _, _, rfl, .own _, T.kit "BadLot" hD0 "BadShot" (by decide +kernel), ed, zl3, fun m1 n1 => ?_⟩
  have s1 := Same.new n1 (o := .lst [.bl (decide (("BadLot" : Str) = "BadTurn") || decide (("BadTurn" : Str) = "ShotError")), .bl (decide (("BadLot" : Str) = "BadNumber") || decide (("BadNumber" : Str) = "ShotError")), .bl (decide (("BadLot" : Str) = "BadShot") || decide (("BadShot" : Str) = "ShotError"))])
  have ed1 := s1 _ _ ed
  have em1 : upd H m1 (.lst [.bl (decide (("BadLot" : Str) = "BadTurn") || decide (("BadTurn" : Str) = "ShotError")), .bl (decide (("BadLot" : Str) = "BadNumber") || decide (("BadNumber" : Str) = "ShotError")), .bl (decide (("BadLot" : Str) = "BadShot") || decide (("BadShot" : Str) = "ShotError"))]) m1 = some (.lst [.bl (decide (("BadLot" : Str) = "BadTurn") || decide (("BadTurn" : Str) = "ShotError")), .bl (decide (("BadLot" : Str) = "BadNumber") || decide (("BadNumber" : Str) = "ShotError")), .bl (decide (("BadLot" : Str) = "BadShot") || decide (("BadShot" : Str) = "ShotError"))]) := upd_same
  generalize upd H m1 (.lst [.bl (decide (("BadLot" : Str) = "BadTurn") || decide (("BadTurn" : Str) = "ShotError")), .bl (decide (("BadLot" : Str) = "BadNumber") || decide (("BadNumber" : Str) = "ShotError")), .bl (decide (("BadLot" : Str) = "BadShot") || decide (("BadShot" : Str) = "ShotError"))]) = H1 at s1 ed1 em1
  refine ⟨_, rfl, _, rfl, _, _, _, _, rfl, .own _, T.kit "BadLot" hD0 "BadChain" (by decide +kernel), ed1, _, rfl, _, _, _, _, rfl, .own _, T.kit "BadLot" hD0 "BadLot" (by decide +kernel), ed1, _, rfl, _, _, _, _, rfl, .own _, T.kit "BadLot" hD0 "BadText" (by decide +kernel), ed1, zl3, fun m2 n2 => ?_⟩
  have s2 := Same.new n2 (o := .lst [.bl (decide (("BadLot" : Str) = "BadChain") || decide (("BadChain" : Str) = "ShotError")), .bl (decide (("BadLot" : Str) = "BadLot") || decide (("BadLot" : Str) = "ShotError")), .bl (decide (("BadLot" : Str) = "BadText") || decide (("BadText" : Str) = "ShotError"))])
  have em1' := s2 _ _ em1
  have ed2 := s2 _ _ ed1
  have em2 : upd H1 m2 (.lst [.bl (decide (("BadLot" : Str) = "BadChain") || decide (("BadChain" : Str) = "ShotError")), .bl (decide (("BadLot" : Str) = "BadLot") || decide (("BadLot" : Str) = "ShotError")), .bl (decide (("BadLot" : Str) = "BadText") || decide (("BadText" : Str) = "ShotError"))]) m2 = some (.lst [.bl (decide (("BadLot" : Str) = "BadChain") || decide (("BadChain" : Str) = "ShotError")), .bl (decide (("BadLot" : Str) = "BadLot") || decide (("BadLot" : Str) = "ShotError")), .bl (decide (("BadLot" : Str) = "BadText") || decide (("BadText" : Str) = "ShotError"))]) := upd_same
  generalize upd H1 m2 (.lst [.bl (decide (("BadLot" : Str) = "BadChain") || decide (("BadChain" : Str) = "ShotError")), .bl (decide (("BadLot" : Str) = "BadLot") || decide (("BadLot" : Str) = "ShotError")), .bl (decide (("BadLot" : Str) = "BadText") || decide (("BadText" : Str) = "ShotError"))]) = H2 at s2 ed2 em1' em2
  refine ⟨_, _, _, _, rfl, rfl, em1', em2, (show 6 ≤ sizeLine by decide), fun m3 n3 => ?_⟩
  have s3 := Same.new n3 (o := .lst ([.bl (decide (("BadLot" : Str) = "BadTurn") || decide (("BadTurn" : Str) = "ShotError")), .bl (decide (("BadLot" : Str) = "BadNumber") || decide (("BadNumber" : Str) = "ShotError")), .bl (decide (("BadLot" : Str) = "BadShot") || decide (("BadShot" : Str) = "ShotError"))] ++ [.bl (decide (("BadLot" : Str) = "BadChain") || decide (("BadChain" : Str) = "ShotError")), .bl (decide (("BadLot" : Str) = "BadLot") || decide (("BadLot" : Str) = "ShotError")), .bl (decide (("BadLot" : Str) = "BadText") || decide (("BadText" : Str) = "ShotError"))]))
  have em3 : upd H2 m3 (.lst ([.bl (decide (("BadLot" : Str) = "BadTurn") || decide (("BadTurn" : Str) = "ShotError")), .bl (decide (("BadLot" : Str) = "BadNumber") || decide (("BadNumber" : Str) = "ShotError")), .bl (decide (("BadLot" : Str) = "BadShot") || decide (("BadShot" : Str) = "ShotError"))] ++ [.bl (decide (("BadLot" : Str) = "BadChain") || decide (("BadChain" : Str) = "ShotError")), .bl (decide (("BadLot" : Str) = "BadLot") || decide (("BadLot" : Str) = "ShotError")), .bl (decide (("BadLot" : Str) = "BadText") || decide (("BadText" : Str) = "ShotError"))])) m3 = some (.lst ([.bl (decide (("BadLot" : Str) = "BadTurn") || decide (("BadTurn" : Str) = "ShotError")), .bl (decide (("BadLot" : Str) = "BadNumber") || decide (("BadNumber" : Str) = "ShotError")), .bl (decide (("BadLot" : Str) = "BadShot") || decide (("BadShot" : Str) = "ShotError"))] ++ [.bl (decide (("BadLot" : Str) = "BadChain") || decide (("BadChain" : Str) = "ShotError")), .bl (decide (("BadLot" : Str) = "BadLot") || decide (("BadLot" : Str) = "ShotError")), .bl (decide (("BadLot" : Str) = "BadText") || decide (("BadText" : Str) = "ShotError"))])) := upd_same
  have ed3 := s3 _ _ ed2
  generalize upd H2 m3 (.lst ([.bl (decide (("BadLot" : Str) = "BadTurn") || decide (("BadTurn" : Str) = "ShotError")), .bl (decide (("BadLot" : Str) = "BadNumber") || decide (("BadNumber" : Str) = "ShotError")), .bl (decide (("BadLot" : Str) = "BadShot") || decide (("BadShot" : Str) = "ShotError"))] ++ [.bl (decide (("BadLot" : Str) = "BadChain") || decide (("BadChain" : Str) = "ShotError")), .bl (decide (("BadLot" : Str) = "BadLot") || decide (("BadLot" : Str) = "ShotError")), .bl (decide (("BadLot" : Str) = "BadText") || decide (("BadText" : Str) = "ShotError"))])) = H3 at s3 em3 ed3
  have nm : dd ≠ m3 := ne_of_none ed2 n3
  refine ⟨_, rfl, .inl ⟨rfl, _, SqL.of em3⟩, _, rfl, _, _, _, _, rfl, .own _, T.kit "BadLot" hD0 "BadQuestion" (by decide +kernel), ed3, m3, _, _, rfl, rfl, em3, (show 6 < sizeLine by decide), ?_⟩
  have em4 : upd H3 m3 (.lst ([.bl (decide (("BadLot" : Str) = "BadTurn") || decide (("BadTurn" : Str) = "ShotError")), .bl (decide (("BadLot" : Str) = "BadNumber") || decide (("BadNumber" : Str) = "ShotError")), .bl (decide (("BadLot" : Str) = "BadShot") || decide (("BadShot" : Str) = "ShotError"))] ++ [.bl (decide (("BadLot" : Str) = "BadChain") || decide (("BadChain" : Str) = "ShotError")), .bl (decide (("BadLot" : Str) = "BadLot") || decide (("BadLot" : Str) = "ShotError")), .bl (decide (("BadLot" : Str) = "BadText") || decide (("BadText" : Str) = "ShotError"))] ++ [.bl (decide (("BadLot" : Str) = "BadQuestion") || decide (("BadQuestion" : Str) = "ShotError"))])) m3 = some (.lst ([.bl (decide (("BadLot" : Str) = "BadTurn") || decide (("BadTurn" : Str) = "ShotError")), .bl (decide (("BadLot" : Str) = "BadNumber") || decide (("BadNumber" : Str) = "ShotError")), .bl (decide (("BadLot" : Str) = "BadShot") || decide (("BadShot" : Str) = "ShotError"))] ++ [.bl (decide (("BadLot" : Str) = "BadChain") || decide (("BadChain" : Str) = "ShotError")), .bl (decide (("BadLot" : Str) = "BadLot") || decide (("BadLot" : Str) = "ShotError")), .bl (decide (("BadLot" : Str) = "BadText") || decide (("BadText" : Str) = "ShotError"))] ++ [.bl (decide (("BadLot" : Str) = "BadQuestion") || decide (("BadQuestion" : Str) = "ShotError"))])) := upd_same
  have ed4 : upd H3 m3 (.lst ([.bl (decide (("BadLot" : Str) = "BadTurn") || decide (("BadTurn" : Str) = "ShotError")), .bl (decide (("BadLot" : Str) = "BadNumber") || decide (("BadNumber" : Str) = "ShotError")), .bl (decide (("BadLot" : Str) = "BadShot") || decide (("BadShot" : Str) = "ShotError"))] ++ [.bl (decide (("BadLot" : Str) = "BadChain") || decide (("BadChain" : Str) = "ShotError")), .bl (decide (("BadLot" : Str) = "BadLot") || decide (("BadLot" : Str) = "ShotError")), .bl (decide (("BadLot" : Str) = "BadText") || decide (("BadText" : Str) = "ShotError"))] ++ [.bl (decide (("BadLot" : Str) = "BadQuestion") || decide (("BadQuestion" : Str) = "ShotError"))])) dd = _ := (upd_ne nm).trans ed3
  have s4 : Same H (upd H3 m3 (.lst ([.bl (decide (("BadLot" : Str) = "BadTurn") || decide (("BadTurn" : Str) = "ShotError")), .bl (decide (("BadLot" : Str) = "BadNumber") || decide (("BadNumber" : Str) = "ShotError")), .bl (decide (("BadLot" : Str) = "BadShot") || decide (("BadShot" : Str) = "ShotError"))] ++ [.bl (decide (("BadLot" : Str) = "BadChain") || decide (("BadChain" : Str) = "ShotError")), .bl (decide (("BadLot" : Str) = "BadLot") || decide (("BadLot" : Str) = "ShotError")), .bl (decide (("BadLot" : Str) = "BadText") || decide (("BadText" : Str) = "ShotError"))] ++ [.bl (decide (("BadLot" : Str) = "BadQuestion") || decide (("BadQuestion" : Str) = "ShotError"))]))) := ((s1.trans s2).trans s3).put ((s1.trans s2).free n3)
  generalize upd H3 m3 (.lst ([.bl (decide (("BadLot" : Str) = "BadTurn") || decide (("BadTurn" : Str) = "ShotError")), .bl (decide (("BadLot" : Str) = "BadNumber") || decide (("BadNumber" : Str) = "ShotError")), .bl (decide (("BadLot" : Str) = "BadShot") || decide (("BadShot" : Str) = "ShotError"))] ++ [.bl (decide (("BadLot" : Str) = "BadChain") || decide (("BadChain" : Str) = "ShotError")), .bl (decide (("BadLot" : Str) = "BadLot") || decide (("BadLot" : Str) = "ShotError")), .bl (decide (("BadLot" : Str) = "BadText") || decide (("BadText" : Str) = "ShotError"))] ++ [.bl (decide (("BadLot" : Str) = "BadQuestion") || decide (("BadQuestion" : Str) = "ShotError"))])) = H4 at em4 ed4 s4
  refine ⟨_, rfl, .inl ⟨rfl, _, SqL.of em4⟩, m3, [(decide (("BadLot" : Str) = "BadTurn") || decide (("BadTurn" : Str) = "ShotError")), (decide (("BadLot" : Str) = "BadNumber") || decide (("BadNumber" : Str) = "ShotError")), (decide (("BadLot" : Str) = "BadShot") || decide (("BadShot" : Str) = "ShotError")), (decide (("BadLot" : Str) = "BadChain") || decide (("BadChain" : Str) = "ShotError")), (decide (("BadLot" : Str) = "BadLot") || decide (("BadLot" : Str) = "ShotError")), (decide (("BadLot" : Str) = "BadText") || decide (("BadText" : Str) = "ShotError")), (decide (("BadLot" : Str) = "BadQuestion") || decide (("BadQuestion" : Str) = "ShotError"))], rfl, rfl, SqL.of em4, rfl, _, rfl, iteF' (by decide +kernel) ?_⟩
  refine ⟨_, rfl, (show 5 ≤ sizeLine by decide), fun tp nt => ⟨tp, _, [Value.ref (He.ga X.K "BadMark"), Value.ref (He.ga X.K "BadPaper"), Value.ref (He.ga X.K "BadSmall"), Value.ref (He.ga X.K "BadTable"), Value.ref (He.ga X.K "TooMany")], false, _, rfl, upd_same, (.cons (.own _) (.cons (.own _) (.cons (.own _) (.cons (.own _) (.cons (.own _) .nil))))), (kitAny_cons (b := false) ((T.kit "BadLot" hD0 "BadMark" (by decide +kernel)).trans (by decide +kernel)) (fun _ => (kitAny_cons (b := false) ((T.kit "BadLot" hD0 "BadPaper" (by decide +kernel)).trans (by decide +kernel)) (fun _ => (kitAny_cons (b := false) ((T.kit "BadLot" hD0 "BadSmall" (by decide +kernel)).trans (by decide +kernel)) (fun _ => (kitAny_cons (b := false) ((T.kit "BadLot" hD0 "BadTable" (by decide +kernel)).trans (by decide +kernel)) (fun _ => (kitAny_cons (b := false) ((T.kit "BadLot" hD0 "TooMany" (by decide +kernel)).trans (by decide +kernel)) (fun _ => kitAny_nil) (fun h => nomatch h))) (fun h => nomatch h))) (fun h => nomatch h))) (fun h => nomatch h))) (fun h => nomatch h)), (Same.new nt) _ _ ed4, _, rfl, iteF' rfl ?_⟩⟩
  have s5 := s4.trans (Same.new nt (o := .tup [V.ref (He.ga X.K "BadMark"), V.ref (He.ga X.K "BadPaper"), V.ref (He.ga X.K "BadSmall"), V.ref (He.ga X.K "BadTable"), V.ref (He.ga X.K "TooMany")]))
  have ed5 := (Same.new nt (o := .tup [V.ref (He.ga X.K "BadMark"), V.ref (He.ga X.K "BadPaper"), V.ref (He.ga X.K "BadSmall"), V.ref (He.ga X.K "BadTable"), V.ref (He.ga X.K "TooMany")])) _ _ ed4
  have em5 := (Same.new nt (o := .tup [V.ref (He.ga X.K "BadMark"), V.ref (He.ga X.K "BadPaper"), V.ref (He.ga X.K "BadSmall"), V.ref (He.ga X.K "BadTable"), V.ref (He.ga X.K "TooMany")])) _ _ em4
  generalize upd H4 tp (.tup [V.ref (He.ga X.K "BadMark"), V.ref (He.ga X.K "BadPaper"), V.ref (He.ga X.K "BadSmall"), V.ref (He.ga X.K "BadTable"), V.ref (He.ga X.K "TooMany")]) = H5 at s5 ed5 em5
  refine ⟨_, rfl, _, _, _, _, rfl, .own _, T.kit "BadLot" hD0 "BadLot" (by decide +kernel), ed5, _, rfl, iteT' (by decide +kernel) ?_⟩
  exact ⟨_, rfl, rfl, _, _, ed5, rfl, _, rfl, rfl, _, _, ed5, rfl, zl3, fun t nt => q _ t (s5.trans (Same.new nt)) upd_same⟩

theorem said_BadText {X : Cx} (T : TxtX X.prog X.w X.K X.mg X.base) (g : Addr) (s : Shared) (H0 : Hp) {cdg : Value} {a : Addr} {oe : Obj} {pn : List (Addr × Obj)} {dd : Addr} (hz : Zc (.ref (He.ga X.K "BadText")) (some dd) oe) (hf : ∃ vs, oe.data = .fields vs) (D : Ends) (f0 : V) (F : Addr) (H : Hp) (p n : V) (ed : H dd = some (.xd [("place", n), ("line", p)])) (q : ∀ H3 t, Same H H3 → H3 t = some (.tup [.str "text", p, n]) → D.rt (.ref t) H3)
    : ∃ t, PSs (((cxOf C8.CX0 X.prog X.w X.K X.mg X.base n__law_said "_law_said" (defScope s__law_said) g cdg X.A X.stack s H0 C8.E0).nox).tr ((a, oe) :: pn) (fun _ _ => False)) ((defBody s__law_said).drop 2) t ∧ t D [some f0, some (.ref F), some (.ref a), none, none, none] H := by
  have hD0 : ("BadText" : Str) ∈ erN := by decide +kernel
  obtain ⟨D0, e0⟩ : ∃ D0 : Str, D0 = "BadText" := ⟨_, rfl⟩
  have PX : PinX (((cxOf C8.CX0 X.prog X.w X.K X.mg X.base n__law_said "_law_said" (defScope s__law_said) g cdg X.A X.stack s H0 C8.E0).nox).tr ((a, oe) :: pn) (fun _ _ => False)) a (.ref (He.ga X.K "BadText")) (some dd) := ⟨oe, List.mem_cons_self, hz, hf⟩
  subst e0
  refine ⟨_, (pss_cons (ps_if (pt_cmpR op_isN (pv 2) pe_non (nomark _)) pss_never pss_nil)
      (pss_cons (ps_set (i := 4) sc__law_said.nd rfl (.inl rfl) (pe_lst (pa_cons (pe_callB (call_isP rfl (T.ex "BadText" hD0) PX) rfl (T.t.free "isinstance" (by decide +kernel)) boot_isi (pa_cons (pv 2) (pa_cons (pe_gc (T.t.glo "BadTurn" (by decide +kernel))) pa_nil))) (pa_cons (pe_callB (call_isP rfl (T.ex "BadText" hD0) PX) rfl (T.t.free "isinstance" (by decide +kernel)) boot_isi (pa_cons (pv 2) (pa_cons (pe_gc (T.t.glo "BadNumber" (by decide +kernel))) pa_nil))) (pa_cons (pe_callB (call_isP rfl (T.ex "BadText" hD0) PX) rfl (T.t.free "isinstance" (by decide +kernel)) boot_isi (pa_cons (pv 2) (pa_cons (pe_gc (T.t.glo "BadShot" (by decide +kernel))) pa_nil))) pa_nil)))))
      (pss_cons (ps_set (i := 4) sc__law_said.nd rfl (.inl rfl) (pe_op op_cat (pv 4) (pe_lst (pa_cons (pe_callB (call_isP rfl (T.ex "BadText" hD0) PX) rfl (T.t.free "isinstance" (by decide +kernel)) boot_isi (pa_cons (pv 2) (pa_cons (pe_gc (T.t.glo "BadChain" (by decide +kernel))) pa_nil))) (pa_cons (pe_callB (call_isP rfl (T.ex "BadText" hD0) PX) rfl (T.t.free "isinstance" (by decide +kernel)) boot_isi (pa_cons (pv 2) (pa_cons (pe_gc (T.t.glo "BadLot" (by decide +kernel))) pa_nil))) (pa_cons (pe_callB (call_isP rfl (T.ex "BadText" hD0) PX) rfl (T.t.free "isinstance" (by decide +kernel)) boot_isi (pa_cons (pv 2) (pa_cons (pe_gc (T.t.glo "BadText" (by decide +kernel))) pa_nil))) pa_nil))))))
      (pss_cons (ps_expr (pe_bm PySem.F.plainAttrs_list PySem.F.slot_list_append PySem.F.type_list_append mt_append (pv 4) (pa_cons (pe_callB (call_isP rfl (T.ex "BadText" hD0) PX) rfl (T.t.free "isinstance" (by decide +kernel)) boot_isi (pa_cons (pv 2) (pa_cons (pe_gc (T.t.glo "BadQuestion" (by decide +kernel))) pa_nil))) pa_nil)))
      (pss_cons (ps_if (PW.pt (pw_or (pt_cmpR op_ne (pe_bm PySem.F.plainAttrs_list PySem.F.slot_list_count PySem.F.type_list_count mt_countB (pv 4) (pa_cons pe_bl pa_nil)) pe_int (nomark _)) (pw_or1 (pt_val (pe_callB (call_isPT rfl (T.ex "BadText" hD0) PX) rfl (T.t.free "isinstance" (by decide +kernel)) boot_isi (pa_cons (pv 2) (pa_cons (pe_tup (pa_cons (pe_gc (T.t.glo "BadMark" (by decide +kernel))) (pa_cons (pe_gc (T.t.glo "BadPaper" (by decide +kernel))) (pa_cons (pe_gc (T.t.glo "BadSmall" (by decide +kernel))) (pa_cons (pe_gc (T.t.glo "BadTable" (by decide +kernel))) (pa_cons (pe_gc (T.t.glo "TooMany" (by decide +kernel))) pa_nil)))))) pa_nil))))))) pss_never pss_nil)
      (pss_cons (ps_if (pt_val (pe_callB (call_isP rfl (T.ex "BadText" hD0) PX) rfl (T.t.free "isinstance" (by decide +kernel)) boot_isi (pa_cons (pv 2) (pa_cons (pe_gc (T.t.glo "BadLot" (by decide +kernel))) pa_nil)))) pss_never pss_nil)
      (pss_cons (ps_if (pt_val (pe_callB (call_isP rfl (T.ex "BadText" hD0) PX) rfl (T.t.free "isinstance" (by decide +kernel)) boot_isi (pa_cons (pv 2) (pa_cons (pe_gc (T.t.glo "BadText" (by decide +kernel))) pa_nil)))) (pss_one (ps_ret (pe_tup (pa_cons pe_str (pa_cons (pe_xp (T.ex "BadText" hD0) (T.t.inT.no "line" (by simp)) PX (pv 2)) (pa_cons (pe_xp (T.ex "BadText" hD0) (T.t.inT.no "place" (by simp)) PX (pv 2)) pa_nil)))))) pss_nil)
      pss_never))))))), ?_⟩
  refine ⟨_, rfl, rfl, false, rfl, ?_⟩
  refine ⟨_, rfl, _, _, _, _, rfl, .own _, T.kit "BadText" hD0 "BadTurn" (by decide +kernel), ed, _, rfl, _, _, _, _, rfl, .own _, T.kit "BadText" hD0 "BadNumber" (by decide +kernel), ed, _, rfl, _, _, _, _, rfl, .own _, T.kit "BadText" hD0 "BadShot" (by decide +kernel), ed, zl3, fun m1 n1 => ?_⟩
  have s1 := Same.new n1 (o := .lst [.bl (decide (("BadText" : Str) = "BadTurn") || decide (("BadTurn" : Str) = "ShotError")), .bl (decide (("BadText" : Str) = "BadNumber") || decide (("BadNumber" : Str) = "ShotError")), .bl (decide (("BadText" : Str) = "BadShot") || decide (("BadShot" : Str) = "ShotError"))])
  have ed1 := s1 _ _ ed
  have em1 : upd H m1 (.lst [.bl (decide (("BadText" : Str) = "BadTurn") || decide (("BadTurn" : Str) = "ShotError")), .bl (decide (("BadText" : Str) = "BadNumber") || decide (("BadNumber" : Str) = "ShotError")), .bl (decide (("BadText" : Str) = "BadShot") || decide (("BadShot" : Str) = "ShotError"))]) m1 = some (.lst [.bl (decide (("BadText" : Str) = "BadTurn") || decide (("BadTurn" : Str) = "ShotError")), .bl (decide (("BadText" : Str) = "BadNumber") || decide (("BadNumber" : Str) = "ShotError")), .bl (decide (("BadText" : Str) = "BadShot") || decide (("BadShot" : Str) = "ShotError"))]) := upd_same
  generalize upd H m1 (.lst [.bl (decide (("BadText" : Str) = "BadTurn") || decide (("BadTurn" : Str) = "ShotError")), .bl (decide (("BadText" : Str) = "BadNumber") || decide (("BadNumber" : Str) = "ShotError")), .bl (decide (("BadText" : Str) = "BadShot") || decide (("BadShot" : Str) = "ShotError"))]) = H1 at s1 ed1 em1
  refine ⟨_, rfl, _, rfl, _, _, _, _, rfl, .own _, T.kit "BadText" hD0 "BadChain" (by decide +kernel), ed1, _, rfl, _, _, _, _, rfl, .own _, T.kit "BadText" hD0 "BadLot" (by decide +kernel), ed1, _, rfl, _, _, _, _, rfl, .own _, T.kit "BadText" hD0 "BadText" (by decide +kernel), ed1, zl3, fun m2 n2 => ?_⟩
  have s2 := Same.new n2 (o := .lst [.bl (decide (("BadText" : Str) = "BadChain") || decide (("BadChain" : Str) = "ShotError")), .bl (decide (("BadText" : Str) = "BadLot") || decide (("BadLot" : Str) = "ShotError")), .bl (decide (("BadText" : Str) = "BadText") || decide (("BadText" : Str) = "ShotError"))])
  have em1' := s2 _ _ em1
  have ed2 := s2 _ _ ed1
  have em2 : upd H1 m2 (.lst [.bl (decide (("BadText" : Str) = "BadChain") || decide (("BadChain" : Str) = "ShotError")), .bl (decide (("BadText" : Str) = "BadLot") || decide (("BadLot" : Str) = "ShotError")), .bl (decide (("BadText" : Str) = "BadText") || decide (("BadText" : Str) = "ShotError"))]) m2 = some (.lst [.bl (decide (("BadText" : Str) = "BadChain") || decide (("BadChain" : Str) = "ShotError")), .bl (decide (("BadText" : Str) = "BadLot") || decide (("BadLot" : Str) = "ShotError")), .bl (decide (("BadText" : Str) = "BadText") || decide (("BadText" : Str) = "ShotError"))]) := upd_same
  generalize upd H1 m2 (.lst [.bl (decide (("BadText" : Str) = "BadChain") || decide (("BadChain" : Str) = "ShotError")), .bl (decide (("BadText" : Str) = "BadLot") || decide (("BadLot" : Str) = "ShotError")), .bl (decide (("BadText" : Str) = "BadText") || decide (("BadText" : Str) = "ShotError"))]) = H2 at s2 ed2 em1' em2
  refine ⟨_, _, _, _, rfl, rfl, em1', em2, (show 6 ≤ sizeLine by decide), fun m3 n3 => ?_⟩
  have s3 := Same.new n3 (o := .lst ([.bl (decide (("BadText" : Str) = "BadTurn") || decide (("BadTurn" : Str) = "ShotError")), .bl (decide (("BadText" : Str) = "BadNumber") || decide (("BadNumber" : Str) = "ShotError")), .bl (decide (("BadText" : Str) = "BadShot") || decide (("BadShot" : Str) = "ShotError"))] ++ [.bl (decide (("BadText" : Str) = "BadChain") || decide (("BadChain" : Str) = "ShotError")), .bl (decide (("BadText" : Str) = "BadLot") || decide (("BadLot" : Str) = "ShotError")), .bl (decide (("BadText" : Str) = "BadText") || decide (("BadText" : Str) = "ShotError"))]))
  have em3 : upd H2 m3 (.lst ([.bl (decide (("BadText" : Str) = "BadTurn") || decide (("BadTurn" : Str) = "ShotError")), .bl (decide (("BadText" : Str) = "BadNumber") || decide (("BadNumber" : Str) = "ShotError")), .bl (decide (("BadText" : Str) = "BadShot") || decide (("BadShot" : Str) = "ShotError"))] ++ [.bl (decide (("BadText" : Str) = "BadChain") || decide (("BadChain" : Str) = "ShotError")), .bl (decide (("BadText" : Str) = "BadLot") || decide (("BadLot" : Str) = "ShotError")), .bl (decide (("BadText" : Str) = "BadText") || decide (("BadText" : Str) = "ShotError"))])) m3 = some (.lst ([.bl (decide (("BadText" : Str) = "BadTurn") || decide (("BadTurn" : Str) = "ShotError")), .bl (decide (("BadText" : Str) = "BadNumber") || decide (("BadNumber" : Str) = "ShotError")), .bl (decide (("BadText" : Str) = "BadShot") || decide (("BadShot" : Str) = "ShotError"))] ++ [.bl (decide (("BadText" : Str) = "BadChain") || decide (("BadChain" : Str) = "ShotError")), .bl (decide (("BadText" : Str) = "BadLot") || decide (("BadLot" : Str) = "ShotError")), .bl (decide (("BadText" : Str) = "BadText") || decide (("BadText" : Str) = "ShotError"))])) := upd_same
  have ed3 := s3 _ _ ed2
  generalize upd H2 m3 (.lst ([.bl (decide (("BadText" : Str) = "BadTurn") || decide (("BadTurn" : Str) = "ShotError")), .bl (decide (("BadText" : Str) = "BadNumber") || decide (("BadNumber" : Str) = "ShotError")), .bl (decide (("BadText" : Str) = "BadShot") || decide (("BadShot" : Str) = "ShotError"))] ++ [.bl (decide (("BadText" : Str) = "BadChain") || decide (("BadChain" : Str) = "ShotError")), .bl (decide (("BadText" : Str) = "BadLot") || decide (("BadLot" : Str) = "ShotError")), .bl (decide (("BadText" : Str) = "BadText") || decide (("BadText" : Str) = "ShotError"))])) = H3 at s3 em3 ed3
  have nm : dd ≠ m3 := ne_of_none ed2 n3
  refine ⟨_, rfl, .inl ⟨rfl, _, SqL.of em3⟩, _, rfl, _, _, _, _, rfl, .own _, T.kit "BadText" hD0 "BadQuestion" (by decide +kernel), ed3, m3, _, _, rfl, rfl, em3, (show 6 < sizeLine by decide), ?_⟩
  have em4 : upd H3 m3 (.lst ([.bl (decide (("BadText" : Str) = "BadTurn") || decide (("BadTurn" : Str) = "ShotError")), .bl (decide (("BadText" : Str) = "BadNumber") || decide (("BadNumber" : Str) = "ShotError")), .bl (decide (("BadText" : Str) = "BadShot") || decide (("BadShot" : Str) = "ShotError"))] ++ [.bl (decide (("BadText" : Str) = "BadChain") || decide (("BadChain" : Str) = "ShotError")), .bl (decide (("BadText" : Str) = "BadLot") || decide (("BadLot" : Str) = "ShotError")), .bl (decide (("BadText" : Str) = "BadText") || decide (("BadText" : Str) = "ShotError"))] ++ [.bl (decide (("BadText" : Str) = "BadQuestion") || decide (("BadQuestion" : Str) = "ShotError"))])) m3 = some (.lst ([.bl (decide (("BadText" : Str) = "BadTurn") || decide (("BadTurn" : Str) = "ShotError")), .bl (decide (("BadText" : Str) = "BadNumber") || decide (("BadNumber" : Str) = "ShotError")), .bl (decide (("BadText" : Str) = "BadShot") || decide (("BadShot" : Str) = "ShotError"))] ++ [.bl (decide (("BadText" : Str) = "BadChain") || decide (("BadChain" : Str) = "ShotError")), .bl (decide (("BadText" : Str) = "BadLot") || decide (("BadLot" : Str) = "ShotError")), .bl (decide (("BadText" : Str) = "BadText") || decide (("BadText" : Str) = "ShotError"))] ++ [.bl (decide (("BadText" : Str) = "BadQuestion") || decide (("BadQuestion" : Str) = "ShotError"))])) := upd_same
  have ed4 : upd H3 m3 (.lst ([.bl (decide (("BadText" : Str) = "BadTurn") || decide (("BadTurn" : Str) = "ShotError")), .bl (decide (("BadText" : Str) = "BadNumber") || decide (("BadNumber" : Str) = "ShotError")), .bl (decide (("BadText" : Str) = "BadShot") || decide (("BadShot" : Str) = "ShotError"))] ++ [.bl (decide (("BadText" : Str) = "BadChain") || decide (("BadChain" : Str) = "ShotError")), .bl (decide (("BadText" : Str) = "BadLot") || decide (("BadLot" : Str) = "ShotError")), .bl (decide (("BadText" : Str) = "BadText") || decide (("BadText" : Str) = "ShotError"))] ++ [.bl (decide (("BadText" : Str) = "BadQuestion") || decide (("BadQuestion" : Str) = "ShotError"))])) dd = _ := (upd_ne nm).trans ed3
  have s4 : Same H (upd H3 m3 (.lst ([.bl (decide (("BadText" : Str) = "BadTurn") || decide (("BadTurn" : Str) = "ShotError")), .bl (decide (("BadText" : Str) = "BadNumber") || decide (("BadNumber" : Str) = "ShotError")), .bl (decide (("BadText" : Str) = "BadShot") || decide (("BadShot" : Str) = "ShotError"))] ++ [.bl (decide (("BadText" : Str) = "BadChain") || decide (("BadChain" : Str) = "ShotError")), .bl (decide (("BadText" : Str) = "BadLot") || decide (("BadLot" : Str) = "ShotError")), .bl (decide (("BadText" : Str) = "BadText") || decide (("BadText" : Str) = "ShotError"))] ++ [.bl (decide (("BadText" : Str) = "BadQuestion") || decide (("BadQuestion" : Str) = "ShotError"))]))) := ((s1.trans s2).trans s3).put ((s1.trans s2).free n3)
  generalize upd H3 m3 (.lst ([.bl (decide (("BadText" : Str) = "BadTurn") || decide (("BadTurn" : Str) = "ShotError")), .bl (decide (("BadText" : Str) = "BadNumber") || decide (("BadNumber" : Str) = "ShotError")), .bl (decide (("BadText" : Str) = "BadShot") || decide (("BadShot" : Str) = "ShotError"))] ++ [.bl (decide (("BadText" : Str) = "BadChain") || decide (("BadChain" : Str) = "ShotError")), .bl (decide (("BadText" : Str) = "BadLot") || decide (("BadLot" : Str) = "ShotError")), .bl (decide (("BadText" : Str) = "BadText") || decide (("BadText" : Str) = "ShotError"))] ++ [.bl (decide (("BadText" : Str) = "BadQuestion") || decide (("BadQuestion" : Str) = "ShotError"))])) = H4 at em4 ed4 s4
  refine ⟨_, rfl, .inl ⟨rfl, _, SqL.of em4⟩, m3, [(decide (("BadText" : Str) = "BadTurn") || decide (("BadTurn" : Str) = "ShotError")), (decide (("BadText" : Str) = "BadNumber") || decide (("BadNumber" : Str) = "ShotError")), (decide (("BadText" : Str) = "BadShot") || decide (("BadShot" : Str) = "ShotError")), (decide (("BadText" : Str) = "BadChain") || decide (("BadChain" : Str) = "ShotError")), (decide (("BadText" : Str) = "BadLot") || decide (("BadLot" : Str) = "ShotError")), (decide (("BadText" : Str) = "BadText") || decide (("BadText" : Str) = "ShotError")), (decide (("BadText" : Str) = "BadQuestion") || decide (("BadQuestion" : Str) = "ShotError"))], rfl, rfl, SqL.of em4, rfl, _, rfl, iteF' (by decide +kernel) ?_⟩
  refine ⟨_, rfl, (show 5 ≤ sizeLine by decide), fun tp nt => ⟨tp, _, [Value.ref (He.ga X.K "BadMark"), Value.ref (He.ga X.K "BadPaper"), Value.ref (He.ga X.K "BadSmall"), Value.ref (He.ga X.K "BadTable"), Value.ref (He.ga X.K "TooMany")], false, _, rfl, upd_same, (.cons (.own _) (.cons (.own _) (.cons (.own _) (.cons (.own _) (.cons (.own _) .nil))))), (kitAny_cons (b := false) ((T.kit "BadText" hD0 "BadMark" (by decide +kernel)).trans (by decide +kernel)) (fun _ => (kitAny_cons (b := false) ((T.kit "BadText" hD0 "BadPaper" (by decide +kernel)).trans (by decide +kernel)) (fun _ => (kitAny_cons (b := false) ((T.kit "BadText" hD0 "BadSmall" (by decide +kernel)).trans (by decide +kernel)) (fun _ => (kitAny_cons (b := false) ((T.kit "BadText" hD0 "BadTable" (by decide +kernel)).trans (by decide +kernel)) (fun _ => (kitAny_cons (b := false) ((T.kit "BadText" hD0 "TooMany" (by decide +kernel)).trans (by decide +kernel)) (fun _ => kitAny_nil) (fun h => nomatch h))) (fun h => nomatch h))) (fun h => nomatch h))) (fun h => nomatch h))) (fun h => nomatch h)), (Same.new nt) _ _ ed4, _, rfl, iteF' rfl ?_⟩⟩
  have s5 := s4.trans (Same.new nt (o := .tup [V.ref (He.ga X.K "BadMark"), V.ref (He.ga X.K "BadPaper"), V.ref (He.ga X.K "BadSmall"), V.ref (He.ga X.K "BadTable"), V.ref (He.ga X.K "TooMany")]))
  have ed5 := (Same.new nt (o := .tup [V.ref (He.ga X.K "BadMark"), V.ref (He.ga X.K "BadPaper"), V.ref (He.ga X.K "BadSmall"), V.ref (He.ga X.K "BadTable"), V.ref (He.ga X.K "TooMany")])) _ _ ed4
  have em5 := (Same.new nt (o := .tup [V.ref (He.ga X.K "BadMark"), V.ref (He.ga X.K "BadPaper"), V.ref (He.ga X.K "BadSmall"), V.ref (He.ga X.K "BadTable"), V.ref (He.ga X.K "TooMany")])) _ _ em4
  generalize upd H4 tp (.tup [V.ref (He.ga X.K "BadMark"), V.ref (He.ga X.K "BadPaper"), V.ref (He.ga X.K "BadSmall"), V.ref (He.ga X.K "BadTable"), V.ref (He.ga X.K "TooMany")]) = H5 at s5 ed5 em5
  refine ⟨_, rfl, _, _, _, _, rfl, .own _, T.kit "BadText" hD0 "BadLot" (by decide +kernel), ed5, _, rfl, iteF' (by decide +kernel) ?_⟩
  refine ⟨_, rfl, _, _, _, _, rfl, .own _, T.kit "BadText" hD0 "BadText" (by decide +kernel), ed5, _, rfl, iteT' (by decide +kernel) ?_⟩
  exact ⟨_, rfl, rfl, _, _, ed5, rfl, _, rfl, rfl, _, _, ed5, rfl, zl3, fun t nt => q _ t (s5.trans (Same.new nt)) upd_same⟩

theorem said_BadTurn {X : Cx} (T : TxtX X.prog X.w X.K X.mg X.base) (g : Addr) (s : Shared) (H0 : Hp) {cdg : Value} {a : Addr} {oe : Obj} {pn : List (Addr × Obj)} {dd : Addr} (hz : Zc (.ref (He.ga X.K "BadTurn")) (some dd) oe) (hf : ∃ vs, oe.data = .fields vs) (D : Ends) (f0 : V) (F : Addr) (H : Hp) (p : V) (ed : H dd = some (.xd [("given", p)])) (q : ∀ H3 t, Same H H3 → H3 t = some (.tup [.str "turn", p]) → D.rt (.ref t) H3)
    : ∃ t, PSs (((cxOf C8.CX0 X.prog X.w X.K X.mg X.base n__law_said "_law_said" (defScope s__law_said) g cdg X.A X.stack s H0 C8.E0).nox).tr ((a, oe) :: pn) (fun _ _ => False)) ((defBody s__law_said).drop 2) t ∧ t D [some f0, some (.ref F), some (.ref a), none, none, none] H := by
  have hD0 : ("BadTurn" : Str) ∈ erN := by decide +kernel
  obtain ⟨D0, e0⟩ : ∃ D0 : Str, D0 = "BadTurn" := ⟨_, rfl⟩
  have PX : PinX (((cxOf C8.CX0 X.prog X.w X.K X.mg X.base n__law_said "_law_said" (defScope s__law_said) g cdg X.A X.stack s H0 C8.E0).nox).tr ((a, oe) :: pn) (fun _ _ => False)) a (.ref (He.ga X.K "BadTurn")) (some dd) := ⟨oe, List.mem_cons_self, hz, hf⟩
  subst e0
  refine ⟨_, (pss_cons (ps_if (pt_cmpR op_isN (pv 2) pe_non (nomark _)) pss_never pss_nil)
      (pss_cons (ps_set (i := 4) sc__law_said.nd rfl (.inl rfl) (pe_lst (pa_cons (pe_callB (call_isP rfl (T.ex "BadTurn" hD0) PX) rfl (T.t.free "isinstance" (by decide +kernel)) boot_isi (pa_cons (pv 2) (pa_cons (pe_gc (T.t.glo "BadTurn" (by decide +kernel))) pa_nil))) (pa_cons (pe_callB (call_isP rfl (T.ex "BadTurn" hD0) PX) rfl (T.t.free "isinstance" (by decide +kernel)) boot_isi (pa_cons (pv 2) (pa_cons (pe_gc (T.t.glo "BadNumber" (by decide +kernel))) pa_nil))) (pa_cons (pe_callB (call_isP rfl (T.ex "BadTurn" hD0) PX) rfl (T.t.free "isinstance" (by decide +kernel)) boot_isi (pa_cons (pv 2) (pa_cons (pe_gc (T.t.glo "BadShot" (by decide +kernel))) pa_nil))) pa_nil)))))
      (pss_cons (ps_set (i := 4) sc__law_said.nd rfl (.inl rfl) (pe_op op_cat (pv 4) (pe_lst (pa_cons (pe_callB (call_isP rfl (T.ex "BadTurn" hD0) PX) rfl (T.t.free "isinstance" (by decide +kernel)) boot_isi (pa_cons (pv 2) (pa_cons (pe_gc (T.t.glo "BadChain" (by decide +kernel))) pa_nil))) (pa_cons (pe_callB (call_isP rfl (T.ex "BadTurn" hD0) PX) rfl (T.t.free "isinstance" (by decide +kernel)) boot_isi (pa_cons (pv 2) (pa_cons (pe_gc (T.t.glo "BadLot" (by decide +kernel))) pa_nil))) (pa_cons (pe_callB (call_isP rfl (T.ex "BadTurn" hD0) PX) rfl (T.t.free "isinstance" (by decide +kernel)) boot_isi (pa_cons (pv 2) (pa_cons (pe_gc (T.t.glo "BadText" (by decide +kernel))) pa_nil))) pa_nil))))))
      (pss_cons (ps_expr (pe_bm PySem.F.plainAttrs_list PySem.F.slot_list_append PySem.F.type_list_append mt_append (pv 4) (pa_cons (pe_callB (call_isP rfl (T.ex "BadTurn" hD0) PX) rfl (T.t.free "isinstance" (by decide +kernel)) boot_isi (pa_cons (pv 2) (pa_cons (pe_gc (T.t.glo "BadQuestion" (by decide +kernel))) pa_nil))) pa_nil)))
      (pss_cons (ps_if (PW.pt (pw_or (pt_cmpR op_ne (pe_bm PySem.F.plainAttrs_list PySem.F.slot_list_count PySem.F.type_list_count mt_countB (pv 4) (pa_cons pe_bl pa_nil)) pe_int (nomark _)) (pw_or1 (pt_val (pe_callB (call_isPT rfl (T.ex "BadTurn" hD0) PX) rfl (T.t.free "isinstance" (by decide +kernel)) boot_isi (pa_cons (pv 2) (pa_cons (pe_tup (pa_cons (pe_gc (T.t.glo "BadMark" (by decide +kernel))) (pa_cons (pe_gc (T.t.glo "BadPaper" (by decide +kernel))) (pa_cons (pe_gc (T.t.glo "BadSmall" (by decide +kernel))) (pa_cons (pe_gc (T.t.glo "BadTable" (by decide +kernel))) (pa_cons (pe_gc (T.t.glo "TooMany" (by decide +kernel))) pa_nil)))))) pa_nil))))))) pss_never pss_nil)
      (pss_cons (ps_if (pt_val (pe_callB (call_isP rfl (T.ex "BadTurn" hD0) PX) rfl (T.t.free "isinstance" (by decide +kernel)) boot_isi (pa_cons (pv 2) (pa_cons (pe_gc (T.t.glo "BadLot" (by decide +kernel))) pa_nil)))) pss_never pss_nil)
      (pss_cons (ps_if (pt_val (pe_callB (call_isP rfl (T.ex "BadTurn" hD0) PX) rfl (T.t.free "isinstance" (by decide +kernel)) boot_isi (pa_cons (pv 2) (pa_cons (pe_gc (T.t.glo "BadText" (by decide +kernel))) pa_nil)))) pss_never pss_nil)
      (pss_cons (ps_set (i := 5) sc__law_said.nd rfl (.inl rfl) (pe_ix ix_list (pe_lst (pa_cons pe_str (pa_cons pe_str (pa_cons pe_str (pa_cons pe_str (pa_cons pe_str (pa_cons pe_str (pa_cons pe_str pa_nil)))))))) (pe_bm PySem.F.plainAttrs_list PySem.F.slot_list_index PySem.F.type_list_index mt_index (pv 4) (pa_cons pe_bl pa_nil)) (fun _ _ => rfl)))
      (pss_one (ps_ret (pe_ifExp (pt_cmpR op_eq (pv 5) pe_str (nomark _)) (pe_tup (pa_cons pe_str pa_nil)) (pe_tup (pa_cons (pv 5) (pa_cons (pe_xp (T.ex "BadTurn" hD0) (T.t.inN.no "given" (by simp)) PX (pv 2)) pa_nil)))))))))))))), ?_⟩
  refine ⟨_, rfl, rfl, false, rfl, ?_⟩
  refine ⟨_, rfl, _, _, _, _, rfl, .own _, T.kit "BadTurn" hD0 "BadTurn" (by decide +kernel), ed, _, rfl, _, _, _, _, rfl, .own _, T.kit "BadTurn" hD0 "BadNumber" (by decide +kernel), ed, _, rfl, _, _, _, _, rfl, .own _, T.kit "BadTurn" hD0 "BadShot" (by decide +kernel), ed, zl3, fun m1 n1 => ?_⟩
  have s1 := Same.new n1 (o := .lst [.bl (decide (("BadTurn" : Str) = "BadTurn") || decide (("BadTurn" : Str) = "ShotError")), .bl (decide (("BadTurn" : Str) = "BadNumber") || decide (("BadNumber" : Str) = "ShotError")), .bl (decide (("BadTurn" : Str) = "BadShot") || decide (("BadShot" : Str) = "ShotError"))])
  have ed1 := s1 _ _ ed
  have em1 : upd H m1 (.lst [.bl (decide (("BadTurn" : Str) = "BadTurn") || decide (("BadTurn" : Str) = "ShotError")), .bl (decide (("BadTurn" : Str) = "BadNumber") || decide (("BadNumber" : Str) = "ShotError")), .bl (decide (("BadTurn" : Str) = "BadShot") || decide (("BadShot" : Str) = "ShotError"))]) m1 = some (.lst [.bl (decide (("BadTurn" : Str) = "BadTurn") || decide (("BadTurn" : Str) = "ShotError")), .bl (decide (("BadTurn" : Str) = "BadNumber") || decide (("BadNumber" : Str) = "ShotError")), .bl (decide (("BadTurn" : Str) = "BadShot") || decide (("BadShot" : Str) = "ShotError"))]) := upd_same
  generalize upd H m1 (.lst [.bl (decide (("BadTurn" : Str) = "BadTurn") || decide (("BadTurn" : Str) = "ShotError")), .bl (decide (("BadTurn" : Str) = "BadNumber") || decide (("BadNumber" : Str) = "ShotError")), .bl (decide (("BadTurn" : Str) = "BadShot") || decide (("BadShot" : Str) = "ShotError"))]) = H1 at s1 ed1 em1
  refine ⟨_, rfl, _, rfl, _, _, _, _, rfl, .own _, T.kit "BadTurn" hD0 "BadChain" (by decide +kernel), ed1, _, rfl, _, _, _, _, rfl, .own _, T.kit "BadTurn" hD0 "BadLot" (by decide +kernel), ed1, _, rfl, _, _, _, _, rfl, .own _, T.kit "BadTurn" hD0 "BadText" (by decide +kernel), ed1, zl3, fun m2 n2 => ?_⟩
  have s2 := Same.new n2 (o := .lst [.bl (decide (("BadTurn" : Str) = "BadChain") || decide (("BadChain" : Str) = "ShotError")), .bl (decide (("BadTurn" : Str) = "BadLot") || decide (("BadLot" : Str) = "ShotError")), .bl (decide (("BadTurn" : Str) = "BadText") || decide (("BadText" : Str) = "ShotError"))])
  have em1' := s2 _ _ em1
  have ed2 := s2 _ _ ed1
  have em2 : upd H1 m2 (.lst [.bl (decide (("BadTurn" : Str) = "BadChain") || decide (("BadChain" : Str) = "ShotError")), .bl (decide (("BadTurn" : Str) = "BadLot") || decide (("BadLot" : Str) = "ShotError")), .bl (decide (("BadTurn" : Str) = "BadText") || decide (("BadText" : Str) = "ShotError"))]) m2 = some (.lst [.bl (decide (("BadTurn" : Str) = "BadChain") || decide (("BadChain" : Str) = "ShotError")), .bl (decide (("BadTurn" : Str) = "BadLot") || decide (("BadLot" : Str) = "ShotError")), .bl (decide (("BadTurn" : Str) = "BadText") || decide (("BadText" : Str) = "ShotError"))]) := upd_same
  generalize upd H1 m2 (.lst [.bl (decide (("BadTurn" : Str) = "BadChain") || decide (("BadChain" : Str) = "ShotError")), .bl (decide (("BadTurn" : Str) = "BadLot") || decide (("BadLot" : Str) = "ShotError")), .bl (decide (("BadTurn" : Str) = "BadText") || decide (("BadText" : Str) = "ShotError"))]) = H2 at s2 ed2 em1' em2
  refine ⟨_, _, _, _, rfl, rfl, em1', em2, (show 6 ≤ sizeLine by decide), fun m3 n3 => ?_⟩
  have s3 := Same.new n3 (o := .lst ([.bl (decide (("BadTurn" : Str) = "BadTurn") || decide (("BadTurn" : Str) = "ShotError")), .bl (decide (("BadTurn" : Str) = "BadNumber") || decide (("BadNumber" : Str) = "ShotError")), .bl (decide (("BadTurn" : Str) = "BadShot") || decide (("BadShot" : Str) = "ShotError"))] ++ [.bl (decide (("BadTurn" : Str) = "BadChain") || decide (("BadChain" : Str) = "ShotError")), .bl (decide (("BadTurn" : Str) = "BadLot") || decide (("BadLot" : Str) = "ShotError")), .bl (decide (("BadTurn" : Str) = "BadText") || decide (("BadText" : Str) = "ShotError"))]))
  have em3 : upd H2 m3 (.lst ([.bl (decide (("BadTurn" : Str) = "BadTurn") || decide (("BadTurn" : Str) = "ShotError")), .bl (decide (("BadTurn" : Str) = "BadNumber") || decide (("BadNumber" : Str) = "ShotError")), .bl (decide (("BadTurn" : Str) = "BadShot") || decide (("BadShot" : Str) = "ShotError"))] ++ [.bl (decide (("BadTurn" : Str) = "BadChain") || decide (("BadChain" : Str) = "ShotError")), .bl (decide (("BadTurn" : Str) = "BadLot") || decide (("BadLot" : Str) = "ShotError")), .bl (decide (("BadTurn" : Str) = "BadText") || decide (("BadText" : Str) = "ShotError"))])) m3 = some (.lst ([.bl (decide (("BadTurn" : Str) = "BadTurn") || decide (("BadTurn" : Str) = "ShotError")), .bl (decide (("BadTurn" : Str) = "BadNumber") || decide (("BadNumber" : Str) = "ShotError")), .bl (decide (("BadTurn" : Str) = "BadShot") || decide (("BadShot" : Str) = "ShotError"))] ++ [.bl (decide (("BadTurn" : Str) = "BadChain") || decide (("BadChain" : Str) = "ShotError")), .bl (decide (("BadTurn" : Str) = "BadLot") || decide (("BadLot" : Str) = "ShotError")), .bl (decide (("BadTurn" : Str) = "BadText") || decide (("BadText" : Str) = "ShotError"))])) := upd_same
  have ed3 := s3 _ _ ed2
  generalize upd H2 m3 (.lst ([.bl (decide (("BadTurn" : Str) = "BadTurn") || decide (("BadTurn" : Str) = "ShotError")), .bl (decide (("BadTurn" : Str) = "BadNumber") || decide (("BadNumber" : Str) = "ShotError")), .bl (decide (("BadTurn" : Str) = "BadShot") || decide (("BadShot" : Str) = "ShotError"))] ++ [.bl (decide (("BadTurn" : Str) = "BadChain") || decide (("BadChain" : Str) = "ShotError")), .bl (decide (("BadTurn" : Str) = "BadLot") || decide (("BadLot" : Str) = "ShotError")), .bl (decide (("BadTurn" : Str) = "BadText") || decide (("BadText" : Str) = "ShotError"))])) = H3 at s3 em3 ed3
  have nm : dd ≠ m3 := ne_of_none ed2 n3
  refine ⟨_, rfl, .inl ⟨rfl, _, SqL.of em3⟩, _, rfl, _, _, _, _, rfl, .own _, T.kit "BadTurn" hD0 "BadQuestion" (by decide +kernel), ed3, m3, _, _, rfl, rfl, em3, (show 6 < sizeLine by decide), ?_⟩
  have em4 : upd H3 m3 (.lst ([.bl (decide (("BadTurn" : Str) = "BadTurn") || decide (("BadTurn" : Str) = "ShotError")), .bl (decide (("BadTurn" : Str) = "BadNumber") || decide (("BadNumber" : Str) = "ShotError")), .bl (decide (("BadTurn" : Str) = "BadShot") || decide (("BadShot" : Str) = "ShotError"))] ++ [.bl (decide (("BadTurn" : Str) = "BadChain") || decide (("BadChain" : Str) = "ShotError")), .bl (decide (("BadTurn" : Str) = "BadLot") || decide (("BadLot" : Str) = "ShotError")), .bl (decide (("BadTurn" : Str) = "BadText") || decide (("BadText" : Str) = "ShotError"))] ++ [.bl (decide (("BadTurn" : Str) = "BadQuestion") || decide (("BadQuestion" : Str) = "ShotError"))])) m3 = some (.lst ([.bl (decide (("BadTurn" : Str) = "BadTurn") || decide (("BadTurn" : Str) = "ShotError")), .bl (decide (("BadTurn" : Str) = "BadNumber") || decide (("BadNumber" : Str) = "ShotError")), .bl (decide (("BadTurn" : Str) = "BadShot") || decide (("BadShot" : Str) = "ShotError"))] ++ [.bl (decide (("BadTurn" : Str) = "BadChain") || decide (("BadChain" : Str) = "ShotError")), .bl (decide (("BadTurn" : Str) = "BadLot") || decide (("BadLot" : Str) = "ShotError")), .bl (decide (("BadTurn" : Str) = "BadText") || decide (("BadText" : Str) = "ShotError"))] ++ [.bl (decide (("BadTurn" : Str) = "BadQuestion") || decide (("BadQuestion" : Str) = "ShotError"))])) := upd_same
  have ed4 : upd H3 m3 (.lst ([.bl (decide (("BadTurn" : Str) = "BadTurn") || decide (("BadTurn" : Str) = "ShotError")), .bl (decide (("BadTurn" : Str) = "BadNumber") || decide (("BadNumber" : Str) = "ShotError")), .bl (decide (("BadTurn" : Str) = "BadShot") || decide (("BadShot" : Str) = "ShotError"))] ++ [.bl (decide (("BadTurn" : Str) = "BadChain") || decide (("BadChain" : Str) = "ShotError")), .bl (decide (("BadTurn" : Str) = "BadLot") || decide (("BadLot" : Str) = "ShotError")), .bl (decide (("BadTurn" : Str) = "BadText") || decide (("BadText" : Str) = "ShotError"))] ++ [.bl (decide (("BadTurn" : Str) = "BadQuestion") || decide (("BadQuestion" : Str) = "ShotError"))])) dd = _ := (upd_ne nm).trans ed3
  have s4 : Same H (upd H3 m3 (.lst ([.bl (decide (("BadTurn" : Str) = "BadTurn") || decide (("BadTurn" : Str) = "ShotError")), .bl (decide (("BadTurn" : Str) = "BadNumber") || decide (("BadNumber" : Str) = "ShotError")), .bl (decide (("BadTurn" : Str) = "BadShot") || decide (("BadShot" : Str) = "ShotError"))] ++ [.bl (decide (("BadTurn" : Str) = "BadChain") || decide (("BadChain" : Str) = "ShotError")), .bl (decide (("BadTurn" : Str) = "BadLot") || decide (("BadLot" : Str) = "ShotError")), .bl (decide (("BadTurn" : Str) = "BadText") || decide (("BadText" : Str) = "ShotError"))] ++ [.bl (decide (("BadTurn" : Str) = "BadQuestion") || decide (("BadQuestion" : Str) = "ShotError"))]))) := ((s1.trans s2).trans s3).put ((s1.trans s2).free n3)
  generalize upd H3 m3 (.lst ([.bl (decide (("BadTurn" : Str) = "BadTurn") || decide (("BadTurn" : Str) = "ShotError")), .bl (decide (("BadTurn" : Str) = "BadNumber") || decide (("BadNumber" : Str) = "ShotError")), .bl (decide (("BadTurn" : Str) = "BadShot") || decide (("BadShot" : Str) = "ShotError"))] ++ [.bl (decide (("BadTurn" : Str) = "BadChain") || decide (("BadChain" : Str) = "ShotError")), .bl (decide (("BadTurn" : Str) = "BadLot") || decide (("BadLot" : Str) = "ShotError")), .bl (decide (("BadTurn" : Str) = "BadText") || decide (("BadText" : Str) = "ShotError"))] ++ [.bl (decide (("BadTurn" : Str) = "BadQuestion") || decide (("BadQuestion" : Str) = "ShotError"))])) = H4 at em4 ed4 s4
  refine ⟨_, rfl, .inl ⟨rfl, _, SqL.of em4⟩, m3, [(decide (("BadTurn" : Str) = "BadTurn") || decide (("BadTurn" : Str) = "ShotError")), (decide (("BadTurn" : Str) = "BadNumber") || decide (("BadNumber" : Str) = "ShotError")), (decide (("BadTurn" : Str) = "BadShot") || decide (("BadShot" : Str) = "ShotError")), (decide (("BadTurn" : Str) = "BadChain") || decide (("BadChain" : Str) = "ShotError")), (decide (("BadTurn" : Str) = "BadLot") || decide (("BadLot" : Str) = "ShotError")), (decide (("BadTurn" : Str) = "BadText") || decide (("BadText" : Str) = "ShotError")), (decide (("BadTurn" : Str) = "BadQuestion") || decide (("BadQuestion" : Str) = "ShotError"))], rfl, rfl, SqL.of em4, rfl, _, rfl, iteF' (by decide +kernel) ?_⟩
  refine ⟨_, rfl, (show 5 ≤ sizeLine by decide), fun tp nt => ⟨tp, _, [Value.ref (He.ga X.K "BadMark"), Value.ref (He.ga X.K "BadPaper"), Value.ref (He.ga X.K "BadSmall"), Value.ref (He.ga X.K "BadTable"), Value.ref (He.ga X.K "TooMany")], false, _, rfl, upd_same, (.cons (.own _) (.cons (.own _) (.cons (.own _) (.cons (.own _) (.cons (.own _) .nil))))), (kitAny_cons (b := false) ((T.kit "BadTurn" hD0 "BadMark" (by decide +kernel)).trans (by decide +kernel)) (fun _ => (kitAny_cons (b := false) ((T.kit "BadTurn" hD0 "BadPaper" (by decide +kernel)).trans (by decide +kernel)) (fun _ => (kitAny_cons (b := false) ((T.kit "BadTurn" hD0 "BadSmall" (by decide +kernel)).trans (by decide +kernel)) (fun _ => (kitAny_cons (b := false) ((T.kit "BadTurn" hD0 "BadTable" (by decide +kernel)).trans (by decide +kernel)) (fun _ => (kitAny_cons (b := false) ((T.kit "BadTurn" hD0 "TooMany" (by decide +kernel)).trans (by decide +kernel)) (fun _ => kitAny_nil) (fun h => nomatch h))) (fun h => nomatch h))) (fun h => nomatch h))) (fun h => nomatch h))) (fun h => nomatch h)), (Same.new nt) _ _ ed4, _, rfl, iteF' rfl ?_⟩⟩
  have s5 := s4.trans (Same.new nt (o := .tup [V.ref (He.ga X.K "BadMark"), V.ref (He.ga X.K "BadPaper"), V.ref (He.ga X.K "BadSmall"), V.ref (He.ga X.K "BadTable"), V.ref (He.ga X.K "TooMany")]))
  have ed5 := (Same.new nt (o := .tup [V.ref (He.ga X.K "BadMark"), V.ref (He.ga X.K "BadPaper"), V.ref (He.ga X.K "BadSmall"), V.ref (He.ga X.K "BadTable"), V.ref (He.ga X.K "TooMany")])) _ _ ed4
  have em5 := (Same.new nt (o := .tup [V.ref (He.ga X.K "BadMark"), V.ref (He.ga X.K "BadPaper"), V.ref (He.ga X.K "BadSmall"), V.ref (He.ga X.K "BadTable"), V.ref (He.ga X.K "TooMany")])) _ _ em4
  generalize upd H4 tp (.tup [V.ref (He.ga X.K "BadMark"), V.ref (He.ga X.K "BadPaper"), V.ref (He.ga X.K "BadSmall"), V.ref (He.ga X.K "BadTable"), V.ref (He.ga X.K "TooMany")]) = H5 at s5 ed5 em5
  refine ⟨_, rfl, _, _, _, _, rfl, .own _, T.kit "BadTurn" hD0 "BadLot" (by decide +kernel), ed5, _, rfl, iteF' (by decide +kernel) ?_⟩
  refine ⟨_, rfl, _, _, _, _, rfl, .own _, T.kit "BadTurn" hD0 "BadText" (by decide +kernel), ed5, _, rfl, iteF' (by decide +kernel) ?_⟩
  refine ⟨(show 7 ≤ sizeLine by decide), fun w nw => ?_⟩
  have s6 := s5.trans (Same.new nw (o := .lst [.str "turn", .str "number", .str "shot", .str "chain", .str "", .str "", .str "question"]))
  have ed6 := (Same.new nw (o := .lst [.str "turn", .str "number", .str "shot", .str "chain", .str "", .str "", .str "question"])) _ _ ed5
  have em6 := (Same.new nw (o := .lst [.str "turn", .str "number", .str "shot", .str "chain", .str "", .str "", .str "question"])) _ _ em5
  have ew : upd H5 w (.lst [.str "turn", .str "number", .str "shot", .str "chain", .str "", .str "", .str "question"]) w = some (.lst [.str "turn", .str "number", .str "shot", .str "chain", .str "", .str "", .str "question"]) := upd_same
  generalize upd H5 w (.lst [.str "turn", .str "number", .str "shot", .str "chain", .str "", .str "", .str "question"]) = H6 at s6 ed6 em6 ew
  refine ⟨_, rfl, .inl ⟨rfl, _, SqL.of em6⟩, m3, _, .bl true, 0, _, rfl, rfl, SqL.of em6, rfl, rfl, rfl, (by decide +kernel), fun m z h => absurd h (Nat.not_lt_zero m), ?_⟩
  refine ⟨w, _, _, .str "turn", rfl, rfl, SqL.of ew, atI_nat (j := 0) rfl, ?_⟩
  refine ⟨_, rfl, rfl, _, rfl, iteF' (by decide +kernel) ?_⟩
  exact ⟨_, rfl, _, rfl, rfl, _, _, ed6, rfl, zl2, fun t nt => q _ t (s6.trans (Same.new nt)) upd_same⟩

end K5
/-! ### a lambda handed to a def that may catch what it raises; with a default, too -/
namespace K5
open PySem PySem.Spec PyProof.Rows L2 LamX
structure LamP (N : List Str) (sc scope : Scope) (binds : List (Str × Value)) : Prop where
  kind : scope.kind = .function
  co : scope.isCoroutine = false
  gen : scope.isGenerator = false
  own : ∀ y ∈ scope.names, y.2 ≠ .cell ∧ (y.2 = .local → y.1 ∉ N)
  free : ∀ y ∈ scope.names, y.2 = .free → sc.names.lookup y.1 = some .cell ∨ sc.names.lookup y.1 = some .free
  loc : ∀ y ∈ binds, scope.names.lookup y.1 = some .local
def lamPB (N : List Str) (sc scope : Scope) (bs : List Str) : Bool :=
  decide (scope.kind = .function) && (!scope.isCoroutine && (!scope.isGenerator && ((scope.names.all fun y => !decide (y.2 = .cell) && ((!decide (y.2 = .local) || !decide (y.1 ∈ N)) && (!decide (y.2 = .free) || (decide (sc.names.lookup y.1 = some .cell) || decide (sc.names.lookup y.1 = some .free))))) &&
    bs.all fun y => decide (scope.names.lookup y = some .local))))
theorem lamP_by {N : List Str} {sc scope : Scope} {binds : List (Str × Value)} (h : lamPB N sc scope (binds.map (·.1)) = true) : LamP N sc scope binds := by
  obtain ⟨h1, h⟩ := b2 h
  obtain ⟨h2, h⟩ := b2 h
  obtain ⟨h3, h⟩ := b2 h
  obtain ⟨h4, h5⟩ := b2 h
  have each := List.all_eq_true.mp h4
  refine ⟨of_decide_eq_true h1, by simpa using h2, by simpa using h3, fun y hy => ?_, fun y hy e => ?_, fun y hy => ?_⟩
  · obtain ⟨k1, k⟩ := b2 (each y hy)
    obtain ⟨k2, _⟩ := b2 k
    refine ⟨by simpa using k1, fun e => ?_⟩
    rw [decide_eq_true e] at k2
    simpa using k2
  · obtain ⟨k1, k⟩ := b2 (each y hy)
    obtain ⟨_, k3⟩ := b2 k
    rw [decide_eq_true e] at k3
    simpa using k3
  · exact of_decide_eq_true (List.all_eq_true.mp h5 y.1 (List.mem_map.mpr ⟨y, hy, rfl⟩))
section
variable {X : Cx} {pins : List (Addr × Obj)} {σ : L2.St} {H HZ : Hp} {s s1 : Shared} {binds : List (Str × Value)}
theorem LamP.has {scope : Scope} (L : LamP X.N X.env.scope scope binds) (ok : X.Ok) : ∀ y ∈ scope.names, y.2 = .free → ∃ c, X.env.cells.lookup y.1 = some c := fun y hy e => (L.free y hy e).elim (fun k => ok.has _ (.inl k)) (fun k => ok.has _ (.inr k))
theorem lam_startP {A : Around} {outer : List Env} {E : XK} {scope : Scope} {f c' : Addr} {h₁ : Heap} {tk : Nat} (I : Inv X pins σ H s) (L : LamP X.N X.env.scope scope binds) (e0 : Env0 X.prog X.w X.K X.mg X.base A outer s1 HZ) (hd : A.handled = none)
    (un : Un (frs X.stack) [] H HZ s.heap s1.heap) (hns : h₁.Ns s1.heap.objs.size fun y => binds.reverse.lookup y) (kp : ∀ b o, s1.heap.get? b = some o → h₁.get? b = some o) :
    Inv (lamCx X A outer s1 HZ E scope f c') [] σ HZ { s1 with heap := h₁, toks := tk } := by
  have hfree := L.has I.ok
  have cm : ∀ {y c}, (cloFrom X.env.cells scope.names []).lookup y = some c → X.env.cells.lookup y = some c := fun {y c} e => by
    rcases cloFrom_mem (PySem.mem_of_lookup e) with hm | ⟨h1, h2⟩
    · cases hm
    · obtain ⟨c1, hc⟩ := hfree _ h1 rfl
      have hc : X.env.cells.lookup y = some c1 := hc
      obtain rfl : c = c1 := by rw [h2, hc] <;> rfl
      exact hc
  have cellK : ∀ {c : Addr} {v : Option Value}, H c = none → s.heap.IsCell c v → h₁.IsCell c v := fun {c v} n ⟨o, ho, hd⟩ => by
    obtain ⟨sl, q⟩ := un.any ho n (by simp)
    exact ⟨_, kp _ _ q, hd⟩
  have look : ∀ {y}, scope.names.lookup y = some .free → ∃ c, (cloFrom X.env.cells scope.names []).lookup y = some c := fun {y} hl => by
    have hy : (y, NameKind.free) ∈ scope.names := PySem.mem_of_lookup hl
    exact mem_lookup (cloFrom_has (cells := X.env.cells) (acc := []) hy)
  have noA : ∀ b : Addr, b ∉ (lamCx X A outer s1 HZ E scope f c').ex := fun b z => (nomatch (show b ∈ ([] : List Addr) from z))
  have ok : (lamCx X A outer s1 HZ E scope f c').Ok := by
    refine ⟨e0.mod, L.kind, rfl, rfl, Nat.le_refl _, fun y z c e1 e2 => I.ok.inj y z c (cm e1) (cm e2), fun y hy => ?_, fun y c z _ => (nomatch (show false = true from z)), fun _ => hd, Around.frames_deeper e0.frames, .inr ⟨rfl, rfl⟩, fun b z => absurd z (noA b), e0.bs, e0.bsz,
      fun b _ _ => noA b, fun b z => absurd z (noA b), e0.funs, e0.frf⟩
    have hy : scope.names.lookup y = some .cell ∨ scope.names.lookup y = some .free := hy
    exact hy.elim (fun hy => absurd rfl (L.own _ (PySem.mem_of_lookup hy)).1) look
  refine ⟨ok, rfl, e0.bare, Un.kept kp, ⟨_, hns, fun i y v e1 e2 e3 => ?_⟩, fun y c e => ?_, e0.hok.fresh (Nat.le_refl _), fun y c e => ?_, fun q hq => absurd (show q ∈ ([] : List (Addr × Obj)) ++ [] from hq) (by simp), e0.hok.kept kp, I.len⟩
  · have e3 : Vis scope y := e3
    rcases e3 with k | k | k
    · exact absurd (List.mem_of_getElem? e1) ((L.own _ (PySem.mem_of_lookup k)).2 rfl)
    · exact absurd rfl (L.own _ (PySem.mem_of_lookup k)).1
    · obtain ⟨m, hn, hl⟩ := I.loc
      obtain ⟨w', r, q⟩ := hl i y v e1 e2 ((L.free _ (PySem.mem_of_lookup k) rfl).elim (fun k => .inr (.inl k)) (fun k => .inr (.inr k)))
      obtain ⟨c2, h2⟩ := look k
      refine ⟨w', r, .inr ⟨.inr k, c2, h2, ?_⟩⟩
      have c1 := cm h2
      rcases q with ⟨k', _⟩ | ⟨_, c3, e', z⟩
      · have k' : X.env.scope.names.lookup y = some .local := k'
        rcases L.free _ (PySem.mem_of_lookup k) rfl with k2 | k2
        · rw [show X.env.scope.names.lookup y = _ from k2] at k'
          cases k'
        · rw [show X.env.scope.names.lookup y = _ from k2] at k'
          cases k'
      · rw [c1] at e'
        cases e'
        exact cellK (I.freeC y _ c1) z
  · obtain ⟨w', z⟩ := I.cell y c (cm e)
    exact ⟨w', cellK (I.freeC y c (cm e)) z⟩
  · obtain ⟨v, o, ho, hd⟩ := I.cell y c (cm e)
    exact un.free c o ho (I.freeC y c (cm e)) (by simp)
/-- x(), in the def that got the lambda; what it wishes of errors knows the slots -/
theorem pe_actP {CXg : CXT} {Eg : XK} {Ng : List Str} {qg : Str} {sg : Scope} {g f c' : Addr} {cdg dV doc pm ctv : Value} {params : Arguments} {body : Expr} {scope : Scope} {k i : Nat} {a : Str} {pn : List (Addr × Obj)} {xe : Value → Shared → Prop} {W : WX} {E : L2.St → XK} {tb : XK → TE} {p1 p2 : Pos}
    (I : Inv X pins σ H s) (L : LamP X.N X.env.scope scope binds) (hf : s.heap.get? f = some (PySem.W.kdv_obj "<lambda>" (X.env.qual ++ "<lambda>") params (.expr body) scope (cloFrom X.env.cells scope.names []) dV doc pm c' ctv)) (hfn : H f = none) (hfr : f ∉ frs X.stack)
    (hbind : ∀ s1 : Shared, (∀ b o, s.heap.get? b = some o → H b = none → b ∉ frs X.stack → s1.heap.get? b = some o) → BindsTo s1 (PySem.W.kdv_fn "<lambda>" (X.env.qual ++ "<lambda>") params (.expr body) scope (cloFrom X.env.cells scope.names []) dV doc pm (.ref c') ctv) ⟨[], []⟩ binds)
    (tk : Takes ((cxOf CXg X.prog X.w X.K X.mg X.base Ng qg sg g cdg X.A X.stack s H Eg).tr pn xe) W) (hW : ∀ σ' cls d H', E σ' cls d H' → W cls d σ' H') (hr : Room (k + 1) (X.A.deeper (envOfC qg sg s.heap.objs.size g cdg)))
    (hbody : ∀ (A : Around) (outer : List Env) (s : Shared) (H : Hp) (E : XK), Room k (A.deeper (lamEnv X scope s.heap.objs.size f c')) → PE (lamCx X A outer s H E scope f c') body (tb E))
    (hN : Ng[i]? = some a) (hv : Vis sg a) (hd : (a == ("__debug__" : Str)) = false := by decide) (hcd : (a == ("__classdict__" : Str)) = false := by decide) :
    PE ((cxOf CXg X.prog X.w X.K X.mg X.base Ng qg sg g cdg X.A X.stack s H Eg).tr pn xe) (.Call (.Name a p1) [] [] p2)
      (fun σZ HZ Q => σZ[i]? = some (some (.ref f)) ∧ HZ c' = some (CodeO c' (X.env.qual ++ "<lambda>")) ∧ tb (E σZ) σ HZ Q) := by
  constructor
  rintro pinsZ sZ σZ HZ Q IZ ⟨hs, hc, ht⟩
  refine wpAny_Call_Name_kw (thn ((pe_var (pos := p1) (i := i) hN hv hd hcd).run pinsZ sZ σZ HZ (fun v H1 => v = .ref f ∧ H1 = HZ) IZ ⟨.ref f, hs, rfl, rfl⟩) fun u s1 ⟨v, H1, I1, r1, ev, eH⟩ => ?_)
  subst ev
  rw [eH] at I1
  obtain rfl : u = Value.ref f := r1
  have of1 : s1.heap.get? f = some (PySem.W.kdv_obj "<lambda>" (X.env.qual ++ "<lambda>") params (.expr body) scope (cloFrom X.env.cells scope.names []) dV doc pm c' ctv) := I1.base.keep f _ hf hfn hfr (fun z => nomatch (show f ∈ ([] : List Addr) from z))
  have un : Un (frs X.stack) [] H HZ s.heap s1.heap := I1.base
  have fz : ∀ b o, s.heap.get? b = some o → H b = none → b ∉ frs X.stack → s1.heap.get? b = some o := fun b o e n1 n2 => I1.base.keep b _ e n1 n2 (fun z => nomatch (show b ∈ ([] : List Addr) from z))
  obtain ⟨⟨oc, vs, t, hoc, hdc, hvc⟩, _, _⟩ := I1.hok c' _ hc
  refine PySem.W.callWith_F0 ⟨_, _, _, _, of1⟩ (wpAny_call (codeAny_mono (R := CR (L2.CX X.prog X.w) (envOfC qg sg s.heap.objs.size g cdg :: X.stack) X.prog X.w HZ s1 Q (E σZ)) ?_ fun r s' hq => ?_))
  · refine PySem.W.kla_callFunE (A := X.A.deeper (envOfC qg sg s.heap.objs.size g cdg)) hr.depth of1 rfl L.co L.gen rfl ⟨c', oc, vs, t, rfl, hoc, hdc, hvc⟩ (hbind s1 fz _ _ _ _ ?_)
    refine wpAny_newFunctionEnv (fun y hy => (L.own y hy).1) L.loc (fun h₁ hns hsb => ⟨I1.nolimit.fresh _ hsb, ?_⟩) L.kind
    have kp : ∀ b o, s1.heap.get? b = some o → h₁.get? b = some o := fun b o e => hsb.extBut b o (Nat.ne_of_lt (Heap.lt_size e)) (Heap.get?_push_of_some _ e)
    have J : Inv (lamCx X (X.A.deeper (envOfC qg sg s.heap.objs.size g cdg)) (envOfC qg sg s.heap.objs.size g cdg :: X.stack) s1 HZ (E σZ) scope f c') [] σ HZ { s1 with heap := h₁, toks := s1.toks + binds.length } :=
      lam_startP I L I1.env0 hr.hd un hns kp
    refine (show codeAny (model X.prog X.w) _ (.expr body (lamEnv X scope s1.heap.objs.size f c')) (CR (L2.CX X.prog X.w) (envOfC qg sg s.heap.objs.size g cdg :: X.stack) X.prog X.w HZ s1 Q (E σZ)) _ from ?_)
    refine PySem.W.kla_codeExpr (wpAny_mono ((hbody _ _ s1 HZ (E σZ) (hr.deeper _)).run [] _ _ HZ Q J ht) (fun v s' hq => ?_) fun e s' hq => hq)
    obtain ⟨w', H', J', rv, q⟩ := hq
    exact ⟨w', H', J'.os, J'.bare, J'.base, J'.hok, rv, q⟩
  · cases r with
    | error e => exact tk e s' (XE.of_call I1 (fun cls d H' h => hW σZ cls d H' h) hq)
    | ok fl =>
      cases fl with
      | ret u => exact I1.after hq
      | next => exact hq.elim
      | brk => exact hq.elim
      | cont => exact hq.elim
end
/-- the def that calls what it got -/
def GivesP (X : Cx) (Ng : List Str) (x : Str) (sg : Scope) (g : Addr) (cdg : Value) (bg : List Stmt) (a : Str) (q : Str) (TT : (XK → Hp → VK → Prop) → Hp → VK → Prop) : Prop :=
  ∀ (f c' : Addr) (s : Shared) (H : Hp) (Q : VK) (tl : XK → Hp → VK → Prop),
    (∀ (W : WX) (pn : List (Addr × Obj)) (xe : Value → Shared → Prop) (E : L2.St → XK) (p1 p2 : Pos), Takes ((cxOf C8.CX0 X.prog X.w X.K X.mg X.base Ng x sg g cdg X.A X.stack s H C8.E0).tr pn xe) W → (∀ σ' cls d H', E σ' cls d H' → W cls d σ' H') →
      PE ((cxOf C8.CX0 X.prog X.w X.K X.mg X.base Ng x sg g cdg X.A X.stack s H C8.E0).tr pn xe) (.Call (.Name a p1) [] [] p2) (fun σZ HZ Q => σZ[0]? = some (some (.ref f)) ∧ HZ c' = some (CodeO c' q) ∧ tl (E σZ) HZ Q)) →
    H c' = some (CodeO c' q) → TT tl H Q →
    ∃ t, PSs (cxOf C8.CX0 X.prog X.w X.K X.mg X.base Ng x sg g cdg X.A X.stack s H C8.E0).nox bg t ∧ t { nx := fun _ H' => Q .non H', rt := Q } (L2.start Ng [.ref f]) H
end K5
namespace K5
open PySem PySem.Spec PyProof.Rows L2 LamX
theorem pss_by {X : Cx} {rest : List Stmt} (C : TS) (h : ∀ D σ H, C D σ H → ∃ t, PSs X rest t ∧ t D σ H) : PSs X rest C :=
  ⟨fun pins s σ H D I c => let ⟨_, ht, hq⟩ := h D σ H c; ht.run pins s σ H D I hq⟩
/-- how a call may end in an error, and what is told then -/
def SaidE (K : PySem.W.Frag) (Q : VK) : XK := fun cls d H => ∃ dd, d = some dd ∧
  ((∃ p n, cls = .ref (He.ga K "BadLot") ∧ H dd = some (.xd [("number", n), ("part", p)]) ∧ ∀ H3 t, Same H H3 → H3 t = some (.tup [.str "lot", p, n]) → Q (.ref t) H3) ∨
  (∃ p n, cls = .ref (He.ga K "BadText") ∧ H dd = some (.xd [("place", n), ("line", p)]) ∧ ∀ H3 t, Same H H3 → H3 t = some (.tup [.str "text", p, n]) → Q (.ref t) H3) ∨
  (∃ p, cls = .ref (He.ga K "BadTurn") ∧ H dd = some (.xd [("given", p)]) ∧ ∀ H3 t, Same H H3 → H3 t = some (.tup [.str "turn", p]) → Q (.ref t) H3))
def TSaid (K : PySem.W.Frag) : (XK → Hp → VK → Prop) → Hp → VK → Prop := fun tl H Q => ∀ F, H F = none →
  ∀ Q' : VK, (∀ v H2, H2 F = some (.lst []) → Q (.ref F) (upd H2 F (.lst [v])) → Q' v H2) → tl (SaidE K Q) (upd H F (.lst [])) Q'
theorem said_gives {X : Cx} (T : TxtX X.prog X.w X.K X.mg X.base) (g : Addr) (cdg : Value) (q : Str) : GivesP X n__law_said "_law_said" (defScope s__law_said) g cdg (defBody s__law_said) "_law_call" q (TSaid X.K) := by
  intro f c' s H Q tl act hc h
  have hm : X.mg "ShotError" = some (.ref (He.ga X.K "ShotError")) := T.t.glo "ShotError" (by decide +kernel)
  refine ⟨_, pss_cons (ps_par (i := 1) (j := 2) rfl sc__law_said.nd rfl rfl (by decide) rfl rfl (pa_cons (pe_lst pa_nil) (pa_cons pe_non pa_nil)) rfl)
    (pss_try_keep (X := (cxOf C8.CX0 X.prog X.w X.K X.mg X.base n__law_said "_law_said" (defScope s__law_said) g cdg X.A X.stack s H C8.E0).nox) (i := 3) (c := .ref (He.ga X.K "ShotError"))
      (tb := fun W D σ H1 => ∃ (Ech : XK) (F : Addr), (∀ cls d σ' H', σ' = σ → Ech cls d H' → W cls d σ' H') ∧ σ[1]? = some (some (.ref F)) ∧ H1 F = some (.lst []) ∧ σ[0]? = some (some (.ref f)) ∧ H1 c' = some (CodeO c' q) ∧ tl Ech H1 fun v H2 => rAppend (.ref F) [v] H2 fun _ H3 => D.nx σ H3)
      (t2 := fun a cls d D σ H1 => (∃ (f0 : V) (F : Addr), σ = [some f0, some (.ref F), some (.ref a), none, none, none]) ∧ SaidE X.K D.rt cls d H1)
      rfl rfl sc__law_said.nd rfl rfl ⟨rfl, by decide, .inl hm⟩ L2.takes0 (fun W pn xe tk _ => ?_) (fun a oe cls d pn _ _ => pss_one (ps_set (i := 2) sc__law_said.nd rfl (.inl rfl) (pv 3)))
      (pss_cons (ps_if (pt_cmpR op_isN (pv 2) pe_non (nomark _)) (pss_one (ps_ret (pv 1))) pss_nil) pss_never)
      (fun a oe cls d pn hz hf => pss_by _ fun D σ H1 ⟨⟨f0, F, hσ⟩, dd, hd, k⟩ => ?_)), ?_⟩
  · refine pss_by _ fun D σ H1 ⟨Ech, F, hE, h1, eF, h0, hc1, ht⟩ => ?_
    refine ⟨_, pss_one (ps_expr (pe_bm PySem.F.plainAttrs_list PySem.F.slot_list_append PySem.F.type_list_append mt_append (pv 1) (pa_cons (act W pn xe (fun σ' cls d H' => σ' = σ ∧ Ech cls d H') _ _ tk (fun σ' cls d H' h => hE cls d σ' H' h.1 h.2)) pa_nil))), ?_⟩
    have hEE : (fun (cls : Value) (d : Option Addr) (H' : Hp) => σ = σ ∧ Ech cls d H') = Ech := by
      funext cls d H'
      simp
    refine ⟨_, h1, .inl ⟨rfl, _, SqL.of eF⟩, h0, hc1, ?_⟩
    show tl (fun (cls : Value) (d : Option Addr) (H' : Hp) => σ = σ ∧ Ech cls d H') H1 fun v H2 => rAppend (.ref F) [v] H2 fun _ H3 => D.nx σ H3
    rw [hEE]
    exact ht
  · subst hσ hd
    rcases k with ⟨p, n, rfl, ed, k⟩ | ⟨p, n, rfl, ed, k⟩ | ⟨p, rfl, ed, k⟩
    · exact said_BadLot T g s H hz hf D f0 F H1 p n ed k
    · exact said_BadText T g s H hz hf D f0 F H1 p n ed k
    · exact said_BadTurn T g s H hz hf D f0 F H1 p ed k
  · refine ⟨zl0, fun F nF => ⟨_, _, rfl, SaidE X.K Q, F, fun cls d σ' H' hs he => ?_, rfl, upd_same, rfl, (Same.new nF) _ _ hc, h F nF _ fun v H2 eF hQ => ?_⟩⟩
    · obtain ⟨dd, hd, k⟩ := he
      have hn : ∃ D : Str, D ∈ erN ∧ cls = .ref (He.ga X.K D) := by
        rcases k with ⟨p, n, rfl, _⟩ | ⟨p, n, rfl, _⟩ | ⟨p, rfl, _⟩
        · exact ⟨_, by decide +kernel, rfl⟩
        · exact ⟨_, by decide +kernel, rfl⟩
        · exact ⟨_, by decide +kernel, rfl⟩
      obtain ⟨D, hD, rfl⟩ := hn
      subst hs
      exact ⟨true, T.exm D hD, fun _ a na => ⟨_, rfl, ⟨_, _, rfl⟩, dd, hd, k⟩, fun h => (nomatch h)⟩
    · exact ⟨_, _, _, rfl, rfl, eF, (show 0 < sizeLine by decide), _, rfl, rfl, true, rfl, iteT' rfl ⟨_, rfl, hQ⟩⟩
end K5
/-! ### x(lambda: body), x a def that may catch -/
namespace K5
open PySem PySem.Spec PyProof.Rows L2 LamX
/-- how a lambda comes to be -/
def MakesP (X : Cx) (T : List (Addr × Str)) (params : Arguments) (body : Expr) (scope : Scope) (lpos : Pos) : Prop :=
  ∀ (pins : List (Addr × Obj)) (s : Shared) (σ : L2.St) (H : Hp) (Q : Value → Shared → Prop), Inv X pins σ H s → Tabs T H →
    (∀ (f c' : Addr) (dV doc pm ctv : Value) (binds : List (Str × Value)) (H1 : Hp) (s' : Shared), Inv X pins σ H1 s' → ExtN H H1 → Tabs T H1 → LamP X.N X.env.scope scope binds →
      s'.heap.get? f = some (PySem.W.kdv_obj "<lambda>" (X.env.qual ++ "<lambda>") params (.expr body) scope (cloFrom X.env.cells scope.names []) dV doc pm c' ctv) → H1 f = none → f ∉ frs X.stack → H1 c' = some (CodeO c' (X.env.qual ++ "<lambda>")) →
      (∀ s1 : Shared, (∀ b o, s'.heap.get? b = some o → H1 b = none → b ∉ frs X.stack → s1.heap.get? b = some o) → BindsTo s1 (PySem.W.kdv_fn "<lambda>" (X.env.qual ++ "<lambda>") params (.expr body) scope (cloFrom X.env.cells scope.names []) dV doc pm (.ref c') ctv) ⟨[], []⟩ binds) → Q (.ref f) s') →
    wpAny (model X.prog X.w) X.A (eval (.Lambda params body scope lpos) X.env) Q X.xe s
section
variable {X : Cx}
theorem pe_lamcallP {T : List (Addr × Str)} {TT : (XK → Hp → VK → Prop) → Hp → VK → Prop} {x a : Str} {g : Addr} {k : Nat} {pg : Arguments} {bg : List Stmt} {sg : Scope} {dV kV doc pm cdv ct oc : Value} {an od : Option Addr} {osl : Array (Option Value)} {Ng : List Str}
    {params : Arguments} {body : Expr} {scope : Scope} {t : XK → TE} {p lpos pos : Pos} (hg : Gl X x) (hm : X.mg x = some (.ref g)) (hk : PySem.W.keepIn X.K (.ref g) = true)
    (lk : X.K.lookup g = some ⟨oc, od, .func (PySem.W.fnOf x x pg bg sg dV kV doc pm an cdv ct), osl⟩) (hcg : PySem.W.codeIn X.K cdv x = true) (hb : L2.Binds X.K (PySem.W.fnOf x x pg bg sg dV kV doc pm an cdv ct) [a] []) (Sg : FnScope Ng [a] sg) (hNg : Ng[0]? = some a) (hva : Vis sg a)
    (hG : GivesP X Ng x sg g cdv bg a (X.env.qual ++ "<lambda>") TT) (hr : Room (k + 2) X.A) (hmk : MakesP X T params body scope lpos)
    (hbody : ∀ (A : Around) (outer : List Env) (s : Shared) (H : Hp) (E : XK) (f c' : Addr), Room k (A.deeper (lamEnv X scope s.heap.objs.size f c')) → PE (lamCx X A outer s H E scope f c') body (t E))
    (hdb : (x == ("__debug__" : Str)) = false := by decide) (hd : (a == ("__debug__" : Str)) = false := by decide) (hcd : (a == ("__classdict__" : Str)) = false := by decide) :
    PE X (.Call (.Name x p) [.Lambda params body scope lpos] [] pos) (tLam T TT t) := by
  refine ⟨fun pins s σ H Q I h => ?_⟩
  obtain ⟨hT, h⟩ := h
  refine wpAny_Call_Name_kw (ld_glob I hg hm ?_ hdb)
  refine PySem.W.callWith_K (h₀ := X.base) I.ok.mod.kin hk ?_ (by rfl) (by rfl)
  show wpAny _ _ (spliced ((false, eval (.Lambda params body scope lpos) X.env) :: backTo pos (starEach [] X.env))) _ _ s
  refine Calls.spliced_cons (hmk pins s σ H _ I hT fun f c' dV' doc' pm' ctv binds H1 s' I1 eN T1 L hf hfn hfr hco hbind => ?_)
  refine Calls.spliced_nil ⟨I1.kIn, ?_⟩
  have rc : codeAny (model X.prog X.w) X.A (.call (.ref g) ⟨[.ref f], []⟩) (CR C8.CX0 X.stack X.prog X.w H1 s' Q C8.E0) s' := by
    refine run_ofS (N := Ng) (ps := [a]) (us := [.ref f]) (vs := [.ref f]) lk hcg Sg hr I1.env0 (hb s' [.ref f] I1.kIn rfl) (.cons rfl .nil) rfl fun hr' => ?_
    obtain ⟨t', ht', hq'⟩ := hG f c' s' H1 Q (fun E H' Q' => t E σ H' Q') (fun W pn xe E p1 p2 tk hW => pe_actP (i := 0) (tb := t) I1 L hf hfn hfr hbind tk hW hr' (fun A outer s H E hr2 => hbody A outer s H E f c' hr2) hNg hva hd hcd) hco (h H1 eN T1)
    exact ⟨t', ht'.nox, hq'⟩
  refine wpAny_call (codeAny_mono rc fun r s2 hq => ?_)
  cases r with
  | error e => exact (show False from hq).elim
  | ok fl =>
    cases fl with
    | ret u => exact I1.after hq
    | next => exact False.elim hq
    | brk => exact False.elim hq
    | cont => exact False.elim hq
/-- without a default -/
theorem makes0 {T : List (Addr × Str)} {c P : Addr} {params : Arguments} {body : Expr} {scope : Scope} {lpos : Pos} (TB : TabB X.base X.mg c P) (hcode : X.env.code = .ref c) (hmT : (P, X.env.qual ++ "<lambda>") ∈ T) (hu : ∀ p ∈ T, p.1 = P → p.2 = X.env.qual ++ "<lambda>")
    (L : LamP X.N X.env.scope scope []) (hdef : defaultsOf params X.env = ([], [])) (hbind : ∀ (q : Str) (cl : List (Str × Addr)) (pm cv ctv : Value), bindArgs (PySem.W.kla_fn "<lambda>" q params body scope cl pm cv ctv) ⟨[], []⟩ = pure []) : MakesP X T params body scope lpos := by
  intro pins s σ H Q I hT h
  exact lam_make2 I TB hcode hmT hu hT hdef (L.has I.ok) fun f c' pm' ctv H1 s' I1 eN T1 hf hfn hfr hco => h f c' .none .none pm' ctv [] H1 s' I1 eN T1 L hf hfn hfr hco fun s1 _ => BindsTo.of_eq (hbind _ _ _ _ _)
/-- the function object made, its defaults at hand: its code object is new, or found in the table -/
theorem lam_makeT {pins : List (Addr × Obj)} {σ : L2.St} {H : Hp} {s : Shared} {T : List (Addr × Str)} {c P : Addr} {dV : Value} {params : Arguments} {body : Expr} {scope : Scope} {pos : Pos} {E : Value → Shared → Prop} {Q : Value → Shared → Prop} (J : Inv X pins σ H s) (TB : TabB X.base X.mg c P) (hcode : X.env.code = .ref c)
    (hm : (P, X.env.qual ++ "<lambda>") ∈ T) (hu : ∀ p ∈ T, p.1 = P → p.2 = X.env.qual ++ "<lambda>") (hT : Tabs T H) (hfree : ∀ y ∈ scope.names, y.2 = .free → ∃ c, X.env.cells.lookup y.1 = some c)
    (h : ∀ (f c' : Addr) (doc pm ctv : Value) (HA : Hp) (s' : Shared), Inv X pins σ HA s' → ExtN H HA → Tabs T HA → (∀ b o, b ≠ P → s.heap.get? b = some o → s'.heap.get? b = some o) → (∀ b, b < s.heap.objs.size → H b = none → HA b = none) →
      s'.heap.get? f = some (PySem.W.kdv_obj "<lambda>" (X.env.qual ++ "<lambda>") params (.expr body) scope (cloFrom X.env.cells scope.names []) dV doc pm c' ctv) → HA f = none → f ∉ frs X.stack → HA c' = some (CodeO c' (X.env.qual ++ "<lambda>")) → Q (.ref f) s') :
    wpAny (model X.prog X.w) X.A (makeTail "<lambda>" (X.env.qual ++ "<lambda>") params (.expr body) scope X.env dV .none none pos pos.line) Q E s := by
  obtain ⟨tb, hP, trip, told⟩ := hT _ hm
  have hB : s.heap.BuiltinsAt X.mg P := TB.bm.keeps J.bk
  have oP : s.heap.get? P = some { cls := .none, data := .fields tb } := J.hok P _ hP
  have far : ∀ f, s.heap.objs.size ≤ f → f ∉ frs X.stack := fun f hf z => (List.mem_cons.mp (J.stkSub _ z)).elim (fun e => absurd (Nat.lt_of_lt_of_le (e ▸ J.lt : f < _) hf) (Nat.lt_irrefl _)) fun e => J.nofs hf e
  match hc : codeAmong pos tb.toList with
  | none =>
    refine PySem.W.kdv_makeTail (mg := X.mg) (c := c) (P := P) (ps := tb) (closure_ok hfree) J.ok.glob (J.mod.glob.keeps J.bk) hcode (TB.code.keeps J.bk) oP trip hc TB.gP hB fun c' ctv doc h' tk hx hge hlt hrec htb => ?_
    obtain ⟨c2, oc, vs, t, e2, hoc, hd, hv⟩ := hrec
    cases e2
    have big : s.heap.objs.size ≤ h'.objs.size := Nat.le_trans hge (Nat.le_of_lt hlt)
    have free' : H c' = none := J.hok.fresh hge
    have JA := inv_table (t' := tk) (more := #[rawInt pos.line, rawInt pos.col, .ref c']) (h' := h'.push (PySem.W.kdv_obj "<lambda>" (X.env.qual ++ "<lambda>") params (.expr body) scope (cloFrom X.env.cells scope.names []) dV doc ((X.mg "__name__").getD .none) c' ctv)) J hP
      (fun b o ne e => Heap.get?_push_of_some _ (hx b o ne e)) (Heap.get?_push_of_some _ htb) hge ⟨oc, vs, t, Heap.get?_push_of_some _ hoc, hd, hv⟩
    have ext : ExtN H (upd (upd H P (.tbl (tb ++ #[rawInt pos.line, rawInt pos.col, .ref c']))) c' (CodeO c' (X.env.qual ++ "<lambda>"))) := fun b o e n =>
      (upd_ne (ne_of_none e free')).trans ((upd_ne (b := b) fun z : b = P => n tb (Option.some.inj (e.symm.trans (by rw [z]; exact hP)))).trans e)
    have asL : (tb ++ #[rawInt pos.line, rawInt pos.col, .ref c']).toList = tb.toList ++ [rawInt pos.line, rawInt pos.col, .ref c'] := by simp
    refine h h'.objs.size c' doc ((X.mg "__name__").getD .none) ctv _ _ JA ext (fun p hp => ?_) (fun b o ne e => Heap.get?_push_of_some _ (hx b o ne e)) (fun b lt n => ?_) (Heap.get?_push_size _ rfl) ?_ (far _ big) upd_same
    · by_cases hb : p.1 = P
      · rw [hu p hp hb, hb]
        refine ⟨_, (upd_ne (ne_of_none hP free')).trans upd_same, asL ▸ PySem.TriplesOk_snoc _ _ _ _ trip, fun q' cv hcv => ?_⟩
        rw [asL] at hcv
        exact (among_app _ trip hcv).elim (fun z => (told q' cv z).imp fun c0 k => ⟨k.1, ext _ _ k.2 codeO_ne⟩) fun z => ⟨c', z, upd_same⟩
      · obtain ⟨tb', a1, a2, a3⟩ := hT p hp
        exact ⟨tb', (upd_ne (ne_of_none a1 free')).trans ((upd_ne hb).trans a1), a2, fun q' cv hcv => (a3 q' cv hcv).imp fun c0 k => ⟨k.1, ext _ _ k.2 codeO_ne⟩⟩
    · exact (upd_ne (Nat.ne_of_lt (Nat.lt_of_lt_of_le lt hge))).trans ((upd_ne fun z => by rw [z, hP] at n; cases n).trans n)
    · exact (upd_ne (Nat.ne_of_gt hlt)).trans ((upd_ne (Nat.ne_of_gt (Nat.lt_of_lt_of_le (Heap.lt_size oP) big))).trans (J.hok.fresh big))
  | some cv =>
    obtain ⟨c', e, hco⟩ := told pos cv hc
    subst e
    refine PySem.W.kdv_makeTailHit (mg := X.mg) (c := c) (P := P) (ps := tb) (closure_ok hfree) J.ok.glob (J.mod.glob.keeps J.bk) hcode (TB.code.keeps J.bk) oP trip hc hB fun ctv doc h' tk hx big => ?_
    have JA : Inv X pins σ H { s with heap := h'.push (PySem.W.kdv_obj "<lambda>" (X.env.qual ++ "<lambda>") params (.expr body) scope (cloFrom X.env.cells scope.names []) dV doc ((X.mg "__name__").getD .none) c' ctv), toks := tk } := J.kept fun b o e => Heap.get?_push_of_some _ (hx b o e)
    exact h h'.objs.size c' doc ((X.mg "__name__").getD .none) ctv H _ JA (ExtN.refl H) hT (fun b o _ e => Heap.get?_push_of_some _ (hx b o e)) (fun _ _ n => n) (Heap.get?_push_size _ rfl) (J.hok.fresh big) (far _ big) hco
/-- with one number as its default -/
theorem makesD {T : List (Addr × Str)} {c P : Addr} {params : Arguments} {body : Expr} {scope : Scope} {lpos : Pos} {y : Str} {dz : Nat} {dj : Nat} {dp : Pos} (TB : TabB X.base X.mg c P) (hcode : X.env.code = .ref c) (hmT : (P, X.env.qual ++ "<lambda>") ∈ T) (hu : ∀ p ∈ T, p.1 = P → p.2 = X.env.qual ++ "<lambda>")
    (L : ∀ u, LamP X.N X.env.scope scope [(y, u)]) (hdf : params.defaults = [.Constant (.int dz) dj dp]) (hk0 : params.kw_defaults = [])
    (hbind : ∀ (q : Str) (cl : List (Str × Addr)) (t : Addr) (doc pm cv ctv u : Value), ∃ k, bindArgs (PySem.W.kdv_fn "<lambda>" q params (.expr body) scope cl (.ref t) doc pm cv ctv) ⟨[], []⟩ = seqItems? (.ref t) >>= k ∧ k (some #[u]) = pure [(y, u)]) : MakesP X T params body scope lpos := by
  intro pins s σ H Q I hT h
  refine PySem.W.kdv_lam (by rw [hdf]; rfl) hk0 ?_
  rw [hdf]
  refine PySem.W.kdv_all1 (thn (pe_int.run pins s σ H (fun _ H1 => H1 = H) I rfl) fun u s0 ⟨v, H0, I0, r0, e0⟩ => PySem.W.kdv_all0 ?_)
  subst e0
  rw [makeFunction_eq]
  simp only [List.zip_nil_right, List.filterMap_nil, List.isEmpty_nil, if_true, pure_bind, List.isEmpty_cons, Bool.false_eq_true, if_false]
  refine wpAny_bind (wpAny_newTextTuple ?_)
  have I2 : Inv X pins σ H0 { s0 with heap := s0.heap.push (PySem.W.kdv_tup [u]) } := I0.kept (t' := s0.toks) fun b o e => Heap.get?_push_of_some _ e
  have nT : H0 s0.heap.objs.size = none := I0.hok.fresh (Nat.le_refl _)
  have oT : ({ s0 with heap := s0.heap.push (PySem.W.kdv_tup [u]) } : Shared).heap.get? s0.heap.objs.size = some (PySem.W.kdv_tup [u]) := Heap.get?_push_size _ rfl
  have fT : s0.heap.objs.size ∉ frs X.stack := fun z => (List.mem_cons.mp (I0.stkSub _ z)).elim (fun e => absurd (e ▸ I0.lt : s0.heap.objs.size < _) (Nat.lt_irrefl _)) fun e => I0.nofs (Nat.le_refl _) e
  have nP : s0.heap.objs.size ≠ P := fun z => by
    obtain ⟨tb, hP, _⟩ := hT _ hmT
    rw [z, hP] at nT
    cases nT
  refine lam_makeT I2 TB hcode hmT hu hT ((L u).has I2.ok) fun f c' doc pm' ctv HA s' IA eN TA kp kn hf hfn hfr hco => ?_
  refine h f c' (.ref s0.heap.objs.size) doc pm' ctv [(y, u)] HA s' IA eN TA (L u) hf hfn hfr hco fun s1 keep => ?_
  obtain ⟨k, h1, h2⟩ := hbind (X.env.qual ++ "<lambda>") (cloFrom X.env.cells scope.names []) s0.heap.objs.size doc pm' (.ref c') ctv u
  exact BindsTo.of_defaults rfl (keep _ _ (kp _ _ nP oT) (kn _ (Heap.lt_size oT) nT) fT) rfl h1 h2
end
end K5
/-! ### the lambdas of the law -/
namespace K5
open PySem PySem.Spec PyProof.Rows L2 LamX
theorem passLam {X : Cx} {A : Around} {outer : List Env} {s : Shared} {H : Hp} {E : XK} {scope : Scope} {f c' : Addr} : Passes (CZ (lamCx X A outer s H E scope f c').prog (lamCx X A outer s H E scope f c').w) (lamCx X A outer s H E scope f c') E :=
  passes_call (takes_of (E := E) rfl rfl rfl rfl) (fun _ _ _ _ h => h)
def tfN : List He.Defn := [("_law_lot_told", none), ("_law_right", none), ("_law_hand_right", none)]
def lamQ (p : He.Defn) : Str := p.1 ++ ".<locals>." ++ "<lambda>"
def Tt (K : PySem.W.Frag) : List (Addr × Str) := tfN.map fun p => ((He.cT K p).2, lamQ p)
/-- the facts, and those of the tables -/
structure TxtT (P : Program) (w : World) (K : PySem.W.Frag) (mg : Str → Option Value) (base : Heap) : Prop where
  x : TxtX P w K mg base
  tb : ∀ p ∈ tfN, TabB base mg (He.cT K p).1 (He.cT K p).2
  ne : ∀ p ∈ tfN, ∀ q ∈ tfN, (He.cT K p).2 = (He.cT K q).2 → p = q
theorem Tt_one {P : Program} {w : World} {K : PySem.W.Frag} {mg : Str → Option Value} {base : Heap} (T : TxtT P w K mg base) {q : He.Defn} (hq : q ∈ tfN) : ((He.cT K q).2, lamQ q) ∈ Tt K ∧ ∀ p ∈ Tt K, p.1 = (He.cT K q).2 → p.2 = lamQ q :=
  ⟨List.mem_map.mpr ⟨q, hq, rfl⟩, fun p hp e => by
    obtain ⟨r, hr, rfl⟩ := List.mem_map.mp hp
    rw [T.ne r hr q hq e]⟩
theorem pe_said {X : Cx} (TX : TxtX X.prog X.w X.K X.mg X.base) {T : List (Addr × Str)} {k : Nat} {params : Arguments} {body : Expr} {scope : Scope} {t : XK → TE} {p lpos pos : Pos} (hg : Gl X "_law_said") (hr : Room (k + 2) X.A) (hmk : MakesP X T params body scope lpos)
    (hbody : ∀ (A : Around) (outer : List Env) (s : Shared) (H : Hp) (E : XK) (f c' : Addr), Room k (A.deeper (lamEnv X scope s.heap.objs.size f c')) → PE (lamCx X A outer s H E scope f c') body (t E)) :
    PE X (.Call (.Name "_law_said" p) [.Lambda params body scope lpos] [] pos) (tLam T (TSaid X.K) t) := by
  obtain ⟨fd, F⟩ := TX.t.defs d__law_said (by simp [fn])
  have hb := F.bindsN (ps := ["_law_call"]) fun _ _ _ _ _ _ us hl => match us, hl with | [_], _ => rfl
  have kp := F.kp
  obtain ⟨oc, od, dV, kV, doc, pm, an, cdv, ct, osl, rfl, lk, hcd, _, _⟩ := F.ex
  exact pe_lamcallP (Ng := n__law_said) (a := "_law_call") hg (TX.t.glo "_law_said" (by decide +kernel)) kp lk hcd hb sc__law_said rfl (.inl (by decide +kernel)) (said_gives TX _ _ _) hr hmk hbody
section
variable {P : Program} {w : World} {K : PySem.W.Frag} {mg : Str → Option Value} {base : Heap}
/-- a def of the text, its code object known -/
theorem gd_ofT {x : Str} {d : He.DefD} {N ps : List Str} {sp : Sp} {k : Nat} (T : Txt P w K mg base) (hx : x ∈ gloN) (hd : d ∈ fn) (he : d.at_ = (x, none))
    (hb : ∀ (kV doc pm : Value) (an : Option Addr) (cdv ct : Value) (us : List Value), us.length = ps.length → bindArgs (PySem.W.fnOf d.name d.qual d.params d.body d.scope .none kV doc pm an cdv ct) ⟨us, []⟩ = pure (ps.zip us))
    (Sc : FnScope N ps d.scope) (len : ∀ vs H Q E, sp vs H Q E → vs.length = ps.length)
    (hbody : ∀ (A : Around) (outer : List Env) (s : Shared) (H : Hp) (vs : List V) (Q : VK) (E : XK), Room k (A.deeper (envOfC d.qual d.scope s.heap.objs.size (He.ga K x) (.ref (He.cT K (x, none)).1))) → sp vs H Q E →
      ∃ t, PSs (cxOf (CZ P w) P w K mg base N d.qual d.scope (He.ga K x) (.ref (He.cT K (x, none)).1) A outer s H E) d.body t ∧ t { nx := fun _ H' => Q .non H', rt := Q } (start N vs) H) : Gd P w K mg base (k + 1) x ps sp := by
  obtain ⟨fd, F⟩ := T.defs d hd
  rw [he, show He.fAd K (x, none) = He.ga K x from rfl] at F
  have b := F.bindsN hb
  have kp := F.kp
  obtain ⟨oc, od, dV, kV, doc, pm, an, cdv, ct, osl, rfl, lk, hcd, _, _⟩ := F.ex
  obtain ⟨c, rfl⟩ := He.codeIn_ref hcd
  have e : (He.cT K (x, none)).1 = c := He.codeOf_eq lk rfl
  refine ⟨⟨_, fn_of lk hcd Sc len fun A outer s H vs Q E hr h => ?_, b⟩, T.glo x hx, kp⟩
  rw [← e] at hr ⊢
  exact hbody A outer s H vs Q E hr h
end
end K5
/-! ### list(text) -/
namespace K5
open PySem PySem.Spec PyProof.Rows L2
theorem call_listS {X : Cx} (hc : X.calm = true) : CallR X (.type "list") (fun xs H Q => ∃ l : List Nat, xs = [.str (S l)] ∧ l.length ≤ sizeLine ∧ ∀ p, H p = none → Q (.ref p) (upd H p (.lst (l.map fun c => V.str (S [c]))))) := by
  intro pins s σ H xs us Q I r h
  obtain ⟨l, rfl, hl, q⟩ := h
  obtain ⟨u, rfl, t, rfl⟩ := vals1 r
  have hz : (S l).cps.size ≤ sizeLine := by
    show l.toArray.size ≤ _
    rw [List.size_toArray]
    exact hl
  refine PySem.call_list_str (I.ok.hd hc) (S l) t (hn := hz) fun h' tk acc c' hk hS hacc => ?_
  have hn : acc.toList.length = l.length := by
    rw [Array.length_toList, hacc.1]
    exact List.size_toArray
  have rv : Vals (l.map fun c => V.str (S [c])) acc.toList := vals_of_idx _ _ (by rw [hn, List.length_map]) fun j v e => by
    obtain ⟨c, u, e1, rfl⟩ := hacc.2 j v (by rw [← Array.getElem?_toList]; exact e)
    have e1' : l[j]? = some c := by
      rw [← e1]
      exact (List.getElem?_toArray ..).symm
    refine ⟨V.str (S [c]), ?_, ⟨u, rfl⟩⟩
    rw [List.getElem?_map, e1']
    rfl
  exact ⟨.ref s.heap.objs.size, _, I.laid (t' := tk) hk (Nat.le_refl _) (show ObjOk X.prog X.w _ _ _ (.lst (l.map fun c => V.str (S [c]))) from ⟨by rw [List.length_map]; exact hl, acc.toList, c', rv, by rw [Array.toArray_toList]; exact hS⟩), rfl, q _ (I.hok.fresh (Nat.le_refl _))⟩
end K5
namespace K5
open PySem PySem.Spec PyProof.Rows L2
def repN (k : Nat) (l : List Nat) : List Nat := (List.replicate k l).flatten
theorem repN_len (k : Nat) (l : List Nat) : (repN k l).length = k * l.length := by
  induction k with
  | zero => simp [repN]
  | succ k ih =>
    have e : repN (k + 1) l = l ++ repN k l := by simp [repN, List.replicate_succ]
    rw [e, List.length_append, ih, Nat.succ_mul]
    omega
theorem fold_rep (l : List Nat) : ∀ (k : Nat) (a : Array Nat), (List.replicate k l.toArray).foldl (· ++ ·) a = a ++ (repN k l).toArray
  | 0, a => by simp [repN]
  | k + 1, a => by
    rw [List.replicate_succ, List.foldl_cons, fold_rep l k]
    simp [repN, List.replicate_succ]
theorem op_srep {X : Cx} : OpR X (binaryOp .Mult) (fun x y H Q => ∃ (l : List Nat) (k : Nat), x = .str (S l) ∧ y = .int k ∧ k ≤ BIG ∧ l.length ≤ BIG ∧ k * l.length ≤ BIG ∧ Q (.str (S (repN k l))) H) := by
  intro pins s σ H x y v u Q I rx ry h
  obtain ⟨l, k, rfl, rfl, hk, hl, hz, q⟩ := h
  have hk' : k ≤ 100000 := hk
  have hl' : l.length ≤ 100000 := hl
  obtain ⟨t, rfl⟩ := rx
  obtain ⟨t', rfl⟩ := ry
  refine PySem.P.mul_str (by
      have h1 : ¬ ((k : Nat) : Int) < -(2 ^ 63 : Int) := by omega
      have h2 : ¬ ((k : Nat) : Int) ≥ 2 ^ 63 := by omega
      rw [decide_eq_false h1, decide_eq_false h2]
      rfl) (fun h1 _ h2 => ?_) (fun h1 _ => ?_) ?_
  · have hkk : (1 : Int) ≤ ((k : Nat) : Int) := by omega
    have hd : (100000 : Int) ≤ (2 ^ 63 - 1) / ((k : Nat) : Int) := (Int.le_ediv_iff_mul_le (by omega)).mpr (by omega)
    rw [S_len] at h2
    omega
  · rw [S_len, Int.toNat_natCast, Nat.mul_comm]
    refine decide_eq_false (fun z => ?_)
    have := sz hz
    omega
  · have fin : ∀ z : List Nat, z.length ≤ BIG → z = repN k l → ∀ s1 : Shared, Inv X pins σ H s1 → (Made.str (S z)).post (EP X pins σ Q) s1 := fun z hz1 e s1 I1 => by
      subst e
      exact ⟨by rw [S_len]; exact sz hz1, ⟨.str (S (repN k l)), H, I1.tok _, ⟨_, rfl⟩, q⟩⟩
    by_cases h1 : ((k : Nat) : Int) < 1
    · have k0 : k = 0 := by omega
      subst k0
      rw [if_pos h1]
      exact fin [] (Nat.zero_le _) rfl s I
    · rw [if_neg h1]
      by_cases h2 : (((k : Nat) : Int) == 1 || (S l).length == 0) = true
      · rw [if_pos h2]
        have e : repN k l = l := by
          rcases Bool.or_eq_true_iff.mp h2 with z | z
          · have k1 : k = 1 := by have := eq_of_beq z; omega
            subst k1
            simp [repN]
          · have l0 : l.length = 0 := by have := eq_of_beq z; rw [S_len] at this; exact this
            have l1 : l = [] := List.eq_nil_of_length_eq_zero l0
            subst l1
            simp [repN]
        rw [e] at q
        exact ⟨.str (S l), H, I, ⟨_, rfl⟩, q⟩
      · rw [if_neg h2]
        have e : (⟨(List.replicate ((k : Nat) : Int).toNat (S l).cps).foldl (· ++ ·) #[]⟩ : Str) = S (repN k l) := by
          show Str.mk _ = Str.mk _
          rw [Int.toNat_natCast]
          exact congrArg Str.mk ((fold_rep l k #[]).trans (by simp))
        rw [e]
        exact fin _ (by rw [repN_len]; exact hz) rfl s I
end K5
/-! ### a text, as the law reads it -/
namespace K5
open PySem PySem.Spec PyProof.Rows L2 LamX
/-- what the law tells of a text -/
def IsTold (H : Hp) (u : V) : Res → Prop
  | .lot x => ∃ a w, u = .ref a ∧ H a = some (.lst [w]) ∧ IsLot H w x
  | .text r p => ∃ a, u = .ref a ∧ H a = some (.tup [.str "text", .int (r : Nat), .int (p : Nat)])
  | .bad p k => ∃ a, u = .ref a ∧ H a = some (.tup [.str "lot", .str (partS p), numV k])
theorem fig_in (m : List Nat) : inV (V.str (S (m.take 1))) (FIG.map fun c => V.str (S [c])) = (match m.head? with
    | none => false
    | some c => decide (c ∈ FIG)) := by
  unfold inV
  rw [List.any_map]
  cases m with
  | nil =>
    show FIG.any (fun c => S [c] == S []) = false
    decide
  | cons a r =>
    show FIG.any (fun c => S [c] == S [a]) = decide (a ∈ FIG)
    rw [Bool.eq_iff_iff, List.any_eq_true]
    refine ⟨fun h => ?_, fun h => ⟨a, of_decide_eq_true h, beq_self_eq_true _⟩⟩
    obtain ⟨c, hc, e⟩ := h
    have z : S [c] = S [a] := eq_of_beq e
    have y : [c] = [a] := S_inj z
    cases y
    exact decide_eq_true hc
theorem ext_ts {H H' : Hp} (e : ExtN H H') : TupS H H' := fun b xs h => e b _ h (fun ps z => by cases z)
section
variable {P : Program} {w : World} {K : PySem.W.Frag} {mg : Str → Option Value} {base : Heap}
def sp__law_lot_told (K : PySem.W.Frag) : Sp := fun vs H Q _ => ∃ v, vs = [v] ∧ Tabs (Tt K) H ∧
  ((∃ l, v = .str (S l) ∧ l.length < BIG ∧ ∀ H' u, ExtN H H' → Tabs (Tt K) H' → IsTold H' u (readN l) → Q u H') ∨
   (NoStr K H v ∧ ∀ H' a, ExtN H H' → Tabs (Tt K) H' → H' a = some (.tup [.str "text", .int (-1), .int (-1)]) → Q (.ref a) H'))
theorem g__law_lot_told (TT : TxtT P w K mg base) : Gd P w K mg base 10 "_law_lot_told" ["_law_thing"] (sp__law_lot_told K) := by
  have TX := TT.x
  have T := TT.x.t
  refine gd_ofT (d := d__law_lot_told) T (by decide +kernel) (by simp [fn]) rfl (fun _ _ _ _ _ _ us hl => match us, hl with | [_], _ => rfl) sc__law_lot_told (fun vs H Q E h => ?_) fun A outer s H vs Q E hr h => ?_
  · obtain ⟨v, rfl, hT, h⟩ := h
    rfl
  · obtain ⟨v, rfl, hT, h⟩ := h
    refine ⟨_, (pss_cons (ps_if (pt_not (pt_val (pe_callB (call_isi' (K := K) rfl) rfl (T.free "isinstance" (by decide +kernel)) boot_isi (pa_cons (pv 0) (pa_cons (pe_bltn (v := .ty "str") rfl (T.free "str" (by decide +kernel)) boot_str rfl) pa_nil))))) (pss_one (ps_ret (pe_tup (pa_cons pe_str (pa_cons (pe_un un_neg pe_int) (pa_cons (pe_un un_neg pe_int) pa_nil)))))) pss_nil)
      (pss_cons (ps_par3 (i := 1) (j := 2) (l := 3) rfl sc__law_lot_told.nd rfl rfl rfl (by decide) (by decide) (by decide) rfl rfl rfl (pa_cons (pe_split (pv 0) pe_str) (pa_cons (pe_lst pa_nil) (pa_cons (pe_lst pa_nil) pa_nil))) rfl)
      (pss_cons (ps_asg (pe_g (g__law_word_told T) (hr.mono (by decide)) rfl passL (pa_cons (pe_ix ix_list (pv 1) pe_int (fun _ _ => rfl)) (pa_cons pe_str pa_nil))) (pg_tup rfl (pgs_cons (pg_name (i := 4) sc__law_lot_told.nd rfl (.inl rfl)) (pgs_cons (pg_name (i := 5) sc__law_lot_told.nd rfl (.inl rfl)) pgs_nil))))
      (pss_cons (ps_if (PW.pt (pw_or (pt_not (pt_val (pv 5))) (pw_or1 (pt_cmpR op_notIn_seq (pe_slice sl_str (pe_ix ix_list (pv 1) pe_int (fun _ _ => rfl)) (po_some (pv 4)) (po_some (pe_op op_add (pv 4) pe_int))) (pe_callTy (call_listS rfl) rfl (T.free "list" (by decide +kernel)) boot_list (pa_cons pe_str pa_nil)) rfl)))) (pss_one (ps_ret (pe_tup (pa_cons pe_str (pa_cons pe_int (pa_cons (pv 4) pa_nil)))))) pss_nil)
      (pss_cons (ps_if (pt_cmpR op_gt (pe_callB call_len_str rfl (T.free "len" (by decide +kernel)) boot_len (pa_cons (pe_ix ix_list (pv 1) pe_int (fun _ _ => rfl)) pa_nil)) (pe_op op_add (pv 4) pe_int) (nomark _)) (pss_one (ps_ret (pe_tup (pa_cons pe_str (pa_cons pe_int (pa_cons (pe_op op_add (pv 4) pe_int) pa_nil)))))) pss_nil)
      (pss_cons (ps_for passO rfl (pi_range2 rfl (T.free "range" (by decide +kernel)) (pa_cons pe_int (pa_cons (pe_callB call_len_seq rfl (T.free "len" (by decide +kernel)) boot_len (pa_cons (pv 1) pa_nil)) pa_nil))) (pg_name (i := 6) sc__law_lot_told.nd rfl (.inl rfl)) (pss_cons (ps_asg (pe_g (g__law_line_told T) (hr.mono (by decide)) rfl passL (pa_cons (pe_ix ix_list (pv 1) (pv 6) (fun _ _ => rfl)) (pa_cons (pv 2) (pa_cons (pv 3) pa_nil)))) (pg_tup rfl (pgs_cons (pg_name (i := 7) sc__law_lot_told.nd rfl (.inl rfl)) (pgs_cons (pg_name (i := 8) sc__law_lot_told.nd rfl (.inl rfl)) pgs_nil))))
      (pss_one (ps_if (pt_not (pt_val (pv 7))) (pss_one (ps_ret (pe_tup (pa_cons pe_str (pa_cons (pv 6) (pa_cons (pv 8) pa_nil)))))) pss_nil))))
      (pss_cons (ps_if (pt_cmpR (op_eqNil hr.units0) (pv 2) (pe_lst pa_nil) (nomark _)) (pss_one (ps_ret (pe_tup (pa_cons pe_str (pa_cons (pe_callB call_len_seq rfl (T.free "len" (by decide +kernel)) boot_len (pa_cons (pv 1) pa_nil)) (pa_cons pe_int pa_nil)))))) pss_nil)
      (pss_cons (ps_set (i := 9) sc__law_lot_told.nd rfl (.inr rfl) (pe_tup (pa_cons (pe_callTy call_int_str rfl (T.free "int" (by decide +kernel)) boot_int (pa_cons (pe_ix ix_str (pe_ix ix_list (pv 1) pe_int (fun _ _ => rfl)) pe_int (fun _ _ => rfl)) pa_nil)) (pa_cons (pe_callTy call_tuple_of rfl (T.free "tuple" (by decide +kernel)) boot_tuple (pa_cons (pv 2) pa_nil)) (pa_cons (pe_callTy call_tuple_of rfl (T.free "tuple" (by decide +kernel)) boot_tuple (pa_cons (pe_lc (own := [("_law_entries", 10)]) (g := gName 10) (tt := tYes) rfl sc__law_lot_told.nd (pi_list (pv 3)) (blkOk_by (N := n__law_lot_told) (sc := defScope s__law_lot_told) (by decide +kernel)) (fun _ _ _ _ _ => pg_name (i := 10) sc__law_lot_told.nd rfl (.inl rfl)) (fun _ _ _ _ _ => pts_nil) (fun _ _ _ _ _ => (pe_callTy (call_tuple_of' (K := K) rfl) rfl (T.free "tuple" (by decide +kernel)) boot_tuple (pa_cons (pv 10) pa_nil)))) pa_nil)) pa_nil)))))
      (pss_one (ps_ret (pe_said (k := 7) (T := Tt K) TX rfl (hr.mono (by decide)) (makes0 (c := (He.cT K ("_law_lot_told", none)).1) (P := (He.cT K ("_law_lot_told", none)).2) (TT.tb _ (by decide +kernel)) rfl (Tt_one TT (q := ("_law_lot_told", none)) (by decide +kernel)).1 (Tt_one TT (q := ("_law_lot_told", none)) (by decide +kernel)).2 (lamP_by rfl) rfl (fun _ _ _ _ _ => rfl)) (fun A outer s H E f c' hr => pe_g (g_need_lot T) (hr.mono (by decide)) rfl passLam (pa_cons (pe_var (i := 9) rfl (.inr (.inr rfl))) pa_nil))))))))))))), ?_⟩
    rcases h with ⟨l, rfl, hl, fin⟩ | ⟨⟨t, ty, k⟩, fin⟩
    · have hl' : l.length < 100000 := hl
      have hz2 : (S l).length + 2 ≤ sizeLine := by
        rw [S_len]
        have : sizeLine = 16777216 := by decide
        omega
      refine ⟨_, rfl, _, .ty "str", _, .type "str", true, rfl, .ty _, .base (.str _), kit_ty (by decide +kernel), true, rfl, ?_⟩
      refine ⟨_, rfl, ⟨_, rfl⟩, S l, S [10], rfl, rfl, rfl, hz2, fun p1 n1 => ?_⟩
      rw [split_lines]
      obtain ⟨hd, tl, el⟩ := lines_cons l
      have mem : ∀ p ∈ hd :: tl, p.length ≤ l.length := fun p hp => lines_mem (by rw [el]; exact hp)
      have lt : tl.length ≤ l.length := by
        have := lines_len l
        rw [el] at this
        simp only [List.length_cons] at this
        omega
      have er : readN l = match linesTold hd tl with
          | .error (r, p) => .text r p
          | .ok x => lotOr x := by
        unfold readN told
        rw [el] <;> rfl
      rw [el]
      have s1 := Same.new n1 (o := .lst ((hd :: tl).map fun p => V.str (S p)))
      generalize hH0 : upd H p1 (.lst ((hd :: tl).map fun p => V.str (S p))) = H0 at s1
      have e1 : H0 p1 = some (.lst ((hd :: tl).map fun p => V.str (S p))) := by
        rw [← hH0]
        exact upd_same
      refine ⟨zl0, fun a2 n2 => ⟨zl0, fun a3 n3 => ⟨_, _, _, rfl, ?_⟩⟩⟩
      have s2 := Same.new n2 (o := .lst [])
      have s3 := Same.new n3 (o := .lst [])
      have ne : a2 ≠ a3 := fun z => by
        rw [← z, upd_same] at n3
        cases n3
      have R0 : Rows H0 (upd (upd H0 a2 (.lst [])) a3 (.lst [])) a2 a3 ⟨[], []⟩ :=
        Rows.nil (s2.trans s3) n2 ((s2.free n3)) ne (by rw [upd_ne ne]; exact upd_same) upd_same
      have s02 := s2.trans s3
      have at0 : atI ((hd :: tl).map fun p => V.str (S p)) 0 = some (V.str (S hd)) := atI_nat (j := 0) rfl
      have bad : ∀ (q : Nat) (H' : Hp) (a : Addr), cornersTold hd = .error q → Same H H' → H' a = some (.tup [.str "text", .int ((0 : Nat) : Int), .int (q : Nat)]) → Q (.ref a) H' := fun q H' a hq sm ea =>
        fin H' (.ref a) (ExtN.of sm) (hT.ext sm) (by
          have z : readN l = .text 0 q := by
            rw [er]
            unfold linesTold
            rw [hq]
            rfl
          rw [z]
          exact ⟨a, rfl, ea⟩)
      have lh : hd.length ≤ BIG := Nat.le_trans (mem hd (by simp)) (Nat.le_of_lt hl)
      refine ⟨_, rfl, p1, _, _, _, rfl, rfl, SqL.of (s02 p1 _ e1), at0, hd, wCORN, rfl, lh, by decide, fun r hr' H4 b s4 eb => ?_, fun q hq H4 b s4 eb => ?_⟩
      · have e14 := s4 p1 _ (s02 p1 _ e1)
        have R4 : Rows H0 H4 a2 a3 ⟨[], []⟩ := R0.up s4
        refine ⟨b, _, rfl, SqT.of eb, rfl, _, _, rfl, _, _, rfl, rfl, ?_⟩
        refine ⟨_, rfl, true, rfl, _, rfl, p1, _, _, _, rfl, rfl, SqL.of e14, at0, _, rfl, _, rfl, _, rfl, _, _, rfl, rfl, _, rfl, S hd, rfl, sz (by rw [S_len]; exact lh), FIG, rfl, by decide, fun p5 n5 => ?_⟩
        refine ⟨p5, _, rfl, .inl (SqL.of upd_same), rfl, rfl, ?_⟩
        rw [show (V.str (cutS (S hd) (some ((r : Nat) : Int)) (some (((r : Nat) : Int) + 1)))) = V.str (S ((hd.drop r).take 1)) from congrArg V.str (cut_at hd r), fig_in]
        have ec : cornersTold hd = afterWord hd r ((hd.drop r).head?) := by
          unfold cornersTold
          rw [hr', bd_ok]
        have s5 := Same.new n5 (o := .lst (FIG.map fun c => V.str (S [c])))
        generalize upd H4 p5 (.lst (FIG.map fun c => V.str (S [c]))) = H5 at s5
        have R5 := R4.up s5
        have s05 := (s1.trans s02).trans (s4.trans s5)
        have e15 := s5 p1 _ e14
        obtain ⟨rw1, rw2⟩ := word_len hr'
        have hr8 : r = 8 := rw1
        cases eh : (hd.drop r).head? with
        | none =>
          rw [eh] at ec
          exact ⟨_, rfl, iteT' rfl ⟨_, rfl, zl3, fun a na => bad r _ a ec (s05.trans (Same.new na)) upd_same⟩⟩
        | some c =>
          rw [eh] at ec
          by_cases hc : c ∈ FIG
          · have e2 : (!(match some c with | none => false | some c => decide (c ∈ FIG))) = false := by
              show (!decide (c ∈ FIG)) = false
              rw [decide_eq_true hc]
              rfl
            refine ⟨_, rfl, iteF' e2 ?_⟩
            have ec : cornersTold hd = if c ∈ FIG then bd (endAt hd (r + 1)) fun _ => .ok (fig c) else .error r := ec
            rw [if_pos hc] at ec
            refine ⟨_, rfl, p1, _, _, _, rfl, rfl, SqL.of e15, at0, _, rfl, sz (by rw [S_len]; exact lh), _, rfl, _, _, rfl, rfl, _, _, rfl, rfl, _, rfl, ite2 (fun d => ?_) (fun d => ?_)⟩
            · have d1 : r + 1 < hd.length := by
                have := of_decide_eq_true d
                rw [S_len] at this
                omega
              have ee : endAt hd (r + 1) = .error (r + 1) := if_pos d1
              rw [ee, bd_er] at ec
              exact ⟨_, rfl, _, _, rfl, rfl, zl3, fun a na => bad (r + 1) _ a ec (s05.trans (Same.new na)) upd_same⟩
            · have d1 : ¬ (r + 1 < hd.length) := fun z => d (decide_eq_true (by rw [S_len]; omega))
              have ee : endAt hd (r + 1) = .ok () := if_neg d1
              rw [ee, bd_ok] at ec
              have len : ((((hd :: tl).map fun p => V.str (S p)).length : Int) - 1).toNat = tl.length := by
                rw [List.length_map, List.length_cons]
                omega
              refine ⟨_, rfl, p1, _, rfl, .inl (SqL.of e15), _, _, rfl, ⟨by omega, by omega, by omega, by rw [List.length_map, List.length_cons]; omega⟩, ?_⟩
              refine for_it (walk_range (lo := 1) (n := _)) (fun i σ H1 => ∃ x y z s, σ = [some (.str (S l)), some (.ref p1), some (.ref a2), some (.ref a3), some (.int (r : Nat)), some (.bl true), x, y, z, none, none] ∧ Rows H0 H1 a2 a3 s ∧ rowsTold 1 tl ⟨[], []⟩ = rowsTold (i + 1) (tl.drop i) s ∧ FineR i s)
                ⟨_, _, _, _, rfl, R5, rfl, ⟨fun _ h => (nomatch h), fun _ h => (nomatch h), Nat.le_refl _⟩⟩ (fun _ _ _ _ _ => trivial) ?_ ?_
              · rintro i v σ H1 H2 hi ⟨x, y, z, s, rfl, R, et, fr⟩ ⟨rfl, rfl⟩
                have hi2 : i < tl.length := by
                  rw [len] at hi
                  exact hi
                obtain ⟨p, ep⟩ : ∃ p, tl[i]? = some p := ⟨_, List.getElem?_eq_getElem hi2⟩
                have lp : p.length ≤ BIG := Nat.le_trans (mem p (List.mem_cons_of_mem _ (List.mem_of_getElem? ep))) (Nat.le_of_lt hl)
                have ed : tl.drop i = p :: tl.drop (i + 1) := by
                  obtain ⟨h1, h2⟩ := List.getElem?_eq_some_iff.mp ep
                  rw [List.drop_eq_getElem_cons h1, h2]
                have zr : szR s < BIG := by
                  have := fr.n
                  show szL s.shots s.progs < 100000
                  omega
                rw [ed] at et
                have c1 : (1 : Int) + ((i : Nat) : Int) = ((i + 1 : Nat) : Int) := by omega
                have atk : atI ((hd :: tl).map fun p => V.str (S p)) ((1 : Int) + ((i : Nat) : Int)) = some (V.str (S p)) := by
                  rw [c1]
                  refine atI_nat (j := i + 1) ?_
                  rw [List.map_cons, List.getElem?_cons_succ, List.getElem?_map, ep]
                  rfl
                have R' := R
                obtain ⟨us, qs, RV⟩ := R'
                refine ⟨_, rfl, _, rfl, p1, _, _, _, rfl, rfl, SqL.of (RV.sm _ _ e1), atk, _, rfl, _, rfl, p, a2, a3, s, H0, rfl, lp, R, zr, fun s' hs' H7 a q R7 e7 => ?_, fun q hq H7 a s7 e7 => ?_⟩
                · refine ⟨a, _, rfl, SqT.of e7, rfl, _, _, rfl, _, _, rfl, rfl, _, rfl, true, rfl, _, _, _, s', rfl, R7, ?_, row_fine hs' fr⟩
                  rw [et]
                  show bd (onRow (i + 1) (rowTold p s)) _ = _
                  rw [hs']
                  rfl
                · refine ⟨a, _, rfl, SqT.of e7, rfl, _, _, rfl, _, _, rfl, rfl, _, rfl, false, rfl, _, rfl, _, rfl, zl3, fun b nb => ?_⟩
                  have sm := (s1.trans s7).trans (Same.new nb (o := .tup [.str "text", .int ((1 : Int) + ((i : Nat) : Int)), .int (q : Nat)]))
                  have z : readN l = .text (i + 1) q := by
                    rw [er]
                    unfold linesTold
                    rw [ec, onRow_ok, bd_ok, et]
                    show (match bd (bd (onRow (i + 1) (rowTold p s)) _) _ with | .error (r, p) => Res.text r p | .ok x => lotOr x) = _
                    rw [hq]
                    rfl
                  refine fin _ (.ref b) (ExtN.of sm) (hT.ext sm) ?_
                  rw [z]
                  refine ⟨b, rfl, ?_⟩
                  rw [← c1]
                  exact upd_same
              · rintro σ H1 ⟨x, y, z, s, rfl, R, et, fr⟩
                rw [len] at et fr
                rw [List.drop_length] at et
                have er2 : readN l = if s.shots = [] then .text (tl.length + 1) 0 else lotOr ⟨fig c, s.shots, s.progs⟩ := by
                  rw [er]
                  unfold linesTold
                  rw [ec, onRow_ok, bd_ok, et]
                  show (match (if s.shots = [] then Except.error (tl.length + 1, 0) else Except.ok (⟨fig c, s.shots, s.progs⟩ : Lot)) with | .error (r, p) => Res.text r p | .ok x => lotOr x) = _
                  by_cases z : s.shots = []
                  · rw [if_pos z, if_pos z]
                  · rw [if_neg z, if_neg z]
                have cf := corners_fine ec
                obtain ⟨us, qs, RV⟩ := id R
                refine ⟨_, rfl, zl0, fun a6 n6 => ?_⟩
                have s6 := Same.new n6 (o := .lst [])
                have R6 := RV.up s6
                refine ⟨a2, a6, us, rfl, rfl, SqL.of R6.e1, SqL.of upd_same, _, rfl, ite2 (fun d => ?_) (fun d => ?_)⟩
                · rw [pair_nil RV.p1] at d
                  have d1 : s.shots = [] := of_decide_eq_true d
                  rw [if_pos d1] at er2
                  have ep1 := R6.sm _ _ e1
                  refine ⟨_, rfl, p1, _, rfl, .inl (SqL.of ep1), zl3, fun b nb => ?_⟩
                  have sm := (s1.trans R6.sm).trans (Same.new nb (o := .tup [.str "text", .int (((hd :: tl).map fun p => V.str (S p)).length : Nat), .int 0]))
                  refine fin _ (.ref b) (ExtN.of sm) (hT.ext sm) ?_
                  rw [er2]
                  refine ⟨b, rfl, ?_⟩
                  rw [show tl.length + 1 = ((hd :: tl).map fun p => V.str (S p)).length by rw [List.length_map, List.length_cons]]
                  exact upd_same
                · rw [pair_nil RV.p1] at d
                  have d1 : ¬ s.shots = [] := fun z => d (decide_eq_true z)
                  rw [if_neg d1] at er2
                  have lq : qs.length = s.progs.length := pair_len RV.p2
                  have ls : us.length = s.shots.length := pair_len RV.p1
                  have fz := fr.n
                  have fL : FineL tl.length ⟨fig c, s.shots, s.progs⟩ := ⟨cf, fr.sh, fr.p, fr.n⟩
                  unfold szL at fz
                  have ehc : hd[8]? = some c := by
                    rw [← hr8, ← List.head?_drop]
                    exact eh
                  refine ⟨_, rfl, p1, _, _, _, rfl, rfl, SqL.of (R6.sm _ _ e1), at0, _, _, c, rfl, rfl, sz (by rw [S_len]; exact lh), atI_nat (j := 8) ehc, _, _, rfl, fig_int c hc, by show (1 : Nat) ≤ 640; decide, ?_⟩
                  refine ⟨_, rfl, a2, us, rfl, .inl ⟨SqL.of R6.e1, fun b nb => ?_⟩⟩
                  have s7 := Same.new nb (o := .tup us)
                  have R7 := R6.up s7
                  refine ⟨_, rfl, a3, rfl, ⟨_, SqL.of R7.e2⟩, fun D nD => ?_⟩
                  refine lc_rel (walk_list (K := K) (a := a3) (xs := qs)) (fun j y H1 => IsProg H1 y (s.progs.getD j [])) (fun j y H1 H2 t => IsProg.up t) nD (show _ ≤ 100000 by omega) (fun H2 s2 => SqL.of (s2 a3 _ R7.e2)) ?_ ?_
                  · rintro i v H2 H3 Kt Kf hi s8 ⟨rfl, ev⟩ k
                    obtain ⟨p, ep, a, es, rfl, _, _, _, ea, pe⟩ := pair_get R7.p2 ev
                    have ea3 := s8 a _ ea
                    refine ⟨rfl, _, rfl, a, es, rfl, .inl ⟨SqL.of ea3, fun e ne' => ?_⟩⟩
                    have s9 := Same.new ne' (o := .tup es)
                    refine k _ _ s9 ⟨e, es, rfl, upd_same, ?_⟩
                    rw [List.getD_eq_getElem?_getD, ep]
                    exact L2.Paired.mapP pe fun _ _ q => IsEntry.up (s8.trans s9).ts q
                  · intro H2 acc s8 eD lacc rel
                    refine ⟨D, acc, rfl, .inl ⟨SqL.of eD, fun e ne' => ?_⟩⟩
                    have s9 := Same.new ne' (o := .tup acc)
                    refine ⟨zl3, fun f nf => ?_⟩
                    have s10 := Same.new nf (o := .tup [.int (fig c : Nat), .ref b, .ref e])
                    have s7f := (s8.trans s9).trans s10
                    have pr2 : Paired (IsProg H2) acc s.progs := by
                      refine pair_of (by rw [lacc, lq]) fun i y p e1 e2 => ?_
                      have z := rel i y e1
                      rw [List.getD_eq_getElem?_getD, e2] at z
                      exact z
                    have IL : IsLot (upd (upd H2 e (.tup acc)) f (.tup [.int (fig c : Nat), .ref b, .ref e])) (.ref f) ⟨fig c, s.shots, s.progs⟩ :=
                      ⟨f, b, e, us, acc, rfl, upd_same, s7f b _ upd_same, L2.Paired.mapP R7.p1 fun _ _ q => IsShot.up s7f.ts q, s10 e _ upd_same, L2.Paired.mapP pr2 fun _ _ q => IsProg.up (s9.trans s10).ts q⟩
                    have sall : Same H _ := s1.trans (R7.sm.trans s7f)
                    generalize upd (upd H2 e (.tup acc)) f (.tup [.int (fig c : Nat), .ref b, .ref e]) = HE at IL sall
                    refine ⟨hT.ext sall, fun Hx ext T1 F nF Q' kQ => ⟨_, rfl, .ref f, rfl, .inl ⟨_, IL.up ((ext_ts ext).trans (Same.new nF).ts), small_of fL (show _ ≤ 100000 by omega), fun hn H9 s9' => ?_, fun p k hp H9 d9 s9' nd ed => ?_⟩⟩⟩
                    · have sm9 : Same Hx (upd H9 F (.lst [.ref f])) := ((Same.new nF).trans s9').put nF
                      refine kQ _ _ (s9' F _ upd_same) (fin _ (.ref F) ((ExtN.of sall).trans (ext.trans (ExtN.of sm9))) (T1.ext sm9) ?_)
                      rw [er2]
                      unfold lotOr
                      rw [hn]
                      exact ⟨F, .ref f, rfl, upd_same, IL.up ((ext_ts ext).trans sm9.ts)⟩
                    · refine ⟨d9, rfl, .inl ⟨.str (partS p), numV k, rfl, ed, fun H3 t s3 et3 => ?_⟩⟩
                      have sm9 : Same Hx H3 := ((Same.new nF).trans s9').trans s3
                      refine fin _ (.ref t) ((ExtN.of sall).trans (ext.trans (ExtN.of sm9))) (T1.ext sm9) ?_
                      rw [er2]
                      unfold lotOr
                      rw [hp]
                      exact ⟨t, rfl, et3⟩
          · have e2 : (!(match some c with | none => false | some c => decide (c ∈ FIG))) = true := by
              show (!decide (c ∈ FIG)) = true
              rw [decide_eq_false hc]
              rfl
            have ec : cornersTold hd = if c ∈ FIG then bd (endAt hd (r + 1)) fun _ => .ok (fig c) else .error r := ec
            rw [if_neg hc] at ec
            exact ⟨_, rfl, iteT' e2 ⟨_, rfl, zl3, fun a na => bad r _ a ec (s05.trans (Same.new na)) upd_same⟩⟩
      · have ec : cornersTold hd = .error q := by
          unfold cornersTold
          rw [hq, bd_er]
        refine ⟨b, _, rfl, SqT.of eb, rfl, _, _, rfl, _, _, rfl, rfl, ?_⟩
        exact ⟨_, rfl, false, rfl, _, rfl, zl3, fun a na => bad q _ a ec ((s1.trans s02).trans (s4.trans (Same.new na))) upd_same⟩
    · exact ⟨_, rfl, _, .ty "str", _, .type "str", false, rfl, .ty _, ty, k, false, rfl, _, rfl, _, rfl, zl3, fun a na => fin _ a (ExtN.of (Same.new na)) (hT.ext (Same.new na)) upd_same⟩
end
end K5
/-! ### defs that show data: no guard stands around them -/
namespace K5
open PySem PySem.Spec PyProof.Rows L2 LamX
structure GdG (P : Program) (w : World) (K : PySem.W.Frag) (mg : Str → Option Value) (base : Heap) (k : Nat) (x : Str) (ps : List Str) (sp : Sp) : Prop where
  len : ∀ vs H Q E, sp vs H Q E → vs.length = ps.length
  ex : ∃ fd : FuncData, (∀ (A : Around) (outer : List Env) (s : Shared) (H : Hp) (args : Args) (us : List Value) (vs : List V) (Q : VK) (E : XK), Room k A → A.guards = some [] → Env0 P w K mg base A outer s H → BindsTo s fd args (ps.zip us) → Vals vs us → sp vs H Q E →
    codeAny (model P w) A (.call (.ref (He.ga K x)) args) (CR (CZ P w) outer P w H s Q E) s) ∧ Binds K fd ps []
  m : mg x = some (.ref (He.ga K x))
  kp : PySem.W.keepIn K (.ref (He.ga K x)) = true
section
variable {X : Cx} {k : Nat} {ps : List Str} {sp : Sp} {E : XK} {x : Str} {p pos : Pos} {e : Expr} {es : List Expr} {t : TA}
theorem run_gG {pins : List (Addr × Obj)} {σ : L2.St} {H : Hp} {s : Shared} {Q : VK} {us : List Value} {vs : List V} (G : GdG X.prog X.w X.K X.mg X.base k x ps sp) (hr : Room k X.A) (hgd : X.A.guards = some []) (hx : Passes (CZ X.prog X.w) X E)
    (I : Inv X pins σ H s) (r : Vals vs us) (h : sp (vs ++ []) H Q E) : wpAny (model X.prog X.w) X.A (call (.ref (He.ga X.K x)) us) (EP X pins σ Q) X.xe s := by
  obtain ⟨fd, run, hb⟩ := G.ex
  have rr : Vals (vs ++ []) (us ++ []) := r.append .nil
  have n : (us ++ []).length = ps.length := rr.length.symm.trans (G.len _ _ _ _ h)
  refine wpAny_call (codeAny_mono (run X.A X.stack s H ⟨us, []⟩ (us ++ []) (vs ++ []) Q E hr hgd I.env0 (hb s us I.kIn n) rr h) fun r s' hq => ?_)
  match r, hq with
  | .error e, hq => exact hx pins σ H s e s' I hq
  | .ok (.ret u), hq => exact I.after hq
  | .ok .next, hq => exact hq.elim
  | .ok .brk, hq => exact hq.elim
  | .ok .cont, hq => exact hq.elim
theorem pe_gG (G : GdG X.prog X.w X.K X.mg X.base k x ps sp) (hr : Room k X.A) (hgd : X.A.guards = some []) (hg : Gl X x) (hx : Passes (CZ X.prog X.w) X E) (ha : PA X (e :: es) t)
    (hdb : (x == ("__debug__" : Str)) = false := by decide) (he : starEach (e :: es) X.env = (false, eval e X.env) :: starEach es X.env := by rfl)
    (hpl : (backTo pos (starEach es X.env)).any (·.1) = false := by rfl) : PE X (.Call (.Name x p) (e :: es) [] pos) (tCall sp [] E t) :=
  ⟨fun pins s σ H Q I h => wpAny_Call_Name_kw (ld_glob I hg G.m (PySem.W.callWith_K I.ok.mod.kin G.kp (thn (ha.run pos pins s σ H _ I h) fun us s1 ⟨vs, H1, I1, r, q⟩ => ⟨I1.kIn, run_gG G hr hgd hx I1 r q⟩) he hpl) hdb)⟩
theorem pe_gG0 (G : GdG X.prog X.w X.K X.mg X.base k x ps sp) (hr : Room k X.A) (hgd : X.A.guards = some []) (hg : Gl X x) (hx : Passes (CZ X.prog X.w) X E)
    (hdb : (x == ("__debug__" : Str)) = false := by decide) : PE X (.Call (.Name x p) [] [] pos) (tCall sp [] E tNil) :=
  ⟨fun pins s σ H Q I h => wpAny_Call_Name_kw (ld_glob I hg G.m (PySem.W.callWith_K0 I.kIn G.kp (run_gG (us := []) G hr hgd hx I .nil h)) hdb)⟩
end
section
variable {P : Program} {w : World} {K : PySem.W.Frag} {mg : Str → Option Value} {base : Heap}
theorem gdG_of {x : Str} {d : He.DefD} {N ps : List Str} {sp : Sp} {k : Nat} (T : Txt P w K mg base) (hx : x ∈ gloN) (hd : d ∈ fn) (he : d.at_ = (x, none))
    (hb : ∀ (kV doc pm : Value) (an : Option Addr) (cdv ct : Value) (us : List Value), us.length = ps.length → bindArgs (PySem.W.fnOf d.name d.qual d.params d.body d.scope .none kV doc pm an cdv ct) ⟨us, []⟩ = pure (ps.zip us))
    (Sc : FnScope N ps d.scope) (len : ∀ vs H Q E, sp vs H Q E → vs.length = ps.length)
    (hbody : ∀ (A : Around) (outer : List Env) (s : Shared) (H : Hp) (vs : List V) (Q : VK) (E : XK), A.guards = some [] → Room k (A.deeper (envOfC d.qual d.scope s.heap.objs.size (He.ga K x) (.ref (He.cT K (x, none)).1))) → sp vs H Q E →
      ∃ t, PSs (cxOf (CZ P w) P w K mg base N d.qual d.scope (He.ga K x) (.ref (He.cT K (x, none)).1) A outer s H E) d.body t ∧ t { nx := fun _ H' => Q .non H', rt := Q } (start N vs) H) : GdG P w K mg base (k + 1) x ps sp := by
  obtain ⟨fd, F⟩ := T.defs d hd
  rw [he, show He.fAd K (x, none) = He.ga K x from rfl] at F
  have b := F.bindsN hb
  have kp := F.kp
  obtain ⟨oc, od, dV, kV, doc, pm, an, cdv, ct, osl, rfl, lk, hcd, _, _⟩ := F.ex
  obtain ⟨c, rfl⟩ := He.codeIn_ref hcd
  have e : (He.cT K (x, none)).1 = c := He.codeOf_eq lk rfl
  refine ⟨len, ⟨_, fun A outer s H args us vs Q E hr hgd e0 bt r h => ?_, b⟩, T.glo x hx, kp⟩
  refine run_ofS lk hcd Sc hr e0 bt r (len _ _ _ _ h) fun hr' => ?_
  rw [← e] at hr' ⊢
  exact hbody A outer s H vs Q E hgd hr' h
end
/-! repr -/
/-- what is shown of a value -/
def Shows (K : PySem.W.Frag) (H : Hp) (v : V) (d : PyData) : Prop := ∀ (X : Cx) (pins : List (Addr × Obj)) (σ : L2.St) (s : Shared) (u : Value), X.K = K → Inv X pins σ H s → RelV v u → ∃ as, Reads s.heap u d as ∧ (d.hasDict = true → sysModules ∉ as)
theorem shows_dp {K : PySem.W.Frag} {H : Hp} {v : V} {d : PyData} (h : Dp K H v d) (hn : d.hasDict = false) : Shows K H v d := fun X pins σ s u hK I r => by
  subst hK
  obtain ⟨as, q⟩ := Dp.reads I d v u h r
  exact ⟨as, q, fun z => by rw [hn] at z; cases z⟩
theorem call_reprD {X : Cx} (hgd : X.A.guards = some []) (hu : X.A.units + 60 < cLine) : CallR X (.builtin "repr") (fun xs H Q => ∃ a d, xs = [.ref a] ∧ Shows X.K H (.ref a) d ∧ d.showable = true ∧ d.depth ≤ 50 ∧ d.shown.length ≤ sizeLine ∧ Q (.str d.shown) H) := by
  intro pins s σ H xs us Q I r h
  obtain ⟨a, d, rfl, hd, hs, hdp, hz, q⟩ := h
  obtain ⟨u, rfl, rx⟩ := vals1 r
  cases rx
  obtain ⟨as, rd, hsys⟩ := hd X pins σ s (.ref a) rfl I rfl
  exact PySem.repr_of_reads' rd hs hsys hgd (by omega) (fun b o e => e) (fun h' u tk hk => ⟨.str d.shown, H, I.kept hk, ⟨_, rfl⟩, q⟩) hz
end K5
/-! ### how long is what is shown -/
namespace K5
open PySem PySem.Spec PyProof.Rows L2
mutual
def szD : PyData → Nat
  | .none => 4
  | .bool _ => 5
  | .int _ => 11
  | .str x => 10 * x.length + 2
  | .list xs => 2 + szA xs
  | .tuple xs => 3 + szA xs
  | .dict _ => 2
def szA : List PyData → Nat
  | [] => 0
  | x :: xs => szD x + 2 + szA xs
end
mutual
def okD : PyData → Bool
  | .none => true
  | .bool _ => true
  | .int i => decide (i.natAbs < 1000000000)
  | .str x => x.cps.toList.all fun c => decide (c < 16 ^ 8)
  | .list xs => okA xs
  | .tuple xs => okA xs
  | .dict kvs => kvs.isEmpty
def okA : List PyData → Bool
  | [] => true
  | x :: xs => okD x && okA xs
end
theorem list_le : ∀ ts : List Str, (listText ts).length ≤ 2 + piled ts
  | [] => by decide
  | t :: r => by
    have h := textFrom_length_pos r 1 (("[" : Str) ++ (if (0 : Nat) > 0 then ", " else "" : String) ++ t) (Nat.succ_pos 0)
    have e : ((("[" : Str) ++ (if (0 : Nat) > 0 then ", " else "" : String) ++ t)).length = 1 + t.length := by
      rw [strLen_append, strLen_append]
      rfl
    have z : (listText (t :: r)).length = (textFrom 1 (("[" : Str) ++ (if (0 : Nat) > 0 then ", " else "" : String) ++ t) r).length + 1 := by
      show (textFrom 0 "[" (t :: r) ++ "]").length = _
      rw [strLen_append]
      rfl
    rw [z, h, e, piled_cons]
    omega
theorem tuple_le (ts : List Str) : (tupleText ts).length ≤ 3 + piled ts := by
  unfold tupleText
  rw [strLen_append, strLen_append]
  have e1 : ((("(" : String) : Str)).length = 1 := rfl
  have e3 : (((if ts.length == 1 then ",)" else ")" : String) : Str)).length ≤ 2 := by split <;> decide
  have e2 : (Str.join ", " ts).length ≤ piled ts := by
    by_cases h : ts = []
    · subst h
      decide
    · have := join_length_add ts h
      omega
  omega
mutual
theorem shown_le : ∀ d : PyData, okD d = true → d.shown.length ≤ szD d ∧ d.showable = true
  | .none, _ => ⟨by decide, rfl⟩
  | .bool true, _ => ⟨by decide, rfl⟩
  | .bool false, _ => ⟨by decide, rfl⟩
  | .int i, h => by
    have hi : i.natAbs < 1000000000 := of_decide_eq_true h
    refine ⟨?_, ?_⟩
    · have := int_text_length_le10 (a := i) (k := 9) (by decide) hi
      have e : (Str.ofString (toString i)).length = (toString i).length := by
        rw [Str.ofString_eq_toList]
        show ((toString i).toList.map Char.toNat).toArray.size = _
        rw [List.size_toArray, List.length_map]
        rfl
      show (Str.ofString (toString i)).length ≤ 11
      omega
    · show decide (i.natAbs.log2 < 1920) = true
      refine decide_eq_true ?_
      by_cases z : i.natAbs = 0
      · rw [z]
        decide
      · refine (Nat.log2_lt z).mpr (Nat.lt_of_lt_of_le hi ?_)
        exact Nat.le_trans (by decide : 1000000000 ≤ 2 ^ 30) (Nat.pow_le_pow_right (by decide) (by decide))
  | .str x, h => by
    refine ⟨PySem.StrLaws.reprText_len x fun c hc => of_decide_eq_true (List.all_eq_true.mp h c hc), rfl⟩
  | .list xs, h => by
    obtain ⟨h1, h2⟩ := shownA_le xs h
    refine ⟨?_, h2⟩
    show (listText (PyData.shownAll xs)).length ≤ 2 + szA xs
    have := list_le (PyData.shownAll xs)
    omega
  | .tuple xs, h => by
    obtain ⟨h1, h2⟩ := shownA_le xs h
    refine ⟨?_, h2⟩
    show (tupleText (PyData.shownAll xs)).length ≤ 3 + szA xs
    have := tuple_le (PyData.shownAll xs)
    omega
  | .dict [], _ => ⟨by decide, rfl⟩
  | .dict (_ :: _), h => nomatch h
theorem shownA_le : ∀ ds : List PyData, okA ds = true → piled (PyData.shownAll ds) ≤ szA ds ∧ PyData.showableAll ds = true
  | [], _ => ⟨Nat.le_refl _, rfl⟩
  | d :: ds, h => by
    obtain ⟨h1, h2⟩ := Bool.and_eq_true_iff.mp h
    obtain ⟨a, b⟩ := shown_le d h1
    obtain ⟨c, e⟩ := shownA_le ds h2
    refine ⟨?_, ?_⟩
    · show piled (d.shown :: PyData.shownAll ds) ≤ szD d + 2 + szA ds
      rw [piled_cons]
      omega
    · show (d.showable && PyData.showableAll ds) = true
      rw [b, e]
      rfl
end
end K5
/-! ### places and numbers that are told are small -/
namespace K5
open PySem
theorem bd_err {e a b : Type} {x : Except e a} {f : a → Except e b} {q : e} (h : bd x f = .error q) : x = .error q ∨ ∃ v, x = .ok v ∧ f v = .error q := by
  cases x with
  | error p =>
    cases h
    exact .inl rfl
  | ok v => exact .inr ⟨v, rfl, h⟩
theorem miss_some : ∀ (wd l : List Nat) (k : Nat), miss wd l = some k → k ≤ wd.length
  | [], _, _, h => by cases h
  | _ :: _, [], _, h => by
    cases h
    exact Nat.zero_le _
  | w :: ws, c :: cs, k, h => by
    have h' : (if c = w then (miss ws cs).map (· + 1) else some 0) = some k := h
    split at h'
    · obtain ⟨j, hj, rfl⟩ := Option.map_eq_some_iff.mp h'
      have := miss_some ws cs j hj
      simp only [List.length_cons]
      omega
    · cases h'
      exact Nat.zero_le _
theorem word_err {l wd : List Nat} {p q : Nat} (h : wordAt l p wd = .error q) : q ≤ p + wd.length := by
  unfold wordAt at h
  cases e : miss wd (l.drop p) with
  | none =>
    rw [e] at h
    cases h
  | some k =>
    rw [e] at h
    have := miss_some _ _ _ e
    injection h with h
    omega
theorem word_okP {l wd : List Nat} {p q : Nat} (h : wordAt l p wd = .ok q) : q = p + wd.length := by
  unfold wordAt at h
  cases e : miss wd (l.drop p) with
  | none =>
    rw [e] at h
    injection h with h
    exact h.symm
  | some k =>
    rw [e] at h
    cases h
theorem turn_err {l : List Nat} {p q : Nat} (h : turnAt l p = .error q) : q = p := by
  unfold turnAt at h
  split at h
  · injection h with h
    exact h.symm
  · cases h
theorem turn_okP {l : List Nat} {p : Nat} {x : List Nat × Nat} (h : turnAt l p = .ok x) : x.2 ≤ p + 8 := by
  unfold turnAt at h
  split at h
  · cases h
  · injection h with h
    have := (run_all FIG 8 (l.drop p)).2
    rw [← h]
    show p + _ ≤ _
    omega
theorem mark_err {l : List Nat} {p q : Nat} (h : markAt l p = .error q) : q = p := by
  unfold markAt at h
  split at h
  · cases h
  · split at h
    · injection h with h
      exact h.symm
    · cases h
theorem mark_okP {l : List Nat} {p : Nat} {x : List Nat × Nat} (h : markAt l p = .ok x) : x.2 ≤ p + 8 := by
  unfold markAt at h
  split at h
  · injection h with h
    rw [← h]
    show p + 1 ≤ _
    omega
  · split at h
    · cases h
    · injection h with h
      have := (run_all LET 8 (l.drop p)).2
      rw [← h]
      show p + _ ≤ _
      omega
theorem end_err {l : List Nat} {p q : Nat} (h : endAt l p = .error q) : q = p := by
  unfold endAt at h
  split at h
  · injection h with h
    exact h.symm
  · cases h
theorem pair_err {l : List Nat} {p q : Nat} (h : pairTold l p = .error q) : q ≤ p + 17 := by
  rcases bd_err h with h | ⟨x, hx, h⟩
  · have := turn_err h
    omega
  have k1 := turn_okP hx
  rcases bd_err h with h | ⟨a, ha, h⟩
  · have := word_err h
    have : wBLANK.length = 1 := rfl
    omega
  have k2 := word_okP ha
  have k3 : wBLANK.length = 1 := rfl
  rcases bd_err h with h | ⟨y, hy, h⟩
  · have := mark_err h
    omega
  have k4 := mark_okP hy
  rcases bd_err h with h | ⟨z, hz, h⟩
  · have := end_err h
    omega
  cases h
theorem shot_err {l : List Nat} {q : Nat} (h : shotTold l = .error q) : q ≤ 30 := by
  have k3 : wSHOT.length = 5 := rfl
  rcases bd_err h with h | ⟨x, hx, h⟩
  · have := word_err h
    omega
  have := word_okP hx
  have := pair_err h
  omega
theorem entry_err {l : List Nat} {q : Nat} (h : entryTold l = .error q) : q ≤ 30 := by
  have k3 : wBLANK.length = 1 := rfl
  rcases bd_err h with h | ⟨x, hx, h⟩
  · have := mark_err h
    omega
  have := mark_okP hx
  rcases bd_err h with h | ⟨a, ha, h⟩
  · have := word_err h
    omega
  have := word_okP ha
  rcases bd_err h with h | ⟨y, hy, h⟩
  · have := pair_err h
    omega
  cases h
theorem row_err {l : List Nat} {s : RSt} {q : Nat} (h : rowTold l s = .error q) : q ≤ 30 := by
  unfold rowTold at h
  split at h
  · rcases bd_err h with h | ⟨x, hx, h⟩
    · exact shot_err h
    · cases h
  split at h
  · injection h with h
    omega
  split at h
  · have k3 : wPROG.length = 7 := rfl
    rcases bd_err h with h | ⟨x, hx, h⟩
    · have := word_err h
      omega
    have := word_okP hx
    rcases bd_err h with h | ⟨y, hy, h⟩
    · have := end_err h
      omega
    cases h
  split at h
  · cases h
  · rcases bd_err h with h | ⟨x, hx, h⟩
    · exact entry_err h
    · cases h
theorem rows_err : ∀ (r : List (List Nat)) (k : Nat) (s : RSt) (a b : Nat), rowsTold k r s = .error (a, b) → a < k + r.length ∧ b ≤ 30
  | [], _, _, _, _, h => by cases h
  | l :: r, k, s, a, b, h => by
    have h' : bd (onRow k (rowTold l s)) (rowsTold (k + 1) r) = .error (a, b) := h
    rcases bd_err h' with z | ⟨x, hx, z⟩
    · cases e : rowTold l s with
      | ok v =>
        rw [e] at z
        cases z
      | error q =>
        rw [e] at z
        have := row_err e
        injection z with z
        injection z with z1 z2
        simp only [List.length_cons]
        omega
    · have := rows_err r (k + 1) x a b z
      simp only [List.length_cons]
      omega
theorem corners_err {l : List Nat} {q : Nat} (h : cornersTold l = .error q) : q ≤ 30 := by
  have k3 : wCORN.length = 8 := rfl
  rcases bd_err h with h | ⟨x, hx, h⟩
  · have := word_err h
    omega
  have := word_okP hx
  unfold afterWord at h
  split at h
  · injection h with h
    omega
  · split at h
    · rcases bd_err h with h | ⟨y, hy, h⟩
      · have := end_err h
        omega
      · cases h
    · injection h with h
      omega
theorem told_err {l : List Nat} {a b : Nat} (h : told l = .error (a, b)) : a ≤ l.length + 1 ∧ b ≤ 30 := by
  obtain ⟨hd, tl, e⟩ := lines_cons l
  have ll := lines_len l
  rw [e] at ll
  simp only [List.length_cons] at ll
  unfold told at h
  rw [e] at h
  have h' : bd (onRow 0 (cornersTold hd)) (fun c => bd (rowsTold 1 tl ⟨[], []⟩) fun s => if s.shots = [] then .error (tl.length + 1, 0) else .ok (⟨c, s.shots, s.progs⟩ : Lot)) = .error (a, b) := h
  rcases bd_err h' with z | ⟨c, hc, z⟩
  · cases e : cornersTold hd with
    | ok v =>
      rw [e] at z
      cases z
    | error q =>
      rw [e] at z
      have := corners_err e
      injection z with z
      injection z with z1 z2
      omega
  · rcases bd_err z with z | ⟨s, hs, z⟩
    · have := rows_err _ _ _ _ _ z
      omega
    · split at z
      · injection z with z
        injection z with z1 z2
        omega
      · cases z
theorem badShot_lt (c : Nat) : ∀ (l : List Shot) (k0 : Nat) (p : Option Shot) (k : Nat), badShot c k0 p l = some k → k < k0 + l.length
  | [], _, _, _, h => by cases h
  | s :: r, k0, p, k, h => by
    have e : ∃ b : Bool, badShot c k0 p (s :: r) = if b = true then badShot c (k0 + 1) (some s) r else some k0 := ⟨_, rfl⟩
    obtain ⟨b, e⟩ := e
    rw [e] at h
    split at h
    · have := badShot_lt c r (k0 + 1) (some s) k h
      simp only [List.length_cons]
      omega
    · injection h with h
      simp only [List.length_cons]
      omega
theorem badProg_lt (c : Nat) : ∀ (l : List (List Entry)) (k0 k : Nat), badProg c k0 l = some k → k < k0 + l.length
  | [], _, _, h => by cases h
  | s :: r, k0, k, h => by
    unfold badProg at h
    split at h
    · have := badProg_lt c r (k0 + 1) k h
      simp only [List.length_cons]
      omega
    · injection h with h
      simp only [List.length_cons]
      omega
theorem notLot_lt {x : Lot} {p : Part} {k : Nat} (h : notLot x = some (p, some k)) : k ≤ x.shots.length + x.progs.length := by
  unfold notLot at h
  split at h
  · injection h with h
    injection h with _ h
    cases h
  · split at h
    · rename_i j ej
      injection h with h
      injection h with _ h
      subst h
      unfold notShots at ej
      split at ej
      · cases ej
      · obtain ⟨i, hi, e⟩ := Option.map_eq_some_iff.mp ej
        injection e with e
        have := badShot_lt _ _ _ _ _ hi
        omega
    · split at h
      · rename_i j ej
        injection h with h
        injection h with _ h
        subst h
        unfold notProgs at ej
        split at ej
        · cases ej
        · obtain ⟨i, hi, e⟩ := Option.map_eq_some_iff.mp ej
          injection e with e
          have := badProg_lt _ _ _ _ hi
          omega
      · split at h
        · injection h with h
          injection h with _ h
          cases h
        · cases h
end K5
/-! ### lots as data -/
namespace K5
open PySem PySem.Spec PyProof.Rows L2
def dN (t : List Nat) : PyData := .tuple (t.map fun n : Nat => .int (n : Int))
def dSh (s : Shot) : PyData := .tuple [dN s.1, .str (S s.2)]
def dEntry (e : Entry) : PyData := .tuple [.str (S e.1), dN e.2.1, .str (S e.2.2)]
def dProg (p : List Entry) : PyData := .tuple (p.map dEntry)
def dLot (x : Lot) : PyData := .tuple [.int (x.corners : Nat), .tuple (x.shots.map dSh), .tuple (x.progs.map dProg)]
def dNum : Option Nat → PyData
  | none => .none
  | some k => .int (k : Nat)
def dRes : Res → PyData
  | .lot x => .list [dLot x]
  | .text r p => .tuple [.str "text", .int (r : Nat), .int (p : Nat)]
  | .bad p k => .tuple [.str "lot", .str (partS p), dNum k]
section
variable {K : PySem.W.Frag} {H : Hp}
theorem dp_vN : ∀ t : List Nat, DpAll K H (vN t) (t.map fun n : Nat => .int (n : Int))
  | [] => .nil
  | n :: t => .cons (.int _) (dp_vN t)
theorem dp_map {α : Type} {R : V → α → Prop} {f : α → PyData} {vs : List V} {xs : List α} (p : Paired R vs xs) (h : ∀ v x, R v x → Dp K H v (f x)) : DpAll K H vs (xs.map f) := by
  induction p with
  | nil => exact .nil
  | cons r _ ih => exact .cons (h _ _ r) ih
theorem dp_tn {v : V} {t : List Nat} (h : IsTurn H v t) : Dp K H v (dN t) := by
  obtain ⟨a, rfl, e⟩ := h
  exact .tup (SqT.of e) (dp_vN t)
theorem dp_sh {v : V} {s : Shot} (h : IsShot H v s) : Dp K H v (dSh s) := by
  obtain ⟨a, tv, rfl, e, ht⟩ := h
  exact .tup (SqT.of e) (.cons (dp_tn ht) (.cons (.str _) .nil))
theorem dp_en {v : V} {s : Entry} (h : IsEntry H v s) : Dp K H v (dEntry s) := by
  obtain ⟨a, tv, rfl, e, ht⟩ := h
  exact .tup (SqT.of e) (.cons (.str _) (.cons (dp_tn ht) (.cons (.str _) .nil)))
theorem dp_pr {v : V} {s : List Entry} (h : IsProg H v s) : Dp K H v (dProg s) := by
  obtain ⟨a, vs, rfl, e, ht⟩ := h
  exact .tup (SqT.of e) (dp_map ht fun _ _ q => dp_en q)
theorem dp_lot {v : V} {x : Lot} (h : IsLot H v x) : Dp K H v (dLot x) := by
  obtain ⟨a, b, c, ss, ps, rfl, e1, e2, p1, e3, p2⟩ := h
  exact .tup (SqT.of e1) (.cons (.int _) (.cons (.tup (SqT.of e2) (dp_map p1 fun _ _ q => dp_sh q)) (.cons (.tup (SqT.of e3) (dp_map p2 fun _ _ q => dp_pr q)) .nil)))
theorem dp_num (k : Option Nat) : Dp K H (numV k) (dNum k) := by
  cases k with
  | none => exact .non
  | some k => exact .int _
theorem dp_told {v : V} {r : Res} (h : IsTold H v r) : ∃ a, v = .ref a ∧ Dp K H v (dRes r) := by
  cases r with
  | lot x =>
    obtain ⟨a, w, rfl, e, hl⟩ := h
    exact ⟨a, rfl, .lst (SqL.of e) (.cons (dp_lot hl) .nil)⟩
  | text r p =>
    obtain ⟨a, rfl, e⟩ := h
    exact ⟨a, rfl, .tup (SqT.of e) (.cons (.str _) (.cons (.int _) (.cons (.int _) .nil)))⟩
  | bad p k =>
    obtain ⟨a, rfl, e⟩ := h
    exact ⟨a, rfl, .tup (SqT.of e) (.cons (.str _) (.cons (.str _) (.cons (dp_num k) .nil)))⟩
end
/-! sizes -/
theorem okA_map {α : Type} {f : α → PyData} : ∀ xs : List α, (∀ x ∈ xs, okD (f x) = true) → okA (xs.map f) = true
  | [], _ => rfl
  | x :: xs, h => by
    show (okD (f x) && okA (xs.map f)) = true
    rw [h x (by simp), okA_map xs fun y hy => h y (by simp [hy])]
    rfl
theorem szA_map {α : Type} {f : α → PyData} {n : Nat} : ∀ xs : List α, (∀ x ∈ xs, szD (f x) ≤ n) → szA (xs.map f) ≤ xs.length * (n + 2)
  | [], _ => Nat.zero_le _
  | x :: xs, h => by
    have h1 := h x (by simp)
    have h2 := szA_map xs fun y hy => h y (by simp [hy])
    show szD (f x) + 2 + szA (xs.map f) ≤ (xs.length + 1) * (n + 2)
    rw [Nat.succ_mul]
    omega
theorem nodA_map {α : Type} {f : α → PyData} (h : ∀ x, (f x).hasDict = false) : ∀ xs : List α, PyData.hasDictAll (xs.map f) = false
  | [] => rfl
  | x :: xs => by
    show ((f x).hasDict || PyData.hasDictAll (xs.map f)) = false
    rw [h x, nodA_map h xs]
    rfl
theorem depA_map {α : Type} {f : α → PyData} {n : Nat} (h : ∀ x, (f x).depth ≤ n) : ∀ xs : List α, PyData.depthAll (xs.map f) ≤ n
  | [] => Nat.zero_le _
  | x :: xs => by
    show max (f x).depth (PyData.depthAll (xs.map f)) ≤ n
    exact Nat.max_le.mpr ⟨h x, depA_map h xs⟩
theorem nod_N (t : List Nat) : (dN t).hasDict = false := nodA_map (fun _ => rfl) t
theorem dep_N (t : List Nat) : (dN t).depth ≤ 1 := Nat.succ_le_succ (depA_map (n := 0) (fun _ => Nat.le_refl _) t)
theorem nod_shot (s : Shot) : (dSh s).hasDict = false := by
  show ((dN s.1).hasDict || (false || false)) = false
  rw [nod_N]
  rfl
theorem nod_entry (s : Entry) : (dEntry s).hasDict = false := by
  show (false || ((dN s.2.1).hasDict || (false || false))) = false
  rw [nod_N]
  rfl
theorem nod_prog (p : List Entry) : (dProg p).hasDict = false := nodA_map nod_entry p
theorem nod_lot (x : Lot) : (dLot x).hasDict = false := by
  show (false || (PyData.hasDictAll (x.shots.map dSh) || (PyData.hasDictAll (x.progs.map dProg) || false))) = false
  rw [nodA_map nod_shot, nodA_map nod_prog]
  rfl
theorem nod_res (r : Res) : (dRes r).hasDict = false := by
  cases r with
  | lot x =>
    show ((dLot x).hasDict || false) = false
    rw [nod_lot]
    rfl
  | text r p => rfl
  | bad p k =>
    cases k with
    | none => rfl
    | some k => rfl
theorem dep_shot (s : Shot) : (dSh s).depth ≤ 2 := by
  have := dep_N s.1
  show max (dN s.1).depth (max 0 0) + 1 ≤ 2
  omega
theorem dep_entry (s : Entry) : (dEntry s).depth ≤ 2 := by
  have := dep_N s.2.1
  show max 0 (max (dN s.2.1).depth (max 0 0)) + 1 ≤ 2
  omega
theorem dep_prog (p : List Entry) : (dProg p).depth ≤ 3 := Nat.succ_le_succ (depA_map dep_entry p)
theorem dep_lot (x : Lot) : (dLot x).depth ≤ 5 := by
  have h1 := depA_map dep_shot x.shots
  have h2 := depA_map dep_prog x.progs
  show max 0 (max (PyData.depthAll (x.shots.map dSh) + 1) (max (PyData.depthAll (x.progs.map dProg) + 1) 0)) + 1 ≤ 5
  omega
theorem dep_res (r : Res) : (dRes r).depth ≤ 6 := by
  cases r with
  | lot x =>
    have := dep_lot x
    show max (dLot x).depth 0 + 1 ≤ 6
    omega
  | text r p => exact (by decide : 1 ≤ 6)
  | bad p k =>
    cases k with
    | none => exact (by decide : 1 ≤ 6)
    | some k => exact (by decide : 1 ≤ 6)
theorem ok_N {t : List Nat} (h : FineT t) : okD (dN t) = true ∧ szD (dN t) ≤ 107 := by
  refine ⟨okA_map t fun c hc => ?_, ?_⟩
  · have := h.c c hc
    show decide (((c : Nat) : Int).natAbs < 1000000000) = true
    exact decide_eq_true (by omega)
  · have := szA_map (f := fun n : Nat => PyData.int (n : Int)) (n := 11) t fun _ _ => Nat.le_refl _
    have := h.n
    show 3 + szA (t.map fun n : Nat => PyData.int (n : Int)) ≤ 107
    omega
theorem let_lt : ∀ c ∈ LET, c < 200 := by decide
theorem ok_M {m : List Nat} (h : FineM m) : okD (.str (S m)) = true ∧ szD (.str (S m)) ≤ 82 := by
  refine ⟨List.all_eq_true.mpr fun c hc => ?_, ?_⟩
  · have hl : c ∈ LET := h.c c hc
    have : c < 200 := let_lt c hl
    exact decide_eq_true (by omega)
  · have := h.n
    show 10 * (S m).length + 2 ≤ 82
    rw [S_len]
    omega
theorem ok_shot {s : Shot} (h : FineS s) : okD (dSh s) = true ∧ szD (dSh s) ≤ 196 := by
  obtain ⟨a1, a2⟩ := ok_N h.a
  obtain ⟨b1, b2⟩ := ok_M h.b
  refine ⟨?_, ?_⟩
  · show (okD (dN s.1) && (okD (.str (S s.2)) && true)) = true
    rw [a1, b1]
    rfl
  · show 3 + (szD (dN s.1) + 2 + (szD (.str (S s.2)) + 2 + 0)) ≤ 196
    omega
theorem ok_entry {s : Entry} (h : FineE s) : okD (dEntry s) = true ∧ szD (dEntry s) ≤ 280 := by
  obtain ⟨a1, a2⟩ := ok_M h.a
  obtain ⟨b1, b2⟩ := ok_N h.b
  obtain ⟨c1, c2⟩ := ok_M h.c
  refine ⟨?_, ?_⟩
  · show (okD (.str (S s.1)) && (okD (dN s.2.1) && (okD (.str (S s.2.2)) && true))) = true
    rw [a1, b1, c1]
    rfl
  · show 3 + (szD (.str (S s.1)) + 2 + (szD (dN s.2.1) + 2 + (szD (.str (S s.2.2)) + 2 + 0))) ≤ 280
    omega
theorem ok_prog {p : List Entry} (h : ∀ e ∈ p, FineE e) : okD (dProg p) = true ∧ szD (dProg p) ≤ 3 + p.length * 282 := by
  refine ⟨okA_map p fun e he => (ok_entry (h e he)).1, ?_⟩
  have := szA_map (f := dEntry) (n := 280) p fun e he => (ok_entry (h e he)).2
  show 3 + szA (p.map dEntry) ≤ _
  omega
theorem ok_progs : ∀ ps : List (List Entry), (∀ p ∈ ps, ∀ e ∈ p, FineE e) → okA (ps.map dProg) = true ∧ szA (ps.map dProg) ≤ 5 * ps.length + 282 * (ps.map List.length).sum
  | [], _ => ⟨rfl, Nat.zero_le _⟩
  | p :: ps, h => by
    obtain ⟨a1, a2⟩ := ok_prog (h p (by simp))
    obtain ⟨b1, b2⟩ := ok_progs ps fun q hq => h q (by simp [hq])
    refine ⟨?_, ?_⟩
    · show (okD (dProg p) && okA (ps.map dProg)) = true
      rw [a1, b1]
      rfl
    · show szD (dProg p) + 2 + szA (ps.map dProg) ≤ _
      simp only [List.length_cons, List.map_cons, List.sum_cons]
      omega
theorem ok_lot {n : Nat} {x : Lot} (f : FineL n x) : okD (dLot x) = true ∧ szD (dLot x) ≤ 100 + 300 * n := by
  obtain ⟨a1, a2⟩ := ok_progs x.progs f.p
  have b1 := okA_map (f := dSh) x.shots fun s hs => (ok_shot (f.sh s hs)).1
  have b2 := szA_map (f := dSh) (n := 196) x.shots fun s hs => (ok_shot (f.sh s hs)).2
  have hn := f.n
  have hc := f.c
  unfold szL at hn
  refine ⟨?_, ?_⟩
  · show (decide (((x.corners : Nat) : Int).natAbs < 1000000000) && (okA (x.shots.map dSh) && (okA (x.progs.map dProg) && true))) = true
    rw [a1, b1, decide_eq_true (by omega)]
    rfl
  · show 3 + (11 + 2 + (3 + szA (x.shots.map dSh) + 2 + (3 + szA (x.progs.map dProg) + 2 + 0))) ≤ _
    omega
theorem ok_res {l : List Nat} (h : l.length ≤ 50000) : okD (dRes (readN l)) = true ∧ szD (dRes (readN l)) ≤ 15100000 := by
  unfold readN
  cases e : told l with
  | error q =>
    obtain ⟨r, p⟩ := q
    obtain ⟨h1, h2⟩ := told_err e
    refine ⟨?_, ?_⟩
    · show (okD (.str "text") && (decide (((r : Nat) : Int).natAbs < 1000000000) && (decide (((p : Nat) : Int).natAbs < 1000000000) && true))) = true
      rw [decide_eq_true (show ((r : Nat) : Int).natAbs < 1000000000 by omega), decide_eq_true (show ((p : Nat) : Int).natAbs < 1000000000 by omega)]
      decide
    · show szD (.tuple [.str "text", .int (r : Nat), .int (p : Nat)]) ≤ _
      exact (by decide : 3 + (10 * ("text" : Str).length + 2 + 2 + (11 + 2 + (11 + 2 + 0))) ≤ 15100000)
  | ok x =>
    have f := told_fine e
    show okD (dRes (lotOr x)) = true ∧ szD (dRes (lotOr x)) ≤ 15100000
    unfold lotOr
    cases e2 : notLot x with
    | none =>
      obtain ⟨a1, a2⟩ := ok_lot f
      refine ⟨?_, ?_⟩
      · show (okD (dLot x) && true) = true
        rw [a1]
        rfl
      · show 2 + (szD (dLot x) + 2 + 0) ≤ _
        omega
    | some q =>
      obtain ⟨p, k⟩ := q
      have hp : okD (.str (partS p)) = true ∧ szD (.str (partS p)) ≤ 200 := by
        cases p <;> decide
      cases k with
      | none =>
        refine ⟨?_, ?_⟩
        · show (okD (.str "lot") && (okD (.str (partS p)) && (true && true))) = true
          rw [hp.1]
          decide
        · show 3 + (10 * ("lot" : Str).length + 2 + 2 + (szD (.str (partS p)) + 2 + (4 + 2 + 0))) ≤ _
          have z : ("lot" : Str).length = 3 := by decide
          rw [z]
          omega
      | some k =>
        have hk := notLot_lt e2
        have hn := f.n
        unfold szL at hn
        refine ⟨?_, ?_⟩
        · show (okD (.str "lot") && (okD (.str (partS p)) && (decide (((k : Nat) : Int).natAbs < 1000000000) && true))) = true
          rw [hp.1, decide_eq_true (show ((k : Nat) : Int).natAbs < 1000000000 by omega)]
          decide
        · show 3 + (10 * ("lot" : Str).length + 2 + 2 + (szD (.str (partS p)) + 2 + (11 + 2 + 0))) ≤ _
          have z : ("lot" : Str).length = 3 := by decide
          rw [z]
          omega
end K5
/-! ### told twice alike -/
namespace K5
open PySem PySem.Spec PyProof.Rows L2 LamX
theorem u60 {k : Nat} {A : Around} (r : Room k A) : A.units + 60 < cLine := by
  have := r.un
  omega
def rElt : Expr := match ((defBody s__law_right)[1]? : Option Stmt) with
  | some (Stmt.Return (some (Expr.Compare (Expr.ListComp e _ _ _) _ _ _)) _) => e
  | _ => .Constant .none 0 ⟨0, 0, 0, 0⟩
def rSc : Scope := match ((defBody s__law_right)[1]? : Option Stmt) with
  | some (Stmt.Return (some (Expr.Compare (Expr.ListComp _ _ sc _) _ _ _)) _) => sc
  | _ => defScope s__law_right
section
variable {P : Program} {w : World} {K : PySem.W.Frag} {mg : Str → Option Value} {base : Heap}
abbrev rX (P : Program) (w : World) (K : PySem.W.Frag) (mg : Str → Option Value) (base : Heap) (A : Around) (outer : List Env) (s : Shared) (H : Hp) (E : XK) : Cx := cxOf (CZ P w) P w K mg base n__law_right d__law_right.qual d__law_right.scope (He.ga K "_law_right") (.ref (He.cT K ("_law_right", none)).1) A outer s H E
def rRep (K : PySem.W.Frag) : List V → Hp → VK → Prop := fun xs H Q => ∃ a d, xs = [.ref a] ∧ Shows K H (.ref a) d ∧ d.showable = true ∧ d.depth ≤ 50 ∧ d.shown.length ≤ sizeLine ∧ Q (.str d.shown) H
theorem right_elt (TT : TxtT P w K mg base) {A : Around} {outer : List Env} {s : Shared} {H : Hp} {E : XK} (hgd : A.guards = some []) (hr : Room 11 (rX P w K mg base A outer s H E).A) (s1 : Shared) (H1 : Hp) (C1 : Addr) (cl1 : List (Str × Addr)) (fp1 : List Addr) :
    PE ((rX P w K mg base A outer s H E).blk s1 H1 rSc (compEnvC rSc cl1 C1 (rX P w K mg base A outer s H E).env) fp1) rElt (tCB (rRep K) (tCons (tLam (Tt K) (TSaid K) fun E => tCall (sp_read_lot K) [] E (tCons (tVar 0) tNil)) tNil)) := by
  have TX := TT.x
  have T := TT.x.t
  have e : rElt = rElt := rfl
  conv at e => rhs; whnf
  rw [e]
  refine pe_callB (call_reprD hgd (u60 hr)) rfl (T.free "repr" (by decide +kernel)) boot_repr (pa_cons ?_ pa_nil)
  refine pe_said (k := 8) TX rfl (hr.mono (by decide)) ?_ ?_
  · refine makes0 (c := (He.cT K ("_law_right", none)).1) (P := (He.cT K ("_law_right", none)).2) (TT.tb _ (by decide +kernel)) rfl (Tt_one TT (q := ("_law_right", none)) (by decide +kernel)).1 (Tt_one TT (q := ("_law_right", none)) (by decide +kernel)).2 (lamP_by ?_) rfl (fun _ _ _ _ _ => rfl)
    kernel_rfl
  · intro A' outer' s' H' E' f c' hr'
    refine pe_g (g_read_lot T) (hr'.mono (by decide)) rfl passLam (pa_cons (pe_var (i := 0) rfl (.inr (.inr rfl))) pa_nil)
theorem ext_no {H H' : Hp} {b : Addr} (e : ExtN H H') (n : H' b = none) {o : HO} (h : H b = some o) (ho : ∀ ps, o ≠ .tbl ps) : False := by
  rw [e b o h ho] at n
  cases n
theorem tabs_lst {T : List (Addr × Str)} {H : Hp} {D : Addr} {xs ys : List V} (t : Tabs T H) (e : H D = some (.lst xs)) : Tabs T (upd H D (.lst ys)) := fun p hp => by
  obtain ⟨ps, h1, h2, h3⟩ := t p hp
  refine ⟨ps, by rw [upd_ne (fun z => by rw [z, e] at h1; cases h1)]; exact h1, h2, fun pos cv hc => ?_⟩
  obtain ⟨c, e1, e2⟩ := h3 pos cv hc
  exact ⟨c, e1, by rw [upd_ne (fun z => by rw [z, e] at e2; unfold CodeO at e2; cases e2)]; exact e2⟩
def BothTell (K : PySem.W.Frag) (H : Hp) (v : V) (d : PyData) : Prop :=
  (∀ H2, ExtN H H2 → Tabs (Tt K) H2 → ∀ (Q' : VK) (E' : XK), (∀ H' a, ExtN H2 H' → Tabs (Tt K) H' → Shows K H' (.ref a) d → Q' (.ref a) H') → sp__law_lot_told K [v] H2 Q' E') ∧
  (∀ H2, ExtN H H2 → Tabs (Tt K) H2 → ∀ Qr : VK, (∀ H' a, ExtN H2 H' → Tabs (Tt K) H' → Shows K H' (.ref a) d → Qr (.ref a) H') → TSaid K (fun E H' Q' => sp_read_lot K [v] H' Q' E) H2 Qr)
theorem told_tell {H : Hp} {l : List Nat} (h : l.length ≤ 50000) : BothTell K H (.str (S l)) (dRes (readN l)) := by
  have hB : l.length < BIG := Nat.lt_of_le_of_lt h (by decide)
  refine ⟨fun H2 x2 t2 Q' E' k => ⟨_, rfl, t2, .inl ⟨l, rfl, hB, fun H' u x' t' it => ?_⟩⟩, fun H2 x2 t2 Qr k F nF Q' kQ => ⟨_, rfl, .inl ⟨l, rfl, hB, fun x hx H' u s' il => ?_, fun r p hx H' dd s' nd ed => ?_, fun p kk hx H' dd s' nd ed => ?_⟩⟩⟩
  · obtain ⟨a, rfl, dp⟩ := dp_told (K := K) it
    exact k H' a x' t' (shows_dp dp (nod_res _))
  · have sm : Same H2 (upd H' F (.lst [u])) := ((Same.new nF).trans s').put nF
    refine kQ u H' (s' F _ upd_same) (k _ F (ExtN.of sm) (t2.ext sm) (shows_dp ?_ (nod_res _)))
    rw [hx]
    exact .lst (SqL.of upd_same) (.cons (dp_lot (il.up (TupS.lst (s' F _ upd_same)))) .nil)
  · refine ⟨dd, rfl, .inr (.inl ⟨.int (r : Nat), .int (p : Nat), rfl, ed, fun H3 t s3 et => ?_⟩)⟩
    have sm : Same H2 H3 := ((Same.new nF).trans s').trans s3
    refine k H3 t (ExtN.of sm) (t2.ext sm) (shows_dp ?_ (nod_res _))
    rw [hx]
    obtain ⟨a, e, dp⟩ := dp_told (K := K) (show IsTold H3 (.ref t) (.text r p) from ⟨t, rfl, et⟩)
    exact dp
  · refine ⟨dd, rfl, .inl ⟨.str (partS p), numV kk, rfl, ed, fun H3 t s3 et => ?_⟩⟩
    have sm : Same H2 H3 := ((Same.new nF).trans s').trans s3
    refine k H3 t (ExtN.of sm) (t2.ext sm) (shows_dp ?_ (nod_res _))
    rw [hx]
    obtain ⟨a, e, dp⟩ := dp_told (K := K) (show IsTold H3 (.ref t) (.bad p kk) from ⟨t, rfl, et⟩)
    exact dp
def dNo : PyData := .tuple [.str "text", .int (-1), .int (-1)]
theorem no_tell {H : Hp} {v : V} (h : ∀ H', ExtN H H' → NoStr K H' v) : BothTell K H v dNo := by
  have dp : ∀ (H3 : Hp) (t : Addr), H3 t = some (.tup [.str "text", .int (-1), .int (-1)]) → Dp K H3 (.ref t) dNo := fun H3 t e => .tup (SqT.of e) (.cons (.str _) (.cons (.int _) (.cons (.int _) .nil)))
  refine ⟨fun H2 x2 t2 Q' E' k => ⟨_, rfl, t2, .inr ⟨h H2 x2, fun H' a x' t' e => k H' a x' t' (shows_dp (dp H' a e) rfl)⟩⟩, fun H2 x2 t2 Qr k F nF Q' kQ => ⟨_, rfl, .inr ⟨h _ (x2.trans (ExtN.of (Same.new nF))), fun H' dd s' nd ed => ?_⟩⟩⟩
  refine ⟨dd, rfl, .inr (.inl ⟨.int (-1), .int (-1), rfl, ed, fun H3 t s3 et => ?_⟩)⟩
  have sm : Same H2 H3 := ((Same.new nF).trans s').trans s3
  exact k H3 t (ExtN.of sm) (t2.ext sm) (shows_dp (dp H3 t et) rfl)
theorem no_ok : okD dNo = true ∧ szD dNo ≤ 15100000 := ⟨by decide, by decide⟩
def sp__law_right (K : PySem.W.Frag) : Sp := fun vs H Q _ => ∃ v, vs = [v] ∧ Tabs (Tt K) H ∧ (∃ d, okD d = true ∧ szD d ≤ 15100000 ∧ d.depth ≤ 6 ∧ BothTell K H v d) ∧ ∀ H', ExtN H H' → Tabs (Tt K) H' → Q (.bl true) H'
theorem g__law_right (TT : TxtT P w K mg base) : GdG P w K mg base 12 "_law_right" ["_law_thing"] (sp__law_right K) := by
  have TX := TT.x
  have T := TT.x.t
  refine gdG_of (d := d__law_right) T (by decide +kernel) (by simp [fn]) rfl (fun _ _ _ _ _ _ us hl => match us, hl with | [_], _ => rfl) sc__law_right (fun vs H Q E h => ?_) fun A outer s H vs Q E hgd hr h => ?_
  · obtain ⟨v, rfl, hT, ⟨d, ok, szd, dep, tell, say⟩, fin⟩ := h
    rfl
  · obtain ⟨v, rfl, hT, ⟨d, ok, szd, dep, tell, say⟩, fin⟩ := h
    refine ⟨_, (pss_cons (ps_set (i := 1) sc__law_right.nd rfl (.inl rfl) (pe_callB (call_reprD hgd (u60 hr)) rfl (T.free "repr" (by decide +kernel)) boot_repr (pa_cons (pe_g (g__law_lot_told TT) (hr.mono (by decide)) rfl passL (pa_cons (pv 0) pa_nil)) pa_nil)))
      (pss_one (ps_ret (pe_cmpR (op_eqV hr.units) (pe_lc (own := [("_law_turn_here", 2)]) (g := gName 2) (tt := tYes) rfl sc__law_right.nd (pi_range1 rfl (T.free "range" (by decide +kernel)) (pa_cons pe_int pa_nil)) (blkOk_by (N := n__law_right) (sc := defScope s__law_right) (by decide +kernel)) (fun _ _ _ _ _ => pg_name (i := 2) sc__law_right.nd rfl (.inl rfl)) (fun _ _ _ _ _ => pts_nil) (fun s1 H1 C1 cl1 fp1 => right_elt TT hgd hr s1 H1 C1 cl1 fp1)) (pe_op op_rep (pe_lst (pa_cons (pv 1) pa_nil)) pe_int) (nomark _))))), ?_⟩
    have hs := shown_le d ok
    have hz : d.shown.length ≤ sizeLine := Nat.le_trans (Nat.le_trans hs.1 szd) (by decide)
    refine ⟨_, rfl, tell H (ExtN.refl H) hT _ (fun _ _ _ => False) fun H1 a x1 t1 sh => ⟨a, d, rfl, sh, hs.2, Nat.le_trans dep (by decide), hz, ?_⟩⟩
    refine ⟨2, rfl, by omega, by omega, fun D nD => ?_⟩
    refine lc_it (walk_range (lo := 0) (n := 2)) (fun i H2 => ExtN H1 H2 ∧ Tabs (Tt K) H2 ∧ H2 D = some (.lst (List.replicate i (.str d.shown)))) ⟨ExtN.of (Same.new nD), t1.ext (Same.new nD), upd_same⟩ (fun _ _ _ _ => trivial) ?_ ?_
    · rintro i v2 H2 H3 hi ⟨x2, t2, e2⟩ ⟨rfl, rfl⟩
      refine ⟨rfl, t2, fun H4 x4 t4 F nF Q' kQ => ⟨_, rfl, say H4 ((x1.trans x2).trans x4) t4 _ (fun H5 b x5 t5 sh5 => ?_) F nF Q' kQ⟩⟩
      have eD : H5 D = some (.lst (List.replicate i (.str d.shown))) := x5 D _ (x4 D _ e2 (fun ps z => by cases z)) (fun ps z => by cases z)
      have xT : ∀ {o : HO}, ExtN H1 (upd H5 D o) := fun {o} c u e n => by
        rw [upd_ne (ne_of_none e nD)]
        exact x5 c u (x4 c u (x2 c u e n) n) n
      refine ⟨b, d, rfl, sh5, hs.2, Nat.le_trans dep (by decide), hz, _, eD, by rw [List.length_replicate]; exact Nat.lt_trans hi (by decide), xT, ?_, ?_⟩
      · exact tabs_lst t5 eD
      · rw [upd_same, List.replicate_succ']
    · rintro H2 ⟨x2, t2, e2⟩
      refine ⟨_, rfl, zl1, fun L nL => ?_⟩
      refine ⟨L, 2, _, rfl, rfl, upd_same, by omega, by omega, (by decide : 1 * 2 ≤ sizeLine), fun M nM => ?_⟩
      have s4 := (Same.new nL (o := .lst [V.str d.shown])).trans (Same.new nM (o := .lst (List.replicate (2 : Int).toNat [V.str d.shown]).flatten))
      exact ⟨1, by decide, .inl ⟨D, M, _, _, rfl, rfl, SqL.of (s4 D _ e2), SqL.of upd_same, .cons (.inl ⟨rfl, rfl⟩) (.cons (.inl ⟨rfl, rfl⟩) .nil)⟩, fin _ (x1.trans (x2.trans (ExtN.of s4))) (t2.ext s4)⟩
end
end K5
/-! ### a text with one thing otherwise -/
namespace K5
open PySem PySem.Spec PyProof.Rows L2 LamX
def SM : List Str := ["program", "shot ", "\nprogram", "\nshot 10 a", "\na 01 b", "\n- 10 -", "corners 3", " ", "12345678", "123456789", "\n", "abcdefghi", "-", "\na 012 -", "\nshot 210 -", "program x", "\nshot 01 shot", "0", "\nprogram 01 a"]
def SGN : List Nat := TL.tl "ab01 -\npsc9A"
theorem spl_sum : ∀ (l acc : List Nat), ((TL.spl [10] 0 acc l).map List.length).sum + (TL.spl [10] 0 acc l).length = acc.length + l.length + 1
  | [], acc => by
    rw [TL.spl_nil]
    simp
  | c :: r, acc => by
    cases h : TL.pre [10] (c :: r) with
    | true =>
      rw [TL.spl_hit h]
      have q := spl_sum r []
      have q' : ((TL.spl [10] ([10].length - 1) [] r).map List.length).sum + (TL.spl [10] ([10].length - 1) [] r).length = 0 + r.length + 1 := q
      simp only [List.map_cons, List.sum_cons, List.length_cons] at q' ⊢
      omega
    | false =>
      rw [TL.spl_miss h]
      have q := spl_sum r (acc ++ [c])
      simp only [List.length_append, List.length_cons, List.length_nil] at q ⊢
      omega
theorem lines_sum (l : List Nat) : ((linesOf l).map List.length).sum + (linesOf l).length = l.length + 1 := by
  have q := spl_sum l []
  unfold linesOf
  simpa using q
theorem sum_cut (ls : List (List Nat)) (f : Nat) : ((ls.drop f ++ ls.take f).map List.length).sum = (ls.map List.length).sum := by
  have e : ls.take f ++ ls.drop f = ls := List.take_append_drop f ls
  have q : ((ls.take f ++ ls.drop f).map List.length).sum = (ls.map List.length).sum := by rw [e]
  rw [List.map_append, List.sum_append] at q ⊢
  omega
theorem sum_out (ls : List (List Nat)) (f : Nat) : ((ls.take f ++ ls.drop (f + 1)).map List.length).sum ≤ (ls.map List.length).sum := by
  have e : ls.take f ++ ls.drop f = ls := List.take_append_drop f ls
  have q : ((ls.take f ++ ls.drop f).map List.length).sum = (ls.map List.length).sum := by rw [e]
  have d : ls.drop (f + 1) = (ls.drop f).drop 1 := by rw [List.drop_drop]
  have t : ∀ xs : List (List Nat), ((xs.drop 1).map List.length).sum ≤ (xs.map List.length).sum := fun xs => by
    cases xs with
    | nil => exact Nat.le_refl _
    | cons a r =>
      simp only [List.drop_succ_cons, List.drop_zero, List.map_cons, List.sum_cons]
      omega
  have t' := t (ls.drop f)
  rw [List.map_append, List.sum_append] at q ⊢
  rw [d]
  omega
theorem cutV_from (xs : List V) {k : Nat} (h : k ≤ xs.length) : cutV xs (some (k : Int)) none = xs.drop k := by
  unfold cutV
  rw [HT.sIx_nat, HT.sIx_none, Nat.min_eq_left h, List.take_of_length_le]
  rw [List.length_drop]
  exact Nat.le_refl _
theorem cutV_to (xs : List V) {k : Nat} (h : k ≤ xs.length) : cutV xs none (some (k : Int)) = xs.take k := by
  unfold cutV
  rw [HT.sIx_nat, HT.sIx_none, Nat.min_eq_left h]
  simp
theorem cutS_to {l : List Nat} {p : Nat} (h : p ≤ l.length) : cutS (S l) none (some (p : Int)) = S (l.take p) := by
  unfold cutS
  rw [HT.sIx_nat, HT.sIx_none, S_len, Nat.min_eq_left h]
  rfl
theorem cutS_from (l : List Nat) (p : Nat) : (cutS (S l) (some (p : Int)) none).length ≤ l.length - p := by
  unfold cutS
  rw [HT.sIx_nat, HT.sIx_none, S_len]
  show (((l.drop (min p l.length)).take (l.length - min p l.length)).toArray).size ≤ _
  rw [List.size_toArray, List.length_take, List.length_drop]
  omega
theorem SM_len : ∀ p ∈ SM.map TL.tl, p.length ≤ 13 := by decide +kernel
theorem join_len {ls : List (List Nat)} {l : List Nat} (h : (ls.map List.length).sum ≤ ((linesOf l).map List.length).sum) (h2 : ls.length ≤ (linesOf l).length) :
    (((ls.map S).map (·.length)).sum + ls.length * (Str.ofString "\n").length ≤ l.length + 1) ∧ (TL.joinL [10] ls).length ≤ l.length + 1 := by
  have q := lines_sum l
  have n : (Str.ofString "\n").length = 1 := by decide
  have j := joinL_len [10] ls
  have o : [10].length = 1 := rfl
  rw [o] at j
  rw [sum_S, n]
  omega
section
variable {P : Program} {w : World} {K : PySem.W.Frag} {mg : Str → Option Value} {base : Heap}
def sp__law_bent : Sp := fun vs H Q _ => ∃ (z : StA) (l : List Nat) (n : Nat), vs = [.ref z.d, .str (S l)] ∧ Dr z H n ∧ n ≤ 500000 ∧ l.length ≤ 10000 ∧ ∀ H' l' n', Sx z H H' → Dr z H' n' → n' ≤ n + 10 → l'.length ≤ l.length + 20 → Q (.str (S l')) H'
theorem g__law_bent (T : Txt P w K mg base) : Gd P w K mg base 5 "_law_bent" ["_law_state", "_law_text"] (sp__law_bent) := by
  refine gd_of (d := d__law_bent) T (by decide +kernel) (by simp [fn]) rfl (fun _ _ _ _ _ _ us hl => match us, hl with | [_, _], _ => rfl) fun fd F => F.ok sc__law_bent (fun vs H Q E h => ?_) fun cdv A outer s H vs Q E hr h => ?_
  · obtain ⟨z, l, n, rfl, D, hn, hl, fin⟩ := h
    rfl
  · obtain ⟨z, l, n, rfl, D, hn, hl, fin⟩ := h
    refine ⟨_, (pss_cons (ps_par (i := 2) (j := 3) rfl sc__law_bent.nd rfl rfl (by decide) rfl rfl (pa_cons (pe_g (g__law_draw T) (hr.mono (by decide)) rfl passL (pa_cons (pv 0) (pa_cons (pe_op op_add (pe_callB call_len_str rfl (T.free "len" (by decide +kernel)) boot_len (pa_cons (pv 1) pa_nil)) pe_int) pa_nil))) (pa_cons (pe_g (g__law_draw T) (hr.mono (by decide)) rfl passL (pa_cons (pv 0) (pa_cons pe_int pa_nil))) pa_nil)) rfl)
      (pss_cons (ps_set (i := 4) sc__law_bent.nd rfl (.inl rfl) (pe_g (g__law_of T) (hr.mono (by decide)) rfl passL (pa_cons (pv 0) (pa_cons pe_str pa_nil))))
      (pss_cons (ps_set (i := 5) sc__law_bent.nd rfl (.inl rfl) (pe_lst (pa_cons pe_str (pa_cons pe_str (pa_cons pe_str (pa_cons pe_str (pa_cons pe_str (pa_cons pe_str (pa_cons pe_str (pa_cons pe_str (pa_cons pe_str pa_nil)))))))))))
      (pss_cons (ps_set (i := 5) sc__law_bent.nd rfl (.inl rfl) (pe_op op_cat (pv 5) (pe_lst (pa_cons pe_str (pa_cons pe_str (pa_cons pe_str (pa_cons pe_str (pa_cons pe_str (pa_cons pe_str (pa_cons pe_str (pa_cons pe_str pa_nil)))))))))))
      (pss_cons (ps_set (i := 5) sc__law_bent.nd rfl (.inl rfl) (pe_op op_cat (pv 5) (pe_lst (pa_cons pe_str (pa_cons pe_str pa_nil)))))
      (pss_cons (ps_if (pt_cmpR op_lt (pv 3) pe_int (nomark _)) (pss_one (ps_ret (pe_op op_add_str (pe_op op_add_str (pe_slice sl_str (pv 1) po_none (po_some (pv 2))) (pe_op op_srep (pv 4) (pe_callTy call_int1 rfl (T.free "int" (by decide +kernel)) boot_int (pa_cons (pe_cmpR op_lt (pv 3) pe_int (nomark _)) pa_nil)))) (pe_slice sl_str (pv 1) (po_some (pe_op op_add (pv 2) (pe_callTy call_int1 rfl (T.free "int" (by decide +kernel)) boot_int (pa_cons (pe_cmpR op_gt (pv 3) pe_int (nomark _)) pa_nil)))) po_none)))) pss_nil)
      (pss_cons (ps_if (pt_cmpR op_lt (pv 3) pe_int (nomark _)) (pss_one (ps_ret (pe_op op_add_str (pe_op op_add_str (pe_slice sl_str (pv 1) po_none (po_some (pv 2))) (pe_g (g__law_of T) (hr.mono (by decide)) rfl passL (pa_cons (pv 0) (pa_cons (pv 5) pa_nil)))) (pe_slice sl_str (pv 1) (po_some (pv 2)) po_none)))) pss_nil)
      (pss_cons (ps_if (pt_cmpR op_eq (pv 3) pe_int (nomark _)) (pss_one (ps_ret (pe_slice sl_str (pv 1) po_none (po_some (pv 2))))) pss_nil)
      (pss_cons (ps_if (pt_cmpR op_eq (pv 3) pe_int (nomark _)) (pss_one (ps_ret (pe_op op_add_str (pv 1) (pe_g (g__law_of T) (hr.mono (by decide)) rfl passL (pa_cons (pv 0) (pa_cons (pv 5) pa_nil)))))) pss_nil)
      (pss_cons (ps_set (i := 6) sc__law_bent.nd rfl (.inl rfl) (pe_split (pv 1) pe_str))
      (pss_cons (ps_set (i := 7) sc__law_bent.nd rfl (.inl rfl) (pe_g (g__law_draw T) (hr.mono (by decide)) rfl passL (pa_cons (pv 0) (pa_cons (pe_callB call_len_seq rfl (T.free "len" (by decide +kernel)) boot_len (pa_cons (pv 6) pa_nil)) pa_nil))))
      (pss_cons (ps_set (i := 6) sc__law_bent.nd rfl (.inl rfl) (pe_ifExp (pt_cmpR op_eq (pv 3) pe_int (nomark _)) (pe_op op_cat (pe_slice sl_list (pv 6) (po_some (pv 7)) po_none) (pe_slice sl_list (pv 6) po_none (po_some (pv 7)))) (pe_op op_cat (pe_slice sl_list (pv 6) po_none (po_some (pv 7))) (pe_slice sl_list (pv 6) (po_some (pe_op op_add (pv 7) pe_int)) po_none))))
      (pss_one (ps_ret (pe_join pe_str (pv 6)))))))))))))))), ?_⟩
    have hz : (S l).length ≤ sizeLine := by
      rw [S_len]
      exact Nat.le_trans hl (by decide)
    have e1 : (V.int (((S l).length : Int) + 1)) = V.int ((l.length + 1 : Nat) : Int) := by
      rw [S_len] <;> rfl
    refine ⟨_, rfl, _, rfl, S l, rfl, hz, _, _, rfl, rfl, z, n, l.length + 1, by rw [← e1] <;> rfl, by omega, by omega, D, by omega, fun H1 p s1 D1 hp => ?_⟩
    refine ⟨_, rfl, z, n + 1, 10, rfl, by decide, by decide, D1, by omega, fun H2 way s2 D2 hway => ?_⟩
    refine ⟨_, _, rfl, ?_⟩
    refine ⟨_, rfl, z, n + 1 + 1, .str (S SGN), SGN.map fun c => [c], rfl, .inl ⟨_, rfl, rfl⟩, by decide, by decide, D2, by omega, fun H3 sg s3 D3 hsg => ?_⟩
    refine ⟨by decide, fun a1 n1 => ?_⟩
    have q1 := Same.new n1 (o := .lst ((SM.take 9).map V.str))
    refine ⟨_, rfl, by decide, fun a2 n2 => ⟨_, _, _, _, rfl, rfl, (Same.new n2) _ _ upd_same, upd_same, by decide, fun a3 n3 => ?_⟩⟩
    refine ⟨_, rfl, by decide, fun a4 n4 => ⟨_, _, _, _, rfl, rfl, (Same.new n4) _ _ upd_same, upd_same, by decide, fun a5 n5 => ?_⟩⟩
    have q5 : Same H3 (upd (upd (upd (upd (upd H3 a1 (.lst [V.str "program", V.str "shot ", V.str "\nprogram", V.str "\nshot 10 a", V.str "\na 01 b", V.str "\n- 10 -", V.str "corners 3", V.str " ", V.str "12345678"])) a2 (.lst [V.str "123456789", V.str "\n", V.str "abcdefghi", V.str "-", V.str "\na 012 -", V.str "\nshot 210 -", V.str "program x", V.str "\nshot 01 shot"])) a3 (.lst ([V.str "program", V.str "shot ", V.str "\nprogram", V.str "\nshot 10 a", V.str "\na 01 b", V.str "\n- 10 -", V.str "corners 3", V.str " ", V.str "12345678"] ++ [V.str "123456789", V.str "\n", V.str "abcdefghi", V.str "-", V.str "\na 012 -", V.str "\nshot 210 -", V.str "program x", V.str "\nshot 01 shot"]))) a4 (.lst [V.str "0", V.str "\nprogram 01 a"])) a5 (.lst ([V.str "program", V.str "shot ", V.str "\nprogram", V.str "\nshot 10 a", V.str "\na 01 b", V.str "\n- 10 -", V.str "corners 3", V.str " ", V.str "12345678"] ++ [V.str "123456789", V.str "\n", V.str "abcdefghi", V.str "-", V.str "\na 012 -", V.str "\nshot 210 -", V.str "program x", V.str "\nshot 01 shot"] ++ [V.str "0", V.str "\nprogram 01 a"]))) := (((Same.new n1).trans (Same.new n2)).trans (Same.new n3)).trans ((Same.new n4).trans (Same.new n5))
    have e5 : (upd (upd (upd (upd (upd H3 a1 (.lst [V.str "program", V.str "shot ", V.str "\nprogram", V.str "\nshot 10 a", V.str "\na 01 b", V.str "\n- 10 -", V.str "corners 3", V.str " ", V.str "12345678"])) a2 (.lst [V.str "123456789", V.str "\n", V.str "abcdefghi", V.str "-", V.str "\na 012 -", V.str "\nshot 210 -", V.str "program x", V.str "\nshot 01 shot"])) a3 (.lst ([V.str "program", V.str "shot ", V.str "\nprogram", V.str "\nshot 10 a", V.str "\na 01 b", V.str "\n- 10 -", V.str "corners 3", V.str " ", V.str "12345678"] ++ [V.str "123456789", V.str "\n", V.str "abcdefghi", V.str "-", V.str "\na 012 -", V.str "\nshot 210 -", V.str "program x", V.str "\nshot 01 shot"]))) a4 (.lst [V.str "0", V.str "\nprogram 01 a"])) a5 (.lst ([V.str "program", V.str "shot ", V.str "\nprogram", V.str "\nshot 10 a", V.str "\na 01 b", V.str "\n- 10 -", V.str "corners 3", V.str " ", V.str "12345678"] ++ [V.str "123456789", V.str "\n", V.str "abcdefghi", V.str "-", V.str "\na 012 -", V.str "\nshot 210 -", V.str "program x", V.str "\nshot 01 shot"] ++ [V.str "0", V.str "\nprogram 01 a"]))) a5 = some (.lst ((SM.map TL.tl).map fun p => V.str (S p))) := upd_same
    have n50 : H3 a5 = none := ((((Same.new n1).trans (Same.new n2)).trans (Same.new n3)).trans (Same.new n4)).free n5
    generalize upd (upd (upd (upd (upd H3 a1 (.lst [V.str "program", V.str "shot ", V.str "\nprogram", V.str "\nshot 10 a", V.str "\na 01 b", V.str "\n- 10 -", V.str "corners 3", V.str " ", V.str "12345678"])) a2 (.lst [V.str "123456789", V.str "\n", V.str "abcdefghi", V.str "-", V.str "\na 012 -", V.str "\nshot 210 -", V.str "program x", V.str "\nshot 01 shot"])) a3 (.lst ([V.str "program", V.str "shot ", V.str "\nprogram", V.str "\nshot 10 a", V.str "\na 01 b", V.str "\n- 10 -", V.str "corners 3", V.str " ", V.str "12345678"] ++ [V.str "123456789", V.str "\n", V.str "abcdefghi", V.str "-", V.str "\na 012 -", V.str "\nshot 210 -", V.str "program x", V.str "\nshot 01 shot"]))) a4 (.lst [V.str "0", V.str "\nprogram 01 a"])) a5 (.lst ([V.str "program", V.str "shot ", V.str "\nprogram", V.str "\nshot 10 a", V.str "\na 01 b", V.str "\n- 10 -", V.str "corners 3", V.str " ", V.str "12345678"] ++ [V.str "123456789", V.str "\n", V.str "abcdefghi", V.str "-", V.str "\na 012 -", V.str "\nshot 210 -", V.str "program x", V.str "\nshot 01 shot"] ++ [V.str "0", V.str "\nprogram 01 a"])) = H5 at q5 e5 ⊢
    clear n1 n2 n3 n4 n5
    obtain ⟨A1, A2⟩ := D3.new n50
    have D5 := D3.up q5
    have so : Some_ H5 z (.ref a5) (SM.map TL.tl) := .inr ⟨a5, rfl, A1, A2, e5⟩
    have w10 : way < 10 := hway
    have sg1 : sg.length = 1 := by
      obtain ⟨c, _, rfl⟩ := List.mem_map.mp hsg
      rfl
    have sx5 : Sx z H H5 := ((s1.trans s2).trans s3).trans (Sx.of q5)
    have cap : sizeLine = 16777216 := by decide
    have lz : (S l).length = l.length := S_len l
    have fin' : ∀ (H' : Hp) (n' : Nat) (x : Str), Sx z H H' → Dr z H' n' → n' ≤ n + 10 → x.length ≤ l.length + 20 → Q (.str x) H' := fun H' n' x sx d hn' hx => by
      rw [← S_tl x]
      exact fin H' (TL.tl x) n' sx d hn' (by rw [← TL.len_tl]; exact hx)
    have hp' : p ≤ l.length := by omega
    have c1 : (cutS (S l) none (some (p : Int))).length = p := by
      rw [cutS_to hp', S_len, List.length_take]
      omega
    have hz2 : (S l).length + 2 ≤ sizeLine := by omega
    have ieq : ∀ m : Nat, way ≠ m → decide (V.int (way : Int) = V.int ((m : Nat) : Int)) = false := fun m h => decide_eq_false fun z => by
      have := V.int.inj z
      omega
    by_cases w3 : way < 3
    · refine ⟨_, rfl, _, _, rfl, rfl, _, rfl, iteT' (decide_eq_true (by omega)) ?_⟩
      have rl : ∀ b : Bool, (S (repN (bN b) sg)).length ≤ 1 := fun b => by
        rw [S_len, repN_len, sg1]
        cases b <;> decide
      have r1 := rl (decide ((way : Int) < 2))
      have e2 : (p : Int) + (if decide ((way : Int) > 0) = true then (1 : Int) else 0) = ((p + bN (decide ((way : Int) > 0)) : Nat) : Int) := by
        rw [bN_int]
        omega
      have c2 : (cutS (S l) (some ((p : Int) + (if decide ((way : Int) > 0) = true then (1 : Int) else 0))) none).length ≤ l.length - p := by
        rw [e2]
        have := cutS_from l (p + bN (decide ((way : Int) > 0)))
        omega
      refine ⟨_, rfl, _, rfl, _, rfl, S l, rfl, hz, _, rfl, _, rfl, _, _, rfl, rfl, .inr ⟨_, rfl, sg, bN (decide ((way : Int) < 2)), rfl, congrArg V.int (bN_int _), ?_, ?_, ?_, ?_⟩⟩
      · cases decide ((way : Int) < 2) <;> decide
      · rw [sg1]
        decide
      · rw [sg1]
        cases decide ((way : Int) < 2) <;> decide
      · refine ⟨_, _, rfl, rfl, (show (cutS (S l) none (some (p : Int))).length + (S (repN (bN (decide ((way : Int) < 2))) sg)).length ≤ sizeLine by omega), ?_⟩
        refine ⟨_, rfl, _, rfl, _, rfl, _, _, rfl, rfl, .inr ⟨_, rfl, _, _, rfl, rfl, _, rfl, S l, rfl, hz, _, _, rfl, rfl, ?_, ?_⟩⟩
        · rw [lenA]
          exact Nat.le_trans (Nat.add_le_add (Nat.add_le_add (Nat.le_of_eq c1) r1) c2) (by omega)
        · refine fin' H5 _ _ sx5 D5 (by omega) ?_
          rw [lenA, lenA]
          exact Nat.le_trans (Nat.add_le_add (Nat.add_le_add (Nat.le_of_eq c1) r1) c2) (by omega)
    · refine ⟨_, rfl, _, _, rfl, rfl, _, rfl, iteF' (decide_eq_false (by omega)) ?_⟩
      by_cases w6 : way < 6
      · refine ⟨_, rfl, _, _, rfl, rfl, _, rfl, iteT' (decide_eq_true (by omega)) ?_⟩
        have c2 := cutS_from l p
        refine ⟨_, rfl, _, rfl, _, rfl, S l, rfl, hz, _, rfl, _, rfl, z, _, _, _, rfl, so, by decide, by decide, D5, by omega, fun H6 q s6 D6 hq => ?_⟩
        have lq : (S q).length ≤ 13 := by
          rw [S_len]
          exact SM_len q hq
        refine ⟨_, _, rfl, rfl, (show (cutS (S l) none (some (p : Int))).length + (S q).length ≤ sizeLine by omega), ?_⟩
        refine ⟨_, rfl, _, rfl, _, rfl, S l, rfl, hz, _, _, rfl, rfl, ?_, ?_⟩
        · rw [lenA]
          omega
        · refine fin' H6 _ _ (sx5.trans s6) D6 (by omega) ?_
          rw [lenA, lenA]
          omega
      · refine ⟨_, rfl, _, _, rfl, rfl, _, rfl, iteF' (decide_eq_false (by omega)) ?_⟩
        by_cases v6 : way = 6
        · refine ⟨_, rfl, rfl, _, rfl, iteT' (decide_eq_true (by rw [v6] <;> rfl)) ?_⟩
          refine ⟨_, rfl, _, rfl, _, rfl, S l, rfl, hz, ?_⟩
          exact fin' H5 _ _ sx5 D5 (by omega) (by omega)
        · refine ⟨_, rfl, rfl, _, rfl, iteF' (ieq 6 v6) ?_⟩
          by_cases v7 : way = 7
          · refine ⟨_, rfl, rfl, _, rfl, iteT' (decide_eq_true (by rw [v7] <;> rfl)) ?_⟩
            refine ⟨_, rfl, _, rfl, _, rfl, z, _, _, _, rfl, so, by decide, by decide, D5, by omega, fun H6 q s6 D6 hq => ?_⟩
            have lq : (S q).length ≤ 13 := by
              rw [S_len]
              exact SM_len q hq
            refine ⟨_, _, rfl, rfl, (show (S l).length + (S q).length ≤ sizeLine by omega), ?_⟩
            refine fin' H6 _ _ (sx5.trans s6) D6 (by omega) ?_
            rw [lenA]
            omega
          · refine ⟨_, rfl, rfl, _, rfl, iteF' (ieq 7 v7) ?_⟩
            refine ⟨_, rfl, ⟨_, rfl⟩, S l, S [10], rfl, rfl, rfl, hz2, fun p1 np => ?_⟩
            rw [split_lines]
            have q6 := Same.new np (o := .lst ((linesOf l).map fun p => V.str (S p)))
            have e6 : upd H5 p1 (.lst ((linesOf l).map fun p => V.str (S p))) p1 = some (.lst ((linesOf l).map fun p => V.str (S p))) := upd_same
            obtain ⟨P1, P2⟩ := D5.new np
            have D6 := D5.up q6
            have sx6 := sx5.trans (Sx.of (z := z) q6)
            generalize upd H5 p1 (.lst ((linesOf l).map fun p => V.str (S p))) = H6 at q6 e6 D6 sx6 ⊢
            have lc := lines_len l
            have lp : 0 < (linesOf l).length := by
              obtain ⟨a, b, e⟩ := lines_cons l
              rw [e]
              exact Nat.succ_pos _
            refine ⟨_, rfl, _, rfl, p1, _, rfl, .inl (SqL.of e6), z, _, (linesOf l).length, by rw [List.length_map] <;> rfl, lp, by omega, D6, by omega, fun H7 far s7 D7 hfar => ?_⟩
            have e7 := s7 p1 _ P1 P2 e6
            have ll : ((linesOf l).map fun p => V.str (S p)).length = (linesOf l).length := List.length_map _
            have hf : far ≤ ((linesOf l).map fun p => V.str (S p)).length := by omega
            have hf1 : far + 1 ≤ ((linesOf l).map fun p => V.str (S p)).length := by omega
            have last : ∀ (H8 : Hp) (L : Addr) (ls : List (List Nat)), Same H7 H8 → H8 L = some (.lst ((ls.map S).map V.str)) → (ls.map List.length).sum ≤ ((linesOf l).map List.length).sum → ls.length ≤ (linesOf l).length → Q (.str (Txt.join (Str.ofString "\n") (ls.map S))) H8 := fun H8 L ls s8 e8 h1 h2 => by
              obtain ⟨_, j⟩ := join_len h1 h2
              refine fin' H8 _ _ ((sx6.trans s7).trans (Sx.of s8)) (D7.up s8) (by omega) ?_
              rw [o_nl, join_S, S_len]
              omega
            have jn : ∀ ls : List (List Nat), (ls.map List.length).sum ≤ ((linesOf l).map List.length).sum → ls.length ≤ (linesOf l).length → ((ls.map S).map (·.length)).sum + ls.length * (Str.ofString "\n").length ≤ 16777216 := fun ls h1 h2 => by
              obtain ⟨j, _⟩ := join_len h1 h2
              omega
            have g1 := sum_cut (linesOf l) far
            have g2 := sum_out (linesOf l) far
            by_cases v8 : way = 8
            · refine ⟨_, rfl, rfl, _, rfl, iteT' (decide_eq_true (by rw [v8] <;> rfl)) ?_⟩
              refine ⟨_, rfl, _, rfl, _, rfl, p1, _, rfl, SqL.of e7, fun a1 n1 => ?_⟩
              have t1 := Same.new n1 (o := .lst (cutV ((linesOf l).map fun p => V.str (S p)) (some (far : Int)) none))
              refine ⟨_, rfl, _, rfl, _, rfl, p1, _, rfl, SqL.of (t1 p1 _ e7), fun a2 n2 => ?_⟩
              have t2 := Same.new n2 (o := .lst (cutV ((linesOf l).map fun p => V.str (S p)) none (some (far : Int))))
              refine ⟨a1, a2, _, _, rfl, rfl, t2 _ _ upd_same, upd_same, ?_, fun a3 n3 => ?_⟩
              · rw [cutV_from _ hf, cutV_to _ hf, List.length_drop, List.length_take]
                omega
              · have t3 := Same.new n3 (o := .lst (cutV ((linesOf l).map fun p => V.str (S p)) (some (far : Int)) none ++ cutV ((linesOf l).map fun p => V.str (S p)) none (some (far : Int))))
                have e3 : upd (upd (upd H7 a1 (.lst (cutV ((linesOf l).map fun p => V.str (S p)) (some (far : Int)) none))) a2 (.lst (cutV ((linesOf l).map fun p => V.str (S p)) none (some (far : Int))))) a3 (.lst (cutV ((linesOf l).map fun p => V.str (S p)) (some (far : Int)) none ++ cutV ((linesOf l).map fun p => V.str (S p)) none (some (far : Int)))) a3 = some (.lst ((((linesOf l).drop far ++ (linesOf l).take far).map S).map V.str)) := by
                  rw [upd_same, cutV_from _ hf, cutV_to _ hf, List.map_append, List.map_append, List.map_drop, List.map_drop, List.map_take, List.map_take, List.map_map]
                  rfl
                have tt := (t1.trans t2).trans t3
                have z1 := Nat.le_of_eq g1
                have z2 : ((linesOf l).drop far ++ (linesOf l).take far).length ≤ (linesOf l).length := by
                  rw [List.length_append, List.length_drop, List.length_take]
                  omega
                refine ⟨⟨_, rfl⟩, _, rfl, Str.ofString "\n", a3, _, rfl, rfl, .inl (SqL.of e3), ?_, last _ a3 _ tt e3 z1 z2⟩
                have := jn _ z1 z2
                rw [List.length_map]
                exact this
            · refine ⟨_, rfl, rfl, _, rfl, iteF' (ieq 8 v8) ?_⟩
              refine ⟨_, rfl, _, rfl, _, rfl, p1, _, rfl, SqL.of e7, fun a1 n1 => ?_⟩
              have t1 := Same.new n1 (o := .lst (cutV ((linesOf l).map fun p => V.str (S p)) none (some (far : Int))))
              refine ⟨_, rfl, _, rfl, _, _, rfl, rfl, _, rfl, p1, _, rfl, SqL.of (t1 p1 _ e7), fun a2 n2 => ?_⟩
              have t2 := Same.new n2 (o := .lst (cutV ((linesOf l).map fun p => V.str (S p)) (some ((far : Int) + 1)) none))
              have ef : cutV ((linesOf l).map fun p => V.str (S p)) (some ((far : Int) + 1)) none = ((linesOf l).map fun p => V.str (S p)).drop (far + 1) := cutV_from _ hf1
              refine ⟨a1, a2, _, _, rfl, rfl, t2 _ _ upd_same, upd_same, ?_, fun a3 n3 => ?_⟩
              · rw [ef, cutV_to _ hf, List.length_drop, List.length_take]
                omega
              · have t3 := Same.new n3 (o := .lst (cutV ((linesOf l).map fun p => V.str (S p)) none (some (far : Int)) ++ cutV ((linesOf l).map fun p => V.str (S p)) (some ((far : Int) + 1)) none))
                have e3 : upd (upd (upd H7 a1 (.lst (cutV ((linesOf l).map fun p => V.str (S p)) none (some (far : Int))))) a2 (.lst (cutV ((linesOf l).map fun p => V.str (S p)) (some ((far : Int) + 1)) none))) a3 (.lst (cutV ((linesOf l).map fun p => V.str (S p)) none (some (far : Int)) ++ cutV ((linesOf l).map fun p => V.str (S p)) (some ((far : Int) + 1)) none)) a3 = some (.lst ((((linesOf l).take far ++ (linesOf l).drop (far + 1)).map S).map V.str)) := by
                  rw [upd_same, ef, cutV_to _ hf, List.map_append, List.map_append, List.map_drop, List.map_drop, List.map_take, List.map_take, List.map_map]
                  rfl
                have tt := (t1.trans t2).trans t3
                have z2 : ((linesOf l).take far ++ (linesOf l).drop (far + 1)).length ≤ (linesOf l).length := by
                  rw [List.length_append, List.length_drop, List.length_take]
                  omega
                refine ⟨⟨_, rfl⟩, _, rfl, Str.ofString "\n", a3, _, rfl, rfl, .inl (SqL.of e3), ?_, last _ a3 _ tt e3 g2 z2⟩
                have := jn _ g2 z2
                rw [List.length_map]
                exact this
end
end K5
/-! ### things that are no texts, no turns, no lots -/
namespace K5
open PySem PySem.Spec PyProof.Rows L2 LamX
theorem _root_.LamX.ExtN.tupE {H H' : Hp} {a : Addr} {xs : List V} (x : ExtN H H') (e : H a = some (.tup xs)) : H' a = some (.tup xs) := x a _ e (fun ps z => by cases z)
theorem _root_.LamX.ExtN.lstE {H H' : Hp} {a : Addr} {xs : List V} (x : ExtN H H') (e : H a = some (.lst xs)) : H' a = some (.lst xs) := x a _ e (fun ps z => by cases z)
theorem _root_.LamX.ExtN.dtE {H H' : Hp} {a : Addr} {xs : List (List Key × V)} (x : ExtN H H') (e : H a = some (.dT xs)) : H' a = some (.dT xs) := x a _ e (fun ps z => by cases z)
section
variable {K : PySem.W.Frag} {H H1 H2 : Hp} {v : V} {D d : PyData}
/-! told or refused twice -/
def Asked (K : PySem.W.Frag) (H : Hp) (v : V) : Prop := ∃ d, okD d = true ∧ szD d ≤ 15100000 ∧ d.depth ≤ 6 ∧ BothTell K H v d
theorem Asked.up (a : Asked K H v) (x : ExtN H H1) : Asked K H1 v := by
  obtain ⟨d, h1, h2, h3, b1, b2⟩ := a
  exact ⟨d, h1, h2, h3, fun H2 x2 => b1 H2 (x.trans x2), fun H2 x2 => b2 H2 (x.trans x2)⟩
theorem asked_str {l : List Nat} (h : l.length ≤ 50000) : Asked K H (.str (S l)) := ⟨_, (ok_res h).1, (ok_res h).2, dep_res _, told_tell h⟩
theorem asked_no (h : ∀ H', ExtN H H' → NoStr K H' v) : Asked K H v := ⟨_, no_ok.1, no_ok.2, by decide, no_tell h⟩
theorem noStr_non : NoStr K H .non := ⟨_, .base .non, kit_ty (by decide +kernel)⟩
theorem noStr_int (i : Int) : NoStr K H (.int i) := ⟨_, .base (.int i), kit_ty (by decide +kernel)⟩
theorem noStr_bl (b : Bool) : NoStr K H (.bl b) := ⟨_, .base (.bl b), kit_ty (by decide +kernel)⟩
theorem noStr_tup {a : Addr} {xs : List V} (e : H a = some (.tup xs)) : NoStr K H (.ref a) := ⟨_, .base (.tup e), kit_ty (by decide +kernel)⟩
theorem noStr_lst {a : Addr} {xs : List V} (e : H a = some (.lst xs)) : NoStr K H (.ref a) := ⟨_, .base (.lst e), kit_ty (by decide +kernel)⟩
theorem noStr_dT {a : Addr} {xs : List (List Key × V)} (e : H a = some (.dT xs)) : NoStr K H (.ref a) := ⟨_, .base (.dT e), kit_ty (by decide +kernel)⟩
theorem noTup_non : NoTup K H .non := ⟨_, .base .non, kit_ty (by decide +kernel)⟩
theorem noTup_int (i : Int) : NoTup K H (.int i) := ⟨_, .base (.int i), kit_ty (by decide +kernel)⟩
theorem noTup_str (z : Str) : NoTup K H (.str z) := ⟨_, .base (.str z), kit_ty (by decide +kernel)⟩
theorem noTup_lst {a : Addr} {xs : List V} (e : H a = some (.lst xs)) : NoTup K H (.ref a) := ⟨_, .base (.lst e), kit_ty (by decide +kernel)⟩
theorem noTup_dT {a : Addr} {xs : List (List Key × V)} (e : H a = some (.dT xs)) : NoTup K H (.ref a) := ⟨_, .base (.dT e), kit_ty (by decide +kernel)⟩
/-! data of the law's own, small -/
structure SmallD (D : PyData) : Prop where
  ok : okD D = true
  sz : szD D ≤ 5000
  dp : D.depth ≤ 6
theorem SmallD.say (s : SmallD D) : D.showable = true ∧ D.depth ≤ 50 ∧ D.shown.length ≤ sizeLine := by
  have z := shown_le D s.ok
  exact ⟨z.2, Nat.le_trans s.dp (by decide), Nat.le_trans (Nat.le_trans z.1 s.sz) (by decide)⟩
/-- an empty dict, shown within a tuple -/
theorem shows_tD {t b : Addr} (et : H t = some (.tup [.str "turn", .ref b])) (eb : H b = some (.dT [])) : Shows K H (.ref t) (.tuple [.str "turn", .dict []]) := by
  intro X pins σ s u hK I r
  subst hK
  obtain rfl : u = Value.ref t := r
  obtain ⟨its, rv, ⟨o, ho, hc, n, hd⟩, _⟩ := I.tuple (SqT.of et)
  obtain ⟨_, hsys, xs, pr, ob, es, ep, hob, ex, hdb, hes, _⟩ := (show ObjOk X.prog X.w H s.heap b (.dT []) from I.hok b _ eb)
  cases pr
  have hes : es.toList = [] := hes
  obtain ⟨u1, us1, rfl, r1, rv1⟩ : ∃ u1 us1, its = u1 :: us1 ∧ RelV (.str "turn") u1 ∧ Vals [.ref b] us1 := by
    cases rv with
    | cons h1 h2 => exact ⟨_, _, rfl, h1, h2⟩
  obtain ⟨u2, rfl, r2⟩ := vals1 rv1
  obtain ⟨tk, rfl⟩ := r1
  obtain rfl : u2 = Value.ref b := r2
  have q2 : Reads s.heap (.ref b) (.dict []) (b :: [] ++ []) := Reads.dict (kvs := []) hob ex.1 hdb (by rw [hes]; exact ReadsAll.nil) (by rw [hes]; exact ReadsAll.nil)
  refine ⟨_, Reads.tuple ho hc hd (ReadsAll.cons (Reads.str _ _) (ReadsAll.cons q2 ReadsAll.nil)), fun _ z => ?_⟩
  have z' : sysModules ∈ [b] := by simpa using z
  rw [List.mem_singleton.mp z'] at hsys
  simp at hsys
/-! no turns -/
structure OddT (K : PySem.W.Frag) (H : Hp) (v : V) (D : PyData) : Prop where
  s : SmallD D
  sh : ∀ H' t, ExtN H H' → H' t = some (.tup [.str "turn", v]) → Shows K H' (.ref t) D
  no : ∀ H', ExtN H H' → (∃ t, IsTurn H' v t ∧ t.length ≤ BIG ∧ isAnyTurn t = false) ∨ NoTup K H' v
theorem OddT.up (o : OddT K H v D) (x : ExtN H H1) : OddT K H1 v D := ⟨o.s, fun H' t x' => o.sh H' t (x.trans x'), fun H' x' => o.no H' (x.trans x')⟩
theorem oddT_dp (s : SmallD (.tuple [.str "turn", d])) (nd : PyData.hasDict (.tuple [.str "turn", d]) = false) (dp : ∀ H', ExtN H H' → Dp K H' v d)
    (no : ∀ H', ExtN H H' → (∃ t, IsTurn H' v t ∧ t.length ≤ BIG ∧ isAnyTurn t = false) ∨ NoTup K H' v) : OddT K H v (.tuple [.str "turn", d]) :=
  ⟨s, fun H' t x e => shows_dp (.tup (SqT.of e) (.cons (.str _) (.cons (dp H' x) .nil))) nd, no⟩
theorem oddT_dict {b : Addr} (e : H b = some (.dT [])) : OddT K H (.ref b) (.tuple [.str "turn", .dict []]) :=
  ⟨⟨by decide, by decide, by decide⟩, fun H' t x et => shows_tD et (x.dtE e), fun H' x => .inr (noTup_dT (x.dtE e))⟩
theorem oddT_turn {b : Addr} {t : List Nat} (e : H b = some (.tup (vN t))) (h : isAnyTurn t = false) (hl : t.length ≤ 100) (s : SmallD (.tuple [.str "turn", dN t])) : OddT K H (.ref b) (.tuple [.str "turn", dN t]) :=
  oddT_dp s (by
    show (false || ((dN t).hasDict || false)) = false
    rw [nod_N]
    rfl) (fun H' x => dp_tn ⟨b, rfl, x.tupE e⟩) fun H' x => .inl ⟨t, ⟨b, rfl, x.tupE e⟩, Nat.le_trans hl (by decide), h⟩
theorem OddT.say (o : OddT K H v D) {Q : VK} {Q' : VK} {F : Addr} (x1 : ExtN H H1) (t1 : Tabs (Tt K) H1) (nF : H1 F = none) (k : ∀ H' a, ExtN H1 H' → Tabs (Tt K) H' → Shows K H' (.ref a) D → Q (.ref a) H') :
    sp_turn_text K [v] (upd H1 F (.lst [])) Q' (SaidE K Q) := by
  have s0 := Same.new nF (o := .lst [])
  have er : Err K (upd H1 F (.lst [])) (SaidE K Q) "BadTurn" [("given", v)] := fun H' dd s' nd ed => ⟨dd, rfl, .inr (.inr ⟨v, rfl, ed, fun H3 t s3 et => by
    have sm : Same H1 H3 := (s0.trans s').trans s3
    exact k H3 t (ExtN.of sm) (t1.ext sm) (o.sh H3 t (x1.trans (ExtN.of sm)) et)⟩)⟩
  refine ⟨v, rfl, ?_⟩
  rcases o.no _ (x1.trans (ExtN.of s0)) with ⟨t, it, hl, hn⟩ | nt
  · exact .inl ⟨t, it, hl, fun z => (by rw [hn] at z; cases z), fun _ => er⟩
  · exact .inr ⟨nt, er⟩
/-! no lots -/
structure OddL (K : PySem.W.Frag) (H : Hp) (v : V) (part : Str) : Prop where
  s : SmallD (.tuple [.str "lot", .str part, .none])
  no : ∀ H' Q E, ExtN H H' → Err K H' E "BadLot" (flL part none) → LotAsk K H' v Q E
theorem OddL.up {part : Str} (o : OddL K H v part) (x : ExtN H H1) : OddL K H1 v part := ⟨o.s, fun H' Q E x' => o.no H' Q E (x.trans x')⟩
theorem OddL.say {part : Str} (o : OddL K H v part) {Q : VK} {Q' : Lot → Hp → Prop} {F : Addr} (x1 : ExtN H H1) (t1 : Tabs (Tt K) H1) (nF : H1 F = none) (k : ∀ H' a, ExtN H1 H' → Tabs (Tt K) H' → Shows K H' (.ref a) (.tuple [.str "lot", .str part, .none]) → Q (.ref a) H') :
    LotAsk K (upd H1 F (.lst [])) v Q' (SaidE K Q) := by
  have s0 := Same.new nF (o := .lst [])
  refine o.no _ _ _ (x1.trans (ExtN.of s0)) fun H' dd s' nd ed => ⟨dd, rfl, .inl ⟨.str part, .non, rfl, ed, fun H3 t s3 et => ?_⟩⟩
  have sm : Same H1 H3 := (s0.trans s').trans s3
  exact k H3 t (ExtN.of sm) (t1.ext sm) (shows_dp (.tup (SqT.of et) (.cons (.str _) (.cons (.str _) (.cons .non .nil)))) rfl)
theorem oddL_form {v : V} (h : ∀ H', ExtN H H' → NoTup K H' v) : OddL K H v "form" := ⟨⟨by decide, by decide, by decide⟩, fun H' Q E x er => .inr (.inl ⟨h H' x, er⟩)⟩
theorem oddL_len {a : Addr} {xs : List V} (e : H a = some (.tup xs)) (h : xs.length ≠ 3) : OddL K H (.ref a) "form" := ⟨⟨by decide, by decide, by decide⟩, fun H' Q E x er => .inr (.inr (.inl ⟨a, xs, rfl, x.tupE e, h, er⟩))⟩
theorem oddL_corn {a : Addr} {y z : V} {i : Int} (e : H a = some (.tup [.int i, y, z])) (h : ¬ (2 ≤ i ∧ i ≤ 6)) : OddL K H (.ref a) "corners" := ⟨⟨by decide, by decide, by decide⟩, fun H' Q E x er => .inr (.inr (.inr ⟨a, y, z, i, rfl, x.tupE e, h, er⟩))⟩
theorem oddL_shots {a b c : Addr} (e : H a = some (.tup [.int 2, .ref b, .ref c])) (eb : H b = some (.tup [])) (ec : H c = some (.tup [])) : OddL K H (.ref a) "shots" :=
  ⟨⟨by decide, by decide, by decide⟩, fun H' Q E x er => .inl ⟨⟨2, [], []⟩, ⟨a, b, c, [], [], rfl, x.tupE e, x.tupE eb, .nil, x.tupE ec, .nil⟩,
    ⟨by decide, fun s h => (nomatch h), by decide, fun p h => (nomatch h), by decide⟩, fun h => (nomatch (show some (Part.shots, (none : Option Nat)) = none from h)), fun p k h => by
      have h' : some (Part.shots, (none : Option Nat)) = some (p, k) := h
      cases h'
      exact er⟩⟩
end
end K5
/-! ### strings by hand -/
namespace K5
open PySem PySem.Spec PyProof.Rows L2 LamX
/-! lists of short strings that grow -/
def shortV (n : Nat) : V → Bool
  | .str z => decide (z.length ≤ n)
  | _ => false
def Short (n : Nat) (vs : List V) : Prop := ∃ ls : List (List Nat), vs = (ls.map S).map V.str ∧ ∀ l ∈ ls, l.length ≤ n
theorem short_of {n : Nat} : ∀ {vs : List V}, vs.all (shortV n) = true → Short n vs
  | [], _ => ⟨[], rfl, fun _ h => nomatch h⟩
  | x :: vs, h => by
    obtain ⟨h1, h2⟩ := b2 (show (shortV n x && vs.all (shortV n)) = true from h)
    obtain ⟨ls, rfl, hl⟩ := short_of h2
    cases x with
    | str z =>
      refine ⟨TL.tl z :: ls, ?_, fun l h => ?_⟩
      · show _ = V.str (S (TL.tl z)) :: _
        rw [S_tl]
      · rcases List.mem_cons.mp h with e | e
        · rw [e, ← TL.len_tl]
          exact of_decide_eq_true h1
        · exact hl l e
    | _ => cases h1
theorem Short.app {n : Nat} {vs us : List V} (a : Short n vs) (b : Short n us) : Short n (vs ++ us) := by
  obtain ⟨ls, rfl, h⟩ := a
  obtain ⟨ms, rfl, k⟩ := b
  exact ⟨ls ++ ms, by simp, fun l hl => (List.mem_append.mp hl).elim (h l) (k l)⟩
theorem Short.mono {n m : Nat} {vs : List V} (a : Short n vs) (h : n ≤ m) : Short m vs := by
  obtain ⟨ls, rfl, k⟩ := a
  exact ⟨ls, rfl, fun l hl => Nat.le_trans (k l hl) h⟩
theorem Short.item {n : Nat} {vs : List V} {x : V} (a : Short n vs) (h : x ∈ vs) : ∃ l, x = .str (S l) ∧ l.length ≤ n := by
  obtain ⟨ls, rfl, k⟩ := a
  obtain ⟨z, hz, rfl⟩ := List.mem_map.mp h
  obtain ⟨l, hl, rfl⟩ := List.mem_map.mp hz
  exact ⟨l, rfl, k l hl⟩
theorem short_each {n : Nat} : ∀ {vs : List V}, (∀ (j : Nat) (y : V), vs[j]? = some y → ∃ l : List Nat, y = V.str (S l) ∧ l.length ≤ n) → Short n vs
  | [], _ => ⟨[], rfl, fun _ h => nomatch h⟩
  | x :: vs, h => by
    obtain ⟨l, rfl, hl⟩ := h 0 x rfl
    obtain ⟨ls, rfl, k⟩ := short_each (n := n) (vs := vs) fun j y e => h (j + 1) y e
    refine ⟨l :: ls, rfl, fun m hm => ?_⟩
    rcases List.mem_cons.mp hm with e | e
    · rw [e]
      exact hl
    · exact k m e
section
variable {i : Nat} {ta : TA} {rest : TS} {D : Ends} {σ : L2.St} {H : Hp} {L : Addr} {vs lits : List V} {n m : Nat} {v : V}
theorem st_const (k : rest D (σ.set i (some v)) H) : tSeq (tAsg (tC v) (gName i)) rest D σ H := k
theorem st_lst (ht : ∀ Q : List V → Hp → Prop, Q lits H → ta σ H Q) (hl : lits.all (shortV n) = true) (hz : lits.length ≤ m) (hm : m ≤ 1000)
    (k : ∀ H2 p vs2, Same H H2 → H2 p = some (.lst vs2) → Short n vs2 → vs2.length ≤ m → rest D (σ.set i (some (.ref p))) H2) :
    tSeq (tAsg (tLst ta) (gName i)) rest D σ H :=
  ht _ ⟨Nat.le_trans (Nat.le_trans hz hm) (by decide), fun p np => k _ p _ (Same.new np) upd_same (short_of hl) hz⟩
theorem st_cat (hs : σ[i]? = some (some (.ref L))) (eL : H L = some (.lst vs)) (sh : Short n vs) (hv : vs.length ≤ m) (ht : ∀ Q : List V → Hp → Prop, Q lits H → ta σ H Q) (hl : lits.all (shortV n) = true) (hz : lits.length ≤ 10) (hm : m ≤ 100)
    (k : ∀ H2 p vs2, Same H H2 → H2 p = some (.lst vs2) → Short n vs2 → vs2.length ≤ m + 10 → rest D (σ.set i (some (.ref p))) H2) :
    tSeq (tAsg (tOp rCat (tVar i) (tLst ta)) (gName i)) rest D σ H :=
  ⟨_, hs, ht _ ⟨Nat.le_trans hz (by decide), fun a1 n1 => ⟨L, a1, vs, lits, rfl, rfl, (Same.new n1) _ _ eL, upd_same, Nat.le_trans (Nat.add_le_add hv hz) (Nat.le_trans (show m + 10 ≤ 110 by omega) (by decide)), fun a2 n2 =>
    k _ a2 _ ((Same.new n1).trans (Same.new n2)) upd_same (sh.app (short_of hl)) (by
      rw [List.length_append]
      omega)⟩⟩⟩
end
section
variable {P : Program} {w : World} {K : PySem.W.Frag} {mg : Str → Option Value} {base : Heap}
def sp__law_hand_right (K : PySem.W.Frag) : Sp := fun vs H Q _ => vs = [] ∧ Tabs (Tt K) H ∧ ∀ H', ExtN H H' → Tabs (Tt K) H' → Q (.bl true) H'
theorem g__law_hand_right (TT : TxtT P w K mg base) : GdG P w K mg base 13 "_law_hand_right" [] (sp__law_hand_right K) := by
  have TX := TT.x
  have T := TT.x.t
  refine gdG_of (d := d__law_hand_right) T (by decide +kernel) (by simp [fn]) rfl (fun _ _ _ _ _ _ us hl => match us, hl with | [], _ => rfl) sc__law_hand_right (fun vs H Q E h => ?_) fun A outer s H vs Q E hgd hr h => ?_
  · obtain ⟨rfl, hT, fin⟩ := h
    rfl
  · obtain ⟨rfl, hT, fin⟩ := h
    refine ⟨_, (pss_cons (ps_set (i := 0) sc__law_hand_right.nd rfl (.inr rfl) pe_str)
      (pss_cons (ps_set (i := 1) sc__law_hand_right.nd rfl (.inl rfl) (pe_lst (pa_cons pe_str (pa_cons pe_str (pa_cons pe_str (pa_cons pe_str (pa_cons pe_str (pa_cons pe_str pa_nil))))))))
      (pss_cons (ps_set (i := 1) sc__law_hand_right.nd rfl (.inl rfl) (pe_op op_cat (pv 1) (pe_lst (pa_cons pe_str (pa_cons pe_str (pa_cons pe_str (pa_cons pe_str pa_nil)))))))
      (pss_cons (ps_set (i := 1) sc__law_hand_right.nd rfl (.inl rfl) (pe_op op_cat (pv 1) (pe_lst (pa_cons pe_str (pa_cons pe_str (pa_cons pe_str (pa_cons pe_str (pa_cons pe_str (pa_cons pe_str pa_nil)))))))))
      (pss_cons (ps_set (i := 1) sc__law_hand_right.nd rfl (.inl rfl) (pe_op op_cat (pv 1) (pe_lst (pa_cons pe_str (pa_cons pe_str (pa_cons pe_str (pa_cons pe_str (pa_cons pe_str (pa_cons pe_str pa_nil)))))))))
      (pss_cons (ps_set (i := 1) sc__law_hand_right.nd rfl (.inl rfl) (pe_op op_cat (pv 1) (pe_lst (pa_cons pe_str (pa_cons pe_str (pa_cons pe_str (pa_cons pe_str pa_nil)))))))
      (pss_cons (ps_set (i := 1) sc__law_hand_right.nd rfl (.inl rfl) (pe_op op_cat (pv 1) (pe_lst (pa_cons pe_str (pa_cons pe_str (pa_cons pe_str (pa_cons (pe_op op_srep pe_str pe_int) pa_nil)))))))
      (pss_cons (ps_set (i := 1) sc__law_hand_right.nd rfl (.inl rfl) (pe_op op_cat (pv 1) (pe_lst (pa_cons (pe_op op_srep pe_str pe_int) (pa_cons pe_str (pa_cons pe_str (pa_cons pe_str (pa_cons pe_str pa_nil))))))))
      (pss_cons (ps_setLc (i := 1) (own := [("_law_line", 2)]) (g := gName 2) (tt := tYes) rfl sc__law_hand_right.nd rfl rfl (sw_true rfl rfl rfl (by decide +kernel)) (pi_list (pv 1)) (blkOk_by (N := n__law_hand_right) (sc := defScope s__law_hand_right) (by decide +kernel)) (fun _ _ _ _ _ => pg_name (i := 2) sc__law_hand_right.nd rfl (.inl rfl)) (fun _ _ _ _ _ => pts_nil) (fun _ _ _ _ _ => (pe_op op_add_str (pv 0) (pv 2))))
      (pss_cons (ps_set (i := 1) sc__law_hand_right.nd rfl (.inl rfl) (pe_op op_cat (pv 1) (pe_lst (pa_cons pe_str (pa_cons pe_str (pa_cons pe_str (pa_cons pe_str (pa_cons pe_str (pa_cons pe_str (pa_cons pe_str (pa_cons pe_str (pa_cons pe_str pa_nil))))))))))))
      (pss_cons (ps_set (i := 1) sc__law_hand_right.nd rfl (.inl rfl) (pe_op op_cat (pv 1) (pe_lst (pa_cons pe_str (pa_cons pe_str (pa_cons pe_str (pa_cons pe_str pa_nil)))))))
      (pss_cons (ps_setLc (i := 3) (own := [("_law_k", 4)]) (g := gName 4) (tt := tYes) rfl sc__law_hand_right.nd rfl rfl (sw_true rfl rfl rfl (by decide +kernel)) (pi_range1 rfl (T.free "range" (by decide +kernel)) (pa_cons pe_int pa_nil)) (blkOk_by (N := n__law_hand_right) (sc := defScope s__law_hand_right) (by decide +kernel)) (fun _ _ _ _ _ => pg_name (i := 4) sc__law_hand_right.nd rfl (.inl rfl)) (fun _ _ _ _ _ => pts_nil) (fun _ _ _ _ _ => (pe_op op_add_str (pe_op op_add_str pe_str (pe_ix ix_str pe_str (pv 4) (fun _ _ => rfl))) pe_str)))
      (pss_cons (ps_set (i := 1) sc__law_hand_right.nd rfl (.inl rfl) (pe_op op_cat (pv 1) (pe_lst (pa_cons pe_str (pa_cons pe_str (pa_cons (pe_join pe_str (pe_op op_cat (pe_lst (pa_cons pe_str pa_nil)) (pv 3))) pa_nil))))))
      (pss_cons (ps_for passO rfl (pi_list (pe_op op_cat (pv 1) (pe_lst (pa_cons pe_non (pa_cons pe_int (pa_cons pe_bl (pa_cons (pe_tup (pa_cons pe_str pa_nil)) (pa_cons (pe_lst (pa_cons pe_str pa_nil)) (pa_cons pe_dnewT pa_nil))))))))) (pg_name (i := 5) sc__law_hand_right.nd rfl (.inl rfl)) (pss_one (ps_if (pt_not (pt_val (pe_gG (g__law_right TT) (hr.mono (by decide)) hgd rfl passL (pa_cons (pv 5) pa_nil)))) (pss_one (ps_ret pe_bl)) pss_nil)))
      (pss_cons (ps_for passO rfl (pi_tup (pe_tup (pa_cons pe_non (pa_cons pe_int (pa_cons pe_str (pa_cons (pe_tup pa_nil) (pa_cons (pe_tup (pa_cons pe_int pa_nil)) (pa_cons (pe_tup (pa_cons pe_int (pa_cons pe_int pa_nil))) (pa_cons (pe_lst (pa_cons pe_int (pa_cons pe_int pa_nil))) (pa_cons (pe_tup (pa_cons pe_int (pa_cons pe_int (pa_cons pe_int (pa_cons pe_int (pa_cons pe_int (pa_cons pe_int (pa_cons pe_int pa_nil)))))))) (pa_cons pe_dnewT pa_nil))))))))))) (pg_name (i := 6) sc__law_hand_right.nd rfl (.inr rfl)) (pss_one (ps_if (pt_cmpR op_ne (pe_callB (call_reprD hgd (u60 hr)) rfl (T.free "repr" (by decide +kernel)) boot_repr (pa_cons (pe_said (k := 4) (T := Tt K) TX rfl (hr.mono (by decide)) (makes0 (c := (He.cT K ("_law_hand_right", none)).1) (P := (He.cT K ("_law_hand_right", none)).2) (TT.tb _ (by decide +kernel)) rfl (Tt_one TT (q := ("_law_hand_right", none)) (by decide +kernel)).1 (Tt_one TT (q := ("_law_hand_right", none)) (by decide +kernel)).2 (lamP_by rfl) rfl (fun _ _ _ _ _ => rfl)) (fun A outer s H E f c' hr => pe_g (g_turn_text T) (hr.mono (by decide)) rfl passLam (pa_cons (pe_var (i := 6) rfl (.inr (.inr rfl))) pa_nil))) pa_nil)) (pe_callB (call_reprD hgd (u60 hr)) rfl (T.free "repr" (by decide +kernel)) boot_repr (pa_cons (pe_tup (pa_cons pe_str (pa_cons (pv 6) pa_nil))) pa_nil)) (nomark _)) (pss_one (ps_ret pe_bl)) pss_nil)))
      (pss_cons (ps_for passO rfl (pi_tup (pe_tup (pa_cons pe_non (pa_cons (pe_tup pa_nil) (pa_cons (pe_tup (pa_cons pe_int (pa_cons (pe_tup pa_nil) (pa_cons (pe_tup pa_nil) pa_nil)))) (pa_cons pe_str (pa_cons (pe_tup (pa_cons pe_int (pa_cons pe_non (pa_cons pe_non pa_nil)))) pa_nil))))))) (pg_name (i := 6) sc__law_hand_right.nd rfl (.inr rfl)) (pss_one (ps_if (pt_cmpR op_ne (pe_callB (call_reprD hgd (u60 hr)) rfl (T.free "repr" (by decide +kernel)) boot_repr (pa_cons (pe_said (k := 8) (T := Tt K) TX rfl (hr.mono (by decide)) (makes0 (c := (He.cT K ("_law_hand_right", none)).1) (P := (He.cT K ("_law_hand_right", none)).2) (TT.tb _ (by decide +kernel)) rfl (Tt_one TT (q := ("_law_hand_right", none)) (by decide +kernel)).1 (Tt_one TT (q := ("_law_hand_right", none)) (by decide +kernel)).2 (lamP_by rfl) rfl (fun _ _ _ _ _ => rfl)) (fun A outer s H E f c' hr => pe_g (g_lot_text T) (hr.mono (by decide)) rfl passLam (pa_cons (pe_var (i := 6) rfl (.inr (.inr rfl))) pa_nil))) pa_nil)) (pe_callB (call_reprD hgd (u60 hr)) rfl (T.free "repr" (by decide +kernel)) boot_repr (pa_cons (pe_said (k := 7) (T := Tt K) TX rfl (hr.mono (by decide)) (makesD (y := "_law_at") (c := (He.cT K ("_law_hand_right", none)).1) (P := (He.cT K ("_law_hand_right", none)).2) (TT.tb _ (by decide +kernel)) rfl (Tt_one TT (q := ("_law_hand_right", none)) (by decide +kernel)).1 (Tt_one TT (q := ("_law_hand_right", none)) (by decide +kernel)).2 (fun u => lamP_by rfl) rfl rfl (fun _ _ _ _ _ _ _ _ => ⟨_, rfl, rfl⟩)) (fun A outer s H E f c' hr => pe_g (g_need_lot T) (hr.mono (by decide)) rfl passLam (pa_cons (pe_var (i := 6) rfl (.inr (.inr rfl))) pa_nil))) pa_nil)) (nomark _)) (pss_one (ps_ret pe_bl)) pss_nil)))
      (pss_one (ps_ret (pe_cmpR op_eq (pe_g (g_turn_text T) (hr.mono (by decide)) rfl passD (pa_cons (pe_tup (pa_cons pe_int (pa_cons pe_int (pa_cons pe_int (pa_cons pe_int (pa_cons pe_int (pa_cons pe_int pa_nil))))))) pa_nil)) pe_str (nomark _)))))))))))))))))))), ?_⟩
    refine st_const ?_
    refine st_lst (n := 200) (m := 6) (fun _ q => q) (by decide +kernel) (by decide) (by decide) fun H1 L1 v1 s1 e1 h1 z1 => ?_
    refine st_cat rfl e1 h1 z1 (fun _ q => q) (by decide +kernel) (by decide) (by decide) fun H2 L2 v2 s2 e2 h2 z2 => ?_
    refine st_cat rfl e2 h2 z2 (fun _ q => q) (by decide +kernel) (by decide) (by decide) fun H3 L3 v3 s3 e3 h3 z3 => ?_
    refine st_cat rfl e3 h3 z3 (fun _ q => q) (by decide +kernel) (by decide) (by decide) fun H4 L4 v4 s4 e4 h4 z4 => ?_
    refine st_cat rfl e4 h4 z4 (fun _ q => q) (by decide +kernel) (by decide) (by decide) fun H5 L5 v5 s5 e5 h5 z5 => ?_
    refine st_cat rfl e5 h5 z5 (fun _ q => ⟨TL.tl "\nprogram", 12, congrArg V.str (S_tl _).symm, rfl, by decide, by decide, by decide, q⟩) (by decide +kernel) (by decide) (by decide) fun H6 L6 v6 s6 e6 h6 z6 => ?_
    refine st_cat rfl e6 h6 z6 (fun _ q => ⟨TL.tl "\nprogram", 13, congrArg V.str (S_tl _).symm, rfl, by decide, by decide, by decide, q⟩) (by decide +kernel) (by decide) (by decide) fun H7 L7 v7 s7 e7 h7 z7 => ?_
    have t7 := ((((((s1.trans s2).trans s3).trans s4).trans s5).trans s6).trans s7)
    refine ⟨_, rfl, L7, rfl, ⟨_, SqL.of e7⟩, fun D8 n8 => ?_⟩
    refine lc_rel (walk_list (K := K) (a := L7) (xs := v7)) (fun _ y _ => ∃ l : List Nat, y = .str (S l) ∧ l.length ≤ 300) (fun _ _ _ _ _ h => h) n8 (Nat.le_trans z7 (by decide)) (fun H8 s8 => SqL.of (s8 L7 _ e7)) ?_ ?_
    · rintro i x H8 H8' Kt Kf hi s8 ⟨rfl, ex⟩ k
      obtain ⟨l, rfl, hl⟩ := h7.item (List.mem_of_getElem? ex)
      have la : (Str.ofString "corners 2\nshot 01 a").length = 19 := by decide +kernel
      have cap : sizeLine = 16777216 := by decide
      have lb := S_len l
      refine ⟨rfl, _, rfl, _, rfl, _, _, rfl, rfl, (show (Str.ofString "corners 2\nshot 01 a").length + (S l).length ≤ sizeLine by omega), k _ _ (Same.refl _) ⟨TL.tl (Str.ofString "corners 2\nshot 01 a" ++ S l), by rw [S_tl], ?_⟩⟩
      rw [← TL.len_tl, lenA]
      omega
    · intro H8 v8 s8 e8 la rel
      have h8 : Short 300 v8 := short_each rel
      have z8 : v8.length ≤ 66 := Nat.le_trans (Nat.le_of_eq la) z7
      refine st_cat rfl e8 h8 z8 (fun _ q => q) (by decide +kernel) (by decide) (by decide) fun H9 L9 v9 s9 e9 h9 z9 => ?_
      refine st_cat rfl e9 h9 z9 (fun _ q => q) (by decide +kernel) (by decide) (by decide) fun H10 L10 v10 s10 e10 h10 z10 => ?_
      have t10 := ((t7.trans s8).trans s9).trans s10
      refine ⟨9, rfl, by decide, by decide, fun D11 n11 => ?_⟩
      refine lc_rel (walk_r0 (n := 9)) (fun _ y _ => ∃ l : List Nat, y = .str (S l) ∧ l.length ≤ 300) (fun _ _ _ _ _ h => h) n11 (by decide) (fun _ _ => trivial) ?_ ?_
      · rintro i x H11 H11' Kt Kf hi s11 ⟨rfl, rfl⟩ k
        have dig : ∀ i : Nat, i < 9 → (Str.ofString "123456789").cps.toList[i]? = some (49 + i) := by decide +kernel
        have cap : sizeLine = 16777216 := by decide
        have l1 : (Str.ofString "shot 0").length = 6 := by decide +kernel
        have l2 : (Str.ofString " a").length = 2 := by decide +kernel
        have l3 : (S [49 + i]).length = 1 := S_len _
        refine ⟨rfl, _, rfl, _, _, 49 + i, rfl, rfl, by decide +kernel, atI_nat (dig i hi), ?_⟩
        refine ⟨_, _, rfl, rfl, (show (Str.ofString "shot 0").length + (S [49 + i]).length ≤ sizeLine by omega), ?_⟩
        refine ⟨_, _, rfl, rfl, (show (Str.ofString "shot 0" ++ S [49 + i]).length + (Str.ofString " a").length ≤ sizeLine by rw [lenA]; omega), ?_⟩
        refine k _ _ (Same.refl _) ⟨TL.tl (Str.ofString "shot 0" ++ S [49 + i] ++ Str.ofString " a"), by rw [S_tl] <;> rfl, ?_⟩
        rw [← TL.len_tl, lenA, lenA]
        omega
      · intro H11 v11 s11 e11 la11 rel11
        obtain ⟨ls, rfl, hls⟩ := short_each rel11
        have n9 : ls.length = 9 := by rw [← la11, List.length_map, List.length_map]
        have e10' := s11 L10 _ e10
        refine ⟨_, rfl, ⟨_, rfl⟩, zl1, fun a12 n12 => ⟨_, rfl, ?_⟩⟩
        have u12 := Same.new n12 (o := .lst [V.str (Str.ofString "corners 2")])
        refine ⟨a12, D11, _, _, rfl, rfl, upd_same, u12 _ _ e11, ?_, fun a13 n13 => ?_⟩
        · rw [la11]
          decide
        · have u13 := Same.new n13 (o := .lst ([V.str (Str.ofString "corners 2")] ++ (ls.map S).map V.str))
          have e13 : upd (upd H11 a12 (.lst [V.str (Str.ofString "corners 2")])) a13 (.lst ([V.str (Str.ofString "corners 2")] ++ (ls.map S).map V.str)) a13 = some (.lst (((TL.tl (Str.ofString "corners 2") :: ls).map S).map V.str)) := by
            rw [upd_same]
            show _ = some (HO.lst (V.str (S (TL.tl (Str.ofString "corners 2"))) :: (ls.map S).map V.str))
            rw [S_tl]
            rfl
          have su : ((TL.tl (Str.ofString "corners 2") :: ls).map List.length).sum ≤ 10 * 300 := by
            have z := sum_le (l := TL.tl (Str.ofString "corners 2") :: ls) (n := 300) fun p hp => by
              rcases List.mem_cons.mp hp with e | e
              · rw [e]
                decide +kernel
              · exact hls p e
            rw [List.length_cons, n9] at z
            exact z
          have lnl : (Str.ofString "\n").length = 1 := by decide
          refine ⟨Str.ofString "\n", a13, _, rfl, rfl, .inl (SqL.of e13), ?_, zl3, fun a14 n14 => ?_⟩
          · rw [sum_S, lnl, List.length_map, List.length_cons, n9]
            omega
          · rw [o_nl, join_S]
            have jl := joinL_len [10] (TL.tl (Str.ofString "corners 2") :: ls)
            have o1 : [10].length = 1 := rfl
            rw [List.length_cons, n9, o1] at jl
            generalize TL.joinL [10] (TL.tl (Str.ofString "corners 2") :: ls) = J at jl n14 ⊢
            have sj : Short 4000 [V.str (Str.ofString " corners 2"), V.str (Str.ofString "shot 01 a"), V.str (S J)] := ⟨[TL.tl (Str.ofString " corners 2"), TL.tl (Str.ofString "shot 01 a"), J], by
              show _ = [V.str (S (TL.tl (Str.ofString " corners 2"))), V.str (S (TL.tl (Str.ofString "shot 01 a"))), V.str (S J)]
              rw [S_tl, S_tl], fun p hp => by
              simp only [List.mem_cons, List.not_mem_nil, or_false] at hp
              rcases hp with rfl | rfl | rfl
              · decide +kernel
              · decide +kernel
              · omega⟩
            have u14 := Same.new n14 (o := .lst [V.str (Str.ofString " corners 2"), V.str (Str.ofString "shot 01 a"), V.str (S J)])
            have p14 := (u12.trans u13).trans u14
            refine ⟨L10, a14, _, _, rfl, rfl, p14 _ _ e10', upd_same, ?_, fun a15 n15 => ?_⟩
            · show v10.length + 3 ≤ sizeLine
              exact Nat.le_trans (Nat.add_le_add_right z10 3) (by decide)
            · have e15 := upd_same (H := upd (upd (upd H11 a12 (.lst [V.str (Str.ofString "corners 2")])) a13 (.lst ([V.str (Str.ofString "corners 2")] ++ (ls.map S).map V.str))) a14 (.lst [V.str (Str.ofString " corners 2"), V.str (Str.ofString "shot 01 a"), V.str (S J)])) (a := a15) (o := .lst (v10 ++ [V.str (Str.ofString " corners 2"), V.str (Str.ofString "shot 01 a"), V.str (S J)]))
              have t15 := (t10.trans s11).trans (p14.trans (Same.new n15 (o := .lst (v10 ++ [V.str (Str.ofString " corners 2"), V.str (Str.ofString "shot 01 a"), V.str (S J)]))))
              have h15 := (h10.mono (show 300 ≤ 4000 by decide)).app sj
              have z15 : (v10 ++ [V.str (Str.ofString " corners 2"), V.str (Str.ofString "shot 01 a"), V.str (S J)]).length ≤ 90 := by
                rw [List.length_append]
                show v10.length + 3 ≤ 90
                omega
              generalize v10 ++ [V.str (Str.ofString " corners 2"), V.str (Str.ofString "shot 01 a"), V.str (S J)] = v15 at e15 t15 h15 z15 ⊢
              generalize upd (upd (upd (upd H11 a12 (.lst [V.str (Str.ofString "corners 2")])) a13 (.lst ([V.str (Str.ofString "corners 2")] ++ (ls.map S).map V.str))) a14 (.lst [V.str (Str.ofString " corners 2"), V.str (Str.ofString "shot 01 a"), V.str (S J)])) a15 (.lst v15) = H15 at e15 t15 ⊢
              refine ⟨_, rfl, zl1, fun a16 n16 => ⟨zl1, fun a17 n17 => fun a18 n18 => ⟨(show 6 ≤ sizeLine by decide), fun a19 n19 => ?_⟩⟩⟩
              have r16 := Same.new n16 (o := .tup [V.str (Str.ofString "corners 2")])
              have r17 := Same.new n17 (o := .lst [V.str (Str.ofString "corners 2")])
              have r18 := Same.new n18 (o := .dT [])
              have r19 := Same.new n19 (o := .lst [V.non, V.int 5, V.bl true, V.ref a16, V.ref a17, V.ref a18])
              refine ⟨a15, a19, _, _, rfl, rfl, r19 _ _ (r18 _ _ (r17 _ _ (r16 _ _ e15))), upd_same, ?_, fun a20 n20 => ?_⟩
              · show v15.length + 6 ≤ sizeLine
                exact Nat.le_trans (Nat.add_le_add_right z15 6) (by decide)
              · have r20 := Same.new n20 (o := .lst (v15 ++ [V.non, V.int 5, V.bl true, V.ref a16, V.ref a17, V.ref a18]))
                have e20 := upd_same (H := upd (upd (upd (upd H15 a16 (.tup [V.str (Str.ofString "corners 2")])) a17 (.lst [V.str (Str.ofString "corners 2")])) a18 (.dT [])) a19 (.lst [V.non, V.int 5, V.bl true, V.ref a16, V.ref a17, V.ref a18])) (a := a20) (o := .lst (v15 ++ [V.non, V.int 5, V.bl true, V.ref a16, V.ref a17, V.ref a18]))
                have e16 := r20 _ _ (r19 _ _ (r18 _ _ (r17 _ _ (upd_same (H := H15) (a := a16) (o := .tup [V.str (Str.ofString "corners 2")])))))
                have e17 := r20 _ _ (r19 _ _ (r18 _ _ (upd_same (H := upd H15 a16 (.tup [V.str (Str.ofString "corners 2")])) (a := a17) (o := .lst [V.str (Str.ofString "corners 2")]))))
                have e18 := r20 _ _ (r19 _ _ (upd_same (H := upd (upd H15 a16 (.tup [V.str (Str.ofString "corners 2")])) a17 (.lst [V.str (Str.ofString "corners 2")])) (a := a18) (o := .dT [])))
                have t20 := ((((t15.trans r16).trans r17).trans r18).trans r19).trans r20
                generalize upd (upd (upd (upd (upd H15 a16 (.tup [V.str (Str.ofString "corners 2")])) a17 (.lst [V.str (Str.ofString "corners 2")])) a18 (.dT [])) a19 (.lst [V.non, V.int 5, V.bl true, V.ref a16, V.ref a17, V.ref a18])) a20 (.lst (v15 ++ [V.non, V.int 5, V.bl true, V.ref a16, V.ref a17, V.ref a18])) = HZ at e20 e16 e17 e18 t20 ⊢
                refine ⟨a20, rfl, ⟨_, SqL.of e20⟩, ?_⟩
                refine for_it (walk_list (K := K) (a := a20) (xs := v15 ++ [V.non, V.int 5, V.bl true, V.ref a16, V.ref a17, V.ref a18])) (fun i σ H' => ∃ y5, σ = [some (.str (Str.ofString "corners 2\nshot 01 a")), some (.ref a15), none, some (.ref D11), none, y5, none] ∧ ExtN HZ H' ∧ Tabs (Tt K) H') ⟨none, rfl, ExtN.refl _, hT.ext t20⟩ (fun i σ H' _ ⟨_, _, x, _⟩ => SqL.of (x.lstE e20)) ?_ ?_
                · rintro i x σ H21 H22 hi ⟨y5, rfl, x1, t1⟩ ⟨rfl, ex⟩
                  have ask : Asked K HZ x := by
                    rcases List.mem_append.mp (List.mem_of_getElem? ex) with h | h
                    · obtain ⟨l, rfl, hl⟩ := h15.item h
                      exact asked_str (Nat.le_trans hl (by decide))
                    · simp only [List.mem_cons, List.not_mem_nil, or_false] at h
                      rcases h with rfl | rfl | rfl | rfl | rfl | rfl
                      · exact asked_no fun _ _ => noStr_non
                      · exact asked_no fun _ _ => noStr_int 5
                      · exact asked_no fun _ _ => noStr_bl true
                      · exact asked_no fun _ x => noStr_tup (x.tupE e16)
                      · exact asked_no fun _ x => noStr_lst (x.lstE e17)
                      · exact asked_no fun _ x => noStr_dT (x.dtE e18)
                  exact ⟨_, rfl, x, rfl, t1, ask.up x1, fun H23 x3 t3 => ⟨true, rfl, iteF' rfl ⟨_, rfl, x1.trans x3, t3⟩⟩⟩
                · rintro σ H21 ⟨y5, rfl, x1, t1⟩
                  have X1 : ExtN H H21 := (ExtN.of t20).trans x1
                  refine ⟨zl0, fun b1 m1 => ⟨zl1, fun b2 m2 => ⟨zl2, fun b3 m3 => ⟨zl2, fun b4 m4 => ⟨(show 7 ≤ sizeLine by decide), fun b5 m5 => fun b6 m6 => ⟨(show 9 ≤ sizeLine by decide), fun b7 m7 => ?_⟩⟩⟩⟩⟩⟩
                  have ps1 := Same.new m1 (o := .tup [])
                  have ps2 := Same.new m2 (o := .tup [V.int 0])
                  have ps3 := Same.new m3 (o := .tup [V.int 0, V.int 0])
                  have ps4 := Same.new m4 (o := .lst [V.int 0, V.int 1])
                  have ps5 := Same.new m5 (o := .tup [V.int 0, V.int 1, V.int 2, V.int 3, V.int 4, V.int 5, V.int 6])
                  have ps6 := Same.new m6 (o := .dT [])
                  have ps7 := Same.new m7 (o := .tup [V.non, V.int 5, V.str (Str.ofString "01"), V.ref b1, V.ref b2, V.ref b3, V.ref b4, V.ref b5, V.ref b6])
                  have pe1 := ps7 _ _ (ps6 _ _ (ps5 _ _ (ps4 _ _ (ps3 _ _ (ps2 _ _ (upd_same (H := H21) (a := b1) (o := .tup [])))))))
                  have pe2 := ps7 _ _ (ps6 _ _ (ps5 _ _ (ps4 _ _ (ps3 _ _ (upd_same (H := (upd H21 b1 (.tup []))) (a := b2) (o := .tup [V.int 0]))))))
                  have pe3 := ps7 _ _ (ps6 _ _ (ps5 _ _ (ps4 _ _ (upd_same (H := (upd (upd H21 b1 (.tup [])) b2 (.tup [V.int 0]))) (a := b3) (o := .tup [V.int 0, V.int 0])))))
                  have pe4 := ps7 _ _ (ps6 _ _ (ps5 _ _ (upd_same (H := (upd (upd (upd H21 b1 (.tup [])) b2 (.tup [V.int 0])) b3 (.tup [V.int 0, V.int 0]))) (a := b4) (o := .lst [V.int 0, V.int 1]))))
                  have pe5 := ps7 _ _ (ps6 _ _ (upd_same (H := (upd (upd (upd (upd H21 b1 (.tup [])) b2 (.tup [V.int 0])) b3 (.tup [V.int 0, V.int 0])) b4 (.lst [V.int 0, V.int 1]))) (a := b5) (o := .tup [V.int 0, V.int 1, V.int 2, V.int 3, V.int 4, V.int 5, V.int 6])))
                  have pe6 := ps7 _ _ (upd_same (H := (upd (upd (upd (upd (upd H21 b1 (.tup [])) b2 (.tup [V.int 0])) b3 (.tup [V.int 0, V.int 0])) b4 (.lst [V.int 0, V.int 1])) b5 (.tup [V.int 0, V.int 1, V.int 2, V.int 3, V.int 4, V.int 5, V.int 6]))) (a := b6) (o := .dT []))
                  have pe7 := upd_same (H := (upd (upd (upd (upd (upd (upd H21 b1 (.tup [])) b2 (.tup [V.int 0])) b3 (.tup [V.int 0, V.int 0])) b4 (.lst [V.int 0, V.int 1])) b5 (.tup [V.int 0, V.int 1, V.int 2, V.int 3, V.int 4, V.int 5, V.int 6])) b6 (.dT []))) (a := b7) (o := .tup [V.non, V.int 5, V.str (Str.ofString "01"), V.ref b1, V.ref b2, V.ref b3, V.ref b4, V.ref b5, V.ref b6])
                  have pt := ((((((ps1).trans ps2).trans ps3).trans ps4).trans ps5).trans ps6).trans ps7
                  generalize (upd (upd (upd (upd (upd (upd (upd H21 b1 (.tup [])) b2 (.tup [V.int 0])) b3 (.tup [V.int 0, V.int 0])) b4 (.lst [V.int 0, V.int 1])) b5 (.tup [V.int 0, V.int 1, V.int 2, V.int 3, V.int 4, V.int 5, V.int 6])) b6 (.dT [])) b7 (.tup [V.non, V.int 5, V.str (Str.ofString "01"), V.ref b1, V.ref b2, V.ref b3, V.ref b4, V.ref b5, V.ref b6])) = HY at pe1 pe2 pe3 pe4 pe5 pe6 pe7 pt ⊢
                  refine ⟨b7, rfl, ⟨_, SqT.of pe7⟩, ?_⟩
                  refine for_it (walk_tup (K := K) (a := b7) (xs := [V.non, V.int 5, V.str (Str.ofString "01"), V.ref b1, V.ref b2, V.ref b3, V.ref b4, V.ref b5, V.ref b6])) (fun i σ H' => ∃ y6, σ = [some (.str (Str.ofString "corners 2\nshot 01 a")), some (.ref a15), none, some (.ref D11), none, y5, y6] ∧ ExtN HY H' ∧ Tabs (Tt K) H') ⟨none, rfl, ExtN.refl _, t1.ext pt⟩ (fun i σ H' _ ⟨_, _, x, _⟩ => SqT.of (x.tupE pe7)) ?_ ?_
                  · rintro i v σ H22 H23 hi ⟨y6, rfl, x2, t2⟩ ⟨rfl, ex⟩
                    obtain ⟨D, odd⟩ : ∃ D, OddT K HY v D := by
                      have h := List.mem_of_getElem? ex
                      simp only [List.mem_cons, List.not_mem_nil, or_false] at h
                      rcases h with rfl | rfl | rfl | rfl | rfl | rfl | rfl | rfl | rfl
                      · exact ⟨_, oddT_dp (d := .none) ⟨by decide, by decide, by decide⟩ rfl (fun _ _ => .non) fun _ _ => .inr noTup_non⟩
                      · exact ⟨_, oddT_dp (d := .int 5) ⟨by decide, by decide, by decide⟩ rfl (fun _ _ => .int 5) fun _ _ => .inr (noTup_int 5)⟩
                      · exact ⟨_, oddT_dp (d := .str (Str.ofString "01")) ⟨by decide, by decide, by decide⟩ rfl (fun _ _ => .str _) fun _ _ => .inr (noTup_str _)⟩
                      · exact ⟨_, oddT_turn (t := []) pe1 (by decide) (by decide) ⟨by decide, by decide, by decide⟩⟩
                      · exact ⟨_, oddT_turn (t := [0]) pe2 (by decide) (by decide) ⟨by decide, by decide, by decide⟩⟩
                      · exact ⟨_, oddT_turn (t := [0, 0]) pe3 (by decide) (by decide) ⟨by decide, by decide, by decide⟩⟩
                      · exact ⟨_, oddT_dp (d := .list [.int 0, .int 1]) ⟨by decide, by decide, by decide⟩ rfl (fun _ x => .lst (SqL.of (x.lstE pe4)) (.cons (.int 0) (.cons (.int 1) .nil))) fun _ x => .inr (noTup_lst (x.lstE pe4))⟩
                      · exact ⟨_, oddT_turn (t := [0, 1, 2, 3, 4, 5, 6]) pe5 (by decide) (by decide) ⟨by decide, by decide, by decide⟩⟩
                      · exact ⟨_, oddT_dict pe6⟩
                    obtain ⟨d1, d2, d3⟩ := odd.s.say
                    have odd2 := odd.up x2
                    refine ⟨t2, fun H4 x4 t4 F nF Q' kQ => ⟨_, rfl, odd2.say x4 t4 nF fun H5 a x5 t5 sh => ⟨a, D, rfl, sh, d1, d2, d3, ?_⟩⟩⟩
                    refine ⟨_, rfl, zl2, fun b nb => ⟨b, D, rfl, odd2.sh _ b ((x4.trans x5).trans (ExtN.of (Same.new nb))) upd_same, d1, d2, d3, rfl, _, rfl, iteF' (by simp) ?_⟩⟩
                    exact ⟨_, rfl, ((x2.trans x4).trans x5).trans (ExtN.of (Same.new nb)), t5.ext (Same.new nb)⟩
                  · rintro σ H24 ⟨y6, rfl, x2, t2⟩
                    have X2 : ExtN H H24 := (X1.trans (ExtN.of pt)).trans x2
                    refine ⟨zl0, fun c1 k1 => ⟨zl0, fun c2 k2 => ⟨zl0, fun c3 k3 => ⟨zl3, fun c4 k4 => ⟨zl3, fun c5 k5 => ⟨(show 5 ≤ sizeLine by decide), fun c6 k6 => ?_⟩⟩⟩⟩⟩⟩
                    have qs1 := Same.new k1 (o := .tup [])
                    have qs2 := Same.new k2 (o := .tup [])
                    have qs3 := Same.new k3 (o := .tup [])
                    have qs4 := Same.new k4 (o := .tup [V.int 2, V.ref c2, V.ref c3])
                    have qs5 := Same.new k5 (o := .tup [V.int 7, V.non, V.non])
                    have qs6 := Same.new k6 (o := .tup [V.non, V.ref c1, V.ref c4, V.str (Str.ofString "corners 2"), V.ref c5])
                    have qe1 := qs6 _ _ (qs5 _ _ (qs4 _ _ (qs3 _ _ (qs2 _ _ (upd_same (H := H24) (a := c1) (o := .tup []))))))
                    have qe2 := qs6 _ _ (qs5 _ _ (qs4 _ _ (qs3 _ _ (upd_same (H := (upd H24 c1 (.tup []))) (a := c2) (o := .tup [])))))
                    have qe3 := qs6 _ _ (qs5 _ _ (qs4 _ _ (upd_same (H := (upd (upd H24 c1 (.tup [])) c2 (.tup []))) (a := c3) (o := .tup []))))
                    have qe4 := qs6 _ _ (qs5 _ _ (upd_same (H := (upd (upd (upd H24 c1 (.tup [])) c2 (.tup [])) c3 (.tup []))) (a := c4) (o := .tup [V.int 2, V.ref c2, V.ref c3])))
                    have qe5 := qs6 _ _ (upd_same (H := (upd (upd (upd (upd H24 c1 (.tup [])) c2 (.tup [])) c3 (.tup [])) c4 (.tup [V.int 2, V.ref c2, V.ref c3]))) (a := c5) (o := .tup [V.int 7, V.non, V.non]))
                    have qe6 := upd_same (H := (upd (upd (upd (upd (upd H24 c1 (.tup [])) c2 (.tup [])) c3 (.tup [])) c4 (.tup [V.int 2, V.ref c2, V.ref c3])) c5 (.tup [V.int 7, V.non, V.non]))) (a := c6) (o := .tup [V.non, V.ref c1, V.ref c4, V.str (Str.ofString "corners 2"), V.ref c5])
                    have qt := (((((qs1).trans qs2).trans qs3).trans qs4).trans qs5).trans qs6
                    generalize (upd (upd (upd (upd (upd (upd H24 c1 (.tup [])) c2 (.tup [])) c3 (.tup [])) c4 (.tup [V.int 2, V.ref c2, V.ref c3])) c5 (.tup [V.int 7, V.non, V.non])) c6 (.tup [V.non, V.ref c1, V.ref c4, V.str (Str.ofString "corners 2"), V.ref c5])) = HW at qe1 qe2 qe3 qe4 qe5 qe6 qt ⊢
                    refine ⟨c6, rfl, ⟨_, SqT.of qe6⟩, ?_⟩
                    refine for_it (walk_tup (K := K) (a := c6) (xs := [V.non, V.ref c1, V.ref c4, V.str (Str.ofString "corners 2"), V.ref c5])) (fun i σ H' => ∃ y6, σ = [some (.str (Str.ofString "corners 2\nshot 01 a")), some (.ref a15), none, some (.ref D11), none, y5, y6] ∧ ExtN HW H' ∧ Tabs (Tt K) H') ⟨y6, rfl, ExtN.refl _, t2.ext qt⟩ (fun i σ H' _ ⟨_, _, x, _⟩ => SqT.of (x.tupE qe6)) ?_ ?_
                    · rintro i v σ H25 H26 hi ⟨y6, rfl, x3, t3⟩ ⟨rfl, ex⟩
                      obtain ⟨part, odd⟩ : ∃ part, OddL K HW v part := by
                        have h := List.mem_of_getElem? ex
                        simp only [List.mem_cons, List.not_mem_nil, or_false] at h
                        rcases h with rfl | rfl | rfl | rfl | rfl
                        · exact ⟨_, oddL_form fun _ _ => noTup_non⟩
                        · exact ⟨_, oddL_len qe1 (by decide)⟩
                        · exact ⟨_, oddL_shots qe4 qe2 qe3⟩
                        · exact ⟨_, oddL_form fun _ _ => noTup_str _⟩
                        · exact ⟨_, oddL_corn qe5 (by decide)⟩
                      obtain ⟨d1, d2, d3⟩ := odd.s.say
                      have odd2 := odd.up x3
                      refine ⟨t3, fun H4 x4 t4 F nF Q' kQ => ⟨_, rfl, v, rfl, odd2.say x4 t4 nF fun H5 a x5 t5 sh => ⟨a, _, rfl, sh, d1, d2, d3, ?_⟩⟩⟩
                      refine ⟨t5, fun H6 x6 t6 F2 nF2 Q2 kQ2 => ⟨_, rfl, v, rfl, odd2.say ((x4.trans x5).trans x6) t6 nF2 fun H7 a2 x7 t7 sh2 => ⟨a2, _, rfl, sh2, d1, d2, d3, rfl, _, rfl, iteF' (by simp) ?_⟩⟩⟩
                      exact ⟨_, rfl, (((x3.trans x4).trans x5).trans x6).trans x7, t7⟩
                    · rintro σ H27 ⟨y6', rfl, x3, t3⟩
                      have X3 : ExtN H H27 := (X2.trans (ExtN.of qt)).trans x3
                      refine ⟨(show 6 ≤ sizeLine by decide), fun f nf => ⟨_, rfl, .inl ⟨[5, 0, 1, 2, 3, 4], ⟨f, rfl, upd_same⟩, by decide, fun _ H28 s28 => ⟨rfl, ?_⟩, fun z => ?_⟩⟩⟩
                      · have e : decide (V.str (S (turnForm [5, 0, 1, 2, 3, 4])) = V.str (Str.ofString "501234")) = true := by decide
                        show Q (.bl (decide (V.str (S (turnForm [5, 0, 1, 2, 3, 4])) = V.str (Str.ofString "501234")))) H28
                        rw [e]
                        have sm := (Same.new nf (o := .tup (vN [5, 0, 1, 2, 3, 4]))).trans s28
                        exact fin _ (X3.trans (ExtN.of sm)) (t3.ext sm)
                      · exact absurd z (by decide)
end
end K5
/-! ### the law -/
namespace K5
open PySem PySem.Spec PyProof.Rows L2 LamX
theorem tabs_sx {T : List (Addr × Str)} {H H' : Hp} {z : StA} {n : Nat} (t : Tabs T H) (D : Dr z H n) (s : Sx z H H') : Tabs T H' := fun p hp => by
  obtain ⟨ps, h1, h2, h3⟩ := t p hp
  obtain ⟨cells, e1, e2, e3, lefts, e4, e5⟩ := D.c
  have ne : ∀ b o, H b = some o → (∀ xs, o ≠ .dK xs) → (∀ xs, o ≠ .lst xs) → H' b = some o := fun b o e n1 n2 => s b o (fun q => by
    rw [q, D.d] at e
    cases e
    exact n1 _ rfl) (fun q => by
    rw [q, e4] at e
    cases e
    exact n2 _ rfl) e
  refine ⟨ps, ne _ _ h1 (fun _ z => by cases z) (fun _ z => by cases z), h2, fun pos cv hc => ?_⟩
  obtain ⟨c, q1, q2⟩ := h3 pos cv hc
  exact ⟨c, q1, ne _ _ q2 (fun _ z => by unfold CodeO at z; cases z) (fun _ z => by unfold CodeO at z; cases z)⟩
theorem Dr.ext {z : StA} {H H' : Hp} {n : Nat} (h : Dr z H n) (x : ExtN H H') : Dr z H' n := by
  obtain ⟨cells, e1, e2, e3, lefts, e4, e5⟩ := h.c
  exact ⟨x _ _ h.d (fun _ z => by cases z), ⟨cells, x.lstE e1, e2, e3, lefts, x.lstE e4, e5⟩, h.ne⟩
theorem text_len {x : Lot} (d : Drawn x) : (lotText x).length ≤ 1000 := by
  have g := notLot_good d.ok
  have h1 := d.s
  have h2 := d.p
  have z : ∀ l : List (List Entry), (∀ p ∈ l, p.length ≤ 3) → (l.map List.length).sum ≤ l.length * 3 := fun l => by
    induction l with
    | nil => exact fun _ => Nat.le_refl _
    | cons a r ih =>
      intro h
      have z1 := h a (List.mem_cons_self ..)
      have z2 := ih fun p hp => h p (List.mem_cons_of_mem _ hp)
      simp only [List.map_cons, List.sum_cons, List.length_cons]
      omega
  have h3 := z x.progs d.e
  have h4 := form_count x
  have h5 := sum_le (form_le g)
  have h6 := joinL_len [10] (lotForm x)
  have o : [10].length = 1 := rfl
  rw [o] at h6
  show (TL.joinL [10] (lotForm x)).length ≤ 1000
  omega
theorem all_app {a b : List Nat} {n : Nat} (h : ∀ c ∈ a, c < n) (k : ∀ c ∈ b, c < n) : ∀ c ∈ a ++ b, c < n := fun c hc => (List.mem_append.mp hc).elim (h c) (k c)
theorem markF_lt {m : List Nat} (g : GoodM m) : ∀ c ∈ markForm m, c < 200 := fun c h => by
  unfold markForm at h
  split at h
  · rw [List.mem_singleton.mp h]
    decide
  · exact let_lt c (g.let_ c h)
theorem turnF_lt {t : List Nat} (g : GoodT t) : ∀ c ∈ turnForm t, c < 200 := fun c h => by
  obtain ⟨d, hd, rfl⟩ := List.mem_map.mp h
  have := g.fig d hd
  omega
theorem form_lt {x : Lot} (g : GoodL x) : ∀ p ∈ lotForm x, ∀ c ∈ p, c < 200 := fun p hp => by
  unfold lotForm restForm at hp
  rcases List.mem_cons.mp hp with z | z
  · rw [z]
    have := g.c
    exact all_app (by decide) fun c h => by
      rw [List.mem_singleton.mp h]
      omega
  · rcases List.mem_append.mp z with z | z
    · obtain ⟨s, hs, rfl⟩ := List.mem_map.mp z
      obtain ⟨g1, g2⟩ := g.s s hs
      exact all_app (all_app (all_app (by decide) (turnF_lt g1)) (by decide)) (markF_lt g2)
    · obtain ⟨q, hq, z⟩ := List.mem_flatMap.mp z
      unfold progForm at z
      rcases List.mem_cons.mp z with z | z
      · rw [z]
        decide
      · obtain ⟨e, he, rfl⟩ := List.mem_map.mp z
        have ge := g.p q hq e he
        exact all_app (all_app (all_app (all_app (markF_lt ge.m) (by decide)) (turnF_lt ge.t)) (by decide)) (markF_lt ge.to)
theorem join_lt : ∀ ls : List (List Nat), (∀ p ∈ ls, ∀ c ∈ p, c < 200) → ∀ c ∈ TL.joinL [10] ls, c < 200
  | [], _, _, h => by cases h
  | [p], h, c, hc => h p (List.mem_cons_self ..) c hc
  | p :: q :: r, h, c, hc => all_app (h p (List.mem_cons_self ..)) (all_app (by decide) (join_lt (q :: r) fun p hp => h p (List.mem_cons_of_mem _ hp))) c hc
theorem text_ok {l : List Nat} (h : ∀ c ∈ l, c < 200) : PyData.canLay0 (.str (S l)) = true := by
  show PyData.strOk (S l) = true
  unfold PyData.strOk S
  simp only [List.all_toArray, List.all_eq_true, decide_eq_true_eq]
  intro c hc
  have := h c hc
  omega
theorem two_ok {a b : List Nat} (h : ∀ c ∈ a, c < 200) (k : ∀ c ∈ b, c < 200) : SeqAt.shaped (.list [.str (S a), .str (S b)]) = true ∧ PyData.canLay0 (.list [.str (S a), .str (S b)]) = true := by
  have e : PyData.canLay0 (.list [.str (S a), .str (S b)]) = true := by
    show (PyData.canLay0 (.str (S a)) && (PyData.canLay0 (.str (S b)) && true)) = true
    rw [text_ok h, text_ok k]
    rfl
  refine ⟨?_, e⟩
  unfold SeqAt.shaped
  rw [e]
  rfl
theorem say_lot {x : Lot} (d : Drawn x) : (dLot x).showable = true ∧ (dLot x).depth ≤ 50 ∧ (dLot x).shown.length ≤ sizeLine := by
  have z := ok_res (l := lotText x) (Nat.le_trans (text_len d) (by decide))
  rw [readN_lot d.ok] at z
  obtain ⟨z1, z2⟩ := z
  have z1' : (okD (dLot x) && true) = true := z1
  have z2' : 2 + (szD (dLot x) + 2 + 0) ≤ 15100000 := z2
  rw [Bool.and_true] at z1'
  have q := shown_le (dLot x) z1'
  have cap : sizeLine = 16777216 := by decide
  exact ⟨q.2, Nat.le_trans (dep_lot x) (by decide), by omega⟩
def lotE : Lot := ⟨2, [([1, 0], [])], [[([], [0, 1], [97])], []]⟩
theorem okE : notLot lotE = none := by decide
theorem smallE : SmallL lotE := drawn_small ⟨okE, by decide, by decide, by decide⟩
theorem textE : Str.ofString "corners 2\nshot 10 -\nprogram\n- 01 a\nprogram" = S (lotText lotE) := by decide +kernel
section
variable {P : Program} {w : World} {K : PySem.W.Frag} {mg : Str → Option Value} {base : Heap}
def sp_law (K : PySem.W.Frag) : Sp := fun vs H Q _ => ∃ (a : Addr) (cells : List Int), vs = [.ref a] ∧ SqL K H a (cells.map V.int) ∧ cells.length ≤ 63 ∧ Tabs (Tt K) H ∧ ∀ H', Q (.bl true) H'
theorem g_law (TT : TxtT P w K mg base) : GdG P w K mg base 14 "law" ["_law_script"] (sp_law K) := by
  have TX := TT.x
  have T := TT.x.t
  refine gdG_of (d := d_law) T (by decide +kernel) (by simp [fn]) rfl (fun _ _ _ _ _ _ us hl => match us, hl with | [_], _ => rfl) sc_law (fun vs H Q E h => ?_) fun A outer s H vs Q E hgd hr h => ?_
  · obtain ⟨a, cells, rfl, hS, hc, hT, fin⟩ := h
    rfl
  · obtain ⟨a, cells, rfl, hS, hc, hT, fin⟩ := h
    refine ⟨_, (pss_cons (ps_set (i := 1) sc_law.nd rfl (.inl rfl) (pe_g (g__law_begin T) (hr.mono (by decide)) rfl passL (pa_cons (pv 0) pa_nil)))
      (pss_cons (ps_for passO rfl (pi_range1 rfl (T.free "range" (by decide +kernel)) (pa_cons (pe_op op_add pe_int (pe_callB (call_min2 rfl) rfl (T.free "min" (by decide +kernel)) boot_min (pa_cons pe_int (pa_cons (pe_callB call_len_seq rfl (T.free "len" (by decide +kernel)) boot_len (pa_cons (pv 0) pa_nil)) pa_nil)))) pa_nil)) (pg_name (i := 2) sc_law.nd rfl (.inl rfl)) (pss_cons (ps_set (i := 3) sc_law.nd rfl (.inl rfl) (pe_g (g__law_lot T) (hr.mono (by decide)) rfl passL (pa_cons (pv 1) (pa_cons pe_int pa_nil))))
      (pss_cons (ps_set (i := 4) sc_law.nd rfl (.inl rfl) (pe_g (g__law_lot_text T) (hr.mono (by decide)) rfl passL (pa_cons (pv 3) pa_nil)))
      (pss_cons (ps_if (pt_cmpR (op_neD hr.units) (pe_lst (pa_cons (pe_g (g_lot_text T) (hr.mono (by decide)) rfl passD (pa_cons (pv 3) pa_nil)) (pa_cons (pe_g (g_turn_text T) (hr.mono (by decide)) rfl passD (pa_cons (pe_ix ix_tup (pe_ix ix_tup (pe_ix ix_tup (pv 3) pe_int (fun _ _ => rfl)) pe_int (fun _ _ => rfl)) pe_int (fun _ _ => rfl)) pa_nil)) pa_nil))) (pe_lst (pa_cons (pv 4) (pa_cons (pe_g (g__law_turn_text T) (hr.mono (by decide)) rfl passL (pa_cons (pe_ix ix_tup (pe_ix ix_tup (pe_ix ix_tup (pv 3) pe_int (fun _ _ => rfl)) pe_int (fun _ _ => rfl)) pe_int (fun _ _ => rfl)) pa_nil)) pa_nil))) (nomark _)) (pss_one (ps_ret pe_bl)) pss_nil)
      (pss_cons (ps_if (pt_cmpR op_ne (pe_callB (call_reprD hgd (u60 hr)) rfl (T.free "repr" (by decide +kernel)) boot_repr (pa_cons (pe_g (g_read_lot T) (hr.mono (by decide)) rfl passD (pa_cons (pv 4) pa_nil)) pa_nil)) (pe_callB (call_reprD hgd (u60 hr)) rfl (T.free "repr" (by decide +kernel)) boot_repr (pa_cons (pv 3) pa_nil)) (nomark _)) (pss_one (ps_ret pe_bl)) pss_nil)
      (pss_one (ps_for passO rfl (pi_range1 rfl (T.free "range" (by decide +kernel)) (pa_cons pe_int pa_nil)) (pg_name (i := 5) sc_law.nd rfl (.inl rfl)) (pss_cons (ps_set (i := 6) sc_law.nd rfl (.inl rfl) (pe_g (g__law_bent T) (hr.mono (by decide)) rfl passL (pa_cons (pv 1) (pa_cons (pv 4) pa_nil))))
      (pss_cons (ps_set (i := 7) sc_law.nd rfl (.inl rfl) (pe_g (g__law_bent T) (hr.mono (by decide)) rfl passL (pa_cons (pv 1) (pa_cons (pv 6) pa_nil))))
      (pss_one (ps_if (PW.pt (pw_or (pt_not (pt_val (pe_gG (g__law_right TT) (hr.mono (by decide)) hgd rfl passL (pa_cons (pv 6) pa_nil)))) (pw_or (pt_not (pt_val (pe_gG (g__law_right TT) (hr.mono (by decide)) hgd rfl passL (pa_cons (pv 7) pa_nil)))) (pw_or1 (pt_not (pt_val (pe_gG (g__law_right TT) (hr.mono (by decide)) hgd rfl passL (pa_cons (pe_g (g__law_bent T) (hr.mono (by decide)) rfl passL (pa_cons (pv 1) (pa_cons (pv 7) pa_nil))) pa_nil)))))))) (pss_one (ps_ret pe_bl)) pss_nil)))))))))))
      (pss_cons (ps_set (i := 8) sc_law.nd rfl (.inl rfl) pe_str)
      (pss_cons (ps_set (i := 3) sc_law.nd rfl (.inl rfl) (pe_tup (pa_cons pe_int (pa_cons (pe_tup (pa_cons (pe_tup (pa_cons (pe_tup (pa_cons pe_int (pa_cons pe_int pa_nil))) (pa_cons pe_str pa_nil))) pa_nil)) (pa_cons (pe_tup (pa_cons (pe_tup (pa_cons (pe_tup (pa_cons pe_str (pa_cons (pe_tup (pa_cons pe_int (pa_cons pe_int pa_nil))) (pa_cons pe_str pa_nil)))) pa_nil)) (pa_cons (pe_tup pa_nil) pa_nil))) pa_nil)))))
      (pss_one (ps_ret (pe_and (pe_cmpR op_eq (pe_g (g_lot_text T) (hr.mono (by decide)) rfl passD (pa_cons (pv 3) pa_nil)) (pv 8) (nomark _)) (pe_and (pe_cmpR (op_eqD hr.units) (pe_g (g_read_lot T) (hr.mono (by decide)) rfl passD (pa_cons (pv 8) pa_nil)) (pv 3) (nomark _)) (pe_one (pe_gG0 (g__law_hand_right TT) (hr.mono (by decide)) hgd rfl passL)))))))))), ?_⟩
    refine ⟨_, rfl, a, cells, rfl, hS, Nat.le_trans hc (by decide), fun H1 z s1 D1 nd nl => ?_⟩
    have hS1 : SqL K H1 a (cells.map V.int) := s1.seq hS
    have hl : (cells.map V.int).length ≤ 63 := by
      rw [List.length_map]
      exact hc
    generalize cells.map V.int = cv at hS1 hl hS
    refine ⟨_, rfl, a, _, rfl, .inl hS1, _, _, rfl, _, _, rfl, rfl, _, rfl, ?_, ?_, ?_⟩
    · split <;> omega
    · split <;> omega
    · have nn : ((3 : Int) + if ((cv.length : Nat) : Int) < 4 then ((cv.length : Nat) : Int) else 4).toNat ≤ 7 := by
        split <;> omega
      refine for_it (walk_r0 (n := _)) (fun i σ H' => ∃ n y2 y3 y4 y5 y6 y7, σ = [some (.ref a), some (.ref z.d), y2, y3, y4, y5, y6, y7, none] ∧ Dr z H' n ∧ n ≤ i * 500 ∧ Tabs (Tt K) H') ⟨0, none, none, none, none, none, none, rfl, D1, by omega, hT.ext s1⟩ (fun _ _ _ _ _ => trivial) ?_ ?_
      · rintro i x0 σ H2 H2' hi ⟨n, y2, y3, y4, y5, y6, y7, rfl, D2, hn, t2⟩ ⟨rfl, rfl⟩
        have hi7 := Nat.lt_of_lt_of_le hi nn
        clear hi nn
        refine ⟨_, rfl, z, n, rfl, D2, by omega, fun H3 v x n3 s3 D3 hn3 il dr => ?_⟩
        have g := notLot_good dr.ok
        have sm := drawn_small dr
        have t3 := tabs_sx t2 D2 s3
        refine ⟨_, rfl, v, x, rfl, il, g, sm, fun H4 s4 => ?_⟩
        obtain ⟨b1, b2', c3, ss, ps, rfl, ea, eb, pb, ec, pc⟩ := id il
        obtain ⟨s0, xs, es⟩ : ∃ s0 xs, x.shots = s0 :: xs := by
          cases e : x.shots with
          | nil => exact absurd e g.ne
          | cons a r => exact ⟨a, r, rfl⟩
        rw [es] at pb
        obtain ⟨v0, vs0, rfl, i0⟩ : ∃ v0 vs0, ss = v0 :: vs0 ∧ IsShot H3 v0 s0 := by
          cases pb with
          | cons h1 h2 => exact ⟨_, _, rfl, h1⟩
        obtain ⟨d0, tv, rfl, ed, it⟩ := i0
        obtain ⟨gt, gm⟩ := g.s s0 (by rw [es]; exact List.mem_cons_self ..)
        have hl := text_len dr
        have ht : isAnyTurn s0.1 = true := by
          have q := (notLot_parts dr.ok).2.2.1 s0 (by rw [es]; exact List.mem_cons_self ..)
          exact (Bool.and_eq_true_iff.mp (Bool.and_eq_true_iff.mp q).1).1
        have tl : s0.1.length ≤ BIG := Nat.le_trans gt.le (by decide)
        have ok2 := two_ok (a := lotText x) (join_lt _ (form_lt g)) (turnF_lt gt)
        refine ⟨_, rfl, _, rfl, .inl ⟨x, il.up s4.ts, sm, fun _ H5 s5 => ?_, fun p k h => (by rw [dr.ok] at h; cases h)⟩⟩
        have S5 := s4.trans s5
        refine ⟨_, rfl, b1, _, _, .ref b2', rfl, rfl, SqT.of (S5 b1 _ ea), rfl, b2', _, _, .ref d0, rfl, rfl, SqT.of (S5 b2' _ eb), atI_nat (j := 0) rfl, d0, _, _, tv, rfl, rfl, SqT.of (S5 d0 _ ed), rfl, tv, rfl, .inl ⟨s0.1, it.up S5.ts, tl, fun _ H6 s6 => ?_, fun h => by rw [ht] at h; cases h⟩⟩
        refine ⟨zl2, fun l1 n1 => ?_⟩
        have u1 := Same.new n1 (o := .lst [.str (S (lotText x)), .str (S (turnForm s0.1))])
        have S7 := (S5.trans s6).trans u1
        have e7 : upd H6 l1 (.lst [.str (S (lotText x)), .str (S (turnForm s0.1))]) l1 = some (.lst [.str (S (lotText x)), .str (S (turnForm s0.1))]) := upd_same
        generalize upd H6 l1 (.lst [.str (S (lotText x)), .str (S (turnForm s0.1))]) = H7 at S7 e7 ⊢
        refine ⟨_, rfl, _, rfl, b1, _, _, .ref b2', rfl, rfl, SqT.of (S7 b1 _ ea), rfl, b2', _, _, .ref d0, rfl, rfl, SqT.of (S7 b2' _ eb), atI_nat (j := 0) rfl, d0, _, _, tv, rfl, rfl, SqT.of (S7 d0 _ ed), rfl, tv, s0.1, rfl, it.up S7.ts, tl, gt.fig, fun H8 s8 => ?_⟩
        refine ⟨zl2, fun l2 n2 => ?_⟩
        have u2 := Same.new n2 (o := .lst [.str (S (lotText x)), .str (S (turnForm s0.1))])
        have S9 := (S7.trans s8).trans u2
        refine ⟨.list [.str (S (lotText x)), .str (S (turnForm s0.1))], .list [.str (S (lotText x)), .str (S (turnForm s0.1))], .lst (SqL.of (u2 _ _ (s8 _ _ e7))) (.cons (.str _) (.cons (.str _) .nil)), .lst (SqL.of upd_same) (.cons (.str _) (.cons (.str _) .nil)), ok2.1, ok2.1, _, rfl, iteF' ?_ ?_⟩
        · rw [SeqAt.eqv_refl _ ok2.2]
          rfl
        · generalize upd H8 l2 (.lst [.str (S (lotText x)), .str (S (turnForm s0.1))]) = H9 at S9 ⊢
          obtain ⟨w1, w2, w3⟩ := say_lot dr
          have rd := readN_lot dr.ok
          refine ⟨_, rfl, _, rfl, .inl ⟨_, rfl, Nat.lt_of_le_of_lt hl (by decide), ⟨fun x' h' H10 u s10 iu => ?_, fun r p h' => (by rw [rd] at h'; cases h'), fun p k h' => (by rw [rd] at h'; cases h')⟩⟩⟩
          rw [rd] at h'
          cases h'
          have du := dp_lot (K := K) iu
          obtain ⟨ua, _, _, _, _, rfl, _⟩ := id iu
          have S10 := S9.trans s10
          refine ⟨ua, dLot x, rfl, shows_dp du (nod_lot x), w1, w2, w3, _, rfl, b1, dLot x, rfl, shows_dp (dp_lot (il.up S10.ts)) (nod_lot x), w1, w2, w3, rfl, _, rfl, iteF' (by simp) ?_⟩
          have D10 := D3.up S10
          have t10 := t3.ext S10
          refine ⟨6, rfl, by decide, by decide, ?_⟩
          refine for_it (walk_r0 (n := 6)) (fun j σ H' => ∃ m y2 y5 y6 y7, σ = [some (.ref a), some (.ref z.d), y2, some (.ref b1), some (.str (S (lotText x))), y5, y6, y7, none] ∧ Dr z H' m ∧ m ≤ n3 + j * 30 ∧ Tabs (Tt K) H') ⟨n3, _, _, _, _, rfl, D10, by omega, t10⟩ (fun _ _ _ _ _ => trivial) ?_ ?_
          · rintro j x1 σ H11 H11' hj ⟨m, y2, y5, y6, y7, rfl, D11, hm, t11⟩ ⟨rfl, rfl⟩
            refine ⟨_, rfl, _, rfl, z, _, m, rfl, D11, by omega, Nat.le_trans hl (by decide), fun H12 l1 m1 s12 D12 hm1 hl1 => ?_⟩
            refine ⟨_, rfl, _, rfl, z, _, m1, rfl, D12, by omega, by omega, fun H13 l2 m2 s13 D13 hm2 hl2 => ?_⟩
            have t13 := tabs_sx (tabs_sx t11 D11 s12) D12 s13
            refine ⟨_, rfl, _, rfl, t13, asked_str (by omega), fun H14 x14 t14 => ⟨true, rfl, iteF' rfl ?_⟩⟩
            refine ⟨_, rfl, _, rfl, t14, asked_str (by omega), fun H15 x15 t15 => ⟨true, rfl, iteF' rfl ?_⟩⟩
            have D15 := (D13.ext x14).ext x15
            refine ⟨_, rfl, _, rfl, z, _, m2, rfl, D15, by omega, by omega, fun H16 l3 m3 s16 D16 hm3 hl3 => ?_⟩
            refine ⟨_, rfl, tabs_sx t15 D15 s16, asked_str (by omega), fun H17 x17 t17 => ⟨true, rfl, iteF' rfl ?_⟩⟩
            exact ⟨m3, _, _, _, _, rfl, D16.ext x17, by omega, t17⟩
          · rintro σ H11 ⟨m, y2, y5, y6, y7, rfl, D11, hm, t11⟩
            exact ⟨m, _, _, _, _, _, _, rfl, D11, by omega, t11⟩
      · rintro σ H2 ⟨n, y2, y3, y4, y5, y6, y7, rfl, D2, hn, t2⟩
        refine st_const ?_
        refine ⟨zl2, fun q1 m1 => ⟨zl2, fun q2 m2 => ⟨zl1, fun q3 m3 => ⟨zl2, fun q4 m4 => ⟨zl3, fun q5 m5 => ⟨zl1, fun q6 m6 => ⟨zl0, fun q7 m7 => ⟨zl2, fun q8 m8 => ⟨zl3, fun q9 m9 => ?_⟩⟩⟩⟩⟩⟩⟩⟩⟩
        have v1 := Same.new m1 (o := .tup [V.int 1, V.int 0])
        have v2 := Same.new m2 (o := .tup [V.ref q1, V.str (Str.ofString "")])
        have v3 := Same.new m3 (o := .tup [V.ref q2])
        have v4 := Same.new m4 (o := .tup [V.int 0, V.int 1])
        have v5 := Same.new m5 (o := .tup [V.str (Str.ofString ""), V.ref q4, V.str (Str.ofString "a")])
        have v6 := Same.new m6 (o := .tup [V.ref q5])
        have v7 := Same.new m7 (o := .tup [])
        have v8 := Same.new m8 (o := .tup [V.ref q6, V.ref q7])
        have v9 := Same.new m9 (o := .tup [V.int 2, V.ref q3, V.ref q8])
        have f1 := v9 _ _ (v8 _ _ (v7 _ _ (v6 _ _ (v5 _ _ (v4 _ _ (v3 _ _ (v2 _ _ (upd_same (H := H2) (a := q1) (o := .tup [V.int 1, V.int 0])))))))))
        have f2 := v9 _ _ (v8 _ _ (v7 _ _ (v6 _ _ (v5 _ _ (v4 _ _ (v3 _ _ (upd_same (H := (upd H2 q1 (.tup [V.int 1, V.int 0]))) (a := q2) (o := .tup [V.ref q1, V.str (Str.ofString "")]))))))))
        have f3 := v9 _ _ (v8 _ _ (v7 _ _ (v6 _ _ (v5 _ _ (v4 _ _ (upd_same (H := (upd (upd H2 q1 (.tup [V.int 1, V.int 0])) q2 (.tup [V.ref q1, V.str (Str.ofString "")]))) (a := q3) (o := .tup [V.ref q2])))))))
        have f4 := v9 _ _ (v8 _ _ (v7 _ _ (v6 _ _ (v5 _ _ (upd_same (H := (upd (upd (upd H2 q1 (.tup [V.int 1, V.int 0])) q2 (.tup [V.ref q1, V.str (Str.ofString "")])) q3 (.tup [V.ref q2]))) (a := q4) (o := .tup [V.int 0, V.int 1]))))))
        have f5 := v9 _ _ (v8 _ _ (v7 _ _ (v6 _ _ (upd_same (H := (upd (upd (upd (upd H2 q1 (.tup [V.int 1, V.int 0])) q2 (.tup [V.ref q1, V.str (Str.ofString "")])) q3 (.tup [V.ref q2])) q4 (.tup [V.int 0, V.int 1]))) (a := q5) (o := .tup [V.str (Str.ofString ""), V.ref q4, V.str (Str.ofString "a")])))))
        have f6 := v9 _ _ (v8 _ _ (v7 _ _ (upd_same (H := (upd (upd (upd (upd (upd H2 q1 (.tup [V.int 1, V.int 0])) q2 (.tup [V.ref q1, V.str (Str.ofString "")])) q3 (.tup [V.ref q2])) q4 (.tup [V.int 0, V.int 1])) q5 (.tup [V.str (Str.ofString ""), V.ref q4, V.str (Str.ofString "a")]))) (a := q6) (o := .tup [V.ref q5]))))
        have f7 := v9 _ _ (v8 _ _ (upd_same (H := (upd (upd (upd (upd (upd (upd H2 q1 (.tup [V.int 1, V.int 0])) q2 (.tup [V.ref q1, V.str (Str.ofString "")])) q3 (.tup [V.ref q2])) q4 (.tup [V.int 0, V.int 1])) q5 (.tup [V.str (Str.ofString ""), V.ref q4, V.str (Str.ofString "a")])) q6 (.tup [V.ref q5]))) (a := q7) (o := .tup [])))
        have f8 := v9 _ _ (upd_same (H := (upd (upd (upd (upd (upd (upd (upd H2 q1 (.tup [V.int 1, V.int 0])) q2 (.tup [V.ref q1, V.str (Str.ofString "")])) q3 (.tup [V.ref q2])) q4 (.tup [V.int 0, V.int 1])) q5 (.tup [V.str (Str.ofString ""), V.ref q4, V.str (Str.ofString "a")])) q6 (.tup [V.ref q5])) q7 (.tup []))) (a := q8) (o := .tup [V.ref q6, V.ref q7]))
        have f9 := upd_same (H := (upd (upd (upd (upd (upd (upd (upd (upd H2 q1 (.tup [V.int 1, V.int 0])) q2 (.tup [V.ref q1, V.str (Str.ofString "")])) q3 (.tup [V.ref q2])) q4 (.tup [V.int 0, V.int 1])) q5 (.tup [V.str (Str.ofString ""), V.ref q4, V.str (Str.ofString "a")])) q6 (.tup [V.ref q5])) q7 (.tup [])) q8 (.tup [V.ref q6, V.ref q7]))) (a := q9) (o := .tup [V.int 2, V.ref q3, V.ref q8])
        have vt := ((((((((v1).trans v2).trans v3).trans v4).trans v5).trans v6).trans v7).trans v8).trans v9
        generalize (upd (upd (upd (upd (upd (upd (upd (upd (upd H2 q1 (.tup [V.int 1, V.int 0])) q2 (.tup [V.ref q1, V.str (Str.ofString "")])) q3 (.tup [V.ref q2])) q4 (.tup [V.int 0, V.int 1])) q5 (.tup [V.str (Str.ofString ""), V.ref q4, V.str (Str.ofString "a")])) q6 (.tup [V.ref q5])) q7 (.tup [])) q8 (.tup [V.ref q6, V.ref q7])) q9 (.tup [V.int 2, V.ref q3, V.ref q8])) = H3 at f1 f2 f3 f4 f5 f6 f7 f8 f9 vt ⊢
        have il : IsLot H3 (.ref q9) lotE := ⟨q9, q3, q8, [V.ref q2], [V.ref q6, V.ref q7], rfl, f9, f3, .cons ⟨q2, V.ref q1, rfl, f2, q1, rfl, f1⟩ .nil, f8, .cons ⟨q6, [V.ref q5], rfl, f6, .cons ⟨q5, V.ref q4, rfl, f5, q4, rfl, f4⟩ .nil⟩ (.cons ⟨q7, [], rfl, f7, .nil⟩ .nil)⟩
        refine ⟨_, rfl, _, rfl, .inl ⟨lotE, il, smallE, fun _ H4 s4 => ?_, fun p k h => (by rw [okE] at h; cases h)⟩⟩
        refine ⟨_, rfl, rfl, _, rfl, iteT' (decide_eq_true (congrArg V.str textE.symm)) ?_⟩
        refine ⟨_, rfl, _, rfl, .inl ⟨lotText lotE, congrArg V.str textE, by decide, ⟨fun x' h' H5 u s5 iu => ?_, fun r p h' => (by rw [readN_lot okE] at h'; cases h'), fun p k h' => (by rw [readN_lot okE] at h'; cases h')⟩⟩⟩
        rw [readN_lot okE] at h'
        cases h'
        refine ⟨_, rfl, dLot lotE, dLot lotE, dp_lot iu, dp_lot (il.up (s4.trans s5).ts), by decide +kernel, by decide +kernel, _, rfl, iteT' (SeqAt.eqv_refl _ (by decide +kernel)) ?_⟩
        exact ⟨rfl, (t2.ext vt).ext (s4.trans s5), fun H6 x6 t6 => fin H6⟩
end
end K5
/-! ### the end: a law whose defs show data -/
namespace K5
open PySem PySem.Spec PyProof.Rows L2 LamX
/-- what is tracked when the law is called: the empty tables, the script if the written part lacks it -/
def hp0 (K : PySem.W.Frag) (a : Addr) (o : Obj) (xs : List V) (ts : List Addr) : Hp := fun b =>
  if b ∈ ts then some (.tbl #[]) else if b = a ∧ K.lookup a = none then some (.frz o (.lst xs)) else none
theorem hp0_inv {K : PySem.W.Frag} {a b : Addr} {o : Obj} {xs : List V} {ts : List Addr} {u : HO} (h : hp0 K a o xs ts b = some u) :
    (b ∈ ts ∧ u = .tbl #[]) ∨ (b ∉ ts ∧ b = a ∧ K.lookup a = none ∧ u = .frz o (.lst xs)) := by
  unfold hp0 at h
  split at h
  · rename_i hb
    exact .inl ⟨hb, (Option.some.inj h).symm⟩
  · rename_i hb
    split at h
    · rename_i hc
      exact .inr ⟨hb, hc.1, hc.2, (Option.some.inj h).symm⟩
    · cases h
theorem hp0_tab {K : PySem.W.Frag} {a b : Addr} {o : Obj} {xs : List V} {ts : List Addr} (h : b ∈ ts) : hp0 K a o xs ts b = some (.tbl #[]) := by
  unfold hp0
  rw [if_pos h]
abbrev listO (us : List Value) : Obj := { cls := .type "list", data := .seq us.toArray }
abbrev tabO : Obj := { cls := .none, data := .fields #[] }
section
variable {P : Program} {w : World} {K : PySem.W.Frag} {mg mb : Str → Option Value} {a : Addr} {cs : List (Addr × Addr)} {s1 : Shared} {us : List Value} {ns : List Int}
/-- what the caller's heap is known to hold -/
structure Start (K : PySem.W.Frag) (mg mb : Str → Option Value) (cs : List (Addr × Addr)) (s1 : Shared) (a : Addr) (us : List Value) (ns : List Int) : Prop where
  k : K.In s1.heap
  g : s1.heap.Ns mainGlobals mg
  b : s1.heap.Ns builtinsNs mb
  bb : ∀ x : Str, x ≠ "__name__" → mb x = bootBuiltins x
  lim : s1.heap.NoLimit
  gen : s1.gens = #[]
  tab : ∀ p ∈ cs, s1.heap.get? p.2 = some tabO
  out : ∀ p ∈ cs, K.lookup p.2 = none
  code : ∀ p ∈ cs, PySem.W.CodeHd s1.heap p.1 p.2
  bm : ∃ (bm : Addr) (ob : Obj), mg "__builtins__" = some (.ref bm) ∧ bm ≠ builtinsNs ∧ s1.heap.get? bm = some ob ∧ ob.cls = .type "module" ∧ ob.dict = some builtinsNs ∧ ob.data = .plain
  lst : s1.heap.get? a = some (listO us)
  int : IntsAre us ns
  len : ns.length ≤ sizeLine
def hpS (K : PySem.W.Frag) (cs : List (Addr × Addr)) (a : Addr) (us : List Value) (ns : List Int) : Hp := hp0 K a (listO us) (ns.map V.int) (cs.map (·.2))
theorem Start.isTab (T : Start K mg mb cs s1 a us ns) {b : Addr} (h : b ∈ cs.map (·.2)) : s1.heap.get? b = some tabO := by
  obtain ⟨p, hp, e⟩ := List.mem_map.mp h
  rw [← e]
  exact T.tab p hp
theorem Start.still (T : Start K mg mb cs s1 a us ns) {b : Addr} {ob : Obj} (h : s1.heap.get? b = some ob) (h1 : ob.data ≠ .fields #[]) (h2 : ∀ l m, ob.data ≠ .seq l m) : hpS K cs a us ns b = none := by
  cases q : hpS K cs a us ns b with
  | none => rfl
  | some u =>
    rcases hp0_inv q with ⟨z, _⟩ | ⟨_, z, _⟩
    · rw [T.isTab z] at h
      cases h
      exact absurd rfl h1
    · rw [z, T.lst] at h
      cases h
      exact absurd rfl (h2 _ _)
theorem Start.plain (T : Start K mg mb cs s1 a us ns) {b : Addr} {ob : Obj} (h : s1.heap.get? b = some ob) (h1 : ob.data ≠ .fields #[]) (h2 : ∀ l m, ob.data ≠ .seq l m) : (hidT s1.heap (hpS K cs a us ns)).get? b = some ob := hidT_get h (T.still h h1 h2)
theorem Start.names (T : Start K mg mb cs s1 a us ns) {b : Addr} {m : Str → Option Value} (h : s1.heap.Ns b m) : (hidT s1.heap (hpS K cs a us ns)).Ns b m := by
  obtain ⟨ob, es, ep, e, d, r⟩ := h
  refine ⟨ob, es, ep, T.plain e (fun z => ?_) (fun l m z => ?_), d, r⟩
  · rw [d] at z
    cases z
  · rw [d] at z
    cases z
theorem Start.kin (T : Start K mg mb cs s1 a us ns) : K.In (hidT s1.heap (hpS K cs a us ns)) := fun b ob e => hidT_get (T.k b ob e) (by
  cases q : hpS K cs a us ns b with
  | none => rfl
  | some u =>
    rcases hp0_inv q with ⟨z, _⟩ | ⟨_, z, n, _⟩
    · obtain ⟨p, hp, ep⟩ := List.mem_map.mp z
      rw [← ep, T.out p hp] at e
      cases e
    · rw [z, n] at e
      cases e)
theorem Start.tabB (T : Start K mg mb cs s1 a us ns) : ∀ p ∈ cs, TabB (hidT s1.heap (hpS K cs a us ns)) mg p.1 p.2 := fun p hp => by
  have tp := T.tab p hp
  obtain ⟨og, eg, pg, gg, dg, _⟩ := T.g
  have gP : mainGlobals ≠ p.2 := fun z => by
    rw [z, tp] at gg
    cases gg
    cases dg
  refine ⟨?_, ?_, gP⟩
  · obtain ⟨oc, fs, file, tf, flags, tg, inF, text, tt, e1, r1, r2, r⟩ := T.code p hp
    refine ⟨oc, fs, file, tf, flags, tg, inF, text, tt, T.plain e1 (fun z => ?_) (fun l m z => ?_), r1, r2, r⟩
    · rw [r2] at z
      cases z
      have q := r.1
      simp at q
    · rw [r2] at z
      cases z
  · obtain ⟨bm, ob, m1, m2, m3, m4, m5, m6⟩ := T.bm
    refine ⟨bm, ob, m1, m2, fun z => ?_, fun z => ?_, T.plain m3 (fun z => ?_) (fun l m z => ?_), m4, m5, m6⟩
    · rw [z, gg] at m3
      cases m3
      rw [dg] at m6
      cases m6
    · rw [z, tp] at m3
      cases m3
      cases m6
    · rw [m6] at z
      cases z
    · rw [m6] at z
      cases z
theorem Start.script (T : Start K mg mb cs s1 a us ns) : SqL K (hpS K cs a us ns) a (ns.map V.int) := by
  have hv := vals_ints T.int
  have hn := T.int.length
  cases q : K.lookup a with
  | some ob =>
    have e := T.k a ob q
    rw [T.lst] at e
    cases e
    exact .inr ⟨_, us.toArray, _, q, rfl, rfl, rfl, by rw [List.size_toArray, hn]; exact T.len, by simpa using hv⟩
  | none =>
    have na : a ∉ cs.map (·.2) := fun z => by
      have e := T.isTab z
      rw [T.lst] at e
      have e' : (Data.seq us.toArray) = Data.fields #[] := congrArg Obj.data (Option.some.inj e)
      cases e'
    refine .inl (.inr ⟨listO us, ?_⟩)
    show hp0 _ _ _ _ _ a = _
    unfold hp0
    rw [if_neg na, if_pos ⟨rfl, q⟩]
theorem Start.hok (T : Start K mg mb cs s1 a us ns) : HOk P w (hpS K cs a us ns) s1.heap := fun b u h => by
  rcases hp0_inv h with ⟨z, rfl⟩ | ⟨_, rfl, _, rfl⟩
  · exact T.isTab z
  · exact ⟨T.lst, by rw [List.length_map]; exact T.len, us, _, vals_ints T.int, T.lst⟩
/-- the caller gets True, what stood before stands -/
theorem Start.run (T : Start K mg mb cs s1 a us ns) {k : Nat} {x y : Str} {sp : Sp} (hr : Room k callerA)
    (F : ∀ base : Heap, K.In base → base.Ns mainGlobals mg → (∀ p ∈ cs, TabB base mg p.1 p.2) → GdG P w K mg base k x [y] sp)
    (hsp : ∀ H : Hp, (∀ p ∈ cs, H p.2 = some (.tbl #[])) → SqL K H a (ns.map V.int) → sp [.ref a] H (fun v _ => v = .bl true) fun _ _ _ => False) :
    codeAny (model P w) callerA (.call (.ref (He.ga K x)) ⟨[.ref a], []⟩) (fun r s' => r = .ok (.ret (.bool true)) ∧ OldK s1.heap s'.heap ∧ s'.os = s1.os ∧ AllBare s'.gens) s1 := by
  have md : L2.Mod K mg (hidT s1.heap (hpS K cs a us ns)) := ⟨T.kin, T.names T.g, ⟨mb, T.names T.b, T.bb⟩, by
    obtain ⟨mc, h1, h2⟩ := T.lim
    exact ⟨mc, T.names h1, h2⟩⟩
  have at0 : ∀ p ∈ cs, hpS K cs a us ns p.2 = some (.tbl #[]) := fun p hp => hp0_tab (List.mem_map.mpr ⟨p, hp, rfl⟩)
  have env : Env0 P w K mg (hidT s1.heap (hpS K cs a us ns)) callerA [] s1 (hpS K cs a us ns) :=
    ⟨rfl, md, fun _ _ e => of_hidT e, Nat.le_of_eq (hidT_size _ _), trivial, fun b hb => (nomatch (show b ∈ ([] : List Addr) from hb)), T.hok, .of_eq T.gen⟩
  obtain ⟨fd, go, bd⟩ := (F _ T.kin (T.names T.g) T.tabB).ex
  have bt : BindsTo s1 fd ⟨[.ref a], []⟩ ([y].zip [.ref a]) := bd s1 [.ref a] T.k rfl
  refine codeAny_mono (go callerA [] s1 _ _ [.ref a] [.ref a] _ _ hr rfl env bt (.cons rfl .nil) (hsp _ at0 T.script)) fun r s2 h => ?_
  match r, h with
  | .error e, h =>
    obtain ⟨_, _, _, _, _, _, _, _, _, _, _, _, z⟩ := h
    exact z.elim
  | .ok .next, h => exact h.elim
  | .ok .brk, h => exact h.elim
  | .ok .cont, h => exact h.elim
  | .ok (.ret u), h =>
    obtain ⟨v, H2, os, bare, un, ok2, ru, rfl⟩ := h
    obtain rfl : u = Value.bool true := ru
    have same : ∀ b ob, b ∉ cs.map (·.2) → s1.heap.get? b = some ob → s2.heap.get? b = some ob := fun b ob nb e => by
      cases q : hpS K cs a us ns b with
      | none => exact un.keep b ob e q (fun z => (nomatch (show b ∈ ([] : List Addr) from z))) (fun z => (nomatch z))
      | some u =>
        rcases hp0_inv q with ⟨z, _⟩ | ⟨_, rfl, _, rfl⟩
        · exact absurd z nb
        · rw [T.lst] at e
          cases e
          exact (ok2 _ _ (un.frzs _ _ _ q)).1
    have more : ∀ p ∈ cs, ∃ ms : Array Value, s2.heap.get? p.2 = some { cls := .none, data := .fields (#[] ++ ms) } := fun p hp => by
      obtain ⟨ms, z⟩ := un.tbls p.2 #[] (at0 p hp)
      exact ⟨ms, ok2 _ _ z⟩
    refine ⟨rfl, ⟨fun b ob e => ?_, fun b ob e => ?_⟩, os, bare⟩
    · by_cases hb : b ∈ cs.map (·.2)
      · obtain ⟨p, hp, rfl⟩ := List.mem_map.mp hb
        obtain ⟨ms, z⟩ := more p hp
        rw [T.tab p hp] at e
        cases e
        exact .inr (.inl ⟨((T.code p hp).tab (T.tab p hp)).isCodeTable, rfl, #[], ms, rfl, z⟩)
      · exact .inl (same b ob hb e)
    · by_cases hb : b ∈ cs.map (·.2)
      · obtain ⟨p, hp, rfl⟩ := List.mem_map.mp hb
        obtain ⟨ms, z⟩ := more p hp
        exact ⟨_, z⟩
      · exact ⟨ob, same b ob hb e⟩
end
end K5
/-! ### the head: what the top has written -/
namespace K5
open PySem PySem.Spec PyProof.Rows L2 LamX
/-! ### the head's look, the statics within -/
def asY (g : Addr → Option Obj) : Nat → List Addr
  | 0 => [mainGlobals, PySem.cStatics]
  | n + 1 => He.growD g (asY g n)
def ky (n : Nat) (g : Addr → Option Obj) : PySem.W.Frag := He.frT g (asY g n)
def obsY (n : Nat) (fa : List He.Fa) (fn : List He.DefD) (tf : List He.Defn) (ex : PySem.W.Frag → Bool) (g : Addr → Option Obj) : He.AlX := (He.obsT fa fn [] (ky n g), ex (ky n g) && He.tabsB g tf (ky n g))
theorem saysY {n : Nat} {fa : List He.Fa} {fn : List He.DefD} {tf : List He.Defn} {ex : PySem.W.Frag → Bool} {w : World} {h : Heap} (e : obsY n fa fn tf ex h.get? = He.valX fn [] w) : He.SaysX fa fn [] tf ex w h (ky n h.get?) := by
  obtain ⟨e1, e2⟩ := Prod.mk.inj e
  obtain ⟨more, tabs⟩ := Bool.and_eq_true_iff.mp e2
  have each : ∀ p ∈ tf, PySem.W.codeHdIn (ky n h.get?) (He.cT (ky n h.get?) p).1 (He.cT (ky n h.get?) p).2 = true ∧
      ∃ o, h.get? (He.cT (ky n h.get?) p).2 = some o ∧ He.emptyTab o = true := by
    intro p hp
    obtain ⟨c1, c2⟩ := Bool.and_eq_true_iff.mp (List.all_eq_true.mp tabs p hp)
    refine ⟨c1, ?_⟩
    revert c2
    cases h.get? (He.cT (ky n h.get?) p).2 with
    | none => exact fun z => nomatch z
    | some o => exact fun z => ⟨o, rfl, z⟩
  refine ⟨e1, more, fun p hp => (each p hp).1, fun p hp => ?_, fun p hp => ?_⟩
  · obtain ⟨-, o, q, z⟩ := each p hp
    exact He.frT_none q z
  · obtain ⟨-, o, q, z⟩ := each p hp
    rw [q, He.emptyTab_eq z]
def hookY (n : Nat) (fa : List He.Fa) (fn : List He.DefD) (tf : List He.Defn) (ex : PySem.W.Frag → Bool) : PySem.W.Hook where
  α := He.AlX
  obs s := obsY n fa fn tf ex s.heap.get?
  val w := He.valX fn [] w
  says w h := ∃ K : PySem.W.Frag, K.In h ∧ He.SaysX fa fn [] tf ex w h K
  of _ _ e := ⟨_, He.frT_in, saysY e⟩
  keeps _ _ _ z k := by
    obtain ⟨K, hK, c⟩ := z
    exact ⟨K, hK.keeps k, c.t, c.more, c.hd, c.out, fun p hp => k _ _ (c.empty p hp)⟩
theorem obsY_eq {n : Nat} {fa : List He.Fa} {fn : List He.DefD} {tf : List He.Defn} {ex : PySem.W.Frag → Bool} {g : Addr → Option Obj} {s : Shared} (h : ∀ a, g a = s.heap.get? a) : obsY n fa fn tf ex g = (hookY n fa fn tf ex).obs s := by
  obtain rfl : g = s.heap.get? := funext h
  rfl
def exB (K : PySem.W.Frag) : Bool := sheB K (He.ga K "ShotError") && (inB K "BadText" ["line", "place"] && (inB K "BadLot" ["part", "number"] && inB K "BadTurn" ["given"]))
def exC (K : PySem.W.Frag) : Bool := (erN.all fun D => excB K (He.ga K D)) && ((erN.all fun D => clsN.all fun C => decide (PySem.W.kitOne K (.ref (He.ga K D)) (.ref (He.ga K C)) = some (decide (D = C) || decide (C = "ShotError")))) &&
  erN.all fun D => decide (PySem.W.exmOne K (.ref (He.ga K D)) (.ref (He.ga K "ShotError")) = some true))
def exD (K : PySem.W.Frag) : Bool := tfN.all fun p => tfN.all fun q => decide (p = q) || !decide ((He.cT K p).2 = (He.cT K q).2)
def exK (K : PySem.W.Frag) : Bool := exB K && (exC K && exD K)
abbrev RR : PySem.W.OpenRow := PySem.W.OpenLaw.row PySem.Challenge.rw_sidewayshots_k05_whole_written_forms
abbrev hk : PySem.W.Hook := hookY 5 fa fn tfN exK
def ob (s : PySem.W.SharedT) : He.AlX := obsY 5 fa fn tfN exK (HandSHeadRun.getT s)
theorem ob_eq (s : PySem.W.SharedT) : ob s = hk.obs s.abs := obsY_eq (HandSHeadRun.getT_eq s)
def loose0 : List PySem.Str := ["__name__", "ShotError", "BadLot", "BadText", "BadTurn", "BadShot", "BadChain", "BadTable", "BadSmall", "BadNumber", "BadMark", "BadPaper", "TooMany", "BadQuestion", "LEAST_CORNERS", "MOST_CORNERS", "is_corners", "is_any_turn", "need_turn", "LETTERS", "MOST_LETTERS", "MOST_SHOTS", "MOST_PROGRAMS", "MOST_MARKS", "is_mark", "is_turn_of", "is_shot", "is_entry", "are_rising", "is_program"]
def loose1 : List PySem.Str := ["need_shots", "need_programs", "need_lot", "entries_in", "marks_in", "FIGURES", "MOST_FIGURES", "CORNERS", "SHOT", "PROGRAM", "BLANK", "NEWLINE", "NO_MARK", "turn_words", "mark_words", "turn_text", "lot_text", "need_sign", "need_word", "need_end", "run_end", "turn_at", "mark_at", "corners_told", "shot_told", "entry_told", "row_told", "read_lot", "_law_mixed", "_law_begin"]
def loose2 : List PySem.Str := ["_law_draw", "_law_of", "_law_turn", "_law_mark", "_law_program", "_law_lot", "_law_turn_text", "_law_mark_text", "_law_lot_text", "_law_turn_told", "_law_mark_told", "_law_word_told", "_law_pair_told", "_law_line_told", "_law_lot_told", "_law_said", "_law_right", "_law_bent", "_law_hand_right"]
def loose : List PySem.Str := loose0 ++ loose1 ++ loose2
theorem run (w : World) : HandSHeadRun.RunEq RR (PySem.W.view RR.prog [83]) hk ob 8000 loose w := by
  intro os
  kernel_rfl
theorem noD : ∀ d ∈ fn, d.dfl = [] ∧ d.kwd = [] := by
  have e : (fn.all fun d => d.dfl.isEmpty && d.kwd.isEmpty) = true := by rfl
  intro d hd
  obtain ⟨h1, h2⟩ := b2 (List.all_eq_true.mp e d hd)
  exact ⟨List.isEmpty_iff.mp h1, List.isEmpty_iff.mp h2⟩
theorem txt_of {P : Program} {w : World} {K : PySem.W.Frag} {h base : Heap} {mg : Str → Option Value} (KX : K.In base) (G : base.Ns mainGlobals mg) (c : He.SaysX fa fn [] tfN exK w h K)
    (tb : ∀ p ∈ tfN, TabB base mg (He.cT K p).1 (He.cT K p).2) : TxtT P w K mg base := by
  obtain ⟨e1, e2⟩ := b2 (show (exB K && (exC K && exD K)) = true from c.more)
  obtain ⟨e2, e3⟩ := b2 e2
  obtain ⟨f1, f2⟩ := b2 (show (sheB K (He.ga K "ShotError") && (inB K "BadText" ["line", "place"] && (inB K "BadLot" ["part", "number"] && inB K "BadTurn" ["given"]))) = true from e1)
  obtain ⟨f2, f3⟩ := b2 f2
  obtain ⟨f3, f4⟩ := b2 f3
  obtain ⟨g1, g2⟩ := b2 e2
  obtain ⟨g2, g3⟩ := b2 g2
  have fact : ∀ f, f ∈ fa → f.ok K = true := fun f hf => He.SaysD.facts c.t.d hf
  refine ⟨⟨⟨fun x hx => He.glo_ok KX G (fact _ ?_), fun x hx => He.free_ok KX G (fact _ ?_), fun p hp => He.int_ok KX G (fact (.int p.1 p.2) ?_), fun p hp => He.str_ok KX G (fact (.str p.1 (S p.2)) ?_), fun d hd => ?_, she_of f1, in_of f2, in_of f3, in_of f4⟩,
    fun D hD => exc_of (List.all_eq_true.mp g1 D hD), fun D hD C hC => of_decide_eq_true (List.all_eq_true.mp (List.all_eq_true.mp g2 D hD) C hC), fun D hD => of_decide_eq_true (List.all_eq_true.mp g3 D hD)⟩, tb, fun p hp q hq e => ?_⟩
  · exact List.mem_append.mpr (.inl (List.mem_append.mpr (.inl (List.mem_append.mpr (.inl (List.mem_map.mpr ⟨x, hx, rfl⟩))))))
  · exact List.mem_append.mpr (.inl (List.mem_append.mpr (.inl (List.mem_append.mpr (.inr (List.mem_map.mpr ⟨x, hx, rfl⟩))))))
  · exact List.mem_append.mpr (.inl (List.mem_append.mpr (.inr (List.mem_map.mpr ⟨p, hp, rfl⟩))))
  · exact List.mem_append.mpr (.inr (List.mem_map.mpr ⟨p, hp, rfl⟩))
  · obtain ⟨fd, F⟩ := He.SaysD.defs c.t.d hd
    have z1 : d.dvs K = [] := by
      unfold He.DefD.dvs
      rw [(noD d hd).1]
      rfl
    have z2 : d.kws K = [] := by
      unfold He.DefD.kws
      rw [(noD d hd).2]
      rfl
    rw [z1, z2] at F
    exact ⟨fd, F⟩
  · have z := List.all_eq_true.mp (List.all_eq_true.mp e3 p hp) q hq
    rw [decide_eq_true e] at z
    simpa using z
end K5
/-! ### the end -/
namespace K5
open PySem PySem.Spec PyProof.Rows L2 LamX
theorem tabs_empty {K : PySem.W.Frag} {H : Hp} (h : ∀ p ∈ tfN.map (fun p => He.cT K p), H p.2 = some (.tbl #[])) : Tabs (Tt K) H := fun p hp => by
  obtain ⟨q, hq, rfl⟩ := List.mem_map.mp hp
  refine ⟨#[], h _ (List.mem_map.mpr ⟨q, hq, rfl⟩), ?_, fun pos cv hc => ?_⟩
  · trivial
  · cases hc
theorem walk_end : PySem.W.WalkO (PySem.W.view RR.prog [83]) loose (PySem.W.XL (PySem.W.view RR.prog [83]) []) hk.says RR.toRowW (HandSHeadRun.topDef RR.prog 83) [] (fun f vs => PySem.call f vs) := by
  refine Att.attach_callB (l := PySem.Challenge.rw_sidewayshots_k05_whole_written_forms) (n := 63) rfl (by kernel_rfl) fun w s0 s1 mg mb f o pm cd doc a vs ns G Y ho hd hcd hmg hobj hints hlen hbits hg => ?_
  obtain ⟨K, KX, c⟩ := Y
  have en : (HandSHeadRun.topDef RR.prog 83).name = ("law" : Str) := by kernel_rfl
  rw [en] at hmg
  have hl : mg ("law" : Str) = some (.ref (He.ga K "law")) := He.glo_ok KX G.T.g (He.SaysD.facts c.t.d (by
    refine List.mem_append.mpr (.inl (List.mem_append.mpr (.inl (List.mem_append.mpr (.inl (List.mem_map.mpr ⟨"law", by decide +kernel, rfl⟩))))))))
  rw [hl] at hmg
  cases hmg
  have T : Start K mg mb (tfN.map fun p => He.cT K p) s1 a vs ns := by
    refine ⟨KX, G.T.g, G.T.b, G.T.builtins, G.T.nolimit, hg, fun p hp => ?_, fun p hp => ?_, fun p hp => ?_, G.T.bmain, hobj, hints, Nat.le_trans hlen (by decide)⟩
    · obtain ⟨q, hq, rfl⟩ := List.mem_map.mp hp
      exact c.empty q hq
    · obtain ⟨q, hq, rfl⟩ := List.mem_map.mp hp
      exact c.out q hq
    · obtain ⟨q, hq, rfl⟩ := List.mem_map.mp hp
      exact PySem.W.codeHd_of_K KX (c.hd q hq)
  exact T.run (x := "law") (y := "_law_script") (sp := sp_law K) (k := 14) ⟨rfl, by decide, by decide⟩ (fun base hK hN hTB => g_law (txt_of hK hN c fun p hp => hTB _ (List.mem_map.mpr ⟨p, hp, rfl⟩)))
    fun H hH hS => ⟨a, ns, rfl, hS, hlen, tabs_empty hH, fun _ => rfl⟩
end K5
open PySem PySem.W PySem.Calls PyProof.Rows
theorem PySem.Challenge.cw_sidewayshots_k05_whole_written_forms_holds : PySem.Challenge.rw_sidewayshots_k05_whole_written_forms.Holds := by
  w_on; o_law
  refine HandSHeadRun.head_any (r := K5.RR) (q := PySem.W.view K5.RR.prog [83]) (H := K5.hk) (ob := K5.ob) (M := 8000) (loose := K5.loose) (d := HandSHeadRun.topDef K5.RR.prog 83) (kwd := []) K5.ob_eq
    (by kernel_rfl) (fun s => by kernel_rfl) K5.run (by kernel_rfl) (by kernel_rfl) (by kernel_rfl) (by rfl) (by first | assumption | decide +kernel) (by decide +kernel) ⟨rfl, rfl, rfl, rfl, rfl, by decide +kernel⟩ ?hw ?hc
  case hw => w_witness2
  case hc => exact K5.walk_end
