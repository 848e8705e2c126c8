import PyProof.Rows.All
import Wide.All
import OpenK.AllK
import Wide.FinOn
import KE.GoesZip
import KE.GoesMore
import KE.GoesEnumKw
import KE.KDictZip
import HandS.Zip0
import PyProof.ListNew
import KE.KDictPairs
import KE.KStateDown
import HandS.Base
import HandS.Call
import HandS.Ends
import HandS.More
import HandS.Words
import HandS.WordsExc
import HandS.Defaults
import HandS.Head0
import HandS.Head1
import HandS.Head2
import HandS.HeadEnd
import HandS.HeadHook1
import HandS.HeadHook2
import HandS.HeadHook3
import HandS.HeadHook4
import HandS.List
import HandS.Comp
import HandS.Dict
import HandS.Iter
import HandS.Deep
import HandS.TupAny
import HandS.Conv
import HandS.IsInst
import HandS.RaiseMore
import HandS.MakeKwOnly
import HandS.Zip
import HandS.Walk
import HandS.DictComp
import KE.KDictOf
import KE.SortData
import KE.KUnpackStar
import HandS.TupSets
import HandS.Strs
import HandS.TryOnly
import PySem.Challenge.RW_crossedwishes_k38_whole_what_two_ends_ag
set_option Elab.async false
set_option linter.all false
/-! part CwMirror -/
/-! The mirror: what the program's defs compute, over plain lists. -/
namespace CW
open PySem
abbrev Pr := Str × Int
abbrev Plan := List (Str × List Int)
inductive Word | ask | yes | no | rather | bye | here | there
  deriving DecidableEq
inductive Stand | closed | asking | opn
  deriving DecidableEq
structure Wish where
  kind : Str
  worths : List Int
  must : Bool
  needs : Option Pr
  deriving DecidableEq
structure Letter where
  who : Str
  word : Word
  mine : Int
  yours : Int
  number : Int
  pairs : List Pr
  deriving DecidableEq
structure End where
  name : Str
  wishes : List Wish
  stand : Stand
  turn : Int
  yours : Int
  number : Int
  plan : Plan
  refused : List Pr
  given : Option (List Pr)
  heard : Int
  took : Option (List Pr)
  last : Option Letter
  tries : Int
  echoes : Int
  why : Str
  deriving DecidableEq
/-! wishes -/
def leftOf (k : Str) (ws : List Int) (ref : List Pr) : List Int := if (k, -1) ∈ ref then [] else ws.filter fun w => decide ((k, w) ∉ ref)
def planOf (wishes : List Wish) (ref : List Pr) : Plan := wishes.map fun x => (x.kind, leftOf x.kind x.worths ref)
def needOk (acc : List Pr) : Option Pr → Bool
  | none => true
  | some q => decide (q ∈ acc)
def askGo : List Wish → Plan → List Pr → List Pr
  | x :: xs, p :: ps, acc => match p.2 with
    | [] => askGo xs ps acc
    | w :: _ => if needOk acc x.needs then askGo xs ps (acc ++ [(x.kind, w)]) else askGo xs ps acc
  | _, _, acc => acc
def askOf (wishes : List Wish) (plan : Plan) : List Pr := askGo wishes plan []
/-! answers -/
def boundOf (bounds : Plan) (k : Str) : List Int := (bounds.lookup k).getD []
def answer (bounds : Plan) (ask : List Pr) : Word × List Pr :=
  if (ask.filter fun p => (bounds.lookup p.1).isNone) ≠ [] then (.no, ask.filter fun p => (bounds.lookup p.1).isNone)
  else if (ask.filter fun p => decide (p.2 ∉ boundOf bounds p.1)) ≠ [] then
    (.rather, (ask.filter fun p => decide (p.2 ∉ boundOf bounds p.1)).map fun p => (p.1, (boundOf bounds p.1).headD 0))
  else (.yes, ask)
def letterCp (c : Nat) : Bool := decide (97 ≤ c ∧ c ≤ 122)
def nameOk (k : Str) : Bool := decide (1 ≤ k.cps.size ∧ k.cps.size ≤ 8) && k.cps.toList.all letterCp
def worthOk (w : Int) : Bool := decide (0 ≤ w ∧ w ≤ 9999)
def pairOk (p : Pr) : Bool := nameOk p.1 && worthOk p.2
def rising : List Nat → Bool
  | a :: b :: r => decide (a < b) && rising (b :: r)
  | _ => true
def refusals (isNo : Bool) (pairs ask : List Pr) : Bool :=
  decide (pairs ≠ []) && (pairs.all fun p => decide (p.1 ∈ ask.map (·.1))) && rising (pairs.map fun p => (ask.map (·.1)).idxOf p.1) &&
    pairs.all fun p => decide (p ∈ ask) == isNo
def leftBehind (isNo : Bool) (w : Int) (left : List Int) : List Int :=
  if isNo then [] else if w ∉ left.drop 1 then left.drop 1 else w :: (left.drop 1).filter fun x => decide (x ≠ w)
inductive Comes
  | agreed (ask : List Pr)
  | failed (k : Str)
  | plan (p : Plan)
def planBehind (isNo : Bool) (pairs : List Pr) (plan : Plan) : Plan := plan.map fun q => (q.1, match pairs.lookup q.1 with
  | some w => leftBehind isNo w q.2
  | none => q.2)
def planAt (plan : Plan) (k : Str) : List Int := (plan.lookup k).getD []
def newRefused (isNo : Bool) (pairs ask : List Pr) : List Pr := pairs.map fun p => (p.1, if isNo then -1 else (ask.lookup p.1).getD 0)
def lacking (wishes : List Wish) (plan : Plan) : Option Wish := wishes.find? fun x => x.must && decide (planAt plan x.kind = [])
def behindRef (isNo : Bool) (wishes : List Wish) (plan : Plan) (pairs : List Pr) : Option Comes :=
  if refusals isNo pairs (askOf wishes plan) then
    match lacking wishes (planBehind isNo pairs plan) with
    | some x => some (.failed x.kind)
    | none => some (.plan (planBehind isNo pairs plan))
  else none
def behind (wishes : List Wish) (plan : Plan) (word : Word) (pairs : List Pr) : Option Comes :=
  if pairs.all pairOk then
    match word with
    | .yes => if pairs = askOf wishes plan then some (.agreed (askOf wishes plan)) else none
    | .no => behindRef true wishes plan pairs
    | .rather => behindRef false wishes plan pairs
    | _ => none
  else none
/-! ends -/
def openOf (e : End) : Bool := e.given.isSome && e.took.isSome
def asEnd (e : End) : End := { e with stand := if e.stand = .closed then .closed else if openOf e then .opn else .asking }
def writ (e : End) (w : Word) (n : Int) (ps : List Pr) : Letter := ⟨e.name, w, e.turn, e.yours, n, ps⟩
def askLet (e : End) : Letter := writ e .ask e.number (askOf e.wishes e.plan)
def atRest (e : End) : End := { e with stand := .closed, number := 0, plan := [], refused := [], given := none, heard := 0, took := none, last := none, tries := 0 }
def begun (e : End) (tr : Int) : End := { atRest e with stand := .asking, number := 1, plan := planOf e.wishes [], tries := tr, why := "" }
def shutE (e : End) (why : Str) : End := { atRest e with why := why }
def newEnd (name : Str) (wishes : List Wish) : End := ⟨name, wishes, .closed, 0, 0, 0, [], [], none, 0, none, none, 0, 0, "new"⟩
def openedE (e : End) (tr : Int) : End := begun { e with turn := e.turn + 1, echoes := 0 } tr
def opened (e : End) (tr : Int) : End × List Letter := (asEnd (openedE e tr), [askLet (openedE e tr)])
def closing (e : End) : End × List Letter := (asEnd (shutE e "closed"), [writ e .bye 0 []])
def ticked (e : End) : End × List Letter :=
  if e.stand = .closed then (e, [])
  else if e.tries = 0 then (asEnd (shutE e "tries"), [writ e .bye 0 []])
  else (asEnd { e with tries := e.tries - 1 }, [if e.given.isNone then askLet e else writ e .here 0 []])
def hasFailed (wishes : List Wish) (plan : Plan) : Bool := (wishes.zip plan).any fun q => q.1.must && decide (q.2.2 = [])
def wishedE (e : End) (ws : List Wish) (tr : Int) : End := { e with wishes := ws, plan := planOf ws e.refused, number := e.number + 1, given := none, tries := tr }
def wished (e : End) (ws : List Wish) (tr : Int) : End × List Letter :=
  if e.stand = .closed then (asEnd { e with wishes := ws }, [])
  else if hasFailed ws (planOf ws e.refused) then (asEnd (shutE { e with wishes := ws, plan := planOf ws e.refused } "failed"), [writ e .bye 0 []])
  else (asEnd (wishedE e ws tr), [askLet (wishedE e ws tr)])
/-! hearing; r: what is refused behind a plan's answer, in some order -/
def heardClosed (e : End) (l : Letter) : List Letter :=
  if l.yours = 0 ∨ l.yours ≠ e.turn ∨ l.word = .bye then [] else [⟨e.name, .bye, l.yours, l.mine, 0, []⟩]
def askHeard (e : End) (l : Letter) (bounds : Plan) : End :=
  { e with heard := l.number, took := if (answer bounds l.pairs).1 = .yes then some l.pairs else none, last := some (writ e (answer bounds l.pairs).1 l.number (answer bounds l.pairs).2) }
def heardAsk (e : End) (l : Letter) (bounds : Plan) : End × List Letter :=
  if l.number < e.heard then (e, [])
  else if l.number > e.heard then (askHeard e l bounds, [writ e (answer bounds l.pairs).1 l.number (answer bounds l.pairs).2])
  else (e, e.last.toList)
def planned (e : End) (p : Plan) (r : List Pr) (tr : Int) : End := { e with tries := tr, plan := p, refused := r, number := e.number + 1 }
def heardAnswer (r : List Pr) (e : End) (l : Letter) (tr : Int) : End × List Letter :=
  if l.number ≠ e.number ∨ e.given.isSome then (e, [])
  else match behind e.wishes e.plan l.word l.pairs with
    | none => (e, [])
    | some (.failed _) => (shutE e "failed", [writ e .bye 0 []])
    | some (.agreed a) => ({ e with tries := tr, given := some a }, [])
    | some (.plan p) => (planned e p r tr, [askLet (planned e p r tr)])
def heardWord (r : List Pr) (e : End) (l : Letter) (bounds : Plan) (tr : Int) : End × List Letter :=
  match l.word with
  | .ask => heardAsk e l bounds
  | .bye => (shutE e "bye", [])
  | .here => (e, [writ e .there 0 []])
  | .there => ({ e with tries := tr }, [])
  | _ => heardAnswer r e l tr
def learnt (e : End) (l : Letter) (tr : Int) : End := if l.mine > e.yours then begun { e with yours := l.mine } tr else e
def learntLs (e : End) (l : Letter) (tr : Int) : List Letter := if l.mine > e.yours then [askLet (begun { e with yours := l.mine } tr)] else []
def heard (r : List Pr) (e : End) (l : Letter) (bounds : Plan) (tr : Int) : End × List Letter :=
  if e.stand = .closed then (e, heardClosed e l)
  else if l.mine = (learnt e l tr).yours ∧ l.yours = (learnt e l tr).turn then
    (asEnd (heardWord r (learnt e l tr) l bounds tr).1, learntLs e l tr ++ (heardWord r (learnt e l tr) l bounds tr).2)
  else (asEnd (learnt e l tr), learntLs e l tr)
def standsOpen (a b : End) : Bool := decide (a.stand = .opn) && decide (b.stand = .opn) && decide (a.yours = b.turn) && decide (b.yours = a.turn)
/-- what an answer's plan refuses: the old and the new, in some order, none twice -/
def RefOk (r old new : List Pr) : Prop := r.Nodup ∧ ∀ p, p ∈ r ↔ p ∈ old ∨ p ∈ new
def newRef (e : End) (l : Letter) : List Pr := newRefused (decide (l.word = .no)) l.pairs (askOf e.wishes e.plan)
end CW
/-! part CwAsk -/
/-! Plain facts of asks, plans, answers. -/
namespace CW
open PySem
def menu : List Int := [0, 1, 2, 3, 7, 10, 9999, 5000]
structure WishOk (ks : List Str) (x : Wish) : Prop where
  kin : x.kind ∈ ks
  ne : x.worths ≠ []
  nd : x.worths.Nodup
  len : x.worths.length ≤ 4
  men : ∀ w ∈ x.worths, w ∈ menu
structure WOk (ks : List Str) (ws : List Wish) : Prop where
  nd : (ws.map (·.kind)).Nodup
  each : ∀ x ∈ ws, WishOk ks x
def PlanFor : List Wish → Plan → Prop
  | [], [] => True
  | x :: xs, q :: qs => q.1 = x.kind ∧ (∀ w ∈ q.2, w ∈ x.worths) ∧ q.2.length ≤ x.worths.length ∧ PlanFor xs qs
  | _, _ => False
def mP (p : Plan) : Nat := (p.map fun q => q.2.length).sum
def mW (ws : List Wish) : Nat := (ws.map fun x => x.worths.length).sum
theorem PlanFor.kinds : ∀ {ws : List Wish} {p : Plan}, PlanFor ws p → p.map (·.1) = ws.map (·.kind)
  | [], [], _ => rfl
  | x :: xs, q :: qs, h => by
    obtain ⟨h1, _, _, h4⟩ := h
    simp only [List.map_cons, h1, PlanFor.kinds h4]
  | [], _ :: _, h => h.elim
  | _ :: _, [], h => h.elim
theorem PlanFor.le : ∀ {ws : List Wish} {p : Plan}, PlanFor ws p → mP p ≤ mW ws
  | [], [], _ => Nat.le_refl _
  | x :: xs, q :: qs, h => by
    obtain ⟨_, _, h3, h4⟩ := h
    have := PlanFor.le h4
    simp only [mP, mW, List.map_cons, List.sum_cons] at *
    omega
  | [], _ :: _, h => h.elim
  | _ :: _, [], h => h.elim
theorem PlanFor.len : ∀ {ws : List Wish} {p : Plan}, PlanFor ws p → p.length = ws.length := fun h => by
  have := congrArg List.length h.kinds
  simpa using this
theorem leftOf_sub (k : Str) (ws : List Int) (ref : List Pr) : (∀ w ∈ leftOf k ws ref, w ∈ ws) ∧ (leftOf k ws ref).length ≤ ws.length := by
  unfold leftOf
  split
  · simp
  · exact ⟨fun w hw => (List.mem_filter.mp hw).1, List.length_filter_le _ _⟩
theorem planOf_for (ref : List Pr) : ∀ ws : List Wish, PlanFor ws (planOf ws ref)
  | [] => trivial
  | x :: xs => ⟨rfl, (leftOf_sub _ _ _).1, (leftOf_sub _ _ _).2, planOf_for ref xs⟩
theorem leftOf_nil (k : Str) (ws : List Int) : leftOf k ws [] = ws := by
  unfold leftOf
  simp
theorem mP_planOf_nil : ∀ ws : List Wish, mP (planOf ws []) = mW ws
  | [] => rfl
  | x :: xs => by
    have := mP_planOf_nil xs
    simp only [mP, mW, planOf, List.map_cons, List.sum_cons, leftOf_nil] at *
    omega
/-! asks -/
/-- what an ask's pairs are -/
def Heads : List Wish → Plan → List Pr → Prop
  | _, _, [] => True
  | x :: xs, q :: qs, p :: ps => (p.1 = x.kind ∧ (∃ r, q.2 = p.2 :: r) ∧ Heads xs qs ps) ∨ Heads xs qs (p :: ps)
  | _, _, _ :: _ => False
theorem Heads.skip {x : Wish} {xs : List Wish} {q : Str × List Int} {qs : Plan} : ∀ {ps : List Pr}, Heads xs qs ps → Heads (x :: xs) (q :: qs) ps
  | [], _ => by unfold Heads; trivial
  | _ :: _, h => by unfold Heads; exact .inr h
theorem Heads.nil {xs : List Wish} {qs : Plan} : Heads xs qs [] := by unfold Heads; cases xs <;> cases qs <;> trivial
theorem askGo_heads : ∀ (xs : List Wish) (qs : Plan) (acc : List Pr), ∃ ps, askGo xs qs acc = acc ++ ps ∧ Heads xs qs ps
  | [], qs, acc => ⟨[], by simp [askGo], Heads.nil⟩
  | x :: xs, [], acc => ⟨[], by simp [askGo], Heads.nil⟩
  | x :: xs, q :: qs, acc => by
    obtain ⟨k, l⟩ := q
    cases l with
    | nil =>
      obtain ⟨ps, e, h⟩ := askGo_heads xs qs acc
      exact ⟨ps, by simp [askGo, e], Heads.skip h⟩
    | cons w r =>
      by_cases hn : needOk acc x.needs = true
      · obtain ⟨ps, e, h⟩ := askGo_heads xs qs (acc ++ [(x.kind, w)])
        refine ⟨(x.kind, w) :: ps, by simp [askGo, hn, e], ?_⟩
        unfold Heads
        exact .inl ⟨rfl, ⟨r, rfl⟩, h⟩
      · obtain ⟨ps, e, h⟩ := askGo_heads xs qs acc
        exact ⟨ps, by simp [askGo, hn, e], Heads.skip h⟩
theorem askOf_heads (ws : List Wish) (p : Plan) : Heads ws p (askOf ws p) := by
  obtain ⟨ps, e, h⟩ := askGo_heads ws p []
  unfold askOf
  rw [e]
  simpa using h
theorem Heads.sub : ∀ {xs : List Wish} {qs : Plan} {ps : List Pr}, Heads xs qs ps → (ps.map (·.1)).Sublist (xs.map (·.kind))
  | xs, qs, [], _ => by simp
  | [], qs, p :: ps, h => by cases qs <;> (unfold Heads at h; exact h.elim)
  | x :: xs, [], p :: ps, h => by unfold Heads at h; exact h.elim
  | x :: xs, q :: qs, p :: ps, h => by
    unfold Heads at h
    rcases h with ⟨h1, _, h3⟩ | h
    · simp only [List.map_cons, h1]
      exact (Heads.sub h3).cons_cons _
    · simp only [List.map_cons]
      have := Heads.sub h
      simp only [List.map_cons] at this
      exact this.cons _
theorem Heads.mem : ∀ {xs : List Wish} {qs : Plan} {ps : List Pr}, PlanFor xs qs → Heads xs qs ps → ∀ p ∈ ps, ∃ x ∈ xs, p.1 = x.kind ∧ p.2 ∈ x.worths ∧ ∃ r, (p.1, p.2 :: r) ∈ qs
  | xs, qs, [], _, _, p, hp => by simp at hp
  | [], qs, p :: ps, _, h, _, _ => by cases qs <;> (unfold Heads at h; exact h.elim)
  | x :: xs, [], p :: ps, _, h, _, _ => by unfold Heads at h; exact h.elim
  | x :: xs, q :: qs, p :: ps, hf, h, p', hp => by
    obtain ⟨f1, f2, f3, f4⟩ := hf
    unfold Heads at h
    rcases h with ⟨h1, ⟨r, h2⟩, h3⟩ | h
    · rcases List.mem_cons.mp hp with e | hp
      · subst e
        refine ⟨x, by simp, h1, f2 _ (by rw [h2]; simp), r, ?_⟩
        obtain ⟨q1, q2⟩ := q
        simp only at h2 f1
        subst h2
        rw [h1, ← f1]
        simp
      · obtain ⟨y, hy, a, b, r', c⟩ := Heads.mem f4 h3 p' hp
        exact ⟨y, by simp [hy], a, b, r', by simp [c]⟩
    · obtain ⟨y, hy, a, b, r', c⟩ := Heads.mem f4 h p' hp
      exact ⟨y, by simp [hy], a, b, r', by simp [c]⟩
structure AskOk (ws : List Wish) (plan : Plan) (ask : List Pr) : Prop where
  nd : (ask.map (·.1)).Nodup
  mem : ∀ p ∈ ask, ∃ x ∈ ws, p.1 = x.kind ∧ p.2 ∈ x.worths ∧ ∃ r, (p.1, p.2 :: r) ∈ plan
theorem askOf_ok {ks : List Str} {ws : List Wish} {plan : Plan} (h : WOk ks ws) (hp : PlanFor ws plan) : AskOk ws plan (askOf ws plan) :=
  ⟨(askOf_heads ws plan).sub.nodup h.nd, fun p hm => (askOf_heads ws plan).mem hp p hm⟩
theorem menu_ok {w : Int} (h : w ∈ menu) : worthOk w = true := by
  simp only [menu, List.mem_cons, List.not_mem_nil, or_false] at h
  rcases h with h | h | h | h | h | h | h | h <;> subst h <;> decide
theorem ask_pairOk {ks : List Str} {ws : List Wish} {plan : Plan} {ask : List Pr} (hk : ∀ k ∈ ks, nameOk k = true) (h : WOk ks ws) (a : AskOk ws plan ask) : ask.all pairOk = true := by
  rw [List.all_eq_true]
  intro p hp
  obtain ⟨x, hx, e, hw, _⟩ := a.mem p hp
  have hx' := h.each x hx
  unfold pairOk
  rw [e, hk _ hx'.kin, menu_ok (hx'.men _ hw)]
  rfl
/-! bounds and answers -/
structure BOk (b : Plan) : Prop where
  nd : (b.map (·.1)).Nodup
  each : ∀ q ∈ b, q.2 ≠ [] ∧ ∀ w ∈ q.2, worthOk w = true
theorem lookup_mem {b : Plan} {k : Str} {l : List Int} (h : b.lookup k = some l) : (k, l) ∈ b := by
  induction b with
  | nil => simp at h
  | cons q qs ih =>
    obtain ⟨a, c⟩ := q
    rw [List.lookup_cons] at h
    by_cases e : k = a
    · subst e
      simp at h
      simp [h]
    · have e2 : (k == a) = false := by simpa using e
      rw [e2] at h
      simp [ih h]
theorem yes_ask {b : Plan} {ask ps : List Pr} (h : answer b ask = (.yes, ps)) : ps = ask ∧ ∀ p ∈ ask, ∃ l, b.lookup p.1 = some l ∧ p.2 ∈ l := by
  unfold answer at h
  split at h
  · simp at h
  · split at h
    · simp at h
    · rename_i h1 h2
      obtain ⟨_, rfl⟩ := Prod.mk.inj h
      refine ⟨rfl, fun p hp => ?_⟩
      have h1' := Classical.not_not.mp h1
      have h2' := Classical.not_not.mp h2
      have a1 := List.filter_eq_nil_iff.mp h1' p hp
      have a2 := List.filter_eq_nil_iff.mp h2' p hp
      cases e : b.lookup p.1 with
      | none => simp [e] at a1
      | some l => exact ⟨l, rfl, by simpa [boundOf, e] using a2⟩
/-- an answer is no, rather or yes -/
theorem answer_word (b : Plan) (ask : List Pr) : (answer b ask).1 = .yes ∨ (answer b ask).1 = .no ∨ (answer b ask).1 = .rather := by
  unfold answer
  split
  · simp
  · split <;> simp
theorem answer_pairs {b : Plan} (hb : BOk b) {ask : List Pr} (ha : ask.all pairOk = true) : (answer b ask).2.all pairOk = true := by
  rw [List.all_eq_true] at ha ⊢
  unfold answer
  split
  · exact fun p hp => ha p (List.mem_filter.mp hp).1
  · rename_i h1
    split
    · intro p hp
      obtain ⟨q, hq, rfl⟩ := List.mem_map.mp hp
      have hq1 := (List.mem_filter.mp hq).1
      have := ha q hq1
      have h1' := List.filter_eq_nil_iff.mp (Classical.not_not.mp h1) q hq1
      unfold pairOk at this ⊢
      simp only [Bool.and_eq_true] at this ⊢
      refine ⟨this.1, ?_⟩
      cases e : b.lookup q.1 with
      | none => simp [e] at h1'
      | some l =>
        obtain ⟨n1, n2⟩ := hb.each _ (lookup_mem e)
        unfold boundOf
        rw [e]
        cases l with
        | nil => exact absurd rfl n1
        | cons w r => exact n2 w (by simp)
    · exact fun p hp => ha p hp
/-! refusals -/
theorem idx_lt_of_sublist : ∀ {l : List Str} {a b : Str} {r : List Str}, (a :: b :: r).Sublist l → l.Nodup → l.idxOf a < l.idxOf b
  | x :: l, a, b, r, h, hn => by
    rw [List.nodup_cons] at hn
    have hb : b ∈ l := by
      cases h with
      | cons _ h => exact h.subset (by simp)
      | cons_cons _ h => exact h.subset (by simp)
    have hbx : ¬ x = b := fun e => hn.1 (e ▸ hb)
    cases h with
    | cons_cons _ h =>
      have e : (x == b) = false := by simpa using hbx
      rw [List.idxOf_cons_self, List.idxOf_cons, e]
      simp
    | cons _ h =>
      have ha : a ∈ l := h.subset (by simp)
      have hax : ¬ x = a := fun e => hn.1 (e ▸ ha)
      have e1 : (x == a) = false := by simpa using hax
      have e2 : (x == b) = false := by simpa using hbx
      rw [List.idxOf_cons, List.idxOf_cons, e1, e2]
      have := idx_lt_of_sublist h hn.2
      simp
      exact this
theorem rising_of : ∀ {ps : List Pr} {l : List Str}, (ps.map (·.1)).Sublist l → l.Nodup → rising (ps.map fun p => l.idxOf p.1) = true
  | [], _, _, _ => rfl
  | [p], _, _, _ => rfl
  | p :: q :: ps, l, h, hn => by
    have h1 := idx_lt_of_sublist (r := ps.map (·.1)) (by simpa using h) hn
    have h2 := rising_of (ps := q :: ps) ((List.sublist_cons_self _ _).trans (by simpa using h)) hn
    simp only [List.map_cons] at h2 ⊢
    unfold rising
    simp [h1, h2]
theorem refusals_no {b : Plan} {ask ps : List Pr} (hn : (ask.map (·.1)).Nodup) (h : answer b ask = (.no, ps)) : refusals true ps ask = true := by
  unfold answer at h
  split at h
  · rename_i h1
    obtain ⟨_, rfl⟩ := Prod.mk.inj h
    have s : ((ask.filter fun p => (b.lookup p.1).isNone).map (·.1)).Sublist (ask.map (·.1)) := (List.filter_sublist).map _
    unfold refusals
    rw [rising_of s hn]
    simp only [Bool.and_eq_true, decide_eq_true_eq, List.all_eq_true, beq_iff_eq, and_true]
    exact ⟨⟨h1, fun p hp => List.mem_map_of_mem (List.mem_filter.mp hp).1⟩, fun p hp => (List.mem_filter.mp hp).1⟩
  · split at h <;> simp at h
theorem refusals_rather {b : Plan} (hb : BOk b) {ask ps : List Pr} (hn : (ask.map (·.1)).Nodup) (h : answer b ask = (.rather, ps)) : refusals false ps ask = true := by
  unfold answer at h
  split at h
  · simp at h
  · rename_i h1
    split at h
    · rename_i h2
      obtain ⟨_, rfl⟩ := Prod.mk.inj h
      have e0 : ((ask.filter fun p => decide (p.2 ∉ boundOf b p.1)).map fun p => (p.1, (boundOf b p.1).headD 0)).map (·.1) = (ask.filter fun p => decide (p.2 ∉ boundOf b p.1)).map (·.1) := by
        rw [List.map_map]; rfl
      have s : (((ask.filter fun p => decide (p.2 ∉ boundOf b p.1)).map fun p => (p.1, (boundOf b p.1).headD 0)).map (·.1)).Sublist (ask.map (·.1)) := by
        rw [e0]
        exact (List.filter_sublist).map _
      unfold refusals
      rw [rising_of s hn]
      simp only [Bool.and_eq_true, decide_eq_true_eq, List.all_eq_true, and_true, beq_iff_eq, decide_eq_false_iff_not]
      refine ⟨⟨by simpa using h2, fun p hp => ?_⟩, fun p hp hm => ?_⟩
      · obtain ⟨q, hq, rfl⟩ := List.mem_map.mp hp
        exact List.mem_map_of_mem (f := (·.1)) (a := q) (List.mem_filter.mp hq).1
      · obtain ⟨q, hq, rfl⟩ := List.mem_map.mp hp
        obtain ⟨hq1, hq2⟩ := List.mem_filter.mp hq
        -- the same kind in the ask: the same pair
        have same : ∀ {l : List Pr}, (l.map (·.1)).Nodup → ∀ {a c : Pr}, a ∈ l → c ∈ l → a.1 = c.1 → a = c := by
          intro l
          induction l with
          | nil => intro _ a c ha; simp at ha
          | cons z zs ih =>
            intro hz a c ha hc e
            simp only [List.map_cons, List.nodup_cons] at hz
            rcases List.mem_cons.mp ha with rfl | ha'
            · rcases List.mem_cons.mp hc with rfl | hc'
              · rfl
              · exact absurd (List.mem_map_of_mem (f := (·.1)) hc') (by rw [← e]; exact hz.1)
            · rcases List.mem_cons.mp hc with rfl | hc'
              · exact absurd (List.mem_map_of_mem (f := (·.1)) ha') (by rw [e]; exact hz.1)
              · exact ih hz.2 ha' hc' e
        have e := same hn hm hq1 rfl
        have e2 : (boundOf b q.1).headD 0 = q.2 := congrArg Prod.snd e
        have nq := List.filter_eq_nil_iff.mp (Classical.not_not.mp h1) q hq1
        cases el : b.lookup q.1 with
        | none => simp [el] at nq
        | some l =>
          have nl := (hb.each _ (lookup_mem el)).1
          have bo : boundOf b q.1 = l := by simp [boundOf, el]
          rw [bo] at e2 hq2
          cases l with
          | nil => exact nl rfl
          | cons w r =>
            have e3 : w = q.2 := by simpa using e2
            subst e3
            simp at hq2
    · simp at h
theorem leftBehind_sub (n : Bool) (w : Int) (l : List Int) : (∀ x ∈ leftBehind n w l, x ∈ l) ∧ (leftBehind n w l).length ≤ l.length - 1 := by
  unfold leftBehind
  split
  · simp
  · split
    · exact ⟨fun x hx => List.mem_of_mem_drop hx, by simp⟩
    · rename_i h
      have h := Classical.not_not.mp h
      refine ⟨fun x hx => ?_, ?_⟩
      · rcases List.mem_cons.mp hx with rfl | hx
        · exact List.mem_of_mem_drop h
        · exact List.mem_of_mem_drop (List.mem_filter.mp hx).1
      · have h3 : (List.filter (fun x => decide (x ≠ w)) (l.drop 1)).length < (l.drop 1).length :=
          List.length_filter_lt_length_iff_exists.mpr ⟨w, h, by simp⟩
        rw [List.length_cons]
        rw [List.length_drop] at h3
        omega
theorem planBehind_for (n : Bool) (ps : List Pr) : ∀ {ws : List Wish} {p : Plan}, PlanFor ws p → PlanFor ws (planBehind n ps p)
  | [], [], _ => trivial
  | x :: xs, q :: qs, h => by
    obtain ⟨h1, h2, h3, h4⟩ := h
    show PlanFor (x :: xs) ((q.1, _) :: planBehind n ps qs)
    refine ⟨h1, ?_, ?_, planBehind_for n ps h4⟩
    · intro w hw
      cases e : ps.lookup q.1 with
      | none => rw [e] at hw; exact h2 w hw
      | some v => rw [e] at hw; exact h2 w ((leftBehind_sub n v q.2).1 w hw)
    · cases e : ps.lookup q.1 with
      | none => exact h3
      | some v =>
        have := (leftBehind_sub n v q.2).2
        show (leftBehind n v q.2).length ≤ _
        omega
  | [], _ :: _, h => h.elim
  | _ :: _, [], h => h.elim
theorem mP_behind_le (n : Bool) (ps : List Pr) : ∀ p : Plan, mP (planBehind n ps p) ≤ mP p
  | [] => Nat.le_refl _
  | q :: qs => by
    have := mP_behind_le n ps qs
    simp only [mP, planBehind, List.map_cons, List.sum_cons] at *
    cases e : ps.lookup q.1 with
    | none => simp only; omega
    | some v =>
      have := (leftBehind_sub n v q.2).2
      simp only
      omega
theorem mP_behind_lt (n : Bool) (ps : List Pr) {k : Str} {v : Int} (hv : ps.lookup k = some v) : ∀ p : Plan, (∃ w r, (k, w :: r) ∈ p) → mP (planBehind n ps p) < mP p
  | [], h => by simp at h
  | q :: qs, h => by
    obtain ⟨w, r, hm⟩ := h
    have le := mP_behind_le n ps qs
    simp only [mP, planBehind, List.map_cons, List.sum_cons] at *
    rcases List.mem_cons.mp hm with e | hm
    · subst e
      have := (leftBehind_sub n v (w :: r)).2
      simp only [hv]
      simp only [List.length_cons] at this ⊢
      omega
    · have := mP_behind_lt n ps hv qs ⟨w, r, hm⟩
      simp only [mP, planBehind] at this
      cases e : ps.lookup q.1 with
      | none => simp only; omega
      | some v' =>
        have := (leftBehind_sub n v' q.2).2
        simp only
        omega
/-- an answer to one's own ask brings something; a plan is less -/
theorem behind_of {ks : List Str} {ws : List Wish} {plan : Plan} {b : Plan} (hk : ∀ k ∈ ks, nameOk k = true) (h : WOk ks ws) (hp : PlanFor ws plan) (hb : BOk b) {wd : Word} {ps : List Pr} (ha : answer b (askOf ws plan) = (wd, ps)) :
    (wd = .yes ∧ ps = askOf ws plan ∧ behind ws plan wd ps = some (.agreed (askOf ws plan))) ∨
    ((wd = .no ∨ wd = .rather) ∧ ((∃ k, behind ws plan wd ps = some (.failed k)) ∨
      ∃ p, behind ws plan wd ps = some (.plan p) ∧ p = planBehind (decide (wd = .no)) ps plan ∧ PlanFor ws p ∧ mP p < mP plan ∧ lacking ws p = none)) := by
  have ao := askOf_ok h hp
  have pk : ps.all pairOk = true := by
    have := answer_pairs hb (ask_pairOk hk h ao)
    rw [ha] at this
    exact this
  have lt : ∀ n : Bool, refusals n ps (askOf ws plan) = true → mP (planBehind n ps plan) < mP plan := by
    intro n hr
    unfold refusals at hr
    simp only [Bool.and_eq_true, decide_eq_true_eq, List.all_eq_true] at hr
    obtain ⟨⟨⟨h1, h2⟩, _⟩, _⟩ := hr
    obtain ⟨p, hp1⟩ := List.exists_mem_of_ne_nil ps h1
    obtain ⟨q, hq, e⟩ := List.mem_map.mp (h2 p hp1)
    obtain ⟨x, _, _, _, r, hr⟩ := ao.mem q hq
    rw [e] at hr
    have : ∃ v, ps.lookup p.1 = some v := by
      cases el : ps.lookup p.1 with
      | some v => exact ⟨v, rfl⟩
      | none =>
        have := List.lookup_eq_none_iff.mp el p hp1
        simp at this
    obtain ⟨v, hv⟩ := this
    exact mP_behind_lt n ps hv plan ⟨_, _, hr⟩
  have key : ∀ n : Bool, refusals n ps (askOf ws plan) = true → (∃ k, behindRef n ws plan ps = some (.failed k)) ∨ ∃ p, behindRef n ws plan ps = some (.plan p) ∧ p = planBehind n ps plan ∧ PlanFor ws p ∧ mP p < mP plan ∧ lacking ws p = none := by
    intro n hr
    unfold behindRef
    rw [if_pos hr]
    cases e : lacking ws (planBehind n ps plan) with
    | some x => exact .inl ⟨x.kind, rfl⟩
    | none => exact .inr ⟨_, rfl, rfl, planBehind_for n ps hp, lt n hr, e⟩
  rcases answer_word b (askOf ws plan) with e | e | e
  · rw [ha] at e
    simp only at e
    subst e
    obtain ⟨rfl, _⟩ := yes_ask ha
    left
    refine ⟨rfl, rfl, ?_⟩
    unfold behind
    rw [if_pos pk]
    simp
  · rw [ha] at e
    simp only at e
    subst e
    right
    refine ⟨.inl rfl, ?_⟩
    have := key true (refusals_no ao.nd ha)
    unfold behind
    rw [if_pos pk]
    exact this
  · rw [ha] at e
    simp only at e
    subst e
    right
    refine ⟨.inr rfl, ?_⟩
    have := key false (refusals_rather hb ao.nd ha)
    unfold behind
    rw [if_pos pk]
    exact this
end CW
/-! part CwSafe -/
/-! Safety: two ends, the letters on their way, and what each asked at each number. -/
namespace CW
open PySem
/-- what an end asked: turn, yours, number -/
abbrev Gh := Int → Int → Int → Option (List Pr)
def Ext (g g' : Gh) : Prop := ∀ t y n p, g t y n = some p → g' t y n = some p
def gSet (g : Gh) (t y n : Int) (p : List Pr) : Gh := fun a b c => if a = t ∧ b = y ∧ c = n then some p else g a b c
theorem Ext.refl (g : Gh) : Ext g g := fun _ _ _ _ h => h
theorem Ext.trans {a b c : Gh} (h : Ext a b) (k : Ext b c) : Ext a c := fun t y n p e => k t y n p (h t y n p e)
theorem gSet_ext {g : Gh} {t y n : Int} {p : List Pr} (h : g t y n = none) : Ext g (gSet g t y n p) := fun a b c q e => by
  unfold gSet
  split
  · rename_i hh
    obtain ⟨rfl, rfl, rfl⟩ := hh
    rw [h] at e
    cases e
  · exact e
theorem gSet_same (g : Gh) (t y n : Int) (p : List Pr) : gSet g t y n p t y n = some p := by
  unfold gSet
  simp
theorem gSet_cases {g : Gh} {t y n a b c : Int} {p q : List Pr} (h : gSet g t y n p a b c = some q) : (a = t ∧ b = y ∧ c = n) ∨ g a b c = some q := by
  unfold gSet at h
  split at h
  · left; assumption
  · right; exact h
/-- what is fixed of a play: how many tries, the kinds of each end, the bounds by which it answers -/
structure RefInv (ks : List Str) (r : List Pr) : Prop where
  nd : r.Nodup
  mem : ∀ p ∈ r, p.1 ∈ ks ∧ (p.2 ∈ menu ∨ p.2 = -1)
structure Live (TR : Int) (ks : List Str) (bX bY : Plan) (X Y : End) (gX gY : Gh) : Prop where
  turn1 : 1 ≤ X.turn
  number1 : 1 ≤ X.number
  cur : gX X.turn X.yours X.number = some (askOf X.wishes X.plan)
  plan : PlanFor X.wishes X.plan
  ref : RefInv ks X.refused
  tries0 : 0 ≤ X.tries
  triesLe : X.tries ≤ TR
  heard0 : 0 ≤ X.heard
  none0 : X.heard = 0 → X.took = none ∧ X.last = none
  ans : 0 < X.heard → ∃ p, gY X.yours X.turn X.heard = some p ∧ X.took = (if (answer bX p).1 = .yes then some p else none) ∧ X.last = some (writ X (answer bX p).1 X.heard (answer bX p).2)
  giv : ∀ g, X.given = some g → g = askOf X.wishes X.plan ∧ answer bY g = (.yes, g) ∧ X.turn ≤ Y.yours ∧ (Y.stand ≠ .closed → Y.turn = X.yours → Y.yours = X.turn → X.number ≤ Y.heard)
structure Half (TR : Int) (ks : List Str) (bX bY : Plan) (X Y : End) (gX gY : Gh) : Prop where
  turn0 : 0 ≤ X.turn
  yours0 : 0 ≤ X.yours
  yoursLe : X.yours ≤ Y.turn
  norm : asEnd X = X
  wok : WOk ks X.wishes
  gdom : ∀ t y n p, gX t y n = some p → t ≤ X.turn ∧ y ≤ X.yours ∧ 1 ≤ n ∧ p.all pairOk = true ∧ (X.stand ≠ .closed → t = X.turn → y = X.yours → n ≤ X.number)
  live : X.stand ≠ .closed → Live TR ks bX bY X Y gX gY
def isAns (w : Word) : Prop := w = .yes ∨ w = .no ∨ w = .rather
/-- a letter that X wrote to Y -/
structure LetOk (bX : Plan) (X : End) (gX gY : Gh) (l : Letter) : Prop where
  who : l.who = X.name
  mine1 : 1 ≤ l.mine
  mineLe : l.mine ≤ X.turn
  yours0 : 0 ≤ l.yours
  yoursLe : l.word ≠ .bye → l.yours ≤ X.yours
  pairs : l.pairs.all pairOk = true
  ask : l.word = .ask → 1 ≤ l.number ∧ gX l.mine l.yours l.number = some l.pairs
  ans : isAns l.word → (∃ p, gY l.yours l.mine l.number = some p ∧ answer bX p = (l.word, l.pairs)) ∧ (X.stand ≠ .closed → X.turn = l.mine → X.yours = l.yours → l.number ≤ X.heard)
  bye : l.word = .bye → X.turn = l.mine → X.stand = .closed
/-- X goes on to X' -/
structure Adv (X X' : End) : Prop where
  name : X'.name = X.name
  turn : X.turn ≤ X'.turn
  yours : X.yours ≤ X'.yours
  same : X'.stand ≠ .closed → X'.turn = X.turn → X.stand ≠ .closed ∧ (X'.yours = X.yours → X.heard ≤ X'.heard)
theorem Adv.refl {X : End} : Adv X X := ⟨rfl, Int.le_refl _, Int.le_refl _, fun h _ => ⟨h, fun _ => Int.le_refl _⟩⟩
theorem LetOk.adv {bX : Plan} {X X' : End} {gX gY gX' gY' : Gh} {l : Letter} (h : LetOk bX X gX gY l) (a : Adv X X') (e : Ext gX gX') (e' : Ext gY gY') : LetOk bX X' gX' gY' l where
  who := by rw [a.name]; exact h.who
  mine1 := h.mine1
  mineLe := Int.le_trans h.mineLe a.turn
  yours0 := h.yours0
  yoursLe := fun w => Int.le_trans (h.yoursLe w) a.yours
  pairs := h.pairs
  ask := fun w => ⟨(h.ask w).1, e _ _ _ _ (h.ask w).2⟩
  ans := fun w => by
    obtain ⟨⟨p, h1, h2⟩, h3⟩ := h.ans w
    refine ⟨⟨p, e' _ _ _ _ h1, h2⟩, fun c t y => ?_⟩
    have l1 := h.mineLe
    have l2 := h.yoursLe (fun z => by rw [z] at w; rcases w with w | w | w <;> cases w)
    have l3 := a.turn
    have l4 := a.yours
    have t' : X'.turn = X.turn := by omega
    have y' : X'.yours = X.yours := by omega
    obtain ⟨c1, c2⟩ := a.same c t'
    have := h3 c1 (by omega) (by omega)
    have := c2 y'
    omega
  bye := fun w t => by
    have l1 := h.mineLe
    have l3 := a.turn
    have hc := h.bye w (by omega)
    apply Classical.byContradiction
    intro c
    exact (a.same c (by omega)).1 hc
theorem Half.other {TR : Int} {ks : List Str} {bX bY : Plan} {X X' Y : End} {gX gX' gY : Gh} (h : Half TR ks bY bX Y X gY gX) (a : Adv X X') (e : Ext gX gX') : Half TR ks bY bX Y X' gY gX' where
  turn0 := h.turn0
  yours0 := h.yours0
  yoursLe := Int.le_trans h.yoursLe a.turn
  norm := h.norm
  wok := h.wok
  gdom := h.gdom
  live := fun c => by
    have L := h.live c
    refine { L with ans := fun w => ?_, giv := fun g hg => ?_ }
    · obtain ⟨p, h1, h2⟩ := L.ans w
      exact ⟨p, e _ _ _ _ h1, h2⟩
    · obtain ⟨g1, g2, g3, g4⟩ := L.giv g hg
      have l3 := a.turn
      have l4 := a.yours
      have l5 := h.yoursLe
      refine ⟨g1, g2, by omega, fun c' t y => ?_⟩
      have t' : X'.turn = X.turn := by omega
      have y' : X'.yours = X.yours := by omega
      obtain ⟨c1, c2⟩ := a.same c' t'
      have := g4 c1 (by omega) (by omega)
      have := c2 y'
      omega
/-! small facts of the mirror -/
theorem asEnd_closed {e : End} : (asEnd e).stand = .closed ↔ e.stand = .closed := by
  unfold asEnd
  by_cases h : e.stand = .closed
  · simp [h]
  · simp only [h, if_false, iff_false]
    split <;> simp
theorem asEnd_asEnd (e : End) : asEnd (asEnd e) = asEnd e := by
  unfold asEnd openOf
  by_cases h : e.stand = .closed
  · simp [h]
  · simp only [h, if_false]
    split <;> simp_all
theorem asEnd_writ (e : End) (w : Word) (n : Int) (ps : List Pr) : writ (asEnd e) w n ps = writ e w n ps := rfl
theorem asEnd_askLet (e : End) : askLet (asEnd e) = askLet e := rfl
theorem opn_iff {e : End} (h : asEnd e = e) : e.stand = .opn ↔ (e.stand ≠ .closed ∧ e.given.isSome = true ∧ e.took.isSome = true) := by
  have h2 : e.stand = (asEnd e).stand := by rw [h]
  by_cases hc : e.stand = .closed
  · simp [hc]
  · unfold asEnd openOf at h2
    simp only [hc, if_false] at h2
    by_cases ho : (e.given.isSome && e.took.isSome) = true
    · simp only [ho, if_true] at h2
      rw [Bool.and_eq_true] at ho
      simp [h2, ho]
    · rw [if_neg ho] at h2
      rw [Bool.and_eq_true] at ho
      rw [h2]
      simp only [reduceCtorEq, not_false_eq_true, ne_eq, true_and, false_iff]
      exact ho
theorem asEnd_id {e : End} (h : (asEnd e).stand = e.stand) : asEnd e = e := by
  unfold asEnd at h ⊢
  simp only at h
  rw [h]
theorem asEnd_st {e : End} (h : asEnd e = e) : (asEnd e).stand = e.stand := by rw [h]
theorem norm_tries {X : End} (h : asEnd X = X) (n : Int) : asEnd { X with tries := n } = { X with tries := n } := by
  have q := asEnd_st h
  exact asEnd_id q
/-- both halves and the letters: la to a (b wrote them), lb to b -/
structure Pair (TR : Int) (ka kb : List Str) (ba bb : Plan) (a b : End) (ga gb : Gh) (la lb : List Letter) : Prop where
  ha : Half TR ka ba bb a b ga gb
  hb : Half TR kb bb ba b a gb ga
  la : ∀ l ∈ la, LetOk bb b gb ga l
  lb : ∀ l ∈ lb, LetOk ba a ga gb l
theorem Pair.swap {TR : Int} {ka kb : List Str} {ba bb : Plan} {a b : End} {ga gb : Gh} {la lb : List Letter} (h : Pair TR ka kb ba bb a b ga gb la lb) : Pair TR kb ka bb ba b a gb ga lb la := ⟨h.hb, h.ha, h.lb, h.la⟩
/-- THE LAW's look: two that stand open for one another agree -/
theorem Pair.right {TR : Int} {ka kb : List Str} {ba bb : Plan} {a b : End} {ga gb : Gh} {la lb : List Letter} (h : Pair TR ka kb ba bb a b ga gb la lb) (ho : standsOpen a b = true) :
    ∃ g, a.given = some g ∧ b.took = some g ∧ g = askOf a.wishes a.plan ∧ answer bb g = (.yes, g) ∧ PlanFor a.wishes a.plan := by
  unfold standsOpen at ho
  simp only [Bool.and_eq_true, decide_eq_true_eq] at ho
  obtain ⟨⟨⟨o1, o2⟩, y1⟩, y2⟩ := ho
  obtain ⟨ca, ga1, _⟩ := (opn_iff h.ha.norm).mp o1
  obtain ⟨cb, _, tb1⟩ := (opn_iff h.hb.norm).mp o2
  have LA := h.ha.live ca
  have LB := h.hb.live cb
  obtain ⟨g, hg⟩ := Option.isSome_iff_exists.mp ga1
  obtain ⟨t, ht⟩ := Option.isSome_iff_exists.mp tb1
  obtain ⟨g1, g2, g3, g4⟩ := LA.giv g hg
  have n1 := g4 cb (by omega) y2
  have n2 := LA.number1
  obtain ⟨p, p1, p2, _⟩ := LB.ans (by omega)
  rw [y2, ← y1] at p1
  have n3 := (h.ha.gdom _ _ _ _ p1).2.2.2.2 ca rfl rfl
  have n4 : b.heard = a.number := by omega
  rw [n4, LA.cur] at p1
  have e : p = g := by rw [g1]; exact (Option.some.inj p1).symm
  subst e
  rw [g2] at p2
  simp only [if_true] at p2
  exact ⟨p, hg, p2, g1, g2, LA.plan⟩
/-! ### the steps: X goes to X' and writes ls; Y stands -/
structure Step (TR : Int) (ks : List Str) (bX bY : Plan) (X Y : End) (gX gY : Gh) (X' : End) (ls : List Letter) : Prop where
  ex : ∃ gX', Ext gX gX' ∧ Adv X X' ∧ Half TR ks bX bY X' Y gX' gY ∧ ∀ l ∈ ls, LetOk bX X' gX' gY l
section
variable {TR : Int} {ks : List Str} {bX bY : Plan} {X Y : End} {gX gY : Gh}
theorem shut_step (h : Half TR ks bX bY X Y gX gY) (why : Str) (told : Bool) (c : told = true → X.stand ≠ .closed) (wsh : List Wish) (wok : WOk ks wsh) :
    Step TR ks bX bY X Y gX gY (asEnd (shutE { X with wishes := wsh } why)) (if told then [writ X .bye 0 []] else []) := by
  have cl : (asEnd (shutE { X with wishes := wsh } why)).stand = .closed := by rw [asEnd_closed]; rfl
  refine ⟨gX, Ext.refl _, ⟨rfl, Int.le_refl _, Int.le_refl _, fun z => absurd cl z⟩, ⟨h.turn0, h.yours0, h.yoursLe, asEnd_asEnd _, wok, fun t y n p e => ?_, fun z => absurd cl z⟩, ?_⟩
  · obtain ⟨a, b, d, e', _⟩ := h.gdom t y n p e
    exact ⟨a, b, d, e', fun z => absurd cl z⟩
  · intro l hl
    cases told with
    | false => simp at hl
    | true =>
      simp only [if_true, List.mem_singleton] at hl
      subst hl
      have L := h.live (c rfl)
      exact ⟨rfl, L.turn1, Int.le_refl _, h.yours0, fun _ => Int.le_refl _, rfl, fun z => (by cases z), fun z => (by rcases z with z | z | z <;> cases z), fun _ _ => cl⟩
/-- begun anew at a turn and yours that are new -/
theorem begun_step (h : Half TR ks bX bY X Y gX gY) (hk : ∀ k ∈ ks, nameOk k = true) (hTR : 0 ≤ TR) (t y e : Int) (ht : X.turn ≤ t) (hy : X.yours ≤ y) (t1 : 1 ≤ t) (yl : y ≤ Y.turn) (new : X.turn < t ∨ (X.yours < y ∧ X.stand ≠ .closed)) :
    ∃ gX', Ext gX gX' ∧ Adv X (asEnd (begun { X with turn := t, yours := y, echoes := e } TR)) ∧ Half TR ks bX bY (asEnd (begun { X with turn := t, yours := y, echoes := e } TR)) Y gX' gY ∧
      (∀ l ∈ [askLet (begun { X with turn := t, yours := y, echoes := e } TR)], LetOk bX (asEnd (begun { X with turn := t, yours := y, echoes := e } TR)) gX' gY l) := by
  have no : ∀ n, gX t y n = none := fun n => by
    cases q : gX t y n with
    | none => rfl
    | some p =>
      obtain ⟨a, b, _⟩ := h.gdom _ _ _ _ q
      rcases new with z | ⟨z, _⟩ <;> omega
  have pf : PlanFor X.wishes (planOf X.wishes []) := planOf_for [] _
  have ap : (askOf X.wishes (planOf X.wishes [])).all pairOk = true := ask_pairOk hk h.wok (askOf_ok h.wok pf)
  refine ⟨gSet gX t y 1 (askOf X.wishes (planOf X.wishes [])), gSet_ext (no 1), ⟨rfl, ht, hy, fun _ t' => ?_⟩, ⟨(by show 0 ≤ t; omega), (by have := h.yours0; show 0 ≤ y; omega), yl, asEnd_asEnd _, h.wok, ?_, fun _ => ?_⟩, ?_⟩
  · have t'' : t = X.turn := t'
    rcases new with z | ⟨z, c⟩
    · omega
    · refine ⟨c, fun y' => ?_⟩
      have y'' : y = X.yours := y'
      omega
  · intro a b c p q
    rcases gSet_cases q with ⟨rfl, rfl, rfl⟩ | q
    · rw [gSet_same] at q
      cases q
      exact ⟨Int.le_refl _, Int.le_refl _, by omega, ap, fun _ _ _ => Int.le_refl _⟩
    · obtain ⟨a1, b1, c1, p1, _⟩ := h.gdom _ _ _ _ q
      refine ⟨Int.le_trans a1 ht, Int.le_trans b1 hy, c1, p1, fun _ ea eb => ?_⟩
      have ea' : a = t := ea
      have eb' : b = y := eb
      rw [ea', eb', no] at q
      cases q
  · exact ⟨t1, Int.le_refl _, gSet_same _ _ _ _ _, pf, ⟨List.nodup_nil, fun p hp => by cases hp⟩, hTR, Int.le_refl _, Int.le_refl _, fun _ => ⟨rfl, rfl⟩, fun z => absurd z (Int.lt_irrefl 0), fun g z => by cases z⟩
  · intro l hl
    simp only [List.mem_singleton] at hl
    subst hl
    exact ⟨rfl, t1, Int.le_refl _, (by have := h.yours0; show 0 ≤ y; omega), fun _ => Int.le_refl _, ap, fun _ => ⟨Int.le_refl _, gSet_same _ _ _ _ _⟩, fun z => (by rcases z with z | z | z <;> cases z), fun z => (by cases z)⟩
theorem opened_step (h : Half TR ks bX bY X Y gX gY) (hk : ∀ k ∈ ks, nameOk k = true) (hTR : 0 ≤ TR) : Step TR ks bX bY X Y gX gY (opened X TR).1 (opened X TR).2 := by
  obtain ⟨g, a, b, c, d⟩ := begun_step h hk hTR (X.turn + 1) X.yours 0 (by omega) (Int.le_refl _) (by have := h.turn0; omega) h.yoursLe (.inl (by omega))
  exact ⟨g, a, b, c, d⟩
/-- a state with new number, plan, wishes -/
theorem renumber (h : Half TR ks bX bY X Y gX gY) (hk : ∀ k ∈ ks, nameOk k = true) (hTR : 0 ≤ TR) (c : X.stand ≠ .closed) {ws : List Wish} {p : Plan} {r : List Pr} (wok : WOk ks ws) (pf : PlanFor ws p) (ref : RefInv ks r) (gv : X.given = none ∨ True) :
    Step TR ks bX bY X Y gX gY (asEnd { X with wishes := ws, tries := TR, plan := p, refused := r, number := X.number + 1, given := none }) [askLet { X with wishes := ws, tries := TR, plan := p, refused := r, number := X.number + 1, given := none }] := by
  have L := h.live c
  have no : gX X.turn X.yours (X.number + 1) = none := by
    cases q : gX X.turn X.yours (X.number + 1) with
    | none => rfl
    | some z =>
      have := (h.gdom _ _ _ _ q).2.2.2.2 c rfl rfl
      omega
  have ap : (askOf ws p).all pairOk = true := ask_pairOk hk wok (askOf_ok wok pf)
  have n1 := L.number1
  refine ⟨gSet gX X.turn X.yours (X.number + 1) (askOf ws p), gSet_ext no, ⟨rfl, Int.le_refl _, Int.le_refl _, fun _ _ => ⟨c, fun _ => Int.le_refl _⟩⟩, ⟨h.turn0, h.yours0, h.yoursLe, asEnd_asEnd _, wok, ?_, fun _ => ?_⟩, ?_⟩
  · intro a b d q e
    rcases gSet_cases e with ⟨rfl, rfl, rfl⟩ | e
    · rw [gSet_same] at e
      cases e
      exact ⟨Int.le_refl _, Int.le_refl _, by omega, ap, fun _ _ _ => Int.le_refl _⟩
    · obtain ⟨a1, b1, c1, p1, d1⟩ := h.gdom _ _ _ _ e
      refine ⟨a1, b1, c1, p1, fun _ ea eb => ?_⟩
      have := d1 c ea eb
      show d ≤ X.number + 1
      omega
  · exact ⟨L.turn1, (by show 1 ≤ X.number + 1; omega), gSet_same _ _ _ _ _, pf, ref, hTR, Int.le_refl _, L.heard0, L.none0, L.ans, fun g z => by cases z⟩
  · intro l hl
    simp only [List.mem_singleton] at hl
    subst hl
    exact ⟨rfl, L.turn1, Int.le_refl _, h.yours0, fun _ => Int.le_refl _, ap, fun _ => ⟨(by show 1 ≤ X.number + 1; omega), gSet_same _ _ _ _ _⟩, fun z => (by rcases z with z | z | z <;> cases z), fun z => (by cases z)⟩
/-- fewer or all tries -/
theorem tries_half (h : Half TR ks bX bY X Y gX gY) {n : Int} (h0 : 0 ≤ n) (hn : n ≤ TR) : Half TR ks bX bY { X with tries := n } Y gX gY := by
  refine ⟨h.turn0, h.yours0, h.yoursLe, norm_tries h.norm n, h.wok, h.gdom, fun c => ?_⟩
  · have L := h.live c
    exact ⟨L.turn1, L.number1, L.cur, L.plan, L.ref, h0, hn, L.heard0, L.none0, L.ans, L.giv⟩
theorem cur_let (h : Half TR ks bX bY X Y gX gY) (hk : ∀ k ∈ ks, nameOk k = true) (c : X.stand ≠ .closed) : LetOk bX X gX gY (askLet X) := by
  have L := h.live c
  exact ⟨rfl, L.turn1, Int.le_refl _, h.yours0, fun _ => Int.le_refl _, ask_pairOk hk h.wok (askOf_ok h.wok L.plan), fun _ => ⟨L.number1, L.cur⟩, fun z => (by rcases z with z | z | z <;> cases z), fun z => (by cases z)⟩
theorem bare_let (h : Half TR ks bX bY X Y gX gY) (c : X.stand ≠ .closed) {w : Word} (hw : w = .here ∨ w = .there) : LetOk bX X gX gY (writ X w 0 []) := by
  have L := h.live c
  refine ⟨rfl, L.turn1, Int.le_refl _, h.yours0, fun _ => Int.le_refl _, rfl, fun z => ?_, fun z => ?_, fun z => ?_⟩
  · have z' : w = .ask := z
    rcases hw with q | q <;> rw [q] at z' <;> cases z'
  · have z' : w = .yes ∨ w = .no ∨ w = .rather := z
    rcases hw with q | q <;> rw [q] at z' <;> rcases z' with z' | z' | z' <;> cases z'
  · have z' : w = .bye := z
    rcases hw with q | q <;> rw [q] at z' <;> cases z'
theorem shutE_wishes (e : End) (why : Str) : shutE { e with wishes := e.wishes } why = shutE e why := rfl
theorem ticked_step (h : Half TR ks bX bY X Y gX gY) (hk : ∀ k ∈ ks, nameOk k = true) : Step TR ks bX bY X Y gX gY (ticked X).1 (ticked X).2 := by
  unfold ticked
  by_cases c : X.stand = .closed
  · rw [if_pos c]
    exact ⟨gX, Ext.refl _, Adv.refl, h, fun l hl => by cases hl⟩
  · rw [if_neg c]
    by_cases t : X.tries = 0
    · rw [if_pos t]
      exact shut_step h "tries" true (fun _ => c) X.wishes h.wok
    · rw [if_neg t]
      have L := h.live c
      have l0 := L.tries0
      have l1 := L.triesLe
      have h2 := tries_half h (n := X.tries - 1) (by omega) (by omega)
      have e : asEnd { X with tries := X.tries - 1 } = { X with tries := X.tries - 1 } := h2.norm
      refine ⟨gX, Ext.refl _, ?_, ?_, fun l hl => ?_⟩
      · show Adv X (asEnd { X with tries := X.tries - 1 })
        rw [e]
        exact ⟨rfl, Int.le_refl _, Int.le_refl _, fun _ _ => ⟨c, fun _ => Int.le_refl _⟩⟩
      · show Half TR ks bX bY (asEnd { X with tries := X.tries - 1 }) Y gX gY
        rw [e]
        exact h2
      · show LetOk bX (asEnd { X with tries := X.tries - 1 }) gX gY l
        rw [e]
        simp only [List.mem_singleton] at hl
        subst hl
        split
        · exact cur_let h2 hk c
        · exact bare_let h2 c (.inl rfl)
theorem closing_step (h : Half TR ks bX bY X Y gX gY) (c : X.stand ≠ .closed) : Step TR ks bX bY X Y gX gY (closing X).1 (closing X).2 :=
  shut_step h "closed" true (fun _ => c) X.wishes h.wok
theorem wished_step (h : Half TR ks bX bY X Y gX gY) (hk : ∀ k ∈ ks, nameOk k = true) (hTR : 0 ≤ TR) {ws : List Wish} (wok : WOk ks ws) : Step TR ks bX bY X Y gX gY (wished X ws TR).1 (wished X ws TR).2 := by
  unfold wished
  by_cases c : X.stand = .closed
  · rw [if_pos c]
    have cl : (asEnd { X with wishes := ws }).stand = .closed := asEnd_closed.mpr c
    refine ⟨gX, Ext.refl _, ⟨rfl, Int.le_refl _, Int.le_refl _, fun z => absurd cl z⟩, ⟨h.turn0, h.yours0, h.yoursLe, asEnd_asEnd _, wok, fun t y n p e => ?_, fun z => absurd cl z⟩, fun l hl => by cases hl⟩
    obtain ⟨a, b, d, e', _⟩ := h.gdom t y n p e
    exact ⟨a, b, d, e', fun z => absurd cl z⟩
  · rw [if_neg c]
    split
    · exact shut_step h "failed" true (fun _ => c) ws wok
    · exact renumber h hk hTR c wok (planOf_for _ _) (h.live c).ref (.inr trivial)
/-! ### hearing -/
theorem heardClosed_ok (h : Half TR ks bX bY X Y gX gY) (c : X.stand = .closed) {l : Letter} (lo : LetOk bY Y gY gX l) : ∀ z ∈ heardClosed X l, LetOk bX X gX gY z := by
  intro z hz
  unfold heardClosed at hz
  split at hz
  · cases hz
  · rename_i hn
    simp only [not_or] at hn
    obtain ⟨n1, n2, n3⟩ := hn
    simp only [List.mem_singleton] at hz
    subst hz
    have y0 := lo.yours0
    have m1 := lo.mine1
    have e : l.yours = X.turn := Classical.not_not.mp n2
    refine ⟨rfl, (by show 1 ≤ l.yours; omega), (by show l.yours ≤ X.turn; omega), (by show 0 ≤ l.mine; omega), fun z => absurd rfl z, rfl, fun z => (by cases z), fun z => (by rcases z with z | z | z <;> cases z), fun _ _ => c⟩
/-- what a letter that answers one's own ask comes to -/
theorem ans_ask (h : Half TR ks bX bY X Y gX gY) (c : X.stand ≠ .closed) {l : Letter} (lo : LetOk bY Y gY gX l) (m : l.mine = X.yours) (t : l.yours = X.turn) (n : l.number = X.number) (w : isAns l.word) :
    answer bY (askOf X.wishes X.plan) = (l.word, l.pairs) := by
  obtain ⟨⟨p, h1, h2⟩, _⟩ := lo.ans w
  rw [t, m, n, (h.live c).cur] at h1
  rw [← h2, Option.some.inj h1]
structure Rules (ks : List Str) (bX bY : Plan) : Prop where
  names : ∀ k ∈ ks, nameOk k = true
  bX : BOk bX
  bY : BOk bY
theorem newRef_ok {ws : List Wish} {plan : Plan} {l : Letter} (wok : WOk ks ws) (pf : PlanFor ws plan) {b : Bool} (hr : refusals b l.pairs (askOf ws plan) = true) :
    ∀ p ∈ newRefused b l.pairs (askOf ws plan), p.1 ∈ ks ∧ (p.2 ∈ menu ∨ p.2 = -1) := by
  intro p hp
  unfold newRefused at hp
  obtain ⟨q, hq, rfl⟩ := List.mem_map.mp hp
  unfold refusals at hr
  simp only [Bool.and_eq_true, decide_eq_true_eq, List.all_eq_true] at hr
  obtain ⟨⟨⟨_, h2⟩, _⟩, _⟩ := hr
  have ao := askOf_ok wok pf
  obtain ⟨z, hz, e⟩ := List.mem_map.mp (h2 q hq)
  obtain ⟨x, hx, e2, _, _⟩ := ao.mem z hz
  refine ⟨?_, ?_⟩
  · show q.1 ∈ ks
    rw [← e, e2]
    exact (wok.each x hx).kin
  · cases b with
    | true => exact .inr rfl
    | false =>
      left
      show ((askOf ws plan).lookup q.1).getD 0 ∈ menu
      cases el : (askOf ws plan).lookup q.1 with
      | none =>
        have := List.lookup_eq_none_iff.mp el z hz
        simp [e] at this
      | some v =>
        have hm : (q.1, v) ∈ askOf ws plan := by
          clear hz h2 ao hp
          generalize askOf ws plan = L at el
          induction L with
          | nil => simp at el
          | cons a r ih =>
            rw [List.lookup_cons] at el
            by_cases e : q.1 = a.1
            · have e2 : (q.1 == a.1) = true := by simpa using e
              rw [e2] at el
              have : a = (q.1, v) := by
                obtain ⟨a1, a2⟩ := a
                simp at el e
                rw [e, el]
              simp [this]
            · have e2 : (q.1 == a.1) = false := by simpa using e
              rw [e2] at el
              exact List.mem_cons_of_mem _ (ih el)
        obtain ⟨y, hy, _, hw, _⟩ := ao.mem _ hm
        exact (wok.each y hy).men _ hw
/-- r is right for what X hears -/
def RefFor (r : List Pr) (X : End) (l : Letter) : Prop := RefOk r X.refused (newRef X l)
theorem refInv_of {r : List Pr} {l : Letter} (wok : WOk ks X.wishes) (pf : PlanFor X.wishes X.plan) (ri : RefInv ks X.refused) (hr : refusals (decide (l.word = .no)) l.pairs (askOf X.wishes X.plan) = true) (h : RefFor r X l) : RefInv ks r := by
  refine ⟨h.1, fun p hp => ?_⟩
  rcases (h.2 p).mp hp with q | q
  · exact ri.mem p q
  · exact newRef_ok wok pf hr p q
theorem behind_plan {ws : List Wish} {plan p : Plan} {w : Word} {ps : List Pr} (h : behind ws plan w ps = some (.plan p)) : refusals (decide (w = .no)) ps (askOf ws plan) = true := by
  unfold behind at h
  split at h
  · have key : ∀ b, behindRef b ws plan ps = some (.plan p) → refusals b ps (askOf ws plan) = true := fun b hb => by
      unfold behindRef at hb
      split at hb
      · assumption
      · cases hb
    cases w with
    | yes => simp only at h; split at h <;> cases h
    | no => exact key true h
    | rather => exact key false h
    | ask => cases h
    | bye => cases h
    | here => cases h
    | there => cases h
  · cases h
theorem given_none {e : End} (h : ¬ e.given.isSome = true) : e.given = none := by
  cases q : e.given with
  | none => rfl
  | some g => rw [q] at h; exact absurd rfl h
theorem heardAnswer_step (R : Rules ks bX bY) (hTR : 0 ≤ TR) (h : Half TR ks bX bY X Y gX gY) (c : X.stand ≠ .closed) {l : Letter} (lo : LetOk bY Y gY gX l) (m : l.mine = X.yours) (t : l.yours = X.turn) {r : List Pr} (hr : RefFor r X l)
    (w : isAns l.word) : Step TR ks bX bY X Y gX gY (asEnd (heardAnswer r X l TR).1) (heardAnswer r X l TR).2 := by
  have L := h.live c
  unfold heardAnswer
  split
  · exact ⟨gX, Ext.refl _, by rw [h.norm]; exact Adv.refl, by rw [h.norm]; exact h, fun z hz => (by cases hz)⟩
  · rename_i hn
    simp only [not_or, Classical.not_not] at hn
    obtain ⟨n1, n2⟩ := hn
    have ha := ans_ask h c lo m t n1 w
    rcases behind_of R.names h.wok L.plan R.bY ha with ⟨e1, e2, e3⟩ | ⟨e1, ⟨k, e3⟩ | ⟨p, e3, _, e4, _, _⟩⟩
    · rw [e3]
      refine ⟨gX, Ext.refl _, ⟨rfl, Int.le_refl _, Int.le_refl _, fun _ _ => ⟨c, fun _ => Int.le_refl _⟩⟩, ⟨h.turn0, h.yours0, h.yoursLe, asEnd_asEnd _, h.wok, fun a b d p e => ?_, fun _ => ?_⟩, fun z hz => (by cases hz)⟩
      · obtain ⟨a1, b1, c1, p1, d1⟩ := h.gdom _ _ _ _ e
        exact ⟨a1, b1, c1, p1, fun _ => d1 c⟩
      · refine ⟨L.turn1, L.number1, L.cur, L.plan, L.ref, hTR, Int.le_refl _, L.heard0, L.none0, L.ans, fun g hg => ?_⟩
        have hg' : some (askOf X.wishes X.plan) = some g := hg
        cases hg'
        rw [e1, e2] at ha
        have yl := lo.yoursLe (by rw [e1]; decide)
        refine ⟨rfl, ha, (by show X.turn ≤ Y.yours; omega), fun cy ty yy => ?_⟩
        have ty' : Y.turn = X.yours := ty
        have yy' : Y.yours = X.turn := yy
        have := (lo.ans w).2 cy (by omega) (by omega)
        show X.number ≤ Y.heard
        omega
    · rw [e3]
      exact shut_step h "failed" true (fun _ => c) X.wishes h.wok
    · rw [e3]
      have := renumber h R.names hTR c h.wok e4 (refInv_of h.wok L.plan L.ref (behind_plan e3) hr) (.inr trivial)
      have e : ({ X with wishes := X.wishes, tries := TR, plan := p, refused := r, number := X.number + 1, given := none } : End) = planned X p r TR := by
        unfold planned
        simp only [End.mk.injEq, true_and, and_true]
        exact (given_none n2).symm
      rw [e] at this
      exact this
theorem heardAsk_step (R : Rules ks bX bY) (h : Half TR ks bX bY X Y gX gY) (c : X.stand ≠ .closed) {l : Letter} (lo : LetOk bY Y gY gX l) (m : l.mine = X.yours) (t : l.yours = X.turn) (w : l.word = .ask) :
    Step TR ks bX bY X Y gX gY (asEnd (heardAsk X l bX).1) (heardAsk X l bX).2 := by
  have L := h.live c
  obtain ⟨k1, k2⟩ := lo.ask w
  rw [m, t] at k2
  have ansLet : ∀ {X' : End} {p : List Pr} {n : Int}, X'.name = X.name → X'.turn = X.turn → X'.yours = X.yours → n ≤ X'.heard → gY X.yours X.turn n = some p → p.all pairOk = true → LetOk bX X' gX gY (writ X (answer bX p).1 n (answer bX p).2) := by
    intro X' p n e1 e2 e3 e4 e5 e6
    refine ⟨e1.symm, L.turn1, (by rw [e2]; exact Int.le_refl _), h.yours0, fun _ => (by rw [e3]; exact Int.le_refl _), answer_pairs R.bX e6, fun z => ?_, fun _ => ⟨⟨p, e5, rfl⟩, fun _ _ _ => e4⟩, fun z => ?_⟩
    · have z' : (answer bX p).1 = .ask := z
      rcases answer_word bX p with q | q | q <;> rw [q] at z' <;> cases z'
    · have z' : (answer bX p).1 = .bye := z
      rcases answer_word bX p with q | q | q <;> rw [q] at z' <;> cases z'
  unfold heardAsk
  split
  · exact ⟨gX, Ext.refl _, by rw [h.norm]; exact Adv.refl, by rw [h.norm]; exact h, fun z hz => (by cases hz)⟩
  · split
    · rename_i n1 n2
      refine ⟨gX, Ext.refl _, ⟨rfl, Int.le_refl _, Int.le_refl _, fun _ _ => ⟨c, fun _ => ?_⟩⟩, ⟨h.turn0, h.yours0, h.yoursLe, asEnd_asEnd _, h.wok, fun a b d p e => ?_, fun _ => ?_⟩, fun z hz => ?_⟩
      · show X.heard ≤ l.number
        omega
      · obtain ⟨a1, b1, c1, p1, d1⟩ := h.gdom _ _ _ _ e
        exact ⟨a1, b1, c1, p1, fun _ => d1 c⟩
      · refine ⟨L.turn1, L.number1, L.cur, L.plan, L.ref, L.tries0, L.triesLe, (by show 0 ≤ l.number; omega), fun z => ?_, fun _ => ⟨l.pairs, k2, rfl, rfl⟩, L.giv⟩
        have z' : l.number = 0 := z
        omega
      · simp only [List.mem_singleton] at hz
        subst hz
        exact ansLet rfl rfl rfl (Int.le_refl _) k2 lo.pairs
    · rename_i n1 n2
      have e : l.number = X.heard := by omega
      obtain ⟨p, p1, p2, p3⟩ := L.ans (by omega)
      refine ⟨gX, Ext.refl _, by rw [h.norm]; exact Adv.refl, by rw [h.norm]; exact h, fun z hz => ?_⟩
      rw [p3] at hz
      simp only [Option.toList_some, List.mem_singleton] at hz
      subst hz
      rw [h.norm]
      rw [← e] at p1 ⊢
      rw [k2] at p1
      cases p1
      exact ansLet rfl rfl rfl (by omega) k2 lo.pairs
theorem heardWord_step (R : Rules ks bX bY) (hTR : 0 ≤ TR) (h : Half TR ks bX bY X Y gX gY) (c : X.stand ≠ .closed) {l : Letter} (lo : LetOk bY Y gY gX l) (m : l.mine = X.yours) (t : l.yours = X.turn) {r : List Pr} (hr : RefFor r X l) :
    Step TR ks bX bY X Y gX gY (asEnd (heardWord r X l bX TR).1) (heardWord r X l bX TR).2 := by
  unfold heardWord
  cases w : l.word with
  | ask => exact heardAsk_step R h c lo m t w
  | bye => exact shut_step h "bye" false (fun z => by cases z) X.wishes h.wok
  | here =>
    refine ⟨gX, Ext.refl _, by rw [h.norm]; exact Adv.refl, by rw [h.norm]; exact h, fun z hz => ?_⟩
    rw [h.norm]
    simp only [List.mem_singleton] at hz
    subst hz
    exact bare_let h c (.inr rfl)
  | there =>
    have h2 := tries_half h hTR (Int.le_refl TR)
    refine ⟨gX, Ext.refl _, ?_, ?_, fun z hz => (by cases hz)⟩
    · show Adv X (asEnd { X with tries := TR })
      rw [h2.norm]
      exact ⟨rfl, Int.le_refl _, Int.le_refl _, fun _ _ => ⟨c, fun _ => Int.le_refl _⟩⟩
    · show Half TR ks bX bY (asEnd { X with tries := TR }) Y gX gY
      rw [h2.norm]
      exact h2
  | yes => exact heardAnswer_step R hTR h c lo m t hr (.inl w)
  | no => exact heardAnswer_step R hTR h c lo m t hr (.inr (.inl w))
  | rather => exact heardAnswer_step R hTR h c lo m t hr (.inr (.inr w))
/-- an answer teaches nothing: whom it answers knew the writer's turn -/
theorem ans_known {l : Letter} (h : Half TR ks bX bY X Y gX gY) (lo : LetOk bY Y gY gX l) (w : isAns l.word) : l.mine ≤ X.yours := by
  obtain ⟨⟨p, h1, _⟩, _⟩ := lo.ans w
  exact (h.gdom _ _ _ _ h1).2.1
theorem Adv.trans {A B C : End} (h : Adv A B) (k : Adv B C) : Adv A C where
  name := k.name.trans h.name
  turn := Int.le_trans h.turn k.turn
  yours := Int.le_trans h.yours k.yours
  same := fun c t => by
    have l1 := h.turn
    have l2 := k.turn
    have l3 := h.yours
    have l4 := k.yours
    obtain ⟨b1, b2⟩ := k.same c (by omega)
    obtain ⟨a1, a2⟩ := h.same b1 (by omega)
    refine ⟨a1, fun y => ?_⟩
    have := b2 (by omega)
    have := a2 (by omega)
    omega
theorem begun_echo (e : End) (y : Int) (tr : Int) : begun { e with turn := e.turn, yours := y, echoes := e.echoes } tr = begun { e with yours := y } tr := rfl
/-- asEnd behind hearing does not care for asEnd ahead of it -/
theorem begun_norm (e : End) (tr : Int) : asEnd (begun e tr) = begun e tr := asEnd_id (by unfold asEnd begun openOf atRest; simp)
theorem learnt_step (R : Rules ks bX bY) (hTR : 0 ≤ TR) (h : Half TR ks bX bY X Y gX gY) (c : X.stand ≠ .closed) {l : Letter} (lo : LetOk bY Y gY gX l) :
    Step TR ks bX bY X Y gX gY (learnt X l TR) (learntLs X l TR) ∧ (learnt X l TR).stand ≠ .closed := by
  unfold learnt learntLs
  by_cases q : l.mine > X.yours
  · rw [if_pos q, if_pos q]
    have L := h.live c
    have ml := lo.mineLe
    obtain ⟨g, a1, a2, a3, a4⟩ := begun_step h R.names hTR X.turn l.mine X.echoes (Int.le_refl _) (by omega) L.turn1 ml (.inr ⟨q, c⟩)
    rw [begun_norm, begun_echo] at *
    refine ⟨⟨g, a1, a2, a3, a4⟩, ?_⟩
    intro z
    have : (begun { X with yours := l.mine } TR).stand = .asking := rfl
    rw [this] at z
    cases z
  · rw [if_neg q, if_neg q]
    exact ⟨⟨gX, Ext.refl _, Adv.refl, h, fun z hz => (by cases hz)⟩, c⟩
theorem learnt_ref {l : Letter} {r : List Pr} (q : isAns l.word → l.mine ≤ X.yours) (w : isAns l.word) : learnt X l TR = X := by
  unfold learnt
  rw [if_neg (by have := q w; omega)]
theorem exists_nodup : ∀ xs : List Pr, ∃ r : List Pr, r.Nodup ∧ ∀ p, p ∈ r ↔ p ∈ xs
  | [] => ⟨[], List.nodup_nil, fun _ => Iff.rfl⟩
  | x :: xs => by
    obtain ⟨r, h1, h2⟩ := exists_nodup xs
    by_cases q : x ∈ r
    · refine ⟨r, h1, fun p => ?_⟩
      rw [List.mem_cons, h2]
      constructor
      · exact .inr
      · rintro (rfl | z)
        · exact (h2 _).mp q
        · exact z
    · exact ⟨x :: r, List.nodup_cons.mpr ⟨q, h1⟩, fun p => by rw [List.mem_cons, List.mem_cons, h2]⟩
theorem heard_step (R : Rules ks bX bY) (hTR : 0 ≤ TR) (h : Half TR ks bX bY X Y gX gY) {l : Letter} (lo : LetOk bY Y gY gX l) {r : List Pr} (hr : RefFor r X l) :
    Step TR ks bX bY X Y gX gY (heard r X l bX TR).1 (heard r X l bX TR).2 := by
  unfold heard
  by_cases c : X.stand = .closed
  · rw [if_pos c]
    exact ⟨gX, Ext.refl _, Adv.refl, h, heardClosed_ok h c lo⟩
  · rw [if_neg c]
    obtain ⟨⟨g, a1, a2, a3, a4⟩, c2⟩ := learnt_step R hTR h c lo
    split
    · rename_i hh
      obtain ⟨m, t⟩ := hh
      have hr2 : isAns l.word → RefFor r (learnt X l TR) l := fun w => by
        rw [learnt_ref (r := r) (fun _ => ans_known h lo w) w]
        exact hr
      have lo2 : LetOk bY Y gY g l := lo.adv Adv.refl (Ext.refl _) a1
      have st : Step TR ks bX bY (learnt X l TR) Y g gY (asEnd (heardWord r (learnt X l TR) l bX TR).1) (heardWord r (learnt X l TR) l bX TR).2 := by
        by_cases w : isAns l.word
        · exact heardWord_step R hTR a3 c2 lo2 m t (hr2 w)
        · -- r is not looked at
          obtain ⟨r2, hr3, hr4⟩ := exists_nodup ((learnt X l TR).refused ++ newRef (learnt X l TR) l)
          have e : heardWord r (learnt X l TR) l bX TR = heardWord r2 (learnt X l TR) l bX TR := by
            unfold heardWord isAns at *
            cases q : l.word <;> simp_all
          rw [e]
          exact heardWord_step R hTR a3 c2 lo2 m t ⟨hr3, fun p => (by rw [hr4, List.mem_append])⟩
      obtain ⟨g2, b1, b2, b3, b4⟩ := st
      refine ⟨g2, a1.trans b1, a2.trans b2, b3, fun z hz => ?_⟩
      rcases List.mem_append.mp hz with hz | hz
      · exact (a4 z hz).adv b2 b1 (Ext.refl _)
      · exact b4 z hz
    · have e : asEnd (learnt X l TR) = learnt X l TR := a3.norm
      rw [e]
      exact ⟨g, a1, a2, a3, a4⟩
end
/-! ### the pair goes on -/
theorem Pair.step {TR : Int} {ka kb : List Str} {ba bb : Plan} {a b a' : End} {ga gb : Gh} {la lb ls la' lb' : List Letter} (h : Pair TR ka kb ba bb a b ga gb la lb) (s : Step TR ka ba bb a b ga gb a' ls)
    (hla : ∀ l ∈ la', l ∈ la) (hlb : ∀ l ∈ lb', l ∈ lb ∨ l ∈ ls) : ∃ ga', Pair TR ka kb ba bb a' b ga' gb la' lb' := by
  obtain ⟨g, s1, s2, s3, s4⟩ := s
  refine ⟨g, s3, h.hb.other s2 s1, fun l hl => (h.la l (hla l hl)).adv Adv.refl (Ext.refl _) s1, fun l hl => ?_⟩
  rcases hlb l hl with z | z
  · exact (h.lb l z).adv s2 s1 (Ext.refl _)
  · exact s4 l z
end CW
/-! part CwHear -/
/-! What hearing comes to, by cases; what it costs. -/
namespace CW
open PySem
structure Kept (X Z : End) : Prop where
  turn : Z.turn = X.turn
  yours : Z.yours = X.yours
  number : Z.number = X.number
  plan : Z.plan = X.plan
  wishes : Z.wishes = X.wishes
  given : Z.given = X.given
  opn : Z.stand ≠ .closed
inductive WordRes (X : End) (l : Letter) : End → List Letter → Prop
  | quiet {Z : End} (k : Kept X Z) (nb : l.word ≠ .bye) (ha : isAns l.word → l.number = X.number → X.given.isSome = true) (hk : l.word = .ask → l.number < X.heard) : WordRes X l Z []
  | reply {Z : End} {z : Letter} (k : Kept X Z) (w : (l.word = .ask ∧ isAns z.word ∧ z.number = l.number) ∨ (l.word = .here ∧ z.word = .there)) (m : z.mine = X.turn) (y : z.yours = X.yours) : WordRes X l Z [z]
  | agreed {Z : End} (w : isAns l.word) (t : Z.turn = X.turn) (y : Z.yours = X.yours) (p : Z.plan = X.plan) (s : Z.wishes = X.wishes) (g : Z.given.isSome = true) (o : Z.stand ≠ .closed) : WordRes X l Z []
  | replan {Z : End} (w : isAns l.word) (t : Z.turn = X.turn) (y : Z.yours = X.yours) (p : mP Z.plan < mP X.plan) (s : Z.wishes = X.wishes) (o : Z.stand ≠ .closed) : WordRes X l Z [askLet Z]
  | failed {Z : End} {z : Letter} (w : isAns l.word) (t : Z.turn = X.turn) (y : Z.yours = X.yours) (s : Z.wishes = X.wishes) (c : Z.stand = .closed) (zw : z.word = .bye) (zm : z.mine = X.turn) (zy : z.yours = X.yours) : WordRes X l Z [z]
  | bye {Z : End} (w : l.word = .bye) (t : Z.turn = X.turn) (y : Z.yours = X.yours) (s : Z.wishes = X.wishes) (c : Z.stand = .closed) : WordRes X l Z []
section
variable {TR : Int} {ks : List Str} {bX bY : Plan} {X Y : End} {gX gY : Gh}
theorem kept_asEnd (c : X.stand ≠ .closed) : Kept X (asEnd X) := ⟨rfl, rfl, rfl, rfl, rfl, rfl, fun z => c (asEnd_closed.mp z)⟩
theorem isAns_not {w : Word} (h : isAns w) : w ≠ .ask ∧ w ≠ .bye ∧ w ≠ .here ∧ w ≠ .there := by
  rcases h with h | h | h <;> subst h <;> decide
theorem answer_isAns (b : Plan) (ask : List Pr) : isAns (answer b ask).1 := answer_word b ask
theorem heardWord_res (R : Rules ks bX bY) (h : Half TR ks bX bY X Y gX gY) (c : X.stand ≠ .closed) {l : Letter} (lo : LetOk bY Y gY gX l) (m : l.mine = X.yours) (t : l.yours = X.turn) (r : List Pr) :
    WordRes X l (asEnd (heardWord r X l bX TR).1) (heardWord r X l bX TR).2 := by
  have L := h.live c
  have answers : isAns l.word → WordRes X l (asEnd (heardAnswer r X l TR).1) (heardAnswer r X l TR).2 := by
    intro w
    obtain ⟨w1, w2, w3, w4⟩ := isAns_not w
    unfold heardAnswer
    split
    · rename_i hn
      refine .quiet (kept_asEnd c) w2 (fun _ e => ?_) (fun z => absurd z w1)
      rcases hn with q | q
      · exact absurd e q
      · exact q
    · rename_i hn
      simp only [not_or, Classical.not_not] at hn
      obtain ⟨n1, n2⟩ := hn
      have ha := ans_ask h c lo m t n1 w
      rcases behind_of R.names h.wok L.plan R.bY ha with ⟨e1, e2, e3⟩ | ⟨e1, ⟨k, e3⟩ | ⟨p, e3, _, _, e4, _⟩⟩
      · rw [e3]
        exact .agreed w rfl rfl rfl rfl rfl (fun z => c (asEnd_closed (e := { X with tries := TR, given := some (askOf X.wishes X.plan) }).mp z))
      · rw [e3]
        exact .failed w rfl rfl rfl (asEnd_closed.mpr rfl) rfl rfl rfl
      · rw [e3]
        exact .replan (Z := asEnd (planned X p r TR)) w rfl rfl e4 rfl (fun z => c (asEnd_closed (e := planned X p r TR).mp z))
  unfold heardWord
  cases w : l.word with
  | ask =>
    obtain ⟨k1, k2⟩ := lo.ask w
    show WordRes X l (asEnd (heardAsk X l bX).1) (heardAsk X l bX).2
    unfold heardAsk
    split
    · rename_i n1
      exact .quiet (kept_asEnd c) (by rw [w]; decide) (fun z => absurd w (isAns_not z).1) (fun _ => n1)
    · split
      · exact .reply (Z := asEnd (askHeard X l bX)) ⟨rfl, rfl, rfl, rfl, rfl, rfl, fun z => c (asEnd_closed (e := askHeard X l bX).mp z)⟩ (.inl ⟨w, answer_isAns _ _, rfl⟩) rfl rfl
      · rename_i n1 n2
        have e : l.number = X.heard := by omega
        obtain ⟨p, p1, p2, p3⟩ := L.ans (by omega)
        rw [p3]
        exact .reply (kept_asEnd c) (.inl ⟨w, answer_isAns _ _, e.symm⟩) rfl rfl
  | bye => exact .bye w rfl rfl rfl (asEnd_closed.mpr rfl)
  | here => exact .reply (kept_asEnd c) (.inr ⟨w, rfl⟩) rfl rfl
  | there => exact .quiet (Z := asEnd { X with tries := TR }) ⟨rfl, rfl, rfl, rfl, rfl, rfl, fun z => c (asEnd_closed (e := { X with tries := TR }).mp z)⟩ (by rw [w]; decide) (fun z => absurd w (isAns_not z).2.2.2) (fun z => by rw [w] at z; cases z)
  | yes => exact answers (.inl w)
  | no => exact answers (.inr (.inl w))
  | rather => exact answers (.inr (.inr w))
/-! ### weights -/
/-- a letter from whom it is of, at turn xt, to the one at turn yt -/
def wt (xt yt : Int) (l : Letter) : Nat := if l.word = .bye ∨ l.yours ≠ yt then 1 else if l.word = .ask ∨ l.word = .here ∨ l.mine ≠ xt then 2 else 1
theorem wt_pos (xt yt : Int) (l : Letter) : 1 ≤ wt xt yt l := by unfold wt; split <;> (try split) <;> omega
theorem wt_le (xt yt : Int) (l : Letter) : wt xt yt l ≤ 2 := by unfold wt; split <;> (try split) <;> omega
def wts (xt yt : Int) (ls : List Letter) : Nat := (ls.map (wt xt yt)).sum
theorem wts_nil (xt yt : Int) : wts xt yt [] = 0 := rfl
theorem wts_cons (xt yt : Int) (l : Letter) (ls : List Letter) : wts xt yt (l :: ls) = wt xt yt l + wts xt yt ls := by simp [wts]
theorem wts_append (xt yt : Int) (a b : List Letter) : wts xt yt (a ++ b) = wts xt yt a + wts xt yt b := by simp [wts]
/-- how much an end has to learn still -/
def dl (X Y : End) : Nat := (Y.turn - X.yours).toNat
def LX (X Y : End) : Nat := dl X Y + if dl X Y = 0 then 0 else 1
def PX (X Y : End) : Nat := 2 * if X.yours = Y.turn then mP X.plan else mW X.wishes
theorem PX_le (h : Half TR ks bX bY X Y gX gY) (c : X.stand ≠ .closed) : PX X Y ≤ 2 * mW X.wishes := by
  unfold PX
  have := (h.live c).plan.le
  split <;> omega
theorem learnt_facts (h : Half TR ks bX bY X Y gX gY) (c : X.stand ≠ .closed) {l : Letter} (lo : LetOk bY Y gY gX l) :
    (learnt X l TR).turn = X.turn ∧ (learnt X l TR).wishes = X.wishes ∧ X.yours ≤ (learnt X l TR).yours ∧ (learnt X l TR).yours ≤ Y.turn ∧ (learnt X l TR).stand ≠ .closed ∧ (l.mine ≤ (learnt X l TR).yours ∧ ((learnt X l TR).yours = X.yours ∨ (learnt X l TR).yours = l.mine)) ∧
    wts X.turn Y.turn (learntLs X l TR) + LX (learnt X l TR) Y + PX (learnt X l TR) Y ≤ LX X Y + PX X Y := by
  have ml := lo.mineLe
  have yl := h.yoursLe
  unfold learnt learntLs
  by_cases q : l.mine > X.yours
  · rw [if_pos q, if_pos q]
    refine ⟨rfl, rfl, by show X.yours ≤ l.mine; omega, ml, by show Stand.asking ≠ .closed; decide, ⟨Int.le_refl _, .inr rfl⟩, ?_⟩
    have e1 : PX (begun { X with yours := l.mine } TR) Y = 2 * mW X.wishes := by
      unfold PX
      show 2 * (if l.mine = Y.turn then mP (planOf X.wishes []) else mW X.wishes) = _
      rw [mP_planOf_nil]
      simp
    have e2 : PX X Y = 2 * mW X.wishes := by
      unfold PX
      rw [if_neg (by omega)]
    have e3 : dl (begun { X with yours := l.mine } TR) Y = (Y.turn - l.mine).toNat := rfl
    have e4 : dl X Y = (Y.turn - X.yours).toNat := rfl
    rw [e1, e2]
    have ew : wts X.turn Y.turn [askLet (begun { X with yours := l.mine } TR)] = if l.mine = Y.turn then 2 else 1 := by
      rw [wts_cons, wts_nil]
      show (if Word.ask = .bye ∨ l.mine ≠ Y.turn then 1 else if Word.ask = .ask ∨ _ then 2 else 1) + 0 = _
      by_cases z : l.mine = Y.turn <;> simp [z]
    rw [ew]
    unfold LX
    rw [e3, e4]
    split <;> split <;> split <;> omega
  · rw [if_neg q, if_neg q]
    refine ⟨rfl, rfl, Int.le_refl _, yl, c, ⟨by omega, .inl rfl⟩, ?_⟩
    rw [wts_nil]
    omega
theorem kept_LX {Z : End} (k : Kept X Z) : LX Z Y = LX X Y := by unfold LX dl; rw [k.yours]
theorem kept_PX {Z : End} (k : Kept X Z) : PX Z Y = PX X Y := by unfold PX; rw [k.yours, k.plan, k.wishes]
/-- THE PRICE of hearing: one who isn't closed hears and isn't closed; or is closed -/
theorem heard_price (R : Rules ks bX bY) (h : Half TR ks bX bY X Y gX gY) (hTR : 0 ≤ TR) (c : X.stand ≠ .closed) {l : Letter} (lo : LetOk bY Y gY gX l) (r : List Pr) :
    (heard r X l bX TR).1.turn = X.turn ∧ X.yours ≤ (heard r X l bX TR).1.yours ∧ (heard r X l bX TR).1.wishes = X.wishes ∧ (l.mine ≤ (heard r X l bX TR).1.yours ∧ ((heard r X l bX TR).1.yours = X.yours ∨ (heard r X l bX TR).1.yours = l.mine)) ∧
    ((heard r X l bX TR).1.stand ≠ .closed → wts X.turn Y.turn (heard r X l bX TR).2 + LX (heard r X l bX TR).1 Y + PX (heard r X l bX TR).1 Y + 1 ≤ wt Y.turn X.turn l + LX X Y + PX X Y) ∧
    ((heard r X l bX TR).1.stand = .closed → wts X.turn Y.turn (heard r X l bX TR).2 ≤ wt Y.turn X.turn l + LX X Y + PX X Y ∧
      ((isAns l.word ∧ l.mine = X.yours ∧ l.yours = X.turn) ∨ (l.word = .bye ∧ l.yours = X.turn ∧ l.mine = (heard r X l bX TR).1.yours))) := by
  have L := h.live c
  obtain ⟨⟨g, a1, a2, a3, a4⟩, _⟩ := learnt_step R hTR h c lo
  obtain ⟨f1, f2, f3, f4, f5, f6, f7⟩ := learnt_facts (TR := TR) h c lo
  have w1 := wt_pos Y.turn X.turn l
  unfold heard
  rw [if_neg c]
  split
  · rename_i hh
    obtain ⟨m, t⟩ := hh
    have lo2 : LetOk bY Y gY g l := lo.adv Adv.refl (Ext.refl _) a1
    have res := heardWord_res R a3 f5 lo2 m t r
    rw [f1] at t
    dsimp only
    rw [wts_append]
    generalize hZ : asEnd (heardWord r (learnt X l TR) l bX TR).1 = Z at res
    generalize hz : (heardWord r (learnt X l TR) l bX TR).2 = zs at res
    -- a session's letter
    have sess : wt Y.turn X.turn l = if l.word = .bye then 1 else if l.word = .ask ∨ l.word = .here ∨ l.mine ≠ Y.turn then 2 else 1 := by
      unfold wt
      simp [t]
    cases res with
    | quiet k nb ha hk =>
      refine ⟨k.turn.trans f1, by rw [k.yours]; exact f3, k.wishes.trans f2, by rw [k.yours]; exact f6, fun _ => ?_, fun z => absurd z k.opn⟩
      rw [kept_LX k, kept_PX k, wts_nil]
      omega
    | reply k w m' y' =>
      rename_i z
      refine ⟨k.turn.trans f1, by rw [k.yours]; exact f3, k.wishes.trans f2, by rw [k.yours]; exact f6, fun _ => ?_, fun z => absurd z k.opn⟩
      rw [kept_LX k, kept_PX k, wts_cons, wts_nil]
      have e1 : wt X.turn Y.turn z = 1 := by
        unfold wt
        rw [m', f1]
        rcases w with ⟨_, w2, _⟩ | ⟨_, w2⟩
        · obtain ⟨q1, q2, q3, q4⟩ := isAns_not w2
          simp [q1, q3]
        · simp [w2]
      have e2 : wt Y.turn X.turn l = 2 := by
        rw [sess]
        rcases w with ⟨w1, _, _⟩ | ⟨w1, _⟩ <;> rw [w1] <;> simp
      omega
    | agreed w t' y' p s g' o =>
      refine ⟨t'.trans f1, by rw [y']; exact f3, s.trans f2, by rw [y']; exact f6, fun _ => ?_, fun z => absurd z o⟩
      have e1 : LX Z Y = LX (learnt X l TR) Y := by unfold LX dl; rw [y']
      have e2 : PX Z Y = PX (learnt X l TR) Y := by unfold PX; rw [y', p, s]
      rw [e1, e2, wts_nil]
      omega
    | replan w t' y' p s o =>
      refine ⟨t'.trans f1, by rw [y']; exact f3, s.trans f2, by rw [y']; exact f6, fun _ => ?_, fun z => absurd z o⟩
      obtain ⟨q1, q2, q3, q4⟩ := isAns_not w
      have e1 : LX Z Y = LX (learnt X l TR) Y := by unfold LX dl; rw [y']
      have e3 : wt X.turn Y.turn (askLet Z) = if (learnt X l TR).yours = Y.turn then 2 else 1 := by
        unfold wt
        show (if Word.ask = .bye ∨ Z.yours ≠ Y.turn then 1 else if Word.ask = .ask ∨ _ then 2 else 1) = _
        rw [y']
        by_cases z : (learnt X l TR).yours = Y.turn <;> simp [z]
      rw [e1, wts_cons, wts_nil, e3]
      have e4 : wt Y.turn X.turn l = if (learnt X l TR).yours = Y.turn then 1 else 2 := by
        rw [sess, m]
        simp only [q1, q2, q3, if_false, false_or]
        by_cases z : (learnt X l TR).yours = Y.turn <;> simp [z]
      rw [e4]
      unfold PX at f7 ⊢
      rw [y', s]
      split <;> rename_i z
      · rw [if_pos z] at f7
        generalize (if X.yours = Y.turn then mP X.plan else mW X.wishes) = q at f7 ⊢
        omega
      · rw [if_neg z] at f7
        generalize (if X.yours = Y.turn then mP X.plan else mW X.wishes) = q at f7 ⊢
        omega
    | failed w t' y' s cc zw zm zy =>
      rename_i z
      refine ⟨t'.trans f1, by rw [y']; exact f3, s.trans f2, by rw [y']; exact f6, fun o => absurd cc o, fun _ => ?_⟩
      have e1 : wt X.turn Y.turn z = 1 := by unfold wt; simp [zw]
      rw [wts_cons, wts_nil, e1]
      have kn := ans_known h lo w
      have e2 : learnt X l TR = X := learnt_ref (r := r) (fun _ => kn) w
      rw [e2] at m
      exact ⟨by omega, .inl ⟨w, m, t⟩⟩
    | bye w t' y' s cc =>
      refine ⟨t'.trans f1, by rw [y']; exact f3, s.trans f2, by rw [y']; exact f6, fun o => absurd cc o, fun _ => ?_⟩
      rw [wts_nil]
      exact ⟨by omega, .inr ⟨w, t, by rw [y']; exact m⟩⟩
  · have e : asEnd (learnt X l TR) = learnt X l TR := a3.norm
    dsimp only
    rw [e]
    exact ⟨f1, f3, f2, f6, fun _ => by omega, fun z => absurd z f5⟩
/-- one who is closed hears -/
theorem heard_closed_price (c : X.stand = .closed) (l : Letter) (b : Plan) (r : List Pr) :
    (heard r X l b TR).1 = X ∧ (∀ z ∈ (heard r X l b TR).2, z.word = .bye ∧ z.mine = X.turn ∧ z.yours = l.mine) ∧
    ((heard r X l b TR).2 = [] ∨ ((heard r X l b TR).2.length = 1 ∧ l.word ≠ .bye ∧ l.yours = X.turn)) := by
  unfold heard
  rw [if_pos c]
  refine ⟨rfl, ?_, ?_⟩
  · intro z hz
    unfold heardClosed at hz
    dsimp only at hz
    split at hz
    · cases hz
    · rename_i hn
      simp only [not_or, Classical.not_not] at hn
      simp only [List.mem_singleton] at hz
      subst hz
      exact ⟨rfl, hn.2.1, rfl⟩
  · dsimp only
    unfold heardClosed
    split
    · exact .inl rfl
    · rename_i hn
      simp only [not_or, Classical.not_not] at hn
      exact .inr ⟨rfl, hn.2.2, hn.2.1⟩
end
end CW
/-! part CwGood -/
/-! Two that hear on come to be open for one another. -/
namespace CW
open PySem
/-- X has its ask agreed, or its ask or an answer to it is on its way -/
def GX (X : End) (toX toY : List Letter) : Prop := X.given.isSome = true ∨ (∃ l ∈ toY, l.word = .ask ∧ l.mine = X.turn ∧ l.yours = X.yours ∧ l.number = X.number) ∨
  (∃ l ∈ toX, isAns l.word ∧ l.mine = X.yours ∧ l.yours = X.turn ∧ l.number = X.number)
def GoodX (X Y : End) (toX toY : List Letter) : Prop := (X.yours = Y.turn ∧ GX X toX toY) ∨ (X.yours < Y.turn ∧ ∃ l ∈ toX, l.mine = Y.turn)
section
variable {TR : Int} {ks : List Str} {bX bY : Plan} {X Y : End} {gX gY : Gh}
/-- the hearer stays good -/
theorem good_self (R : Rules ks bX bY) (h : Half TR ks bX bY X Y gX gY) (hTR : 0 ≤ TR) (c : X.stand ≠ .closed) {l : Letter} (lo : LetOk bY Y gY gX l) (r : List Pr) {toX toX' toY : List Letter}
    (hm : ∀ z ∈ toX, z = l ∨ z ∈ toX') (c' : (heard r X l bX TR).1.stand ≠ .closed) (g : GoodX X Y toX toY) : GoodX (heard r X l bX TR).1 Y toX' (toY ++ (heard r X l bX TR).2) := by
  have L := h.live c
  obtain ⟨⟨g', a1, a2, a3, a4⟩, _⟩ := learnt_step R hTR h c lo
  obtain ⟨f1, f2, f3, f4, f5, f6, f7⟩ := learnt_facts (TR := TR) h c lo
  have ml := lo.mineLe
  unfold heard at c' ⊢
  rw [if_neg c] at c' ⊢
  -- behind learning
  have key : GoodX (learnt X l TR) Y (if l.mine > X.yours then toX' else toX) (toY ++ learntLs X l TR) := by
    unfold learnt learntLs
    by_cases q : l.mine > X.yours
    · rw [if_pos q, if_pos q, if_pos q]
      by_cases q2 : l.mine = Y.turn
      · exact .inl ⟨q2, .inr (.inl ⟨_, List.mem_append_right _ (List.mem_singleton.mpr rfl), rfl, rfl, rfl, rfl⟩)⟩
      · refine .inr ⟨by show l.mine < Y.turn; omega, ?_⟩
        rcases g with ⟨e, _⟩ | ⟨_, z, hz, ez⟩
        · omega
        · refine ⟨z, ?_, ez⟩
          rcases hm z hz with rfl | hz'
          · exact absurd ez q2
          · exact hz'
    · rw [if_neg q, if_neg q, if_neg q]
      rw [List.append_nil]
      exact g
  have sub : ∀ z ∈ (if l.mine > X.yours then toX' else toX), z = l ∨ z ∈ toX' := by
    intro z hz
    split at hz
    · exact .inr hz
    · exact hm z hz
  generalize (if l.mine > X.yours then toX' else toX) = tx at key sub
  split at c'
  · rename_i hh
    rw [if_pos hh]
    obtain ⟨m, t⟩ := hh
    have lo2 : LetOk bY Y gY g' l := lo.adv Adv.refl (Ext.refl _) a1
    have res := heardWord_res R a3 f5 lo2 m t r
    dsimp only at c' ⊢
    rw [← List.append_assoc]
    generalize asEnd (heardWord r (learnt X l TR) l bX TR).1 = Z at res c'
    generalize (heardWord r (learnt X l TR) l bX TR).2 = zs at res
    generalize toY ++ learntLs X l TR = ty at key
    generalize learnt X l TR = X1 at *
    -- a state that keeps number and given
    have keep : ∀ {Z : End} {zs : List Letter}, Z.turn = X1.turn → Z.yours = X1.yours → (Z.number = X1.number ∧ Z.given = X1.given ∧ (isAns l.word → l.number = X1.number → X1.given.isSome = true)) → GoodX Z Y toX' (ty ++ zs) := by
      intro Z zs e1 e2 ⟨e3, e4, e5⟩
      unfold GoodX GX at key ⊢
      rw [e1, e2, e3, e4]
      rcases key with ⟨k1, k2⟩ | ⟨k1, z, hz, k2⟩
      · refine .inl ⟨k1, ?_⟩
        rcases k2 with k2 | ⟨z, hz, k2⟩ | ⟨z, hz, k2, k3, k4, k5⟩
        · exact .inl k2
        · exact .inr (.inl ⟨z, List.mem_append_left _ hz, k2⟩)
        · rcases sub z hz with rfl | hz'
          · exact .inl (e5 k2 k5)
          · exact .inr (.inr ⟨z, hz', k2, k3, k4, k5⟩)
      · refine .inr ⟨k1, z, ?_, k2⟩
        rcases sub z hz with rfl | hz'
        · omega
        · exact hz'
    -- a state not yet known to the other's turn
    have low : ∀ {Z : End} {zs : List Letter}, Z.yours = X1.yours → (X1.yours = Y.turn → GX Z toX' (ty ++ zs)) → GoodX Z Y toX' (ty ++ zs) := by
      intro Z zs e2 hg
      unfold GoodX at key ⊢
      rw [e2]
      rcases key with ⟨k1, k2⟩ | ⟨k1, z, hz, k2⟩
      · exact .inl ⟨k1, hg k1⟩
      · refine .inr ⟨k1, z, ?_, k2⟩
        rcases sub z hz with rfl | hz'
        · omega
        · exact hz'
    cases res with
    | quiet k nb ha hk => exact keep k.turn k.yours ⟨k.number, k.given, ha⟩
    | reply k w m' y' =>
      refine keep k.turn k.yours ⟨k.number, k.given, fun w' => ?_⟩
      obtain ⟨q1, _, q3, _⟩ := isAns_not w'
      rcases w with ⟨w1, _⟩ | ⟨w1, _⟩
      · exact absurd w1 q1
      · exact absurd w1 q3
    | agreed w t' y' p s g' o => exact low y' fun _ => .inl g'
    | replan w t' y' p s o => exact low y' fun _ => .inr (.inl ⟨askLet Z, List.mem_append_right _ (List.mem_singleton.mpr rfl), rfl, rfl, rfl, rfl⟩)
    | failed w t' y' s cc zw zm zy => exact absurd cc c'
    | bye w t' y' s cc => exact absurd cc c'
  · rename_i hh
    rw [if_neg hh]
    dsimp only
    have e : asEnd (learnt X l TR) = learnt X l TR := a3.norm
    rw [e]
    unfold GoodX at key ⊢
    -- l was not heard: it is of no session; what is looked for stands elsewhere
    rcases key with ⟨k1, k2⟩ | ⟨k1, z, hz, k2⟩
    · refine .inl ⟨k1, ?_⟩
      rcases k2 with k2 | k2 | ⟨z, hz, k2, k3, k4, k5⟩
      · exact .inl k2
      · exact .inr (.inl k2)
      · rcases sub z hz with rfl | hz'
        · exact absurd ⟨k3, k4⟩ hh
        · exact .inr (.inr ⟨z, hz', k2, k3, k4, k5⟩)
    · refine .inr ⟨k1, z, ?_, k2⟩
      rcases sub z hz with rfl | hz'
      · have := f6.1
        omega
      · exact hz'
/-- the other stays good: its letter is heard -/
theorem good_other (R : Rules ks bX bY) (h : Half TR ks bX bY X Y gX gY) (hY : ∀ t y n p, gY t y n = some p → Y.stand ≠ .closed → t = Y.turn → y = Y.yours → n ≤ Y.number) (hTR : 0 ≤ TR) (c : X.stand ≠ .closed) (cy : Y.stand ≠ .closed)
    {l : Letter} (lo : LetOk bY Y gY gX l) (r : List Pr) {toX toX' toY : List Letter} (hm : ∀ z ∈ toX, z = l ∨ z ∈ toX') (g : GoodX Y X toY toX) :
    GoodX Y (heard r X l bX TR).1 (toY ++ (heard r X l bX TR).2) toX' := by
  have L := h.live c
  obtain ⟨p1, p2, p3, p4, _, _⟩ := heard_price R h hTR c lo r
  unfold GoodX at g ⊢
  rw [p1]
  rcases g with ⟨k1, k2⟩ | ⟨k1, z, hz, k2⟩
  · refine .inl ⟨k1, ?_⟩
    rcases k2 with k2 | ⟨z, hz, k2, k3, k4, k5⟩ | ⟨z, hz, k2⟩
    · exact .inl k2
    · rcases hm z hz with rfl | hz'
      · -- the ask is heard
        right; right
        obtain ⟨⟨g', a1, a2, a3, a4⟩, _⟩ := learnt_step R hTR h c lo
        obtain ⟨f1, f2, f3, f4, f5, f6, f7⟩ := learnt_facts (TR := TR) h c lo
        have hs : z.mine = (learnt X z TR).yours ∧ z.yours = (learnt X z TR).turn := ⟨by have := f6.1; omega, by rw [f1]; omega⟩
        have lo2 : LetOk bY Y gY g' z := lo.adv Adv.refl (Ext.refl _) a1
        have res := heardWord_res R a3 f5 lo2 hs.1 hs.2 r
        unfold heard
        rw [if_neg c, if_pos hs]
        dsimp only
        generalize asEnd (heardWord r (learnt X z TR) z bX TR).1 = Z at res
        generalize (heardWord r (learnt X z TR) z bX TR).2 = zs at res
        have nAns : ¬ isAns z.word := fun w => (isAns_not w).1 k2
        cases res with
        | quiet k nb ha hk =>
          exfalso
          have h1 := hk k2
          have La := a3.live f5
          have n1 := (lo.ask k2).1
          obtain ⟨p, q1, _⟩ := La.ans (by omega)
          have := hY _ _ _ _ q1 cy (by omega) (by rw [f1]; omega)
          omega
        | reply k w m' y' =>
          rename_i z'
          rcases w with ⟨_, w2, w3⟩ | ⟨w1, _⟩
          · exact ⟨z', by simp, w2, by rw [m', f1]; omega, by rw [y', ← hs.1, k3], by rw [w3, k5]⟩
          · rw [k2] at w1
            cases w1
        | agreed w => exact absurd w nAns
        | replan w => exact absurd w nAns
        | failed w => exact absurd w nAns
        | bye w =>
          rw [k2] at w
          cases w
      · exact .inr (.inl ⟨z, hz', k2, k3, k4, k5⟩)
    · exact .inr (.inr ⟨z, List.mem_append_left _ hz, k2⟩)
  · exact .inr ⟨k1, z, List.mem_append_left _ hz, k2⟩
end
end CW
/-! part CwLive -/
/-! The settling: a potential that falls at each turn. -/
namespace CW
open PySem Classical
structure Sys where
  e : Bool → End
  air : List (Bool × Letter)
/-- how many tries; the kinds; the bounds by which an end answers -/
structure Play where
  TR : Nat
  ks : Bool → List Str
  bd : Bool → Plan
structure Play.Ok (P : Play) : Prop where
  le : P.TR ≤ 9
  rules : ∀ s, Rules (P.ks s) (P.bd s) (P.bd !s)
def setE (e : Bool → End) (s : Bool) (x : End) : Bool → End := fun t => if t = s then x else e t
theorem setE_same {e : Bool → End} {s : Bool} {x : End} : setE e s x s = x := by simp [setE]
theorem setE_not {e : Bool → End} {s : Bool} {x : End} : setE e s x (!s) = e (!s) := by cases s <;> simp [setE]
theorem ne_not {t s : Bool} (h : ¬ t = s) : t = !s ∧ (!t) = s := by cases t <;> cases s <;> simp_all
structure SInvG (P : Play) (S : Sys) (g : Bool → Gh) : Prop where
  half : ∀ s, Half (P.TR : Int) (P.ks s) (P.bd s) (P.bd !s) (S.e s) (S.e !s) (g s) (g !s)
  let_ : ∀ q ∈ S.air, LetOk (P.bd !q.1) (S.e !q.1) (g !q.1) (g q.1) q.2
def SInv (P : Play) (S : Sys) : Prop := ∃ g, SInvG P S g
def sent (s : Bool) (ls : List Letter) : List (Bool × Letter) := ls.map fun z => (!s, z)
theorem setG (g : Bool → Gh) (s : Bool) (x : Gh) : ∃ g' : Bool → Gh, g' s = x ∧ g' (!s) = g (!s) := ⟨fun t => if t = s then x else g t, by simp, by cases s <;> simp⟩
theorem SInvG.go {P : Play} {S : Sys} {g : Bool → Gh} (I : SInvG P S g) {s : Bool} {x : End} {ls : List Letter} (st : Step (P.TR : Int) (P.ks s) (P.bd s) (P.bd !s) (S.e s) (S.e !s) (g s) (g !s) x ls)
    {air : List (Bool × Letter)} (ha : ∀ q ∈ air, q ∈ S.air ∨ q ∈ sent s ls) : SInv P ⟨setE S.e s x, air⟩ := by
  obtain ⟨gx, s1, s2, s3, s4⟩ := st
  obtain ⟨g', e1, e2⟩ := setG g s gx
  have ho : Half (P.TR : Int) (P.ks !s) (P.bd !s) (P.bd s) (S.e !s) x (g !s) gx := by
    have := (I.half (!s)).other (X := S.e (!!s)) (by rw [Bool.not_not]; exact s2) (by rw [Bool.not_not]; exact s1)
    rw [Bool.not_not] at this
    exact this
  have le : ∀ q ∈ air, LetOk (P.bd !q.1) (setE S.e s x !q.1) (g' !q.1) (g' q.1) q.2 := by
    intro q hq
    rcases ha q hq with z | z
    · have lo := I.let_ q z
      by_cases w : q.1 = s
      · rw [w] at lo ⊢
        rw [setE_not, e1, e2]
        exact lo.adv Adv.refl (Ext.refl _) s1
      · obtain ⟨w2, w'⟩ := ne_not w
        rw [w'] at lo ⊢
        rw [w2] at lo ⊢
        rw [setE_same, e1, e2]
        exact lo.adv s2 s1 (Ext.refl _)
    · obtain ⟨l, hl, rfl⟩ := List.mem_map.mp z
      show LetOk (P.bd (!!s)) (setE S.e s x (!!s)) (g' (!!s)) (g' (!s)) l
      rw [Bool.not_not, setE_same, e1, e2]
      exact s4 l hl
  refine ⟨g', fun t => ?_, le⟩
  show Half _ _ _ _ (setE S.e s x t) (setE S.e s x !t) (g' t) (g' !t)
  by_cases w : t = s
  · subst w
    rw [setE_same, setE_not, e1, e2]
    exact s3
  · have w' := (ne_not w).1
    subst w'
    rw [Bool.not_not, setE_same, setE_not, e1, e2]
    exact ho
/-! ### the potential -/
def closedAt (S : Sys) (s : Bool) : Prop := (S.e s).stand = .closed
def weight (S : Sys) (q : Bool × Letter) : Nat := wt (S.e !q.1).turn (S.e q.1).turn q.2
def wS (S : Sys) : Nat := (S.air.map (weight S)).sum
def LS (S : Sys) (s : Bool) : Nat := LX (S.e s) (S.e !s)
def PS' (S : Sys) (s : Bool) : Nat := PX (S.e s) (S.e !s)
def lets (s : Bool) (air : List (Bool × Letter)) : List Letter := (air.filter fun q => q.1 == s).map (·.2)
theorem mem_lets {s : Bool} {air : List (Bool × Letter)} {l : Letter} : l ∈ lets s air ↔ (s, l) ∈ air := by
  unfold lets
  simp
/-- s is closed: what tells the other -/
def isDoom (S : Sys) (s : Bool) (q : Bool × Letter) : Bool := decide (q.1 = !s ∧ q.2.word = .bye ∧ q.2.mine = (S.e s).turn ∧ q.2.yours = (S.e !s).turn)
def Doomed (S : Sys) (s : Bool) : Prop := ∃ q ∈ S.air, isDoom S s q = true
def Replies (S : Sys) (s : Bool) : Prop := ∃ l ∈ lets s S.air, l.word ≠ .bye ∧ l.mine = (S.e !s).turn ∧ l.yours = (S.e s).turn
def Known (S : Sys) (s : Bool) : Prop := (S.e !s).yours = (S.e s).turn ∨ ∃ l ∈ lets (!s) S.air, l.mine = (S.e s).turn
noncomputable def potC (P : Play) (S : Sys) (s : Bool) : Nat :=
  if Doomed S s then S.air.findIdx (isDoom S s) + 1
  else if Replies S s then wS S + LS S (!s) + PS' S (!s) + 1
  else if Known S s then wS S + LS S (!s) + PS' S (!s) + 4
  else wS S + (dl (S.e !s) (S.e s) - 1) + 2 * (if lets (!s) S.air ≠ [] then P.TR else (S.e !s).tries.toNat) + 1
def GoodS (S : Sys) (s : Bool) : Prop := GoodX (S.e s) (S.e !s) (lets s S.air) (lets (!s) S.air)
def Apart (S : Sys) : Prop := ∀ s, (S.e s).yours < (S.e !s).turn
noncomputable def potN (P : Play) (S : Sys) : Nat :=
  wS S + (LS S false + PS' S false) + (LS S true + PS' S true) + (if GoodS S false ∧ GoodS S true then 5 else 10) + (if Apart S then 2 * P.TR + 1 else 0)
noncomputable def pot (P : Play) (S : Sys) : Nat :=
  if closedAt S false ∧ closedAt S true then 0
  else if closedAt S false then potC P S false
  else if closedAt S true then potC P S true
  else potN P S
theorem pot_C {P : Play} {S : Sys} {s : Bool} (c : closedAt S s) (o : ¬ closedAt S !s) : pot P S = potC P S s := by
  unfold pot
  cases s with
  | false =>
    have o' : ¬ closedAt S true := o
    rw [if_neg (fun z => o' z.2), if_pos c]
  | true =>
    have o' : ¬ closedAt S false := o
    rw [if_neg (fun z => o' z.1), if_neg o', if_pos c]
theorem pot_N {P : Play} {S : Sys} (o : ∀ s, ¬ closedAt S s) : pot P S = potN P S := by
  unfold pot
  rw [if_neg (fun z => o _ z.1), if_neg (o _), if_neg (o _)]
theorem pot_0 {P : Play} {S : Sys} (c : ∀ s, closedAt S s) : pot P S = 0 := by
  unfold pot
  rw [if_pos ⟨c _, c _⟩]
/-! ### sums over the air -/
theorem wS_of {S S' : Sys} (h : ∀ s, (S'.e s).turn = (S.e s).turn) (q : Bool × Letter) : weight S' q = weight S q := by
  unfold weight
  rw [h, h]
theorem sum_map_congr {l : List (Bool × Letter)} {f g : Bool × Letter → Nat} (h : ∀ q, f q = g q) : (l.map f).sum = (l.map g).sum := by
  rw [show f = g from funext h]
theorem wS_hear {S S' : Sys} {t : Bool} {l : Letter} {rest : List (Bool × Letter)} {ls : List Letter} (ha : S.air = (t, l) :: rest) (ha' : S'.air = rest ++ sent t ls) (h : ∀ s, (S'.e s).turn = (S.e s).turn) :
    wS S' + wt (S.e !t).turn (S.e t).turn l = wS S + wts (S.e t).turn (S.e !t).turn ls := by
  unfold wS
  rw [ha, ha', sum_map_congr (wS_of h)]
  simp only [List.map_append, List.sum_append, List.map_cons, List.sum_cons]
  have e : ((sent t ls).map (weight S)).sum = wts (S.e t).turn (S.e !t).turn ls := by
    unfold sent wts
    rw [List.map_map]
    congr 1
    refine List.map_congr_left fun z _ => ?_
    simp [weight]
  rw [e]
  have : weight S (t, l) = wt (S.e !t).turn (S.e t).turn l := rfl
  omega
theorem len_le_wS (S : Sys) : S.air.length ≤ wS S := by
  unfold wS
  induction S.air with
  | nil => simp
  | cons q r ih =>
    simp only [List.length_cons, List.map_cons, List.sum_cons]
    have := wt_pos (S.e !q.1).turn (S.e q.1).turn q.2
    have : 1 ≤ weight S q := this
    omega
theorem lets_append (s : Bool) (a b : List (Bool × Letter)) : lets s (a ++ b) = lets s a ++ lets s b := by simp [lets]
theorem lets_sent_same (s : Bool) (ls : List Letter) : lets s (sent s ls) = [] := by
  unfold lets sent
  rw [List.map_eq_nil_iff, List.filter_eq_nil_iff]
  intro q hq
  obtain ⟨z, _, rfl⟩ := List.mem_map.mp hq
  simp
theorem lets_sent_other (s : Bool) (ls : List Letter) : lets (!s) (sent s ls) = ls := by
  unfold lets sent
  induction ls with
  | nil => rfl
  | cons a r ih =>
    simp only [List.map_cons, List.filter_cons, beq_self_eq_true, if_true, List.map_cons]
    rw [ih]
/-- where the hearer is t -/
theorem lets_hear_self {S S' : Sys} {t : Bool} {l : Letter} {rest : List (Bool × Letter)} {ls : List Letter} (ha : S.air = (t, l) :: rest) (ha' : S'.air = rest ++ sent t ls) : lets t S.air = l :: lets t S'.air := by
  rw [ha, ha', lets_append, lets_sent_same, List.append_nil]
  simp [lets]
theorem lets_hear_other {S S' : Sys} {t : Bool} {l : Letter} {rest : List (Bool × Letter)} {ls : List Letter} (ha : S.air = (t, l) :: rest) (ha' : S'.air = rest ++ sent t ls) : lets (!t) S'.air = lets (!t) S.air ++ ls := by
  rw [ha, ha', lets_append, lets_sent_other]
  have e : lets (!t) ((t, l) :: rest) = lets (!t) rest := by
    unfold lets
    rw [List.filter_cons]
    cases t <;> simp
  rw [e]
/-! ### a letter comes -/
section
variable {P : Play} {S : Sys} {g : Bool → Gh}
noncomputable def hears (P : Play) (S : Sys) (t : Bool) (l : Letter) (rest : List (Bool × Letter)) (r : List Pr) : Sys :=
  ⟨setE S.e t (heard r (S.e t) l (P.bd t) P.TR).1, rest ++ sent t (heard r (S.e t) l (P.bd t) P.TR).2⟩
theorem hears_inv (hP : P.Ok) (I : SInvG P S g) {t : Bool} {l : Letter} {rest : List (Bool × Letter)} (ha : ∀ q ∈ rest, q ∈ S.air) (hl : (t, l) ∈ S.air) {r : List Pr} (hr : RefFor r (S.e t) l) : SInv P (hears P S t l rest r) := by
  refine I.go (heard_step (hP.rules t) (by omega) (I.half t) (I.let_ _ hl) hr) fun q hq => ?_
  rcases List.mem_append.mp hq with z | z
  · exact .inl (ha q z)
  · exact .inr z
/-- the hearer is closed -/
theorem fall_closed (hP : P.Ok) (I : SInvG P S g) {t : Bool} {l : Letter} {rest : List (Bool × Letter)} (ha : S.air = (t, l) :: rest) (r : List Pr) (h1t : ∀ s, 1 ≤ (S.e s).turn) (c : closedAt S t) (o : ¬ closedAt S !t) : pot P (hears P S t l rest r) < pot P S := by
  obtain ⟨h1, h2, h3⟩ := heard_closed_price (X := S.e t) c l (P.bd t) r (TR := (P.TR : Int))
  have lo : LetOk (P.bd !t) (S.e !t) (g !t) (g t) l := I.let_ (t, l) (by rw [ha]; exact List.mem_cons_self)
  have hb := I.half (!t)
  rw [Bool.not_not] at hb
  generalize hS' : hears P S t l rest r = S'
  have ee : S'.e = S.e := by
    rw [← hS']
    funext s
    unfold hears setE
    dsimp only
    split
    · rename_i w
      rw [h1, w]
    · rfl
  generalize hls : (heard r (S.e t) l (P.bd t) (P.TR : Int)).2 = ls at h2 h3
  have ea : S'.air = rest ++ sent t ls := by rw [← hS', ← hls]; rfl
  have c' : closedAt S' t := by unfold closedAt; rw [ee]; exact c
  have o' : ¬ closedAt S' !t := by unfold closedAt; rw [ee]; exact o
  rw [pot_C c o, pot_C c' o']
  have w := wS_hear ha ea (fun s => by rw [ee])
  have len := len_le_wS S
  have len1 : S.air.length = rest.length + 1 := by rw [ha]; rfl
  have wp := wt_pos (S.e !t).turn (S.e t).turn l
  have l1 := lets_hear_self ha ea
  have l2 := lets_hear_other ha ea
  have dd : isDoom S' t = isDoom S t := by unfold isDoom; rw [ee]
  unfold potC
  by_cases d : Doomed S t
  · rw [if_pos d]
    obtain ⟨q, hq, hd⟩ := d
    have nh : isDoom S t (t, l) = false := by
      unfold isDoom
      cases t <;> simp
    rw [ha] at hq
    have hq' : q ∈ rest := by
      rcases List.mem_cons.mp hq with z | z
      · rw [z, nh] at hd; cases hd
      · exact z
    have d' : Doomed S' t := ⟨q, by rw [ea]; exact List.mem_append_left _ hq', by rw [dd]; exact hd⟩
    rw [if_pos d', dd, ea, ha, List.findIdx_cons, nh, List.findIdx_append]
    have lt : rest.findIdx (isDoom S t) < rest.length := List.findIdx_lt_length_of_exists ⟨q, hq', hd⟩
    simp only [cond_false]
    rw [if_pos lt]
    omega
  · rw [if_neg d]
    have big : S.air.length + 1 ≤ (if Replies S t then wS S + LS S (!t) + PS' S (!t) + 1 else if Known S t then wS S + LS S (!t) + PS' S (!t) + 4
        else wS S + (dl (S.e !t) (S.e t) - 1) + 2 * (if lets (!t) S.air ≠ [] then P.TR else (S.e !t).tries.toNat) + 1) := by
      split
      · omega
      · split <;> omega
    by_cases d' : Doomed S' t
    · rw [if_pos d']
      obtain ⟨q, hq, hd⟩ := d'
      have lt : S'.air.findIdx (isDoom S' t) < S'.air.length := List.findIdx_lt_length_of_exists ⟨q, hq, hd⟩
      have : S'.air.length ≤ rest.length + 1 := by
        rw [ea, List.length_append]
        unfold sent
        rw [List.length_map]
        rcases h3 with z | ⟨z, _⟩
        · rw [z]; simp
        · omega
      omega
    · rw [if_neg d']
      -- a reply that isn't doom answers a letter of an elder turn
      have wl : wts (S.e t).turn (S.e !t).turn ls + 1 ≤ wt (S.e !t).turn (S.e t).turn l ∧ (ls ≠ [] → l.word ≠ .bye ∧ l.yours = (S.e t).turn ∧ l.mine ≠ (S.e !t).turn) := by
        rcases h3 with z | ⟨z, zb, zy⟩
        · rw [z, wts_nil]
          exact ⟨by omega, fun q => absurd rfl q⟩
        · match ls, z with
          | [z0], _ =>
            obtain ⟨q1, q2, q3⟩ := h2 z0 (List.mem_singleton.mpr rfl)
            have nm : l.mine ≠ (S.e !t).turn := by
              intro e
              refine d' ⟨(!t, z0), by rw [ea]; simp [sent], ?_⟩
              rw [dd]
              unfold isDoom
              simp [q1, q2, q3, e]
            have e1 : wt (S.e !t).turn (S.e t).turn l = 2 := by
              unfold wt
              simp [zb, zy, nm]
            have e2 : wts (S.e t).turn (S.e !t).turn [z0] = 1 := by
              rw [wts_cons, wts_nil]
              unfold wt
              simp [q1]
            exact ⟨by omega, fun _ => ⟨zb, zy, nm⟩⟩
      obtain ⟨wl1, wl2⟩ := wl
      have eL : LS S' (!t) = LS S (!t) := by unfold LS; rw [ee]
      have eP : PS' S' (!t) = PS' S (!t) := by unfold PS'; rw [ee]
      by_cases rp : Replies S t
      · have rp' : Replies S' t := by
          obtain ⟨z, hz, z1, z2, z3⟩ := rp
          rw [l1] at hz
          unfold Replies
          rw [ee]
          rcases List.mem_cons.mp hz with e | hz
          · subst e
            -- it would have been answered by a doom
            exfalso
            have : ls ≠ [] := by
              intro e
              have e2 : heardClosed (S.e t) z = [] := by
                have := hls
                unfold heard at this
                rw [if_pos (show (S.e t).stand = .closed from c)] at this
                dsimp only at this
                rw [this, e]
              unfold heardClosed at e2
              have t1 : z.yours ≠ 0 := by
                have := h1t t
                omega
              rw [if_neg (by simp only [not_or, Classical.not_not]; exact ⟨t1, z3, z1⟩)] at e2
              cases e2
            exact (wl2 this).2.2 z2
          · exact ⟨z, hz, z1, z2, z3⟩
        rw [if_pos rp, if_pos rp', eL, eP]
        omega
      · have rp' : ¬ Replies S' t := by
          rintro ⟨z, hz, z1, z2, z3⟩
          rw [ee] at z2 z3
          exact rp ⟨z, by rw [l1]; exact List.mem_cons_of_mem _ hz, z1, z2, z3⟩
        rw [if_neg rp, if_neg rp']
        by_cases kn : Known S t
        · have kn' : Known S' t := by
            unfold Known at kn ⊢
            rw [ee]
            rcases kn with z | ⟨z, hz, z1⟩
            · exact .inl z
            · exact .inr ⟨z, by rw [l2]; exact List.mem_append_left _ hz, z1⟩
          rw [if_pos kn, if_pos kn', eL, eP]
          omega
        · have no : ls = [] := by
            apply Classical.byContradiction
            intro e
            obtain ⟨q1, q2, q3⟩ := wl2 e
            have y1 := lo.yoursLe q1
            have y2 := hb.yoursLe
            exact kn (.inl (by omega))
          have kn' : ¬ Known S' t := by
            unfold Known at kn ⊢
            rw [ee, l2, no, List.append_nil]
            exact kn
          rw [if_neg kn, if_neg kn', ee, l2, no, List.append_nil]
          rw [no, wts_nil] at w
          omega
/-- what stands of the others behind hearing -/
structure Heard (P : Play) (S S' : Sys) (t : Bool) (l : Letter) (rest : List (Bool × Letter)) (ls : List Letter) : Prop where
  same : S'.e (!t) = S.e (!t)
  air : S.air = (t, l) :: rest
  air' : S'.air = rest ++ sent t ls
  turn : ∀ s, (S'.e s).turn = (S.e s).turn
  up : (S.e t).yours ≤ (S'.e t).yours
  wish : (S'.e t).wishes = (S.e t).wishes
  mine : l.mine ≤ (S'.e t).yours ∧ ((S'.e t).yours = (S.e t).yours ∨ (S'.e t).yours = l.mine)
  opn : ¬ closedAt S' t → wts (S.e t).turn (S.e !t).turn ls + LS S' t + PS' S' t + 1 ≤ wt (S.e !t).turn (S.e t).turn l + LS S t + PS' S t
  cl : closedAt S' t → wts (S.e t).turn (S.e !t).turn ls ≤ wt (S.e !t).turn (S.e t).turn l + LS S t + PS' S t ∧
    ((isAns l.word ∧ l.mine = (S.e t).yours ∧ l.yours = (S.e t).turn) ∨ (l.word = .bye ∧ l.yours = (S.e t).turn ∧ l.mine = (S'.e t).yours))
theorem heard_of (hP : P.Ok) (I : SInvG P S g) {t : Bool} {l : Letter} {rest : List (Bool × Letter)} (ha : S.air = (t, l) :: rest) (r : List Pr) (o : ¬ closedAt S t) :
    Heard P S (hears P S t l rest r) t l rest (heard r (S.e t) l (P.bd t) P.TR).2 := by
  have lo : LetOk (P.bd !t) (S.e !t) (g !t) (g t) l := I.let_ (t, l) (by rw [ha]; exact List.mem_cons_self)
  obtain ⟨p1, p2, p3, p4, p5, p6⟩ := heard_price (hP.rules t) (I.half t) (by omega) o lo r
  have e1 : (hears P S t l rest r).e t = (heard r (S.e t) l (P.bd t) P.TR).1 := setE_same
  have e2 : (hears P S t l rest r).e (!t) = S.e (!t) := setE_not
  refine ⟨e2, ha, rfl, fun s => ?_, by rw [e1]; exact p2, by rw [e1]; exact p3, by rw [e1]; exact p4, ?_, ?_⟩
  · by_cases w : s = t
    · subst w; rw [e1, p1]
    · rw [(ne_not w).1, e2]
  · unfold closedAt LS PS'
    rw [e1, e2]
    exact p5
  · unfold closedAt LS PS'
    rw [e1]
    exact p6
theorem dl_le_LS (S : Sys) (s : Bool) : dl (S.e s) (S.e !s) ≤ LS S s := by unfold LS LX; split <;> omega
/-- the other is closed -/
theorem fall_other (hP : P.Ok) (I : SInvG P S g) {t : Bool} {l : Letter} {rest : List (Bool × Letter)} (ha : S.air = (t, l) :: rest) (r : List Pr) (h1t : ∀ s, 1 ≤ (S.e s).turn) (I' : ∃ g', SInvG P (hears P S t l rest r) g')
    (o : ¬ closedAt S t) (c : closedAt S !t) : pot P (hears P S t l rest r) < pot P S := by
  have H := heard_of hP I ha r o
  obtain ⟨g', I'⟩ := I'
  have lo : LetOk (P.bd !t) (S.e !t) (g !t) (g t) l := I.let_ (t, l) (by rw [ha]; exact List.mem_cons_self)
  have hh := I.half t
  have hh' := I'.half t
  have learn : (heard r (S.e t) l (P.bd t) (P.TR : Int)).1 = (hears P S t l rest r).e t := setE_same.symm
  generalize hS' : hears P S t l rest r = S' at H I' hh' learn
  generalize (heard r (S.e t) l (P.bd t) (P.TR : Int)).2 = ls at H
  have c' : closedAt S' !t := by unfold closedAt; rw [H.same]; exact c
  have w := wS_hear H.air H.air' H.turn
  have len := len_le_wS S
  have len1 : S.air.length = rest.length + 1 := by rw [ha]; rfl
  have o2 : ¬ closedAt S !!t := by rw [Bool.not_not]; exact o
  have posp : 1 ≤ potC P S !t := by unfold potC; split <;> (try split) <;> (try split) <;> omega
  rw [pot_C c o2]
  by_cases ct : closedAt S' t
  · rw [pot_0 (fun s => by by_cases z : s = t; subst z; exact ct; rw [(ne_not z).1]; exact c')]
    omega
  · have o2' : ¬ closedAt S' !!t := by rw [Bool.not_not]; exact ct
    rw [pot_C c' o2']
    have dd : isDoom S' (!t) = isDoom S (!t) := by unfold isDoom; simp only [H.turn]
    have pr := H.opn ct
    have l1 := lets_hear_self H.air H.air'
    have l2 := lets_hear_other H.air H.air'
    -- the doom comes: it closes
    have nh : isDoom S (!t) (t, l) = false := by
      apply Classical.byContradiction
      intro z
      have z' : isDoom S (!t) (t, l) = true := by
        cases q : isDoom S (!t) (t, l)
        · exact absurd q z
        · rfl
      unfold isDoom at z'
      rw [Bool.not_not] at z'
      obtain ⟨_, z2, z3, z4⟩ := of_decide_eq_true z'
      dsimp only at z2 z3 z4
      have yl := hh.yoursLe
      apply ct
      unfold closedAt
      rw [← learn]
      unfold heard
      rw [if_neg (show ¬ (S.e t).stand = .closed from o)]
      have e1 : l.mine = (learnt (S.e t) l P.TR).yours ∧ l.yours = (learnt (S.e t) l P.TR).turn := by
        unfold learnt
        split
        · exact ⟨rfl, z4⟩
        · exact ⟨by omega, z4⟩
      rw [if_pos e1]
      dsimp only
      rw [asEnd_closed]
      unfold heardWord
      rw [z2]
      rfl
    unfold potC
    rw [dd]
    by_cases d : Doomed S !t
    · rw [if_pos d]
      obtain ⟨q, hq, hd⟩ := d
      rw [ha] at hq
      have hq' : q ∈ rest := by
        rcases List.mem_cons.mp hq with z | z
        · rw [z, nh] at hd; cases hd
        · exact z
      have d' : Doomed S' !t := ⟨q, by rw [H.air']; exact List.mem_append_left _ hq', by rw [dd]; exact hd⟩
      rw [if_pos d', H.air', ha, List.findIdx_cons, nh, List.findIdx_append]
      have lt : rest.findIdx (isDoom S !t) < rest.length := List.findIdx_lt_length_of_exists ⟨q, hq', hd⟩
      simp only [cond_false]
      rw [if_pos lt]
      omega
    · have d' : ¬ Doomed S' !t := by
        rintro ⟨q, hq, hd⟩
        rw [dd] at hd
        rw [H.air'] at hq
        rcases List.mem_append.mp hq with z | z
        · exact d ⟨q, by rw [ha]; exact List.mem_cons_of_mem _ z, hd⟩
        · obtain ⟨z0, _, rfl⟩ := List.mem_map.mp z
          unfold isDoom at hd
          cases t <;> simp at hd
      rw [if_neg d, if_neg d', Bool.not_not]
      have rpl : Replies S !t → Replies S' !t := by
        rintro ⟨z, hz, z1, z2, z3⟩
        refine ⟨z, by rw [l2]; exact List.mem_append_left _ hz, z1, ?_, ?_⟩ <;> rw [H.turn] <;> assumption
      by_cases rp : Replies S !t
      · rw [if_pos rp, if_pos (rpl rp)]
        omega
      · rw [if_neg rp]
        by_cases kn : Known S !t
        · have kn' : Known S' !t := by
            unfold Known at kn ⊢
            rw [Bool.not_not] at kn ⊢
            rw [H.turn]
            have y1 := hh'.yoursLe
            rw [H.turn] at y1
            have up := H.up
            have mi := H.mine.1
            rcases kn with z | ⟨z, hz, z1⟩
            · exact .inl (by omega)
            · rw [l1] at hz
              rcases List.mem_cons.mp hz with e | hz
              · exact .inl (by rw [e] at z1; omega)
              · exact .inr ⟨z, hz, z1⟩
          rw [if_pos kn, if_pos kn']
          split <;> omega
        · rw [if_neg kn]
          unfold Known at kn
          rw [Bool.not_not] at kn
          simp only [not_or, not_exists, not_and] at kn
          obtain ⟨k1, k2⟩ := kn
          have ml := lo.mineLe
          have nm : l.mine ≠ (S.e !t).turn := k2 l (by rw [l1]; exact List.mem_cons_self)
          have y0 := hh.yoursLe
          have y' : (S'.e t).yours < (S.e !t).turn := by
            rcases H.mine.2 with z | z <;> omega
          have rp' : ¬ Replies S' !t := by
            rintro ⟨z, hz, z1, z2, z3⟩
            rw [l2] at hz
            rw [H.turn] at z3
            rcases List.mem_append.mp hz with hz | hz
            · exact rp ⟨z, hz, z1, by rw [← H.turn]; exact z2, z3⟩
            · have lz := I'.let_ (!t, z) (by rw [H.air']; exact List.mem_append_right _ (List.mem_map_of_mem hz))
              dsimp only at lz
              rw [Bool.not_not] at lz
              have := lz.yoursLe z1
              omega
          have kn' : ¬ Known S' !t := by
            unfold Known
            rw [Bool.not_not, H.turn]
            rintro (z | ⟨z, hz, z1⟩)
            · omega
            · exact k2 z (by rw [l1]; exact List.mem_cons_of_mem _ hz) z1
          rw [if_neg rp', if_neg kn']
          have ne : lets t S.air ≠ [] := by rw [l1]; exact List.cons_ne_nil _ _
          rw [if_pos ne]
          have tr := (hh'.live ct).triesLe
          have tr0 := (hh'.live ct).tries0
          have eP : PS' S' t = PS' S t := by
            unfold PS' PX
            rw [H.same, H.wish, if_neg (by omega), if_neg (by omega)]
          have eL : LS S t = dl (S.e t) (S.e !t) + 1 := by
            unfold LS LX
            rw [if_neg]
            unfold dl
            omega
          have eL' : LS S' t = dl (S'.e t) (S'.e !t) + 1 := by
            unfold LS LX
            rw [if_neg]
            unfold dl
            rw [H.turn]
            omega
          have d1 : 1 ≤ dl (S'.e t) (S'.e !t) := by unfold dl; rw [H.turn]; omega
          split <;> omega
/-- both stand not closed -/
theorem good_step (hP : P.Ok) (I : SInvG P S g) {t : Bool} {l : Letter} {rest : List (Bool × Letter)} (ha : S.air = (t, l) :: rest) (r : List Pr) (o : ∀ s, ¬ closedAt S s) (o' : ¬ closedAt (hears P S t l rest r) t)
    (gd : ∀ s, GoodS S s) : ∀ s, GoodS (hears P S t l rest r) s := by
  have lo : LetOk (P.bd !t) (S.e !t) (g !t) (g t) l := I.let_ (t, l) (by rw [ha]; exact List.mem_cons_self)
  have e1 : (hears P S t l rest r).e t = (heard r (S.e t) l (P.bd t) P.TR).1 := setE_same
  have e2 : (hears P S t l rest r).e (!t) = S.e (!t) := setE_not
  have l1 := lets_hear_self (S' := hears P S t l rest r) ha rfl
  have l2 := lets_hear_other (S' := hears P S t l rest r) ha rfl
  have hm : ∀ z ∈ lets t S.air, z = l ∨ z ∈ lets t (hears P S t l rest r).air := by
    intro z hz
    rw [l1] at hz
    exact List.mem_cons.mp hz
  intro s
  by_cases w : s = t
  · subst w
    unfold GoodS
    rw [e1, e2, l2]
    refine good_self (hP.rules s) (I.half s) (by omega) (o s) lo r hm ?_ (gd s)
    unfold closedAt at o'
    rw [e1] at o'
    exact o'
  · rw [(ne_not w).1]
    unfold GoodS
    rw [Bool.not_not, e1, e2, l2]
    have gg := gd !t
    unfold GoodS at gg
    rw [Bool.not_not] at gg
    have hy := (I.half !t).gdom
    exact good_other (hP.rules t) (I.half t) (fun a b n p q c e f => (hy a b n p q).2.2.2.2 c e f) (by omega) (o t) (o _) lo r hm gg
theorem fall_N (hP : P.Ok) (I : SInvG P S g) {t : Bool} {l : Letter} {rest : List (Bool × Letter)} (ha : S.air = (t, l) :: rest) (r : List Pr) (h1t : ∀ s, 1 ≤ (S.e s).turn) (I' : ∃ g', SInvG P (hears P S t l rest r) g')
    (o : ∀ s, ¬ closedAt S s) : pot P (hears P S t l rest r) < pot P S := by
  have H := heard_of hP I ha r (o t)
  obtain ⟨g', I'⟩ := I'
  have lo : LetOk (P.bd !t) (S.e !t) (g !t) (g t) l := I.let_ (t, l) (by rw [ha]; exact List.mem_cons_self)
  have hh := I.half t
  have hh' := I'.half t
  have hb := I.half !t
  rw [Bool.not_not] at hb
  have gs := good_step hP I ha r o
  generalize hS' : hears P S t l rest r = S' at H I' hh' gs
  generalize (heard r (S.e t) l (P.bd t) (P.TR : Int)).2 = ls at H
  have w := wS_hear H.air H.air' H.turn
  rw [pot_N o]
  have o2' : ¬ closedAt S' !t := by unfold closedAt; rw [H.same]; exact o _
  have sumN : ∀ T : Sys, (LS T false + PS' T false) + (LS T true + PS' T true) = (LS T t + PS' T t) + (LS T (!t) + PS' T (!t)) := by
    intro T
    cases t <;> simp <;> omega
  have eY : LS S' (!t) = LS S (!t) ∧ PS' S' (!t) = PS' S (!t) := by
    unfold LS PS' LX PX dl
    rw [Bool.not_not, H.same, H.turn]
    exact ⟨rfl, rfl⟩
  by_cases ct : closedAt S' t
  · -- it closes
    rw [pot_C ct o2']
    obtain ⟨pc, why⟩ := H.cl ct
    unfold potN
    have sn := sumN S
    have len := len_le_wS S'
    have k5 : 5 ≤ (if GoodS S false ∧ GoodS S true then 5 else 10) := by split <;> omega
    unfold potC
    split
    · rename_i d
      obtain ⟨q, hq, hd⟩ := d
      have lt : S'.air.findIdx (isDoom S' t) < S'.air.length := List.findIdx_lt_length_of_exists ⟨q, hq, hd⟩
      omega
    · split
      · omega
      · split
        · omega
        · rename_i nd nr nk
          unfold Known at nk
          rw [H.same, H.turn] at nk
          simp only [not_or, not_exists, not_and] at nk
          obtain ⟨k1, k2⟩ := nk
          have yb := hb.yoursLe
          have ya := hh.yoursLe
          have ml := lo.mineLe
          have ap : Apart S := by
            intro s
            have h1 : (S.e t).yours < (S.e !t).turn := by
              rcases why with ⟨w1, w2, w3⟩ | ⟨w1, w2, w3⟩
              · have := lo.yoursLe (isAns_not w1).2.1
                omega
              · have nm : l.mine ≠ (S.e !t).turn := fun e => o _ (lo.bye w1 e.symm)
                have := H.up
                omega
            by_cases z : s = t
            · subst z; exact h1
            · rw [(ne_not z).1, Bool.not_not]
              omega
          rw [if_pos ap]
          have d1 : dl (S'.e !t) (S'.e t) = dl (S.e !t) (S.e t) := by unfold dl; rw [H.same, H.turn]
          have d2 := dl_le_LS S !t
          rw [Bool.not_not] at d2
          have tr := (hb.live (o _)).triesLe
          rw [d1, H.same]
          split <;> omega
  · have o' : ∀ s, ¬ closedAt S' s := fun s => by by_cases z : s = t; subst z; exact ct; rw [(ne_not z).1]; exact o2'
    rw [pot_N o']
    have pr := H.opn ct
    unfold potN
    have sn := sumN S
    have sn' := sumN S'
    obtain ⟨e1, e2⟩ := eY
    have gl : (if GoodS S' false ∧ GoodS S' true then 5 else 10) ≤ (if GoodS S false ∧ GoodS S true then 5 else 10) := by
      by_cases gd : GoodS S false ∧ GoodS S true
      · have := gs ct (fun s => by cases s; exact gd.1; exact gd.2)
        rw [if_pos gd, if_pos ⟨this _, this _⟩]
        omega
      · rw [if_neg gd]
        split <;> omega
    have al : (if Apart S' then 2 * P.TR + 1 else 0) ≤ (if Apart S then 2 * P.TR + 1 else 0) := by
      by_cases ap : Apart S'
      · have : Apart S := fun s => by
          have h1 := ap s
          rw [H.turn] at h1
          by_cases z : s = t
          · subst z
            have := H.up
            omega
          · rw [(ne_not z).1, Bool.not_not] at h1 ⊢
            rw [H.same] at h1
            exact h1
        rw [if_pos ap, if_pos this]
        omega
      · rw [if_neg ap]
        omega
    omega
end
end CW
/-! part CwTick -/
/-! The settling: both tick where nothing is on its way; the settling comes to its end. -/
namespace CW
open PySem Classical
inductive TickRes (X : End) : End → List Letter → Prop
  | closed (c : X.stand = .closed) : TickRes X X []
  | out {Z : End} {z : Letter} (o : X.stand ≠ .closed) (c : Z.stand = .closed) (t : Z.turn = X.turn) (y : Z.yours = X.yours) (s : Z.wishes = X.wishes) (w : z.word = .bye) (m : z.mine = X.turn) (y' : z.yours = X.yours) (tr : X.tries = 0) : TickRes X Z [z]
  | on {Z : End} {z : Letter} (k : Kept X Z) (o : X.stand ≠ .closed) (tr : Z.tries = X.tries - 1) (tr0 : X.tries ≠ 0) (w : (X.given = none ∧ z.word = .ask ∧ z.number = X.number) ∨ (X.given.isSome = true ∧ z.word = .here)) (m : z.mine = X.turn) (y' : z.yours = X.yours) : TickRes X Z [z]
theorem ticked_res (X : End) : TickRes X (ticked X).1 (ticked X).2 := by
  unfold ticked
  by_cases c : X.stand = .closed
  · rw [if_pos c]
    exact .closed c
  · rw [if_neg c]
    by_cases t : X.tries = 0
    · rw [if_pos t]
      exact .out c (asEnd_closed.mpr rfl) rfl rfl rfl rfl rfl rfl t
    · rw [if_neg t]
      refine .on ⟨rfl, rfl, rfl, rfl, rfl, rfl, fun z => c (asEnd_closed (e := { X with tries := X.tries - 1 }).mp z)⟩ c rfl t ?_ ?_ ?_
      · cases g : X.given with
        | none => exact .inl ⟨rfl, by simp [askLet, writ], by simp [askLet, writ]⟩
        | some v => exact .inr ⟨rfl, by simp [writ]⟩
      · split <;> rfl
      · split <;> rfl
def tick1 (S : Sys) (s : Bool) : Sys := ⟨setE S.e s (ticked (S.e s)).1, S.air ++ sent s (ticked (S.e s)).2⟩
def ticks (S : Sys) : Sys := tick1 (tick1 S false) true
theorem tick1_inv {P : Play} (hP : P.Ok) {S : Sys} (I : SInv P S) (s : Bool) : SInv P (tick1 S s) := by
  obtain ⟨g, I⟩ := I
  exact I.go (ticked_step (I.half s) (hP.rules s).names) fun q hq => List.mem_append.mp hq
theorem ticks_inv {P : Play} (hP : P.Ok) {S : Sys} (I : SInv P S) : SInv P (ticks S) := tick1_inv hP (tick1_inv hP I false) true
theorem ticks_e (S : Sys) (s : Bool) : (ticks S).e s = (ticked (S.e s)).1 := by
  cases s <;> simp [ticks, tick1, setE]
theorem ticks_air (S : Sys) (h : S.air = []) : (ticks S).air = sent false (ticked (S.e false)).2 ++ sent true (ticked (S.e true)).2 := by
  show ((S.air ++ _) ++ _) = _
  rw [h]
  rfl
theorem TickRes.turn {X Z : End} {ls : List Letter} (h : TickRes X Z ls) : Z.turn = X.turn ∧ Z.yours = X.yours ∧ Z.wishes = X.wishes := by
  cases h with
  | closed c => exact ⟨rfl, rfl, rfl⟩
  | out o c t y s => exact ⟨t, y, s⟩
  | on k => exact ⟨k.turn, k.yours, k.wishes⟩
/-- the settling's end -/
def Settled (S : Sys) : Prop := (∀ s, closedAt S s) ∨ (S.air = [] ∧ standsOpen (S.e false) (S.e true) = true)
theorem standsOpen_iff (a b : End) : standsOpen a b = true ↔ a.stand = .opn ∧ b.stand = .opn ∧ a.yours = b.turn ∧ b.yours = a.turn := by
  unfold standsOpen
  simp [and_assoc]
theorem lets_ticks (S : Sys) (h : S.air = []) (s : Bool) : lets s (ticks S).air = (ticked (S.e !s)).2 := by
  rw [ticks_air S h, lets_append]
  cases s
  · rw [lets_sent_same, List.nil_append]
    exact lets_sent_other true _
  · rw [show lets true (sent true (ticked (S.e true)).2) = [] from lets_sent_same _ _, List.append_nil]
    exact lets_sent_other false _
section
variable {P : Play} {S : Sys} {g : Bool → Gh}
/-- both good, nothing on its way: open for one another -/
theorem good_settled (I : SInvG P S g) (h : S.air = []) (o : ∀ s, ¬ closedAt S s) (gd : ∀ s, GoodS S s) : standsOpen (S.e false) (S.e true) = true := by
  have sy : ∀ s, (S.e s).yours = (S.e !s).turn ∧ (S.e s).given.isSome = true := by
    intro s
    have := gd s
    unfold GoodS GoodX GX lets at this
    rw [h] at this
    rcases this with ⟨a, b | ⟨_, hl, _⟩ | ⟨_, hl, _⟩⟩ | ⟨_, _, hl, _⟩
    · exact ⟨a, b⟩
    · simp at hl
    · simp at hl
    · simp at hl
  have op : ∀ s, (S.e s).stand = .opn := by
    intro s
    refine (opn_iff (I.half s).norm).mpr ⟨o s, (sy s).2, ?_⟩
    have L := (I.half s).live (o s)
    have L' := (I.half (!s)).live (o _)
    rw [Bool.not_not] at L'
    obtain ⟨gv, hg⟩ := Option.isSome_iff_exists.mp (sy !s).2
    obtain ⟨g1, g2, g3, g4⟩ := L'.giv gv hg
    have y1 := (sy s).1
    have y2 := (sy !s).1
    rw [Bool.not_not] at y2
    have n1 := g4 (o s) y2.symm y1
    have n2 := L'.number1
    obtain ⟨p, p1, p2, _⟩ := L.ans (by omega)
    have hd := (I.half !s).gdom
    have n3 := (hd _ _ _ _ p1).2.2.2.2 (o _) y1 y2.symm
    have e : (S.e s).heard = (S.e !s).number := by omega
    rw [e, y1, ← y2, L'.cur] at p1
    have e2 : p = gv := by rw [g1]; exact (Option.some.inj p1).symm
    rw [e2, g2] at p2
    rw [p2]
    rfl
  have e1 := (sy false).1
  have e2 := (sy true).1
  exact (standsOpen_iff _ _).mpr ⟨op _, op _, e1, e2⟩
theorem fall_tick_C (hP : P.Ok) (I : SInvG P S g) (h : S.air = []) (h1t : ∀ s, 1 ≤ (S.e s).turn) {s : Bool} (c : closedAt S s) (o : ¬ closedAt S !s) : pot P (ticks S) < pot P S := by
  have rc := ticked_res (S.e s)
  have ro := ticked_res (S.e !s)
  have ls := lets_ticks S h s
  have lo := lets_ticks S h (!s)
  rw [Bool.not_not] at lo
  have es := ticks_e S s
  have eo := ticks_e S (!s)
  have ea : (ticked (S.e s)).2 = [] ∧ (ticked (S.e s)).1 = S.e s := by
    unfold ticked
    rw [if_pos (show (S.e s).stand = .closed from c)]
    exact ⟨rfl, rfl⟩
  have air : (ticks S).air = sent (!s) (ticked (S.e !s)).2 := by
    rw [ticks_air S h]
    cases s
    · rw [ea.1]; rfl
    · rw [ea.1]
      show _ ++ [] = _
      rw [List.append_nil]
      rfl
  rw [ea.1] at lo
  rw [ea.2] at es
  have hh := I.half s
  have ho := I.half !s
  rw [Bool.not_not] at ho
  generalize ticks S = S' at *
  generalize (ticked (S.e !s)).1 = Z at ro eo
  generalize (ticked (S.e !s)).2 = zs at ro ls air
  rw [pot_C c o]
  have c' : closedAt S' s := by unfold closedAt; rw [es]; exact c
  have nd : ¬ Doomed S s := by rintro ⟨q, hq, _⟩; rw [h] at hq; cases hq
  have nr : ¬ Replies S s := by rintro ⟨q, hq, _⟩; rw [h] at hq; cases hq
  have w0 : wS S = 0 := by unfold wS; rw [h]; rfl
  cases ro with
  | closed c2 => exact absurd c2 o
  | out _ c2 t y =>
    rw [pot_0 (fun u => by by_cases z : u = s; subst z; exact c'; rw [(ne_not z).1]; unfold closedAt; rw [eo]; exact c2)]
    unfold potC
    rw [if_neg nd, if_neg nr]
    split <;> omega
  | on k o3 tr tr0 w m y' =>
    rename_i z
    have o' : ¬ closedAt S' !s := by unfold closedAt; rw [eo]; exact k.opn
    rw [pot_C c' o']
    have nd' : ¬ Doomed S' s := by
      rintro ⟨q, hq, hd⟩
      rw [air] at hq
      obtain ⟨z0, _, rfl⟩ := List.mem_map.mp hq
      unfold isDoom at hd
      cases s <;> simp at hd
    have zb : z.word ≠ .bye := by rcases w with ⟨_, w, _⟩ | ⟨_, w⟩ <;> rw [w] <;> decide
    have e1 : LS S' (!s) = LS S (!s) := by unfold LS LX dl; rw [Bool.not_not, es, eo, k.yours]
    have e2 : PS' S' (!s) = PS' S (!s) := by unfold PS' PX; rw [Bool.not_not, es, eo, k.yours, k.plan, k.wishes]
    have w1 : wS S' = wt (S.e !s).turn (S.e s).turn z := by
      unfold wS
      rw [air]
      simp [sent, weight, es, eo, k.turn]
    have w2 := wt_le (S.e !s).turn (S.e s).turn z
    unfold potC
    rw [if_neg nd, if_neg nr, if_neg nd', w0]
    by_cases kn : Known S s
    · have yy : (S.e !s).yours = (S.e s).turn := by
        unfold Known at kn
        rcases kn with z | ⟨z, hz, _⟩
        · exact z
        · rw [h] at hz; cases hz
      have rp' : Replies S' s := ⟨z, by rw [ls]; exact List.mem_singleton.mpr rfl, zb, by rw [eo, k.turn]; exact m, by rw [es, y']; exact yy⟩
      rw [if_pos kn, if_pos rp', e1, e2]
      omega
    · have ny : (S.e !s).yours ≠ (S.e s).turn := fun z => kn (.inl z)
      have rp' : ¬ Replies S' s := by
        rintro ⟨q, hq, _, _, q3⟩
        rw [ls] at hq
        rw [List.mem_singleton.mp hq, es, y'] at q3
        exact ny q3
      have kn' : ¬ Known S' s := by
        unfold Known
        rw [eo, es, k.yours, lo]
        rintro (z | ⟨z, hz, _⟩)
        · exact ny z
        · cases hz
      have nl : lets (!s) S.air = [] := by rw [h]; rfl
      have d1 : dl (S'.e !s) (S'.e s) = dl (S.e !s) (S.e s) := by unfold dl; rw [es, eo, k.yours]
      have w3 : wt (S.e !s).turn (S.e s).turn z = 1 := by
        unfold wt
        rw [if_pos (.inr (by rw [y']; exact ny))]
      have t0 := (ho.live o).tries0
      rw [if_neg kn, if_neg rp', if_neg kn', w1, w3, d1, lo, nl, eo, tr]
      simp only [ne_eq, not_true_eq_false, if_false]
      omega
theorem GX_tick {X Z : End} {z : Letter} {toX toY : List Letter} (h : TickRes X Z [z]) (k : Kept X Z) (hm : z ∈ toY) : GX Z toX toY := by
  cases h with
  | out o c => exact absurd c k.opn
  | on k' o tr tr0 w m y' =>
    rcases w with ⟨g, w1, w2⟩ | ⟨g, _⟩
    · exact .inr (.inl ⟨z, hm, w1, by rw [m, k.turn], by rw [y', k.yours], by rw [w2, k.number]⟩)
    · exact .inl (by rw [k.given]; exact g)
theorem fall_tick_N (hP : P.Ok) (I : SInvG P S g) (h : S.air = []) (h1t : ∀ s, 1 ≤ (S.e s).turn) (o : ∀ s, ¬ closedAt S s) (ns : ¬ Settled S) : pot P (ticks S) < pot P S := by
  have nb : ¬ (GoodS S false ∧ GoodS S true) := fun z => ns (.inr ⟨h, good_settled I h o (fun s => by cases s; exact z.1; exact z.2)⟩)
  have R : ∀ s, TickRes (S.e s) ((ticks S).e s) (lets (!s) (ticks S).air) := fun s => by
    rw [ticks_e, lets_ticks S h, Bool.not_not]
    exact ticked_res _
  have hh := fun s => I.half s
  have alen : (ticks S).air.length = (lets true (ticks S).air).length + (lets false (ticks S).air).length := by
    rw [ticks_air S h, lets_append, lets_append]
    rw [show lets true (sent true (ticked (S.e true)).2) = [] from lets_sent_same _ _, show lets false (sent false (ticked (S.e false)).2) = [] from lets_sent_same _ _,
      show lets true (sent false (ticked (S.e false)).2) = _ from lets_sent_other false _, show lets false (sent true (ticked (S.e true)).2) = _ from lets_sent_other true _]
    simp [sent]
  have wsum : wS (ticks S) ≤ 2 * (ticks S).air.length := by
    unfold wS
    generalize (ticks S).air = L
    induction L with
    | nil => simp
    | cons q r ih =>
      simp only [List.map_cons, List.sum_cons, List.length_cons]
      have : weight (ticks S) q ≤ 2 := wt_le _ _ _
      omega
  have mem : ∀ s l, l ∈ lets s (ticks S).air → (s, l) ∈ (ticks S).air := fun s l hl => mem_lets.mp hl
  rw [pot_N o]
  have k10 : potN P S = wS S + (LS S false + PS' S false) + (LS S true + PS' S true) + 10 + (if Apart S then 2 * P.TR + 1 else 0) := by
    unfold potN
    rw [if_neg nb]
  rw [k10]
  generalize ticks S = S' at *
  have eT : ∀ s, (S'.e s).turn = (S.e s).turn ∧ (S'.e s).yours = (S.e s).yours ∧ (S'.e s).wishes = (S.e s).wishes := fun s => (R s).turn
  have one : ∀ s, (lets s S'.air).length = 1 := by
    intro s
    have r := R !s
    rw [Bool.not_not] at r
    generalize lets s S'.air = zs at r
    generalize S'.e (!s) = Z at r
    cases r with
    | closed c => exact absurd c (o _)
    | out => rfl
    | on => rfl
  have a2 : S'.air.length = 2 := by rw [alen, one, one]
  have keepLP : ∀ s, ¬ closedAt S' s → LS S' s = LS S s ∧ PS' S' s = PS' S s := by
    intro s c
    have r := R s
    generalize hz : lets (!s) S'.air = zs at r
    generalize hZ : S'.e s = Z at r
    have hc : Z.stand ≠ .closed := by rw [← hZ]; exact c
    cases r with
    | closed c => exact absurd c (o _)
    | out _ c => exact absurd c hc
    | on k =>
      unfold LS PS' LX PX dl
      rw [hZ, (eT !s).1, k.yours, k.plan, k.wishes]
      exact ⟨rfl, rfl⟩
  by_cases c0 : ∃ s, closedAt S' s
  · obtain ⟨s, cs⟩ := c0
    by_cases cn : closedAt S' !s
    · rw [pot_0 (fun u => by by_cases z : u = s; subst z; exact cs; rw [(ne_not z).1]; exact cn)]
      omega
    · rw [pot_C cs cn]
      obtain ⟨l1, l2⟩ := keepLP _ cn
      have sumN : (LS S false + PS' S false) + (LS S true + PS' S true) = (LS S s + PS' S s) + (LS S (!s) + PS' S (!s)) := by
        cases s <;> simp <;> omega
      -- the bye of the one that closed
      have bye : ∃ z ∈ lets (!s) S'.air, z.word = .bye ∧ z.mine = (S.e s).turn := by
        have r := R s
        generalize hz : lets (!s) S'.air = zs at r
        generalize hZ : S'.e s = Z at r
        have hc : Z.stand = .closed := by rw [← hZ]; exact cs
        cases r with
        | closed c => exact absurd c (o _)
        | out _ _ _ _ _ w m => exact ⟨_, List.mem_singleton.mpr rfl, w, m⟩
        | on k => exact absurd hc k.opn
      have wle : wS S' ≤ 4 := by omega
      have w3 : wS S' ≤ 3 := by
        obtain ⟨z, hz, zw, _⟩ := bye
        have hm := mem _ _ hz
        unfold wS
        match hL : S'.air, a2 with
        | [q1, q2], _ =>
          rw [hL] at hm
          simp only [List.map_cons, List.map_nil, List.sum_cons, List.sum_nil]
          have u1 : weight S' q1 ≤ 2 := wt_le _ _ _
          have u2 : weight S' q2 ≤ 2 := wt_le _ _ _
          have ub : weight S' (!s, z) = 1 := by unfold weight wt; simp [zw]
          rcases List.mem_cons.mp hm with e | hm
          · rw [← e]; omega
          · rw [← List.mem_singleton.mp hm]; omega
      have kn : Known S' s := by
        obtain ⟨z, hz, _, zm⟩ := bye
        exact .inr ⟨z, hz, by rw [(eT s).1]; exact zm⟩
      unfold potC
      split
      · rename_i d
        obtain ⟨q, hq, hd⟩ := d
        have lt : S'.air.findIdx (isDoom S' s) < S'.air.length := List.findIdx_lt_length_of_exists ⟨q, hq, hd⟩
        omega
      · (try rw [if_pos kn])
        split <;> omega
  · have o' : ∀ s, ¬ closedAt S' s := fun s c => c0 ⟨s, c⟩
    rw [pot_N o']
    obtain ⟨l1, l2⟩ := keepLP false (o' _)
    obtain ⟨l3, l4⟩ := keepLP true (o' _)
    have kp : ∀ s, ∃ z, Kept (S.e s) (S'.e s) ∧ lets (!s) S'.air = [z] ∧ TickRes (S.e s) (S'.e s) [z] ∧ z.mine = (S.e s).turn := by
      intro s
      have r := R s
      generalize hz : lets (!s) S'.air = zs at r
      generalize hZ : S'.e s = Z at r
      have hc : Z.stand ≠ .closed := by rw [← hZ]; exact o' s
      cases r with
      | closed c => exact absurd c (o _)
      | out _ c => exact absurd c hc
      | on k a b c d m y =>
        rename_i z
        exact ⟨z, k, rfl, .on k a b c d m y, m⟩
    have gd : ∀ s, GoodS S' s := by
      intro s
      obtain ⟨z, k, hz, tr, zm⟩ := kp s
      obtain ⟨z2, k2, hz2, _, zm2⟩ := kp !s
      rw [Bool.not_not] at hz2
      unfold GoodS GoodX
      rw [hz, hz2, k.yours, (eT !s).1]
      have := (hh s).yoursLe
      by_cases q : (S.e s).yours = (S.e !s).turn
      · exact .inl ⟨q, GX_tick tr k (List.mem_singleton.mpr rfl)⟩
      · exact .inr ⟨by omega, z2, List.mem_singleton.mpr rfl, zm2⟩
    have ap : Apart S' ↔ Apart S := by
      unfold Apart
      constructor <;> intro a s <;> have := a s <;> simpa [(eT s).2.1, (eT !s).1] using this
    unfold potN
    rw [if_pos ⟨gd _, gd _⟩, l1, l2, l3, l4]
    have : (if Apart S' then 2 * P.TR + 1 else 0) = (if Apart S then 2 * P.TR + 1 else 0) := by
      by_cases q : Apart S
      · rw [if_pos q, if_pos (ap.mpr q)]
      · rw [if_neg q, if_neg (fun z => q (ap.mp z))]
    rw [this]
    omega
/-- THE SETTLING FALLS: by a tick -/
theorem fall_tick (hP : P.Ok) (I : SInvG P S g) (h : S.air = []) (h1t : ∀ s, 1 ≤ (S.e s).turn) (ns : ¬ Settled S) : pot P (ticks S) < pot P S := by
  by_cases c : closedAt S false
  · by_cases c2 : closedAt S true
    · exact absurd (.inl fun s => by cases s; exact c; exact c2) ns
    · exact fall_tick_C (s := false) hP I h h1t c c2
  · by_cases c2 : closedAt S true
    · exact fall_tick_C (s := true) hP I h h1t c2 c
    · exact fall_tick_N hP I h h1t (fun s => by cases s; exact c; exact c2) ns
/-- .. by a letter that comes -/
theorem fall_hear (hP : P.Ok) (I : SInvG P S g) {t : Bool} {l : Letter} {rest : List (Bool × Letter)} (ha : S.air = (t, l) :: rest) {r : List Pr} (hr : RefFor r (S.e t) l) (h1t : ∀ s, 1 ≤ (S.e s).turn) (ns : ¬ Settled S) :
    pot P (hears P S t l rest r) < pot P S := by
  have I' := hears_inv hP I (t := t) (l := l) (rest := rest) (fun q hq => by rw [ha]; exact List.mem_cons_of_mem _ hq) (by rw [ha]; exact List.mem_cons_self) hr
  by_cases c : closedAt S t
  · by_cases c2 : closedAt S !t
    · exact absurd (.inl fun s => by by_cases z : s = t; subst z; exact c; rw [(ne_not z).1]; exact c2) ns
    · exact fall_closed hP I ha r h1t c c2
  · by_cases c2 : closedAt S !t
    · exact fall_other hP I ha r h1t I' c c2
    · exact fall_N hP I ha r h1t I' (fun s => by by_cases z : s = t; subst z; exact c; rw [(ne_not z).1]; exact c2)
end
end CW
/-! part CwLed -/
/-! What forty things bring about: how much is left to settle. -/
namespace CW
open PySem Classical
def w2 (q : Bool × Letter) : Nat := if q.2.word = .bye then 1 else 2
theorem w2_le (q : Bool × Letter) : w2 q ≤ 2 ∧ 1 ≤ w2 q := by unfold w2; split <;> omega
def aW (air : List (Bool × Letter)) : Nat := (air.map w2).sum
/-- letters of s at its turn, on their way -/
def kN (s : Bool) (t : Int) (air : List (Bool × Letter)) : Nat := air.countP fun q => decide (q.1 = !s ∧ q.2.mine = t)
noncomputable def cV (closed : Prop) (k : Nat) : Nat := if closed then (if k = 0 then 4 else if k = 1 then 2 else 0) else (if k = 0 then 2 else 0)
noncomputable def cS (S : Sys) (s : Bool) : Nat := if (S.e !s).yours < (S.e s).turn then cV (closedAt S s) (kN s (S.e s).turn S.air) else 0
noncomputable def cl01 (S : Sys) (s : Bool) : Nat := if closedAt S s then 1 else 0
def dS (S : Sys) (s : Bool) : Nat := dl (S.e s) (S.e !s)
noncomputable def psiS (S : Sys) (s : Bool) : Nat := dS S s + cl01 S s + cS S s
noncomputable def psi (S : Sys) : Nat := aW S.air + psiS S false + psiS S true
noncomputable def psj (S : Sys) : Nat := 2 * S.air.length + (2 * dS S false + cl01 S false) + (2 * dS S true + cl01 S true)
theorem aW_append (a b : List (Bool × Letter)) : aW (a ++ b) = aW a + aW b := by simp [aW]
theorem kN_append (s : Bool) (t : Int) (a b : List (Bool × Letter)) : kN s t (a ++ b) = kN s t a + kN s t b := by simp [kN, List.countP_append]
theorem aW_erase : ∀ {air : List (Bool × Letter)} {k : Nat} {q : Bool × Letter}, air[k]? = some q → aW air = w2 q + aW (air.eraseIdx k)
  | [], k, q, h => by simp at h
  | a :: r, 0, q, h => by
    simp at h
    subst h
    simp [aW]
  | a :: r, k + 1, q, h => by
    have := aW_erase (air := r) (k := k) (q := q) (by simpa using h)
    simp only [aW, List.map_cons, List.sum_cons, List.eraseIdx_cons_succ] at *
    omega
theorem kN_erase {s : Bool} {t : Int} : ∀ {air : List (Bool × Letter)} {k : Nat} {q : Bool × Letter}, air[k]? = some q → kN s t air = (if q.1 = !s ∧ q.2.mine = t then 1 else 0) + kN s t (air.eraseIdx k)
  | [], k, q, h => by simp at h
  | a :: r, 0, q, h => by
    simp at h
    subst h
    simp only [kN, List.countP_cons, List.eraseIdx_cons_zero]
    by_cases w : a.1 = !s ∧ a.2.mine = t
    · simp [w]; omega
    · simp [w]
  | a :: r, k + 1, q, h => by
    have := kN_erase (s := s) (t := t) (air := r) (k := k) (q := q) (by simpa using h)
    simp only [kN, List.countP_cons, List.eraseIdx_cons_succ] at *
    omega
theorem len_erase {air : List (Bool × Letter)} {k : Nat} {q : Bool × Letter} (h : air[k]? = some q) : air.length = (air.eraseIdx k).length + 1 := by
  have := (List.getElem?_eq_some_iff.mp h).1
  rw [List.length_eraseIdx, if_pos this]
  omega
theorem kN_sent_self (s : Bool) (t : Int) (ls : List Letter) : kN s t (sent s ls) = ls.countP fun l => decide (l.mine = t) := by
  unfold kN sent
  rw [List.countP_map]
  congr 1
  funext l
  simp
theorem kN_sent_other (s : Bool) (t : Int) (ls : List Letter) : kN (!s) t (sent s ls) = 0 := by
  unfold kN sent
  rw [List.countP_map, List.countP_eq_zero]
  intro l _
  cases s <;> simp
theorem cV_le (c : Prop) (k : Nat) : cV c k ≤ 4 := by unfold cV; split <;> split <;> (try split) <;> omega
/-! ### an end does something of itself -/
inductive OwnRes (X : End) : End → List Letter → Prop
  | opn {Z : End} {z : Letter} (c : X.stand = .closed) (o : Z.stand ≠ .closed) (t : Z.turn = X.turn + 1) (y : Z.yours = X.yours) (m : z.mine = X.turn + 1) : OwnRes X Z [z]
  | cls {Z : End} {z : Letter} (o : X.stand ≠ .closed) (c : Z.stand = .closed) (t : Z.turn = X.turn) (y : Z.yours = X.yours) (w : z.word = .bye) (m : z.mine = X.turn) : OwnRes X Z [z]
  | on {Z : End} {z : Letter} (o : X.stand ≠ .closed) (o' : Z.stand ≠ .closed) (t : Z.turn = X.turn) (y : Z.yours = X.yours) (m : z.mine = X.turn) : OwnRes X Z [z]
theorem opened_own {X : End} (c : X.stand = .closed) (tr : Int) : OwnRes X (opened X tr).1 (opened X tr).2 :=
  .opn (Z := asEnd (openedE X tr)) c (fun z => by have := asEnd_closed (e := openedE X tr) |>.mp z; cases this) rfl rfl rfl
theorem closing_own {X : End} (o : X.stand ≠ .closed) : OwnRes X (closing X).1 (closing X).2 := .cls o (asEnd_closed.mpr rfl) rfl rfl rfl rfl
theorem ticked_own {X : End} (o : X.stand ≠ .closed) : OwnRes X (ticked X).1 (ticked X).2 := by
  have r := ticked_res X
  generalize (ticked X).1 = Z at r
  generalize (ticked X).2 = zs at r
  cases r with
  | closed c => exact absurd c o
  | out _ c t y _ w m => exact .cls o c t y w m
  | on k _ _ _ _ m => exact .on o k.opn k.turn k.yours m
theorem wished_own {X : End} (o : X.stand ≠ .closed) (ws : List Wish) (tr : Int) : OwnRes X (wished X ws tr).1 (wished X ws tr).2 := by
  unfold wished
  rw [if_neg o]
  split
  · exact .cls o (asEnd_closed.mpr rfl) rfl rfl rfl rfl
  · exact .on (Z := asEnd (wishedE X ws tr)) o (fun z => o (asEnd_closed (e := wishedE X ws tr).mp z)) rfl rfl rfl
theorem own_psi {S : Sys} {s : Bool} {Z : End} {ls : List Letter} (h : OwnRes (S.e s) Z ls) (yl : (S.e !s).yours ≤ (S.e s).turn) (S' : Sys) (he : S' = ⟨setE S.e s Z, S.air ++ sent s ls⟩) : psi S' ≤ psi S + 2 ∧ psj S' ≤ psj S + 3 := by
  have e1 : S'.e s = Z := by rw [he]; exact setE_same
  have e2 : S'.e (!s) = S.e !s := by rw [he]; exact setE_not
  have ea : S'.air = S.air ++ sent s ls := by rw [he]
  have sum1 : ∀ T : Sys, psi T = aW T.air + psiS T s + psiS T (!s) := by intro T; unfold psi; cases s <;> simp <;> omega
  have sum2 : ∀ T : Sys, psj T = 2 * T.air.length + (2 * dS T s + cl01 T s) + (2 * dS T (!s) + cl01 T (!s)) := by intro T; unfold psj; cases s <;> simp <;> omega
  have oc : cl01 S' (!s) = cl01 S (!s) := by unfold cl01 closedAt; rw [e2]
  have oS : (S'.e s).yours = (S.e s).yours → cS S' (!s) = cS S (!s) := by
    intro hy
    unfold cS closedAt
    rw [e2, Bool.not_not, hy, ea, kN_append, kN_sent_other, Nat.add_zero]
  rw [sum1, sum1, sum2, sum2, ea, aW_append, List.length_append]
  unfold psiS
  rw [oc]
  have k1 : kN s (S'.e s).turn S'.air = kN s (S'.e s).turn S.air + ls.countP (fun l => decide (l.mine = (S'.e s).turn)) := by rw [ea, kN_append, kN_sent_self]
  have dO : dS S' (!s) = ((S'.e s).turn - (S.e !s).yours).toNat := by unfold dS dl; rw [Bool.not_not, e2]
  have dO' : dS S (!s) = ((S.e s).turn - (S.e !s).yours).toNat := by unfold dS dl; rw [Bool.not_not]
  have dI : dS S' s = ((S.e !s).turn - (S'.e s).yours).toNat := by unfold dS dl; rw [e2]
  have dI' : dS S s = ((S.e !s).turn - (S.e s).yours).toNat := rfl
  have wz : ∀ z : Letter, aW (sent s [z]) ≤ 2 ∧ (z.word = .bye → aW (sent s [z]) = 1) ∧ (sent s [z]).length = 1 := by
    intro z
    refine ⟨?_, fun h => ?_, rfl⟩
    · have := (w2_le (!s, z)).1
      simpa [aW, sent] using this
    · simp [aW, sent, w2, h]
  cases h with
  | opn c o t y m =>
    rename_i z
    obtain ⟨w1, _, w3⟩ := wz z
    have q1 : cl01 S s = 1 := if_pos c
    have q2 : cl01 S' s = 0 := if_neg (by unfold closedAt; rw [e1]; exact o)
    have q3 : cS S' s = 0 := by
      unfold cS
      have : (List.countP (fun l => decide (l.mine = (S'.e s).turn)) [z]) = 1 := by rw [e1, t]; simp [m]
      rw [k1, this]
      split
      · unfold cV
        rw [if_neg (by unfold closedAt; rw [e1]; exact o)]
        rw [if_neg (by omega)]
      · rfl
    rw [oS (by rw [e1]; exact y), q1, q2, q3, dO, dO', dI, dI', e1, y, t, w3]
    omega
  | cls o c t y w m =>
    rename_i z
    obtain ⟨_, w2', w3⟩ := wz z
    have w1 := w2' w
    have q1 : cl01 S s = 0 := if_neg o
    have q2 : cl01 S' s = 1 := if_pos (by unfold closedAt; rw [e1]; exact c)
    have q3 : cS S' s ≤ cS S s := by
      unfold cS
      have : (List.countP (fun l => decide (l.mine = (S'.e s).turn)) [z]) = 1 := by rw [e1, t]; simp [m]
      rw [k1, this, e1, e2, t]
      split
      · unfold cV
        rw [if_pos (show closedAt S' s by unfold closedAt; rw [e1]; exact c), if_neg (show ¬ closedAt S s from o)]
        split <;> split <;> (try split) <;> omega
      · omega
    rw [oS (by rw [e1]; exact y), q1, q2, dO, dO', dI, dI', e1, y, t, w1, w3]
    omega
  | on o o' t y m =>
    rename_i z
    obtain ⟨w1, _, w3⟩ := wz z
    have q1 : cl01 S s = 0 := if_neg o
    have q2 : cl01 S' s = 0 := if_neg (by unfold closedAt; rw [e1]; exact o')
    have q3 : cS S' s ≤ cS S s := by
      unfold cS
      have : (List.countP (fun l => decide (l.mine = (S'.e s).turn)) [z]) = 1 := by rw [e1, t]; simp [m]
      rw [k1, this, e1, e2, t]
      split
      · unfold cV
        rw [if_neg (show ¬ closedAt S' s by unfold closedAt; rw [e1]; exact o'), if_neg (show ¬ closedAt S s from o)]
        split <;> split <;> omega
      · omega
    rw [oS (by rw [e1]; exact y), q1, q2, dO, dO', dI, dI', e1, y, t, w3]
    omega
/-! ### a letter is lost, doubled -/
theorem air_psi {S S' : Sys} (he : S'.e = S.e) (hk : ∀ s t, kN s t S'.air + 1 ≥ kN s t S.air) {d : Nat} (one : ∃ s, ∀ t, kN (!s) t S'.air ≥ kN (!s) t S.air) (ha : aW S'.air ≤ aW S.air + d) (hl : S'.air.length ≤ S.air.length + 1)
    (hd : d = 0 ∨ ∀ s t, kN s t S'.air ≥ kN s t S.air) (d2 : d ≤ 2) : psi S' ≤ psi S + 2 ∧ psj S' ≤ psj S + 3 := by
  have e1 : ∀ s, dS S' s = dS S s := fun s => by unfold dS; rw [he]
  have e2 : ∀ s, cl01 S' s = cl01 S s := fun s => by unfold cl01 closedAt; rw [he]
  have mono : ∀ s, kN s (S.e s).turn S'.air ≥ kN s (S.e s).turn S.air → cS S' s ≤ cS S s := by
    intro s h
    unfold cS closedAt
    rw [he]
    split
    · unfold cV
      split <;> split <;> (try split) <;> (try split) <;> (try split) <;> omega
    · omega
  have two : ∀ s, cS S' s ≤ cS S s + 2 := by
    intro s
    have := hk s (S.e s).turn
    unfold cS closedAt
    rw [he]
    split
    · unfold cV
      split <;> split <;> (try split) <;> (try split) <;> (try split) <;> omega
    · omega
  have hc : d + cS S' false + cS S' true ≤ cS S false + cS S true + 2 := by
    rcases hd with h0 | h
    · obtain ⟨s, hs⟩ := one
      have m1 := mono (!s) (hs _)
      have m2 := two s
      cases s
      · have m1 : cS S' true ≤ cS S true := m1
        omega
      · have m1 : cS S' false ≤ cS S false := m1
        omega
    · have := mono false (h _ _)
      have := mono true (h _ _)
      omega
  unfold psi psj psiS
  rw [e1, e1, e2, e2]
  omega
theorem lost_psi {S : Sys} {k : Nat} {q : Bool × Letter} (h : S.air[k]? = some q) : psi ⟨S.e, S.air.eraseIdx k⟩ ≤ psi S + 2 ∧ psj ⟨S.e, S.air.eraseIdx k⟩ ≤ psj S + 3 := by
  refine air_psi (S := S) (S' := ⟨S.e, S.air.eraseIdx k⟩) rfl (fun s t => ?_) (d := 0) ⟨!q.1, fun t => ?_⟩ ?_ ?_ (.inl rfl) (by omega)
  · have := kN_erase (s := s) (t := t) h
    show kN s t (S.air.eraseIdx k) + 1 ≥ _
    split at this <;> omega
  · have := kN_erase (s := !!q.1) (t := t) h
    show kN (!!q.1) t (S.air.eraseIdx k) ≥ _
    rw [if_neg (by cases q.1 <;> simp)] at this
    omega
  · have := aW_erase h
    show aW (S.air.eraseIdx k) ≤ _
    omega
  · have := len_erase h
    show (S.air.eraseIdx k).length ≤ _
    omega
theorem twice_psi {S : Sys} (q : Bool × Letter) : psi ⟨S.e, S.air ++ [q]⟩ ≤ psi S + 2 ∧ psj ⟨S.e, S.air ++ [q]⟩ ≤ psj S + 3 := by
  have h := (w2_le q).1
  refine air_psi (S := S) (S' := ⟨S.e, S.air ++ [q]⟩) rfl (fun s t => ?_) (d := 2) ⟨false, fun t => ?_⟩ ?_ (by simp) (.inr fun s t => ?_) (by omega)
  · show kN s t (S.air ++ [q]) + 1 ≥ _
    rw [kN_append]; omega
  · show kN _ t (S.air ++ [q]) ≥ _
    rw [kN_append]; omega
  · show aW (S.air ++ [q]) ≤ _
    rw [aW_append]
    have : aW [q] = w2 q := by simp [aW]
    omega
  · show kN s t (S.air ++ [q]) ≥ _
    rw [kN_append]; omega
/-! ### a letter comes -/
section
variable {P : Play} {S : Sys} {g : Bool → Gh}
/-- hearing as it changes what is counted -/
inductive HearRes (X : End) (l : Letter) : End → List Letter → Prop
  | stay {Z : End} {ls : List Letter} (c : X.stand = .closed) (t : Z = X) (w : ls = [] ∨ ∃ z, ls = [z] ∧ z.word = .bye ∧ l.word ≠ .bye) : HearRes X l Z ls
  | on {Z : End} {ls : List Letter} (o : X.stand ≠ .closed) (o' : Z.stand ≠ .closed) (t : Z.turn = X.turn) (y : (Z.yours = X.yours ∧ l.mine ≤ X.yours ∧ (ls = [] ∨ ∃ z, ls = [z] ∧ l.word ≠ .bye)) ∨
      (Z.yours = l.mine ∧ X.yours < l.mine ∧ ((∃ z, ls = [z]) ∨ ∃ z z', ls = [z, z'] ∧ l.word ≠ .bye))) : HearRes X l Z ls
  | shut {Z : End} {ls : List Letter} (o : X.stand ≠ .closed) (c : Z.stand = .closed) (t : Z.turn = X.turn) (y : (Z.yours = X.yours ∧ l.mine ≤ X.yours ∧ (ls = [] ∧ l.word = .bye ∨ ∃ z, ls = [z] ∧ z.word = .bye ∧ z.mine = X.turn ∧ l.word ≠ .bye)) ∨
      (Z.yours = l.mine ∧ X.yours < l.mine ∧ ∃ z, ls = [z] ∧ z.mine = X.turn)) : HearRes X l Z ls
theorem hear_res (hP : P.Ok) (I : SInvG P S g) {t : Bool} {l : Letter} (lo : LetOk (P.bd !t) (S.e !t) (g !t) (g t) l) (r : List Pr) : HearRes (S.e t) l (heard r (S.e t) l (P.bd t) P.TR).1 (heard r (S.e t) l (P.bd t) P.TR).2 := by
  by_cases c : (S.e t).stand = .closed
  · obtain ⟨h1, h2, h3⟩ := heard_closed_price (X := S.e t) c l (P.bd t) r (TR := (P.TR : Int))
    refine .stay c h1 ?_
    rcases h3 with h3 | ⟨h3, h4, _⟩
    · exact .inl h3
    · right
      generalize (heard r (S.e t) l (P.bd t) (P.TR : Int)).2 = ls at h2 h3
      match ls, h3 with
      | [z], _ => exact ⟨z, rfl, (h2 z (List.mem_singleton.mpr rfl)).1, h4⟩
  · have hh := I.half t
    obtain ⟨⟨g', a1, a2, a3, a4⟩, _⟩ := learnt_step (hP.rules t) (by omega) hh c lo
    obtain ⟨f1, f2, f3, f4, f5, f6, f7⟩ := learnt_facts (TR := (P.TR : Int)) hh c lo
    have lsl : (learntLs (S.e t) l P.TR = [] ∧ l.mine ≤ (S.e t).yours ∧ (learnt (S.e t) l P.TR).yours = (S.e t).yours) ∨ ((∃ z, learntLs (S.e t) l P.TR = [z] ∧ z.mine = (S.e t).turn) ∧ (S.e t).yours < l.mine ∧ (learnt (S.e t) l P.TR).yours = l.mine) := by
      unfold learntLs learnt
      split
      · rename_i q
        exact .inr ⟨⟨_, rfl, rfl⟩, q, rfl⟩
      · rename_i q
        exact .inl ⟨rfl, by omega, rfl⟩
    unfold heard
    rw [if_neg c]
    split
    · rename_i hh2
      obtain ⟨m, tt⟩ := hh2
      have lo2 : LetOk (P.bd !t) (S.e !t) (g !t) g' l := lo.adv Adv.refl (Ext.refl _) a1
      have res := heardWord_res (hP.rules t) a3 f5 lo2 m tt r
      dsimp only
      generalize asEnd (heardWord r (learnt (S.e t) l P.TR) l (P.bd t) P.TR).1 = Z at res
      generalize (heardWord r (learnt (S.e t) l P.TR) l (P.bd t) P.TR).2 = zs at res
      have on1 : ∀ {zs : List Letter}, Z.stand ≠ .closed → Z.turn = (learnt (S.e t) l P.TR).turn → Z.yours = (learnt (S.e t) l P.TR).yours → (zs = [] ∨ ∃ z, zs = [z] ∧ l.word ≠ .bye) → HearRes (S.e t) l Z (learntLs (S.e t) l P.TR ++ zs) := by
        intro zs o' t' y' hz
        refine .on c o' (t'.trans f1) ?_
        rcases lsl with ⟨e, b, d⟩ | ⟨⟨z, e, _⟩, b, d⟩
        · rw [e, List.nil_append]
          exact .inl ⟨y'.trans d, b, hz⟩
        · rw [e]
          refine .inr ⟨y'.trans d, b, ?_⟩
          rcases hz with rfl | ⟨z', rfl, hb⟩
          · exact .inl ⟨z, rfl⟩
          · exact .inr ⟨z, z', rfl, hb⟩
      cases res with
      | quiet k nb ha hk => exact on1 k.opn k.turn k.yours (.inl rfl)
      | reply k w m' y' =>
        refine on1 k.opn k.turn k.yours (.inr ⟨_, rfl, ?_⟩)
        rcases w with ⟨w, _⟩ | ⟨w, _⟩ <;> rw [w] <;> decide
      | agreed w t' y' p s g' o => exact on1 o t' y' (.inl rfl)
      | replan w t' y' p s o => exact on1 o t' y' (.inr ⟨_, rfl, (isAns_not w).2.1⟩)
      | failed w t' y' s cc zw zm zy =>
        rename_i z
        have kn := ans_known hh lo w
        have e : learnt (S.e t) l P.TR = S.e t := learnt_ref (r := r) (fun _ => kn) w
        have e2 : learntLs (S.e t) l P.TR = [] := by unfold learntLs; rw [if_neg (by omega)]
        rw [e2, List.nil_append]
        refine .shut c cc (t'.trans f1) (.inl ⟨by rw [y', e], kn, .inr ⟨z, rfl, zw, by rw [zm, f1], (isAns_not w).2.1⟩⟩)
      | bye w t' y' s cc =>
        rw [List.append_nil]
        refine .shut c cc (t'.trans f1) ?_
        rcases lsl with ⟨e, b, d⟩ | ⟨⟨z, e, zm⟩, b, d⟩
        · exact .inl ⟨y'.trans d, b, .inl ⟨e, w⟩⟩
        · exact .inr ⟨y'.trans d, b, z, e, zm⟩
    · have e : asEnd (learnt (S.e t) l P.TR) = learnt (S.e t) l P.TR := a3.norm
      dsimp only
      rw [e]
      refine .on c f5 f1 ?_
      rcases lsl with ⟨e, b, d⟩ | ⟨⟨z, e, _⟩, b, d⟩
      · exact .inl ⟨d, b, .inl e⟩
      · exact .inr ⟨d, b, .inl ⟨z, e⟩⟩
theorem comes_psi (hP : P.Ok) (I : SInvG P S g) {t : Bool} {l : Letter} {k : Nat} (hk : S.air[k]? = some (t, l)) (r : List Pr) : psi (hears P S t l (S.air.eraseIdx k) r) ≤ psi S + 2 ∧ psj (hears P S t l (S.air.eraseIdx k) r) ≤ psj S + 3 := by
  have lo : LetOk (P.bd !t) (S.e !t) (g !t) (g t) l := I.let_ (t, l) (List.mem_of_getElem? hk)
  have res := hear_res hP I lo r
  have yl := (I.half t).yoursLe
  have ml := lo.mineLe
  generalize hS' : hears P S t l (S.air.eraseIdx k) r = S'
  have e1 : S'.e t = (heard r (S.e t) l (P.bd t) P.TR).1 := by rw [← hS']; exact setE_same
  have e2 : S'.e (!t) = S.e !t := by rw [← hS']; exact setE_not
  have ea : S'.air = S.air.eraseIdx k ++ sent t (heard r (S.e t) l (P.bd t) P.TR).2 := by rw [← hS']; rfl
  generalize (heard r (S.e t) l (P.bd t) (P.TR : Int)).1 = Z at res e1
  generalize (heard r (S.e t) l (P.bd t) (P.TR : Int)).2 = ls at res ea
  have sum1 : ∀ T : Sys, psi T = aW T.air + psiS T t + psiS T (!t) := by intro T; unfold psi; cases t <;> simp <;> omega
  have sum2 : ∀ T : Sys, psj T = 2 * T.air.length + (2 * dS T t + cl01 T t) + (2 * dS T (!t) + cl01 T (!t)) := by intro T; unfold psj; cases t <;> simp <;> omega
  have oc : cl01 S' (!t) = cl01 S (!t) := by unfold cl01 closedAt; rw [e2]
  have aw := aW_erase hk
  have ln := len_erase hk
  have kt : ∀ x, kN t x S'.air = kN t x S.air + ls.countP (fun z => decide (z.mine = x)) := by
    intro x
    have := kN_erase (s := t) (t := x) hk
    rw [if_neg (by cases t <;> simp)] at this
    rw [ea, kN_append, kN_sent_self]
    omega
  have ko : ∀ x, kN (!t) x S.air = (if l.mine = x then 1 else 0) + kN (!t) x S'.air := by
    intro x
    have := kN_erase (s := !t) (t := x) hk
    rw [Bool.not_not] at this
    rw [ea, kN_append, kN_sent_other, this]
    simp
  have dO : dS S' (!t) = ((S'.e t).turn - (S.e !t).yours).toNat := by unfold dS dl; rw [Bool.not_not, e2]
  have dO' : dS S (!t) = ((S.e t).turn - (S.e !t).yours).toNat := by unfold dS dl; rw [Bool.not_not]
  have dI : dS S' t = ((S.e !t).turn - (S'.e t).yours).toNat := by unfold dS dl; rw [e2]
  have dI' : dS S t = ((S.e !t).turn - (S.e t).yours).toNat := rfl
  have wl := w2_le (t, l)
  have wb : l.word ≠ .bye → w2 (t, l) = 2 := fun h => by simp [w2, h]
  have one : ∀ z : Letter, aW (sent t [z]) ≤ 2 ∧ (z.word = .bye → aW (sent t [z]) = 1) ∧ (sent t [z]).length = 1 := by
    intro z
    refine ⟨?_, fun h => ?_, rfl⟩
    · have := (w2_le (!t, z)).1
      simpa [aW, sent] using this
    · simp [aW, sent, w2, h]
  have two : ∀ z z' : Letter, aW (sent t [z, z']) ≤ 4 ∧ (sent t [z, z']).length = 2 := by
    intro z z'
    have h1 := (w2_le (!t, z)).1
    have h2 := (w2_le (!t, z')).1
    refine ⟨?_, rfl⟩
    simp only [aW, sent, List.map_cons, List.map_nil, List.sum_cons, List.sum_nil]
    omega
  have nil : aW (sent t []) = 0 ∧ (sent t ([] : List Letter)).length = 0 := ⟨rfl, rfl⟩
  -- the other's count: falls by one, where the letter is of its turn
  have oS2 : cS S' (!t) ≤ cS S (!t) + 2 ∨ False := by
    left
    have := ko (S.e !t).turn
    unfold cS closedAt
    rw [e2, Bool.not_not]
    by_cases h : (S'.e t).yours < (S.e !t).turn
    · by_cases h2 : (S.e t).yours < (S.e !t).turn
      · rw [if_pos h, if_pos h2]
        unfold cV
        split at this <;> split <;> split <;> (try split) <;> (try split) <;> (try split) <;> omega
      · rw [if_pos h, if_neg h2]
        exfalso
        cases res with
        | stay c t' w => rw [e1, t'] at h; omega
        | on o o' t' y => rw [e1] at h; rcases y with ⟨y, _⟩ | ⟨y, y2, _⟩ <;> omega
        | shut o o' t' y => rw [e1] at h; rcases y with ⟨y, _⟩ | ⟨y, y2, _⟩ <;> omega
    · rw [if_neg h]; omega
  have oS2 : cS S' (!t) ≤ cS S (!t) + 2 := by rcases oS2 with h | h; exact h; exact h.elim
  -- where the hearer isn't closed: not at all
  have oS0 : (S.e t).yours ≤ (S'.e t).yours → l.mine ≤ (S'.e t).yours → cS S' (!t) ≤ cS S (!t) := by
    intro h0 h1
    have := ko (S.e !t).turn
    unfold cS closedAt
    rw [e2, Bool.not_not]
    by_cases h : (S'.e t).yours < (S.e !t).turn
    · rw [if_pos h, if_pos (by omega)]
      rw [if_neg (by omega)] at this
      rw [Nat.zero_add] at this
      rw [this]
      omega
    · rw [if_neg h]; omega
  rw [sum1, sum1, sum2, sum2, ea, aW_append, List.length_append]
  unfold psiS
  rw [oc]
  have cT : (S'.e t).turn = (S.e t).turn → cS S' t ≤ (if (S.e !t).yours < (S.e t).turn then cV (closedAt S' t) (kN t (S.e t).turn S.air + ls.countP (fun z => decide (z.mine = (S.e t).turn))) else 0) := by
    intro h
    unfold cS
    rw [h, kt, e2]
    omega
  cases res with
  | stay c t' w =>
    have q1 : cl01 S' t = cl01 S t := by unfold cl01 closedAt; rw [e1, t']
    have q2 : cS S' t ≤ cS S t := by
      have := cT (by rw [e1, t'])
      refine Nat.le_trans this ?_
      unfold cS closedAt
      rw [e1, t']
      split
      · unfold cV
        split <;> split <;> (try split) <;> (try split) <;> (try split) <;> omega
      · omega
    have q3 : dS S' t = dS S t := by rw [dI, dI', e1, t']
    have q4 : dS S' (!t) = dS S (!t) := by rw [dO, dO', e1, t']
    rcases w with rfl | ⟨z, rfl, zw, lw⟩
    · rw [nil.1, nil.2]; omega
    · obtain ⟨_, w1, w3⟩ := one z
      have := w1 zw
      have := wb lw
      rw [w3]
      omega
  | on o o' t' y =>
    have q1 : cl01 S' t = 0 := if_neg (by unfold closedAt; rw [e1]; exact o')
    have q1' : cl01 S t = 0 := if_neg o
    have q2 : cS S' t ≤ cS S t := by
      have := cT (by rw [e1, t'])
      refine Nat.le_trans this ?_
      unfold cS
      split
      · unfold cV
        rw [if_neg (show ¬ closedAt S' t by unfold closedAt; rw [e1]; exact o'), if_neg (show ¬ closedAt S t from o)]
        split <;> split <;> omega
      · omega
    have q4 : dS S' (!t) = dS S (!t) := by rw [dO, dO', e1, t']
    rcases y with ⟨y1, y2, y3⟩ | ⟨y1, y2, y3⟩
    · have q3 : dS S' t = dS S t := by rw [dI, dI', e1, y1]
      have q5 := oS0 (by rw [e1]; omega) (by rw [e1]; omega)
      rcases y3 with rfl | ⟨z, rfl, lw⟩
      · rw [nil.1, nil.2]; omega
      · obtain ⟨w1, _, w3⟩ := one z
        have := wb lw
        rw [w3]
        omega
    · have q3 : dS S' t + 1 ≤ dS S t := by rw [dI, dI', e1, y1]; omega
      have q5 := oS0 (by rw [e1]; omega) (by rw [e1]; omega)
      rcases y3 with ⟨z, rfl⟩ | ⟨z, z', rfl, lw⟩
      · obtain ⟨w1, _, w3⟩ := one z
        rw [w3]
        omega
      · obtain ⟨w1, w3⟩ := two z z'
        have := wb lw
        rw [w3]
        omega
  | shut o c t' y =>
    have q1 : cl01 S' t = 1 := if_pos (by unfold closedAt; rw [e1]; exact c)
    have q1' : cl01 S t = 0 := if_neg o
    have q4 : dS S' (!t) = dS S (!t) := by rw [dO, dO', e1, t']
    have q2 : cS S' t ≤ cS S t + 2 := by
      have := cT (by rw [e1, t'])
      refine Nat.le_trans this ?_
      unfold cS
      split
      · unfold cV
        rw [if_pos (show closedAt S' t by unfold closedAt; rw [e1]; exact c), if_neg (show ¬ closedAt S t from o)]
        split <;> split <;> (try split) <;> omega
      · omega
    have q2' : ∀ z, ls = [z] → z.mine = (S.e t).turn → cS S' t ≤ cS S t := by
      intro z hz zm
      have := cT (by rw [e1, t'])
      refine Nat.le_trans this ?_
      rw [hz]
      unfold cS
      split
      · unfold cV
        rw [if_pos (show closedAt S' t by unfold closedAt; rw [e1]; exact c), if_neg (show ¬ closedAt S t from o)]
        simp only [List.countP_cons, List.countP_nil, zm, decide_true, if_true]
        split <;> split <;> (try split) <;> omega
      · omega
    rcases y with ⟨y1, y2, y3⟩ | ⟨y1, y2, y3⟩
    · have q3 : dS S' t = dS S t := by rw [dI, dI', e1, y1]
      have q5 := oS0 (by rw [e1]; omega) (by rw [e1]; omega)
      rcases y3 with ⟨rfl, lw⟩ | ⟨z, rfl, zw, zm, lw⟩
      · rw [nil.1, nil.2]; omega
      · obtain ⟨_, w1, w3⟩ := one z
        have := w1 zw
        have := wb lw
        have := q2' z rfl zm
        rw [w3]
        omega
    · have q3 : dS S' t + 1 ≤ dS S t := by rw [dI, dI', e1, y1]; omega
      have q5 := oS0 (by rw [e1]; omega) (by rw [e1]; omega)
      obtain ⟨z, rfl, zm⟩ := y3
      obtain ⟨w1, _, w3⟩ := one z
      have := q2' z rfl zm
      rw [w3]
      omega
/-! ### what is left to settle -/
theorem pot_le (hP : P.Ok) (I : SInvG P S g) (h1 : psi S ≤ 86) (h2 : psj S ≤ 128) : pot P S ≤ 99 + 2 * (mW (S.e false).wishes + mW (S.e true).wishes) := by
  have wle : wS S ≤ aW S.air := by
    unfold wS aW
    induction S.air with
    | nil => simp
    | cons q r ih =>
      simp only [List.map_cons, List.sum_cons]
      have : weight S q ≤ w2 q := by
        unfold weight wt w2
        split <;> split <;> (try split) <;> simp_all
      omega
  have hle := hP.le
  have ll : ∀ s, LS S s ≤ dS S s + 1 := fun s => by unfold LS LX dS; split <;> omega
  have pp : ∀ s, ¬ closedAt S s → PS' S s ≤ 2 * mW (S.e s).wishes := fun s c => PX_le (I.half s) c
  have tot : ∀ s, aW S.air + psiS S s + psiS S (!s) ≤ 86 := by
    intro s
    unfold psi at h1
    cases s <;> simp <;> omega
  have mw : ∀ s, mW (S.e !s).wishes ≤ mW (S.e false).wishes + mW (S.e true).wishes := by intro s; cases s <;> simp <;> omega
  have caseC : ∀ s, closedAt S s → ¬ closedAt S !s → potC P S s ≤ 99 + 2 * (mW (S.e false).wishes + mW (S.e true).wishes) := by
    intro s c o
    have t := tot s
    have c1 : cl01 S s = 1 := if_pos c
    have l1 := ll !s
    have p1 := pp _ o
    have m1 := mw s
    have len := len_le_wS S
    unfold psiS at t
    unfold potC
    split
    · rename_i d
      obtain ⟨q, hq, hd⟩ := d
      have lt : S.air.findIdx (isDoom S s) < S.air.length := List.findIdx_lt_length_of_exists ⟨q, hq, hd⟩
      omega
    · split
      · omega
      · split
        · omega
        · rename_i _ _ kn
          unfold Known at kn
          simp only [not_or, not_exists, not_and] at kn
          obtain ⟨k1, k2⟩ := kn
          have yl := (I.half !s).yoursLe
          rw [Bool.not_not] at yl
          have c4 : cS S s = 4 := by
            unfold cS
            rw [if_pos (by omega)]
            unfold cV
            rw [if_pos c, if_pos]
            unfold kN
            rw [List.countP_eq_zero]
            intro q hq
            simp only [decide_eq_true_eq, not_and]
            intro q1
            refine k2 q.2 (mem_lets.mpr ?_)
            rw [← q1]
            exact hq
          have tl := ((I.half !s).live o).triesLe
          have d1 : dl (S.e !s) (S.e s) = dS S (!s) := by unfold dS; rw [Bool.not_not]
          have d0 : 1 ≤ dl (S.e !s) (S.e s) := by unfold dl; omega
          rw [d1] at d0 ⊢
          split <;> omega
  by_cases c : closedAt S false
  · by_cases c2 : closedAt S true
    · rw [pot_0 (fun s => by cases s; exact c; exact c2)]
      omega
    · rw [pot_C (s := false) c c2]
      exact caseC false c c2
  · by_cases c2 : closedAt S true
    · rw [pot_C (s := true) c2 c]
      exact caseC true c2 c
    · rw [pot_N (fun s => by cases s; exact c; exact c2)]
      have p1 := pp _ c
      have p2 := pp _ c2
      have l1 := ll false
      have l2 := ll true
      have k10 : (if GoodS S false ∧ GoodS S true then 5 else 10) ≤ 10 := by split <;> omega
      unfold potN
      by_cases ap : Apart S
      · rw [if_pos ap]
        have ws : wS S ≤ S.air.length := by
          have each : ∀ q ∈ S.air, weight S q ≤ 1 := by
            intro q hq
            have lo := I.let_ q hq
            unfold weight wt
            rw [if_pos]
            · omega
            · by_cases w : q.2.word = .bye
              · exact .inl w
              · right
                have := lo.yoursLe w
                have := ap !q.1
                rw [Bool.not_not] at this
                omega
          unfold wS
          clear wle h1 h2 k10
          generalize S.air = L at each
          induction L with
          | nil => simp
          | cons q r ih =>
            simp only [List.map_cons, List.sum_cons, List.length_cons]
            have := each q (by simp)
            have := ih (fun z hz => each z (by simp [hz]))
            omega
        unfold psj at h2
        omega
      · rw [if_neg ap]
        unfold psi psiS at h1
        omega
end
end CW
/-! part CwZip -/
set_option maxRecDepth 100000
set_option maxHeartbeats 2000000
/-! zip(.., strict=True) of two iterators of one length: 'next', free and held. -/
namespace CW
open PySem
section
variable {prog : Program} {w : World} {A : Around} {E : Value → Shared → Prop} {s : Shared}
theorem noe_item {it : Addr} {fp : List Addr} {n i : Nat} {P : Nat → Value → Prop} {St : Nat → Heap → Prop} {Q : Option Value → Shared → Prop} (D : Draws prog w A it fp n P St) (hi : i < n) (st : St i s.heap)
    (h : ∀ x h' tk, P i x → St (i + 1) h' → Heap.SameBut it s.heap h' → Q (some x) { s with heap := h', toks := tk }) : wpAny (model prog w) A (Builtin.SmallTypes.nextOrEnd (.ref it)) Q E s := by
  unfold Builtin.SmallTypes.nextOrEnd
  exact wpAny_bind (wpAny_attempt (D.item i s _ _ hi st fun x h' tk p q r => wpAny_pure (h x h' tk p q r)))
theorem noe_end {it : Addr} {fp : List Addr} {n : Nat} {P : Nat → Value → Prop} {St : Nat → Heap → Prop} {Q : Option Value → Shared → Prop} (D : Draws prog w A it fp n P St) (st : St n s.heap)
    (h : ∀ h', Heap.ExtBut it s.heap h' → Q none { s with heap := h' }) : wpAny (model prog w) A (Builtin.SmallTypes.nextOrEnd (.ref it)) Q E s := by
  unfold Builtin.SmallTypes.nextOrEnd
  refine wpAny_bind (wpAny_attempt (D.done s _ _ st fun h' e x he => ?_))
  obtain ⟨o, ho, hc⟩ := he
  exact wpAny_bind (wpAny_isInstance (T := "StopIteration") (b := true) ⟨o, ho, hc⟩ isSubtype_stop (wpAny_pure (h h' x)))
theorem stop_rule {α : Type} {Q : α → Shared → Prop} (hh : A.handled = none) (h : ∀ h' e, (∀ b o, s.heap.get? b = some o → h'.get? b = some o) → (∃ o, h'.get? e = some o ∧ o.cls = .type "StopIteration") → E (.ref e) { s with heap := h' }) :
    wpAny (model prog w) A (Builtin.SmallTypes.stopIteration : Sem α) Q E s := by
  show wpAny (model prog w) A ((newExc (.type "StopIteration") [] >>= fun e => raiseNew e) : Sem α) Q E s
  refine wpAny_bind ?_
  simp only [newExc, newTuple]
  refine wpAny_bind (wpAny_newObj_type ?_ (by size_fits))
  refine wpAny_bind (m := firstArgMember _ _) (wpAny_of_eq (a := Value.none) (by first | rfl | (simp only [firstArgMember]; rfl)) ?_)
  refine wpAny_newObj_type ?_ (by size_fits)
  simp only [raiseNew]
  refine wpAny_bind (wpAny_handled ?_)
  rw [hh]
  refine wpAny_bind (wpAny_pure (wpAny_throw (h _ _ (fun b o e => Heap.get?_push_of_some _ (Heap.get?_push_of_some _ e)) ⟨_, Heap.get?_push_size _ rfl, rfl⟩)))
/-- a strict zip's object: what it holds out, the mark that it was seen held -/
abbrev IsZs (h : Heap) (z TI TO : Addr) (own : Value) (f : Bool) : Prop := h.get? z = some { cls := .type "zip", dict := none, data := .fields #[own, .bool f, .bool true, .ref TI, .ref TO], slots := #[] }
variable {z TI TO i1 i2 T : Addr} {fp1 fp2 : List Addr} {n i : Nat} {P1 P2 : Nat → Value → Prop} {St1 St2 : Nat → Heap → Prop} {a1 a2 : Value} {f : Bool} {oT : Obj}
theorem zs_held {own : Bool} {Q : Bool → Shared → Prop} (hz : IsZs s.heap z TI TO (rawInt T) f) (hT : s.heap.get? T = some oT) (h : ∀ h', IsZs h' z TI TO (rawInt T) true → Heap.SameBut z s.heap h' → Q false { s with heap := h' }) :
    wpAny (model prog w) A (Builtin.SmallTypes.ownedTupleIsFree (.ref z)) Q E s := by
  unfold Builtin.SmallTypes.ownedTupleIsFree
  refine wpAny_bind (wpAny_field hz (by rfl) (x := rawInt T) (by rfl) ?_)
  show wpAny (model prog w) A (loadIfAlive ((T : Int).toNat) >>= _) Q E s
  rw [Int.toNat_natCast T]
  refine wpAny_bind (PySem.W.kdx_alive hT ?_)
  simp only [Option.isNone_some, Bool.false_eq_true, if_false, reduceIte]
  refine wpAny_bind (wpAny_field hz (by rfl) (x := .bool f) (by rfl) ?_)
  cases f with
  | true => exact wpAny_pure (h s.heap hz (Heap.SameBut.refl _ _))
  | false => exact wpAny_bind (wpAny_setField_rec hz (by simp) fun h₁ hz₁ hs₁ => wpAny_pure (h h₁ hz₁ hs₁))
/-- 'next', the tuple that was given out lies elsewhere -/
theorem zs_item_held {Q : Value → Shared → Prop} (S : ZipSep2 z TI TO i1 i2 fp1 fp2) (D1 : Draws prog w A i1 fp1 n P1 St1) (D2 : Draws prog w A i2 fp2 n P2 St2) (hz : IsZs s.heap z TI TO (rawInt T) f) (hT : s.heap.get? T = some oT)
    (hTI : IsTupOf2 s.heap TI (.ref i1) (.ref i2)) (st1 : St1 i s.heap) (st2 : St2 i s.heap) (hi : i < n)
    (hQ : ∀ x1 x2 h' tk, P1 i x1 → P2 i x2 → IsZs h' z TI TO (rawInt T) true → St1 (i + 1) h' → St2 (i + 1) h' → IsTupOf2 h' s.heap.objs.size x1 x2 → (∀ c o, c ≠ z → c ≠ i1 → c ≠ i2 → s.heap.get? c = some o → h'.get? c = some o) → Q (.ref s.heap.objs.size) { s with heap := h', toks := tk }) :
    wpAny (model prog w) A (Builtin.«zip.__next__» ⟨[.ref z], []⟩) (fun fin s' => ∃ v, fin = .done (.ret v) ∧ Q v s') E s := by
  obtain ⟨hp, g, d, tk0, os⟩ := s
  show wpAny (model prog w) A (field (.ref z) 2 >>= _) _ E _
  refine wpAny_bind (wpAny_field hz (by rfl) (x := .bool true) (by rfl) ?_)
  show wpAny (model prog w) A (field (.ref z) 3 >>= _) _ E _
  refine wpAny_bind (wpAny_field hz (by rfl) (x := .ref TI) (by rfl) ?_)
  refine wpAny_bind (wpAny_seqItems hTI (by rfl) ?_)
  show wpAny (model prog w) A (Builtin.SmallTypes.ownedTupleIsFree (.ref z) >>= _) _ E _
  refine wpAny_bind (zs_held (own := true) hz hT fun g0 hz0 hs0 => ?_)
  replace hs0 : Heap.SameBut z hp g0 := hs0
  simp only [Bool.false_eq_true, if_false, reduceIte]
  refine wpAny_bind ?_
  rw [← Array.forIn_toList]
  simp only [List.forIn_cons, List.forIn_nil]
  refine wpAny_bind (wpAny_bind (wpAny_holding ?_))
  show wpAny (model prog w) A (Builtin.SmallTypes.nextOrEnd (.ref i1)) _ E ⟨g0, g, d, tk0, os⟩
  refine noe_item D1 hi (D1.over st1 hs0 S.zf1) fun x1 p1 tk1 hx1 sn1 hp1 => ?_
  replace hp1 : Heap.SameBut i1 g0 p1 := hp1
  refine wpAny_pure ?_
  refine wpAny_bind (wpAny_bind (wpAny_holding ?_))
  show wpAny (model prog w) A (Builtin.SmallTypes.nextOrEnd (.ref i2)) _ E ⟨p1, g, d, tk1, os⟩
  refine noe_item D2 hi (D2.over (D2.over st2 hs0 S.zf2) hp1 S.sep1_2) fun x2 p2 tk2 hx2 sn2 hp2 => ?_
  replace hp2 : Heap.SameBut i2 p1 p2 := hp2
  refine wpAny_pure (wpAny_pure ?_)
  show wpAny (model prog w) A (newTuple [x1, x2] >>= _) _ E ⟨p2, g, d, tk2, os⟩
  refine wpAny_bind (wpAny_newTuple ?_)
  have hsz : p2.objs.size = hp.objs.size := by rw [hp2.1, hp1.1, hs0.1]
  have hz2 : IsZs p2 z TI TO (rawInt T) true := hp2.extBut _ _ S.zi2 (hp1.extBut _ _ S.zi1 hz0)
  have sn1' : St1 (i + 1) p2 := D1.over sn1 hp2 S.sep2_1
  have hT2 : IsTupOf2 (p2.push { cls := .type "tuple", data := .seq #[x1, x2] }) p2.objs.size x1 x2 := Heap.get?_push_size p2 (by rfl)
  refine wpAny_pure ⟨_, rfl, ?_⟩
  show Q (.ref p2.objs.size) ⟨_, g, d, tk2, os⟩
  rw [hsz] at hT2 ⊢
  exact hQ x1 x2 _ tk2 hx1 hx2 (Heap.get?_push_of_some _ hz2) (D1.frame _ _ _ sn1' fun b _ o e => Heap.get?_push_of_some _ e) (D2.frame _ _ _ sn2 fun b _ o e => Heap.get?_push_of_some _ e) hT2 fun c o c1 c2 c3 e => Heap.get?_push_of_some _ (hp2.extBut _ _ c3 (hp1.extBut _ _ c2 (hs0.extBut _ _ c1 e)))
/-- the end, both at once -/
theorem zs_end_held {Q : PySem.Fin → Shared → Prop} (hh : A.handled = none) (S : ZipSep2 z TI TO i1 i2 fp1 fp2) (D1 : Draws prog w A i1 fp1 n P1 St1) (D2 : Draws prog w A i2 fp2 n P2 St2) (hz : IsZs s.heap z TI TO (rawInt T) f) (hT : s.heap.get? T = some oT)
    (hTI : IsTupOf2 s.heap TI (.ref i1) (.ref i2)) (st1 : St1 n s.heap) (st2 : St2 n s.heap)
    (hE : ∀ h' tk e, (∀ c o, c ≠ z → c ≠ i1 → c ≠ i2 → s.heap.get? c = some o → h'.get? c = some o) → (∃ o, h'.get? e = some o ∧ o.cls = .type "StopIteration") → E (.ref e) { s with heap := h', toks := tk }) :
    wpAny (model prog w) A (Builtin.«zip.__next__» ⟨[.ref z], []⟩) Q E s := by
  obtain ⟨hp, g, d, tk0, os⟩ := s
  show wpAny (model prog w) A (field (.ref z) 2 >>= _) _ E _
  refine wpAny_bind (wpAny_field hz (by rfl) (x := .bool true) (by rfl) ?_)
  show wpAny (model prog w) A (field (.ref z) 3 >>= _) _ E _
  refine wpAny_bind (wpAny_field hz (by rfl) (x := .ref TI) (by rfl) ?_)
  refine wpAny_bind (wpAny_seqItems hTI (by rfl) ?_)
  show wpAny (model prog w) A (Builtin.SmallTypes.ownedTupleIsFree (.ref z) >>= _) _ E _
  refine wpAny_bind (zs_held (own := true) hz hT fun g0 hz0 hs0 => ?_)
  replace hs0 : Heap.SameBut z hp g0 := hs0
  simp only [Bool.false_eq_true, if_false, reduceIte]
  refine wpAny_bind ?_
  rw [← Array.forIn_toList]
  simp only [List.forIn_cons, List.forIn_nil]
  refine wpAny_bind (wpAny_bind (wpAny_holding ?_))
  show wpAny (model prog w) A (Builtin.SmallTypes.nextOrEnd (.ref i1)) _ E ⟨g0, g, d, tk0, os⟩
  refine noe_end D1 (D1.over st1 hs0 S.zf1) fun p1 hp1 => ?_
  show wpAny (model prog w) A (_ >>= _) _ E ⟨p1, g, d, tk0, os⟩
  refine wpAny_bind ?_
  refine wpAny_bind (m := forIn (List.zipIdx (List.drop 1 [Value.ref i1, Value.ref i2]) 1) PUnit.unit _) ?_
  simp only [List.drop_succ_cons, List.drop_zero, List.zipIdx_cons, List.zipIdx_nil, List.forIn_cons, List.forIn_nil]
  refine wpAny_bind (wpAny_bind ?_)
  have st2g : St2 n g0 := D2.over st2 hs0 S.zf2
  refine noe_end D2 (D2.frame _ _ _ st2g fun b hb o e => hp1 b o (fun q => S.sep1_2 (q ▸ hb)) e) fun p2 hp2 => ?_
  replace hp2 : Heap.ExtBut i2 p1 p2 := hp2
  simp only [Option.isSome_none, Bool.false_eq_true, if_false]
  refine wpAny_pure (wpAny_pure (wpAny_bind (wpAny_rule (stop_rule hh fun h' e x he => ?_))))
  exact hE h' tk0 e (fun c o c1 c2 c3 q => x c o (hp2 _ _ c3 (hp1 _ _ c2 (hs0.extBut _ _ c1 q)))) he
/-- 'next', nothing is out -/
theorem zs_item_free {Q : Value → Shared → Prop} (S : ZipSep2 z TI TO i1 i2 fp1 fp2) (D1 : Draws prog w A i1 fp1 n P1 St1) (D2 : Draws prog w A i2 fp2 n P2 St2) (hz : IsZs s.heap z TI TO .none f) (hTI : IsTupOf2 s.heap TI (.ref i1) (.ref i2)) (hTO : IsTupOf2 s.heap TO a1 a2)
    (st1 : St1 i s.heap) (st2 : St2 i s.heap) (hi : i < n)
    (hQ : ∀ x1 x2 h' tk, P1 i x1 → P2 i x2 → IsZs h' z TI TO (rawInt s.heap.objs.size) false → IsTupOf2 h' TO x1 x2 → St1 (i + 1) h' → St2 (i + 1) h' → IsTupOf2 h' s.heap.objs.size x1 x2 → (∀ c o, c ≠ z → c ≠ TO → c ≠ i1 → c ≠ i2 → s.heap.get? c = some o → h'.get? c = some o) → Q (.ref s.heap.objs.size) { s with heap := h', toks := tk }) :
    wpAny (model prog w) A (Builtin.«zip.__next__» ⟨[.ref z], []⟩) (fun fin s' => ∃ v, fin = .done (.ret v) ∧ Q v s') E s := by
  obtain ⟨hp, g, d, tk0, os⟩ := s
  show wpAny (model prog w) A (field (.ref z) 2 >>= _) _ E _
  refine wpAny_bind (wpAny_field hz (by rfl) (x := .bool true) (by rfl) ?_)
  show wpAny (model prog w) A (field (.ref z) 3 >>= _) _ E _
  refine wpAny_bind (wpAny_field hz (by rfl) (x := .ref TI) (by rfl) ?_)
  refine wpAny_bind (wpAny_seqItems hTI (by rfl) ?_)
  show wpAny (model prog w) A (Builtin.SmallTypes.ownedTupleIsFree (.ref z) >>= _) _ E _
  refine wpAny_bind (?_ : wpAny (model prog w) A (Builtin.SmallTypes.ownedTupleIsFree (.ref z)) _ E _)
  unfold Builtin.SmallTypes.ownedTupleIsFree
  refine wpAny_bind (wpAny_field hz (by rfl) (x := .none) (by rfl) (wpAny_pure ?_))
  simp only [if_true, reduceIte]
  refine wpAny_bind (wpAny_rule (wpAny_bind (wpAny_field hz (by rfl) (x := .ref TO) (by rfl) ?_)))
  refine wpAny_bind (wpAny_setField_rec hz (by simp) fun g0 hz0 hs0 => ?_)
  replace hz0 : IsZs g0 z TI TO .ellipsis f := hz0
  replace hs0 : Heap.SameBut z hp g0 := hs0
  refine wpAny_bind ?_
  simp only [List.zipIdx_cons, List.zipIdx_nil, List.forIn_cons, List.forIn_nil]
  refine wpAny_bind (wpAny_bind (wpAny_onRaise ?_))
  show wpAny (model prog w) A (Builtin.SmallTypes.nextOrEnd (.ref i1)) _ _ ⟨g0, g, d, tk0, os⟩
  refine noe_item D1 hi (D1.over st1 hs0 S.zf1) fun x1 p1 tk1 hx1 sn1 hp1 => ?_
  replace hp1 : Heap.SameBut i1 g0 p1 := hp1
  have hU1 : IsTupOf2 p1 TO a1 a2 := hp1.extBut _ _ S.Ti1 (hs0.extBut _ _ S.TOz hTO)
  refine wpAny_bind (wpAny_seqItems (s := ⟨p1, g, d, tk1, os⟩) hU1 (by rfl) ?_)
  refine wpAny_bind (updateSeq_IsTupOf2 (s := ⟨p1, g, d, tk1, os⟩) hU1 fun g1 hT1 hs1 => ?_)
  replace hT1 : IsTupOf2 g1 TO x1 a2 := hT1
  replace hs1 : Heap.SameBut TO p1 g1 := hs1
  refine wpAny_bind (wpAny_letGo (wpAny_pure ?_))
  refine wpAny_bind (wpAny_bind (wpAny_onRaise ?_))
  show wpAny (model prog w) A (Builtin.SmallTypes.nextOrEnd (.ref i2)) _ _ ⟨g1, g, d, tk1, os⟩
  refine noe_item D2 hi (D2.over (D2.over (D2.over st2 hs0 S.zf2) hp1 S.sep1_2) hs1 S.Tf2) fun x2 p2 tk2 hx2 sn2 hp2 => ?_
  replace hp2 : Heap.SameBut i2 g1 p2 := hp2
  have hU2 : IsTupOf2 p2 TO x1 a2 := hp2.extBut _ _ S.Ti2 hT1
  refine wpAny_bind (wpAny_seqItems (s := ⟨p2, g, d, tk2, os⟩) hU2 (by rfl) ?_)
  refine wpAny_bind (updateSeq_IsTupOf2 (s := ⟨p2, g, d, tk2, os⟩) hU2 fun g2 hT2 hs2 => ?_)
  replace hT2 : IsTupOf2 g2 TO x1 x2 := hT2
  replace hs2 : Heap.SameBut TO p2 g2 := hs2
  refine wpAny_bind (wpAny_letGo (wpAny_pure (wpAny_pure ?_)))
  refine wpAny_bind (wpAny_seqItems (s := ⟨g2, g, d, tk2, os⟩) hT2 (by rfl) ?_)
  refine wpAny_bind (wpAny_newTuple ?_)
  have hsz : g2.objs.size = hp.objs.size := by rw [hs2.1, hp2.1, hs1.1, hp1.1, hs0.1]
  have hzz : IsZs g2 z TI TO .ellipsis f := (hs2.extBut _ _ S.TOz.symm (hp2.extBut _ _ S.zi2 (hs1.extBut _ _ S.TOz.symm (hp1.extBut _ _ S.zi1 hz0))))
  have hkk : ∀ c o, c ≠ z → c ≠ TO → c ≠ i1 → c ≠ i2 → hp.get? c = some o → g2.get? c = some o := fun c o cz cT c1 c2 e => (hs2.extBut _ _ cT (hp2.extBut _ _ c2 (hs1.extBut _ _ cT (hp1.extBut _ _ c1 (hs0.extBut _ _ cz e)))))
  have hj1 : St1 (i + 1) g2 := (D1.over (D1.over (D1.over sn1 hs1 S.Tf1) hp2 S.sep2_1) hs2 S.Tf1)
  have hj2 : St2 (i + 1) g2 := (D2.over sn2 hs2 S.Tf2)
  have hzlt : z < g2.objs.size := Heap.lt_size hzz
  show wpAny (model prog w) A (Builtin.SmallTypes.ownedTupleHandOut (.ref z) (.ref g2.objs.size) >>= _) _ E ⟨g2.push { cls := .type "tuple", data := .seq #[x1, x2] }, g, d, tk2, os⟩
  refine wpAny_bind (?_ : wpAny (model prog w) A (Builtin.SmallTypes.ownedTupleHandOut (.ref z) (.ref g2.objs.size)) _ E _)
  unfold Builtin.SmallTypes.ownedTupleHandOut
  have hz6 : IsZs (g2.push { cls := .type "tuple", data := .seq #[x1, x2] }) z TI TO .ellipsis f := Heap.get?_push_of_some _ hzz
  refine wpAny_bind (wpAny_setField_rec hz6 (by simp) fun g7 hz7 hs7 => ?_)
  replace hz7 : IsZs g7 z TI TO (rawInt g2.objs.size) f := hz7
  refine wpAny_setField_rec hz7 (by simp) fun g8 hz8 hs8 => ?_
  replace hz8 : IsZs g8 z TI TO (rawInt g2.objs.size) false := hz8
  replace hs7 : Heap.SameBut z (g2.push { cls := .type "tuple", data := .seq #[x1, x2] }) g7 := hs7
  replace hs8 : Heap.SameBut z g7 g8 := hs8
  have up : ∀ c o, c ≠ z → g2.get? c = some o → g8.get? c = some o := fun c o c1 e => hs8.extBut _ _ c1 (hs7.extBut _ _ c1 (Heap.get?_push_of_some _ e))
  have hT8 : IsTupOf2 g8 g2.objs.size x1 x2 := hs8.extBut _ _ (Nat.ne_of_gt hzlt) (hs7.extBut _ _ (Nat.ne_of_gt hzlt) (Heap.get?_push_size _ rfl))
  rw [hsz] at hz8 hT8
  refine wpAny_pure ⟨_, rfl, ?_⟩
  show Q (.ref g2.objs.size) ⟨g8, g, d, tk2, os⟩
  rw [hsz]
  exact hQ x1 x2 g8 tk2 hx1 hx2 hz8 (up _ _ S.TOz hT2) (D1.frame _ _ _ hj1 fun b hb o e => up b o (fun q => S.zf1 (q ▸ hb)) e) (D2.frame _ _ _ hj2 fun b hb o e => up b o (fun q => S.zf2 (q ▸ hb)) e) hT8 fun c o cz cT c1 c2 e => up c o cz (hkk c o cz cT c1 c2 e)
/-- the end, nothing is out -/
theorem zs_end_free {Q : PySem.Fin → Shared → Prop} (hh : A.handled = none) (S : ZipSep2 z TI TO i1 i2 fp1 fp2) (D1 : Draws prog w A i1 fp1 n P1 St1) (D2 : Draws prog w A i2 fp2 n P2 St2) (hz : IsZs s.heap z TI TO .none f) (hTI : IsTupOf2 s.heap TI (.ref i1) (.ref i2))
    (st1 : St1 n s.heap) (st2 : St2 n s.heap) (hE : ∀ h' tk e, (∀ c o, c ≠ z → c ≠ i1 → c ≠ i2 → s.heap.get? c = some o → h'.get? c = some o) → (∃ o, h'.get? e = some o ∧ o.cls = .type "StopIteration") → E (.ref e) { s with heap := h', toks := tk }) :
    wpAny (model prog w) A (Builtin.«zip.__next__» ⟨[.ref z], []⟩) Q E s := by
  obtain ⟨hp, g, d, tk0, os⟩ := s
  show wpAny (model prog w) A (field (.ref z) 2 >>= _) _ E _
  refine wpAny_bind (wpAny_field hz (by rfl) (x := .bool true) (by rfl) ?_)
  show wpAny (model prog w) A (field (.ref z) 3 >>= _) _ E _
  refine wpAny_bind (wpAny_field hz (by rfl) (x := .ref TI) (by rfl) ?_)
  refine wpAny_bind (wpAny_seqItems hTI (by rfl) ?_)
  show wpAny (model prog w) A (Builtin.SmallTypes.ownedTupleIsFree (.ref z) >>= _) _ E _
  refine wpAny_bind (?_ : wpAny (model prog w) A (Builtin.SmallTypes.ownedTupleIsFree (.ref z)) _ E _)
  unfold Builtin.SmallTypes.ownedTupleIsFree
  refine wpAny_bind (wpAny_field hz (by rfl) (x := .none) (by rfl) (wpAny_pure ?_))
  simp only [if_true, reduceIte]
  refine wpAny_bind (wpAny_rule (wpAny_bind (wpAny_field hz (by rfl) (x := .ref TO) (by rfl) ?_)))
  refine wpAny_bind (wpAny_setField_rec hz (by simp) fun g0 hz0 hs0 => ?_)
  replace hz0 : IsZs g0 z TI TO .ellipsis f := hz0
  replace hs0 : Heap.SameBut z hp g0 := hs0
  refine wpAny_bind ?_
  simp only [List.zipIdx_cons, List.zipIdx_nil, List.forIn_cons, List.forIn_nil]
  refine wpAny_bind (wpAny_bind (wpAny_onRaise ?_))
  show wpAny (model prog w) A (Builtin.SmallTypes.nextOrEnd (.ref i1)) _ _ ⟨g0, g, d, tk0, os⟩
  refine noe_end D1 (D1.over st1 hs0 S.zf1) fun p1 hp1 => ?_
  replace hp1 : Heap.ExtBut i1 g0 p1 := hp1
  have hz1 : IsZs p1 z TI TO .ellipsis f := hp1 _ _ S.zi1 hz0
  refine wpAny_bind (wpAny_setField_rec (s := ⟨p1, g, d, tk0, os⟩) hz1 (by simp) fun g2 hz2 hs2 => ?_)
  replace hs2 : Heap.SameBut z p1 g2 := hs2
  show wpAny (model prog w) A (_ >>= _) _ E ⟨g2, g, d, tk0, os⟩
  refine wpAny_bind ?_
  refine wpAny_bind (m := forIn (List.zipIdx (List.drop 1 [Value.ref i1, Value.ref i2]) 1) PUnit.unit _) ?_
  simp only [List.drop_succ_cons, List.drop_zero, List.zipIdx_cons, List.zipIdx_nil, List.forIn_cons, List.forIn_nil]
  refine wpAny_bind (wpAny_bind ?_)
  have st2g : St2 n g2 := D2.over (D2.frame _ _ _ (D2.over st2 hs0 S.zf2) fun b hb o e => hp1 b o (fun q => S.sep1_2 (q ▸ hb)) e) hs2 S.zf2
  refine noe_end D2 st2g fun p2 hp2 => ?_
  replace hp2 : Heap.ExtBut i2 g2 p2 := hp2
  simp only [Option.isSome_none, Bool.false_eq_true, if_false]
  refine wpAny_pure (wpAny_pure (wpAny_bind (wpAny_rule (stop_rule hh fun h' e x he => ?_))))
  exact hE h' tk0 e (fun c o c1 c2 c3 q => x c o (hp2 _ _ c3 (hs2.extBut _ _ c1 (hp1 _ _ c2 (hs0.extBut _ _ c1 q))))) he
/-! ### 'next' as the walks use it -/
theorem pn_held {Q : Option Value → Shared → Prop} (S : ZipSep2 z TI TO i1 i2 fp1 fp2) (D1 : Draws prog w A.in1 i1 fp1 n P1 St1) (D2 : Draws prog w A.in1 i2 fp2 n P2 St2) (hz : IsZs s.heap z TI TO (rawInt T) f) (hT : s.heap.get? T = some oT)
    (hTI : IsTupOf2 s.heap TI (.ref i1) (.ref i2)) (st1 : St1 i s.heap) (st2 : St2 i s.heap) (hi : i < n)
    (hQ : ∀ x1 x2 h' tk, P1 i x1 → P2 i x2 → IsZs h' z TI TO (rawInt T) true → St1 (i + 1) h' → St2 (i + 1) h' → IsTupOf2 h' s.heap.objs.size x1 x2 → (∀ c o, c ≠ z → c ≠ i1 → c ≠ i2 → s.heap.get? c = some o → h'.get? c = some o) → Q (some (.ref s.heap.objs.size)) { s with heap := h', toks := tk }) :
    wpAny (model prog w) A (pyNext (.ref z)) Q E s := by
  have ty : s.TypeIs (.ref z) "zip" := ⟨_, hz, rfl⟩
  unfold pyNext
  exact wpAny_bind (wpAny_attempt (wpAny_callSpecial?_slot (name := Str.ofString "__next__") ty F.slot_zip_next (wpAny_call_entry F.slot_zip_next ty F.entry_zip_next
    (zs_item_held S D1 D2 hz hT hTI st1 st2 hi fun x1 x2 h' tk y1 y2 b1 b2 b3 b4 b5 => wpAny_pure (hQ x1 x2 h' tk y1 y2 b1 b2 b3 b4 b5)) (F.args_zip_next_1 _))))
theorem pn_free {Q : Option Value → Shared → Prop} (S : ZipSep2 z TI TO i1 i2 fp1 fp2) (D1 : Draws prog w A.in1 i1 fp1 n P1 St1) (D2 : Draws prog w A.in1 i2 fp2 n P2 St2) (hz : IsZs s.heap z TI TO .none f) (hTI : IsTupOf2 s.heap TI (.ref i1) (.ref i2)) (hTO : IsTupOf2 s.heap TO a1 a2)
    (st1 : St1 i s.heap) (st2 : St2 i s.heap) (hi : i < n)
    (hQ : ∀ x1 x2 h' tk, P1 i x1 → P2 i x2 → IsZs h' z TI TO (rawInt s.heap.objs.size) false → IsTupOf2 h' TO x1 x2 → St1 (i + 1) h' → St2 (i + 1) h' → IsTupOf2 h' s.heap.objs.size x1 x2 → (∀ c o, c ≠ z → c ≠ TO → c ≠ i1 → c ≠ i2 → s.heap.get? c = some o → h'.get? c = some o) → Q (some (.ref s.heap.objs.size)) { s with heap := h', toks := tk }) :
    wpAny (model prog w) A (pyNext (.ref z)) Q E s := by
  have ty : s.TypeIs (.ref z) "zip" := ⟨_, hz, rfl⟩
  unfold pyNext
  exact wpAny_bind (wpAny_attempt (wpAny_callSpecial?_slot (name := Str.ofString "__next__") ty F.slot_zip_next (wpAny_call_entry F.slot_zip_next ty F.entry_zip_next
    (zs_item_free S D1 D2 hz hTI hTO st1 st2 hi fun x1 x2 h' tk y1 y2 b1 b2 b3 b4 b5 b6 => wpAny_pure (hQ x1 x2 h' tk y1 y2 b1 b2 b3 b4 b5 b6)) (F.args_zip_next_1 _))))
theorem pn_heldEnd {Q : Option Value → Shared → Prop} (hh : A.handled = none) (S : ZipSep2 z TI TO i1 i2 fp1 fp2) (D1 : Draws prog w A.in1 i1 fp1 n P1 St1) (D2 : Draws prog w A.in1 i2 fp2 n P2 St2) (hz : IsZs s.heap z TI TO (rawInt T) f) (hT : s.heap.get? T = some oT)
    (hTI : IsTupOf2 s.heap TI (.ref i1) (.ref i2)) (st1 : St1 n s.heap) (st2 : St2 n s.heap) (hQ : ∀ h' tk, (∀ c o, c ≠ z → c ≠ i1 → c ≠ i2 → s.heap.get? c = some o → h'.get? c = some o) → Q none { s with heap := h', toks := tk }) : wpAny (model prog w) A (pyNext (.ref z)) Q E s := by
  have ty : s.TypeIs (.ref z) "zip" := ⟨_, hz, rfl⟩
  unfold pyNext
  refine wpAny_bind (wpAny_attempt (wpAny_callSpecial?_slot (name := Str.ofString "__next__") ty F.slot_zip_next (wpAny_call_entry F.slot_zip_next ty F.entry_zip_next (zs_end_held (A := A.in1) hh S D1 D2 hz hT hTI st1 st2 fun h' tk e hk he => ?_) (F.args_zip_next_1 _))))
  obtain ⟨o, ho, hc⟩ := he
  exact wpAny_bind (wpAny_isInstance (T := "StopIteration") (b := true) ⟨o, ho, hc⟩ isSubtype_stop (wpAny_pure (hQ _ _ hk)))
theorem pn_freeEnd {Q : Option Value → Shared → Prop} (hh : A.handled = none) (S : ZipSep2 z TI TO i1 i2 fp1 fp2) (D1 : Draws prog w A.in1 i1 fp1 n P1 St1) (D2 : Draws prog w A.in1 i2 fp2 n P2 St2) (hz : IsZs s.heap z TI TO .none f)
    (hTI : IsTupOf2 s.heap TI (.ref i1) (.ref i2)) (st1 : St1 n s.heap) (st2 : St2 n s.heap) (hQ : ∀ h' tk, (∀ c o, c ≠ z → c ≠ i1 → c ≠ i2 → s.heap.get? c = some o → h'.get? c = some o) → Q none { s with heap := h', toks := tk }) : wpAny (model prog w) A (pyNext (.ref z)) Q E s := by
  have ty : s.TypeIs (.ref z) "zip" := ⟨_, hz, rfl⟩
  unfold pyNext
  refine wpAny_bind (wpAny_attempt (wpAny_callSpecial?_slot (name := Str.ofString "__next__") ty F.slot_zip_next (wpAny_call_entry F.slot_zip_next ty F.entry_zip_next (zs_end_free (A := A.in1) hh S D1 D2 hz hTI st1 st2 fun h' tk e hk he => ?_) (F.args_zip_next_1 _))))
  obtain ⟨o, ho, hc⟩ := he
  exact wpAny_bind (wpAny_isInstance (T := "StopIteration") (b := true) ⟨o, ho, hc⟩ isSubtype_stop (wpAny_pure (hQ _ _ hk)))
theorem zs_iter {own : Value} {Q : Value → Shared → Prop} (hz : IsZs s.heap z TI TO own f) (h : Q (.ref z) s) : wpAny (model prog w) A (pyIter (.ref z)) Q E s := by
  have ty : s.TypeIs (.ref z) "zip" := ⟨_, hz, rfl⟩
  refine wpAny_pyIter_slot ty F.slot_zip_iter (wpAny_call_entry F.slot_zip_iter ty F.entry_zip_iter ?_ (F.args_zip_iter_1 _))
  show wpAny (model prog w) A.in1 (ret (.ref z)) _ _ s
  exact wpAny_pure ⟨_, rfl, "zip", _, ty, F.slot_zip_next.lookup, h⟩
theorem zs_letGo {elts : List Expr} {x1} {pos : Pos} {Q : Unit → Shared → Prop} (hz : IsZs s.heap z TI TO (rawInt T) f) (hQ : ∀ h', IsZs h' z TI TO .none f → Heap.SameBut z s.heap h' → Q () { s with heap := h' }) :
    wpAny (model prog w) A (letOwnedTupleGo (.Tuple elts x1 pos) (.ref z) (.ref T)) Q E s := by
  unfold letOwnedTupleGo
  refine wpAny_bind (wpAny_load hz ?_)
  show wpAny (model prog w) A (if (["enumerate", "zip", "dict_itemiterator", "dict_reverseitemiterator", "odict_iterator", "itertools.zip_longest", "itertools.pairwise"].contains "zip" && (#[rawInt T, .bool f, .bool true, .ref TI, .ref TO] : Array Value)[0]? == some (rawInt T)) = true then _ else _) Q E s
  rw [if_pos (by simp)]
  refine wpAny_bind (wpAny_rule ?_)
  show wpAny (model prog w) A (setField (.ref z) 0 .none) Q E s
  exact wpAny_setField_rec hz (by simp) fun h' hz' hs' => hQ h' hz' hs'
end
/-! ### zip(a, b, strict=True) over two tuples -/
theorem tc_zs (a b c : Value) : checkTypeCall "zip" ⟨[a, b], [(Str.ofString "strict", c)]⟩ = pure () := by kernel_rfl
theorem nc_zs (a b c : Value) : checkBuiltinCall "zip.__new__" ⟨[.type "zip", a, b], [(Str.ofString "strict", c)]⟩ = pure () := by kernel_rfl
theorem ai_zs (o a b c : Value) : argsOk "object.__init__" ⟨[o, a, b], [(Str.ofString "strict", c)]⟩ := by unfold argsOk; kernel_rfl
abbrev zsH (h : Heap) (l1 l2 : Addr) : Heap := (RZ.zipTH4 h l1 l2).push { cls := .type "zip", data := .fields #[.none, .bool false, .bool true, .ref (RZ.zipTH2 h l1 l2).objs.size, .ref (RZ.zipTH3 h l1 l2).objs.size] }
theorem meets_zs (l1 l2 : Addr) (xs ys : Array Value) : Meets (Builtin.«zip.__new__» ⟨[.type "zip", .ref l1, .ref l2], [(Str.ofString "strict", .bool true)]⟩) (fun _ R s => s.heap.IsTuple l1 xs ∧ s.heap.IsTuple l2 ys ∧
      R (.ok (.ret (.ref (RZ.zipTH4 s.heap l1 l2).objs.size))) { s with heap := zsH s.heap l1 l2 }) :=
  .of_wp fun prog w A R s h => by
    obtain ⟨hp, g, d, tk, os⟩ := s
    obtain ⟨hl1, hl2, h⟩ := h
    have hsub := sub_zip
    have e1 : (Str.ofString "strict" != ("strict" : Str)) = false := by decide +kernel
    have hL1 : Heap.IsTuple (Shared.heap ⟨hp, g, d, tk, os⟩) l1 xs := hl1
    have hL2 : Heap.IsTuple (Shared.heap ⟨hp.push { cls := .type "tuple_iterator", data := .fields #[.ref l1, .int 0 0] }, g, d, tk, os⟩) l2 ys := Heap.IsTuple.push hl2 _
    wp_walk using wpAny_pyIter_tuple hL1, wpAny_pyIter_tuple hL2
    exact ⟨_, rfl, h⟩
section
variable {prog : Program} {w : World} {A : Around} {E : Value → Shared → Prop} {s : Shared}
theorem call_zs {l1 l2 : Addr} {xs ys : Array Value} {Q : Value → Shared → Prop} (hl1 : s.heap.IsTuple l1 xs) (hl2 : s.heap.IsTuple l2 ys)
    (h : ∀ h', IsZs h' (s.heap.objs.size + 4) (s.heap.objs.size + 2) (s.heap.objs.size + 3) .none false → IsTupOf2 h' (s.heap.objs.size + 2) (.ref s.heap.objs.size) (.ref (s.heap.objs.size + 1)) → IsTupOf2 h' (s.heap.objs.size + 3) .none .none →
      h'.IsTupleIter s.heap.objs.size l1 0 → h'.IsTupleIter (s.heap.objs.size + 1) l2 0 → h'.objs.size = s.heap.objs.size + 5 → (∀ c o, s.heap.get? c = some o → h'.get? c = some o) → Q (.ref (s.heap.objs.size + 4)) { s with heap := h' }) :
    wpAny (model prog w) A (call (.type "zip") [.ref l1, .ref l2] [(Str.ofString "strict", .bool true)]) Q E s := by
  refine callType_newKw F.called_zip (by decide) (tc_zs _ _ _) (nc_zs _ _ _) (fun obj => ai_zs obj _ _ _) F.entry_zip_new (meets_zs l1 l2 xs ys) ⟨hl1, hl2, ?_⟩
  have z1 : (RZ.zipTH1 s.heap l1).objs.size = s.heap.objs.size + 1 := Heap.size_push ..
  have z2 : (RZ.zipTH2 s.heap l1 l2).objs.size = s.heap.objs.size + 2 := by rw [Heap.size_push, z1]
  have z3 : (RZ.zipTH3 s.heap l1 l2).objs.size = s.heap.objs.size + 3 := by rw [Heap.size_push, z2]
  have z4 : (RZ.zipTH4 s.heap l1 l2).objs.size = s.heap.objs.size + 4 := by rw [Heap.size_push, z3]
  have z5 : (zsH s.heap l1 l2).objs.size = s.heap.objs.size + 5 := by rw [Heap.size_push, z4]
  have up1 : ∀ {h : Heap} {o o' : Obj} {c : Addr}, h.get? c = some o → (h.push o').get? c = some o := fun e => Heap.get?_push_of_some _ e
  have k5 : (zsH s.heap l1 l2).get? (RZ.zipTH4 s.heap l1 l2).objs.size = some _ := Heap.get?_push_size _ rfl
  have k4 : (zsH s.heap l1 l2).get? (RZ.zipTH3 s.heap l1 l2).objs.size = some _ := up1 (Heap.get?_push_size _ rfl)
  have k3 : (zsH s.heap l1 l2).get? (RZ.zipTH2 s.heap l1 l2).objs.size = some _ := up1 (up1 (Heap.get?_push_size _ rfl))
  have k2 : (zsH s.heap l1 l2).get? (RZ.zipTH1 s.heap l1).objs.size = some _ := up1 (up1 (up1 (Heap.get?_push_size _ rfl)))
  have k1 : (zsH s.heap l1 l2).get? s.heap.objs.size = some _ := up1 (up1 (up1 (up1 (Heap.get?_push_size _ rfl))))
  show _ ∧ _
  rw [z2, z3, z4] at k5
  rw [z1, z2] at k3
  rw [z3] at k4
  rw [z1] at k2
  rw [z4]
  exact ⟨⟨_, k5, rfl⟩, h _ k5 k3 k4 ⟨_, k1, rfl, rfl⟩ ⟨_, k2, rfl, rfl⟩ z5 fun c o x => up1 (up1 (up1 (up1 (up1 x))))⟩
end
end CW
/-! part CwZip2 -/
set_option maxRecDepth 100000
set_option maxHeartbeats 2000000
/-! list(zip(.., strict=True)). -/
namespace CW
open PySem
theorem zip_len0 : typeLookup (.type "zip") "__len__" = pure none := by rw [typeLookup_type, builtinLookup_eq_fast]; kernel_rfl
theorem zip_hint0 : typeLookup (.type "zip") "__length_hint__" = pure none := by rw [typeLookup_type, builtinLookup_eq_fast]; kernel_rfl
section
variable {prog : Program} {w : World} {A : Around} {E : Value → Shared → Prop} {s : Shared} {R : Result → Shared → Prop} {z TI TO i1 i2 L : Addr} {fp1 fp2 : List Addr} {n : Nat} {P1 P2 : Nat → Value → Prop} {St1 St2 : Nat → Heap → Prop}
structure ZSt (z TI TO i1 i2 L : Addr) (St1 St2 : Nat → Heap → Prop) (i : Nat) (h : Heap) : Prop where
  ti : IsTupOf2 h TI (.ref i1) (.ref i2)
  to : ∃ a1 a2, IsTupOf2 h TO a1 a2
  s1 : St1 i h
  s2 : St2 i h
  own : (∃ f, IsZs h z TI TO .none f) ∨ ∃ (T : Addr) (f : Bool) (oT : Obj), IsZs h z TI TO (rawInt T) f ∧ h.get? T = some oT ∧ T ≠ L ∧ T ≠ z ∧ T ≠ i1 ∧ T ≠ i2
def AccZ (P1 P2 : Nat → Value → Prop) (bad : List Addr) (h : Heap) (acc : Array Value) (i : Nat) : Prop := acc.size = i ∧ ∀ j v, acc[j]? = some v → ∃ T x1 x2, v = .ref T ∧ IsTupOf2 h T x1 x2 ∧ P1 j x1 ∧ P2 j x2 ∧ T ∉ bad
theorem AccZ.to {bad : List Addr} {h h' : Heap} {acc : Array Value} {i : Nat} (x : AccZ P1 P2 bad h acc i) (k : ∀ c o, c ∉ bad → h.get? c = some o → h'.get? c = some o) : AccZ P1 P2 bad h' acc i := ⟨x.1, fun j v e => by
  obtain ⟨T, x1, x2, h1, h2, h3, h4, h5⟩ := x.2 j v e
  exact ⟨T, x1, x2, h1, k T _ h5 h2, h3, h4, h5⟩⟩
theorem AccZ.push {bad : List Addr} {h : Heap} {acc : Array Value} {i : Nat} {T : Addr} {x1 x2 : Value} (x : AccZ P1 P2 bad h acc i) (h2 : IsTupOf2 h T x1 x2) (h3 : P1 i x1) (h4 : P2 i x2) (h5 : T ∉ bad) : AccZ P1 P2 bad h (acc.push (.ref T)) (i + 1) := by
  refine ⟨by rw [Array.size_push, x.1], fun j v hj => ?_⟩
  rw [Array.getElem?_push] at hj
  split at hj
  · rename_i e
    cases hj
    rw [e, x.1]
    exact ⟨T, x1, x2, rfl, h2, h3, h4, h5⟩
  · exact x.2 j v hj
/-- what a zip's 'next' keeps -/
abbrev badZ (L z TO i1 i2 : Addr) : List Addr := [L, z, TO, i1, i2]
theorem zst_item {i : Nat} {Q : Option Value → Shared → Prop} (S : ZipSep2 z TI TO i1 i2 fp1 fp2) (D1 : Draws prog w A.in1 i1 fp1 n P1 St1) (D2 : Draws prog w A.in1 i2 fp2 n P2 St2) (st : ZSt z TI TO i1 i2 L St1 St2 i s.heap) (hi : i < n) (hL : L < s.heap.objs.size)
    (hQ : ∀ T x1 x2 h' tk, P1 i x1 → P2 i x2 → IsTupOf2 h' T x1 x2 → s.heap.objs.size ≤ T → ZSt z TI TO i1 i2 L St1 St2 (i + 1) h' → (∀ c o, c ≠ z → c ≠ TO → c ≠ i1 → c ≠ i2 → s.heap.get? c = some o → h'.get? c = some o) → Q (some (.ref T)) { s with heap := h', toks := tk }) :
    wpAny (model prog w) A (pyNext (.ref z)) Q E s := by
  obtain ⟨ti, ⟨a1, a2, to⟩, s1, s2, own⟩ := st
  have ne : ∀ {c o}, s.heap.get? c = some o → s.heap.objs.size ≠ c := fun e => Nat.ne_of_gt (Heap.lt_size e)
  obtain ⟨o1, l1⟩ := D1.live _ _ s1
  obtain ⟨o2, l2⟩ := D2.live _ _ s2
  rcases own with ⟨f, hz⟩ | ⟨T, f, oT, hz, hT, n0, n1, n2, n3⟩
  · refine pn_free S D1 D2 hz ti to s1 s2 hi fun x1 x2 h' tk y1 y2 b1 b2 b3 b4 b5 b6 => ?_
    exact hQ _ x1 x2 h' tk y1 y2 b5 (Nat.le_refl _) ⟨b6 _ _ S.TIz S.TITO S.TIi1 S.TIi2 ti, ⟨_, _, b2⟩, b3, b4, .inr ⟨_, _, _, b1, b5, Nat.ne_of_gt hL, ne hz, ne l1, ne l2⟩⟩ b6
  · refine pn_held S D1 D2 hz hT ti s1 s2 hi fun x1 x2 h' tk y1 y2 b1 b3 b4 b5 b6 => ?_
    exact hQ _ x1 x2 h' tk y1 y2 b5 (Nat.le_refl _) ⟨b6 _ _ S.TIz S.TIi1 S.TIi2 ti, ⟨a1, a2, b6 _ _ S.TOz S.Ti1 S.Ti2 to⟩, b3, b4, .inr ⟨T, _, oT, b1, b6 _ _ n1 n2 n3 hT, n0, n1, n2, n3⟩⟩ fun c o c1 _ c2 c3 e => b6 c o c1 c2 c3 e
theorem zst_end {Q : Option Value → Shared → Prop} (hh : A.handled = none) (S : ZipSep2 z TI TO i1 i2 fp1 fp2) (D1 : Draws prog w A.in1 i1 fp1 n P1 St1) (D2 : Draws prog w A.in1 i2 fp2 n P2 St2) (st : ZSt z TI TO i1 i2 L St1 St2 n s.heap)
    (hQ : ∀ h' tk, (∀ c o, c ≠ z → c ≠ TO → c ≠ i1 → c ≠ i2 → s.heap.get? c = some o → h'.get? c = some o) → Q none { s with heap := h', toks := tk }) : wpAny (model prog w) A (pyNext (.ref z)) Q E s := by
  obtain ⟨ti, ⟨a1, a2, to⟩, s1, s2, own⟩ := st
  rcases own with ⟨f, hz⟩ | ⟨T, f, oT, hz, hT, n0, n1, n2, n3⟩
  · exact pn_freeEnd hh S D1 D2 hz ti s1 s2 fun h' tk b => hQ h' tk fun c o c1 _ c2 c3 e => b c o c1 c2 c3 e
  · exact pn_heldEnd hh S D1 D2 hz hT ti s1 s2 fun h' tk b => hQ h' tk fun c o c1 _ c2 c3 e => b c o c1 c2 c3 e
/-- a write at L alone -/
theorem ZSt.over {i : Nat} {h h' : Heap} (D1 : Draws prog w A i1 fp1 n P1 St1) (D2 : Draws prog w A i2 fp2 n P2 St2) (st : ZSt z TI TO i1 i2 L St1 St2 i h) (k : ∀ c o, c ≠ L → h.get? c = some o → h'.get? c = some o) (hz : z ≠ L) (hTI : TI ≠ L) (hTO : TO ≠ L) (h1 : L ∉ fp1) (h2 : L ∉ fp2) : ZSt z TI TO i1 i2 L St1 St2 i h' := by
  obtain ⟨ti, ⟨a1, a2, to⟩, s1, s2, own⟩ := st
  refine ⟨k _ _ hTI ti, ⟨a1, a2, k _ _ hTO to⟩, D1.frame _ _ _ s1 fun b hb o e => k b o (fun q => h1 (q ▸ hb)) e, D2.frame _ _ _ s2 fun b hb o e => k b o (fun q => h2 (q ▸ hb)) e, ?_⟩
  rcases own with ⟨f, q⟩ | ⟨T, f, oT, q, hT, n0, r⟩
  · exact .inl ⟨f, k _ _ hz q⟩
  · exact .inr ⟨T, f, oT, k _ _ hz q, k _ _ n0 hT, n0, r⟩
theorem zs_loop (hh : A.handled = none) (S : ZipSep2 z TI TO i1 i2 fp1 fp2) (D1 : Draws prog w A.in1.in1 i1 fp1 n P1 St1) (D2 : Draws prog w A.in1.in1 i2 fp2 n P2 St2) (hn : n ≤ sizeLine) (hz : z ≠ L) (hTI : TI ≠ L) (hTO : TO ≠ L) (h1 : L ∉ fp1) (h2 : L ∉ fp2) (res : Value) :
    ∀ (k i : Nat) (s : Shared) (acc : Array Value) (c : Nat), n - i = k → i ≤ n → ZSt z TI TO i1 i2 L St1 St2 i s.heap → s.heap.get? L = some { cls := .type "list", dict := none, data := .seq acc c, slots := #[] } → AccZ P1 P2 (badZ L z TO i1 i2) s.heap acc i →
    (∀ h' tk acc' c', (∀ b o, b ∉ badZ L z TO i1 i2 → s.heap.get? b = some o → h'.get? b = some o) → h'.get? L = some { cls := .type "list", dict := none, data := .seq acc' c', slots := #[] } → AccZ P1 P2 (badZ L z TO i1 i2) h' acc' n → R (.ok (.ret res)) { s with heap := h', toks := tk }) →
    codeAny (model prog w) A (.builtin "list.extend.loop" ⟨[.ref L, .ref z, res], []⟩) R s := by
  have L1 : L ≠ i1 := fun q => h1 (q ▸ S.mem1)
  have L2 : L ≠ i2 := fun q => h2 (q ▸ S.mem2)
  intro k
  induction k with
  | zero =>
    intro i s acc c hk hi st hL ha hR
    have e : i = n := by omega
    subst e
    refine codeAny_builtin PySem.F.entry_extend_loop ?_
    rw [Around.under_plainId PySem.F.plain_extend_loop _]
    show wpAny (model prog w) A.in1 (pyNext (.ref z) >>= _) _ _ s
    refine wpAny_bind (zst_end (A := A.in1) hh S D1 D2 st fun h' tk b => wpAny_pure ?_)
    have kp : ∀ b' o, b' ∉ badZ L z TO i1 i2 → s.heap.get? b' = some o → h'.get? b' = some o := fun b' o nb e => by
      simp only [List.mem_cons, List.not_mem_nil, or_false, not_or] at nb
      exact b b' o nb.2.1 nb.2.2.1 nb.2.2.2.1 nb.2.2.2.2 e
    exact hR h' tk acc c kp (b L _ hz.symm hTO.symm L1 L2 hL) (ha.to kp)
  | succ k ih =>
    intro i s acc c hk hi st hL ha hR
    refine codeAny_builtin PySem.F.entry_extend_loop ?_
    rw [Around.under_plainId PySem.F.plain_extend_loop _]
    show wpAny (model prog w) A.in1 (pyNext (.ref z) >>= _) _ _ s
    refine wpAny_bind (zst_item (A := A.in1) S D1 D2 st (by omega) (Heap.lt_size hL) fun T x1 x2 h' tk y1 y2 hT hTs st' b => ?_)
    have kp : ∀ b' o, b' ∉ badZ L z TO i1 i2 → s.heap.get? b' = some o → h'.get? b' = some o := fun b' o nb e => by
      simp only [List.mem_cons, List.not_mem_nil, or_false, not_or] at nb
      exact b b' o nb.2.1 nb.2.2.1 nb.2.2.2.1 nb.2.2.2.2 e
    have hL' := b L _ hz.symm hTO.symm L1 L2 hL
    have ne : ∀ {d o}, s.heap.get? d = some o → T ≠ d := fun e q => by
      subst q
      exact absurd (Heap.lt_size e) (Nat.not_lt.mpr hTs)
    have hTb : T ∉ badZ L z TO i1 i2 := by
      obtain ⟨ti, ⟨a1, a2, to⟩, s1, s2, own⟩ := st
      obtain ⟨o1, l1⟩ := D1.live _ _ s1
      obtain ⟨o2, l2⟩ := D2.live _ _ s2
      have lz : ∃ o, s.heap.get? z = some o := by
        rcases own with ⟨f, q⟩ | ⟨_, _, _, q, _⟩
        · exact ⟨_, q⟩
        · exact ⟨_, q⟩
      obtain ⟨oz, lz⟩ := lz
      simp only [List.mem_cons, List.not_mem_nil, or_false, not_or]
      exact ⟨ne hL, ne lz, ne to, ne l1, ne l2⟩
    show wpAny (model prog w) A.in1 (updateSeq L (·.push (.ref T)) >>= _) _ _ _
    refine wpAny_bind ?_
    refine wpAny_updateSeq hL' rfl (wpAny_pure ⟨plainId_quiet PySem.F.plain_extend_loop _, ih (i + 1) _ (acc.push (.ref T)) _ (by omega) (by omega) ?_ (Heap.get?_update_self _ hL' rfl) ?_ fun h'' tk'' acc'' c'' k2 hL2 ha2 => ?_⟩)
      (by rw [ha.1]; omega) (by show (acc.push (.ref T)).size ≤ sizeLine + 1; rw [Array.size_push, ha.1]; omega)
    · exact st'.over D1 D2 (fun c o q e => (Heap.get?_update_other _ _ (Ne.symm q)).trans e) hz hTI hTO h1 h2
    · refine ((ha.to kp).push hT y1 y2 hTb).to fun c o q e => ?_
      have : c ≠ L := fun w => q (by simp [w])
      exact (Heap.get?_update_other _ _ (Ne.symm this)).trans e
    · refine hR h'' tk'' acc'' c'' (fun b' o nb e => k2 b' o nb ?_) hL2 ha2
      have : b' ≠ L := fun w => nb (by simp [w])
      exact (Heap.get?_update_other _ _ (Ne.symm this)).trans (kp b' o nb e)
theorem zst_push {i : Nat} {h : Heap} {o : Obj} (D1 : Draws prog w A i1 fp1 n P1 St1) (D2 : Draws prog w A i2 fp2 n P2 St2) (st : ZSt z TI TO i1 i2 L St1 St2 i h) : ZSt z TI TO i1 i2 L St1 St2 i (h.push o) := by
  obtain ⟨ti, ⟨a1, a2, to⟩, s1, s2, own⟩ := st
  have up : ∀ {c : Addr} {q : Obj}, h.get? c = some q → (h.push o).get? c = some q := fun e => Heap.get?_push_of_some _ e
  refine ⟨up ti, ⟨a1, a2, up to⟩, D1.frame _ _ _ s1 fun b hb o e => up e, D2.frame _ _ _ s2 fun b hb o e => up e, ?_⟩
  rcases own with ⟨f, q⟩ | ⟨T, f, oT, q, hT, r⟩
  · exact .inl ⟨f, up q⟩
  · exact .inr ⟨T, f, oT, up q, up hT, r⟩
theorem zs_extend (hh : A.handled = none) (S : ZipSep2 z TI TO i1 i2 fp1 fp2) (D1 : Draws prog w A.in1.in1 i1 fp1 n P1 St1) (D2 : Draws prog w A.in1.in1 i2 fp2 n P2 St2) (hn : n ≤ sizeLine) (hz : z ≠ L) (hTI : TI ≠ L) (hTO : TO ≠ L) (h1 : L ∉ fp1) (h2 : L ∉ fp2) (res : Value) (c₀ : Nat)
    (st : ZSt z TI TO i1 i2 L St1 St2 0 s.heap) (hL : s.heap.get? L = some { cls := .type "list", data := .seq #[] c₀ })
    (hR : ∀ h' tk acc' c', (∀ b o, b ∉ badZ L z TO i1 i2 → s.heap.get? b = some o → h'.get? b = some o) → h'.get? L = some { cls := .type "list", dict := none, data := .seq acc' c', slots := #[] } → AccZ P1 P2 (badZ L z TO i1 i2) h' acc' n → R (.ok (.ret res)) { s with heap := h', toks := tk }) :
    wpAny (model prog w) A.in1 (Builtin.List.listExtendWith (.ref L) (.ref z) res)
      (fun fin s' => match fin with | .done f => R (.ok f) s' | .again c' => c'.quiet = true ∧ codeAny (model prog w) A c' R s') (fun e s' => R (.error e) s') s := by
  have lz : ∃ own f, IsZs s.heap z TI TO own f := by
    rcases st.own with ⟨f, q⟩ | ⟨_, f, _, q, _⟩
    · exact ⟨_, f, q⟩
    · exact ⟨_, f, q⟩
  obtain ⟨own, f, lz⟩ := lz
  have ty : s.TypeIs (.ref z) "zip" := ⟨_, lz, rfl⟩
  unfold Builtin.List.listExtendWith
  refine wpAny_bind (wpAny_typeOf ty ?_)
  have q1 : Builtin.List.listSameRef (.ref L) (.ref z) = false := by simp [Builtin.List.listSameRef, hz.symm]
  have q2 : (Value.type "zip" == Value.type "list") = false := by decide
  have q3 : (Value.type "zip" == Value.type "tuple") = false := by decide
  simp only [q1, q2, q3, Bool.or_false, Bool.false_eq_true, if_false]
  refine wpAny_bind (zs_iter lz (wpAny_bind (wpAny_holding ?_)))
  unfold Builtin.List.listLengthHint
  refine wpAny_bind (wpAny_specialOf ty zip_len0 ?_)
  show wpAny (model prog w) A.in1 (specialOf (Value.ref z) (Str.ofString "__length_hint__") >>= _) _ _ s
  refine wpAny_bind (wpAny_specialOf ty zip_hint0 (wpAny_pure ?_))
  show wpAny (model prog w) A.in1 (rule "list.extend.makes-room" >>= fun _ => Builtin.List.listTouch (.ref L) >>= fun _ => again (.builtin "list.extend.loop" ⟨[.ref L, .ref z, res], []⟩)) _ _ s
  refine wpAny_bind (wpAny_rule (wpAny_bind ?_))
  show wpAny (model prog w) A.in1 (updateSeq L (·.push .none) >>= fun _ => updateSeq L (·.pop)) _ _ s
  refine wpAny_bind (wpAny_updateSeq hL rfl ?_)
  have hL2 := Heap.get?_update_self (Obj.mapSeq (·.push Value.none)) hL rfl
  refine wpAny_updateSeq (hz := by seq_fits) hL2 rfl ?_
  have hL3 := Heap.get?_update_self (Obj.mapSeq (·.pop)) hL2 rfl
  have oth : ∀ b o, b ≠ L → s.heap.get? b = some o → ((s.heap.update L (Obj.mapSeq (·.push Value.none))).update L (Obj.mapSeq (·.pop))).get? b = some o := fun b o hb e => (Heap.get?_update_other _ _ (Ne.symm hb)).trans ((Heap.get?_update_other _ _ (Ne.symm hb)).trans e)
  refine wpAny_pure ⟨plainId_quiet PySem.F.plain_extend_loop _, zs_loop hh S D1 D2 hn hz hTI hTO h1 h2 res n 0 _ _ _ rfl (Nat.zero_le _) (st.over D1 D2 oth hz hTI hTO h1 h2) hL3 ⟨rfl, fun j v e => by simp at e⟩ fun h' tk acc' c' k hl ha => ?_⟩
  refine hR h' tk acc' c' (fun b o nb e => k b o nb (oth b o (fun q => nb (by simp [q])) e)) hl ha
/-- list(z) -/
theorem call_list_zs {Q : Value → Shared → Prop} (hh : A.handled = none) (S : ZipSep2 z TI TO i1 i2 fp1 fp2) (D1 : Draws prog w A.in1.in1.in1 i1 fp1 n P1 St1) (D2 : Draws prog w A.in1.in1.in1 i2 fp2 n P2 St2) (hn : n ≤ sizeLine) (st : ZSt z TI TO i1 i2 s.heap.objs.size St1 St2 0 s.heap) (f1 : ∀ b ∈ fp1, b < s.heap.objs.size) (f2 : ∀ b ∈ fp2, b < s.heap.objs.size)
    (hQ : ∀ h' tk acc' c', (∀ b o, b ∉ badZ s.heap.objs.size z TO i1 i2 → s.heap.get? b = some o → h'.get? b = some o) → h'.get? s.heap.objs.size = some { cls := .type "list", dict := none, data := .seq acc' c', slots := #[] } → AccZ P1 P2 (badZ s.heap.objs.size z TO i1 i2) h' acc' n → Q (.ref s.heap.objs.size) { s with heap := h', toks := tk }) :
    wpAny (model prog w) A (call (.type "list") [.ref z]) Q E s := by
  have lz : ∃ own f, IsZs s.heap z TI TO own f := by
    rcases st.own with ⟨f, q⟩ | ⟨_, f, _, q, _⟩
    · exact ⟨_, f, q⟩
    · exact ⟨_, f, q⟩
  obtain ⟨own, f, lz⟩ := lz
  have nz : z ≠ s.heap.objs.size := Nat.ne_of_lt (Heap.lt_size lz)
  have nTI : TI ≠ s.heap.objs.size := Nat.ne_of_lt (Heap.lt_size st.ti)
  have nTO : TO ≠ s.heap.objs.size := by obtain ⟨_, _, to⟩ := st.to; exact Nat.ne_of_lt (Heap.lt_size to)
  have n1 : s.heap.objs.size ∉ fp1 := fun hm => Nat.lt_irrefl _ (f1 _ hm)
  have n2 : s.heap.objs.size ∉ fp2 := fun hm => Nat.lt_irrefl _ (f2 _ hm)
  refine callType_codes (Q₁ := fun obj s₁ => obj = .ref s.heap.objs.size ∧ s₁ = { s with heap := s.heap.push { cls := .type "list", data := .seq #[] } }) PySem.F.called_list (PySem.F.typeCall_list_1 _) PySem.F.entry_list_init (code_list_new _ ⟨rfl, rfl⟩) fun obj s₁ h₁ => ?_
  obtain ⟨rfl, rfl⟩ := h₁
  have hL : (s.heap.push { cls := .type "list", data := .seq #[] }).get? s.heap.objs.size = some { cls := .type "list", data := .seq #[] } := Heap.get?_push_size _ rfl
  refine ⟨⟨_, hL, rfl⟩, PySem.F.args_list_init_2 _ _, ?_⟩
  show wpAny (model prog w) A.in1.in1 (do let old ← Builtin.List.listItems (.ref s.heap.objs.size); Builtin.List.listUpdate (.ref s.heap.objs.size) (fun _ => #[]); letGo old.toList.reverse; Builtin.List.listExtendWith (.ref s.heap.objs.size) (.ref z) .none) _ _ _
  refine wpAny_bind ?_
  unfold Builtin.List.listItems
  refine wpAny_bind (wpAny_seqItems hL rfl (wpAny_pure ?_))
  show wpAny (model prog w) A.in1.in1 (updateSeq s.heap.objs.size (fun _ => #[]) >>= fun _ => letGo (#[] : Array Value).toList.reverse >>= fun _ => Builtin.List.listExtendWith (.ref s.heap.objs.size) (.ref z) .none) _ _ _
  refine wpAny_bind (wpAny_updateSeq hL rfl ?_)
  have hL2 := Heap.get?_update_self (Obj.mapSeq (fun _ => (#[] : Array Value))) hL rfl
  have oth : ∀ b o, b ≠ s.heap.objs.size → (s.heap.push { cls := .type "list", data := .seq #[] }).get? b = some o → ((s.heap.push { cls := .type "list", data := .seq #[] }).update s.heap.objs.size (Obj.mapSeq (fun _ => (#[] : Array Value)))).get? b = some o := fun b o hb e => (Heap.get?_update_other _ _ (Ne.symm hb)).trans e
  refine wpAny_bind (wpAny_letGo ?_)
  refine zs_extend (A := A.in1) hh S D1 D2 hn nz nTI nTO n1 n2 .none _ ((zst_push D1 D2 st).over D1 D2 oth nz nTI nTO n1 n2) hL2 fun h' tk acc' c' k hl ha => ?_
  exact ⟨rfl, hQ h' tk acc' c' (fun b o nb e => k b o nb (oth b o (fun q => nb (by simp [q])) (Heap.get?_push_of_some _ e))) hl ha⟩
end
end CW
/-! part CwHead -/
set_option maxRecDepth 100000
set_option maxHeartbeats 0
namespace CW
open PySem PySem.Spec PyProof.Rows L2
def top (i : Nat) : Stmt := PySem.Challenge.pw_crossedwishes_k38_whole_what_two_ends_ag.main.body.getD i (.Pass ⟨0, 0, 0, 0⟩)
/-- a keyword-only default of the def at p, where it is an object -/
def kwdAt (p : Str × Option Str) (x : Str) (K : PySem.W.Frag) : Addr := match K.lookup (He.fAd K p) with
  | some ⟨_, _, .func fd, _⟩ => (match fd.kwdefaults with
    | .ref D => (match PySem.W.nsIn K D x with
      | some (some (.ref a)) => a
      | _ => 0)
    | _ => 0)
  | _ => 0
/-- at a an empty tuple stands in K -/
def etupB (K : PySem.W.Frag) (a : Addr) : Bool := match K.lookup a with
  | some ⟨.type c, none, .seq its _, _⟩ => decide (c = "tuple") && decide (its.size = 0)
  | _ => false
/-- the value of a module's dict at a text, where it is an object -/
def datAt (d x : Str) (K : PySem.W.Frag) : Addr := match PySem.W.nsIn K (He.ga K d) x with
  | some (some (.ref a)) => a
  | _ => 0
abbrev s_is_name : Stmt := top 5
abbrev s_is_worth : Stmt := top 6
abbrev s_is_tuple : Stmt := top 7
abbrev s_is_pair : Stmt := top 8
abbrev s_left_of : Stmt := top 9
abbrev s_plan_of : Stmt := top 10
abbrev s_ask_of : Stmt := top 11
abbrev s_are_pairs : Stmt := top 13
abbrev s_is_said : Stmt := top 14
abbrev s_kinds_in : Stmt := top 15
abbrev s_answer : Stmt := top 16
abbrev s_are_refusals : Stmt := top 17
abbrev s_left_behind : Stmt := top 18
abbrev s_behind : Stmt := top 19
abbrev s_new_end : Stmt := top 27
abbrev s_known_of : Stmt := top 28
abbrev s_as_end : Stmt := top 29
abbrev s_written : Stmt := top 30
abbrev s_ask_written : Stmt := top 31
abbrev s_begin : Stmt := top 32
abbrev s_shut : Stmt := top 33
abbrev s_opened : Stmt := top 34
abbrev s_closing : Stmt := top 35
abbrev s_ticked : Stmt := top 36
abbrev s_has_failed : Stmt := top 37
abbrev s_wished : Stmt := top 38
abbrev s_letter_back : Stmt := top 40
abbrev s_heard_echo : Stmt := top 43
abbrev s_heard_closed : Stmt := top 44
abbrev s_heard_ask : Stmt := top 45
abbrev s_heard_answer : Stmt := top 46
abbrev s_heard_word : Stmt := top 47
abbrev s_heard : Stmt := top 48
abbrev s_stands_open_with : Stmt := top 49
abbrev s__law_pen : Stmt := top 51
abbrev s__law_draw : Stmt := top 52
abbrev s__law_kinds : Stmt := top 53
abbrev s__law_worths : Stmt := top 54
abbrev s__law_wishes : Stmt := top 55
abbrev s__law_bounds : Stmt := top 56
abbrev s__law_books : Stmt := top 57
abbrev s__law_two : Stmt := top 58
abbrev s__law_done : Stmt := top 59
abbrev s__law_comes : Stmt := top 60
abbrev s__law_of_itself : Stmt := top 61
abbrev s__law_led : Stmt := top 62
abbrev s__law_borne : Stmt := top 63
abbrev s__law_right : Stmt := top 64
abbrev s__law_settled : Stmt := top 65
abbrev s_law : Stmt := top 66
def d_is_name : He.DefD := ⟨("is_name", none), "is_name", "is_name", defArgs s_is_name, defBody s_is_name, defScope s_is_name, [], []⟩
def d_is_worth : He.DefD := ⟨("is_worth", none), "is_worth", "is_worth", defArgs s_is_worth, defBody s_is_worth, defScope s_is_worth, [], []⟩
def d_is_tuple : He.DefD := ⟨("is_tuple", none), "is_tuple", "is_tuple", defArgs s_is_tuple, defBody s_is_tuple, defScope s_is_tuple, [], []⟩
def d_is_pair : He.DefD := ⟨("is_pair", none), "is_pair", "is_pair", defArgs s_is_pair, defBody s_is_pair, defScope s_is_pair, [], []⟩
def d_left_of : He.DefD := ⟨("left_of", none), "left_of", "left_of", defArgs s_left_of, defBody s_left_of, defScope s_left_of, [], []⟩
def d_plan_of : He.DefD := ⟨("plan_of", none), "plan_of", "plan_of", defArgs s_plan_of, defBody s_plan_of, defScope s_plan_of, [], [("refused", .adr (kwdAt ("plan_of", none) "refused"))]⟩
def d_ask_of : He.DefD := ⟨("ask_of", none), "ask_of", "ask_of", defArgs s_ask_of, defBody s_ask_of, defScope s_ask_of, [], []⟩
def d_are_pairs : He.DefD := ⟨("are_pairs", none), "are_pairs", "are_pairs", defArgs s_are_pairs, defBody s_are_pairs, defScope s_are_pairs, [], []⟩
def d_is_said : He.DefD := ⟨("is_said", none), "is_said", "is_said", defArgs s_is_said, defBody s_is_said, defScope s_is_said, [], []⟩
def d_kinds_in : He.DefD := ⟨("kinds_in", none), "kinds_in", "kinds_in", defArgs s_kinds_in, defBody s_kinds_in, defScope s_kinds_in, [], []⟩
def d_answer : He.DefD := ⟨("answer", none), "answer", "answer", defArgs s_answer, defBody s_answer, defScope s_answer, [], []⟩
def d_are_refusals : He.DefD := ⟨("are_refusals", none), "are_refusals", "are_refusals", defArgs s_are_refusals, defBody s_are_refusals, defScope s_are_refusals, [], []⟩
def d_left_behind : He.DefD := ⟨("left_behind", none), "left_behind", "left_behind", defArgs s_left_behind, defBody s_left_behind, defScope s_left_behind, [], []⟩
def d_behind : He.DefD := ⟨("behind", none), "behind", "behind", defArgs s_behind, defBody s_behind, defScope s_behind, [], []⟩
def d_new_end : He.DefD := ⟨("new_end", none), "new_end", "new_end", defArgs s_new_end, defBody s_new_end, defScope s_new_end, [], []⟩
def d_known_of : He.DefD := ⟨("known_of", none), "known_of", "known_of", defArgs s_known_of, defBody s_known_of, defScope s_known_of, [], []⟩
def d_as_end : He.DefD := ⟨("as_end", none), "as_end", "as_end", defArgs s_as_end, defBody s_as_end, defScope s_as_end, [], []⟩
def d_written : He.DefD := ⟨("written", none), "written", "written", defArgs s_written, defBody s_written, defScope s_written, [], [("number", .int 0), ("pairs", .adr (kwdAt ("written", none) "pairs"))]⟩
def d_ask_written : He.DefD := ⟨("ask_written", none), "ask_written", "ask_written", defArgs s_ask_written, defBody s_ask_written, defScope s_ask_written, [], []⟩
def d_begin : He.DefD := ⟨("begin", none), "begin", "begin", defArgs s_begin, defBody s_begin, defScope s_begin, [], []⟩
def d_shut : He.DefD := ⟨("shut", none), "shut", "shut", defArgs s_shut, defBody s_shut, defScope s_shut, [], [("is_told", .bl true)]⟩
def d_opened : He.DefD := ⟨("opened", none), "opened", "opened", defArgs s_opened, defBody s_opened, defScope s_opened, [], [("tries", .int 3)]⟩
def d_closing : He.DefD := ⟨("closing", none), "closing", "closing", defArgs s_closing, defBody s_closing, defScope s_closing, [], []⟩
def d_ticked : He.DefD := ⟨("ticked", none), "ticked", "ticked", defArgs s_ticked, defBody s_ticked, defScope s_ticked, [], []⟩
def d_has_failed : He.DefD := ⟨("has_failed", none), "has_failed", "has_failed", defArgs s_has_failed, defBody s_has_failed, defScope s_has_failed, [], []⟩
def d_wished : He.DefD := ⟨("wished", none), "wished", "wished", defArgs s_wished, defBody s_wished, defScope s_wished, [], [("tries", .int 3)]⟩
def d_letter_back : He.DefD := ⟨("letter_back", none), "letter_back", "letter_back", defArgs s_letter_back, defBody s_letter_back, defScope s_letter_back, [], []⟩
def d_heard_echo : He.DefD := ⟨("heard_echo", none), "heard_echo", "heard_echo", defArgs s_heard_echo, defBody s_heard_echo, defScope s_heard_echo, [], []⟩
def d_heard_closed : He.DefD := ⟨("heard_closed", none), "heard_closed", "heard_closed", defArgs s_heard_closed, defBody s_heard_closed, defScope s_heard_closed, [], []⟩
def d_heard_ask : He.DefD := ⟨("heard_ask", none), "heard_ask", "heard_ask", defArgs s_heard_ask, defBody s_heard_ask, defScope s_heard_ask, [], []⟩
def d_heard_answer : He.DefD := ⟨("heard_answer", none), "heard_answer", "heard_answer", defArgs s_heard_answer, defBody s_heard_answer, defScope s_heard_answer, [], []⟩
def d_heard_word : He.DefD := ⟨("heard_word", none), "heard_word", "heard_word", defArgs s_heard_word, defBody s_heard_word, defScope s_heard_word, [], []⟩
def d_heard : He.DefD := ⟨("heard", none), "heard", "heard", defArgs s_heard, defBody s_heard, defScope s_heard, [], [("tries", .int 3)]⟩
def d_stands_open_with : He.DefD := ⟨("stands_open_with", none), "stands_open_with", "stands_open_with", defArgs s_stands_open_with, defBody s_stands_open_with, defScope s_stands_open_with, [], []⟩
def d__law_pen : He.DefD := ⟨("_law_pen", none), "_law_pen", "_law_pen", defArgs s__law_pen, defBody s__law_pen, defScope s__law_pen, [], []⟩
def d__law_draw : He.DefD := ⟨("_law_draw", none), "_law_draw", "_law_draw", defArgs s__law_draw, defBody s__law_draw, defScope s__law_draw, [], []⟩
def d__law_kinds : He.DefD := ⟨("_law_kinds", none), "_law_kinds", "_law_kinds", defArgs s__law_kinds, defBody s__law_kinds, defScope s__law_kinds, [], []⟩
def d__law_worths : He.DefD := ⟨("_law_worths", none), "_law_worths", "_law_worths", defArgs s__law_worths, defBody s__law_worths, defScope s__law_worths, [], []⟩
def d__law_wishes : He.DefD := ⟨("_law_wishes", none), "_law_wishes", "_law_wishes", defArgs s__law_wishes, defBody s__law_wishes, defScope s__law_wishes, [], []⟩
def d__law_bounds : He.DefD := ⟨("_law_bounds", none), "_law_bounds", "_law_bounds", defArgs s__law_bounds, defBody s__law_bounds, defScope s__law_bounds, [], []⟩
def d__law_books : He.DefD := ⟨("_law_books", none), "_law_books", "_law_books", defArgs s__law_books, defBody s__law_books, defScope s__law_books, [], []⟩
def d__law_two : He.DefD := ⟨("_law_two", none), "_law_two", "_law_two", defArgs s__law_two, defBody s__law_two, defScope s__law_two, [], []⟩
def d__law_done : He.DefD := ⟨("_law_done", none), "_law_done", "_law_done", defArgs s__law_done, defBody s__law_done, defScope s__law_done, [], []⟩
def d__law_comes : He.DefD := ⟨("_law_comes", none), "_law_comes", "_law_comes", defArgs s__law_comes, defBody s__law_comes, defScope s__law_comes, [], []⟩
def d__law_of_itself : He.DefD := ⟨("_law_of_itself", none), "_law_of_itself", "_law_of_itself", defArgs s__law_of_itself, defBody s__law_of_itself, defScope s__law_of_itself, [], []⟩
def d__law_led : He.DefD := ⟨("_law_led", none), "_law_led", "_law_led", defArgs s__law_led, defBody s__law_led, defScope s__law_led, [], []⟩
def d__law_borne : He.DefD := ⟨("_law_borne", none), "_law_borne", "_law_borne", defArgs s__law_borne, defBody s__law_borne, defScope s__law_borne, [], []⟩
def d__law_right : He.DefD := ⟨("_law_right", none), "_law_right", "_law_right", defArgs s__law_right, defBody s__law_right, defScope s__law_right, [], []⟩
def d__law_settled : He.DefD := ⟨("_law_settled", none), "_law_settled", "_law_settled", defArgs s__law_settled, defBody s__law_settled, defScope s__law_settled, [], []⟩
def d_law : He.DefD := ⟨("law", none), "law", "law", defArgs s_law, defBody s_law, defScope s_law, [], []⟩
def fnL : List He.DefD := [d_is_name, d_is_worth, d_is_tuple, d_is_pair, d_left_of, d_plan_of, d_ask_of, d_are_pairs, d_is_said, d_kinds_in, d_answer, d_are_refusals, d_left_behind, d_behind, d_new_end, d_known_of, d_as_end, d_written, d_ask_written, d_begin, d_shut, d_opened, d_closing, d_ticked, d_has_failed, d_wished, d_letter_back, d_heard_echo, d_heard_closed, d_heard_ask, d_heard_answer, d_heard_word, d_heard, d_stands_open_with, d__law_pen, d__law_draw, d__law_kinds, d__law_worths, d__law_wishes, d__law_bounds, d__law_books, d__law_two, d__law_done, d__law_comes, d__law_of_itself, d__law_led, d__law_borne, d__law_right, d__law_settled, d_law]
def faL : List He.Fa := [.glo "is_name", .glo "is_worth", .glo "is_tuple", .glo "is_pair", .glo "left_of", .glo "plan_of", .glo "ask_of", .glo "are_pairs", .glo "is_said", .glo "kinds_in", .glo "answer", .glo "are_refusals", .glo "left_behind", .glo "behind", .glo "new_end", .glo "known_of", .glo "as_end", .glo "written", .glo "ask_written", .glo "begin", .glo "shut", .glo "opened", .glo "closing", .glo "ticked", .glo "has_failed", .glo "wished", .glo "letter_back", .glo "heard_echo", .glo "heard_closed", .glo "heard_ask", .glo "heard_answer", .glo "heard_word", .glo "heard", .glo "stands_open_with", .glo "_law_pen", .glo "_law_draw", .glo "_law_kinds", .glo "_law_worths", .glo "_law_wishes", .glo "_law_bounds", .glo "_law_books", .glo "_law_two", .glo "_law_done", .glo "_law_comes", .glo "_law_of_itself", .glo "_law_led", .glo "_law_borne", .glo "_law_right", .glo "_law_settled", .glo "law",
  .free "isinstance", .free "str", .free "int", .free "bool", .free "tuple", .free "len", .free "all", .free "any", .free "zip", .free "dict", .free "list", .free "set", .free "sorted", .free "abs", .free "min", .free "max", .free "range", .free "sum", .free "repr",
  .str "LETTERS" "abcdefghijklmnopqrstuvwxyz", .int "LONGEST" 8, .int "GREATEST" 9999, .int "ALL" (-1), .int "MOST_ECHOES" 3, .glo "PARTS", .glo "AT_REST"]
def nm0 : List PySem.Str := ["is_name", "is_worth", "is_tuple", "is_pair", "left_of", "plan_of", "ask_of", "are_pairs", "is_said", "kinds_in", "answer", "are_refusals", "left_behind", "behind", "new_end", "known_of", "as_end", "written", "ask_written", "begin", "shut", "opened", "closing", "ticked", "has_failed", "wished", "letter_back", "heard_echo", "heard_closed", "heard_ask"]
def nm1 : List PySem.Str := ["heard_answer", "heard_word", "heard", "stands_open_with", "_law_pen", "_law_draw", "_law_kinds", "_law_worths", "_law_wishes", "_law_bounds", "_law_books", "_law_two", "_law_done", "_law_comes", "_law_of_itself", "_law_led", "_law_borne", "_law_right", "_law_settled", "WishError", "NotClosed", "NotOpen", "LETTERS", "LONGEST", "GREATEST", "ALL", "PARTS", "AT_REST", "MOST_ECHOES"]
def names : List PySem.Str := nm0 ++ nm1
def restKeys : List Str := ["stand", "number", "plan", "refused", "given", "heard", "took", "last", "tries"]
def restKvs : List (Str × He.Dv) := [("stand", .str "closed"), ("number", .int 0), ("plan", .adr (datAt "AT_REST" "plan")), ("refused", .adr (datAt "AT_REST" "refused")),
  ("given", .non), ("heard", .int 0), ("took", .non), ("last", .non), ("tries", .int 0)]
def partNames : List Str := ["name", "wishes", "stand", "turn", "yours", "number", "plan", "refused", "given", "heard", "took", "last", "tries", "echoes", "why"]
def tsL : List He.Tab := [(fun K => He.ga K "AT_REST", restKeys)]
def exB (K : PySem.W.Frag) : Bool := He.tupB K "PARTS" (partNames.map He.Dv.str) && (He.valsB K (He.ga K "AT_REST") restKvs &&
  (etupB K (datAt "AT_REST" "plan" K) && (etupB K (datAt "AT_REST" "refused" K) &&
  (etupB K (kwdAt ("plan_of", none) "refused" K) && etupB K (kwdAt ("written", none) "pairs" K)))))
abbrev R : PySem.W.OpenRow := PySem.W.OpenLaw.row PySem.Challenge.rw_crossedwishes_k38_whole_what_two_ends_ag
abbrev hk : PySem.W.Hook := He.hookX 5 faL fnL tsL [] exB
def ob (s : PySem.W.SharedT) : He.AlX := He.obsX 5 faL fnL tsL [] exB (HandSHeadRun.getT s)
theorem ob_eq (s : PySem.W.SharedT) : ob s = hk.obs s.abs := He.obsX_eq (HandSHeadRun.getT_eq s)
theorem runF (w : World) : HandSHeadRun.RunEq R (PySem.W.view R.prog [66]) hk ob 4000 names (w.withFollow "special-get-raises" false) := by
  intro os
  kernel_rfl
theorem runT (w : World) : HandSHeadRun.RunEq R (PySem.W.view R.prog [66]) hk ob 4000 names (w.withFollow "special-get-raises" true) := by
  intro os
  kernel_rfl
theorem run (w : World) : HandSHeadRun.RunEq R (PySem.W.view R.prog [66]) hk ob 4000 names w :=
  PySem.W.byRow2 "special-get-raises" (P := fun w => HandSHeadRun.RunEq R (PySem.W.view R.prog [66]) hk ob 4000 names w) runF runT w
end CW
/-! part CwD -/
set_option maxRecDepth 100000
set_option maxHeartbeats 4000000
/-! Data: values that stand for trees of None, bools, ints, texts and tuples; what evaluates to what. -/
namespace CW
open PySem PySem.Spec PyProof.Rows L2
/-! ### plain tuples: no dict of their own -/
def PlT (K : PySem.W.Frag) (H : Hp) (a : Addr) (xs : List V) : Prop := (∃ o : Obj, o.dict = Option.none ∧ H a = some (.frz o (.tup xs))) ∨
  ∃ (o : Obj) (its : Array Value) (n : Nat), K.lookup a = some o ∧ o.cls = .type "tuple" ∧ o.dict = Option.none ∧ o.data = .seq its n ∧ its.size ≤ sizeLine ∧ Vals xs its.toList
theorem PlT.sq {K : PySem.W.Frag} {H : Hp} {a : Addr} {xs : List V} (h : PlT K H a xs) : SqT K H a xs := by
  rcases h with ⟨o, _, h⟩ | ⟨o, its, n, h1, h2, _, h3, h4, h5⟩
  · exact .inl (.inr ⟨o, h⟩)
  · exact .inr ⟨o, its, n, h1, h2, h3, h4, h5⟩
theorem PlT.of {K : PySem.W.Frag} {H : Hp} {a : Addr} {xs : List V} {o : Obj} (hd : o.dict = Option.none) (h : H a = some (.frz o (.tup xs))) : PlT K H a xs := .inl ⟨o, hd, h⟩
section
variable {X : Cx}
/-- a new tuple is laid, plain -/
theorem laidT {pins : List (Addr × Obj)} {σ : L2.St} {H : Hp} {s : Shared} {xs : List V} {us : List Value} {h' : Heap} {Q : VK} (I : Inv X pins σ H { s with heap := h' }) (r : Vals xs us) (z : xs.length ≤ sizeLine)
    (q : ∀ p o, H p = none → o.dict = Option.none → Q (.ref p) (upd H p (.frz o (.tup xs)))) : EP X pins σ Q (.ref h'.objs.size) { s with heap := h'.push { cls := .type "tuple", data := .seq us.toArray } } := by
  have I2 : Inv X pins σ (upd H h'.objs.size (.frz { cls := .type "tuple", data := .seq us.toArray } (.tup xs))) { s with heap := h'.push { cls := .type "tuple", data := .seq us.toArray } } :=
    I.laid (t' := s.toks) (fun b o e => Heap.get?_push_of_some _ e) (Nat.le_refl _) ⟨Heap.get?_push_size _ rfl, z, us, r, IsTup.new _ _⟩
  exact ⟨.ref h'.objs.size, _, I2, rfl, q _ _ (I.hok.fresh (Nat.le_refl _)) rfl⟩
def tTupF (t : TA) : TE := fun σ H Q => t σ H fun xs H1 => xs.length ≤ sizeLine ∧ ∀ p o, H1 p = none → o.dict = Option.none → Q (.ref p) (upd H1 p (.frz o (.tup xs)))
theorem pe_tupF {es : List Expr} {t : TA} {pos : Pos} {x1} (h : PA X es t) : PE X (.Tuple es x1 pos) (tTupF t) := by
  refine ⟨fun pins s σ H Q I hq => ?_⟩
  exact wpAny_Tuple_spliced (thn (h.run pos pins s σ H _ I hq) fun us s1 ⟨xs, H1, I1, r, z, q⟩ => ⟨by rw [← r.length]; exact z, laidT (s := s1) (h' := s1.heap) I1 r z q⟩)
theorem call_tupleF : CallR X (.type "tuple") (fun xs H Q => ∃ p ys, xs = [.ref p] ∧ SqL X.K H p ys ∧ ∀ l o, H l = none → o.dict = Option.none → Q (.ref l) (upd H l (.frz o (.tup ys)))) := by
  intro pins s σ H xs us Q I r h
  obtain ⟨p, ys, rfl, hq, q⟩ := h
  obtain ⟨u, rfl, rx⟩ := vals1 r
  cases rx
  obtain ⟨its, r', pl, hz⟩ := I.list hq
  have hlen := r'.length
  refine call_tuple_list pl.isList (fun h' kp => ?_) (by simp only [List.size_toArray] <;> omega)
  exact laidT (s := s) (I.kept (t' := s.toks) kp) r' hz q
def rCatF (K : PySem.W.Frag) : R2 := fun x y H Q => ∃ a b xs ys, x = .ref a ∧ y = .ref b ∧ SqT K H a xs ∧ SqT K H b ys ∧ xs.length + ys.length ≤ sizeLine ∧
  (xs = [] → Q (.ref b) H) ∧ (xs ≠ [] → ys = [] → Q (.ref a) H) ∧ (xs ≠ [] → ys ≠ [] → ∀ p o, H p = none → o.dict = Option.none → Q (.ref p) (upd H p (.frz o (.tup (xs ++ ys)))))
theorem op_catF : OpR X (binaryOp .Add) (rCatF X.K) := by
  intro pins s σ H x y v u Q I rx ry h
  obtain ⟨a, b, xs, ys, rfl, rfl, ha, hb, hz, q0, q1, q2⟩ := h
  cases rx
  cases ry
  obtain ⟨its, r1, p1, _⟩ := I.tuple ha
  obtain ⟨its2, r2, p2, _⟩ := I.tuple hb
  by_cases hx : xs = []
  · subst hx
    cases r1
    exact cat_tup0 p1 p2 ⟨.ref b, H, I, rfl, q0 rfl⟩
  · refine HT.cat_tup p1 p2 (fun z => hx (r1.nil_iff.mp z)) (fun z => ⟨.ref a, H, I, rfl, q1 hx (r2.nil_iff.mp z)⟩) (fun z => ?_) (by rw [← r1.length, ← r2.length]; exact hz)
    exact laidT (s := s) (h' := s.heap) I (r1.append r2) (by rw [List.length_append]; exact hz) (q2 hx fun w => z (r2.nil_iff.mpr w))
def rSlF (K : PySem.W.Frag) : V → Option Int → Option Int → Hp → VK → Prop := fun x lo hi H Q => ∃ a xs, x = .ref a ∧ SqT K H a xs ∧
  (HT.sIx xs.length 0 lo = 0 ∧ HT.sIx xs.length xs.length hi = xs.length → Q (.ref a) H) ∧ (¬ (HT.sIx xs.length 0 lo = 0 ∧ HT.sIx xs.length xs.length hi = xs.length) → ∀ p o, H p = none → o.dict = Option.none → Q (.ref p) (upd H p (.frz o (.tup (cutV xs lo hi)))))
theorem sl_tupF : SlR X (rSlF X.K) := by
  intro pins s σ H x v vl vu lo hi sl Q I rx hs pl pu h
  obtain ⟨a, xs, rfl, hx, q1, q2⟩ := h
  cases rx
  obtain ⟨its, r, ht, hz⟩ := I.tuple hx
  have hlen : its.toArray.size = xs.length := by rw [List.size_toArray]; exact r.length.symm
  refine ⟨"tuple", _, PyProof.Rows.slot_tuple_getitem.lookup, ht.typeIs, ?_⟩
  by_cases hw : HT.sIx xs.length 0 lo = 0 ∧ HT.sIx xs.length xs.length hi = xs.length
  · exact getItem_tuple_whole ht hs pl pu (by rw [hlen]; exact hw) ⟨.ref a, H, I, rfl, q1 hw⟩
  · refine HT.getItem_tuple_cut ht hs pl pu (by rw [hlen]; exact hw) ?_ (by rw [hlen]; exact hz)
    rw [hlen]
    exact laidT (s := s) (h' := s.heap) I ((r.drop (HT.sIx xs.length 0 lo)).take (HT.sIx xs.length xs.length hi - HT.sIx xs.length 0 lo)) (Nat.le_trans (cutV_length xs lo hi) hz) (q2 hw)
end
/-! ### a value is a datum -/
mutual
inductive Tp (K : PySem.W.Frag) (H : Hp) : V → PyData → Prop
  | non : Tp K H .non .none
  | bl (b : Bool) : Tp K H (.bl b) (.bool b)
  | int (i : Int) : Tp K H (.int i) (.int i)
  | str (x : Str) (ok : PyData.strOk x = true) : Tp K H (.str x) (.str x)
  | tup {a : Addr} {xs : List V} {ds : List PyData} : PlT K H a xs → Tps K H xs ds → Tp K H (.ref a) (.tuple ds)
inductive Tps (K : PySem.W.Frag) (H : Hp) : List V → List PyData → Prop
  | nil : Tps K H [] []
  | cons {v : V} {vs : List V} {d : PyData} {ds : List PyData} : Tp K H v d → Tps K H vs ds → Tps K H (v :: vs) (d :: ds)
end
/-- what was tracked is as it was; tuples are as they were -/
def Ex (H H' : Hp) : Prop := ∀ a o, H a = some o → H' a = some o
def Xt (H H' : Hp) : Prop := (∀ a xs, H a = some (.tup xs) → H' a = some (.tup xs)) ∧ ∀ a o xs, H a = some (.frz o (.tup xs)) → H' a = some (.frz o (.tup xs))
theorem Ex.refl (H : Hp) : Ex H H := fun _ _ h => h
theorem Ex.trans {H H1 H2 : Hp} (a : Ex H H1) (b : Ex H1 H2) : Ex H H2 := fun x o h => b x o (a x o h)
theorem Xt.refl (H : Hp) : Xt H H := ⟨fun _ _ h => h, fun _ _ _ h => h⟩
theorem Xt.trans {H H1 H2 : Hp} (a : Xt H H1) (b : Xt H1 H2) : Xt H H2 := ⟨fun x o h => b.1 x o (a.1 x o h), fun x o u h => b.2 x o u (a.2 x o u h)⟩
theorem Ex.xt {H H' : Hp} (e : Ex H H') : Xt H H' := ⟨fun a xs h => e a _ h, fun a o xs h => e a _ h⟩
theorem Ex.new {H : Hp} {p : Addr} {o : HO} (h : H p = none) : Ex H (upd H p o) := fun a u e => by
  rw [upd_ne (ne_of_none e h)]
  exact e
theorem Ex.free {H H' : Hp} {p : Addr} (e : Ex H H') (h : H' p = none) : H p = none := by
  cases q : H p with
  | none => rfl
  | some o => rw [e p o q] at h; cases h
theorem Xt.sq {K : PySem.W.Frag} {H H' : Hp} {a : Addr} {xs : List V} (e : Xt H H') (h : SqT K H a xs) : SqT K H' a xs := by
  rcases h with (h | ⟨o, h⟩) | h
  · exact .inl (.inl (e.1 _ _ h))
  · exact .inl (.inr ⟨o, e.2 _ _ _ h⟩)
  · exact .inr h
theorem Xt.pl {K : PySem.W.Frag} {H H' : Hp} {a : Addr} {xs : List V} (e : Xt H H') (h : PlT K H a xs) : PlT K H' a xs := by
  rcases h with ⟨o, d, h⟩ | h
  · exact .inl ⟨o, d, e.2 _ _ _ h⟩
  · exact .inr h
theorem Ex.sql {K : PySem.W.Frag} {H H' : Hp} {a : Addr} {xs : List V} (e : Ex H H') (h : SqL K H a xs) : SqL K H' a xs := by
  rcases h with (h | ⟨o, h⟩) | h
  · exact .inl (.inl (e _ _ h))
  · exact .inl (.inr ⟨o, e _ _ h⟩)
  · exact .inr h
/-- a mutable object is changed: tuples stand -/
theorem Xt.upd {H : Hp} {a : Addr} {o u : HO} (h : H a = some o) (ht : ∀ xs, o ≠ .tup xs) (hf : ∀ ob u, o ≠ .frz ob u) : Xt H (upd H a u) := by
  refine ⟨fun b xs e => ?_, fun b ob xs e => ?_⟩
  · rw [upd_ne]; exact e
    intro z; subst z; rw [h] at e; exact ht xs (Option.some.inj e)
  · rw [upd_ne]; exact e
    intro z; subst z; rw [h] at e; exact hf ob _ (Option.some.inj e)
mutual
theorem Tp.mono {K : PySem.W.Frag} {H H' : Hp} (e : Xt H H') : ∀ {v : V} {d : PyData}, Tp K H v d → Tp K H' v d
  | _, _, .non => .non
  | _, _, .bl b => .bl b
  | _, _, .int i => .int i
  | _, _, .str x ok => .str x ok
  | _, _, .tup s h => .tup (e.pl s) (Tps.mono e h)
theorem Tps.mono {K : PySem.W.Frag} {H H' : Hp} (e : Xt H H') : ∀ {vs : List V} {ds : List PyData}, Tps K H vs ds → Tps K H' vs ds
  | _, _, .nil => .nil
  | _, _, .cons h t => .cons (Tp.mono e h) (Tps.mono e t)
end
mutual
theorem Tp.dp {K : PySem.W.Frag} {H : Hp} : ∀ {v : V} {d : PyData}, Tp K H v d → Dp K H v d
  | _, _, .non => .non
  | _, _, .bl b => .bl b
  | _, _, .int i => .int i
  | _, _, .str x ok => .str x
  | _, _, .tup s h => .tup s.sq (Tps.dp h)
theorem Tps.dp {K : PySem.W.Frag} {H : Hp} : ∀ {vs : List V} {ds : List PyData}, Tps K H vs ds → DpAll K H vs ds
  | _, _, .nil => .nil
  | _, _, .cons h t => .cons (Tp.dp h) (Tps.dp t)
end
mutual
theorem Tp.lay {K : PySem.W.Frag} {H : Hp} : ∀ {v : V} {d : PyData}, Tp K H v d → d.canLay0 = true
  | _, _, .non => by simp [PyData.canLay0]
  | _, _, .bl b => by simp [PyData.canLay0]
  | _, _, .int i => by simp [PyData.canLay0]
  | _, _, .str x ok => by simp [PyData.canLay0, ok]
  | _, _, .tup s h => by simp only [PyData.canLay0]; exact Tps.lay h
theorem Tps.lay {K : PySem.W.Frag} {H : Hp} : ∀ {vs : List V} {ds : List PyData}, Tps K H vs ds → PyData.canLayAll0 ds = true
  | _, _, .nil => by simp [PyData.canLayAll0]
  | _, _, .cons h t => by simp [PyData.canLayAll0, Tp.lay h, Tps.lay t]
end
theorem Tp.shaped {K : PySem.W.Frag} {H : Hp} {v : V} {d : PyData} (h : Tp K H v d) (hd : d.depth ≤ 64) : SeqAt.shaped d = true := by
  show (d.canLay0 && decide (d.depth ≤ 64)) = true
  rw [h.lay, decide_eq_true hd]; rfl
theorem Tps.len {K : PySem.W.Frag} {H : Hp} : ∀ {vs : List V} {ds : List PyData}, Tps K H vs ds → vs.length = ds.length
  | _, _, .nil => rfl
  | _, _, .cons _ t => congrArg Nat.succ (Tps.len t)
theorem Tps.append {K : PySem.W.Frag} {H : Hp} : ∀ {vs ws : List V} {ds es : List PyData}, Tps K H vs ds → Tps K H ws es → Tps K H (vs ++ ws) (ds ++ es)
  | _, _, _, _, .nil, h => h
  | _, _, _, _, .cons a t, h => .cons a (Tps.append t h)
theorem Tps.get {K : PySem.W.Frag} {H : Hp} : ∀ {vs : List V} {ds : List PyData} {i : Nat} {v : V}, Tps K H vs ds → vs[i]? = some v → ∃ d, ds[i]? = some d ∧ Tp K H v d
  | _, _, _, _, .nil, e => by simp at e
  | _, _, 0, _, .cons a _, e => by simp at e; subst e; exact ⟨_, rfl, a⟩
  | _, _, i + 1, v, .cons _ t, e => by
    obtain ⟨d, h1, h2⟩ := Tps.get (i := i) (v := v) t (by simpa using e)
    exact ⟨d, by simpa using h1, h2⟩
theorem Tps.at {K : PySem.W.Frag} {H : Hp} : ∀ {vs : List V} {ds : List PyData} {i : Nat} {d : PyData}, Tps K H vs ds → ds[i]? = some d → ∃ v, vs[i]? = some v ∧ Tp K H v d
  | _, _, _, _, .nil, e => by simp at e
  | _, _, 0, _, .cons a _, e => by simp at e; subst e; exact ⟨_, rfl, a⟩
  | _, _, i + 1, d, .cons _ t, e => by
    obtain ⟨v, h1, h2⟩ := Tps.at (i := i) (d := d) t (by simpa using e)
    exact ⟨v, by simpa using h1, h2⟩
theorem Tp.tuple_inv {K : PySem.W.Frag} {H : Hp} {v : V} {ds : List PyData} (h : Tp K H v (.tuple ds)) : ∃ a xs, v = .ref a ∧ SqT K H a xs ∧ Tps K H xs ds := by
  cases h with
  | tup s t => exact ⟨_, _, rfl, s.sq, t⟩
theorem Tp.tuple_pl {K : PySem.W.Frag} {H : Hp} {v : V} {ds : List PyData} (h : Tp K H v (.tuple ds)) : ∃ a xs, v = .ref a ∧ PlT K H a xs ∧ Tps K H xs ds := by
  cases h with
  | tup s t => exact ⟨_, _, rfl, s, t⟩
/-- the datum of a tuple that may be not plain -/
def TpZ (zf : Bool) (K : PySem.W.Frag) (H : Hp) (v : V) (d : PyData) : Prop := if zf = true then ∃ a xs ds, v = .ref a ∧ d = .tuple ds ∧ SqT K H a xs ∧ Tps K H xs ds else Tp K H v d
theorem Tp.z {K : PySem.W.Frag} {H : Hp} {v : V} {d : PyData} (h : Tp K H v d) : TpZ false K H v d := by
  unfold TpZ
  rw [if_neg Bool.false_ne_true]
  exact h
theorem TpZ.f {K : PySem.W.Frag} {H : Hp} {v : V} {d : PyData} (h : TpZ false K H v d) : Tp K H v d := by
  unfold TpZ at h
  rwa [if_neg Bool.false_ne_true] at h
theorem TpZ.of {K : PySem.W.Frag} {H : Hp} {a : Addr} {xs : List V} {ds : List PyData} (h : SqT K H a xs) (t : Tps K H xs ds) : TpZ true K H (.ref a) (.tuple ds) := by
  unfold TpZ
  rw [if_pos rfl]
  exact ⟨a, xs, ds, rfl, rfl, h, t⟩
theorem TpZ.mono {zf : Bool} {K : PySem.W.Frag} {H H' : Hp} {v : V} {d : PyData} (e : Xt H H') (h : TpZ zf K H v d) : TpZ zf K H' v d := by
  cases zf with
  | false => exact (h.f.mono e).z
  | true =>
    unfold TpZ at h ⊢
    rw [if_pos rfl] at h ⊢
    obtain ⟨a, xs, ds, h1, h2, h3, h4⟩ := h
    exact ⟨a, xs, ds, h1, h2, e.sq h3, h4.mono e⟩
theorem TpZ.tuple_inv {zf : Bool} {K : PySem.W.Frag} {H : Hp} {v : V} {ds : List PyData} (h : TpZ zf K H v (.tuple ds)) : ∃ a xs, v = .ref a ∧ SqT K H a xs ∧ Tps K H xs ds := by
  cases zf with
  | false =>
    cases h.f with
    | tup s t => exact ⟨_, _, rfl, s.sq, t⟩
  | true =>
    unfold TpZ at h
    rw [if_pos rfl] at h
    obtain ⟨a, xs, ds, h1, h2, h3, h4⟩ := h
    cases h2
    exact ⟨a, xs, h1, h3, h4⟩
theorem Tp.int_inv {K : PySem.W.Frag} {H : Hp} {v : V} {i : Int} (h : Tp K H v (.int i)) : v = .int i := by cases h; rfl
theorem Tp.str_inv {K : PySem.W.Frag} {H : Hp} {v : V} {x : Str} (h : Tp K H v (.str x)) : v = .str x ∧ PyData.strOk x = true := by cases h with | str _ ok => exact ⟨rfl, ok⟩
theorem Tp.bool_inv {K : PySem.W.Frag} {H : Hp} {v : V} {b : Bool} (h : Tp K H v (.bool b)) : v = .bl b := by cases h; rfl
def isNon : PyData → Bool
  | .none => true
  | _ => false
theorem Tp.non_iff {K : PySem.W.Frag} {H : Hp} {v : V} {d : PyData} (h : Tp K H v d) : decide (v = .non) = isNon d := by
  cases h <;> simp [isNon]
/-! ### slots -/
inductive Kd where
  | dat (d : PyData) | obj (a : Addr) | no
def KdOk (K : PySem.W.Frag) (H : Hp) : Kd → Option V → Prop
  | .dat d, o => ∃ v, o = some v ∧ Tp K H v d
  | .obj a, o => o = some (.ref a)
  | .no, _ => True
def Sl (K : PySem.W.Frag) (H : Hp) : L2.St → List Kd → Prop
  | [], [] => True
  | o :: σ, k :: ρ => KdOk K H k o ∧ Sl K H σ ρ
  | _, _ => False
theorem KdOk.mono {K : PySem.W.Frag} {H H' : Hp} (e : Xt H H') : ∀ {k : Kd} {o : Option V}, KdOk K H k o → KdOk K H' k o
  | .dat d, _, ⟨v, h1, h2⟩ => ⟨v, h1, h2.mono e⟩
  | .obj a, _, h => h
  | .no, _, _ => trivial
theorem Sl.mono {K : PySem.W.Frag} {H H' : Hp} (e : Xt H H') : ∀ {σ : L2.St} {ρ : List Kd}, Sl K H σ ρ → Sl K H' σ ρ
  | [], [], _ => trivial
  | _ :: _, _ :: _, ⟨h1, h2⟩ => ⟨h1.mono e, Sl.mono e h2⟩
  | [], _ :: _, h => h.elim
  | _ :: _, [], h => h.elim
theorem Sl.get {K : PySem.W.Frag} {H : Hp} : ∀ {σ : L2.St} {ρ : List Kd} {i : Nat} {k : Kd}, Sl K H σ ρ → ρ[i]? = some k → ∃ o, σ[i]? = some o ∧ KdOk K H k o
  | [], [], _, _, _, e => by simp at e
  | _ :: _, _ :: _, 0, _, ⟨h1, _⟩, e => by simp at e; subst e; exact ⟨_, rfl, h1⟩
  | _ :: σ, _ :: ρ, i + 1, k, ⟨_, h2⟩, e => by
    obtain ⟨o, a, b⟩ := Sl.get (σ := σ) (ρ := ρ) (i := i) (k := k) h2 (by simpa using e)
    exact ⟨o, by simpa using a, b⟩
  | [], _ :: _, _, _, h, _ => h.elim
  | _ :: _, [], _, _, h, _ => h.elim
theorem Sl.set {K : PySem.W.Frag} {H : Hp} {k : Kd} {v : V} (hk : KdOk K H k (some v)) : ∀ {σ : L2.St} {ρ : List Kd} {i : Nat}, Sl K H σ ρ → Sl K H (σ.set i (some v)) (ρ.set i k)
  | [], [], _, h => h
  | _ :: _, _ :: _, 0, ⟨_, h2⟩ => ⟨hk, h2⟩
  | _ :: σ, _ :: ρ, i + 1, ⟨h1, h2⟩ => ⟨h1, Sl.set hk h2⟩
  | [], _ :: _, _, h => h.elim
  | _ :: _, [], _, h => h.elim
theorem Sl.wipe1 {K : PySem.W.Frag} {H : Hp} : ∀ {σ : L2.St} {ρ : List Kd} {i : Nat}, Sl K H σ ρ → Sl K H (σ.set i none) (ρ.set i .no)
  | [], [], _, h => h
  | _ :: _, _ :: _, 0, ⟨_, h2⟩ => ⟨trivial, h2⟩
  | _ :: σ, _ :: ρ, i + 1, ⟨h1, h2⟩ => ⟨h1, Sl.wipe1 h2⟩
  | [], _ :: _, _, h => h.elim
  | _ :: _, [], _, h => h.elim
def wipeK (ρ : List Kd) : List Nat → List Kd
  | [] => ρ
  | v :: vs => (wipeK ρ vs).set v .no
theorem Sl.wipe {K : PySem.W.Frag} {H : Hp} {σ : L2.St} {ρ : List Kd} (h : Sl K H σ ρ) : ∀ vs : List Nat, Sl K H (L2.wipe σ vs) (wipeK ρ vs)
  | [] => h
  | v :: vs => (Sl.wipe h vs).wipe1
/-! ### what a run must show (the readings of their own code) -/
structure RE (X : Cx) (e : Expr) (σ : L2.St) (H : Hp) (Q : VK) : Prop where
  run : ∀ pins s, Inv X pins σ H s → wpAny (model X.prog X.w) X.A (eval e X.env) (EP X pins σ Q) X.xe s
structure RT (X : Cx) (e : Expr) (σ : L2.St) (H : Hp) (Q : Bool → Hp → Prop) : Prop where
  run : ∀ pins s, Inv X pins σ H s → wpAny (model X.prog X.w) X.A (isTrue e X.env (eval e X.env)) (TP X pins σ Q) X.xe s
structure RW (X : Cx) (e : Expr) (σ : L2.St) (H : Hp) (Q : Bool → Hp → Prop) : Prop where
  run : ∀ (whole : Sem Value) pins s, Inv X pins σ H s → wpAny (model X.prog X.w) X.A (isTrue e X.env whole) (TP X pins σ Q) X.xe s
structure RA (X : Cx) (es : List Expr) (σ : L2.St) (H : Hp) (Q : List V → Hp → Prop) : Prop where
  run : ∀ pos pins s, Inv X pins σ H s → wpAny (model X.prog X.w) X.A (spliced (backTo pos (starEach es X.env))) (AP X pins σ Q) X.xe s
structure RS (X : Cx) (st : Stmt) (D : Ends) (σ : L2.St) (H : Hp) : Prop where
  run : ∀ pins s, Inv X pins σ H s → wpAny (model X.prog X.w) X.A (exec st X.env) (SP X pins D) X.xe s
structure RSs (X : Cx) (st : List Stmt) (D : Ends) (σ : L2.St) (H : Hp) : Prop where
  run : ∀ pins s, Inv X pins σ H s → wpAny (model X.prog X.w) X.A (execs st X.env) (SP X pins D) X.xe s
theorem pe_re {X : Cx} {e : Expr} : PE X e (RE X e) := ⟨fun pins s _ _ _ I h => h.run pins s I⟩
theorem pt_rt {X : Cx} {e : Expr} : PT X e (RT X e) := ⟨fun pins s _ _ _ I h => h.run pins s I⟩
theorem pw_rw {X : Cx} {e : Expr} : PW X e (RW X e) := ⟨fun wh pins s _ _ _ I h => h.run wh pins s I⟩
theorem pa_ra {X : Cx} {es : List Expr} : PA X es (RA X es) := ⟨fun pos pins s _ _ _ I h => h.run pos pins s I⟩
theorem ps_rs {X : Cx} {st : Stmt} : PS X st (RS X st) := ⟨fun pins s _ _ _ I h => h.run pins s I⟩
theorem pss_rss {X : Cx} {st : List Stmt} : PSs X st (RSs X st) := ⟨fun pins s _ _ _ I h => h.run pins s I⟩
theorem re_of {X : Cx} {e : Expr} {t : TE} {σ : L2.St} {H : Hp} {Q : VK} (p : PE X e t) (h : t σ H Q) : RE X e σ H Q := ⟨fun pins s I => p.run pins s σ H Q I h⟩
theorem rt_of {X : Cx} {e : Expr} {t : TT} {σ : L2.St} {H : Hp} {Q : Bool → Hp → Prop} (p : PT X e t) (h : t σ H Q) : RT X e σ H Q := ⟨fun pins s I => p.run pins s σ H Q I h⟩
theorem rw_of {X : Cx} {e : Expr} {t : TT} {σ : L2.St} {H : Hp} {Q : Bool → Hp → Prop} (p : PW X e t) (h : t σ H Q) : RW X e σ H Q := ⟨fun wh pins s I => p.run wh pins s σ H Q I h⟩
theorem ra_of {X : Cx} {es : List Expr} {t : TA} {σ : L2.St} {H : Hp} {Q : List V → Hp → Prop} (p : PA X es t) (h : t σ H Q) : RA X es σ H Q := ⟨fun pos pins s I => p.run pos pins s σ H Q I h⟩
theorem rs_of {X : Cx} {st : Stmt} {t : TS} {σ : L2.St} {H : Hp} {D : Ends} (p : PS X st t) (h : t D σ H) : RS X st D σ H := ⟨fun pins s I => p.run pins s σ H D I h⟩
theorem rss_of {X : Cx} {st : List Stmt} {t : TS} {σ : L2.St} {H : Hp} {D : Ends} (p : PSs X st t) (h : t D σ H) : RSs X st D σ H := ⟨fun pins s I => p.run pins s σ H D I h⟩
/-! ### evaluates to -/
/-- e comes to the datum d; to a new list of the data ds; to the object at a; the test e to b; the arguments to data -/
def DE (X : Cx) (e : Expr) (ρ : List Kd) (H : Hp) (d : PyData) : Prop := ∀ σ H1, Sl X.K H1 σ ρ → Ex H H1 → ∀ Q : VK, (∀ v H2, Ex H1 H2 → Tp X.K H2 v d → Q v H2) → RE X e σ H1 Q
def LE (X : Cx) (e : Expr) (ρ : List Kd) (H : Hp) (ds : List PyData) : Prop := ∀ σ H1, Sl X.K H1 σ ρ → Ex H H1 → ∀ Q : VK, (∀ p xs H2, H1 p = none → Ex H1 H2 → H2 p = some (.lst xs) → Tps X.K H2 xs ds → Q (.ref p) H2) → RE X e σ H1 Q
def OE (X : Cx) (e : Expr) (ρ : List Kd) (H : Hp) (a : Addr) : Prop := ∀ σ H1, Sl X.K H1 σ ρ → Ex H H1 → ∀ Q : VK, Q (.ref a) H1 → RE X e σ H1 Q
def BE (X : Cx) (e : Expr) (ρ : List Kd) (H : Hp) (b : Bool) : Prop := ∀ σ H1, Sl X.K H1 σ ρ → Ex H H1 → ∀ Q : Bool → Hp → Prop, (∀ H2, Ex H1 H2 → Q b H2) → RT X e σ H1 Q
def WE (X : Cx) (e : Expr) (ρ : List Kd) (H : Hp) (b : Bool) : Prop := ∀ σ H1, Sl X.K H1 σ ρ → Ex H H1 → ∀ Q : Bool → Hp → Prop, (∀ H2, Ex H1 H2 → Q b H2) → RW X e σ H1 Q
def AE (X : Cx) (es : List Expr) (ρ : List Kd) (H : Hp) (ds : List PyData) : Prop := ∀ σ H1, Sl X.K H1 σ ρ → Ex H H1 → ∀ Q : List V → Hp → Prop, (∀ vs H2, Ex H1 H2 → Tps X.K H2 vs ds → Q vs H2) → RA X es σ H1 Q
/-- the arguments' values, each by what is known of it -/
def KE' (K : PySem.W.Frag) (H : Hp) : List V → List Kd → Prop
  | [], [] => True
  | v :: vs, k :: ks => KdOk K H k (some v) ∧ KE' K H vs ks
  | _, _ => False
def AK (X : Cx) (es : List Expr) (ρ : List Kd) (H : Hp) (ks : List Kd) : Prop := ∀ σ H1, Sl X.K H1 σ ρ → Ex H H1 → ∀ Q : List V → Hp → Prop, (∀ vs H2, Ex H1 H2 → KE' X.K H2 vs ks → Q vs H2) → RA X es σ H1 Q
theorem KE'.mono {K : PySem.W.Frag} {H H' : Hp} (e : Xt H H') : ∀ {vs : List V} {ks : List Kd}, KE' K H vs ks → KE' K H' vs ks
  | [], [], _ => trivial
  | _ :: _, _ :: _, ⟨a, b⟩ => ⟨a.mono e, KE'.mono e b⟩
  | [], _ :: _, h => h.elim
  | _ :: _, [], h => h.elim
section
variable {X : Cx} {e a b c o : Expr} {es : List Expr} {ρ : List Kd} {H H' : Hp} {d d1 d2 : PyData} {ds : List PyData} {pos : Pos}
theorem DE.mono (x : Ex H H') (h : DE X e ρ H d) : DE X e ρ H' d := fun σ H1 s y => h σ H1 s (x.trans y)
theorem LE.mono (x : Ex H H') (h : LE X e ρ H ds) : LE X e ρ H' ds := fun σ H1 s y => h σ H1 s (x.trans y)
theorem DE.to (h : DE X e ρ H d1) (q : d1 = d2) : DE X e ρ H d2 := q ▸ h
theorem BE.to {b1 b2 : Bool} (h : BE X e ρ H b1) (q : b1 = b2) : BE X e ρ H b2 := q ▸ h
theorem LE.to {ds1 ds2 : List PyData} (h : LE X e ρ H ds1) (q : ds1 = ds2) : LE X e ρ H ds2 := q ▸ h
theorem de_name (i : Nat) {x : Str} (hρ : ρ[i]? = some (.dat d)) (hN : X.N[i]? = some x := by rfl) (hv : Vis X.env.scope x := by first | exact Or.inl rfl | exact Or.inr (Or.inl rfl) | exact Or.inr (Or.inr rfl))
    (hd : (x == ("__debug__" : Str)) = false := by decide) (hcd : (x == ("__classdict__" : Str)) = false := by decide) : DE X (.Name x pos) ρ H d := fun σ H1 s _ Q q => by
  obtain ⟨o, e1, v, rfl, t⟩ := s.get hρ
  exact re_of (pe_var hN hv hd hcd) ⟨v, e1, q v H1 (Ex.refl _) t⟩
theorem oe_name (i : Nat) {x : Str} {a : Addr} (hρ : ρ[i]? = some (.obj a)) (hN : X.N[i]? = some x := by rfl) (hv : Vis X.env.scope x := by first | exact Or.inl rfl | exact Or.inr (Or.inl rfl) | exact Or.inr (Or.inr rfl))
    (hd : (x == ("__debug__" : Str)) = false := by decide) (hcd : (x == ("__classdict__" : Str)) = false := by decide) : OE X (.Name x pos) ρ H a := fun σ H1 s _ Q q => by
  obtain ⟨o, e1, h⟩ := s.get hρ
  subst h
  exact re_of (pe_var hN hv hd hcd) ⟨_, e1, q⟩
theorem de_int {i : Int} {j} : DE X (.Constant (.int i) j pos) ρ H (.int i) := fun σ H1 _ _ Q q => re_of pe_int (q _ _ (Ex.refl _) (.int i))
theorem de_bl {i : Bool} {j} : DE X (.Constant (.bool i) j pos) ρ H (.bool i) := fun σ H1 _ _ Q q => re_of pe_bl (q _ _ (Ex.refl _) (.bl i))
theorem de_non {j} : DE X (.Constant .none j pos) ρ H .none := fun σ H1 _ _ Q q => re_of pe_non (q _ _ (Ex.refl _) .non)
theorem de_str {x : Str} {j} (ok : PyData.strOk x = true := by decide +kernel) : DE X (.Constant (.str x) j pos) ρ H (.str x) := fun σ H1 _ _ Q q => re_of pe_str (q _ _ (Ex.refl _) (.str x ok))
theorem de_glob {x : Str} {v : V} {u : Value} (hg : Gl X x) (hm : X.mg x = some u) (r : RelV v u) (t : ∀ H, Tp X.K H v d) (hd : (x == ("__debug__" : Str)) = false := by decide) : DE X (.Name x pos) ρ H d :=
  fun σ H1 _ _ Q q => re_of (pe_glob hg hm r hd) (q _ _ (Ex.refl _) (t _))
theorem ae_nil : AE X [] ρ H [] := fun σ H1 _ _ Q q => ra_of pa_nil (q _ _ (Ex.refl _) .nil)
theorem ae_cons (h : DE X e ρ H d) (t : AE X es ρ H ds) (hs : starEach (e :: es) X.env = (false, eval e X.env) :: starEach es X.env := by rfl) : AE X (e :: es) ρ H (d :: ds) := fun σ H1 s x Q q =>
  ra_of (pa_cons pe_re pa_ra hs) (h σ H1 s x _ fun v H2 x2 t1 => t σ H2 (s.mono x2.xt) (x.trans x2) _ fun vs H3 x3 t2 => q _ H3 (x2.trans x3) (.cons (t1.mono x3.xt) t2))
theorem ak_nil : AK X [] ρ H [] := fun σ H1 _ _ Q q => ra_of pa_nil (q _ _ (Ex.refl _) trivial)
theorem ak_dat {ks : List Kd} (h : DE X e ρ H d) (t : AK X es ρ H ks) (hs : starEach (e :: es) X.env = (false, eval e X.env) :: starEach es X.env := by rfl) : AK X (e :: es) ρ H (.dat d :: ks) := fun σ H1 s x Q q =>
  ra_of (pa_cons pe_re pa_ra hs) (h σ H1 s x _ fun v H2 x2 t1 => t σ H2 (s.mono x2.xt) (x.trans x2) _ fun vs H3 x3 t2 => q _ H3 (x2.trans x3) ⟨⟨v, rfl, t1.mono x3.xt⟩, t2⟩)
theorem ak_obj {ks : List Kd} {a : Addr} (h : OE X e ρ H a) (t : AK X es ρ H ks) (hs : starEach (e :: es) X.env = (false, eval e X.env) :: starEach es X.env := by rfl) : AK X (e :: es) ρ H (.obj a :: ks) := fun σ H1 s x Q q =>
  ra_of (pa_cons pe_re pa_ra hs) (h σ H1 s x _ (t σ H1 s x _ fun vs H3 x3 t2 => q _ H3 x3 ⟨rfl, t2⟩))
theorem de_tup {k} (h : AE X es ρ H ds) (hl : ds.length ≤ sizeLine := by exact Nat.le_of_ble_eq_true rfl) : DE X (.Tuple es k pos) ρ H (.tuple ds) := fun σ H1 s x Q q =>
  re_of (pe_tupF pa_ra) (h σ H1 s x _ fun vs H2 x2 t => ⟨by rw [t.len]; exact hl, fun p o hp ho => q _ _ (x2.trans (Ex.new hp)) (.tup (PlT.of ho upd_same) (t.mono (Ex.new hp).xt))⟩)
theorem le_lst (h : AE X es ρ H ds) (hl : ds.length ≤ sizeLine := by exact Nat.le_of_ble_eq_true rfl) : LE X (.List es pos) ρ H ds := fun σ H1 s x Q q =>
  re_of (pe_lst pa_ra) (h σ H1 s x _ fun vs H2 x2 t => ⟨by rw [t.len]; exact hl, fun p hp => q _ _ _ (x2.free hp) (x2.trans (Ex.new hp)) upd_same (t.mono (Ex.new hp).xt)⟩)
/-- two-place operations -/
def OpD (X : Cx) (f : Value → Value → Sem Value) (d1 d2 d : PyData) : Prop := ∃ r, OpR X f r ∧ ∀ H x y, Tp X.K H x d1 → Tp X.K H y d2 → ∀ Q : VK, (∀ v H', Ex H H' → Tp X.K H' v d → Q v H') → r x y H Q
theorem de_bin {op : Operator} (o : OpD X (binaryOp op) d1 d2 d) (h1 : DE X a ρ H d1) (h2 : DE X b ρ H d2) : DE X (.BinOp a op b pos) ρ H d := fun σ H1 s x Q q => by
  obtain ⟨r, hr, h⟩ := o
  exact re_of (pe_op hr pe_re pe_re) (h1 σ H1 s x _ fun v H2 x2 t1 => h2 σ H2 (s.mono x2.xt) (x.trans x2) _ fun w H3 x3 t2 => h H3 v w (t1.mono x3.xt) t2 _ fun z H4 x4 t => q z H4 ((x2.trans x3).trans x4) t)
theorem de_cmp {op : CmpOp} (o : OpD X (compareOp op) d1 d2 d) (h1 : DE X a ρ H d1) (h2 : DE X b ρ H d2) (hm : behindInMarks op b = false := by first | exact nomark _ | rfl | with_unfolding_all rfl) : DE X (.Compare a [op] [b] pos) ρ H d := fun σ H1 s x Q q => by
  obtain ⟨r, hr, h⟩ := o
  exact re_of (pe_cmpR hr pe_re pe_re hm) (h1 σ H1 s x _ fun v H2 x2 t1 => h2 σ H2 (s.mono x2.xt) (x.trans x2) _ fun w H3 x3 t2 => h H3 v w (t1.mono x3.xt) t2 _ fun z H4 x4 t => q z H4 ((x2.trans x3).trans x4) t)
theorem be_cmp {op : CmpOp} {k : Bool} (o : OpD X (compareOp op) d1 d2 (.bool k)) (h1 : DE X a ρ H d1) (h2 : DE X b ρ H d2) (hm : behindInMarks op b = false := by first | exact nomark _ | rfl | with_unfolding_all rfl) : BE X (.Compare a [op] [b] pos) ρ H k := fun σ H1 s x Q q => by
  obtain ⟨r, hr, h⟩ := o
  exact rt_of (pt_cmpR hr pe_re pe_re hm) (h1 σ H1 s x _ fun v H2 x2 t1 => h2 σ H2 (s.mono x2.xt) (x.trans x2) _ fun w H3 x3 t2 => h H3 v w (t1.mono x3.xt) t2 _ fun z H4 x4 t => ⟨k, t.bool_inv, q H4 ((x2.trans x3).trans x4)⟩)
theorem de_chain {op op' : CmpOp} {k k' : Bool} (o : OpD X (compareOp op) d d1 (.bool k)) (o' : k = true → OpD X (compareOp op') d1 d2 (.bool k')) (hn : ∃ r, OpR X (compareOp op') r) (h1 : DE X a ρ H d) (h2 : DE X b ρ H d1) (h3 : DE X c ρ H d2)
    (hm : lastMarks [op, op'] [b, c] = false := by with_unfolding_all rfl) : DE X (.Compare a [op, op'] [b, c] pos) ρ H (.bool (k && k')) := fun σ H1 s x Q q => by
  obtain ⟨r, hr, h⟩ := o
  cases k with
  | false =>
    obtain ⟨r', hr'⟩ := hn
    refine re_of (pe_chain hr hr' pe_re pe_re pe_re hm) ?_
    exact h1 σ H1 s x _ fun v H2 x2 t1 => h2 σ H2 (s.mono x2.xt) (x.trans x2) _ fun w H3 x3 t2 => h H3 v w (t1.mono x3.xt) t2 _ fun z H4 x4 t => ⟨false, t.bool_inv, q _ H4 ((x2.trans x3).trans x4) (.bl _)⟩
  | true =>
    obtain ⟨r', hr', h'⟩ := o' rfl
    refine re_of (pe_chain hr hr' pe_re pe_re pe_re hm) ?_
    exact h1 σ H1 s x _ fun v H2 x2 t1 => h2 σ H2 (s.mono x2.xt) (x.trans x2) _ fun w H3 x3 t2 => h H3 v w (t1.mono x3.xt) t2 _ fun z H4 x4 t => ⟨true, t.bool_inv,
      h3 σ H4 (s.mono ((x2.trans x3).trans x4).xt) (((x.trans x2).trans x3).trans x4) _ fun u H5 x5 t3 => h' H5 w u (t2.mono (x4.trans x5).xt) t3 _ fun y H6 x6 t4 => q y H6 (((x2.trans x3).trans x4).trans (x5.trans x6)) t4⟩
end
end CW
/-! part CwD2 -/
set_option maxRecDepth 100000
set_option maxHeartbeats 4000000
/-! Data: operators, built-ins, calls, statements. -/
namespace CW
open PySem PySem.Spec PyProof.Rows L2
section
variable {X : Cx} {e a b c o : Expr} {es rest : List Expr} {ρ : List Kd} {H H' : Hp} {d d1 d2 : PyData} {ds : List PyData} {pos pos' : Pos}
/-! ### operators -/
theorem opd_eq {j : Nat} (hr : Room j X.A) (h1 : d1.depth ≤ 64) (h2 : d2.depth ≤ 64) : OpD X (compareOp .Eq) d1 d2 (.bool (PyData.eqv d1 d2)) :=
  ⟨rEqD X.K, op_eqD hr.units, fun H x y t1 t2 Q q => ⟨d1, d2, t1.dp, t2.dp, t1.shaped h1, t2.shaped h2, q _ _ (Ex.refl _) (.bl _)⟩⟩
theorem opd_ne {j : Nat} (hr : Room j X.A) (h1 : d1.depth ≤ 64) (h2 : d2.depth ≤ 64) : OpD X (compareOp .NotEq) d1 d2 (.bool (!PyData.eqv d1 d2)) :=
  ⟨rNeD X.K, op_neD hr.units, fun H x y t1 t2 Q q => ⟨d1, d2, t1.dp, t2.dp, t1.shaped h1, t2.shaped h2, q _ _ (Ex.refl _) (.bl _)⟩⟩
theorem opd_isN : OpD X (compareOp .Is) d .none (.bool (isNon d)) :=
  ⟨_, op_isN, fun H x y t1 t2 Q q => ⟨by cases t2; rfl, by rw [t1.non_iff]; exact q _ _ (Ex.refl _) (.bl _)⟩⟩
theorem opd_notN : OpD X (compareOp .IsNot) d .none (.bool (!isNon d)) :=
  ⟨_, op_notN, fun H x y t1 t2 Q q => ⟨by cases t2; rfl, by rw [t1.non_iff]; exact q _ _ (Ex.refl _) (.bl _)⟩⟩
theorem opd_int {f : Value → Value → Sem Value} {g : Int → Int → V} {i j : Int} (h : OpR X f (rI0 g)) (t : ∀ H, Tp X.K H (g i j) d) : OpD X f (.int i) (.int j) d :=
  ⟨_, h, fun H x y t1 t2 Q q => ⟨i, j, t1.int_inv, t2.int_inv, q _ _ (Ex.refl _) (t _)⟩⟩
theorem opd_intC {f : Value → Value → Sem Value} {C : Int → Int → Prop} {g : Int → Int → V} {i j : Int} (h : OpR X f (rI C g)) (c : C i j) (t : ∀ H, Tp X.K H (g i j) d) : OpD X f (.int i) (.int j) d :=
  ⟨_, h, fun H x y t1 t2 Q q => ⟨i, j, t1.int_inv, t2.int_inv, c, q _ _ (Ex.refl _) (t _)⟩⟩
theorem opd_add {i j : Int} : OpD X (binaryOp .Add) (.int i) (.int j) (.int (i + j)) := opd_int op_add fun _ => .int _
theorem opd_sub {i j : Int} : OpD X (binaryOp .Sub) (.int i) (.int j) (.int (i - j)) := opd_int op_sub fun _ => .int _
theorem opd_lt {i j : Int} : OpD X (compareOp .Lt) (.int i) (.int j) (.bool (decide (i < j))) := opd_int op_lt fun _ => .bl _
theorem opd_le {i j : Int} : OpD X (compareOp .LtE) (.int i) (.int j) (.bool (decide (i ≤ j))) := opd_int op_le fun _ => .bl _
theorem opd_gt {i j : Int} : OpD X (compareOp .Gt) (.int i) (.int j) (.bool (decide (j < i))) := opd_int op_gt fun _ => .bl _
theorem opd_ge {i j : Int} : OpD X (compareOp .GtE) (.int i) (.int j) (.bool (decide (j ≤ i))) := opd_int op_ge fun _ => .bl _
theorem room_in {d ds : PyData} {A : Around} (sd : d.depth ≤ 64) {j : Nat} (hr : Room j A) {n : Nat} : A.units + 1 + min n d.depth < cLine := by
  have := hr.un
  omega
def rInT (K : PySem.W.Frag) (d : PyData) (ds : List PyData) : R2 := fun x y H Q => Tp K H x d ∧ Tp K H y (.tuple ds) ∧ Q (.bl (ds.any fun z => PyData.eqv z d)) H
def rNotInT (K : PySem.W.Frag) (d : PyData) (ds : List PyData) : R2 := fun x y H Q => Tp K H x d ∧ Tp K H y (.tuple ds) ∧ Q (.bl (!ds.any fun z => PyData.eqv z d)) H
theorem opd_in {j : Nat} (hr : Room j X.A) (h1 : d.depth ≤ 64) : OpD X (compareOp .In) d (.tuple ds) (.bool (ds.any fun z => PyData.eqv z d)) := by
  refine ⟨rInT X.K d ds, ?_, fun H x y t1 t2 Q q => ⟨t1, t2, q _ _ (Ex.refl _) (.bl _)⟩⟩
  intro pins s σ H x y v u Q I rx ry h
  obtain ⟨t1, t2, q⟩ := h
  obtain ⟨as, r1⟩ := Dp.reads I d x v t1.dp rx
  obtain ⟨bs, r2⟩ := Dp.reads I (.tuple ds) y u t2.dp ry
  have l2 := t2.lay
  simp only [PyData.canLay0] at l2
  exact SeqAt.in_tuple_reads r2 r1 l2 t1.lay (room_in (ds := d) h1 hr) ⟨.bl _, H, I, rfl, q⟩
theorem opd_notIn {j : Nat} (hr : Room j X.A) (h1 : d.depth ≤ 64) : OpD X (compareOp .NotIn) d (.tuple ds) (.bool (!ds.any fun z => PyData.eqv z d)) := by
  refine ⟨rNotInT X.K d ds, ?_, fun H x y t1 t2 Q q => ⟨t1, t2, q _ _ (Ex.refl _) (.bl _)⟩⟩
  intro pins s σ H x y v u Q I rx ry h
  obtain ⟨t1, t2, q⟩ := h
  obtain ⟨as, r1⟩ := Dp.reads I d x v t1.dp rx
  obtain ⟨bs, r2⟩ := Dp.reads I (.tuple ds) y u t2.dp ry
  have l2 := t2.lay
  simp only [PyData.canLay0] at l2
  exact SeqAt.notIn_tuple_reads r2 r1 l2 t1.lay (room_in (ds := d) h1 hr) ⟨.bl _, H, I, rfl, q⟩
theorem opd_cat {es : List PyData} (hl : ds.length + es.length ≤ sizeLine) : OpD X (binaryOp .Add) (.tuple ds) (.tuple es) (.tuple (ds ++ es)) := by
  refine ⟨rCatF X.K, op_catF, fun H x y t1 t2 Q q => ?_⟩
  obtain ⟨a, xs, rfl, s1, u1⟩ := t1.tuple_pl
  obtain ⟨b, ys, rfl, s2, u2⟩ := t2.tuple_pl
  refine ⟨a, b, xs, ys, rfl, rfl, s1.sq, s2.sq, by rw [u1.len, u2.len]; exact hl, fun h => ?_, fun _ h => ?_, fun _ _ p o hp ho => ?_⟩
  · subst h
    cases u1
    exact q _ _ (Ex.refl _) (.tup s2 u2)
  · subst h
    cases u2
    rw [List.append_nil] at q
    exact q _ _ (Ex.refl _) (.tup s1 u1)
  · exact q _ _ (Ex.new hp) (.tup (PlT.of ho upd_same) ((u1.append u2).mono (Ex.new hp).xt))
/-- t[i], i written -/
theorem de_ixT {i : Nat} {v : Int} (hv : v = (i : Int)) (h1 : DE X a ρ H (.tuple ds)) (h2 : DE X b ρ H (.int v)) (hd : ds[i]? = some d) (hs : PlainIx b := by exact fun _ _ => rfl) : DE X (.Subscript a b pos) ρ H d := fun σ H1 s x Q q =>
  re_of (pe_ix ix_tup pe_re pe_re hs) (h1 σ H1 s x _ fun w H2 x2 t1 => h2 σ H2 (s.mono x2.xt) (x.trans x2) _ fun u H3 x3 t2 => by
    obtain ⟨p, xs, rfl, sq, ts⟩ := (t1.mono x3.xt).tuple_inv
    obtain ⟨z, hz, tz⟩ := ts.at hd
    exact ⟨p, xs, v, z, rfl, t2.int_inv, sq, by rw [hv]; exact atI_nat hz, q z H3 (x2.trans x3) tz⟩)
/-! ### dicts -/
/-- d[k], d a dict at an address -/
theorem de_dget {j : Nat} (hr : Room j X.A) {p : Addr} {kvs : List (Key × V)} {k : Str} {v : V} (h1 : OE X a ρ H p) (h2 : DE X b ρ H (.str k)) (hH : H p = some (.dK kvs)) (hk : valV kvs (.inr k) = some v) (t : Tp X.K H v d)
    (hs : NoSl b := by exact fun _ _ => rfl) : DE X (.Subscript a b pos) ρ H d := fun σ H1 s x Q q =>
  re_of (pe_dget (hu_of hr) pe_re pe_re hs) (h1 σ H1 s x _ (h2 σ H1 s x _ fun u H3 x3 t2 => by
    obtain ⟨rfl, _⟩ := t2.str_inv
    exact ⟨p, v, rfl, by rw [← hk]; exact DGet.k (k := .inr k) (x3 _ _ (x _ _ hH)), q v H3 x3 (t.mono (x.trans x3).xt)⟩))
/-! ### truth, and, or -/
theorem be_val {k : Bool} (h : DE X e ρ H (.bool k)) (he : ∀ whole, isTrue e X.env whole = (do let v ← whole; standAt e.pos; holding [v] (truthy v)) := by intro _; rfl) : BE X e ρ H k := fun σ H1 s x Q q =>
  rt_of (pt_val pe_re he) (h σ H1 s x _ fun v H2 x2 t => ⟨k, t.bool_inv, q H2 x2⟩)
theorem we_and1 {k : Bool} (h : BE X a ρ H k) : WE X (.BoolOp .And [a] pos) ρ H k := fun σ H1 s x Q q => rw_of (pw_and1 pt_rt) (h σ H1 s x Q q)
theorem we_or1 {k : Bool} (h : BE X a ρ H k) : WE X (.BoolOp .Or [a] pos) ρ H k := fun σ H1 s x Q q => rw_of (pw_or1 pt_rt) (h σ H1 s x Q q)
theorem we_and {k k' : Bool} (h : BE X a ρ H k) (h' : k = true → WE X (.BoolOp .And (b :: rest) pos) ρ H k') : WE X (.BoolOp .And (a :: b :: rest) pos) ρ H (k && k') := fun σ H1 s x Q q =>
  rw_of (pw_and pt_rt pw_rw) (h σ H1 s x _ fun H2 x2 => by
    cases k with
    | false => exact q H2 x2
    | true => exact h' rfl σ H2 (s.mono x2.xt) (x.trans x2) Q fun H3 x3 => q H3 (x2.trans x3))
theorem we_or {k k' : Bool} (h : BE X a ρ H k) (h' : k = false → WE X (.BoolOp .Or (b :: rest) pos) ρ H k') : WE X (.BoolOp .Or (a :: b :: rest) pos) ρ H (k || k') := fun σ H1 s x Q q =>
  rw_of (pw_or pt_rt pw_rw) (h σ H1 s x _ fun H2 x2 => by
    cases k with
    | true => exact q H2 x2
    | false => exact h' rfl σ H2 (s.mono x2.xt) (x.trans x2) Q fun H3 x3 => q H3 (x2.trans x3))
theorem be_w {k : Bool} (h : WE X e ρ H k) : BE X e ρ H k := fun σ H1 s x Q q => rt_of (pw_rw (X := X) (e := e)).pt (h σ H1 s x Q q)
theorem be_not {k : Bool} (h : BE X a ρ H k) : BE X (.UnaryOp .Not a pos) ρ H (!k) := fun σ H1 s x Q q => rt_of (pt_not pt_rt) (h σ H1 s x _ fun H2 x2 => q H2 x2)
theorem de_one {op} (h : DE X a ρ H d) : DE X (.BoolOp op [a] pos) ρ H d := fun σ H1 s x Q q => re_of (pe_one pe_re) (h σ H1 s x Q q)
theorem de_and {k k' : Bool} (h : DE X a ρ H (.bool k)) (h' : k = true → DE X (.BoolOp .And (b :: rest) pos) ρ H (.bool k')) : DE X (.BoolOp .And (a :: b :: rest) pos) ρ H (.bool (k && k')) := fun σ H1 s x Q q =>
  re_of (pe_and pe_re pe_re) (h σ H1 s x _ fun v H2 x2 t => ⟨k, t.bool_inv, by
    cases k with
    | false => exact q _ H2 x2 (.bl _)
    | true => exact h' rfl σ H2 (s.mono x2.xt) (x.trans x2) Q fun w H3 x3 t3 => q w H3 (x2.trans x3) t3⟩)
theorem de_or {k k' : Bool} (h : DE X a ρ H (.bool k)) (h' : k = false → DE X (.BoolOp .Or (b :: rest) pos) ρ H (.bool k')) : DE X (.BoolOp .Or (a :: b :: rest) pos) ρ H (.bool (k || k')) := fun σ H1 s x Q q =>
  re_of (pe_or pe_re pe_re) (h σ H1 s x _ fun v H2 x2 t => ⟨k, t.bool_inv, by
    cases k with
    | true => exact q _ H2 x2 (.bl _)
    | false => exact h' rfl σ H2 (s.mono x2.xt) (x.trans x2) Q fun w H3 x3 t3 => q w H3 (x2.trans x3) t3⟩)
theorem de_not {k : Bool} (h : DE X a ρ H (.bool k)) : DE X (.UnaryOp .Not a pos) ρ H (.bool (!k)) := fun σ H1 s x Q q =>
  re_of (pe_not pe_re) (h σ H1 s x _ fun v H2 x2 t => ⟨k, t.bool_inv, q _ H2 x2 (.bl _)⟩)
theorem de_if {k : Bool} (h : BE X c ρ H k) (h1 : k = true → DE X a ρ H d) (h2 : k = false → DE X b ρ H d) : DE X (.IfExp c a b pos) ρ H d := fun σ H1 s x Q q =>
  re_of (pe_ifExp pt_rt pe_re pe_re) (h σ H1 s x _ fun H2 x2 => by
    cases k with
    | true => exact h1 rfl σ H2 (s.mono x2.xt) (x.trans x2) Q fun v H3 x3 t => q v H3 (x2.trans x3) t
    | false => exact h2 rfl σ H2 (s.mono x2.xt) (x.trans x2) Q fun v H3 x3 t => q v H3 (x2.trans x3) t)
theorem le_if {k : Bool} (h : BE X c ρ H k) (h1 : k = true → LE X a ρ H ds) (h2 : k = false → LE X b ρ H ds) : LE X (.IfExp c a b pos) ρ H ds := fun σ H1 s x Q q =>
  re_of (pe_ifExp pt_rt pe_re pe_re) (h σ H1 s x _ fun H2 x2 => by
    cases k with
    | true => exact h1 rfl σ H2 (s.mono x2.xt) (x.trans x2) Q fun p xs H3 hp x3 e t => q p xs H3 (x2.free hp) (x2.trans x3) e t
    | false => exact h2 rfl σ H2 (s.mono x2.xt) (x.trans x2) Q fun p xs H3 hp x3 e t => q p xs H3 (x2.free hp) (x2.trans x3) e t)
/-! ### built-ins -/
theorem re_args1 {t : TA} {σ : L2.St} (hs : starEach [e] X.env = (false, eval e X.env) :: starEach [] X.env := by rfl) : PA X [e] (tCons (RE X e) tNil) := pa_cons pe_re pa_nil hs
variable {p1 : Pos}
theorem de_tupleL (hg : Gl X "tuple") (hm : X.mg "tuple" = none) (h : LE X e ρ H ds) (hs : starEach [e] X.env = (false, eval e X.env) :: starEach [] X.env := by rfl)
    (hpl : (backTo pos (starEach [] X.env)).any (·.1) = false := by rfl) : DE X (.Call (.Name "tuple" p1) [e] [] pos) ρ H (.tuple ds) := fun σ H1 s x Q q =>
  re_of (pe_callTy call_tupleF hg hm (by decide +kernel) (pa_cons pe_re pa_nil hs) (he := hs) (hpl := hpl)) (h σ H1 s x _ fun p xs H2 hp x2 hl t => ⟨p, xs, rfl, SqL.of hl, fun l o hn ho => q _ _ (x2.trans (Ex.new hn)) (.tup (PlT.of ho upd_same) (t.mono (Ex.new hn).xt))⟩)
theorem de_len (hg : Gl X "len") (hm : X.mg "len" = none) (h : DE X e ρ H (.tuple ds)) (hs : starEach [e] X.env = (false, eval e X.env) :: starEach [] X.env := by rfl)
    (hpl : (backTo pos (starEach [] X.env)).any (·.1) = false := by rfl) : DE X (.Call (.Name "len" p1) [e] [] pos) ρ H (.int ds.length) := fun σ H1 s x Q q =>
  re_of (pe_callB call_len_seq hg hm PySem.boot_len (pa_cons pe_re pa_nil hs) (he := hs) (hpl := hpl)) (h σ H1 s x _ fun v H2 x2 t => by
    obtain ⟨a, xs, rfl, sq, ts⟩ := t.tuple_inv
    exact ⟨a, xs, rfl, .inr sq, by rw [ts.len]; exact q _ H2 x2 (.int _)⟩)
theorem de_lenO {p : Addr} {xs : List V} (hg : Gl X "len") (hm : X.mg "len" = none) (h : OE X e ρ H p) (hH : H p = some (.lst xs)) (hs : starEach [e] X.env = (false, eval e X.env) :: starEach [] X.env := by rfl)
    (hpl : (backTo pos (starEach [] X.env)).any (·.1) = false := by rfl) : DE X (.Call (.Name "len" p1) [e] [] pos) ρ H (.int xs.length) := fun σ H1 s x Q q =>
  re_of (pe_callB call_len_seq hg hm PySem.boot_len (pa_cons pe_re pa_nil hs) (he := hs) (hpl := hpl)) (h σ H1 s x _ ⟨p, xs, rfl, .inl (SqL.of (x _ _ hH)), q _ H1 (Ex.refl _) (.int _)⟩)
theorem bools_inv {K : PySem.W.Frag} {H : Hp} : ∀ {xs : List V} {bs : List Bool}, Tps K H xs (bs.map .bool) → xs = bs.map V.bl
  | [], [], _ => rfl
  | v :: vs, b :: bs, h => by
    cases h with
    | cons a t => rw [a.bool_inv, bools_inv t]; rfl
  | [], _ :: _, h => by cases h
  | _ :: _, [], h => by cases h
theorem ints_inv {K : PySem.W.Frag} {H : Hp} : ∀ {xs : List V} {bs : List Int}, Tps K H xs (bs.map .int) → xs = bs.map V.int
  | [], [], _ => rfl
  | v :: vs, b :: bs, h => by
    cases h with
    | cons a t => rw [a.int_inv, ints_inv t]; rfl
  | [], _ :: _, h => by cases h
  | _ :: _, [], h => by cases h
theorem de_all {bs : List Bool} (hc : X.calm = true) (hg : Gl X "all") (hm : X.mg "all" = none) (h : LE X e ρ H (bs.map .bool)) (hs : starEach [e] X.env = (false, eval e X.env) :: starEach [] X.env := by rfl)
    (hpl : (backTo pos (starEach [] X.env)).any (·.1) = false := by rfl) : DE X (.Call (.Name "all" p1) [e] [] pos) ρ H (.bool (bs.all id)) := fun σ H1 s x Q q =>
  re_of (pe_callB (cr_all hc) hg hm (by decide +kernel) (pa_cons pe_re pa_nil hs) (he := hs) (hpl := hpl)) (h σ H1 s x _ fun p xs H2 hp x2 hl t => by
    have ex := bools_inv t
    subst ex
    exact ⟨p, bs, rfl, SqL.of hl, q _ H2 x2 (.bl _)⟩)
theorem de_any {bs : List Bool} (hc : X.calm = true) (hg : Gl X "any") (hm : X.mg "any" = none) (h : LE X e ρ H (bs.map .bool)) (hs : starEach [e] X.env = (false, eval e X.env) :: starEach [] X.env := by rfl)
    (hpl : (backTo pos (starEach [] X.env)).any (·.1) = false := by rfl) : DE X (.Call (.Name "any" p1) [e] [] pos) ρ H (.bool (bs.any id)) := fun σ H1 s x Q q =>
  re_of (pe_callB (cr_any hc) hg hm (by decide +kernel) (pa_cons pe_re pa_nil hs) (he := hs) (hpl := hpl)) (h σ H1 s x _ fun p xs H2 hp x2 hl t => by
    have ex := bools_inv t
    subst ex
    exact ⟨p, bs, rfl, SqL.of hl, q _ H2 x2 (.bl _)⟩)
theorem de_sum {ns : List Int} (hc : X.calm = true) (hg : Gl X "sum") (hm : X.mg "sum" = none) (h : LE X e ρ H (ns.map .int)) (hs : starEach [e] X.env = (false, eval e X.env) :: starEach [] X.env := by rfl)
    (hpl : (backTo pos (starEach [] X.env)).any (·.1) = false := by rfl) : DE X (.Call (.Name "sum" p1) [e] [] pos) ρ H (.int ns.sum) := fun σ H1 s x Q q =>
  re_of (pe_callB (cr_sum hc) hg hm (by decide +kernel) (pa_cons pe_re pa_nil hs) (he := hs) (hpl := hpl)) (h σ H1 s x _ fun p xs H2 hp x2 hl t => by
    have ex := ints_inv t
    subst ex
    exact ⟨p, ns, rfl, SqL.of hl, q _ H2 x2 (.int _)⟩)
def tyName : PyData → String
  | .none => "NoneType" | .bool _ => "bool" | .int _ => "int" | .str _ => "str" | .list _ => "list" | .tuple _ => "tuple" | .dict _ => "dict"
theorem Tp.tyX {K : PySem.W.Frag} {H : Hp} {v : V} (h : Tp K H v d) : TyX K H v (.type (tyName d)) := by
  cases h with
  | non => exact .base .non
  | bl b => exact .base (.bl b)
  | int i => exact .base (.int i)
  | str x ok => exact .base (.str x)
  | tup sq ts =>
    rcases sq with ⟨o, _, sq⟩ | ⟨o, its, n, hk, hc, hd⟩
    · exact .fTuple sq
    · exact .kTuple hk hc
theorem de_isi {T : String} {x : Str} {k : Bool} (hg : Gl X "isinstance") (hm : X.mg "isinstance" = none) (h : DE X e ρ H d) (hg' : Gl X x) (hm' : X.mg x = none) (hv : bootBuiltins x = some (.type T)) (hk : kitB (tyName d) T = some k)
    (hn : x ≠ "__name__" := by decide) (hdb : (x == ("__debug__" : Str)) = false := by decide)
    (hs : starEach [e, .Name x pos'] X.env = (false, eval e X.env) :: starEach [.Name x pos'] X.env := by rfl) (hs' : starEach [.Name x pos'] X.env = (false, eval (.Name x pos') X.env) :: starEach [] X.env := by rfl)
    (hpl : (backTo pos (starEach [.Name x pos'] X.env)).any (·.1) = false := by rfl) : DE X (.Call (.Name "isinstance" p1) [e, .Name x pos'] [] pos) ρ H (.bool k) := fun σ H1 s y Q q =>
  re_of (pe_callB call_isi hg hm PyProof.Rows.boot_isinstance (pa_cons pe_re (pa_cons (pe_bltn (v := .ty T) hg' hm' hv rfl hn hdb) pa_nil hs') hs) (he := hs) (hpl := hpl)) (h σ H1 s y _ fun v H2 x2 t =>
    ⟨v, .ty T, _, .type T, k, rfl, .ty T, t.tyX, kit_ty hk, q _ H2 x2 (.bl _)⟩)
/-! ### calls of defs -/
structure Cal (P : Program) (w : World) (K : PySem.W.Frag) (mg : Str → Option Value) (base : Heap) (x : Str) (k : Nat) (sp : Sp) : Prop where
  ex : ∃ (f : Addr) (fd : FuncData) (ps : List Str) (ds : List Value) (dvs : List V) (sp0 : Sp), FnOk P w K mg base CX0 k f fd ps sp0 ∧ mg x = some (.ref f) ∧ PySem.W.keepIn K (.ref f) = true ∧ Binds K fd ps ds ∧ Vals dvs ds ∧ ∀ vs H Q E, sp vs H Q E → sp0 (vs ++ dvs) H Q E
/-- .. with keywords: the promise of the positional and the keywords' values -/
structure CalK (P : Program) (w : World) (K : PySem.W.Frag) (mg : Str → Option Value) (base : Heap) (x : Str) (n : Nat) (ks : List Str) (k : Nat) (sp : List V → Sp) : Prop where
  ex : ∃ (f : Addr) (fd : FuncData) (ps : List Str) (sp0 : Sp), FnOk P w K mg base CX0 k f fd ps sp0 ∧ mg x = some (.ref f) ∧ PySem.W.keepIn K (.ref f) = true ∧ KBn K fd ps n ks (fun us ws => us ++ ws) (fun vs zs => vs ++ zs) ∧ ∀ vs zs H Q E, sp vs zs H Q E → sp0 (vs ++ zs) H Q E
theorem KE'.len {K : PySem.W.Frag} {H : Hp} : ∀ {vs : List V} {ks : List Kd}, KE' K H vs ks → vs.length = ks.length
  | [], [], _ => rfl
  | _ :: _, _ :: _, ⟨_, b⟩ => congrArg Nat.succ (KE'.len b)
  | [], _ :: _, h => h.elim
  | _ :: _, [], h => h.elim
/-- the call, whatever it comes to: P tells the value and the heap behind it -/
def GE (X : Cx) (e : Expr) (ρ : List Kd) (H : Hp) (P : V → Hp → Prop) : Prop := ∀ σ, Sl X.K H σ ρ → ∀ Q : VK, (∀ v H2, P v H2 → Q v H2) → RE X e σ H Q
variable {x : Str} {k : Nat} {sp : Sp} {ks : List Kd}
theorem re_call {σ : L2.St} {Q : VK} (C : Cal X.prog X.w X.K X.mg X.base x k sp) (hr : Room k X.A) (hg : Gl X x) (h : RA X (e :: es) σ H fun vs H1 => sp vs H1 Q E0)
    (hdb : (x == ("__debug__" : Str)) = false := by decide) (he : starEach (e :: es) X.env = (false, eval e X.env) :: starEach es X.env := by rfl) (hpl : (backTo pos (starEach es X.env)).any (·.1) = false := by rfl) : RE X (.Call (.Name x p1) (e :: es) [] pos) σ H Q := by
  obtain ⟨f, fd, ps, ds, dvs, sp0, F, hm, hk, hb, hd, hsp⟩ := C.ex
  exact re_of (pe_call F hr hg hm hk hb hd pass0 pa_ra hdb he hpl) ⟨fun pos pins s I => wpAny_mono (h.run pos pins s I) (fun us s' ⟨vs, H1, I1, r, q⟩ => ⟨vs, H1, I1, r, hsp vs H1 Q E0 q⟩) fun _ _ z => z⟩
theorem de_call (C : Cal X.prog X.w X.K X.mg X.base x k sp) (hr : Room k X.A) (hg : Gl X x) (ha : AK X (e :: es) ρ H ks)
    (post : ∀ H1 vs, Ex H H1 → KE' X.K H1 vs ks → ∀ Q : VK, (∀ v H2, Ex H1 H2 → Tp X.K H2 v d → Q v H2) → sp vs H1 Q E0)
    (hdb : (x == ("__debug__" : Str)) = false := by decide) (he : starEach (e :: es) X.env = (false, eval e X.env) :: starEach es X.env := by rfl) (hpl : (backTo pos (starEach es X.env)).any (·.1) = false := by rfl) : DE X (.Call (.Name x p1) (e :: es) [] pos) ρ H d := fun σ H1 s y Q q =>
  re_call C hr hg (ha σ H1 s y _ fun vs H2 x2 kv => post H2 vs (y.trans x2) kv Q fun v H3 x3 t => q v H3 (x2.trans x3) t) hdb he hpl
theorem le_call (C : Cal X.prog X.w X.K X.mg X.base x k sp) (hr : Room k X.A) (hg : Gl X x) (ha : AK X (e :: es) ρ H ks)
    (post : ∀ H1 vs, Ex H H1 → KE' X.K H1 vs ks → ∀ Q : VK, (∀ p xs H2, H1 p = none → Ex H1 H2 → H2 p = some (.lst xs) → Tps X.K H2 xs ds → Q (.ref p) H2) → sp vs H1 Q E0)
    (hdb : (x == ("__debug__" : Str)) = false := by decide) (he : starEach (e :: es) X.env = (false, eval e X.env) :: starEach es X.env := by rfl) (hpl : (backTo pos (starEach es X.env)).any (·.1) = false := by rfl) : LE X (.Call (.Name x p1) (e :: es) [] pos) ρ H ds := fun σ H1 s y Q q =>
  re_call C hr hg (ha σ H1 s y _ fun vs H2 x2 kv => post H2 vs (y.trans x2) kv Q fun p xs H3 hp x3 hl t => q p xs H3 (x2.free hp) (x2.trans x3) hl t) hdb he hpl
/-- a call that changes what it is given -/
theorem ge_call {P : V → Hp → Prop} (C : Cal X.prog X.w X.K X.mg X.base x k sp) (hr : Room k X.A) (hg : Gl X x) (ha : AK X (e :: es) ρ H ks)
    (post : ∀ H1 vs, Ex H H1 → KE' X.K H1 vs ks → ∀ Q : VK, (∀ v H2, P v H2 → Q v H2) → sp vs H1 Q E0)
    (hdb : (x == ("__debug__" : Str)) = false := by decide) (he : starEach (e :: es) X.env = (false, eval e X.env) :: starEach es X.env := by rfl) (hpl : (backTo pos (starEach es X.env)).any (·.1) = false := by rfl) : GE X (.Call (.Name x p1) (e :: es) [] pos) ρ H P := fun σ s Q q =>
  re_call C hr hg (ha σ H s (Ex.refl _) _ fun vs H2 x2 kv => post H2 vs x2 kv Q q) hdb he hpl
theorem GE.imp {P P' : V → Hp → Prop} (h : GE X e ρ H P) (i : ∀ v H', P v H' → P' v H') : GE X e ρ H P' := fun σ s Q q => h σ s Q fun v H2 p => q v H2 (i v H2 p)
theorem ge_de (h : DE X e ρ H d) : GE X e ρ H (fun v H2 => Ex H H2 ∧ Tp X.K H2 v d) := fun σ s Q q => h σ H s (Ex.refl _) Q fun v H2 x t => q v H2 ⟨x, t⟩
/-! ### statements -/
def SX (X : Cx) (sts : List Stmt) (ρ : List Kd) (H : Hp) (D : Ends) : Prop := ∀ σ, Sl X.K H σ ρ → RSs X sts D σ H
/-- what follows, as ends -/
abbrev thenD (X : Cx) (sts : List Stmt) (D : Ends) : Ends := { D with nx := fun σ H => RSs X sts D σ H }
variable {sts sa sb : List Stmt} {D : Ends} {n : Str}
theorem sx_nil (h : ∀ σ, Sl X.K H σ ρ → D.nx σ H) : SX X [] ρ H D := fun σ s => rss_of pss_nil (h σ s)
theorem sx_next (h : SX X sts ρ H D) : SX X [] ρ H (thenD X sts D) := sx_nil fun σ s => h σ s
theorem sx_cons {st : Stmt} {t : TS} (p : PS X st t) (h : ∀ σ, Sl X.K H σ ρ → t (thenD X sts D) σ H) : SX X (st :: sts) ρ H D := fun σ s => rss_of (pss_cons p pss_rss) (h σ s)
theorem sx_set (i : Nat) (hN : X.N.Nodup) (he : DE X e ρ H d) (k : ∀ H1, Ex H H1 → SX X sts (ρ.set i (.dat d)) H1 D) (hi : X.N[i]? = some n := by rfl) (hx : Loc X.env.scope n := by first | exact Or.inl rfl | exact Or.inr rfl)
    (hs : swapsWith e (some (.Name n pos')) pos.line X.env = pure false := by rfl) (hf : X.fn n = true ∨ X.env.scope.names.lookup n = some .local := by first | exact .inl rfl | exact .inr rfl) : SX X (.Assign [.Name n pos'] e pos :: sts) ρ H D :=
  sx_cons (ps_set hN hi hx pe_re hs hf) fun σ s => he σ H s (Ex.refl _) _ fun v H1 x t => k H1 x _ ((s.mono x.xt).set (k := .dat d) ⟨v, rfl, t⟩)
theorem sx_setL (i : Nat) (hN : X.N.Nodup) (he : LE X e ρ H ds) (k : ∀ p xs H1, H p = none → Ex H H1 → H1 p = some (.lst xs) → Tps X.K H1 xs ds → SX X sts (ρ.set i (.obj p)) H1 D) (hi : X.N[i]? = some n := by rfl) (hx : Loc X.env.scope n := by first | exact Or.inl rfl | exact Or.inr rfl)
    (hs : swapsWith e (some (.Name n pos')) pos.line X.env = pure false := by rfl) (hf : X.fn n = true ∨ X.env.scope.names.lookup n = some .local := by first | exact .inl rfl | exact .inr rfl) : SX X (.Assign [.Name n pos'] e pos :: sts) ρ H D :=
  sx_cons (ps_set hN hi hx pe_re hs hf) fun σ s => he σ H s (Ex.refl _) _ fun p xs H1 hp x hl t => k p xs H1 hp x hl t _ ((s.mono x.xt).set (k := .obj p) rfl)
/-- x = e, whatever e comes to -/
theorem sx_setG {P : V → Hp → Prop} (i : Nat) (hN : X.N.Nodup) (he : GE X e ρ H P) (k : ∀ v H1, P v H1 → ∃ kd, KdOk X.K H1 kd (some v) ∧ Xt H H1 ∧ SX X sts (ρ.set i kd) H1 D) (hi : X.N[i]? = some n := by rfl) (hx : Loc X.env.scope n := by first | exact Or.inl rfl | exact Or.inr rfl)
    (hs : swapsWith e (some (.Name n pos')) pos.line X.env = pure false := by rfl) (hf : X.fn n = true ∨ X.env.scope.names.lookup n = some .local := by first | exact .inl rfl | exact .inr rfl) : SX X (.Assign [.Name n pos'] e pos :: sts) ρ H D :=
  sx_cons (ps_set hN hi hx pe_re hs hf) fun σ s => he σ s _ fun v H1 p => by
    obtain ⟨kd, h1, x, h2⟩ := k v H1 p
    exact h2 _ ((s.mono x).set h1)
theorem sx_ret (he : DE X e ρ H d) (k : ∀ v H1, Ex H H1 → Tp X.K H1 v d → D.rt v H1) : SX X (.Return (some e) pos :: sts) ρ H D :=
  sx_cons (ps_ret pe_re) fun σ s => he σ H s (Ex.refl _) _ fun v H1 x t => k v H1 x t
theorem sx_retL (he : LE X e ρ H ds) (k : ∀ p xs H1, H p = none → Ex H H1 → H1 p = some (.lst xs) → Tps X.K H1 xs ds → D.rt (.ref p) H1) : SX X (.Return (some e) pos :: sts) ρ H D :=
  sx_cons (ps_ret pe_re) fun σ s => he σ H s (Ex.refl _) _ fun p xs H1 hp x hl t => k p xs H1 hp x hl t
theorem sx_retG {P : V → Hp → Prop} (he : GE X e ρ H P) (k : ∀ v H1, P v H1 → D.rt v H1) : SX X (.Return (some e) pos :: sts) ρ H D :=
  sx_cons (ps_ret pe_re) fun σ s => he σ s _ k
theorem sx_retO {p : Addr} (he : OE X e ρ H p) (k : D.rt (.ref p) H) : SX X (.Return (some e) pos :: sts) ρ H D :=
  sx_cons (ps_ret pe_re) fun σ s => he σ H s (Ex.refl _) _ k
theorem sx_if {k : Bool} (hc : BE X c ρ H k) (h1 : k = true → ∀ H1, Ex H H1 → SX X sa ρ H1 (thenD X sts D)) (h2 : k = false → ∀ H1, Ex H H1 → SX X sb ρ H1 (thenD X sts D)) : SX X (.If c sa sb pos :: sts) ρ H D :=
  sx_cons (ps_if pt_rt pss_rss pss_rss) fun σ s => hc σ H s (Ex.refl _) _ fun H1 x => by
    cases k with
    | true => exact h1 rfl H1 x σ (s.mono x.xt)
    | false => exact h2 rfl H1 x σ (s.mono x.xt)
/-- an expression's value is dropped -/
theorem sx_drop {P : V → Hp → Prop} (he : GE X e ρ H P) (k : ∀ v H1, P v H1 → Xt H H1 ∧ SX X sts ρ H1 D) (hs : swapsWith e none pos.line X.env = pure false := by rfl) : SX X (.Expr e pos :: sts) ρ H D :=
  sx_cons (ps_expr pe_re hs) fun σ s => he σ s _ fun v H1 p => by
    obtain ⟨x, h⟩ := k v H1 p
    exact h σ (s.mono x)
end
end CW
/-! part CwD3 -/
set_option maxRecDepth 100000
set_option maxHeartbeats 4000000
/-! Data: targets, what is walked, comprehensions. -/
namespace CW
open PySem PySem.Spec PyProof.Rows L2
/-! ### targets -/
structure RG (X : Cx) (tg : Expr) (v : V) (σ : L2.St) (H : Hp) (Q : L2.St → Hp → Prop) : Prop where
  run : ∀ pins s u, Inv X pins σ H s → RelV v u → wpAny (model X.prog X.w) X.A (assign tg X.env u) (fun _ s' => ∃ σ' H', Inv X pins σ' H' s' ∧ Q σ' H') X.xe s
theorem pg_rg {X : Cx} {tg : Expr} : PG X tg (RG X tg) := ⟨fun pins s _ _ _ u _ I r h => h.run pins s u I r⟩
theorem rg_of {X : Cx} {tg : Expr} {t : TG} {v : V} {σ : L2.St} {H : Hp} {Q : L2.St → Hp → Prop} (p : PG X tg t) (h : t v σ H Q) : RG X tg v σ H Q := ⟨fun pins s u I r => p.run pins s σ H v u Q I r h⟩
/-- all slots but these are as they were -/
def But (is : List Nat) (σ σ' : L2.St) : Prop := σ'.length = σ.length ∧ ∀ i, i ∉ is → σ'[i]? = σ[i]?
theorem But.refl (is : List Nat) (σ : L2.St) : But is σ σ := ⟨rfl, fun _ _ => rfl⟩
theorem But.trans {is js : List Nat} {a b c : L2.St} (h : But is a b) (k : But js b c) : But (is ++ js) a c := ⟨k.1.trans h.1, fun i hi => by
  rw [List.mem_append, not_or] at hi
  rw [k.2 i hi.2, h.2 i hi.1]⟩
theorem wipe_get (σ : L2.St) (i : Nat) : ∀ vs : List Nat, (L2.wipe σ vs)[i]? = if i ∈ vs then (if i < σ.length then some none else none) else σ[i]?
  | [] => by simp [L2.wipe]
  | v :: vs => by
    unfold L2.wipe
    rw [List.getElem?_set]
    have ih := wipe_get σ i vs
    have hl := wipe_length σ vs
    by_cases e : v = i
    · subst e
      rw [if_pos rfl, hl]
      simp
    · rw [if_neg e, ih]
      have : (i ∈ v :: vs) ↔ i ∈ vs := by
        rw [List.mem_cons]
        constructor
        · rintro (h | h)
          · exact absurd h.symm e
          · exact h
        · exact .inr
      simp only [this]
theorem But.wipe {is vs : List Nat} {σ σ' : L2.St} (h : But is (L2.wipe σ vs) σ') (hs : ∀ i ∈ is, i ∈ vs) : L2.wipe σ' vs = L2.wipe σ vs := by
  apply List.ext_getElem?
  intro i
  rw [wipe_get, wipe_get]
  have hl : σ'.length = σ.length := h.1.trans (wipe_length σ vs)
  by_cases hi : i ∈ vs
  · rw [if_pos hi, if_pos hi, hl]
  · rw [if_neg hi, if_neg hi, h.2 i fun z => hi (hs i z), wipe_get, if_neg hi]
/-- the datum d goes to the target: the slots are ρ' then -/
def TgE (zf : Bool) (X : Cx) (tg : Expr) (is : List Nat) (d : PyData) (ρ ρ' : List Kd) : Prop := ∀ σ H v (Q : L2.St → Hp → Prop), Sl X.K H σ ρ → TpZ zf X.K H v d → (∀ σ', Sl X.K H σ' ρ' → But is σ σ' → Q σ' H) → RG X tg v σ H Q
structure RGs (X : Cx) (ts : List Expr) (vs : List V) (σ : L2.St) (H : Hp) (Q : L2.St → Hp → Prop) : Prop where
  run : ∀ pins s us, Inv X pins σ H s → Vals vs us → wpAny (model X.prog X.w) X.A (assignInOrder ((assignEach ts X.env).map (·.2)) us) (fun _ s' => ∃ σ' H', Inv X pins σ' H' s' ∧ Q σ' H') X.xe s
theorem pgs_rgs {X : Cx} {ts : List Expr} : PGs X ts (RGs X ts) := ⟨fun pins s _ _ _ us _ I r h => h.run pins s us I r⟩
theorem rgs_of {X : Cx} {ts : List Expr} {t : TGs} {vs : List V} {σ : L2.St} {H : Hp} {Q : L2.St → Hp → Prop} (p : PGs X ts t) (h : t vs σ H Q) : RGs X ts vs σ H Q := ⟨fun pins s us I r => p.run pins s σ H vs us Q I r h⟩
def TgsE (X : Cx) (ts : List Expr) (is : List Nat) (ds : List PyData) (ρ ρ' : List Kd) : Prop := ∀ σ H vs (Q : L2.St → Hp → Prop), Sl X.K H σ ρ → Tps X.K H vs ds → (∀ σ', Sl X.K H σ' ρ' → But is σ σ' → Q σ' H) → RGs X ts vs σ H Q
section
variable {X : Cx} {tg e : Expr} {ts : List Expr} {ρ ρ' ρ'' : List Kd} {d : PyData} {ds : List PyData} {pos : Pos} {is js : List Nat} {n : Str}
theorem tg_name (i : Nat) (hN : X.N.Nodup) (hi : X.N[i]? = some n := by rfl) (hx : Loc X.env.scope n := by first | exact Or.inl rfl | exact Or.inr rfl) (hf : X.fn n = true ∨ X.env.scope.names.lookup n = some .local := by first | exact .inl rfl | exact .inr rfl) :
    TgE false X (.Name n pos) [i] d ρ (ρ.set i (.dat d)) := fun σ H v Q s t k =>
  rg_of (pg_name hN hi hx hf) (k _ (s.set (k := .dat d) ⟨v, rfl, t.f⟩) ⟨List.length_set, fun j hj => by rw [List.getElem?_set, if_neg (fun z => hj (by simp [z]))]⟩)
theorem tgs_nil : TgsE X [] [] [] ρ ρ := fun σ H vs Q s t k => by
  cases t
  exact rgs_of pgs_nil ⟨rfl, k σ s (But.refl _ _)⟩
theorem tgs_cons (h : TgE false X e is d ρ ρ') (t : TgsE X ts js ds ρ' ρ'') (hs : (assignEach (e :: ts) X.env).map (·.2) = assign e X.env :: (assignEach ts X.env).map (·.2) := by rfl) : TgsE X (e :: ts) (is ++ js) (d :: ds) ρ ρ'' := fun σ H vs Q s tp k => by
  cases tp with
  | cons a b => exact rgs_of (pgs_cons pg_rg pgs_rgs hs) ⟨_, _, rfl, h σ H _ _ s a.z fun σ' s' b1 => t σ' H _ Q s' b fun σ'' s'' b2 => k σ'' s'' (b1.trans b2)⟩
theorem tg_tup {zf : Bool} {k : Nat} (hc : X.calm = true) (h : TgsE X ts is ds ρ ρ') (hn : (assignEach ts X.env).length = ds.length := by rfl) (hst : (assignEach ts X.env).findIdx? (·.1) = none := by rfl) : TgE zf X (.Tuple ts k pos) is (.tuple ds) ρ ρ' := fun σ H v Q s t q => by
  obtain ⟨a, xs, rfl, sq, u⟩ := t.tuple_inv
  exact rg_of (pg_tup hc pgs_rgs (n := ds.length) hn hst) ⟨a, xs, rfl, sq, u.len, h σ H xs Q s u q⟩
/-- a, b, .. = e -/
theorem sx_unpack {sts : List Stmt} {D : Ends} {H : Hp} (he : DE X e ρ H d) (hg : TgE false X tg is d ρ ρ') (k : ∀ H1, Ex H H1 → SX X sts ρ' H1 D) (hs : swapsWithSole [tg] e pos.line X.env = pure false := by rfl) (hw : swappedStores [tg] e X.env = pure none := by rfl)
    (h1 : (assignEach [tg] X.env).map (·.2) = [assign tg X.env] := by rfl) : SX X (.Assign [tg] e pos :: sts) ρ H D :=
  sx_cons (ps_asg pe_re pg_rg hs hw h1) fun σ s => he σ H s (Ex.refl _) _ fun v H1 x t => hg σ H1 v _ (s.mono x.xt) t.z fun σ' s' _ => k H1 x σ' s'
end
/-! ### what is walked -/
def Ylds (zf : Bool) (K : PySem.W.Frag) (J : It) (H : Hp) (ds : List PyData) : Prop := ∀ H', Ex H H' → J.stop ds.length H' ∧ ∀ i d, ds[i]? = some d → J.go i H' ∧ ∀ v H'', J.yld i H' v H'' → Ex H' H'' ∧ TpZ zf K H'' v d
def IE (zf : Bool) (X : Cx) (tg iter : Expr) (ρ : List Kd) (H : Hp) (ds : List PyData) : Prop := ∃ wi, PI X tg iter wi ∧ ∀ σ H1, Sl X.K H1 σ ρ → Ex H H1 → ∀ R : It → Hp → Prop, (∀ J H2, Ex H1 H2 → Ylds zf X.K J H2 ds → R J H2) → wi σ H1 R
section
variable {X : Cx} {tg iter e : Expr} {ρ : List Kd} {H : Hp} {ds : List PyData} {pos p1 : Pos}
theorem ylds_tup {K : PySem.W.Frag} {a : Addr} {xs : List V} {H : Hp} (sq : SqT K H a xs) (t : Tps K H xs ds) : Ylds false K (Itt K a) H ds := fun H' x =>
  ⟨⟨xs, x.xt.sq sq, Nat.le_of_eq t.len⟩, fun i d hd => by
    obtain ⟨v, hv, tv⟩ := t.at hd
    refine ⟨⟨xs, v, x.xt.sq sq, hv⟩, fun w H'' y => ?_⟩
    obtain ⟨rfl, y⟩ := y
    rw [y xs (x.xt.sq sq)] at hv
    cases hv
    exact ⟨Ex.refl _, (tv.mono x.xt).z⟩⟩
theorem ylds_lst {K : PySem.W.Frag} {a : Addr} {xs : List V} {H : Hp} (sq : SqL K H a xs) (t : Tps K H xs ds) : Ylds false K (Itl K a) H ds := fun H' x =>
  ⟨⟨xs, x.sql sq, Nat.le_of_eq t.len⟩, fun i d hd => by
    obtain ⟨v, hv, tv⟩ := t.at hd
    refine ⟨⟨xs, v, x.sql sq, hv⟩, fun w H'' y => ?_⟩
    obtain ⟨rfl, y⟩ := y
    rw [y xs (x.sql sq)] at hv
    cases hv
    exact ⟨Ex.refl _, (tv.mono x.xt).z⟩⟩
theorem ie_tup (h : DE X iter ρ H (.tuple ds)) : IE false X tg iter ρ H ds := ⟨_, pi_tup pe_re, fun σ H1 s x R r => h σ H1 s x _ fun v H2 x2 t => by
  obtain ⟨a, xs, rfl, sq, u⟩ := t.tuple_inv
  exact ⟨a, rfl, ⟨xs, sq⟩, r _ H2 x2 (ylds_tup sq u)⟩⟩
theorem ie_list (h : LE X iter ρ H ds) : IE false X tg iter ρ H ds := ⟨_, pi_list pe_re, fun σ H1 s x R r => h σ H1 s x _ fun p xs H2 hp x2 hl t => ⟨p, rfl, ⟨xs, SqL.of hl⟩, r _ H2 x2 (ylds_lst (SqL.of hl) t)⟩⟩
theorem ie_obj {p : Addr} {xs : List V} (h : OE X iter ρ H p) (hH : SqL X.K H p xs) (t : Tps X.K H xs ds) : IE false X tg iter ρ H ds := ⟨_, pi_list pe_re, fun σ H1 s x R r => h σ H1 s x _ ⟨p, rfl, ⟨xs, x.sql hH⟩, r _ H1 (Ex.refl _) (ylds_lst (x.sql hH) (t.mono x.xt))⟩⟩
theorem ie_range1 {j : Int} (hg : Gl X "range") (hm : X.mg "range" = none) (h : DE X e ρ H (.int j)) (hj : -(2 ^ 62) ≤ j ∧ j < 2 ^ 62) (hs : starEach [e] X.env = (false, eval e X.env) :: starEach [] X.env := by rfl) : IE false X tg (.Call (.Name "range" p1) [e] [] pos) ρ H ((List.range j.toNat).map fun i => .int (i : Nat)) :=
  ⟨_, pi_range1 hg hm (pa_cons pe_re pa_nil hs) hs, fun σ H1 s x R r => h σ H1 s x _ fun v H2 x2 t => ⟨j, by rw [t.int_inv], hj.1, hj.2, r _ H2 x2 fun H' x3 => ⟨by simp [Itr]; omega, fun i d hd => by
    rw [List.getElem?_map] at hd
    cases q : (List.range j.toNat)[i]? with
    | none => rw [q] at hd; cases hd
    | some z =>
      obtain ⟨hz, e⟩ := List.getElem?_eq_some_iff.mp q
      rw [List.getElem_range] at e
      subst e
      rw [q] at hd
      cases hd
      rw [List.length_range] at hz
      refine ⟨by show i < j.toNat; exact hz, fun w H'' y => ?_⟩
      obtain ⟨rfl, rfl⟩ := y
      refine ⟨Ex.refl _, ?_⟩
      show TpZ false X.K _ (.int (0 + (i : Int))) (.int (i : Nat))
      rw [Int.zero_add]
      exact (Tp.int _).z⟩⟩⟩
end
/-! ### comprehensions -/
def BEs (X : Cx) (ifs : List Expr) (ρ : List Kd) (H : Hp) (b : Bool) : Prop := match ifs with
  | [] => b = true
  | [c] => BE X c ρ H b
  | _ => False
structure RTs (X : Cx) (ifs : List Expr) (σ : L2.St) (H : Hp) (Q : Bool → Hp → Prop) : Prop where
  run : ∀ pins s, Inv X pins σ H s →
  wpAny (model X.prog X.w) X.A (forIn ifs true fun c r => if r = true then do let ok ← isTrue c X.env (eval c X.env); pure (ForInStep.yield ok) else pure (ForInStep.yield r)) (TP X pins σ Q) X.xe s
theorem bes_run {X : Cx} {ifs : List Expr} {ρ : List Kd} {H : Hp} {b : Bool} (h : BEs X ifs ρ H b) {σ : L2.St} {H1 : Hp} (s : Sl X.K H1 σ ρ) (x : Ex H H1) {Q : Bool → Hp → Prop} (q : ∀ H2, Ex H1 H2 → Q b H2) : RTs X ifs σ H1 Q := by
  match ifs, h with
  | [], h =>
    subst h
    exact ⟨fun pins st I => (pts_nil (X := X)).run pins st σ H1 Q I (q H1 (Ex.refl _))⟩
  | [c], h => exact ⟨fun pins st I => (pts_one (pt_rt (X := X) (e := c))).run pins st σ H1 Q I (h σ H1 s x Q q)⟩
section
variable {zf : Bool} {X : Cx} {tg iter elt : Expr} {ifs : List Expr} {ρ : List Kd} {H : Hp} {pos spos : Pos} {scope : Scope} {own : List (Str × Nat)} {is : List Nat} {α : Type} {xs : List α} {enc f : α → PyData} {c : α → Bool}
def gB (X : Cx) (scope : Scope) (tg : Expr) : TG := fun v σ H Q => ∀ (s : Shared) (H0 : Hp) (C : Addr) (cl : List (Str × Addr)) (fp : List Addr), RG (X.blk s H0 scope (compEnvC scope cl C X.env) fp) tg v σ H Q
def tB' (X : Cx) (scope : Scope) (ifs : List Expr) : TT := fun σ H Q => ∀ (s : Shared) (H0 : Hp) (C : Addr) (cl : List (Str × Addr)) (fp : List Addr), RTs (X.blk s H0 scope (compEnvC scope cl C X.env) fp) ifs σ H Q
def eB (X : Cx) (scope : Scope) (elt : Expr) : TE := fun σ H Q => ∀ (s : Shared) (H0 : Hp) (C : Addr) (cl : List (Str × Addr)) (fp : List Addr), RE (X.blk s H0 scope (compEnvC scope cl C X.env) fp) elt σ H Q
/-- the reading of a turn: its target, test and element read in the same way whatever the block -/
def TurnU (zf : Bool) (X : Cx) (scope : Scope) (own : List (Str × Nat)) (tg elt : Expr) (ifs : List Expr) (ρ : List Kd) (H : Hp) (d : PyData) (c : Bool) (r : PyData) : Prop :=
  ∃ is ρ', (∀ i ∈ is, i ∈ own.map (·.2)) ∧ ∀ (s : Shared) (H0 : Hp) (C : Addr) (cl : List (Str × Addr)) (fp : List Addr), TgE zf (X.blk s H0 scope (compEnvC scope cl C X.env) fp) tg is d (wipeK ρ (own.map (·.2))) ρ' ∧
    BEs (X.blk s H0 scope (compEnvC scope cl C X.env) fp) ifs ρ' H c ∧ (c = true → DE (X.blk s H0 scope (compEnvC scope cl C X.env) fp) elt ρ' H r)
theorem lc_read {σ : L2.St} {H1 : Hp} {wi : TI} (hw : ∀ R : It → Hp → Prop, (∀ J H2, Ex H1 H2 → Ylds zf X.K J H2 (xs.map enc) → R J H2) → wi σ H1 R) (s : Sl X.K H1 σ ρ) (x : Ex H H1)
    (turn : ∀ z ∈ xs, ∃ is ρ', (∀ i ∈ is, i ∈ own.map (·.2)) ∧ (∀ σ H v (Q : L2.St → Hp → Prop), Sl X.K H σ (wipeK ρ (own.map (·.2))) → TpZ zf X.K H v (enc z) → (∀ σ', Sl X.K H σ' ρ' → But is σ σ' → Q σ' H) → gB X scope tg v σ H Q) ∧
      (∀ σ H1, Sl X.K H1 σ ρ' → Ex H H1 → ∀ Q : Bool → Hp → Prop, (∀ H2, Ex H1 H2 → Q (c z) H2) → tB' X scope ifs σ H1 Q) ∧ (c z = true → ∀ σ H1, Sl X.K H1 σ ρ' → Ex H H1 → ∀ Q : VK, (∀ v H2, Ex H1 H2 → Tp X.K H2 v (f z) → Q v H2) → eB X scope elt σ H1 Q))
    (hz : xs.length < sizeLine) {Q : VK} (q : ∀ p ys H2, H1 p = none → Ex H1 H2 → H2 p = some (.lst ys) → Tps X.K H2 ys ((xs.filter c).map f) → Q (.ref p) H2) :
    tLc wi (gB X scope tg) (tB' X scope ifs) (eB X scope elt) (own.map (·.2)) σ H1 Q := by
  refine hw _ fun J H2 x2 y D hD => ?_
  refine ⟨fun i m H' => m = xs.length - i ∧ i ≤ xs.length ∧ Ex H2 H' ∧ ∃ acc, H' D = some (.lst acc) ∧ acc.length ≤ i ∧ Tps X.K H' acc (((xs.take i).filter c).map f), ⟨xs.length, by simp, Nat.zero_le _, Ex.new hD, [], upd_same, Nat.le_refl _, by simpa using Tps.nil⟩, ?_⟩
  rintro i m H' ⟨rfl, hi, x3, acc, hacc, hal, ht⟩
  obtain ⟨y1, y2⟩ := y H' x3
  rw [List.length_map] at y1
  by_cases e : i = xs.length
  · subst e
    left
    rw [List.take_length] at ht
    exact ⟨y1, q D acc H' (x2.free hD) (x2.trans x3) hacc ht⟩
  · right
    have hlt : i < xs.length := by omega
    have hx : xs[i]? = some xs[i] := List.getElem?_eq_getElem hlt
    obtain ⟨go, yl⟩ := y2 i (enc xs[i]) (by rw [List.getElem?_map, hx]; rfl)
    refine ⟨go, fun H'' => i + 1 ≤ xs.length ∧ Ex H2 H'' ∧ ∃ acc, H'' D = some (.lst acc) ∧ acc.length ≤ i + 1 ∧ Tps X.K H'' acc (((xs.take (i + 1)).filter c).map f), fun H'' n => ⟨xs.length - (i + 1), by omega, rfl, n⟩, fun v H'' hy => ?_⟩
    obtain ⟨x4, tv⟩ := yl v H'' hy
    obtain ⟨is, ρ', his, ht1, ht2, ht3⟩ := turn xs[i] (List.getElem_mem hlt)
    have tk : xs.take (i + 1) = xs.take i ++ [xs[i]] := by rw [List.take_add_one, hx]; rfl
    refine ht1 _ H'' v _ ((s.mono ((x2.trans x3).trans x4).xt).wipe _) tv fun σ' s' b => ⟨b.wipe his, ?_⟩
    refine ht2 σ' H'' s' (((x.trans x2).trans x3).trans x4) _ fun H5 x5 => ?_
    cases hc : c xs[i] with
    | false =>
      show i + 1 ≤ xs.length ∧ _
      refine ⟨hlt, (x3.trans x4).trans x5, acc, x5 _ _ (x4 _ _ hacc), by omega, ?_⟩
      rw [tk, List.filter_append, List.map_append]
      simp only [List.filter_cons, hc, Bool.false_eq_true, if_false, List.filter_nil, List.map_nil, List.append_nil]
      exact ht.mono (x4.trans x5).xt
    | true =>
      refine ht3 hc σ' H5 (s'.mono x5.xt) ((((x.trans x2).trans x3).trans x4).trans x5) _ fun w H6 x6 tw => ?_
      have hD6 : H6 D = some (.lst acc) := x6 _ _ (x5 _ _ (x4 _ _ hacc))
      have xu : Xt H6 (upd H6 D (.lst (acc ++ [w]))) := Xt.upd hD6 (by intro _ z; cases z) (by intro _ _ z; cases z)
      refine ⟨acc, hD6, by omega, hlt, fun a o ha => ?_, acc ++ [w], upd_same, by simp; omega, ?_⟩
      · have ne : a ≠ D := ne_of_none ha hD
        rw [upd_ne ne]
        exact x6 _ _ (x5 _ _ (x4 _ _ (x3 _ _ ha)))
      · rw [tk, List.filter_append, List.map_append]
        simp only [List.filter_cons, hc, if_true, List.filter_nil, List.map_cons, List.map_nil]
        exact ((ht.mono ((x4.trans x5).trans x6).xt).mono xu).append (.cons (tw.mono xu) .nil)
theorem turns_of (h : ∀ z ∈ xs, TurnU zf X scope own tg elt ifs ρ H (enc z) (c z) (f z)) : ∀ z ∈ xs, ∃ is ρ', (∀ i ∈ is, i ∈ own.map (·.2)) ∧ (∀ σ H v (Q : L2.St → Hp → Prop), Sl X.K H σ (wipeK ρ (own.map (·.2))) → TpZ zf X.K H v (enc z) → (∀ σ', Sl X.K H σ' ρ' → But is σ σ' → Q σ' H) → gB X scope tg v σ H Q) ∧
      (∀ σ H1, Sl X.K H1 σ ρ' → Ex H H1 → ∀ Q : Bool → Hp → Prop, (∀ H2, Ex H1 H2 → Q (c z) H2) → tB' X scope ifs σ H1 Q) ∧ (c z = true → ∀ σ H1, Sl X.K H1 σ ρ' → Ex H H1 → ∀ Q : VK, (∀ v H2, Ex H1 H2 → Tp X.K H2 v (f z) → Q v H2) → eB X scope elt σ H1 Q) := by
  intro z hz
  obtain ⟨is, ρ', his, hh⟩ := h z hz
  refine ⟨is, ρ', his, fun σ H v Q s t k s0 H0 C cl fp => (hh s0 H0 C cl fp).1 σ H v Q s t k, fun σ H1 s x Q k s0 H0 C cl fp => bes_run (hh s0 H0 C cl fp).2.1 s x k, fun hc σ H1 s x Q k s0 H0 C cl fp => (hh s0 H0 C cl fp).2.2 hc σ H1 s x Q k⟩
theorem le_lc (hc : X.calm = true) (hN : X.N.Nodup) (hi : IE zf X tg iter ρ H (xs.map enc)) (ok : BlkOk X.N X.env.scope scope own) (turn : ∀ z ∈ xs, TurnU zf X scope own tg elt ifs ρ H (enc z) (c z) (f z)) (hz : xs.length < sizeLine)
    (hs : ∀ x, foldedSetIterable iter X.env x = pure x := by intro _; rfl) : LE X (.ListComp elt [⟨tg, iter, ifs, 0⟩] scope pos) ρ H ((xs.filter c).map f) := fun σ H1 s x Q q => by
  obtain ⟨wi, pi, hw⟩ := hi
  refine re_of (pe_lc hc hN pi ok (g := gB X scope tg) (tt := tB' X scope ifs) (te := eB X scope elt) ?_ ?_ ?_ hs) (lc_read (hw σ H1 s x) s x (turns_of turn) hz q)
  · exact fun s0 H0 C cl fp => ⟨fun pins st σ H v u Q I r h => (h s0 H0 C cl fp).run pins st u I r⟩
  · exact fun s0 H0 C cl fp => ⟨fun pins st σ H Q I h => (h s0 H0 C cl fp).run pins st I⟩
  · exact fun s0 H0 C cl fp => ⟨fun pins st σ H Q I h => (h s0 H0 C cl fp).run pins st I⟩
/-- name = [..] -/
theorem sx_setLc {sts : List Stmt} {D : Ends} {n : Str} {py : Pos} (i : Nat) (hc : X.calm = true) (hN : X.N.Nodup) (hi : IE zf X tg iter ρ H (xs.map enc)) (ok : BlkOk X.N X.env.scope scope own) (turn : ∀ z ∈ xs, TurnU zf X scope own tg elt ifs ρ H (enc z) (c z) (f z)) (hz : xs.length < sizeLine)
    (k : ∀ p ys H1, H p = none → Ex H H1 → H1 p = some (.lst ys) → Tps X.K H1 ys ((xs.filter c).map f) → SX X sts (ρ.set i (.obj p)) H1 D) (hy : X.N[i]? = some n := by rfl) (hyl : X.env.scope.names.lookup n = some .local := by rfl)
    (hsw : swapsWith (.ListComp elt [⟨tg, iter, ifs, 0⟩] scope pos) (some (.Name n py)) spos.line X.env = pure true := by exact sw_true rfl rfl rfl (by decide +kernel))
    (hs : ∀ x, foldedSetIterable iter X.env x = pure x := by intro _; rfl) : SX X (.Assign [.Name n py] (.ListComp elt [⟨tg, iter, ifs, 0⟩] scope pos) spos :: sts) ρ H D := by
  obtain ⟨wi, pi, hw⟩ := hi
  refine sx_cons (ps_setLc hc hN hy hyl hsw pi ok (g := gB X scope tg) (tt := tB' X scope ifs) (te := eB X scope elt) ?_ ?_ ?_ hs) fun σ s => lc_read (hw σ H s (Ex.refl _)) s (Ex.refl _) (turns_of turn) hz fun p ys H2 hp x hl t => k p ys H2 hp x hl t _ ((s.mono x.xt).set (k := .obj p) rfl)
  · exact fun s0 H0 C cl fp => ⟨fun pins st σ H v u Q I r h => (h s0 H0 C cl fp).run pins st u I r⟩
  · exact fun s0 H0 C cl fp => ⟨fun pins st σ H Q I h => (h s0 H0 C cl fp).run pins st I⟩
  · exact fun s0 H0 C cl fp => ⟨fun pins st σ H Q I h => (h s0 H0 C cl fp).run pins st I⟩
end
end CW
/-! part CwT -/
set_option maxRecDepth 100000
set_option maxHeartbeats 4000000
/-! The text's facts, by names. -/
namespace CW
open PySem PySem.Spec PyProof.Rows L2
def FaM (K : PySem.W.Frag) (mg : Str → Option Value) : He.Fa → Prop
  | .glo x => mg x = some (.ref (He.ga K x))
  | .free x => mg x = none
  | .int x i => ∃ t, mg x = some (.int i t)
  | .str x z => ∃ t, mg x = some (.str z t)
  | _ => True
structure Tx (K : PySem.W.Frag) (mg : Str → Option Value) (w : World) : Prop where
  fa : ∀ (i : Nat) (f : He.Fa), faL[i]? = some f → FaM K mg f
  fd : ∀ (i : Nat) (d : He.DefD), fnL[i]? = some d → ∃ fd, FunD K d.name d.qual d.params d.body d.scope (d.dvs K) (d.kws K) (He.fAd K d.at_) fd
  ex : exB K = true
  rest : He.dicW K (He.ga K "AT_REST") = some (He.keysIn w.params restKeys)
theorem tx_of {K : PySem.W.Frag} {mg : Str → Option Value} {w : World} {h : Heap} (X : K.In h) (G : h.Ns mainGlobals mg) {h' : Heap} (c : He.SaysX faL fnL tsL [] exB w h' K) : Tx K mg w where
  fa := fun i f hf => by
    have q := c.t.d.fact i hf
    cases f with
    | glo x => exact He.glo_ok X G q
    | free x => exact He.free_ok X G q
    | int x i => exact He.int_ok X G q
    | str x z => exact He.str_ok X G q
    | _ => trivial
  fd := fun i d hd => c.t.d.def_ i hd
  ex := c.more
  rest := by
    have e : tsL.map (fun t => He.dicW K (t.1 K)) = tsL.map fun t => some (He.keysIn w.params t.2) := congrArg (fun z : He.AlT => z.2) c.t
    exact (List.cons.inj e).1
section
variable {K : PySem.W.Frag} {mg : Str → Option Value} {w : World}
abbrev N_is_name : List Str := ["thing", "sign"]
abbrev P_is_name : List Str := ["thing"]
theorem sc_is_name : FnScope N_is_name P_is_name (defScope s_is_name) := ⟨rfl, rfl, rfl, by decide +kernel, rfl, by decide +kernel, by decide +kernel⟩
theorem Tx.g_is_name (T : Tx K mg w) : mg "is_name" = some (.ref (He.fAd K ("is_name", none))) := T.fa 0 (.glo "is_name") rfl
theorem Tx.f_is_name (T : Tx K mg w) : ∃ fd, FunD K d_is_name.name d_is_name.qual d_is_name.params d_is_name.body d_is_name.scope (d_is_name.dvs K) (d_is_name.kws K) (He.fAd K ("is_name", none)) fd := T.fd 0 d_is_name rfl
abbrev N_is_worth : List Str := ["thing"]
abbrev P_is_worth : List Str := ["thing"]
theorem sc_is_worth : FnScope N_is_worth P_is_worth (defScope s_is_worth) := ⟨rfl, rfl, rfl, by decide +kernel, rfl, by decide +kernel, by decide +kernel⟩
theorem Tx.g_is_worth (T : Tx K mg w) : mg "is_worth" = some (.ref (He.fAd K ("is_worth", none))) := T.fa 1 (.glo "is_worth") rfl
theorem Tx.f_is_worth (T : Tx K mg w) : ∃ fd, FunD K d_is_worth.name d_is_worth.qual d_is_worth.params d_is_worth.body d_is_worth.scope (d_is_worth.dvs K) (d_is_worth.kws K) (He.fAd K ("is_worth", none)) fd := T.fd 1 d_is_worth rfl
abbrev N_is_tuple : List Str := ["thing", "least", "most"]
abbrev P_is_tuple : List Str := ["thing", "least", "most"]
theorem sc_is_tuple : FnScope N_is_tuple P_is_tuple (defScope s_is_tuple) := ⟨rfl, rfl, rfl, by decide +kernel, rfl, by decide +kernel, by decide +kernel⟩
theorem Tx.g_is_tuple (T : Tx K mg w) : mg "is_tuple" = some (.ref (He.fAd K ("is_tuple", none))) := T.fa 2 (.glo "is_tuple") rfl
theorem Tx.f_is_tuple (T : Tx K mg w) : ∃ fd, FunD K d_is_tuple.name d_is_tuple.qual d_is_tuple.params d_is_tuple.body d_is_tuple.scope (d_is_tuple.dvs K) (d_is_tuple.kws K) (He.fAd K ("is_tuple", none)) fd := T.fd 2 d_is_tuple rfl
abbrev N_is_pair : List Str := ["thing"]
abbrev P_is_pair : List Str := ["thing"]
theorem sc_is_pair : FnScope N_is_pair P_is_pair (defScope s_is_pair) := ⟨rfl, rfl, rfl, by decide +kernel, rfl, by decide +kernel, by decide +kernel⟩
theorem Tx.g_is_pair (T : Tx K mg w) : mg "is_pair" = some (.ref (He.fAd K ("is_pair", none))) := T.fa 3 (.glo "is_pair") rfl
theorem Tx.f_is_pair (T : Tx K mg w) : ∃ fd, FunD K d_is_pair.name d_is_pair.qual d_is_pair.params d_is_pair.body d_is_pair.scope (d_is_pair.dvs K) (d_is_pair.kws K) (He.fAd K ("is_pair", none)) fd := T.fd 3 d_is_pair rfl
abbrev N_left_of : List Str := ["kind", "worths", "refused", "worth"]
abbrev P_left_of : List Str := ["kind", "worths", "refused"]
theorem sc_left_of : FnScope N_left_of P_left_of (defScope s_left_of) := ⟨rfl, rfl, rfl, by decide +kernel, rfl, by decide +kernel, by decide +kernel⟩
theorem Tx.g_left_of (T : Tx K mg w) : mg "left_of" = some (.ref (He.fAd K ("left_of", none))) := T.fa 4 (.glo "left_of") rfl
theorem Tx.f_left_of (T : Tx K mg w) : ∃ fd, FunD K d_left_of.name d_left_of.qual d_left_of.params d_left_of.body d_left_of.scope (d_left_of.dvs K) (d_left_of.kws K) (He.fAd K ("left_of", none)) fd := T.fd 4 d_left_of rfl
abbrev N_plan_of : List Str := ["wishes", "refused", "kind", "worths", "must", "needs"]
abbrev P_plan_of : List Str := ["wishes", "refused"]
theorem sc_plan_of : FnScope N_plan_of P_plan_of (defScope s_plan_of) := ⟨rfl, rfl, rfl, by decide +kernel, rfl, by decide +kernel, by decide +kernel⟩
theorem Tx.g_plan_of (T : Tx K mg w) : mg "plan_of" = some (.ref (He.fAd K ("plan_of", none))) := T.fa 5 (.glo "plan_of") rfl
theorem Tx.f_plan_of (T : Tx K mg w) : ∃ fd, FunD K d_plan_of.name d_plan_of.qual d_plan_of.params d_plan_of.body d_plan_of.scope (d_plan_of.dvs K) (d_plan_of.kws K) (He.fAd K ("plan_of", none)) fd := T.fd 5 d_plan_of rfl
abbrev N_ask_of : List Str := ["wishes", "plan", "found", "kind", "worths", "must", "needs", "planned", "left"]
abbrev P_ask_of : List Str := ["wishes", "plan"]
theorem sc_ask_of : FnScope N_ask_of P_ask_of (defScope s_ask_of) := ⟨rfl, rfl, rfl, by decide +kernel, rfl, by decide +kernel, by decide +kernel⟩
theorem Tx.g_ask_of (T : Tx K mg w) : mg "ask_of" = some (.ref (He.fAd K ("ask_of", none))) := T.fa 6 (.glo "ask_of") rfl
theorem Tx.f_ask_of (T : Tx K mg w) : ∃ fd, FunD K d_ask_of.name d_ask_of.qual d_ask_of.params d_ask_of.body d_ask_of.scope (d_ask_of.dvs K) (d_ask_of.kws K) (He.fAd K ("ask_of", none)) fd := T.fd 6 d_ask_of rfl
abbrev N_are_pairs : List Str := ["thing", "one"]
abbrev P_are_pairs : List Str := ["thing"]
theorem sc_are_pairs : FnScope N_are_pairs P_are_pairs (defScope s_are_pairs) := ⟨rfl, rfl, rfl, by decide +kernel, rfl, by decide +kernel, by decide +kernel⟩
theorem Tx.g_are_pairs (T : Tx K mg w) : mg "are_pairs" = some (.ref (He.fAd K ("are_pairs", none))) := T.fa 7 (.glo "are_pairs") rfl
theorem Tx.f_are_pairs (T : Tx K mg w) : ∃ fd, FunD K d_are_pairs.name d_are_pairs.qual d_are_pairs.params d_are_pairs.body d_are_pairs.scope (d_are_pairs.dvs K) (d_are_pairs.kws K) (He.fAd K ("are_pairs", none)) fd := T.fd 7 d_are_pairs rfl
abbrev N_is_said : List Str := ["thing"]
abbrev P_is_said : List Str := ["thing"]
theorem sc_is_said : FnScope N_is_said P_is_said (defScope s_is_said) := ⟨rfl, rfl, rfl, by decide +kernel, rfl, by decide +kernel, by decide +kernel⟩
theorem Tx.g_is_said (T : Tx K mg w) : mg "is_said" = some (.ref (He.fAd K ("is_said", none))) := T.fa 8 (.glo "is_said") rfl
theorem Tx.f_is_said (T : Tx K mg w) : ∃ fd, FunD K d_is_said.name d_is_said.qual d_is_said.params d_is_said.body d_is_said.scope (d_is_said.dvs K) (d_is_said.kws K) (He.fAd K ("is_said", none)) fd := T.fd 8 d_is_said rfl
abbrev N_kinds_in : List Str := ["pairs", "kind", "worth"]
abbrev P_kinds_in : List Str := ["pairs"]
theorem sc_kinds_in : FnScope N_kinds_in P_kinds_in (defScope s_kinds_in) := ⟨rfl, rfl, rfl, by decide +kernel, rfl, by decide +kernel, by decide +kernel⟩
theorem Tx.g_kinds_in (T : Tx K mg w) : mg "kinds_in" = some (.ref (He.fAd K ("kinds_in", none))) := T.fa 9 (.glo "kinds_in") rfl
theorem Tx.f_kinds_in (T : Tx K mg w) : ∃ fd, FunD K d_kinds_in.name d_kinds_in.qual d_kinds_in.params d_kinds_in.body d_kinds_in.scope (d_kinds_in.dvs K) (d_kinds_in.kws K) (He.fAd K ("kinds_in", none)) fd := T.fd 9 d_kinds_in rfl
abbrev N_answer : List Str := ["bounds", "ask", "known", "strange", "others", "pair", "kind", "worth"]
abbrev P_answer : List Str := ["bounds", "ask"]
theorem sc_answer : FnScope N_answer P_answer (defScope s_answer) := ⟨rfl, rfl, rfl, by decide +kernel, rfl, by decide +kernel, by decide +kernel⟩
theorem Tx.g_answer (T : Tx K mg w) : mg "answer" = some (.ref (He.fAd K ("answer", none))) := T.fa 10 (.glo "answer") rfl
theorem Tx.f_answer (T : Tx K mg w) : ∃ fd, FunD K d_answer.name d_answer.qual d_answer.params d_answer.body d_answer.scope (d_answer.dvs K) (d_answer.kws K) (He.fAd K ("answer", none)) fd := T.fd 10 d_answer rfl
abbrev N_are_refusals : List Str := ["word", "pairs", "ask", "kinds", "places", "kind", "pair", "place", "later"]
abbrev P_are_refusals : List Str := ["word", "pairs", "ask"]
theorem sc_are_refusals : FnScope N_are_refusals P_are_refusals (defScope s_are_refusals) := ⟨rfl, rfl, rfl, by decide +kernel, rfl, by decide +kernel, by decide +kernel⟩
theorem Tx.g_are_refusals (T : Tx K mg w) : mg "are_refusals" = some (.ref (He.fAd K ("are_refusals", none))) := T.fa 11 (.glo "are_refusals") rfl
theorem Tx.f_are_refusals (T : Tx K mg w) : ∃ fd, FunD K d_are_refusals.name d_are_refusals.qual d_are_refusals.params d_are_refusals.body d_are_refusals.scope (d_are_refusals.dvs K) (d_are_refusals.kws K) (He.fAd K ("are_refusals", none)) fd := T.fd 11 d_are_refusals rfl
abbrev N_left_behind : List Str := ["word", "worth", "left", "rest", "one"]
abbrev P_left_behind : List Str := ["word", "worth", "left"]
theorem sc_left_behind : FnScope N_left_behind P_left_behind (defScope s_left_behind) := ⟨rfl, rfl, rfl, by decide +kernel, rfl, by decide +kernel, by decide +kernel⟩
theorem Tx.g_left_behind (T : Tx K mg w) : mg "left_behind" = some (.ref (He.fAd K ("left_behind", none))) := T.fa 12 (.glo "left_behind") rfl
theorem Tx.f_left_behind (T : Tx K mg w) : ∃ fd, FunD K d_left_behind.name d_left_behind.qual d_left_behind.params d_left_behind.body d_left_behind.scope (d_left_behind.dvs K) (d_left_behind.kws K) (He.fAd K ("left_behind", none)) fd := T.fd 12 d_left_behind rfl
abbrev N_behind : List Str := ["wishes", "plan", "thing", "ask", "left", "lacking", "asked", "refused", "word", "pairs", "kind", "worths", "must", "needs", "worth", "old"]
abbrev P_behind : List Str := ["wishes", "plan", "thing"]
theorem sc_behind : FnScope N_behind P_behind (defScope s_behind) := ⟨rfl, rfl, rfl, by decide +kernel, rfl, by decide +kernel, by decide +kernel⟩
theorem Tx.g_behind (T : Tx K mg w) : mg "behind" = some (.ref (He.fAd K ("behind", none))) := T.fa 13 (.glo "behind") rfl
theorem Tx.f_behind (T : Tx K mg w) : ∃ fd, FunD K d_behind.name d_behind.qual d_behind.params d_behind.body d_behind.scope (d_behind.dvs K) (d_behind.kws K) (He.fAd K ("behind", none)) fd := T.fd 13 d_behind rfl
abbrev N_new_end : List Str := ["name", "wishes", "known"]
abbrev P_new_end : List Str := ["name", "wishes"]
theorem sc_new_end : FnScope N_new_end P_new_end (defScope s_new_end) := ⟨rfl, rfl, rfl, by decide +kernel, rfl, by decide +kernel, by decide +kernel⟩
theorem Tx.g_new_end (T : Tx K mg w) : mg "new_end" = some (.ref (He.fAd K ("new_end", none))) := T.fa 14 (.glo "new_end") rfl
theorem Tx.f_new_end (T : Tx K mg w) : ∃ fd, FunD K d_new_end.name d_new_end.qual d_new_end.params d_new_end.body d_new_end.scope (d_new_end.dvs K) (d_new_end.kws K) (He.fAd K ("new_end", none)) fd := T.fd 14 d_new_end rfl
abbrev N_known_of : List Str := ["end"]
abbrev P_known_of : List Str := ["end"]
theorem sc_known_of : FnScope N_known_of P_known_of (defScope s_known_of) := ⟨rfl, rfl, rfl, by decide +kernel, rfl, by decide +kernel, by decide +kernel⟩
theorem Tx.g_known_of (T : Tx K mg w) : mg "known_of" = some (.ref (He.fAd K ("known_of", none))) := T.fa 15 (.glo "known_of") rfl
theorem Tx.f_known_of (T : Tx K mg w) : ∃ fd, FunD K d_known_of.name d_known_of.qual d_known_of.params d_known_of.body d_known_of.scope (d_known_of.dvs K) (d_known_of.kws K) (He.fAd K ("known_of", none)) fd := T.fd 15 d_known_of rfl
abbrev N_as_end : List Str := ["known", "stand", "now", "part"]
abbrev P_as_end : List Str := ["known"]
theorem sc_as_end : FnScope N_as_end P_as_end (defScope s_as_end) := ⟨rfl, rfl, rfl, by decide +kernel, rfl, by decide +kernel, by decide +kernel⟩
theorem Tx.g_as_end (T : Tx K mg w) : mg "as_end" = some (.ref (He.fAd K ("as_end", none))) := T.fa 16 (.glo "as_end") rfl
theorem Tx.f_as_end (T : Tx K mg w) : ∃ fd, FunD K d_as_end.name d_as_end.qual d_as_end.params d_as_end.body d_as_end.scope (d_as_end.dvs K) (d_as_end.kws K) (He.fAd K ("as_end", none)) fd := T.fd 16 d_as_end rfl
abbrev N_written : List Str := ["known", "word", "number", "pairs"]
abbrev P_written : List Str := ["known", "word", "number", "pairs"]
theorem sc_written : FnScope N_written P_written (defScope s_written) := ⟨rfl, rfl, rfl, by decide +kernel, rfl, by decide +kernel, by decide +kernel⟩
theorem Tx.g_written (T : Tx K mg w) : mg "written" = some (.ref (He.fAd K ("written", none))) := T.fa 17 (.glo "written") rfl
theorem Tx.f_written (T : Tx K mg w) : ∃ fd, FunD K d_written.name d_written.qual d_written.params d_written.body d_written.scope (d_written.dvs K) (d_written.kws K) (He.fAd K ("written", none)) fd := T.fd 17 d_written rfl
abbrev N_ask_written : List Str := ["known"]
abbrev P_ask_written : List Str := ["known"]
theorem sc_ask_written : FnScope N_ask_written P_ask_written (defScope s_ask_written) := ⟨rfl, rfl, rfl, by decide +kernel, rfl, by decide +kernel, by decide +kernel⟩
theorem Tx.g_ask_written (T : Tx K mg w) : mg "ask_written" = some (.ref (He.fAd K ("ask_written", none))) := T.fa 18 (.glo "ask_written") rfl
theorem Tx.f_ask_written (T : Tx K mg w) : ∃ fd, FunD K d_ask_written.name d_ask_written.qual d_ask_written.params d_ask_written.body d_ask_written.scope (d_ask_written.dvs K) (d_ask_written.kws K) (He.fAd K ("ask_written", none)) fd := T.fd 18 d_ask_written rfl
abbrev N_begin : List Str := ["known", "tries"]
abbrev P_begin : List Str := ["known", "tries"]
theorem sc_begin : FnScope N_begin P_begin (defScope s_begin) := ⟨rfl, rfl, rfl, by decide +kernel, rfl, by decide +kernel, by decide +kernel⟩
theorem Tx.g_begin (T : Tx K mg w) : mg "begin" = some (.ref (He.fAd K ("begin", none))) := T.fa 19 (.glo "begin") rfl
theorem Tx.f_begin (T : Tx K mg w) : ∃ fd, FunD K d_begin.name d_begin.qual d_begin.params d_begin.body d_begin.scope (d_begin.dvs K) (d_begin.kws K) (He.fAd K ("begin", none)) fd := T.fd 19 d_begin rfl
abbrev N_shut : List Str := ["known", "why", "is_told", "letters"]
abbrev P_shut : List Str := ["known", "why", "is_told"]
theorem sc_shut : FnScope N_shut P_shut (defScope s_shut) := ⟨rfl, rfl, rfl, by decide +kernel, rfl, by decide +kernel, by decide +kernel⟩
theorem Tx.g_shut (T : Tx K mg w) : mg "shut" = some (.ref (He.fAd K ("shut", none))) := T.fa 20 (.glo "shut") rfl
theorem Tx.f_shut (T : Tx K mg w) : ∃ fd, FunD K d_shut.name d_shut.qual d_shut.params d_shut.body d_shut.scope (d_shut.dvs K) (d_shut.kws K) (He.fAd K ("shut", none)) fd := T.fd 20 d_shut rfl
abbrev N_opened : List Str := ["end", "tries", "known", "letters"]
abbrev P_opened : List Str := ["end", "tries"]
theorem sc_opened : FnScope N_opened P_opened (defScope s_opened) := ⟨rfl, rfl, rfl, by decide +kernel, rfl, by decide +kernel, by decide +kernel⟩
theorem Tx.g_opened (T : Tx K mg w) : mg "opened" = some (.ref (He.fAd K ("opened", none))) := T.fa 21 (.glo "opened") rfl
theorem Tx.f_opened (T : Tx K mg w) : ∃ fd, FunD K d_opened.name d_opened.qual d_opened.params d_opened.body d_opened.scope (d_opened.dvs K) (d_opened.kws K) (He.fAd K ("opened", none)) fd := T.fd 21 d_opened rfl
abbrev N_closing : List Str := ["end", "known", "letters"]
abbrev P_closing : List Str := ["end"]
theorem sc_closing : FnScope N_closing P_closing (defScope s_closing) := ⟨rfl, rfl, rfl, by decide +kernel, rfl, by decide +kernel, by decide +kernel⟩
theorem Tx.g_closing (T : Tx K mg w) : mg "closing" = some (.ref (He.fAd K ("closing", none))) := T.fa 22 (.glo "closing") rfl
theorem Tx.f_closing (T : Tx K mg w) : ∃ fd, FunD K d_closing.name d_closing.qual d_closing.params d_closing.body d_closing.scope (d_closing.dvs K) (d_closing.kws K) (He.fAd K ("closing", none)) fd := T.fd 22 d_closing rfl
abbrev N_ticked : List Str := ["end", "known", "letters"]
abbrev P_ticked : List Str := ["end"]
theorem sc_ticked : FnScope N_ticked P_ticked (defScope s_ticked) := ⟨rfl, rfl, rfl, by decide +kernel, rfl, by decide +kernel, by decide +kernel⟩
theorem Tx.g_ticked (T : Tx K mg w) : mg "ticked" = some (.ref (He.fAd K ("ticked", none))) := T.fa 23 (.glo "ticked") rfl
theorem Tx.f_ticked (T : Tx K mg w) : ∃ fd, FunD K d_ticked.name d_ticked.qual d_ticked.params d_ticked.body d_ticked.scope (d_ticked.dvs K) (d_ticked.kws K) (He.fAd K ("ticked", none)) fd := T.fd 23 d_ticked rfl
abbrev N_has_failed : List Str := ["wishes", "plan", "kind", "worths", "must", "needs", "same", "left"]
abbrev P_has_failed : List Str := ["wishes", "plan"]
theorem sc_has_failed : FnScope N_has_failed P_has_failed (defScope s_has_failed) := ⟨rfl, rfl, rfl, by decide +kernel, rfl, by decide +kernel, by decide +kernel⟩
theorem Tx.g_has_failed (T : Tx K mg w) : mg "has_failed" = some (.ref (He.fAd K ("has_failed", none))) := T.fa 24 (.glo "has_failed") rfl
theorem Tx.f_has_failed (T : Tx K mg w) : ∃ fd, FunD K d_has_failed.name d_has_failed.qual d_has_failed.params d_has_failed.body d_has_failed.scope (d_has_failed.dvs K) (d_has_failed.kws K) (He.fAd K ("has_failed", none)) fd := T.fd 24 d_has_failed rfl
abbrev N_wished : List Str := ["end", "wishes", "tries", "known", "letters"]
abbrev P_wished : List Str := ["end", "wishes", "tries"]
theorem sc_wished : FnScope N_wished P_wished (defScope s_wished) := ⟨rfl, rfl, rfl, by decide +kernel, rfl, by decide +kernel, by decide +kernel⟩
theorem Tx.g_wished (T : Tx K mg w) : mg "wished" = some (.ref (He.fAd K ("wished", none))) := T.fa 25 (.glo "wished") rfl
theorem Tx.f_wished (T : Tx K mg w) : ∃ fd, FunD K d_wished.name d_wished.qual d_wished.params d_wished.body d_wished.scope (d_wished.dvs K) (d_wished.kws K) (He.fAd K ("wished", none)) fd := T.fd 25 d_wished rfl
abbrev N_letter_back : List Str := ["letter", "other", "who", "word", "mine", "yours", "number", "pairs"]
abbrev P_letter_back : List Str := ["letter", "other"]
theorem sc_letter_back : FnScope N_letter_back P_letter_back (defScope s_letter_back) := ⟨rfl, rfl, rfl, by decide +kernel, rfl, by decide +kernel, by decide +kernel⟩
theorem Tx.g_letter_back (T : Tx K mg w) : mg "letter_back" = some (.ref (He.fAd K ("letter_back", none))) := T.fa 26 (.glo "letter_back") rfl
theorem Tx.f_letter_back (T : Tx K mg w) : ∃ fd, FunD K d_letter_back.name d_letter_back.qual d_letter_back.params d_letter_back.body d_letter_back.scope (d_letter_back.dvs K) (d_letter_back.kws K) (He.fAd K ("letter_back", none)) fd := T.fd 26 d_letter_back rfl
abbrev N_heard_echo : List Str := ["known"]
abbrev P_heard_echo : List Str := ["known"]
theorem sc_heard_echo : FnScope N_heard_echo P_heard_echo (defScope s_heard_echo) := ⟨rfl, rfl, rfl, by decide +kernel, rfl, by decide +kernel, by decide +kernel⟩
theorem Tx.g_heard_echo (T : Tx K mg w) : mg "heard_echo" = some (.ref (He.fAd K ("heard_echo", none))) := T.fa 27 (.glo "heard_echo") rfl
theorem Tx.f_heard_echo (T : Tx K mg w) : ∃ fd, FunD K d_heard_echo.name d_heard_echo.qual d_heard_echo.params d_heard_echo.body d_heard_echo.scope (d_heard_echo.dvs K) (d_heard_echo.kws K) (He.fAd K ("heard_echo", none)) fd := T.fd 27 d_heard_echo rfl
abbrev N_heard_closed : List Str := ["known", "letter", "who", "word", "mine", "yours", "rest"]
abbrev P_heard_closed : List Str := ["known", "letter"]
theorem sc_heard_closed : FnScope N_heard_closed P_heard_closed (defScope s_heard_closed) := ⟨rfl, rfl, rfl, by decide +kernel, rfl, by decide +kernel, by decide +kernel⟩
theorem Tx.g_heard_closed (T : Tx K mg w) : mg "heard_closed" = some (.ref (He.fAd K ("heard_closed", none))) := T.fa 28 (.glo "heard_closed") rfl
theorem Tx.f_heard_closed (T : Tx K mg w) : ∃ fd, FunD K d_heard_closed.name d_heard_closed.qual d_heard_closed.params d_heard_closed.body d_heard_closed.scope (d_heard_closed.dvs K) (d_heard_closed.kws K) (He.fAd K ("heard_closed", none)) fd := T.fd 28 d_heard_closed rfl
abbrev N_heard_ask : List Str := ["known", "letter", "bounds", "number", "pairs", "ahead", "word", "told"]
abbrev P_heard_ask : List Str := ["known", "letter", "bounds"]
theorem sc_heard_ask : FnScope N_heard_ask P_heard_ask (defScope s_heard_ask) := ⟨rfl, rfl, rfl, by decide +kernel, rfl, by decide +kernel, by decide +kernel⟩
theorem Tx.g_heard_ask (T : Tx K mg w) : mg "heard_ask" = some (.ref (He.fAd K ("heard_ask", none))) := T.fa 29 (.glo "heard_ask") rfl
theorem Tx.f_heard_ask (T : Tx K mg w) : ∃ fd, FunD K d_heard_ask.name d_heard_ask.qual d_heard_ask.params d_heard_ask.body d_heard_ask.scope (d_heard_ask.dvs K) (d_heard_ask.kws K) (He.fAd K ("heard_ask", none)) fd := T.fd 29 d_heard_ask rfl
abbrev N_heard_answer : List Str := ["known", "letter", "tries", "comes", "who", "word", "mine", "yours", "number", "pairs", "first", "plan", "refused", "rest"]
abbrev P_heard_answer : List Str := ["known", "letter", "tries"]
theorem sc_heard_answer : FnScope N_heard_answer P_heard_answer (defScope s_heard_answer) := ⟨rfl, rfl, rfl, by decide +kernel, rfl, by decide +kernel, by decide +kernel⟩
theorem Tx.g_heard_answer (T : Tx K mg w) : mg "heard_answer" = some (.ref (He.fAd K ("heard_answer", none))) := T.fa 30 (.glo "heard_answer") rfl
theorem Tx.f_heard_answer (T : Tx K mg w) : ∃ fd, FunD K d_heard_answer.name d_heard_answer.qual d_heard_answer.params d_heard_answer.body d_heard_answer.scope (d_heard_answer.dvs K) (d_heard_answer.kws K) (He.fAd K ("heard_answer", none)) fd := T.fd 30 d_heard_answer rfl
abbrev N_heard_word : List Str := ["known", "letter", "bounds", "tries", "word"]
abbrev P_heard_word : List Str := ["known", "letter", "bounds", "tries"]
theorem sc_heard_word : FnScope N_heard_word P_heard_word (defScope s_heard_word) := ⟨rfl, rfl, rfl, by decide +kernel, rfl, by decide +kernel, by decide +kernel⟩
theorem Tx.g_heard_word (T : Tx K mg w) : mg "heard_word" = some (.ref (He.fAd K ("heard_word", none))) := T.fa 31 (.glo "heard_word") rfl
theorem Tx.f_heard_word (T : Tx K mg w) : ∃ fd, FunD K d_heard_word.name d_heard_word.qual d_heard_word.params d_heard_word.body d_heard_word.scope (d_heard_word.dvs K) (d_heard_word.kws K) (He.fAd K ("heard_word", none)) fd := T.fd 31 d_heard_word rfl
abbrev N_heard : List Str := ["end", "letter", "bounds", "tries", "known", "letters", "who", "word", "mine", "yours", "rest"]
abbrev P_heard : List Str := ["end", "letter", "bounds", "tries"]
theorem sc_heard : FnScope N_heard P_heard (defScope s_heard) := ⟨rfl, rfl, rfl, by decide +kernel, rfl, by decide +kernel, by decide +kernel⟩
theorem Tx.g_heard (T : Tx K mg w) : mg "heard" = some (.ref (He.fAd K ("heard", none))) := T.fa 32 (.glo "heard") rfl
theorem Tx.f_heard (T : Tx K mg w) : ∃ fd, FunD K d_heard.name d_heard.qual d_heard.params d_heard.body d_heard.scope (d_heard.dvs K) (d_heard.kws K) (He.fAd K ("heard", none)) fd := T.fd 32 d_heard rfl
abbrev N_stands_open_with : List Str := ["one", "other", "mine", "theirs"]
abbrev P_stands_open_with : List Str := ["one", "other"]
theorem sc_stands_open_with : FnScope N_stands_open_with P_stands_open_with (defScope s_stands_open_with) := ⟨rfl, rfl, rfl, by decide +kernel, rfl, by decide +kernel, by decide +kernel⟩
theorem Tx.g_stands_open_with (T : Tx K mg w) : mg "stands_open_with" = some (.ref (He.fAd K ("stands_open_with", none))) := T.fa 33 (.glo "stands_open_with") rfl
theorem Tx.f_stands_open_with (T : Tx K mg w) : ∃ fd, FunD K d_stands_open_with.name d_stands_open_with.qual d_stands_open_with.params d_stands_open_with.body d_stands_open_with.scope (d_stands_open_with.dvs K) (d_stands_open_with.kws K) (He.fAd K ("stands_open_with", none)) fd := T.fd 33 d_stands_open_with rfl
abbrev N__law_pen : List Str := ["_law_script"]
abbrev P__law_pen : List Str := ["_law_script"]
theorem sc__law_pen : FnScope N__law_pen P__law_pen (defScope s__law_pen) := ⟨rfl, rfl, rfl, by decide +kernel, rfl, by decide +kernel, by decide +kernel⟩
theorem Tx.g__law_pen (T : Tx K mg w) : mg "_law_pen" = some (.ref (He.fAd K ("_law_pen", none))) := T.fa 34 (.glo "_law_pen") rfl
theorem Tx.f__law_pen (T : Tx K mg w) : ∃ fd, FunD K d__law_pen.name d__law_pen.qual d__law_pen.params d__law_pen.body d__law_pen.scope (d__law_pen.dvs K) (d__law_pen.kws K) (He.fAd K ("_law_pen", none)) fd := T.fd 34 d__law_pen rfl
abbrev N__law_draw : List Str := ["_law_pen_here", "_law_many", "_law_at", "_law_cell", "_law_one", "_law_two_here", "_law_found", "_law_whole"]
abbrev P__law_draw : List Str := ["_law_pen_here", "_law_many"]
theorem sc__law_draw : FnScope N__law_draw P__law_draw (defScope s__law_draw) := ⟨rfl, rfl, rfl, by decide +kernel, rfl, by decide +kernel, by decide +kernel⟩
theorem Tx.g__law_draw (T : Tx K mg w) : mg "_law_draw" = some (.ref (He.fAd K ("_law_draw", none))) := T.fa 35 (.glo "_law_draw") rfl
theorem Tx.f__law_draw (T : Tx K mg w) : ∃ fd, FunD K d__law_draw.name d__law_draw.qual d__law_draw.params d__law_draw.body d__law_draw.scope (d__law_draw.dvs K) (d__law_draw.kws K) (He.fAd K ("_law_draw", none)) fd := T.fd 35 d__law_draw rfl
abbrev N__law_kinds : List Str := ["_law_pen_here", "_law_many", "_law_some", "_law_k"]
abbrev P__law_kinds : List Str := ["_law_pen_here", "_law_many"]
theorem sc__law_kinds : FnScope N__law_kinds P__law_kinds (defScope s__law_kinds) := ⟨rfl, rfl, rfl, by decide +kernel, rfl, by decide +kernel, by decide +kernel⟩
theorem Tx.g__law_kinds (T : Tx K mg w) : mg "_law_kinds" = some (.ref (He.fAd K ("_law_kinds", none))) := T.fa 36 (.glo "_law_kinds") rfl
theorem Tx.f__law_kinds (T : Tx K mg w) : ∃ fd, FunD K d__law_kinds.name d__law_kinds.qual d__law_kinds.params d__law_kinds.body d__law_kinds.scope (d__law_kinds.dvs K) (d__law_kinds.kws K) (He.fAd K ("_law_kinds", none)) fd := T.fd 36 d__law_kinds rfl
abbrev N__law_worths : List Str := ["_law_pen_here", "_law_most", "_law_some", "_law_found", "_law_k"]
abbrev P__law_worths : List Str := ["_law_pen_here", "_law_most"]
theorem sc__law_worths : FnScope N__law_worths P__law_worths (defScope s__law_worths) := ⟨rfl, rfl, rfl, by decide +kernel, rfl, by decide +kernel, by decide +kernel⟩
theorem Tx.g__law_worths (T : Tx K mg w) : mg "_law_worths" = some (.ref (He.fAd K ("_law_worths", none))) := T.fa 37 (.glo "_law_worths") rfl
theorem Tx.f__law_worths (T : Tx K mg w) : ∃ fd, FunD K d__law_worths.name d__law_worths.qual d__law_worths.params d__law_worths.body d__law_worths.scope (d__law_worths.dvs K) (d__law_worths.kws K) (He.fAd K ("_law_worths", none)) fd := T.fd 37 d__law_worths rfl
abbrev N__law_wishes : List Str := ["_law_pen_here", "_law_kinds_here", "_law_most", "_law_left", "_law_found", "_law_kind", "_law_needs", "_law_ahead"]
abbrev P__law_wishes : List Str := ["_law_pen_here", "_law_kinds_here", "_law_most"]
theorem sc__law_wishes : FnScope N__law_wishes P__law_wishes (defScope s__law_wishes) := ⟨rfl, rfl, rfl, by decide +kernel, rfl, by decide +kernel, by decide +kernel⟩
theorem Tx.g__law_wishes (T : Tx K mg w) : mg "_law_wishes" = some (.ref (He.fAd K ("_law_wishes", none))) := T.fa 38 (.glo "_law_wishes") rfl
theorem Tx.f__law_wishes (T : Tx K mg w) : ∃ fd, FunD K d__law_wishes.name d__law_wishes.qual d__law_wishes.params d__law_wishes.body d__law_wishes.scope (d__law_wishes.dvs K) (d__law_wishes.kws K) (He.fAd K ("_law_wishes", none)) fd := T.fd 38 d__law_wishes rfl
abbrev N__law_bounds : List Str := ["_law_pen_here", "_law_kinds_here", "_law_most", "_law_found", "_law_kind"]
abbrev P__law_bounds : List Str := ["_law_pen_here", "_law_kinds_here", "_law_most"]
theorem sc__law_bounds : FnScope N__law_bounds P__law_bounds (defScope s__law_bounds) := ⟨rfl, rfl, rfl, by decide +kernel, rfl, by decide +kernel, by decide +kernel⟩
theorem Tx.g__law_bounds (T : Tx K mg w) : mg "_law_bounds" = some (.ref (He.fAd K ("_law_bounds", none))) := T.fa 39 (.glo "_law_bounds") rfl
theorem Tx.f__law_bounds (T : Tx K mg w) : ∃ fd, FunD K d__law_bounds.name d__law_bounds.qual d__law_bounds.params d__law_bounds.body d__law_bounds.scope (d__law_bounds.dvs K) (d__law_bounds.kws K) (He.fAd K ("_law_bounds", none)) fd := T.fd 39 d__law_bounds rfl
abbrev N__law_books : List Str := ["_law_pen_here", "_law_many", "_law_most", "_law_mine", "_law_yours", "_law_one"]
abbrev P__law_books : List Str := ["_law_pen_here", "_law_many", "_law_most"]
theorem sc__law_books : FnScope N__law_books P__law_books (defScope s__law_books) := ⟨rfl, rfl, rfl, by decide +kernel, rfl, by decide +kernel, by decide +kernel⟩
theorem Tx.g__law_books (T : Tx K mg w) : mg "_law_books" = some (.ref (He.fAd K ("_law_books", none))) := T.fa 40 (.glo "_law_books") rfl
theorem Tx.f__law_books (T : Tx K mg w) : ∃ fd, FunD K d__law_books.name d__law_books.qual d__law_books.params d__law_books.body d__law_books.scope (d__law_books.dvs K) (d__law_books.kws K) (He.fAd K ("_law_books", none)) fd := T.fd 40 d__law_books rfl
abbrev N__law_two : List Str := ["_law_pen_here", "_law_names_here", "_law_books_here", "_law_upto", "_law_pair", "_law_name", "_law_book"]
abbrev P__law_two : List Str := ["_law_pen_here"]
theorem sc__law_two : FnScope N__law_two P__law_two (defScope s__law_two) := ⟨rfl, rfl, rfl, by decide +kernel, rfl, by decide +kernel, by decide +kernel⟩
theorem Tx.g__law_two (T : Tx K mg w) : mg "_law_two" = some (.ref (He.fAd K ("_law_two", none))) := T.fa 41 (.glo "_law_two") rfl
theorem Tx.f__law_two (T : Tx K mg w) : ∃ fd, FunD K d__law_two.name d__law_two.qual d__law_two.params d__law_two.body d__law_two.scope (d__law_two.dvs K) (d__law_two.kws K) (He.fAd K ("_law_two", none)) fd := T.fd 41 d__law_two rfl
abbrev N__law_done : List Str := ["_law_pair", "_law_at", "_law_told", "_law_name", "_law_letter"]
abbrev P__law_done : List Str := ["_law_pair", "_law_at", "_law_told"]
theorem sc__law_done : FnScope N__law_done P__law_done (defScope s__law_done) := ⟨rfl, rfl, rfl, by decide +kernel, rfl, by decide +kernel, by decide +kernel⟩
theorem Tx.g__law_done (T : Tx K mg w) : mg "_law_done" = some (.ref (He.fAd K ("_law_done", none))) := T.fa 42 (.glo "_law_done") rfl
theorem Tx.f__law_done (T : Tx K mg w) : ∃ fd, FunD K d__law_done.name d__law_done.qual d__law_done.params d__law_done.body d__law_done.scope (d__law_done.dvs K) (d__law_done.kws K) (He.fAd K ("_law_done", none)) fd := T.fd 42 d__law_done rfl
abbrev N__law_comes : List Str := ["_law_pair", "_law_spot", "_law_name", "_law_at", "_law_letter"]
abbrev P__law_comes : List Str := ["_law_pair", "_law_spot"]
theorem sc__law_comes : FnScope N__law_comes P__law_comes (defScope s__law_comes) := ⟨rfl, rfl, rfl, by decide +kernel, rfl, by decide +kernel, by decide +kernel⟩
theorem Tx.g__law_comes (T : Tx K mg w) : mg "_law_comes" = some (.ref (He.fAd K ("_law_comes", none))) := T.fa 43 (.glo "_law_comes") rfl
theorem Tx.f__law_comes (T : Tx K mg w) : ∃ fd, FunD K d__law_comes.name d__law_comes.qual d__law_comes.params d__law_comes.body d__law_comes.scope (d__law_comes.dvs K) (d__law_comes.kws K) (He.fAd K ("_law_comes", none)) fd := T.fd 43 d__law_comes rfl
abbrev N__law_of_itself : List Str := ["_law_pen_here", "_law_pair", "_law_at", "_law_way", "_law_end", "_law_other", "_law_wish"]
abbrev P__law_of_itself : List Str := ["_law_pen_here", "_law_pair", "_law_at", "_law_way"]
theorem sc__law_of_itself : FnScope N__law_of_itself P__law_of_itself (defScope s__law_of_itself) := ⟨rfl, rfl, rfl, by decide +kernel, rfl, by decide +kernel, by decide +kernel⟩
theorem Tx.g__law_of_itself (T : Tx K mg w) : mg "_law_of_itself" = some (.ref (He.fAd K ("_law_of_itself", none))) := T.fa 44 (.glo "_law_of_itself") rfl
theorem Tx.f__law_of_itself (T : Tx K mg w) : ∃ fd, FunD K d__law_of_itself.name d__law_of_itself.qual d__law_of_itself.params d__law_of_itself.body d__law_of_itself.scope (d__law_of_itself.dvs K) (d__law_of_itself.kws K) (He.fAd K ("_law_of_itself", none)) fd := T.fd 44 d__law_of_itself rfl
abbrev N__law_led : List Str := ["_law_pen_here", "_law_pair", "_law_way", "_law_at", "_law_spot"]
abbrev P__law_led : List Str := ["_law_pen_here", "_law_pair"]
theorem sc__law_led : FnScope N__law_led P__law_led (defScope s__law_led) := ⟨rfl, rfl, rfl, by decide +kernel, rfl, by decide +kernel, by decide +kernel⟩
theorem Tx.g__law_led (T : Tx K mg w) : mg "_law_led" = some (.ref (He.fAd K ("_law_led", none))) := T.fa 45 (.glo "_law_led") rfl
theorem Tx.f__law_led (T : Tx K mg w) : ∃ fd, FunD K d__law_led.name d__law_led.qual d__law_led.params d__law_led.body d__law_led.scope (d__law_led.dvs K) (d__law_led.kws K) (He.fAd K ("_law_led", none)) fd := T.fd 45 d__law_led rfl
abbrev N__law_borne : List Str := ["_law_asker", "_law_other_bounds", "_law_liked", "_law_borne_here", "_law_wish", "_law_kind", "_law_worth"]
abbrev P__law_borne : List Str := ["_law_asker", "_law_other_bounds"]
theorem sc__law_borne : FnScope N__law_borne P__law_borne (defScope s__law_borne) := ⟨rfl, rfl, rfl, by decide +kernel, rfl, by decide +kernel, by decide +kernel⟩
theorem Tx.g__law_borne (T : Tx K mg w) : mg "_law_borne" = some (.ref (He.fAd K ("_law_borne", none))) := T.fa 46 (.glo "_law_borne") rfl
theorem Tx.f__law_borne (T : Tx K mg w) : ∃ fd, FunD K d__law_borne.name d__law_borne.qual d__law_borne.params d__law_borne.body d__law_borne.scope (d__law_borne.dvs K) (d__law_borne.kws K) (He.fAd K ("_law_borne", none)) fd := T.fd 46 d__law_borne rfl
abbrev N__law_right : List Str := ["_law_pair", "_law_due", "_law_one", "_law_other", "_law_name"]
abbrev P__law_right : List Str := ["_law_pair"]
theorem sc__law_right : FnScope N__law_right P__law_right (defScope s__law_right) := ⟨rfl, rfl, rfl, by decide +kernel, rfl, by decide +kernel, by decide +kernel⟩
theorem Tx.g__law_right (T : Tx K mg w) : mg "_law_right" = some (.ref (He.fAd K ("_law_right", none))) := T.fa 47 (.glo "_law_right") rfl
theorem Tx.f__law_right (T : Tx K mg w) : ∃ fd, FunD K d__law_right.name d__law_right.qual d__law_right.params d__law_right.body d__law_right.scope (d__law_right.dvs K) (d__law_right.kws K) (He.fAd K ("_law_right", none)) fd := T.fd 47 d__law_right rfl
abbrev N__law_settled : List Str := ["_law_pair", "_law_worths_here", "_law_turn", "_law_one", "_law_other", "_law_at", "_law_name", "_law_wish"]
abbrev P__law_settled : List Str := ["_law_pair"]
theorem sc__law_settled : FnScope N__law_settled P__law_settled (defScope s__law_settled) := ⟨rfl, rfl, rfl, by decide +kernel, rfl, by decide +kernel, by decide +kernel⟩
theorem Tx.g__law_settled (T : Tx K mg w) : mg "_law_settled" = some (.ref (He.fAd K ("_law_settled", none))) := T.fa 48 (.glo "_law_settled") rfl
theorem Tx.f__law_settled (T : Tx K mg w) : ∃ fd, FunD K d__law_settled.name d__law_settled.qual d__law_settled.params d__law_settled.body d__law_settled.scope (d__law_settled.dvs K) (d__law_settled.kws K) (He.fAd K ("_law_settled", none)) fd := T.fd 48 d__law_settled rfl
abbrev N_law : List Str := ["_law_script", "_law_pen_here", "_law_turn", "_law_pair", "_law_at", "_law_k"]
abbrev P_law : List Str := ["_law_script"]
theorem sc_law : FnScope N_law P_law (defScope s_law) := ⟨rfl, rfl, rfl, by decide +kernel, rfl, by decide +kernel, by decide +kernel⟩
theorem Tx.f_law (T : Tx K mg w) : ∃ fd, FunD K d_law.name d_law.qual d_law.params d_law.body d_law.scope (d_law.dvs K) (d_law.kws K) (He.fAd K ("law", none)) fd := T.fd 49 d_law rfl
theorem Tx.n_isinstance (T : Tx K mg w) : mg "isinstance" = none := T.fa 50 (.free "isinstance") rfl
theorem Tx.n_str (T : Tx K mg w) : mg "str" = none := T.fa 51 (.free "str") rfl
theorem Tx.n_int (T : Tx K mg w) : mg "int" = none := T.fa 52 (.free "int") rfl
theorem Tx.n_bool (T : Tx K mg w) : mg "bool" = none := T.fa 53 (.free "bool") rfl
theorem Tx.n_tuple (T : Tx K mg w) : mg "tuple" = none := T.fa 54 (.free "tuple") rfl
theorem Tx.n_len (T : Tx K mg w) : mg "len" = none := T.fa 55 (.free "len") rfl
theorem Tx.n_all (T : Tx K mg w) : mg "all" = none := T.fa 56 (.free "all") rfl
theorem Tx.n_any (T : Tx K mg w) : mg "any" = none := T.fa 57 (.free "any") rfl
theorem Tx.n_zip (T : Tx K mg w) : mg "zip" = none := T.fa 58 (.free "zip") rfl
theorem Tx.n_dict (T : Tx K mg w) : mg "dict" = none := T.fa 59 (.free "dict") rfl
theorem Tx.n_list (T : Tx K mg w) : mg "list" = none := T.fa 60 (.free "list") rfl
theorem Tx.n_set (T : Tx K mg w) : mg "set" = none := T.fa 61 (.free "set") rfl
theorem Tx.n_sorted (T : Tx K mg w) : mg "sorted" = none := T.fa 62 (.free "sorted") rfl
theorem Tx.n_abs (T : Tx K mg w) : mg "abs" = none := T.fa 63 (.free "abs") rfl
theorem Tx.n_min (T : Tx K mg w) : mg "min" = none := T.fa 64 (.free "min") rfl
theorem Tx.n_max (T : Tx K mg w) : mg "max" = none := T.fa 65 (.free "max") rfl
theorem Tx.n_range (T : Tx K mg w) : mg "range" = none := T.fa 66 (.free "range") rfl
theorem Tx.n_sum (T : Tx K mg w) : mg "sum" = none := T.fa 67 (.free "sum") rfl
theorem Tx.n_repr (T : Tx K mg w) : mg "repr" = none := T.fa 68 (.free "repr") rfl
theorem Tx.LETTERS (T : Tx K mg w) : ∃ t, mg "LETTERS" = some (.str "abcdefghijklmnopqrstuvwxyz" t) := T.fa 69 (.str "LETTERS" _) rfl
theorem Tx.LONGEST (T : Tx K mg w) : ∃ t, mg "LONGEST" = some (.int 8 t) := T.fa 70 (.int "LONGEST" _) rfl
theorem Tx.GREATEST (T : Tx K mg w) : ∃ t, mg "GREATEST" = some (.int 9999 t) := T.fa 71 (.int "GREATEST" _) rfl
theorem Tx.ALL (T : Tx K mg w) : ∃ t, mg "ALL" = some (.int (-1) t) := T.fa 72 (.int "ALL" _) rfl
theorem Tx.MOST_ECHOES (T : Tx K mg w) : ∃ t, mg "MOST_ECHOES" = some (.int 3 t) := T.fa 73 (.int "MOST_ECHOES" _) rfl
theorem Tx.g_PARTS (T : Tx K mg w) : mg "PARTS" = some (.ref (He.ga K "PARTS")) := T.fa 74 (.glo "PARTS") rfl
theorem Tx.g_AT_REST (T : Tx K mg w) : mg "AT_REST" = some (.ref (He.ga K "AT_REST")) := T.fa 75 (.glo "AT_REST") rfl
end
end CW
/-! part CwF -/
set_option maxRecDepth 100000
set_option maxHeartbeats 4000000
/-! Defs on data: promises, their proof, their use; the data's encodings. -/
namespace CW
open PySem PySem.Spec PyProof.Rows L2
/-! ### encodings -/
def ePr (p : Pr) : PyData := .tuple [.str p.1, .int p.2]
def ePrs (ps : List Pr) : PyData := .tuple (ps.map ePr)
def eInts (ws : List Int) : PyData := .tuple (ws.map .int)
def eRow (q : Str × List Int) : PyData := .tuple [.str q.1, eInts q.2]
def ePlan (p : Plan) : PyData := .tuple (p.map eRow)
def eNeed : Option Pr → PyData
  | none => .none
  | some p => ePr p
def eWish (x : Wish) : PyData := .tuple [.str x.kind, eInts x.worths, .bool x.must, eNeed x.needs]
def eWishes (ws : List Wish) : PyData := .tuple (ws.map eWish)
def sWord : Word → Str
  | .ask => "ask" | .yes => "yes" | .no => "no" | .rather => "rather" | .bye => "bye" | .here => "here" | .there => "there"
def eLet (l : Letter) : PyData := .tuple [.str l.who, .str (sWord l.word), .int l.mine, .int l.yours, .int l.number, ePrs l.pairs]
def eOPrs : Option (List Pr) → PyData
  | none => .none
  | some p => ePrs p
def eOLet : Option Letter → PyData
  | none => .none
  | some p => eLet p
def sStand : Stand → Str
  | .closed => "closed" | .asking => "asking" | .opn => "open"
def partsOf (e : End) : List (Str × PyData) := [("name", .str e.name), ("wishes", eWishes e.wishes), ("stand", .str (sStand e.stand)), ("turn", .int e.turn), ("yours", .int e.yours), ("number", .int e.number),
  ("plan", ePlan e.plan), ("refused", ePrs e.refused), ("given", eOPrs e.given), ("heard", .int e.heard), ("took", eOPrs e.took), ("last", eOLet e.last), ("tries", .int e.tries), ("echoes", .int e.echoes), ("why", .str e.why)]
def eEnd (e : End) : PyData := .tuple ((partsOf e).map (·.2))
/-! ### equality of data -/
theorem eqv_int (a b : Int) : PyData.eqv (.int a) (.int b) = decide (a = b) := by unfold PyData.eqv; first | rfl | simp [beq_eq_decide] | (by_cases h : a = b <;> simp [h])
theorem eqv_str (a b : Str) : PyData.eqv (.str a) (.str b) = decide (a = b) := by unfold PyData.eqv; first | rfl | (by_cases h : a = b <;> simp [h])
theorem eqv_tup (a b : List PyData) : PyData.eqv (.tuple a) (.tuple b) = PyData.eqvAll a b := by rw [PyData.eqv]
theorem eqvAll_map {α : Type} [DecidableEq α] {f : α → PyData} (h : ∀ a b, PyData.eqv (f a) (f b) = decide (a = b)) : ∀ as bs : List α, PyData.eqvAll (as.map f) (bs.map f) = decide (as = bs)
  | [], [] => by simp [PyData.eqvAll]
  | a :: as, [] => by simp [PyData.eqvAll]
  | [], b :: bs => by simp [PyData.eqvAll]
  | a :: as, b :: bs => by
    simp only [List.map_cons, PyData.eqvAll, h, eqvAll_map h as bs, List.cons.injEq, Bool.decide_and]
theorem eqv_pr (a b : Pr) : PyData.eqv (ePr a) (ePr b) = decide (a = b) := by
  unfold ePr
  simp only [PyData.eqv, PyData.eqvAll, Bool.and_true]
  obtain ⟨a1, a2⟩ := a
  obtain ⟨b1, b2⟩ := b
  by_cases h1 : a1 = b1 <;> by_cases h2 : a2 = b2 <;> simp [h1, h2]
theorem eqv_prs (a b : List Pr) : PyData.eqv (ePrs a) (ePrs b) = decide (a = b) := by
  unfold ePrs
  rw [eqv_tup, eqvAll_map eqv_pr]
theorem eqv_ints (a b : List Int) : PyData.eqv (eInts a) (eInts b) = decide (a = b) := by
  unfold eInts
  rw [eqv_tup, eqvAll_map eqv_int]
theorem eqv_oprs (a b : Option (List Pr)) : PyData.eqv (eOPrs a) (eOPrs b) = decide (a = b) := by
  cases a <;> cases b <;> simp [eOPrs, eqv_prs] <;> simp [ePrs, PyData.eqv]
theorem any_map {α : Type} [DecidableEq α] {f : α → PyData} (h : ∀ a b, PyData.eqv (f a) (f b) = decide (a = b)) (x : α) (xs : List α) : ((xs.map f).any fun z => PyData.eqv z (f x)) = decide (x ∈ xs) := by
  rw [List.any_map]
  induction xs with
  | nil => simp
  | cons a as ih =>
    rw [List.any_cons, ih]
    simp only [Function.comp, h]
    by_cases e : a = x
    · simp [e]
    · have : ¬ x = a := fun z => e z.symm
      simp [e, this]
theorem depth_all {α : Type} {f : α → PyData} {n : Nat} (h : ∀ a, (f a).depth ≤ n) : ∀ xs : List α, PyData.depthAll (xs.map f) ≤ n
  | [] => by simp [PyData.depthAll]
  | a :: as => by
    simp only [List.map_cons, PyData.depthAll]
    have := h a
    have := depth_all h as
    omega
theorem depth_pr (p : Pr) : (ePr p).depth ≤ 2 := by simp [ePr, PyData.depth, PyData.depthAll]
theorem depth_prs (p : List Pr) : (ePrs p).depth ≤ 3 := by
  unfold ePrs
  simp only [PyData.depth]
  have := depth_all depth_pr p
  omega
theorem depth_ints (p : List Int) : (eInts p).depth ≤ 2 := by
  unfold eInts
  simp only [PyData.depth]
  have : PyData.depthAll (p.map PyData.int) ≤ 1 := depth_all (fun a => by simp [PyData.depth]) p
  omega
theorem depth_int (i : Int) : (PyData.int i).depth ≤ 64 := by simp [PyData.depth]
theorem depth_str (i : Str) : (PyData.str i).depth ≤ 64 := by simp [PyData.depth]
theorem depth_pr64 (p : Pr) : (ePr p).depth ≤ 64 := Nat.le_trans (depth_pr p) (by decide)
theorem depth_prs64 (p : List Pr) : (ePrs p).depth ≤ 64 := Nat.le_trans (depth_prs p) (by decide)
theorem depth_ints64 (p : List Int) : (eInts p).depth ≤ 64 := Nat.le_trans (depth_ints p) (by decide)
theorem depth_nil64 : (PyData.tuple []).depth ≤ 64 := by simp [PyData.depth, PyData.depthAll]
theorem eInts_nil : eInts [] = .tuple [] := rfl
theorem ePrs_nil : ePrs [] = .tuple [] := rfl
/-! ### promises on data -/
def spF {α : Type} (K : PySem.W.Frag) (args : α → List PyData) (pre : α → Prop) (res : α → PyData) : Sp := fun vs H Q _ => ∃ a, Tps K H vs (args a) ∧ pre a ∧ ∀ v H', Ex H H' → Tp K H' v (res a) → Q v H'
def rho0 (N : List Str) (ds : List PyData) : List Kd := ds.map .dat ++ List.replicate (N.length - ds.length) .no
theorem sl_rep {K : PySem.W.Frag} {H : Hp} : ∀ n : Nat, Sl K H (List.replicate n none) (List.replicate n .no)
  | 0 => trivial
  | n + 1 => ⟨trivial, sl_rep n⟩
theorem sl_dat {K : PySem.W.Frag} {H : Hp} {τ : L2.St} {ρ : List Kd} (h : Sl K H τ ρ) : ∀ {vs : List V} {ds : List PyData}, Tps K H vs ds → Sl K H (vs.map some ++ τ) (ds.map .dat ++ ρ)
  | _, _, .nil => h
  | _, _, .cons a t => ⟨⟨_, rfl, a⟩, sl_dat h t⟩
theorem sl_start {K : PySem.W.Frag} {H : Hp} {N : List Str} {vs : List V} {ds : List PyData} (t : Tps K H vs ds) : Sl K H (L2.start N vs) (rho0 N ds) := by
  unfold L2.start rho0
  rw [t.len]
  exact sl_dat (sl_rep _) t
def kdStart (N : List Str) (ks : List Kd) : List Kd := ks ++ List.replicate (N.length - ks.length) .no
theorem sl_kd {K : PySem.W.Frag} {H : Hp} {τ : L2.St} {ρ : List Kd} (h : Sl K H τ ρ) : ∀ {vs : List V} {ks : List Kd}, KE' K H vs ks → Sl K H (vs.map some ++ τ) (ks ++ ρ)
  | [], [], _ => h
  | _ :: _, _ :: _, ⟨a, t⟩ => ⟨a, sl_kd h t⟩
  | [], _ :: _, h => h.elim
  | _ :: _, [], h => h.elim
theorem sl_kstart {K : PySem.W.Frag} {H : Hp} {N : List Str} {vs : List V} {ks : List Kd} (t : KE' K H vs ks) : Sl K H (L2.start N vs) (kdStart N ks) := by
  unfold L2.start kdStart
  rw [t.len]
  exact sl_kd (sl_rep _) t
theorem tps_of_ke {K : PySem.W.Frag} {H : Hp} : ∀ {vs : List V} {ds : List PyData}, KE' K H vs (ds.map .dat) → Tps K H vs ds
  | [], [], _ => .nil
  | _ :: _, _ :: _, ⟨⟨_, e, a⟩, t⟩ => by cases e; exact .cons a (tps_of_ke t)
  | [], _ :: _, h => h.elim
  | _ :: _, [], h => h.elim
theorem ke_of_tps {K : PySem.W.Frag} {H : Hp} : ∀ {vs : List V} {ds : List PyData}, Tps K H vs ds → KE' K H vs (ds.map .dat)
  | _, _, .nil => trivial
  | _, _, .cons a t => ⟨⟨_, rfl, a⟩, ke_of_tps t⟩
/-- a def's context -/
abbrev CC (P : Program) (w : World) (K : PySem.W.Frag) (mg : Str → Option Value) (base : Heap) (d : He.DefD) (N : List Str) (f : Addr) (cdv : Value) (A : Around) (outer : List Env) (s : Shared) (H : Hp) (E : XK) : Cx := (cxOf CX0 P w K mg base N d.qual d.scope f cdv A outer s H E).nox
/-- what is wanted of a body -/
abbrev DE0 (Q : VK) : Ends := { nx := fun _ H' => Q .non H', rt := Q }
section
variable {P : Program} {w : World} {K : PySem.W.Frag} {mg : Str → Option Value} {base : Heap} {x : Str} {N ps : List Str} {k : Nat} {sp : Sp}
/-- how a def's every parameter is bound -/
def BindN (d : He.DefD) (ps : List Str) : Prop := ∀ (kV doc pm : Value) (an : Option Addr) (cdv ct : Value) (us : List Value), us.length = ps.length → bindArgs (PySem.W.fnOf d.name d.qual d.params d.body d.scope .none kV doc pm an cdv ct) ⟨us, []⟩ = pure (ps.zip us)
theorem cal_of (d : He.DefD) (hg : mg x = some (.ref (He.fAd K (x, none)))) (hf : ∃ fd, FunD K d.name d.qual d.params d.body d.scope (d.dvs K) (d.kws K) (He.fAd K (x, none)) fd) (S : FnScope N ps d.scope) (hd : d.dfl = []) (hb : BindN d ps)
    (len : ∀ vs H Q E, sp vs H Q E → vs.length = ps.length)
    (body : ∀ cdv A outer s H E vs Q, Room k (CC P w K mg base d N (He.fAd K (x, none)) cdv A outer s H E).A → sp vs H Q E → RSs (CC P w K mg base d N (He.fAd K (x, none)) cdv A outer s H E) d.body (DE0 Q) (L2.start N vs) H) : Cal P w K mg base x (k + 1) sp := by
  obtain ⟨fd, F⟩ := hf
  have e : d.dvs K = [] := by unfold He.DefD.dvs; rw [hd]; rfl
  rw [e] at F
  have b : Binds K fd ps [] := F.bindsN hb
  refine ⟨_, fd, ps, [], [], sp, F.ok S len (fun cdv A outer s H vs Q E hr h => ⟨_, PSs.nox pss_rss, body cdv A outer s H E vs Q hr h⟩), hg, F.kp, b, .nil, fun vs H Q E h => by rw [List.append_nil]; exact h⟩
/-- a def on data, all parameters given by place -/
theorem cal_F {α : Type} {args : α → List PyData} {pre : α → Prop} {res : α → PyData} (d : He.DefD) (hg : mg x = some (.ref (He.fAd K (x, none)))) (hf : ∃ fd, FunD K d.name d.qual d.params d.body d.scope (d.dvs K) (d.kws K) (He.fAd K (x, none)) fd) (S : FnScope N ps d.scope)
    (hb : BindN d ps) (len : ∀ a, (args a).length = ps.length)
    (body : ∀ cdv A outer s H E Q a, Room k (CC P w K mg base d N (He.fAd K (x, none)) cdv A outer s H E).A → pre a → (∀ v H', Ex H H' → Tp K H' v (res a) → Q v H') → SX (CC P w K mg base d N (He.fAd K (x, none)) cdv A outer s H E) d.body (rho0 N (args a)) H (DE0 Q))
    (hd : d.dfl = [] := by rfl) : Cal P w K mg base x (k + 1) (spF K args pre res) :=
  cal_of d hg hf S hd hb (fun vs H Q E ⟨a, t, _, _⟩ => by rw [t.len, len]) fun cdv A outer s H E vs Q hr ⟨a, t, p, q⟩ => body cdv A outer s H E Q a hr p q _ (sl_start t)
end
section
variable {X : Cx} {e : Expr} {es : List Expr} {ρ : List Kd} {H : Hp} {x : Str} {k : Nat} {pos p1 : Pos} {α : Type} {args : α → List PyData} {pre : α → Prop} {res : α → PyData}
theorem de_fn {d : PyData} {ds : List PyData} (C : Cal X.prog X.w X.K X.mg X.base x k (spF X.K args pre res)) (hr : Room k X.A) (a : α) (ha : AE X (e :: es) ρ H ds) (hp : pre a) (hds : ds = args a := by rfl) (hd : res a = d := by rfl) (hg : Gl X x := by rfl)
    (hdb : (x == ("__debug__" : Str)) = false := by decide) (he : starEach (e :: es) X.env = (false, eval e X.env) :: starEach es X.env := by rfl) (hpl : (backTo pos (starEach es X.env)).any (·.1) = false := by rfl) : DE X (.Call (.Name x p1) (e :: es) [] pos) ρ H d := by
  subst hds hd
  exact fun σ H1 s y Q q => re_call C hr hg (ha σ H1 s y _ fun vs H2 x2 t => ⟨a, t, hp, fun v H3 x3 tv => q v H3 (x2.trans x3) tv⟩) hdb he hpl
end
end CW
/-! part CwW1 -/
set_option maxRecDepth 100000
set_option maxHeartbeats 4000000
/-! The walk: wishes. -/
namespace CW
open PySem PySem.Spec PyProof.Rows L2
section
variable {X : Cx} {ρ : List Kd} {H : Hp} {e iter : Expr} {pos : Pos}
theorem de_gint {x : Str} {i : Int} (hm : ∃ t, X.mg x = some (.int i t)) (hg : Gl X x := by rfl) (hd : (x == ("__debug__" : Str)) = false := by decide) : DE X (.Name x pos) ρ H (.int i) :=
  let ⟨t, h⟩ := hm
  de_glob (v := .int i) hg h ⟨t, rfl⟩ (fun _ => .int _) hd
theorem de_gstr {x z : Str} (hm : ∃ t, X.mg x = some (.str z t)) (hz : PyData.strOk z = true) (hg : Gl X x := by rfl) (hd : (x == ("__debug__" : Str)) = false := by decide) : DE X (.Name x pos) ρ H (.str z) :=
  let ⟨t, h⟩ := hm
  de_glob (v := .str z) hg h ⟨t, rfl⟩ (fun _ => .str _ hz) hd
theorem dec_irrel {p : Prop} (a b : Decidable p) : @decide p a = @decide p b := by cases Subsingleton.elim a b; rfl
theorem OpD.to {f : Value → Value → Sem Value} {d1 d2 d d' : PyData} (h : OpD X f d1 d2 d) (e : d = d') : OpD X f d1 d2 d' := e ▸ h
def blkB (N : List Str) (sc scope : Scope) (own : List (Str × Nat)) : Bool := decide (scope.kind = .function) && (scope.names.all (fun y => decide (scope.names.lookup y.1 = some y.2)) && (own.all (fun p => decide (N[p.2]? = some p.1)) &&
  (scope.names.all (fun y => !decide (y.2 = .free) || (decide (sc.names.lookup y.1 = some .cell) || decide (sc.names.lookup y.1 = some .free))) &&
  scope.names.all (fun y => !(decide (y.2 = .local) || decide (y.2 = .cell)) || (decide (y.1 ∈ own.map (·.1)) || !decide (y.1 ∈ N))))))
theorem blk_ok {N : List Str} {sc scope : Scope} {own : List (Str × Nat)} (h : blkB N sc scope own = true) : BlkOk N sc scope own := by
  unfold blkB at h
  simp only [Bool.and_eq_true, List.all_eq_true, Bool.or_eq_true, Bool.not_eq_true', decide_eq_true_eq, decide_eq_false_iff_not, Bool.or_eq_false_iff] at h
  obtain ⟨h1, h2, h3, h4, h5⟩ := h
  refine ⟨h1, h2, h3, fun y hy e => ?_, fun y hy e => ?_⟩
  · rcases h4 y hy with q | q
    · exact absurd e q
    · exact q
  · rcases h5 y hy with q | q
    · rcases e with e | e
      · exact absurd e q.1
      · exact absurd e q.2
    · exact q
theorem kTT : kitB "tuple" "tuple" = some true := by decide +kernel
theorem kII : kitB "int" "int" = some true := by decide +kernel
theorem kIB : kitB "int" "bool" = some false := by decide +kernel
theorem kSS : kitB "str" "str" = some true := by decide +kernel
theorem opd_inPr {j : Nat} (hr : Room j X.A) (p : Pr) (ps : List Pr) : OpD X (compareOp .In) (ePr p) (ePrs ps) (.bool (decide (p ∈ ps))) := by
  have := opd_in (X := X) (d := ePr p) (ds := ps.map ePr) hr (depth_pr64 p)
  rw [any_map eqv_pr] at this
  exact this.to (congrArg PyData.bool (dec_irrel _ _))
theorem opd_notInPr {j : Nat} (hr : Room j X.A) (p : Pr) (ps : List Pr) : OpD X (compareOp .NotIn) (ePr p) (ePrs ps) (.bool (!decide (p ∈ ps))) := by
  have := opd_notIn (X := X) (d := ePr p) (ds := ps.map ePr) hr (depth_pr64 p)
  rw [any_map eqv_pr] at this
  exact this.to (congrArg (fun b => PyData.bool (!b)) (dec_irrel _ _))
theorem opd_notInInt {j : Nat} (hr : Room j X.A) (p : Int) (ps : List Int) : OpD X (compareOp .NotIn) (.int p) (eInts ps) (.bool (!decide (p ∈ ps))) := by
  have := opd_notIn (X := X) (d := .int p) (ds := ps.map .int) hr (depth_int p)
  rw [any_map eqv_int] at this
  exact this
theorem opd_inInt {j : Nat} (hr : Room j X.A) (p : Int) (ps : List Int) : OpD X (compareOp .In) (.int p) (eInts ps) (.bool (decide (p ∈ ps))) := by
  have := opd_in (X := X) (d := .int p) (ds := ps.map .int) hr (depth_int p)
  rw [any_map eqv_int] at this
  exact this
theorem opd_inStr {a b : Str} : OpD X (compareOp .In) (.str a) (.str b) (.bool (!(Builtin.Str.occurrences b a 0 b.length 1).isEmpty)) :=
  ⟨_, op_in_str, fun H x y t1 t2 Q q => ⟨a, b, t1.str_inv.1, t2.str_inv.1, q _ _ (Ex.refl _) (.bl _)⟩⟩
theorem small1k {n : Nat} (h : n ≤ 1000) : n ≤ sizeLine := Nat.le_of_lt (small1000 h)
theorem de_lenS {p1 : Pos} {z : Str} (hz : z.length ≤ 1000) (hg : Gl X "len") (hm : X.mg "len" = none) (h : DE X e ρ H (.str z)) (hs : starEach [e] X.env = (false, eval e X.env) :: starEach [] X.env := by rfl)
    (hpl : (backTo pos (starEach [] X.env)).any (·.1) = false := by rfl) : DE X (.Call (.Name "len" p1) [e] [] pos) ρ H (.int z.length) := fun σ H1 s x Q q =>
  re_of (pe_callB call_len_str hg hm PySem.boot_len (pa_cons pe_re pa_nil hs) (he := hs) (hpl := hpl)) (h σ H1 s x _ fun v H2 x2 t => ⟨z, by rw [t.str_inv.1], small1k hz, q _ H2 x2 (.int _)⟩)
/-- the signs of a text -/
def eSign (c : Nat) : PyData := .str ⟨#[c]⟩
theorem strOk_get {z : Str} (ok : PyData.strOk z = true) {i c : Nat} (h : z.cps[i]? = some c) : PyData.strOk ⟨#[c]⟩ = true := by
  unfold PyData.strOk at ok ⊢
  have q := Array.all_eq_true_iff_forall_mem.mp ok c (Array.mem_of_getElem? h)
  simpa using q
theorem ie_str {tg : Expr} {z : Str} (h : DE X iter ρ H (.str z)) : IE false X tg iter ρ H (z.cps.toList.map eSign) := ⟨_, pi_str pe_re, fun σ H1 s x R r => h σ H1 s x _ fun v H2 x2 t => by
  obtain ⟨rfl, ok⟩ := t.str_inv
  refine ⟨z, rfl, r _ H2 x2 fun H' x3 => ⟨by simp [Its], fun i d hd => ?_⟩⟩
  rw [List.getElem?_map, Array.getElem?_toList] at hd
  cases e : z.cps[i]? with
  | none => rw [e] at hd; cases hd
  | some c =>
    rw [e] at hd
    cases hd
    refine ⟨(Array.getElem?_eq_some_iff.mp e).1, fun w H'' y => ?_⟩
    obtain ⟨rfl, c', e', rfl⟩ := y
    rw [e] at e'
    cases e'
    exact ⟨Ex.refl _, (Tp.str _ (strOk_get ok e)).z⟩⟩
theorem tu {zf : Bool} {scope : Scope} {own : List (Str × Nat)} {tg elt : Expr} {ifs : List Expr} {d r : PyData} {c : Bool} (is : List Nat) (ρ' : List Kd)
    (h : ∀ (s : Shared) (H0 : Hp) (C : Addr) (cl : List (Str × Addr)) (fp : List Addr), TgE zf (X.blk s H0 scope (compEnvC scope cl C X.env) fp) tg is d (wipeK ρ (own.map (·.2))) ρ' ∧
    BEs (X.blk s H0 scope (compEnvC scope cl C X.env) fp) ifs ρ' H c ∧ (c = true → DE (X.blk s H0 scope (compEnvC scope cl C X.env) fp) elt ρ' H r)) (his : ∀ i ∈ is, i ∈ own.map (·.2) := by decide) : TurnU zf X scope own tg elt ifs ρ H d c r := ⟨is, ρ', his, h⟩
end
theorem letters_in : ∀ c : Nat, letterCp c = true → (!(Builtin.Str.occurrences "abcdefghijklmnopqrstuvwxyz" ⟨#[c]⟩ 0 ("abcdefghijklmnopqrstuvwxyz" : Str).length 1).isEmpty) = true := by
  intro c h
  have h2 : 97 ≤ c ∧ c ≤ 122 := of_decide_eq_true h
  have key : ∀ i : Fin 26, (!(Builtin.Str.occurrences "abcdefghijklmnopqrstuvwxyz" ⟨#[97 + i.1]⟩ 0 ("abcdefghijklmnopqrstuvwxyz" : Str).length 1).isEmpty) = true := by decide +kernel
  have := key ⟨c - 97, by omega⟩
  rw [show 97 + (c - 97) = c by omega] at this
  exact this
theorem nameOk_len {k : Str} (h : nameOk k = true) : 1 ≤ k.length ∧ k.length ≤ 8 := by
  unfold nameOk at h
  rw [Bool.and_eq_true] at h
  exact of_decide_eq_true h.1
theorem nameOk_all {k : Str} (h : nameOk k = true) : ∀ c ∈ k.cps.toList, letterCp c = true := by
  unfold nameOk at h
  rw [Bool.and_eq_true] at h
  exact List.all_eq_true.mp h.2
section
variable {P : Program} {w : World} {K : PySem.W.Frag} {mg : Str → Option Value} {base : Heap} {k : Nat}
theorem cal_is_tuple (T : Tx K mg w) (k : Nat) : Cal P w K mg base "is_tuple" (k + 1) (spF K (fun a : List PyData × Int × Int => [.tuple a.1, .int a.2.1, .int a.2.2]) (fun _ => True) (fun a => .bool (decide (a.2.1 ≤ a.1.length) && decide ((a.1.length : Int) ≤ a.2.2)))) :=
  cal_F d_is_tuple T.g_is_tuple T.f_is_tuple sc_is_tuple (fun _ _ _ _ _ _ us hl => match us, hl with | [_, _, _], _ => rfl) (fun _ => rfl) fun cdv A outer s H E Q a hr _ q =>
  sx_ret (de_and (de_isi (k := true) rfl T.n_isinstance (de_name 0 rfl) rfl T.n_tuple rfl kTT) fun _ => de_one (de_chain opd_le (fun _ => opd_le) ⟨_, op_le⟩ (de_name 1 rfl) (de_len rfl T.n_len (de_name 0 rfl)) (de_name 2 rfl)))
    fun v H1 x t => q v H1 x t
theorem cal_is_worth (T : Tx K mg w) (k : Nat) : Cal P w K mg base "is_worth" (k + 1) (spF K (fun a : Int => [.int a]) (fun _ => True) (fun a => .bool (worthOk a))) :=
  cal_F d_is_worth T.g_is_worth T.f_is_worth sc_is_worth (fun _ _ _ _ _ _ us hl => match us, hl with | [_], _ => rfl) (fun _ => rfl) fun cdv A outer s H E Q a hr _ q =>
  sx_ret (DE.to (de_and (de_isi (k := true) rfl T.n_isinstance (de_name 0 rfl) rfl T.n_int rfl kII) fun _ => de_and (de_not (de_isi (k := false) rfl T.n_isinstance (de_name 0 rfl) rfl T.n_bool rfl kIB)) fun _ =>
    de_one (de_chain opd_le (fun _ => opd_le) ⟨_, op_le⟩ de_int (de_name 0 rfl) (de_gint T.GREATEST))) (by unfold worthOk; simp [Bool.decide_and]))
    fun v H1 x t => q v H1 x t
theorem cal_is_name (T : Tx K mg w) (k : Nat) : Cal P w K mg base "is_name" (k + 1) (spF K (fun a : Str => [.str a]) (fun a => nameOk a = true) (fun a => .bool true)) :=
  cal_F d_is_name T.g_is_name T.f_is_name sc_is_name (fun _ _ _ _ _ _ us hl => match us, hl with | [_], _ => rfl) (fun _ => rfl) fun cdv A outer s H E Q a hr ok q =>
  sx_ret (DE.to (de_and (de_isi (k := true) rfl T.n_isinstance (de_name 0 rfl) rfl T.n_str rfl kSS) fun _ =>
    de_and (de_chain opd_le (fun _ => opd_le) ⟨_, op_le⟩ de_int (de_lenS (Nat.le_trans (nameOk_len ok).2 (by decide)) rfl T.n_len (de_name 0 rfl)) (de_gint T.LONGEST)) fun _ => de_one
    (de_all (bs := a.cps.toList.map fun c => !(Builtin.Str.occurrences "abcdefghijklmnopqrstuvwxyz" ⟨#[c]⟩ 0 ("abcdefghijklmnopqrstuvwxyz" : Str).length 1).isEmpty) rfl rfl T.n_all
      (LE.to (le_lc (xs := a.cps.toList) (enc := eSign) (own := [("sign", 1)]) (c := fun _ => true) (f := fun c => .bool (!(Builtin.Str.occurrences "abcdefghijklmnopqrstuvwxyz" ⟨#[c]⟩ 0 ("abcdefghijklmnopqrstuvwxyz" : Str).length 1).isEmpty)) rfl sc_is_name.nd (ie_str (de_name 0 rfl))
        (blk_ok (by kernel_rfl)) (fun c hc => tu [1] _ fun s0 H0 C cl fp => ⟨tg_name 1 sc_is_name.nd, rfl, fun _ => de_cmp opd_inStr (de_name 1 rfl) (de_gstr T.LETTERS (by decide +kernel))⟩) (small1000 (by
          have := (nameOk_len ok).2
          show a.cps.size ≤ 1000
          unfold Str.length at this
          omega))) (by rw [List.filter_eq_self.mpr fun _ _ => rfl, List.map_map]; rfl))))
    (by
      have h1 := nameOk_len ok
      have e : (a.cps.toList.map fun c => !(Builtin.Str.occurrences "abcdefghijklmnopqrstuvwxyz" ⟨#[c]⟩ 0 ("abcdefghijklmnopqrstuvwxyz" : Str).length 1).isEmpty).all id = true := by
        rw [List.all_map, List.all_eq_true]
        exact fun c hc => letters_in c (nameOk_all ok c hc)
      rw [e, decide_eq_true (show (1 : Int) ≤ (a.length : Nat) by omega), decide_eq_true (show ((a.length : Nat) : Int) ≤ 8 by omega)]
      rfl))
    fun v H1 x t => q v H1 x t
end
end CW
/-! part CwK -/
set_option maxRecDepth 100000
set_option maxHeartbeats 4000000
/-! Keywords: calls with them; defs with keyword-only parameters. -/
namespace CW
open PySem PySem.Spec PyProof.Rows L2
structure RK (X : Cx) (kws : List Keyword) (σ : L2.St) (H : Hp) (Q : List V → Hp → Prop) : Prop where
  run : ∀ pos pins s, Inv X pins σ H s → wpAny (model X.prog X.w) X.A (evalAll ((backToKw pos (keywordEach kws X.env)).map (·.2))) (AP X pins σ Q) X.xe s
theorem pk_rk {X : Cx} {kws : List Keyword} : PK X kws (RK X kws) := ⟨fun pos pins s _ _ _ I h => h.run pos pins s I⟩
theorem rk_of {X : Cx} {kws : List Keyword} {t : TA} {σ : L2.St} {H : Hp} {Q : List V → Hp → Prop} (p : PK X kws t) (h : t σ H Q) : RK X kws σ H Q := ⟨fun pos pins s I => p.run pos pins s σ H Q I h⟩
def KW (X : Cx) (kws : List Keyword) (ρ : List Kd) (H : Hp) (ds : List PyData) : Prop := ∀ σ H1, Sl X.K H1 σ ρ → Ex H H1 → ∀ Q : List V → Hp → Prop, (∀ vs H2, Ex H1 H2 → Tps X.K H2 vs ds → Q vs H2) → RK X kws σ H1 Q
section
variable {X : Cx} {e : Expr} {es : List Expr} {kws : List Keyword} {ρ : List Kd} {H : Hp} {d : PyData} {ds : List PyData} {nm : Option Str} {kpos pos p1 : Pos} {x : Str} {k n : Nat} {ks : List Str} {sp : List V → Sp} {kds : List Kd}
theorem kw_nil : KW X [] ρ H [] := fun σ H1 _ _ Q q => rk_of pk_nil (q _ _ (Ex.refl _) .nil)
theorem kw_cons (h : DE X e ρ H d) (t : KW X kws ρ H ds) : KW X (⟨nm, e, kpos⟩ :: kws) ρ H (d :: ds) := fun σ H1 s x Q q =>
  rk_of (pk_cons pe_re pk_rk) (h σ H1 s x _ fun v H2 x2 t1 => t σ H2 (s.mono x2.xt) (x.trans x2) _ fun vs H3 x3 t2 => q _ H3 (x2.trans x3) (.cons (t1.mono x3.xt) t2))
theorem re_callK {σ : L2.St} {Q : VK} (C : CalK X.prog X.w X.K X.mg X.base x n ks k sp) (hr : Room k X.A) (hg : Gl X x) (h : RA X (e :: es) σ H fun vs H1 => RK X kws σ H1 fun zs H2 => vs.length = n ∧ zs.length = ks.length ∧ sp vs zs H2 Q E0)
    (hall : (backToKw pos (keywordEach kws X.env)).all (·.1.isSome) = true := by rfl) (hks : (backToKw pos (keywordEach kws X.env)).filterMap (·.1) = ks := by rfl)
    (hdb : (x == ("__debug__" : Str)) = false := by decide) (he : starEach (e :: es) X.env = (false, eval e X.env) :: starEach es X.env := by rfl)
    (hpl : ((backTo pos (starEach (e :: es) X.env)).any (·.1) || (backToKw pos (keywordEach kws X.env)).any (·.1.isNone)) = false := by rfl) : RE X (.Call (.Name x p1) (e :: es) kws pos) σ H Q := by
  obtain ⟨f, fd, ps, sp0, F, hm, hk, hb, hsp⟩ := C.ex
  exact re_of (pe_callN F hr hg hm hk hb pass0 pa_ra pk_rk hall hks hdb he hpl) ⟨fun pos pins s I => wpAny_mono (h.run pos pins s I) (fun us s' ⟨vs, H1, I1, r, q⟩ => ⟨vs, H1, I1, r, ⟨fun pos pins s I => wpAny_mono (q.run pos pins s I) (fun us s' ⟨zs, H2, I2, r2, l1, l2, q2⟩ => ⟨zs, H2, I2, r2, l1, l2, hsp _ _ _ _ _ q2⟩) fun _ _ z => z⟩⟩) fun _ _ z => z⟩
/-- a call with keywords, whatever it comes to -/
theorem ge_callK {R : V → Hp → Prop} (C : CalK X.prog X.w X.K X.mg X.base x n ks k sp) (hr : Room k X.A) (ha : AK X (e :: es) ρ H kds) (hkw : KW X kws ρ H ds)
    (post : ∀ H1 vs zs, Ex H H1 → KE' X.K H1 vs kds → Tps X.K H1 zs ds → ∀ Q : VK, (∀ v H2, R v H2 → Q v H2) → sp vs zs H1 Q E0) (hn : kds.length = n := by rfl) (hm : ds.length = ks.length := by rfl) (hg : Gl X x := by rfl)
    (hall : (backToKw pos (keywordEach kws X.env)).all (·.1.isSome) = true := by rfl) (hks : (backToKw pos (keywordEach kws X.env)).filterMap (·.1) = ks := by rfl)
    (hdb : (x == ("__debug__" : Str)) = false := by decide) (he : starEach (e :: es) X.env = (false, eval e X.env) :: starEach es X.env := by rfl)
    (hpl : ((backTo pos (starEach (e :: es) X.env)).any (·.1) || (backToKw pos (keywordEach kws X.env)).any (·.1.isNone)) = false := by rfl) : GE X (.Call (.Name x p1) (e :: es) kws pos) ρ H R := fun σ s Q q =>
  re_callK C hr hg (ha σ H s (Ex.refl _) _ fun vs H2 x2 kv => hkw σ H2 (s.mono x2.xt) x2 _ fun zs H3 x3 tz => ⟨kv.len.trans hn, tz.len.trans hm, post H3 vs zs (x2.trans x3) (kv.mono x3.xt) tz Q q⟩) hall hks hdb he hpl
theorem de_callK (C : CalK X.prog X.w X.K X.mg X.base x n ks k sp) (hr : Room k X.A) (ha : AK X (e :: es) ρ H kds) (hkw : KW X kws ρ H ds)
    (post : ∀ H1 vs zs, Ex H H1 → KE' X.K H1 vs kds → Tps X.K H1 zs ds → ∀ Q : VK, (∀ v H2, Ex H1 H2 → Tp X.K H2 v d → Q v H2) → sp vs zs H1 Q E0) (hn : kds.length = n := by rfl) (hm : ds.length = ks.length := by rfl) (hg : Gl X x := by rfl)
    (hall : (backToKw pos (keywordEach kws X.env)).all (·.1.isSome) = true := by rfl) (hks : (backToKw pos (keywordEach kws X.env)).filterMap (·.1) = ks := by rfl)
    (hdb : (x == ("__debug__" : Str)) = false := by decide) (he : starEach (e :: es) X.env = (false, eval e X.env) :: starEach es X.env := by rfl)
    (hpl : ((backTo pos (starEach (e :: es) X.env)).any (·.1) || (backToKw pos (keywordEach kws X.env)).any (·.1.isNone)) = false := by rfl) : DE X (.Call (.Name x p1) (e :: es) kws pos) ρ H d := fun σ H1 s y Q q =>
  re_callK C hr hg (ha σ H1 s y _ fun vs H2 x2 kv => hkw σ H2 (s.mono x2.xt) (y.trans x2) _ fun zs H3 x3 tz => ⟨kv.len.trans hn, tz.len.trans hm, post H3 vs zs ((y.trans x2).trans x3) (kv.mono x3.xt) tz Q fun v H4 x4 t => q v H4 ((x2.trans x3).trans x4) t⟩) hall hks hdb he hpl
end
section
variable {P : Program} {w : World} {K : PySem.W.Frag} {mg : Str → Option Value} {base : Heap} {x : Str} {N ps : List Str} {k : Nat} {sp : Sp}
/-- a def with keyword-only parameters (no other defaults) and its promise -/
structure KwOk (P : Program) (w : World) (K : PySem.W.Frag) (mg : Str → Option Value) (base : Heap) (d : He.DefD) (x : Str) (ps : List Str) (k : Nat) (sp : Sp) : Prop where
  ex : ∃ fd, FunD K d.name d.qual d.params d.body d.scope [] (d.kws K) (He.fAd K (x, none)) fd ∧ FnOk P w K mg base CX0 k (He.fAd K (x, none)) fd ps sp
  g : mg x = some (.ref (He.fAd K (x, none)))
theorem kwok (d : He.DefD) (hg : mg x = some (.ref (He.fAd K (x, none)))) (hf : ∃ fd, FunD K d.name d.qual d.params d.body d.scope (d.dvs K) (d.kws K) (He.fAd K (x, none)) fd) (S : FnScope N ps d.scope) (len : ∀ vs H Q E, sp vs H Q E → vs.length = ps.length)
    (body : ∀ cdv A outer s H E vs Q, Room k (CC P w K mg base d N (He.fAd K (x, none)) cdv A outer s H E).A → sp vs H Q E → RSs (CC P w K mg base d N (He.fAd K (x, none)) cdv A outer s H E) d.body (DE0 Q) (L2.start N vs) H) (hd : d.dfl = [] := by rfl) : KwOk P w K mg base d x ps (k + 1) sp := by
  obtain ⟨fd, F⟩ := hf
  have e : d.dvs K = [] := by unfold He.DefD.dvs; rw [hd]; rfl
  rw [e] at F
  exact ⟨⟨fd, F, F.ok S len fun cdv A outer s H vs Q E hr h => ⟨_, PSs.nox pss_rss, body cdv A outer s H E vs Q hr h⟩⟩, hg⟩
theorem kwok_F {α : Type} {args : α → List PyData} {pre : α → Prop} {res : α → PyData} (d : He.DefD) (hg : mg x = some (.ref (He.fAd K (x, none)))) (hf : ∃ fd, FunD K d.name d.qual d.params d.body d.scope (d.dvs K) (d.kws K) (He.fAd K (x, none)) fd) (S : FnScope N ps d.scope)
    (len : ∀ a, (args a).length = ps.length)
    (body : ∀ cdv A outer s H E Q a, Room k (CC P w K mg base d N (He.fAd K (x, none)) cdv A outer s H E).A → pre a → (∀ v H', Ex H H' → Tp K H' v (res a) → Q v H') → SX (CC P w K mg base d N (He.fAd K (x, none)) cdv A outer s H E) d.body (rho0 N (args a)) H (DE0 Q))
    (hd : d.dfl = [] := by rfl) : KwOk P w K mg base d x ps (k + 1) (spF K args pre res) :=
  kwok d hg hf S (fun vs H Q E ⟨a, t, _, _⟩ => by rw [t.len, len]) (fun cdv A outer s H E vs Q hr ⟨a, t, p, q⟩ => body cdv A outer s H E Q a hr p q _ (sl_start t)) hd
/-- called without its keywords -/
theorem KwOk.lack {d : He.DefD} (C : KwOk P w K mg base d x ps k sp) (n : Nat) (hk : d.kwd ≠ []) (hn : n + d.kwd.length = ps.length)
    (h : ∀ (D : Addr) (doc pm : Value) (an : Option Addr) (cdv ct : Value) (us ks : List Value), us.length = n → ks.length = d.kwd.length →
      KwChain D ((d.kwd.map (·.1)).zip ks) (bindArgs (PySem.W.fnOf d.name d.qual d.params d.body d.scope .none (.ref D) doc pm an cdv ct) ⟨us, []⟩) (ps.zip (us ++ ks))) : Cal P w K mg base x k (fun vs H Q E => sp (vs ++ (d.kws K).map (·.2)) H Q E) := by
  obtain ⟨⟨fd, F, ok⟩, hg⟩ := C
  have hm : (d.kws K).map (·.1) = d.kwd.map (·.1) := by unfold He.DefD.kws; rw [List.map_map]; rfl
  have hl : (d.kws K).length = d.kwd.length := by unfold He.DefD.kws; rw [List.length_map]
  obtain ⟨ds, hv, hb⟩ := F.binds0 (ps := ps) n (by unfold He.DefD.kws; simpa using hk) (by rw [hl]; exact hn) (fun D doc pm an cdv ct us ks h1 h2 => by rw [hm]; exact h D doc pm an cdv ct us ks h1 (h2.trans hl))
  exact ⟨_, fd, ps, ds, (d.kws K).map (·.2), sp, ok, hg, F.kp, hb, hv, fun vs H Q E q => q⟩
/-- called with all its keywords -/
theorem KwOk.full {d : He.DefD} (C : KwOk P w K mg base d x ps k sp) (n : Nat) (hk : d.kwd ≠ [])
    (h : ∀ (D : Addr) (doc pm : Value) (an : Option Addr) (cdv ct : Value) (us ws : List Value), us.length = n → ws.length = d.kwd.length →
      bindArgs (PySem.W.fnOf d.name d.qual d.params d.body d.scope .none (.ref D) doc pm an cdv ct) ⟨us, (d.kwd.map (·.1)).zip ws⟩ = pure (ps.zip (us ++ ws))) : CalK P w K mg base x n (d.kwd.map (·.1)) k (fun vs zs H Q E => sp (vs ++ zs) H Q E) := by
  obtain ⟨⟨fd, F, ok⟩, hg⟩ := C
  obtain ⟨mv, hb⟩ := F.kbinds0 (ps := ps) n (d.kwd.map (·.1)) [] (fun vs _ zs => vs ++ zs) (by unfold He.DefD.kws; simpa using hk) (fun q hq => by cases hq) (fun r1 _ r2 => r1.append r2)
    (fun D doc pm an cdv ct us mv ws h1 h2 h3 => h D doc pm an cdv ct us ws h1 (by rw [h3, List.length_map]))
  exact ⟨_, fd, ps, sp, ok, hg, F.kp, hb, fun vs zs H Q E q => q⟩
end
end CW
/-! part CwX -/
set_option maxRecDepth 100000
set_option maxHeartbeats 4000000
/-! Data: loops, methods of lists, slices, zip. -/
namespace CW
open PySem PySem.Spec PyProof.Rows L2
/-! ### walks whose turns may change the heap -/
def YldsG (zf : Bool) (K : PySem.W.Frag) (J : It) (G : Hp → Prop) (ds : List PyData) : Prop := ∀ H', G H' → J.stop ds.length H' ∧ ∀ i d, ds[i]? = some d → J.go i H' ∧ ∀ v H'', J.yld i H' v H'' → Ex H' H'' ∧ TpZ zf K H'' v d
def IG (zf : Bool) (X : Cx) (tg iter : Expr) (ρ : List Kd) (H : Hp) (G : Hp → Hp → Prop) (ds : List PyData) : Prop := ∃ wi, PI X tg iter wi ∧ ∀ σ H1, Sl X.K H1 σ ρ → Ex H H1 → ∀ R : It → Hp → Prop, (∀ J H2, Ex H1 H2 → YldsG zf X.K J (G H2) ds → R J H2) → wi σ H1 R
section
variable {X : Cx} {tg iter e a b : Expr} {ρ : List Kd} {H : Hp} {ds as bs : List PyData} {d : PyData} {pos p1 : Pos}
theorem IG.ie {zf : Bool} {G : Hp → Hp → Prop} (h : IG zf X tg iter ρ H G ds) (g : ∀ H1 H2, Ex H H1 → Ex H1 H2 → G H1 H2) : IE zf X tg iter ρ H ds := by
  obtain ⟨wi, pi, hw⟩ := h
  exact ⟨wi, pi, fun σ H1 s x R r => hw σ H1 s x R fun J H2 x2 y => r J H2 x2 fun H' x' => y H' (g H2 H' (x.trans x2) x')⟩
theorem yldsg_tup {K : PySem.W.Frag} {p : Addr} {xs : List V} {H : Hp} (sq : SqT K H p xs) (t : Tps K H xs ds) : YldsG false K (Itt K p) (Xt H) ds := fun H' x =>
  ⟨⟨xs, x.sq sq, Nat.le_of_eq t.len⟩, fun i d hd => by
    obtain ⟨v, hv, tv⟩ := t.at hd
    refine ⟨⟨xs, v, x.sq sq, hv⟩, fun w H'' y => ?_⟩
    obtain ⟨rfl, y⟩ := y
    rw [y xs (x.sq sq)] at hv
    cases hv
    exact ⟨Ex.refl _, (tv.mono x).z⟩⟩
theorem ig_tup (h : DE X iter ρ H (.tuple ds)) : IG false X tg iter ρ H Xt ds := ⟨_, pi_tup pe_re, fun σ H1 s x R r => h σ H1 s x _ fun v H2 x2 t => by
  obtain ⟨p, xs, rfl, sq, u⟩ := t.tuple_inv
  exact ⟨p, rfl, ⟨xs, sq⟩, r _ H2 x2 (yldsg_tup sq u)⟩⟩
/-- a list that stands in a slot -/
theorem ig_obj {p : Addr} {xs : List V} (h : OE X iter ρ H p) (hH : SqL X.K H p xs) (t : Tps X.K H xs ds) : IG false X tg iter ρ H (fun H1 H' => Xt H1 H' ∧ SqL X.K H' p xs) ds := ⟨_, pi_list pe_re, fun σ H1 s x R r => h σ H1 s x _
  ⟨p, rfl, ⟨xs, x.sql hH⟩, r _ H1 (Ex.refl _) fun H' ⟨g, sq⟩ => ⟨⟨xs, sq, Nat.le_of_eq t.len⟩, fun i d hd => by
    obtain ⟨v, hv, tv⟩ := t.at hd
    refine ⟨⟨xs, v, sq, hv⟩, fun w H'' y => ?_⟩
    obtain ⟨rfl, y⟩ := y
    rw [y xs sq] at hv
    cases hv
    exact ⟨Ex.refl _, ((tv.mono x.xt).mono g).z⟩⟩⟩⟩
theorem ig_range1 {j : Int} (hg : Gl X "range") (hm : X.mg "range" = none) (h : DE X e ρ H (.int j)) (hj : -(2 ^ 62) ≤ j ∧ j < 2 ^ 62) (hs : starEach [e] X.env = (false, eval e X.env) :: starEach [] X.env := by rfl) : IG false X tg (.Call (.Name "range" p1) [e] [] pos) ρ H (fun _ _ => True) ((List.range j.toNat).map fun i => .int (i : Nat)) :=
  ⟨_, pi_range1 hg hm (pa_cons pe_re pa_nil hs) hs, fun σ H1 s x R r => h σ H1 s x _ fun v H2 x2 t => ⟨j, by rw [t.int_inv], hj.1, hj.2, r _ H2 x2 fun H' x3 => ⟨by simp [Itr]; omega, fun i d hd => by
    rw [List.getElem?_map] at hd
    cases q : (List.range j.toNat)[i]? with
    | none => rw [q] at hd; cases hd
    | some z =>
      obtain ⟨hz, e⟩ := List.getElem?_eq_some_iff.mp q
      rw [List.getElem_range] at e
      subst e
      rw [q] at hd
      cases hd
      rw [List.length_range] at hz
      refine ⟨by show i < j.toNat; exact hz, fun w H'' y => ?_⟩
      obtain ⟨rfl, rfl⟩ := y
      refine ⟨Ex.refl _, ?_⟩
      show TpZ false X.K _ (.int (0 + (i : Int))) (.int (i : Nat))
      rw [Int.zero_add]
      exact (Tp.int _).z⟩⟩⟩
/-- pairs -/
def prs2 (as bs : List PyData) : List PyData := List.zipWith (fun a b => .tuple [a, b]) as bs
theorem prs2_get {as bs : List PyData} {i : Nat} {d : PyData} (h : (prs2 as bs)[i]? = some d) : ∃ x y, as[i]? = some x ∧ bs[i]? = some y ∧ d = .tuple [x, y] := by
  unfold prs2 at h
  rw [List.getElem?_zipWith] at h
  cases e : as[i]? with
  | none => rw [e] at h; cases h
  | some x =>
    cases e2 : bs[i]? with
    | none => rw [e, e2] at h; cases h
    | some y =>
      rw [e, e2] at h
      cases h
      exact ⟨x, y, rfl, rfl, rfl⟩
theorem yldsg_zipT {K : PySem.W.Frag} {p q : Addr} {xs ys : List V} {H : Hp} (sq : SqT K H p xs) (t : Tps K H xs as) (sq2 : SqT K H q ys) (t2 : Tps K H ys bs) : YldsG true K (RZ.ItzT K p q) (Xt H) (prs2 as bs) := fun H' x =>
  ⟨⟨xs, ys, x.sq sq, x.sq sq2, by unfold prs2; rw [List.length_zipWith, t.len, t2.len]; omega⟩, fun i d hd => by
    obtain ⟨dx, dy, hx, hy, rfl⟩ := prs2_get hd
    obtain ⟨v, hv, tv⟩ := t.at hx
    obtain ⟨u, hu, tu⟩ := t2.at hy
    refine ⟨⟨xs, ys, v, u, x.sq sq, x.sq sq2, hv, hu⟩, fun w H'' y => ?_⟩
    obtain ⟨T, x', y', rfl, hT, rfl, f1, f2⟩ := y
    have h1 := f1 xs (x.sq sq)
    have h2 := f2 ys (x.sq sq2)
    rw [h1] at hv
    rw [h2] at hu
    cases hv
    cases hu
    exact ⟨Ex.new hT, .of (SqT.of upd_same) (.cons ((tv.mono x).mono (Ex.new hT).xt) (.cons ((tu.mono x).mono (Ex.new hT).xt) .nil))⟩⟩
theorem ig_zipT {elts : List Expr} {kk : Nat} {tpos : Pos} (hg : Gl X "zip") (hm : X.mg "zip" = none) (h1 : DE X a ρ H (.tuple as)) (h2 : DE X b ρ H (.tuple bs)) (hs1 : starEach [b] X.env = (false, eval b X.env) :: starEach [] X.env := by rfl)
    (hs : starEach [a, b] X.env = (false, eval a X.env) :: starEach [b] X.env := by rfl) (hpl : (backTo pos (starEach [b] X.env)).any (·.1) = false := by rfl) : IG true X (.Tuple elts kk tpos) (.Call (.Name "zip" p1) [a, b] [] pos) ρ H Xt (prs2 as bs) :=
  ⟨_, RZ.pi_zipA hg hm (pa_cons pe_re (pa_cons pe_re pa_nil hs1) hs) hs hpl, fun σ H1 s x R r => h1 σ H1 s x _ fun v H2 x2 t => h2 σ H2 (s.mono x2.xt) (x.trans x2) _ fun u H3 x3 t3 => by
    obtain ⟨p, xs, rfl, sq, u1⟩ := (t.mono x3.xt).tuple_inv
    obtain ⟨q, ys, rfl, sq2, u2⟩ := t3.tuple_inv
    exact ⟨p, q, xs, ys, rfl, .inr ⟨sq, sq2, r _ H3 (x2.trans x3) (yldsg_zipT sq u1 sq2 u2)⟩⟩⟩
/-- zip(xs, ys) of a list in a slot and a new list -/
theorem ie_zipL {elts : List Expr} {kk : Nat} {tpos : Pos} {p : Addr} {xs : List V} (hg : Gl X "zip") (hm : X.mg "zip" = none) (h1 : OE X a ρ H p) (hH : SqL X.K H p xs) (t : Tps X.K H xs as) (h2 : LE X b ρ H bs) (hs1 : starEach [b] X.env = (false, eval b X.env) :: starEach [] X.env := by rfl)
    (hs : starEach [a, b] X.env = (false, eval a X.env) :: starEach [b] X.env := by rfl) (hpl : (backTo pos (starEach [b] X.env)).any (·.1) = false := by rfl) : IE true X (.Tuple elts kk tpos) (.Call (.Name "zip" p1) [a, b] [] pos) ρ H (prs2 as bs) :=
  ⟨_, RZ.pi_zipA hg hm (pa_cons pe_re (pa_cons pe_re pa_nil hs1) hs) hs hpl, fun σ H1 s x R r => h1 σ H1 s x _ (h2 σ H1 s x _ fun q ys H3 hq x3 hl t2 => by
    have sq : SqL X.K H3 p xs := x3.sql (x.sql hH)
    have sq2 : SqL X.K H3 q ys := SqL.of hl
    refine ⟨p, q, xs, ys, rfl, .inl ⟨sq, sq2, r _ H3 x3 fun H' x' => ⟨⟨xs, ys, x'.sql sq, x'.sql sq2, by unfold prs2; rw [List.length_zipWith, t.len, t2.len]; omega⟩, fun i d hd => ?_⟩⟩⟩
    obtain ⟨dx, dy, hx, hy, rfl⟩ := prs2_get hd
    obtain ⟨v, hv, tv⟩ := t.at hx
    obtain ⟨u, hu, tu⟩ := t2.at hy
    refine ⟨⟨xs, ys, v, u, x'.sql sq, x'.sql sq2, hv, hu⟩, fun w H'' y => ?_⟩
    obtain ⟨T, x1, y1, rfl, hT, rfl, f1, f2⟩ := y
    have h1 := f1 xs (x'.sql sq)
    have h2 := f2 ys (x'.sql sq2)
    rw [h1] at hv
    rw [h2] at hu
    cases hv
    cases hu
    exact ⟨Ex.new hT, .of (SqT.of upd_same) (.cons ((((tv.mono x.xt).mono x3.xt).mono x'.xt).mono (Ex.new hT).xt) (.cons ((tu.mono x'.xt).mono (Ex.new hT).xt) .nil))⟩)⟩
/-! ### for -/
variable {sts sb : List Stmt} {D : Ends}
/-- what a turn wants behind it -/
abbrev loopD (X : Cx) (sts : List Stmt) (D : Ends) (N : L2.St → Hp → Prop) : Ends := { thenD X sts D with nx := N, ct := N, bk := fun σ H => RSs X sts D σ H }
theorem sx_for {zf : Bool} {G : Hp → Hp → Prop} (I : Hp → Nat → List Kd → Hp → Prop) (hc : X.calm = true) (hp : PassesOwn (model X.prog X.w) X.A X.env X.xe) (hi : IG zf X tg iter ρ H G ds) (h0 : ∀ H2, Ex H H2 → I H2 0 ρ H2)
    (hG : ∀ H2 i ρ' H', Ex H H2 → i ≤ ds.length → I H2 i ρ' H' → G H2 H')
    (turn : ∀ H2 i d ρ' H', Ex H H2 → ds[i]? = some d → I H2 i ρ' H' → ∃ is ρ'', TgE zf X tg is d ρ' ρ'' ∧ ∀ H3, Ex H' H3 → SX X sb ρ'' H3 (loopD X sts D fun σ H4 => ∃ ρ4, Sl X.K H4 σ ρ4 ∧ I H2 (i + 1) ρ4 H4))
    (k : ∀ H2 ρ' H', Ex H H2 → I H2 ds.length ρ' H' → SX X sts ρ' H' D) (hs : ∀ x, foldedSetIterable iter X.env x = pure x := by intro _; rfl) : SX X (.For tg iter sb [] pos :: sts) ρ H D := by
  obtain ⟨wi, pi, hw⟩ := hi
  refine sx_cons (ps_for hp hc pi pg_rg pss_rss hs) fun σ s => hw σ H s (Ex.refl _) _ fun J H2 x2 y => ?_
  refine ⟨fun i m σ' H' => m = ds.length - i ∧ i ≤ ds.length ∧ ∃ ρ', Sl X.K H' σ' ρ' ∧ I H2 i ρ' H', ⟨_, rfl, Nat.zero_le _, ρ, s.mono x2.xt, h0 H2 x2⟩, ?_⟩
  rintro i m σ' H' ⟨rfl, hi, ρ', s', inv⟩
  obtain ⟨y1, y2⟩ := y H' (hG H2 i ρ' H' x2 hi inv)
  by_cases e : i = ds.length
  · subst e
    exact .inl ⟨y1, k H2 ρ' H' x2 inv σ' s'⟩
  · right
    have hlt : i < ds.length := by omega
    have hd : ds[i]? = some ds[i] := List.getElem?_eq_getElem hlt
    obtain ⟨go, yl⟩ := y2 i _ hd
    refine ⟨go, fun σ4 H4 => ∃ ρ4, Sl X.K H4 σ4 ρ4 ∧ I H2 (i + 1) ρ4 H4, fun σ4 H4 n => ⟨ds.length - (i + 1), by omega, rfl, hlt, n⟩, fun v H3 hy => ?_⟩
    obtain ⟨x3, tv⟩ := yl v H3 hy
    obtain ⟨is, ρ'', ht, hb⟩ := turn H2 i _ ρ' H' x2 hd inv
    exact ht σ' H3 v _ (s'.mono x3.xt) tv fun σ4 s4 _ => hb H3 x3 σ4 s4
/-! ### methods of lists -/
theorem tyV_lst {K : PySem.W.Frag} {p : Addr} {xs : List V} {H : Hp} (h : SqL K H p xs) : tyV K "list" (.ref p) H := .inl ⟨rfl, xs, h⟩
theorem ge_append {p : Addr} {xs : List V} {apos : Pos} (ho : OE X a ρ H p) (hH : H p = some (.lst xs)) (he : DE X e ρ H d) (hz : xs.length < sizeLine)
    (hbase : attributeBase a "append" X.env (eval a X.env) = eval a X.env := by rfl)
    (hfew : ((backTo pos (starEach [e] X.env)).all (fun x => !x.1) && (backToKw pos (keywordEach [] X.env)).all (fun x => x.1.isSome)
      && decide (([e] : List Expr).length + ([] : List Keyword).length + (if ([] : List Keyword).isEmpty then 0 else 1) < 30)) = true := by rfl)
    (hline : (apos.endLine == pos.line) = true := by rfl) (hs : starEach [e] X.env = (false, eval e X.env) :: starEach [] X.env := by rfl) (hplain : (backTo pos (starEach [] X.env)).any (·.1) = false := by rfl) :
    GE X (.Call (.Attribute a "append" apos) [e] [] pos) ρ H (fun v H' => v = .non ∧ ∃ w H1, Ex H H1 ∧ Tp X.K H1 w d ∧ H' = upd H1 p (.lst (xs ++ [w]))) := fun σ s Q q =>
  re_of (pe_bm (r := rAppend) F.plainAttrs_list F.slot_list_append type_list_append mt_append pe_re (pa_cons pe_re pa_nil hs) hbase hfew hline hs hplain) (ho σ H s (Ex.refl _) _ ⟨tyV_lst (SqL.of hH), he σ H s (Ex.refl _) _ fun w H1 x t =>
    ⟨p, xs, w, rfl, rfl, x _ _ hH, hz, q _ _ ⟨rfl, w, H1, x, t, rfl⟩⟩⟩)
theorem xt_app {H H1 : Hp} {p : Addr} {xs ys : List V} (x : Ex H H1) (hH : H p = some (.lst xs)) : Xt H (upd H1 p (.lst ys)) := x.xt.trans (Xt.upd (x _ _ hH) (by intro _ z; cases z) (by intro _ _ z; cases z))
theorem sx_append {p : Addr} {xs : List V} {apos spos : Pos} (ho : OE X a ρ H p) (hH : H p = some (.lst xs)) (he : DE X e ρ H d) (hz : xs.length < sizeLine) (k : ∀ w H1, Ex H H1 → Tp X.K H1 w d → SX X sts ρ (upd H1 p (.lst (xs ++ [w]))) D)
    (hbase : attributeBase a "append" X.env (eval a X.env) = eval a X.env := by rfl)
    (hfew : ((backTo pos (starEach [e] X.env)).all (fun x => !x.1) && (backToKw pos (keywordEach [] X.env)).all (fun x => x.1.isSome)
      && decide (([e] : List Expr).length + ([] : List Keyword).length + (if ([] : List Keyword).isEmpty then 0 else 1) < 30)) = true := by rfl)
    (hline : (apos.endLine == pos.line) = true := by rfl) (hs : starEach [e] X.env = (false, eval e X.env) :: starEach [] X.env := by rfl) (hplain : (backTo pos (starEach [] X.env)).any (·.1) = false := by rfl)
    (hsw : swapsWith (.Call (.Attribute a "append" apos) [e] [] pos) none spos.line X.env = pure false := by rfl) : SX X (.Expr (.Call (.Attribute a "append" apos) [e] [] pos) spos :: sts) ρ H D :=
  sx_drop (ge_append ho hH he hz hbase hfew hline hs hplain) (fun v H' ⟨_, w, H1, x, t, e⟩ => by subst e; exact ⟨xt_app x hH, k w H1 x t⟩) hsw
/-! ### slices from the second on -/
theorem cut1 (xs : List V) : cutV xs (some 1) none = xs.drop 1 := by
  unfold cutV
  have e : HT.sIx xs.length 0 (some 1) = min 1 xs.length := HT.sIx_nat xs.length 0 1
  rw [e, HT.sIx_none]
  cases xs with
  | nil => rfl
  | cons a r => simp
theorem Tps.drop {K : PySem.W.Frag} {H : Hp} : ∀ (n : Nat) {vs : List V} {ds : List PyData}, Tps K H vs ds → Tps K H (vs.drop n) (ds.drop n)
  | 0, _, _, h => h
  | n + 1, _, _, .nil => .nil
  | n + 1, _, _, .cons _ t => Tps.drop n t
theorem de_tail {p2 : Pos} {j : Nat} {p3 : Pos} (h : DE X e ρ H (.tuple ds)) : DE X (.Subscript e (.Slice (some (.Constant (.int 1) j p3)) none none p2) pos) ρ H (.tuple (ds.drop 1)) := fun σ H1 s x Q q =>
  re_of (pe_slice sl_tupF pe_re (po_some pe_int) po_none) (h σ H1 s x _ fun v H2 x2 t => by
    obtain ⟨p, xs, rfl, sq, u⟩ := t.tuple_pl
    refine ⟨1, rfl, p, xs, rfl, sq.sq, fun hw => ?_, fun hw l o hl ho => ?_⟩
    · have hx : xs = [] := by
        have e : HT.sIx xs.length 0 (some 1) = min 1 xs.length := HT.sIx_nat xs.length 0 1
        rw [e] at hw
        cases xs with
        | nil => rfl
        | cons a r =>
          have := hw.1
          simp at this
      subst hx
      cases u
      exact q _ _ x2 (.tup sq .nil)
    · rw [cut1]
      refine q _ _ (x2.trans (Ex.new hl)) (.tup (PlT.of ho upd_same) ((u.mono (Ex.new hl).xt).drop 1)))
theorem le_tailL {p2 : Pos} {j : Nat} {p3 : Pos} {p : Addr} {xs : List V} (h : OE X e ρ H p) (hH : SqL X.K H p xs) (t : Tps X.K H xs ds) : LE X (.Subscript e (.Slice (some (.Constant (.int 1) j p3)) none none p2) pos) ρ H (ds.drop 1) := fun σ H1 s x Q q =>
  re_of (pe_slice sl_list pe_re (po_some pe_int) po_none) (h σ H1 s x _ ⟨1, rfl, p, xs, rfl, x.sql hH, fun l hl => by
    rw [cut1]
    exact q l _ _ hl (Ex.new hl) upd_same (((t.mono x.xt).mono (Ex.new hl).xt).drop 1)⟩)
end
end CW
/-! part CwW2 -/
set_option maxRecDepth 100000
set_option maxHeartbeats 4000000
/-! The walk: pairs, plans, asks. -/
namespace CW
open PySem PySem.Spec PyProof.Rows L2
section
variable {X : Cx} {e : Expr} {ρ : List Kd} {H : Hp} {pos : Pos} {ds : List PyData} {d : PyData}
/-- an item of a tuple, by a written place -/
theorem de_at (i : Nat) {v : Int} {j : Nat} {p2 : Pos} (h1 : DE X e ρ H (.tuple ds)) (hv : v = (i : Int) := by rfl) (hd : ds[i]? = some d := by rfl) : DE X (.Subscript e (.Constant (.int v) j p2) pos) ρ H d := de_ixT hv h1 de_int hd
theorem dec_eq' {p q : Prop} {a : Decidable p} {b : Decidable q} (h : p ↔ q) : @decide p a = @decide q b := by
  by_cases hp : p
  · rw [decide_eq_true hp, decide_eq_true (h.mp hp)]
  · rw [decide_eq_false hp, decide_eq_false fun z => hp (h.mpr z)]
end
theorem map_eInts (xs : List Int) : PyData.tuple (xs.map .int) = eInts xs := rfl
theorem map_ePrs {α : Type} (xs : List α) (g : α → Pr) : PyData.tuple (xs.map fun x => ePr (g x)) = ePrs (xs.map g) := by
  unfold ePrs
  rw [List.map_map]
  rfl
section
variable {P : Program} {w : World} {K : PySem.W.Frag} {mg : Str → Option Value} {base : Heap} {k : Nat}
theorem cal_is_pair (T : Tx K mg w) (k : Nat) : Cal P w K mg base "is_pair" (k + 2) (spF K (fun p : Pr => [ePr p]) (fun p => pairOk p = true) (fun _ => .bool true)) :=
  cal_F d_is_pair T.g_is_pair T.f_is_pair sc_is_pair (fun _ _ _ _ _ _ us hl => match us, hl with | [_], _ => rfl) (fun _ => rfl) fun cdv A outer s H E Q p hr ok q => by
  have ok2 : nameOk p.1 = true ∧ worthOk p.2 = true := by unfold pairOk at ok; rwa [Bool.and_eq_true] at ok
  exact sx_ret (DE.to (de_and (de_fn (cal_is_tuple T k) hr ([.str p.1, .int p.2], 2, 2) (ae_cons (de_name 0 rfl) (ae_cons de_int (ae_cons de_int ae_nil))) trivial) fun _ =>
    de_and (de_fn (cal_is_name T k) hr p.1 (ae_cons (de_at (ds := [.str p.1, .int p.2]) 0 (de_name 0 rfl)) ae_nil) ok2.1) fun _ => de_one (de_fn (cal_is_worth T k) hr p.2 (ae_cons (de_at (ds := [.str p.1, .int p.2]) 1 (de_name 0 rfl)) ae_nil) trivial)) (by rw [ok2.2]; rfl))
    fun v H1 x t => q v H1 x t
theorem cal_left_of (T : Tx K mg w) (k : Nat) : Cal P w K mg base "left_of" (k + 1) (spF K (fun a : Str × List Int × List Pr => [.str a.1, eInts a.2.1, ePrs a.2.2]) (fun a => a.2.1.length ≤ 1000) (fun a => eInts (leftOf a.1 a.2.1 a.2.2))) :=
  cal_F d_left_of T.g_left_of T.f_left_of sc_left_of (fun _ _ _ _ _ _ us hl => match us, hl with | [_, _, _], _ => rfl) (fun _ => rfl) fun cdv A outer s H E Q a hr ok q => by
  obtain ⟨kd, ws, ref⟩ := a
  refine sx_if (be_cmp (opd_inPr hr (kd, -1) ref) (de_tup (ae_cons (de_name 0 rfl) (ae_cons (de_gint T.ALL) ae_nil))) (de_name 2 rfl)) (fun hk H1 x => sx_ret (de_tup ae_nil) fun v H2 x2 t => q v H2 (x.trans x2) ?_) fun hk H1 x => sx_next (sx_ret (de_tupleL rfl T.n_tuple
    (le_lc (xs := ws) (enc := .int) (own := [("worth", 3)]) (f := .int) (c := fun z => !decide ((kd, z) ∈ ref)) rfl sc_left_of.nd (ie_tup (de_name 1 rfl)) (blk_ok (by kernel_rfl))
      (fun z hz => tu [3] _ fun s0 H0 C cl fp => ⟨tg_name 3 sc_left_of.nd, be_cmp (opd_notInPr (by exact hr) (kd, z) ref) (de_tup (ae_cons (de_name 0 rfl) (ae_cons (de_name 3 rfl) ae_nil))) (de_name 2 rfl), fun _ => de_name 3 rfl⟩) (small1000 ok))) fun v H2 x2 t => q v H2 (x.trans x2) ?_)
  · have : leftOf kd ws ref = [] := by unfold leftOf; rw [if_pos (of_decide_eq_true hk)]
    simp only [this]
    exact t
  · have : leftOf kd ws ref = ws.filter fun z => !decide ((kd, z) ∈ ref) := by
      unfold leftOf
      rw [if_neg (of_decide_eq_false hk)]
      congr 1
      funext z
      by_cases h : (kd, z) ∈ ref <;> simp [h]
    simp only [this]
    exact t
structure WsOk (ws : List Wish) : Prop where
  len : ws.length ≤ 1000
  each : ∀ x ∈ ws, x.worths.length ≤ 1000
theorem kw_plan_of (T : Tx K mg w) (k : Nat) : KwOk P w K mg base d_plan_of "plan_of" P_plan_of (k + 2) (spF K (fun a : List Wish × List Pr => [eWishes a.1, ePrs a.2]) (fun a => WsOk a.1) (fun a => ePlan (planOf a.1 a.2))) :=
  kwok_F d_plan_of T.g_plan_of T.f_plan_of sc_plan_of (fun _ => rfl) fun cdv A outer s H E Q a hr ok q => by
  obtain ⟨ws, ref⟩ := a
  refine sx_ret (de_tupleL rfl T.n_tuple (le_lc (xs := ws) (enc := eWish) (own := [("kind", 2), ("worths", 3), ("must", 4), ("needs", 5)]) (f := fun x => eRow (x.kind, leftOf x.kind x.worths ref)) (c := fun _ => true) rfl sc_plan_of.nd (ie_tup (de_name 0 rfl)) (blk_ok (by kernel_rfl))
      (fun z hz => tu [2, 3, 4, 5] _ fun s0 H0 C cl fp => ⟨tg_tup rfl (tgs_cons (tg_name 2 sc_plan_of.nd) (tgs_cons (tg_name 3 sc_plan_of.nd) (tgs_cons (tg_name 4 sc_plan_of.nd) (tgs_cons (tg_name 5 sc_plan_of.nd) tgs_nil)))), rfl, fun _ =>
        de_tup (ae_cons (de_name 2 rfl) (ae_cons (de_fn (cal_left_of T k) (by exact hr) (z.kind, z.worths, ref) (ae_cons (de_name 2 rfl) (ae_cons (de_name 3 rfl) (ae_cons (de_name 1 rfl) ae_nil))) (ok.each z hz)) ae_nil))⟩) (small1000 ok.len))) fun v H2 x2 t => q v H2 x2 ?_
  rw [List.filter_eq_self.mpr fun _ _ => rfl] at t
  have e : ePlan (planOf ws ref) = .tuple (ws.map fun x => eRow (x.kind, leftOf x.kind x.worths ref)) := by
    unfold ePlan planOf
    rw [List.map_map]
    rfl
  rw [e]
  exact t
theorem etup_ok {a : Addr} (h : etupB K a = true) (H : Hp) : PlT K H a [] := by
  unfold etupB at h
  cases q : K.lookup a with
  | none => rw [q] at h; cases h
  | some o =>
    obtain ⟨oc, od, dt, osl⟩ := o
    rw [q] at h
    cases oc with
    | type c =>
      cases od with
      | some d => cases dt <;> cases h
      | none =>
        cases dt with
        | seq its n =>
          simp only [Bool.and_eq_true, decide_eq_true_eq] at h
          obtain ⟨h1, h2⟩ := h
          subst h1
          have e : its = #[] := Array.eq_empty_of_size_eq_zero h2
          subst e
          exact .inr ⟨_, #[], n, q, rfl, rfl, rfl, Nat.zero_le _, .nil⟩
        | _ => cases h
    | _ => cases od <;> cases dt <;> cases h
theorem Tx.exs (T : Tx K mg w) : He.tupB K "PARTS" (partNames.map He.Dv.str) = true ∧ He.valsB K (He.ga K "AT_REST") restKvs = true ∧ etupB K (datAt "AT_REST" "plan" K) = true ∧ etupB K (datAt "AT_REST" "refused" K) = true ∧
    etupB K (kwdAt ("plan_of", none) "refused" K) = true ∧ etupB K (kwdAt ("written", none) "pairs" K) = true := by
  have h := T.ex
  unfold exB at h
  simp only [Bool.and_eq_true] at h
  exact ⟨h.1, h.2.1, h.2.2.1, h.2.2.2.1, h.2.2.2.2.1, h.2.2.2.2.2⟩
/-- plan_of(wishes) -/
theorem cal_plan_of (T : Tx K mg w) (k : Nat) : Cal P w K mg base "plan_of" (k + 2) (spF K (fun a : List Wish => [eWishes a]) (fun a => WsOk a) (fun a => ePlan (planOf a []))) := by
  have C := (kw_plan_of (P := P) (base := base) T k).lack 1 (by decide) rfl (fun D doc pm an cdv ct us ks h1 h2 => match us, h1, ks, h2 with | [_], _, [_], _ => ⟨_, _, _, _, _, _, rfl, rfl, rfl⟩)
  obtain ⟨f, fd, ps, ds, dvs, sp0, a, b, c, d, e, g⟩ := C.ex
  refine ⟨f, fd, ps, ds, dvs, sp0, a, b, c, d, e, fun vs H Q E ⟨ws, t, p, q⟩ => g vs H Q E ⟨(ws, []), ?_, p, q⟩⟩
  exact t.append (.cons (.tup (etup_ok T.exs.2.2.2.2.1 H) .nil) .nil)
/-- plan_of(wishes, refused=..) -/
theorem calk_plan_of (T : Tx K mg w) (k : Nat) : CalK P w K mg base "plan_of" 1 ["refused"] (k + 2) (fun vs zs H Q E => spF K (fun a : List Wish × List Pr => [eWishes a.1, ePrs a.2]) (fun a => WsOk a.1) (fun a => ePlan (planOf a.1 a.2)) (vs ++ zs) H Q E) :=
  (kw_plan_of (P := P) (base := base) T k).full 1 (by decide) fun D doc pm an cdv ct us ws h1 h2 => match us, h1, ws, h2 with | [_], _, [_], _ => rfl
end
end CW
/-! part CwX2 -/
set_option maxRecDepth 100000
set_option maxHeartbeats 4000000
/-! Data: tests on lists. -/
namespace CW
open PySem PySem.Spec PyProof.Rows L2
section
variable {X : Cx} {e a b : Expr} {ρ : List Kd} {H : Hp} {pos : Pos} {ds : List PyData} {d : PyData} {p : Addr} {xs : List V} {j : Nat}
theorem Ex.upd_new {H H1 : Hp} {p : Addr} {o : HO} (h : H p = none) (x : Ex H H1) : Ex H (upd H1 p o) := fun c u e => by
  rw [upd_ne (ne_of_none e h)]
  exact x c u e
theorem dp_lst {K : PySem.W.Frag} {H : Hp} (hH : SqL K H p xs) (t : Tps K H xs ds) : Dp K H (.ref p) (.list ds) := .lst hH t.dp
theorem shaped_lst {K : PySem.W.Frag} {H : Hp} (t : Tps K H xs ds) (hd : PyData.depthAll ds ≤ 60) : SeqAt.shaped (.list ds) = true := by
  show ((PyData.list ds).canLay0 && decide ((PyData.list ds).depth ≤ 64)) = true
  have h1 : (PyData.list ds).canLay0 = true := by simp only [PyData.canLay0]; exact t.lay
  have h2 : (PyData.list ds).depth ≤ 64 := by simp only [PyData.depth]; omega
  rw [h1, decide_eq_true h2]; rfl
theorem room65 {X : Cx} (hr : Room j X.A) : X.A.units + 65 < cLine := by have := hr.un; omega
theorem be_inO (hr : Room j X.A) (h1 : DE X e ρ H d) (h2 : OE X b ρ H p) (hH : SqL X.K H p xs) (t : Tps X.K H xs ds) (hd : d.depth ≤ 60) (hds : PyData.depthAll ds ≤ 60) (hm : behindInMarks .In b = false := by first | exact nomark _ | rfl | with_unfolding_all rfl) :
    BE X (.Compare e [.In] [b] pos) ρ H (ds.any fun z => PyData.eqv z d) := fun σ H1 s x Q q =>
  rt_of (pt_cmpR (op_inD (room65 hr)) pe_re pe_re hm) (h1 σ H1 s x _ fun v H2 x2 t1 => h2 σ H2 (s.mono x2.xt) (x.trans x2) _ ⟨d, ds, t1.dp, dp_lst ((x.trans x2).sql hH) (t.mono (x.trans x2).xt), t1.shaped (by omega), shaped_lst t hds, _, rfl, q H2 x2⟩)
theorem de_inO (hr : Room j X.A) (h1 : DE X e ρ H d) (h2 : OE X b ρ H p) (hH : SqL X.K H p xs) (t : Tps X.K H xs ds) (hd : d.depth ≤ 60) (hds : PyData.depthAll ds ≤ 60) (hm : behindInMarks .In b = false := by first | exact nomark _ | rfl | with_unfolding_all rfl) :
    DE X (.Compare e [.In] [b] pos) ρ H (.bool (ds.any fun z => PyData.eqv z d)) := fun σ H1 s x Q q =>
  re_of (pe_cmpR (op_inD (room65 hr)) pe_re pe_re hm) (h1 σ H1 s x _ fun v H2 x2 t1 => h2 σ H2 (s.mono x2.xt) (x.trans x2) _ ⟨d, ds, t1.dp, dp_lst ((x.trans x2).sql hH) (t.mono (x.trans x2).xt), t1.shaped (by omega), shaped_lst t hds, q _ H2 x2 (.bl _)⟩)
theorem eqv_lnil : ∀ ds : List PyData, PyData.eqv (.list ds) (.list []) = ds.isEmpty
  | [] => by simp [PyData.eqv, PyData.eqvAll]
  | _ :: _ => by simp [PyData.eqv, PyData.eqvAll]
theorem tps_nil_inv {K : PySem.W.Frag} {H : Hp} {xs : List V} (t : Tps K H xs []) : xs = [] := by cases t; rfl
/-- xs == [], xs in a slot -/
theorem be_eqNil (hr : Room j X.A) (h1 : OE X a ρ H p) (hH : SqL X.K H p xs) (t : Tps X.K H xs ds) (hds : PyData.depthAll ds ≤ 60) (h2 : LE X b ρ H []) (hm : behindInMarks .Eq b = false := by first | exact nomark _ | rfl | with_unfolding_all rfl) : BE X (.Compare a [.Eq] [b] pos) ρ H ds.isEmpty := fun σ H1 s x Q q =>
  rt_of (pt_cmpR (op_eqD hr.units) pe_re pe_re hm) (h1 σ H1 s x _ (h2 σ H1 s x _ fun r ys H2 hr2 x2 hl t2 => by
    cases t2
    exact ⟨.list ds, .list [], dp_lst ((x.trans x2).sql hH) (t.mono (x.trans x2).xt), dp_lst (SqL.of hl) .nil, shaped_lst t hds, by decide +kernel, ds.isEmpty, by rw [eqv_lnil], q H2 x2⟩))
theorem be_neNil (hr : Room j X.A) (h1 : OE X a ρ H p) (hH : SqL X.K H p xs) (t : Tps X.K H xs ds) (hds : PyData.depthAll ds ≤ 60) (h2 : LE X b ρ H []) (hm : behindInMarks .NotEq b = false := by first | exact nomark _ | rfl | with_unfolding_all rfl) : BE X (.Compare a [.NotEq] [b] pos) ρ H (!ds.isEmpty) := fun σ H1 s x Q q =>
  rt_of (pt_cmpR (op_neD hr.units) pe_re pe_re hm) (h1 σ H1 s x _ (h2 σ H1 s x _ fun r ys H2 hr2 x2 hl t2 => by
    cases t2
    exact ⟨.list ds, .list [], dp_lst ((x.trans x2).sql hH) (t.mono (x.trans x2).xt), dp_lst (SqL.of hl) .nil, shaped_lst t hds, by decide +kernel, !ds.isEmpty, by rw [eqv_lnil], q H2 x2⟩))
/-- [..] == [] -/
theorem de_eqNilL (hr : Room j X.A) (h1 : LE X a ρ H ds) (hds : PyData.depthAll ds ≤ 60) (h2 : LE X b ρ H []) (hm : behindInMarks .Eq b = false := by first | exact nomark _ | rfl | with_unfolding_all rfl) : DE X (.Compare a [.Eq] [b] pos) ρ H (.bool ds.isEmpty) := fun σ H1 s x Q q =>
  re_of (pe_cmpR (op_eqD hr.units) pe_re pe_re hm) (h1 σ H1 s x _ fun l xs H2 hl x2 hxs t => h2 σ H2 (s.mono x2.xt) (x.trans x2) _ fun r ys H3 hr2 x3 hys t2 => by
    cases t2
    exact ⟨.list ds, .list [], dp_lst (SqL.of (x3 _ _ hxs)) (t.mono x3.xt), dp_lst (SqL.of hys) .nil, shaped_lst t hds, by decide +kernel, by rw [eqv_lnil]; exact q _ H3 (x2.trans x3) (.bl _)⟩)
/-- xs.index(e) -/
theorem de_index {apos : Pos} {i : Nat} {z : PyData} (hr : Room j X.A) (ho : OE X a ρ H p) (hH : SqL X.K H p xs) (t : Tps X.K H xs ds) (he : DE X e ρ H d) (hd : d.depth ≤ 60) (hds : PyData.depthAll ds ≤ 60) (hz : ds[i]? = some z) (hzd : PyData.eqv z d = true)
    (hno : ∀ (m : Nat) (z' : PyData), m < i → ds[m]? = some z' → PyData.eqv z' d = false)
    (hbase : attributeBase a "index" X.env (eval a X.env) = eval a X.env := by rfl)
    (hfew : ((backTo pos (starEach [e] X.env)).all (fun x => !x.1) && (backToKw pos (keywordEach [] X.env)).all (fun x => x.1.isSome)
      && decide (([e] : List Expr).length + ([] : List Keyword).length + (if ([] : List Keyword).isEmpty then 0 else 1) < 30)) = true := by rfl)
    (hline : (apos.endLine == pos.line) = true := by rfl) (hs : starEach [e] X.env = (false, eval e X.env) :: starEach [] X.env := by rfl) (hplain : (backTo pos (starEach [] X.env)).any (·.1) = false := by rfl) :
    DE X (.Call (.Attribute a "index" apos) [e] [] pos) ρ H (.int (i : Nat)) := fun σ H1 s x Q q =>
  re_of (pe_bm F.plainAttrs_list F.slot_list_index F.type_list_index (mt_indexD (room65 hr)) pe_re (pa_cons pe_re pa_nil hs) hbase hfew hline hs hplain) (ho σ H1 s x _ ⟨tyV_lst (x.sql hH), he σ H1 s x _ fun w H2 x2 tw =>
    ⟨p, w, d, ds, i, z, rfl, rfl, dp_lst ((x.trans x2).sql hH) (t.mono (x.trans x2).xt), tw.dp, shaped_lst t hds, tw.shaped (by omega), hz, hzd, hno, q _ H2 x2 (.int _)⟩⟩)
end
end CW
/-! part CwDct -/
set_option maxRecDepth 100000
set_option maxHeartbeats 4000000
/-! Dicts: of pairs, copies, updates. -/
namespace CW
open PySem PySem.Spec PyProof.Rows L2
/-! ### dict(t), t a tuple of pairs -/
section
variable {X : Cx}
theorem pairsT {pins : List (Addr × Obj)} {σ : L2.St} {H : Hp} {s : Shared} (I : Inv X pins σ H s) : ∀ {ps : List Addr} {kvs : List (Key × V)}, Paired (fun p kv => SqT X.K H p [kV kv.1, kv.2]) ps kvs →
    ∃ (prs : List (Key × Value)) (pv : List (Value × Value)), KV kvs prs ∧ pv.length = ps.length ∧ prs.length = ps.length ∧ ∀ (j : Nat) (k v : Value), pv[j]? = some (k, v) → ∃ b, ps[j]? = some b ∧ IsTup s.heap b #[k, v] ∧ ∃ q, prs[j]? = some (q, v) ∧ keyIs q k = true
  | _, _, .nil => ⟨[], [], .nil, rfl, rfl, fun j k v e => by simp at e⟩
  | _, _, .cons (a := p) (b := kv) h t => by
    obtain ⟨prs, pv, r, l1, l2, hp⟩ := pairsT I t
    obtain ⟨its, rv, ht, _⟩ := I.tuple h
    obtain ⟨u, y, ei, ru, ry⟩ := vals2 rv
    subst ei
    refine ⟨(kv.1, y) :: prs, (u, y) :: pv, .cons ⟨rfl, ry⟩ r, by simp [l1], by simp [l2], fun j k v e => ?_⟩
    cases j with
    | zero =>
      have e' : (u, y) = (k, v) := Option.some.inj e
      obtain ⟨rfl, rfl⟩ := Prod.mk.inj e'
      exact ⟨p, rfl, ht, kv.1, rfl, kV_is (P := X.prog) (w := X.w) ru⟩
    | succ j =>
      obtain ⟨b, e1, e2, q, e3, e4⟩ := hp j k v (by simpa using e)
      exact ⟨b, by simpa using e1, e2, q, by simpa using e3, e4⟩
theorem call_dictT (hcalm : X.calm = true) : CallR X (.type "dict") (fun xs H Q => ∃ (a : Addr) (ps : List Addr) (kvs : List (Key × V)), xs = [.ref a] ∧ PlT X.K H a (ps.map V.ref) ∧ Paired (fun p kv => SqT X.K H p [kV kv.1, kv.2]) ps kvs ∧
    ∀ p, H p = none → Q (.ref p) (upd H p (.dK (mergeK [] kvs)))) := by
  intro pins s σ H xs us Q I r h
  obtain ⟨a, ps, kvs, rfl, hq, hp, q⟩ := h
  obtain ⟨u, rfl, rx⟩ := vals1 r
  cases rx
  have pl : ∃ its : List Value, Vals (ps.map V.ref) its ∧ PySem.PlainSeq "tuple" s.heap a its.toArray ∧ its.length ≤ sizeLine := by
    rcases hq with ⟨o, hd, hH⟩ | ⟨o, its, n, hk, hc, hd, hs, hz, rv⟩
    · obtain ⟨e, z, its, rv, ⟨o', e', hc, n, hdat⟩⟩ := I.hok a _ hH
      rw [e] at e'
      cases e'
      exact ⟨its, rv, ⟨o, n, e, hc, hd, hdat⟩, by rw [← rv.length]; exact z⟩
    · exact ⟨its.toList, rv, ⟨o, n, I.kIn a o hk, hc, hd, by simpa using hs⟩, by simpa using hz⟩
  obtain ⟨its, rv, pl, hz⟩ := pl
  have ei := refs_at rv
  subst ei
  obtain ⟨prs, pv, rel, l1, l2, hpr⟩ := pairsT I hp
  have pi : PySem.PairItems s.heap (ps.map Value.ref).toArray (fun j => ps.getD j 0) pv := ⟨by simp [l1], fun j k v e => by
    obtain ⟨b, e1, e2, _⟩ := hpr j k v e
    have e3 : ps.getD j 0 = b := by rw [List.getD_eq_getElem?_getD, e1]; rfl
    exact ⟨by simp [e3, e1], by show PySem.PairAt s.heap (ps.getD j 0) k v; rw [e3]; exact .inl e2⟩⟩
  have hz2 : pv.length ≤ sizeLine := by rw [l1]; simpa using hz
  refine PySem.call_dict_pairs (knd := mixKind X.prog X.w) (kvs := prs) (PySem.PairArg.tuple a (ps.map Value.ref).toArray (fun j => ps.getD j 0) pv) (I.ok.hd hcalm) ⟨pl, pi⟩ ⟨by rw [l2, l1], fun i key v e => ?_⟩ hz2 fun h' tk hd' k => ?_
  · obtain ⟨b, _, _, q, e3, e4⟩ := hpr i key v e
    exact ⟨q, e3, e4⟩
  · have hm : (s.heap.objs.size == sysModules) = false := beq_eq_false_iff_ne.mpr (Nat.ne_of_gt I.big)
    have hlen : (mergeK [] kvs).length ≤ sizeLine := by
      refine Nat.le_trans (length_mergeK kvs []) ?_
      rw [List.length_nil, Nat.zero_add, rel.length, l2, ← l1]
      exact hz2
    exact ⟨.ref s.heap.objs.size, upd H s.heap.objs.size (.dK (mergeK [] kvs)), I.laid (t' := tk) (fun b o e => k b o (by simp) e) (Nat.le_refl _) (show ObjOk X.prog X.w _ _ _ (.dK (mergeK [] kvs)) from ⟨hlen, hm, merged [] prs, KV.merge rel .nil, hd'⟩), rfl, q _ (I.hok.fresh (Nat.le_refl _))⟩
end
/-! ### dict(D), D a dict of the top -/
section
variable {X : Cx}
theorem pairs_top {P : Program} {w : World} : ∀ {l : List DictEntry} {ks : List Str}, l.map He.keyOf = He.keysIn w.params ks → ks.Nodup → ∀ g : Str → Value, (∀ k ∈ ks, (l.find? fun e => e.key.isStr k).map (·.val) = some (g k)) →
    Pairs (mixKind P w) l (ks.map fun k => ((Sum.inr k : Key), g k)) ∧ ∀ e ∈ l, ∃ k, (mixKind P w).is k e.key = true ∧ e.hash = (mixKind P w).hash k
  | [], [], _, _, _, _ => ⟨.nil, fun e he => by cases he⟩
  | [], k :: ks, h, _, _, _ => by cases h
  | e :: l, [], h, _, _, _ => by cases h
  | e :: l, k :: ks, h, nd, g, hg => by
    have h1 : He.keyOf e :: l.map He.keyOf = some (k, PyData.keyHash w.params k) :: He.keysIn w.params ks := h
    injection h1 with h2 h3
    have hek : ∃ t, e.key = .str k t ∧ e.hash = PyData.keyHash w.params k := by
      unfold He.keyOf at h2
      split at h2
      · rename_i x t q
        obtain ⟨h5, h6⟩ := Prod.mk.inj (Option.some.inj h2)
        exact ⟨t, by rw [q, h5], h6⟩
      · cases h2
    obtain ⟨t, ek, eh⟩ := hek
    have isK : e.key.isStr k = true := by rw [ek]; simp [Value.isStr]
    rw [List.nodup_cons] at nd
    have hg1 := hg k (by simp)
    rw [List.find?_cons, isK] at hg1
    have hv : e.val = g k := by simpa using hg1
    obtain ⟨p1, p2⟩ := pairs_top (P := P) (l := l) (ks := ks) h3 nd.2 g (fun k' hk' => by
      have := hg k' (by simp [hk'])
      have ne : e.key.isStr k' = false := by
        rw [ek]
        have hne : k ≠ k' := fun z => nd.1 (z ▸ hk')
        simp [Value.isStr, hne]
      rw [List.find?_cons, ne] at this
      exact this)
    refine ⟨.cons ?_ hv p1, fun e' he' => ?_⟩
    · show keyIs (.inr k) e.key = true
      rw [ek]
      simp [keyIs, Value.isStrOf]
    · rcases List.mem_cons.mp he' with rfl | he'
      · exact ⟨.inr k, by show keyIs (.inr k) _ = true; rw [ek]; simp [keyIs, Value.isStrOf], eh⟩
      · exact p2 e' he'
theorem dicW_es {K : PySem.W.Frag} {a : Addr} {x : List (Option (Str × Int))} (h : He.dicW K a = some x) : ∃ es n, K.lookup a = some ⟨.type "dict", none, .dict es n, #[]⟩ ∧ es.toList.map He.keyOf = x ∧ (a == sysModules) = false := by
  unfold He.dicW at h
  cases q : K.lookup a with
  | none => rw [q] at h; cases h
  | some o =>
    obtain ⟨oc, od, dt, osl⟩ := o
    rw [q] at h
    cases oc with
    | type c =>
      cases od with
      | some d => cases dt <;> cases h
      | none =>
        cases dt with
        | dict es n =>
          have h2 : (match decide (c = "dict") && (osl.isEmpty && !(a == sysModules)) with
            | true => some (es.toList.map He.keyOf)
            | false => none) = some x := h
          cases e : decide (c = "dict") && (osl.isEmpty && !(a == sysModules)) with
          | false => rw [e] at h2; cases h2
          | true =>
            rw [e] at h2
            rw [Bool.and_eq_true, Bool.and_eq_true, Bool.not_eq_true'] at e
            obtain ⟨e1, e2, e3⟩ := e
            have e1 := of_decide_eq_true e1
            have e2 := Array.isEmpty_iff.mp e2
            subst e1 e2
            exact ⟨es, n, rfl, Option.some.inj h2, e3⟩
        | _ => cases h
    | _ => cases od <;> cases dt <;> cases h
/-- the values, by keys -/
def RelAll (g : Str → Value) : List (Str × V) → Prop
  | [] => True
  | q :: r => RelV q.2 (g q.1) ∧ RelAll g r
theorem kv_of {g : Str → Value} : ∀ {kvs : List (Str × V)}, RelAll g kvs → KV (kvs.map fun q => ((Sum.inr q.1 : Key), q.2)) ((kvs.map (·.1)).map fun k => ((Sum.inr k : Key), g k))
  | [], _ => .nil
  | q :: r, ⟨h, t⟩ => .cons ⟨rfl, h⟩ (kv_of t)
/-- dict(D): a copy -/
theorem call_dictK (a : Addr) (kvs : List (Str × V)) (hd : He.dicW X.K a = some (He.keysIn X.w.params (kvs.map (·.1)))) (nd : (kvs.map (·.1)).Nodup) (hz : kvs.length ≤ 1000) (hv : ∀ q ∈ kvs, ∃ u, PySem.W.nsIn X.K a q.1 = some (some u) ∧ RelV q.2 u) :
    CallR X (.type "dict") (fun xs H Q => xs = [.ref a] ∧ ∀ p, H p = none → Q (.ref p) (upd H p (.dK (kvs.map fun q => ((Sum.inr q.1 : Key), q.2))))) := by
  intro pins s σ H xs us Q I r h
  obtain ⟨rfl, q⟩ := h
  obtain ⟨u, rfl, rx⟩ := vals1 r
  cases rx
  obtain ⟨es, n, hl, he, low⟩ := dicW_es hd
  have find : ∀ p ∈ kvs, ∃ u, (es.toList.find? fun e => e.key.isStr p.1).map (·.val) = some u ∧ RelV p.2 u := fun p hp => by
    obtain ⟨u, e1, e2⟩ := hv p hp
    refine ⟨u, ?_, e2⟩
    unfold PySem.W.nsIn at e1
    rw [hl] at e1
    dsimp only at e1
    split at e1
    · rename_i e' h'
      rw [h']
      exact congrArg some (Option.some.inj (Option.some.inj e1))
    · split at e1
      · cases e1
      · cases e1
  have gex : ∃ g : Str → Value, ∀ p ∈ kvs, (es.toList.find? fun e => e.key.isStr p.1).map (·.val) = some (g p.1) ∧ RelV p.2 (g p.1) := by
    refine ⟨fun k => ((es.toList.find? fun e => e.key.isStr k).map (·.val)).getD .none, fun p hp => ?_⟩
    obtain ⟨u, e1, e2⟩ := find p hp
    simp only [e1, Option.getD_some]
    exact ⟨trivial, e2⟩
  obtain ⟨g, hg⟩ := gex
  have hra : ∀ l : List (Str × V), (∀ p ∈ l, RelV p.2 (g p.1)) → RelAll g l := fun l => by
    induction l with
    | nil => exact fun _ => trivial
    | cons p l ih => exact fun h => ⟨h p (by simp), ih fun p' hp' => h p' (by simp [hp'])⟩
  obtain ⟨p1, p2⟩ := pairs_top (P := X.prog) (w := X.w) he nd g (fun k hk => by
    obtain ⟨p, hp, rfl⟩ := List.mem_map.mp hk
    exact (hg p hp).1)
  have dd : s.heap.DictOf (mixKind X.prog X.w) a ((kvs.map (·.1)).map fun k => ((Sum.inr k : Key), g k)) :=
    ⟨_, es, n, I.kIn a _ hl, ⟨rfl, rfl, rfl⟩, rfl, fun e he => p2 e (Array.mem_toList_iff.mpr he), p1, by
      rw [List.map_map]
      exact List.pairwise_map.mpr (nd.imp fun h e => h (Sum.inr.inj e))⟩
  have hz2 : ((kvs.map (·.1)).map fun k => ((Sum.inr k : Key), g k)).length ≤ sizeLine := by simp only [List.length_map]; exact small1k hz
  have rel := kv_of (hra kvs fun p hp => (hg p hp).2)
  refine kt_call_dict low dd hz2 fun h' dd' hs => ?_
  refine ⟨.ref s.heap.objs.size, _, I.laid (a := s.heap.objs.size) (o := .dK (kvs.map fun q => ((Sum.inr q.1 : Key), q.2))) (t' := s.toks) (fun b u hq => ?_) (Nat.le_refl _) (dk_new (by simp only [List.length_map]; exact small1k hz) (beq_eq_false_iff_ne.mpr (Ne.symm (Nat.ne_of_lt I.big))) rel dd'), rfl, q _ (I.hok.fresh (Nat.le_refl _))⟩
  exact (hs.2 b (Nat.ne_of_lt (Heap.lt_size hq))).trans (Heap.get?_push_of_some _ hq)
/-! ### d.update(e) -/
def rUpd : V → List V → Hp → VK → Prop := fun x vs H Q => ∃ d o kvs more, x = .ref d ∧ vs = [.ref o] ∧ d ≠ o ∧ H d = some (.dK kvs) ∧ H o = some (.dK more) ∧ kvs.length + more.length ≤ sizeLine ∧ Q .non (upd H d (.dK (mergeK kvs more)))
theorem mt_upd : MtR X "dict.update" rUpd := by
  intro pins s σ H x xs v us Q I rx rxs h
  obtain ⟨d, o, kvs, more, rfl, rfl, hdo, hd, ho, hz, q⟩ := h
  cases rx
  obtain ⟨u, rfl, ru⟩ := rxs.one
  cases ru
  obtain ⟨z1, low1, vs1, rel1, dd1⟩ := dk_of I.hok hd
  obtain ⟨z2, low2, vs2, rel2, dd2⟩ := dk_of I.hok ho
  refine call_meetsIn PySem.F.slot_dict_update dd1.typeIs PySem.F.entry_dict_update (PySem.F.args_dict_update_2 _ _) (meets_dict_update (mixKind X.prog X.w) d o hdo low2) ⟨vs1, vs2, dd1, dd2, by rw [← rel1.length, ← rel2.length]; exact hz, fun h' dd' _ hs => ?_⟩
  have he : ∃ q, h'.get? d = some q := let ⟨q, _, _, hq, _⟩ := dd'; ⟨q, hq⟩
  refine ⟨.non, _, d_write (t' := s.toks) I (by rw [hd]; exact True.intro) hs he (dk_new (Nat.le_trans (length_mergeK more kvs) hz) low1 (KV.merge rel2 rel1) dd'), rfl, q⟩
end
/-! ### what a merge holds -/
theorem valV_mergeK : ∀ {more kvs : List (Key × V)} (k : Key), (more.map (·.1)).Nodup → valV (mergeK kvs more) k = match valV more k with
    | some v => some v
    | none => valV kvs k
  | [], kvs, k, _ => by simp [mergeK, valV_nil]
  | q :: more, kvs, k, nd => by
    rw [List.map_cons, List.nodup_cons] at nd
    show valV (mergeK (putK kvs q.1 q.2) more) k = _
    rw [valV_mergeK (more := more) k nd.2, valV_put]
    by_cases e : q.1 = k
    · subst e
      have hn : valV more q.1 = none := by
        cases hq : valV more q.1 with
        | none => rfl
        | some v =>
          unfold valV at hq
          cases hf : more.find? fun kv => decide (kv.1 = q.1) with
          | none => rw [hf] at hq; cases hq
          | some p =>
            have h1 := List.mem_of_find?_eq_some hf
            have h2 := List.find?_some hf
            exact absurd (List.mem_map.mpr ⟨p, h1, of_decide_eq_true h2⟩) nd.1
      rw [hn, valV_pos rfl]
      simp
    · rw [valV_neg e]
      have : ¬ k = q.1 := fun z => e z.symm
      simp [this]
theorem length_putK_old {kvs : List (Key × V)} {k : Key} {v u : V} (h : valV kvs k = some u) : (putK kvs k v).length = kvs.length := by
  unfold putK
  have : (kvs.any fun kv => decide (kv.1 = k)) = true := by rw [valV_any, h]; rfl
  rw [if_pos this, List.length_map]
theorem length_mergeK_old : ∀ {more kvs : List (Key × V)}, (∀ q ∈ more, ∃ u, valV kvs q.1 = some u) → (mergeK kvs more).length = kvs.length
  | [], _, _ => rfl
  | q :: more, kvs, h => by
    obtain ⟨u, hu⟩ := h q (by simp)
    show (mergeK (putK kvs q.1 q.2) more).length = _
    rw [length_mergeK_old fun p hp => ?_, length_putK_old hu]
    obtain ⟨u', hu'⟩ := h p (by simp [hp])
    rw [valV_put]
    by_cases e : p.1 = q.1
    · exact ⟨_, by rw [if_pos e]⟩
    · exact ⟨u', by rw [if_neg e]; exact hu'⟩
end CW
/-! part CwDct2 -/
set_option maxRecDepth 100000
set_option maxHeartbeats 4000000
/-! Dicts with text keys and data: tables. -/
namespace CW
open PySem PySem.Spec PyProof.Rows L2
def OptTp (K : PySem.W.Frag) (H : Hp) : Option V → Option PyData → Prop
  | some v, some d => Tp K H v d
  | none, none => True
  | _, _ => False
structure TabK (K : PySem.W.Frag) (H : Hp) (kvs : List (Key × V)) (T : List (Str × PyData)) : Prop where
  str : ∀ q ∈ kvs, ∃ x, q.1 = (Sum.inr x : Key)
  nd : (kvs.map (·.1)).Nodup
  val : ∀ k, OptTp K H (valV kvs (.inr k)) (T.lookup k)
def DicAt (K : PySem.W.Frag) (H : Hp) (p : Addr) (T : List (Str × PyData)) : Prop := ∃ kvs, H p = some (.dK kvs) ∧ TabK K H kvs T
section
variable {K : PySem.W.Frag} {H H' : Hp} {kvs more : List (Key × V)} {T T' T2 : List (Str × PyData)}
theorem OptTp.mono {o : Option V} {d : Option PyData} (x : Xt H H') (h : OptTp K H o d) : OptTp K H' o d := by
  cases o <;> cases d
  · trivial
  · exact h.elim
  · exact h.elim
  · exact Tp.mono x h
theorem TabK.mono (x : Xt H H') (h : TabK K H kvs T) : TabK K H' kvs T := ⟨h.str, h.nd, fun k => (h.val k).mono x⟩
theorem DicAt.mono {p : Addr} (x : Ex H H') (h : DicAt K H p T) : DicAt K H' p T := by
  obtain ⟨kvs, h1, h2⟩ := h
  exact ⟨kvs, x _ _ h1, h2.mono x.xt⟩
theorem TabK.get (h : TabK K H kvs T) {k : Str} {d : PyData} (e : T.lookup k = some d) : ∃ v, valV kvs (.inr k) = some v ∧ Tp K H v d := by
  have := h.val k
  rw [e] at this
  cases q : valV kvs (.inr k) with
  | none => rw [q] at this; exact this.elim
  | some v => rw [q] at this; exact ⟨v, rfl, this⟩
theorem len_sub {α : Type} [DecidableEq α] : ∀ {l m : List α}, l.Nodup → (∀ x ∈ l, x ∈ m) → l.length ≤ m.length
  | [], _, _, _ => Nat.zero_le _
  | a :: l, m, nd, h => by
    rw [List.nodup_cons] at nd
    have ha := h a (by simp)
    have := len_sub (l := l) (m := m.erase a) nd.2 fun x hx => (List.mem_erase_of_ne (fun z => nd.1 (by rw [← z]; exact hx))).mpr (h x (by simp [hx]))
    rw [List.length_erase_of_mem ha] at this
    have hm : 0 < m.length := List.length_pos_of_mem ha
    simp only [List.length_cons]
    omega
theorem lookup_some_mem {k : Str} {d : PyData} : ∀ {T : List (Str × PyData)}, T.lookup k = some d → k ∈ T.map (·.1)
  | [], h => by cases h
  | (a, b) :: r, h => by
    rw [List.lookup_cons] at h
    by_cases e : k == a
    · rw [List.map_cons, eq_of_beq e]
      exact List.mem_cons_self
    · have e2 : (k == a) = false := by simpa using e
      rw [e2] at h
      exact List.mem_cons_of_mem _ (lookup_some_mem h)
theorem valV_of_mem {kvs : List (Key × V)} {q : Key × V} (h : q ∈ kvs) : ∃ v, valV kvs q.1 = some v := by
  unfold valV
  cases e : kvs.find? fun kv => decide (kv.1 = q.1) with
  | none => exact absurd (decide_eq_true (p := q.1 = q.1) rfl) (List.find?_eq_none.mp e q h)
  | some p => exact ⟨p.2, rfl⟩
theorem TabK.len (h : TabK K H kvs T) : kvs.length ≤ T.length := by
  have := len_sub (l := kvs.map (·.1)) (m := (T.map (·.1)).map (Sum.inr (α := Int))) h.nd fun x hx => by
    obtain ⟨q, hq, rfl⟩ := List.mem_map.mp hx
    obtain ⟨k, hk⟩ := h.str q hq
    obtain ⟨v, hv⟩ := valV_of_mem hq
    rw [hk] at hv ⊢
    have := h.val k
    rw [hv] at this
    cases e : T.lookup k with
    | none => rw [e] at this; exact this.elim
    | some d => exact List.mem_map.mpr ⟨k, lookup_some_mem e, rfl⟩
  simpa using this
theorem keys_putK (kvs : List (Key × V)) (k : Key) (v : V) : (putK kvs k v).map (·.1) = if (kvs.any fun kv => decide (kv.1 = k)) = true then kvs.map (·.1) else kvs.map (·.1) ++ [k] := by
  unfold putK
  by_cases h : (kvs.any fun kv => decide (kv.1 = k)) = true
  · rw [if_pos h, if_pos h, List.map_map]
    apply List.map_congr_left
    intro q _
    simp only [Function.comp]
    by_cases e : q.1 = k <;> simp [e]
  · rw [if_neg h, if_neg h, List.map_append]
    rfl
theorem nodup_putK {k : Key} {v : V} (nd : (kvs.map (·.1)).Nodup) : ((putK kvs k v).map (·.1)).Nodup := by
  rw [keys_putK]
  by_cases h : (kvs.any fun kv => decide (kv.1 = k)) = true
  · rw [if_pos h]; exact nd
  · rw [if_neg h]
    rw [List.nodup_append]
    refine ⟨nd, by simp, fun a ha b hb e => ?_⟩
    rw [List.mem_singleton] at hb
    subst e
    obtain ⟨q, hq, rfl⟩ := List.mem_map.mp ha
    exact h (List.any_eq_true.mpr ⟨q, hq, decide_eq_true hb⟩)
theorem str_putK {k : Str} {v : V} (h : ∀ q ∈ kvs, ∃ x, q.1 = (Sum.inr x : Key)) : ∀ q ∈ putK kvs (.inr k) v, ∃ x, q.1 = (Sum.inr x : Key) := fun q hq => by
  have hm : q.1 ∈ (putK kvs (.inr k) v).map (·.1) := List.mem_map.mpr ⟨q, hq, rfl⟩
  rw [keys_putK] at hm
  split at hm
  · obtain ⟨q', hq', e⟩ := List.mem_map.mp hm
    rw [← e]; exact h q' hq'
  · rcases List.mem_append.mp hm with hm | hm
    · obtain ⟨q', hq', e⟩ := List.mem_map.mp hm
      rw [← e]; exact h q' hq'
    · rw [List.mem_singleton] at hm; exact ⟨k, hm⟩
theorem TabK.put {k : Str} {v : V} {d : PyData} (h : TabK K H kvs T) (t : Tp K H v d) (hT : ∀ j, T'.lookup j = if j = k then some d else T.lookup j) : TabK K H (putK kvs (.inr k) v) T' :=
  ⟨str_putK h.str, nodup_putK h.nd, fun j => by
    rw [valV_put, hT]
    by_cases e : j = k
    · subst e; rw [if_pos rfl, if_pos rfl]; exact t
    · rw [if_neg e, if_neg fun z => e (Sum.inr.inj z)]; exact h.val j⟩
theorem nd_mergeK : ∀ {more kvs : List (Key × V)}, (kvs.map (·.1)).Nodup → ((mergeK kvs more).map (·.1)).Nodup
  | [], _, h => h
  | q :: more, kvs, h => nd_mergeK (more := more) (kvs := putK kvs q.1 q.2) (nodup_putK h)
theorem str_mergeK : ∀ {more kvs : List (Key × V)}, (∀ q ∈ kvs, ∃ x, q.1 = (Sum.inr x : Key)) → (∀ q ∈ more, ∃ x, q.1 = (Sum.inr x : Key)) → ∀ q ∈ mergeK kvs more, ∃ x, q.1 = (Sum.inr x : Key)
  | [], _, h, _ => h
  | q :: more, kvs, h, h2 => by
    obtain ⟨x, hx⟩ := h2 q (by simp)
    show ∀ p ∈ mergeK (putK kvs q.1 q.2) more, _
    rw [hx]
    exact str_mergeK (str_putK h) fun p hp => h2 p (by simp [hp])
theorem TabK.merge (h : TabK K H kvs T) (h2 : TabK K H more T2) (hT : ∀ j, T'.lookup j = (T2.lookup j).or (T.lookup j)) : TabK K H (mergeK kvs more) T' :=
  ⟨str_mergeK h.str h2.str, nd_mergeK h.nd, fun j => by
    rw [valV_mergeK _ h2.nd, hT]
    have a := h2.val j
    cases e : valV more (.inr j) with
    | none =>
      rw [e] at a
      cases e2 : T2.lookup j with
      | none => exact h.val j
      | some d => rw [e2] at a; exact a.elim
    | some v =>
      rw [e] at a
      cases e2 : T2.lookup j with
      | none => rw [e2] at a; exact a.elim
      | some d => rw [e2] at a; exact a⟩
theorem TabK.nil : TabK K H [] [] := ⟨fun q hq => (by cases hq), List.nodup_nil, fun k => trivial⟩
/-- rows laid in order, each key once -/
theorem tab_of : ∀ {ks : List Str} {vs : List V} {ds : List PyData}, ks.Nodup → ks.length = vs.length → Tps K H vs ds → TabK K H ((ks.zip vs).map fun q => ((Sum.inr q.1 : Key), q.2)) (ks.zip ds)
  | [], vs, ds, _, hl, t => by
    cases vs with
    | nil => cases t; exact .nil
    | cons _ _ => cases hl
  | k :: ks, vs, ds, nd, hl, t => by
    cases t with
    | nil => cases hl
    | @cons v vs d ds a t =>
      rw [List.nodup_cons] at nd
      have ih := tab_of (ks := ks) nd.2 (by simpa using hl) t
      refine ⟨fun q hq => ?_, ?_, fun j => ?_⟩
      · rcases List.mem_cons.mp hq with rfl | hq
        · exact ⟨k, rfl⟩
        · exact ih.str q hq
      · show (((Sum.inr k : Key)) :: ((ks.zip vs).map fun q => ((Sum.inr q.1 : Key), q.2)).map (·.1)).Nodup
        rw [List.nodup_cons]
        refine ⟨fun hm => nd.1 ?_, ih.nd⟩
        rw [List.map_map] at hm
        obtain ⟨q, hq, e⟩ := List.mem_map.mp hm
        rw [← Sum.inr.inj e]
        exact (List.of_mem_zip hq).1
      · show OptTp K H (valV (((Sum.inr k : Key), v) :: _) (.inr j)) (List.lookup j ((k, d) :: ks.zip ds))
        rw [List.lookup_cons]
        by_cases e : j = k
        · subst e
          rw [valV_pos rfl]
          simp only [beq_self_eq_true]
          exact a
        · rw [valV_neg fun z => e (Sum.inr.inj z).symm]
          have : (j == k) = false := by simpa using e
          rw [this]
          exact ih.val j
end
section
variable {X : Cx} {e a b o : Expr} {es : List Expr} {ρ : List Kd} {H : Hp} {pos p1 : Pos} {ds : List PyData} {d : PyData} {p : Addr} {T T' T2 : List (Str × PyData)} {j : Nat} {k : Str} {sts : List Stmt} {D : Ends}
/-- e comes to a new dict, a table -/
def ME (X : Cx) (e : Expr) (ρ : List Kd) (H : Hp) (T : List (Str × PyData)) : Prop := ∀ σ H1, Sl X.K H1 σ ρ → Ex H H1 → ∀ Q : VK, (∀ p kvs H2, H1 p = none → Ex H1 H2 → H2 p = some (.dK kvs) → TabK X.K H2 kvs T → Q (.ref p) H2) → RE X e σ H1 Q
theorem pa1 (hs : starEach [e] X.env = (false, eval e X.env) :: starEach [] X.env := by rfl) : PA X [e] (tCons (RE X e) tNil) := pa_cons pe_re pa_nil hs
/-- a row (key, datum) -/
def eKv (q : Str × PyData) : PyData := .tuple [.str q.1, q.2]
theorem rows_of {K : PySem.W.Frag} {H : Hp} : ∀ {T : List (Str × PyData)} {xs : List V}, Tps K H xs (T.map eKv) → ∃ (ps : List Addr) (vs : List V), xs = ps.map V.ref ∧ vs.length = T.length ∧ Tps K H vs (T.map (·.2)) ∧ Paired (fun (p : Addr) (kv : Key × V) => SqT K H p [kV kv.1, kv.2]) ps (((T.map (·.1)).zip vs).map fun q => ((Sum.inr q.1 : Key), q.2))
  | [], xs, t => by
    cases t
    exact ⟨[], [], rfl, rfl, .nil, .nil⟩
  | (k, d) :: T, xs, t => by
    cases t with
    | cons h t =>
      obtain ⟨ps, vs, rfl, hl, tv, pr⟩ := rows_of t
      obtain ⟨p, ys, rfl, sq, ty⟩ := h.tuple_inv
      cases ty with
      | cons h1 t1 =>
        cases t1 with
        | cons h2 t2 =>
          cases t2
          obtain ⟨rfl, _⟩ := h1.str_inv
          exact ⟨p :: ps, _ :: vs, rfl, by simp [hl], .cons h2 tv, .cons sq pr⟩
theorem zip_two : ∀ T : List (Str × PyData), (T.map (·.1)).zip (T.map (·.2)) = T
  | [] => rfl
  | q :: T => by rw [List.map_cons, List.map_cons, List.zip_cons_cons, zip_two T]
theorem me_dictT (hc : X.calm = true) (hg : Gl X "dict") (hm : X.mg "dict" = none) (h : DE X e ρ H (.tuple (T.map eKv))) (nd : (T.map (·.1)).Nodup) (hs : starEach [e] X.env = (false, eval e X.env) :: starEach [] X.env := by rfl)
    (hpl : (backTo pos (starEach [] X.env)).any (·.1) = false := by rfl) : ME X (.Call (.Name "dict" p1) [e] [] pos) ρ H T := fun σ H1 s x Q q =>
  re_of (pe_callTy (call_dictT hc) hg hm (by decide +kernel) (pa1 hs) (he := hs) (hpl := hpl)) (h σ H1 s x _ fun v H2 x2 t => by
    obtain ⟨p, xs, rfl, sq, u⟩ := t.tuple_pl
    obtain ⟨ps, vs, rfl, hl, tv, pr⟩ := rows_of u
    refine ⟨p, ps, _, rfl, sq, pr, fun l hn => q l _ _ (x2.free hn) (x2.trans (Ex.new hn)) upd_same ?_⟩
    have t1 := (tab_of (ks := T.map (·.1)) nd (by simp [hl]) tv).mono (Ex.new hn (o := .dK (mergeK [] (((T.map (·.1)).zip vs).map fun q => ((Sum.inr q.1 : Key), q.2))))).xt
    have e2 := zip_two T
    rw [e2] at t1
    exact TabK.merge .nil t1 fun j => by cases T.lookup j <;> rfl)
theorem sx_setM {n : Str} {pos' : Pos} (i : Nat) (hN : X.N.Nodup) (he : ME X e ρ H T) (k : ∀ p H1, H p = none → Ex H H1 → DicAt X.K H1 p T → SX X sts (ρ.set i (.obj p)) H1 D) (hi : X.N[i]? = some n := by rfl) (hx : Loc X.env.scope n := by first | exact Or.inl rfl | exact Or.inr rfl)
    (hs : swapsWith e (some (.Name n pos')) pos.line X.env = pure false := by rfl) (hf : X.fn n = true ∨ X.env.scope.names.lookup n = some .local := by first | exact .inl rfl | exact .inr rfl) : SX X (.Assign [.Name n pos'] e pos :: sts) ρ H D :=
  sx_cons (ps_set hN hi hx pe_re hs hf) fun σ s => he σ H s (Ex.refl _) _ fun p kvs H1 hp x hk t => k p H1 hp x ⟨kvs, hk, t⟩ _ ((s.mono x.xt).set (k := .obj p) rfl)
/-! ### looking -/
theorem de_get (hr : Room j X.A) (h1 : OE X a ρ H p) (h2 : DE X b ρ H (.str k)) (hD : DicAt X.K H p T) (hk : T.lookup k = some d) (hs : NoSl b := by exact fun _ _ => rfl) : DE X (.Subscript a b pos) ρ H d := by
  obtain ⟨kvs, hH, t⟩ := hD
  obtain ⟨v, hv, tv⟩ := t.get hk
  exact de_dget hr h1 h2 hH hv tv hs
theorem optTp_isSome {K : PySem.W.Frag} {H : Hp} {o : Option V} {d : Option PyData} (h : OptTp K H o d) : o.isSome = d.isSome := by
  cases o <;> cases d <;> first | rfl | exact h.elim
theorem be_inD (hr : Room j X.A) (h1 : DE X a ρ H (.str k)) (h2 : OE X b ρ H p) (hD : DicAt X.K H p T) (hm : behindInMarks .In b = false := by first | exact nomark _ | rfl | with_unfolding_all rfl) : BE X (.Compare a [.In] [b] pos) ρ H (T.lookup k).isSome := fun σ H1 s x Q q => by
  obtain ⟨kvs, hH, t⟩ := hD
  refine rt_of (pt_cmp (pc_din (hu_of hr) pe_re pe_re) hm) (h1 σ H1 s x _ fun v H2 x2 t1 => h2 σ H2 (s.mono x2.xt) (x.trans x2) _ ?_)
  obtain ⟨rfl, _⟩ := t1.str_inv
  exact ⟨p, _, rfl, DGet.k (k := .inr k) (x2 _ _ (x _ _ hH)), (valV kvs (.inr k)).isSome, rfl, by rw [optTp_isSome (t.val k)]; exact q H2 x2⟩
theorem be_notInD (hr : Room j X.A) (h1 : DE X a ρ H (.str k)) (h2 : OE X b ρ H p) (hD : DicAt X.K H p T) (hm : behindInMarks .NotIn b = false := by first | exact nomark _ | rfl | with_unfolding_all rfl) : BE X (.Compare a [.NotIn] [b] pos) ρ H (!(T.lookup k).isSome) := fun σ H1 s x Q q => by
  obtain ⟨kvs, hH, t⟩ := hD
  refine rt_of (pt_cmp (pc_dnotin (hu_of hr) pe_re pe_re) hm) (h1 σ H1 s x _ fun v H2 x2 t1 => h2 σ H2 (s.mono x2.xt) (x.trans x2) _ ?_)
  obtain ⟨rfl, _⟩ := t1.str_inv
  exact ⟨p, _, rfl, DGet.k (k := .inr k) (x2 _ _ (x _ _ hH)), !(valV kvs (.inr k)).isSome, rfl, by rw [optTp_isSome (t.val k)]; exact q H2 x2⟩
end
end CW
/-! part CwW3 -/
set_option maxRecDepth 100000
set_option maxHeartbeats 4000000
/-! The walk: asks, what is said, kinds, what is left behind. -/
namespace CW
open PySem PySem.Spec PyProof.Rows L2
theorem any_need {acc : List Pr} (p : Pr) : ((acc.map ePr).any fun z => PyData.eqv z (ePr p)) = decide (p ∈ acc) := by
  rw [any_map eqv_pr]
  exact dec_irrel _ _
theorem eqv_ints_nil (xs : List Int) : PyData.eqv (eInts xs) (.tuple []) = decide (xs = []) := by
  rw [← eInts_nil, eqv_ints]
theorem depth_need (n : Option Pr) : (eNeed n).depth ≤ 60 := by
  cases n with
  | none => simp [eNeed, PyData.depth]
  | some p => exact Nat.le_trans (depth_pr p) (by decide)
theorem depths_pr (l : List Pr) : PyData.depthAll (l.map ePr) ≤ 60 := Nat.le_trans (depth_all depth_pr l) (by decide)
section
variable {X : Cx} {e : Expr} {ρ : List Kd} {H : Hp} {pos p1 : Pos} {ds : List PyData} {p : Addr} {xs : List V}
theorem de_tupleO (hg : Gl X "tuple") (hm : X.mg "tuple" = none) (h : OE X e ρ H p) (hH : SqL X.K H p xs) (t : Tps X.K H xs ds) (hs : starEach [e] X.env = (false, eval e X.env) :: starEach [] X.env := by rfl)
    (hpl : (backTo pos (starEach [] X.env)).any (·.1) = false := by rfl) : DE X (.Call (.Name "tuple" p1) [e] [] pos) ρ H (.tuple ds) := fun σ H1 s x Q q =>
  re_of (pe_callTy call_tupleF hg hm (by decide +kernel) (pa_cons pe_re pa_nil hs) (he := hs) (hpl := hpl)) (h σ H1 s x _ ⟨p, xs, rfl, x.sql hH, fun l o hn ho => q _ _ (Ex.new hn) (.tup (PlT.of ho upd_same) ((t.mono x.xt).mono (Ex.new hn).xt))⟩)
end
section
variable {P : Program} {w : World} {K : PySem.W.Frag} {mg : Str → Option Value} {base : Heap} {k : Nat}
theorem cal_ask_of (T : Tx K mg w) (k : Nat) : Cal P w K mg base "ask_of" (k + 1) (spF K (fun a : List Wish × Plan => [eWishes a.1, ePlan a.2]) (fun a => a.1.length ≤ 1000) (fun a => ePrs (askOf a.1 a.2))) :=
  cal_F d_ask_of T.g_ask_of T.f_ask_of sc_ask_of (fun _ _ _ _ _ _ us hl => match us, hl with | [_, _], _ => rfl) (fun _ => rfl) fun cdv A outer s H E Q a hr ok q => by
  obtain ⟨ws, pl⟩ := a
  refine sx_setL 2 sc_ask_of.nd (le_lst ae_nil) fun p xs H1 hp x1 hx t => ?_
  cases t
  refine sx_for (fun H2 i ρ' H' => Ex H H' ∧ Xt H2 H' ∧ ∃ (acc : List Pr) (ys : List V) (k3 k4 k5 k6 k7 k8 : Kd), ρ' = [.dat (eWishes ws), .dat (ePlan pl), .obj p, k3, k4, k5, k6, k7, k8] ∧ H' p = some (.lst ys) ∧ Tps K H' ys (acc.map ePr) ∧ acc.length ≤ i ∧ i ≤ 1000 ∧ askGo (ws.drop i) (pl.drop i) acc = askOf ws pl)
    rfl PassesOwn.never (ig_zipT rfl T.n_zip (de_name 0 rfl) (de_name 1 rfl)) ?_ ?_ ?_ ?_
  · exact fun H2 x2 => ⟨x1.trans x2, Xt.refl _, [], [], _, _, _, _, _, _, rfl, x2 _ _ hx, .nil, Nat.le_refl _, Nat.zero_le _, rfl⟩
  · exact fun H2 i ρ' H' _ _ h => h.2.1
  · rintro H2 i d ρ' H' x2 hd ⟨xh, xt, acc, ys, k3, k4, k5, k6, k7, k8, rfl, hys, ty, hl, hi, hgo⟩
    obtain ⟨dx, dy, hdx, hdy, rfl⟩ := prs2_get hd
    rw [List.getElem?_map] at hdx hdy
    cases e1 : ws[i]? with
    | none => rw [e1] at hdx; cases hdx
    | some x =>
      cases e2 : pl[i]? with
      | none => rw [e2] at hdy; cases hdy
      | some r =>
        rw [e1] at hdx
        rw [e2] at hdy
        cases hdx
        cases hdy
        have hi1 : i < ws.length := (List.getElem?_eq_some_iff.mp e1).1
        have hi2 : i < pl.length := (List.getElem?_eq_some_iff.mp e2).1
        have d1 : ws.drop i = x :: ws.drop (i + 1) := by rw [List.drop_eq_getElem_cons hi1, (List.getElem?_eq_some_iff.mp e1).2]
        have d2 : pl.drop i = r :: pl.drop (i + 1) := by rw [List.drop_eq_getElem_cons hi2, (List.getElem?_eq_some_iff.mp e2).2]
        rw [d1, d2] at hgo
        have hlen : ws.length ≤ 1000 := ok
        have hi3 : i + 1 ≤ 1000 := by omega
        refine ⟨_, _, tg_tup rfl (tgs_cons (tg_tup rfl (tgs_cons (tg_name 3 sc_ask_of.nd) (tgs_cons (tg_name 4 sc_ask_of.nd) (tgs_cons (tg_name 5 sc_ask_of.nd) (tgs_cons (tg_name 6 sc_ask_of.nd) tgs_nil)))))
          (tgs_cons (tg_tup rfl (tgs_cons (tg_name 7 sc_ask_of.nd) (tgs_cons (tg_name 8 sc_ask_of.nd) tgs_nil))) tgs_nil)), fun H3 x3 => ?_⟩
        refine sx_if (k := !PyData.eqv (eInts r.2) (.tuple []) && (isNon (eNeed x.needs) || ((acc.map ePr).any fun z => PyData.eqv z (eNeed x.needs)))) (be_w (we_and (be_cmp (opd_ne (by exact hr) (depth_ints64 _) depth_nil64) (de_name 8 rfl) (de_tup ae_nil)) fun _ =>
          we_and1 (be_w (we_or (be_cmp opd_isN (de_name 6 rfl) de_non) fun hn => we_or1 (be_inO (p := p) (by exact hr) (de_name 6 rfl) (oe_name 2 rfl) (SqL.of (x3 _ _ hys)) (ty.mono x3.xt) (depth_need _) (depths_pr acc))))))
          (fun hk H4 x4 => ?_) (fun hk H4 x4 => ?_)
        · rw [Bool.and_eq_true, eqv_ints_nil] at hk
          obtain ⟨hk1, hk2⟩ := hk
          obtain ⟨rk, rl⟩ := r
          obtain ⟨w0, wr, rfl⟩ : ∃ w0 wr, rl = w0 :: wr := by
            cases rl with
            | nil => simp at hk1
            | cons a b => exact ⟨a, b, rfl⟩
          have hnd : needOk acc x.needs = true := by
            cases en : x.needs with
            | none => rfl
            | some p =>
              rw [en] at hk2
              simp only [eNeed, ePr, isNon, Bool.false_or] at hk2
              rw [show PyData.tuple [PyData.str p.1, PyData.int p.2] = ePr p from rfl, any_need] at hk2
              exact hk2
          refine sx_append (oe_name 2 rfl) (x4 _ _ (x3 _ _ hys)) (de_tup (ae_cons (de_name 3 rfl) (ae_cons (de_at (ds := .int w0 :: wr.map .int) 0 (de_name 8 rfl)) ae_nil))) (by rw [ty.len, List.length_map]; exact small1000 (by omega)) fun v H5 x5 tv =>
            sx_next (sx_nil fun σ s => ⟨_, s, ?_⟩)
          have x6 : Ex H' H5 := (x3.trans x4).trans x5
          refine ⟨(xh.trans x6).upd_new hp, xt.trans (xt_app x6 hys), acc ++ [(x.kind, w0)], _, _, _, _, _, _, _, rfl, upd_same, ?_, by simp; omega, hi3, ?_⟩
          · rw [List.map_append]
            have xu := xt_app (ys := ys ++ [v]) x6 hys
            exact (ty.mono xu).append (.cons (tv.mono (Xt.upd (x6 _ _ hys) (by intro _ z; cases z) (by intro _ _ z; cases z))) .nil)
          · rw [← hgo]
            simp only [askGo, hnd, if_true]
        · refine sx_next (sx_nil fun σ s => ⟨_, s, ?_⟩)
          have x6 : Ex H' H4 := x3.trans x4
          refine ⟨xh.trans x6, xt.trans x6.xt, acc, _, _, _, _, _, _, _, rfl, x6 _ _ hys, ty.mono x6.xt, by omega, hi3, ?_⟩
          rw [← hgo]
          obtain ⟨rk, rl⟩ := r
          cases rl with
          | nil => simp only [askGo]
          | cons w0 wr =>
            have hnd : needOk acc x.needs = false := by
              have e3 : PyData.eqv (eInts (w0 :: wr)) (.tuple []) = false := by rw [eqv_ints_nil]; simp
              simp only [e3, Bool.not_false, Bool.true_and] at hk
              cases en : x.needs with
              | none => rw [en] at hk; simp [eNeed, isNon] at hk
              | some p =>
                rw [en] at hk
                simp only [eNeed, ePr, isNon, Bool.false_or] at hk
                rw [show PyData.tuple [PyData.str p.1, PyData.int p.2] = ePr p from rfl, any_need] at hk
                exact hk
            simp only [askGo, hnd, Bool.false_eq_true, if_false]
  · rintro H2 ρ' H' x2 ⟨xh, xt, acc, ys, k3, k4, k5, k6, k7, k8, rfl, hys, ty, hl, hi, hgo⟩
    have e : acc = askOf ws pl := by
      rw [← hgo]
      have hlen : (prs2 (ws.map eWish) (pl.map eRow)).length = min ws.length pl.length := by unfold prs2; simp
      simp only [hlen]
      rcases Nat.le_total ws.length pl.length with h | h
      · rw [Nat.min_eq_left h, List.drop_length]
        simp [askGo]
      · rw [Nat.min_eq_right h, List.drop_length (l := pl)]
        cases ws.drop pl.length <;> simp [askGo]
    refine sx_ret (de_tupleO rfl T.n_tuple (oe_name 2 rfl) (SqL.of hys) ty) fun v H4 x4 t => q v H4 (xh.trans x4) ?_
    rw [e] at t
    exact t
end
end CW
/-! part CwW4 -/
set_option maxRecDepth 100000
set_option maxHeartbeats 4000000
/-! The walk: what is said, kinds, what is left behind, refusals. -/
namespace CW
open PySem PySem.Spec PyProof.Rows L2
/-! ### promises: a new list -/
def spL {α : Type} (K : PySem.W.Frag) (args : α → List PyData) (pre : α → Prop) (res : α → List PyData) : Sp := fun vs H Q _ => ∃ a, Tps K H vs (args a) ∧ pre a ∧ ∀ p xs H', H p = none → Ex H H' → H' p = some (.lst xs) → Tps K H' xs (res a) → Q (.ref p) H'
section
variable {P : Program} {w : World} {K : PySem.W.Frag} {mg : Str → Option Value} {base : Heap} {x : Str} {N ps : List Str} {k : Nat}
theorem cal_L {α : Type} {args : α → List PyData} {pre : α → Prop} {res : α → List PyData} (d : He.DefD) (hg : mg x = some (.ref (He.fAd K (x, none)))) (hf : ∃ fd, FunD K d.name d.qual d.params d.body d.scope (d.dvs K) (d.kws K) (He.fAd K (x, none)) fd) (S : FnScope N ps d.scope)
    (hb : BindN d ps) (len : ∀ a, (args a).length = ps.length)
    (body : ∀ cdv A outer s H E Q a, Room k (CC P w K mg base d N (He.fAd K (x, none)) cdv A outer s H E).A → pre a → (∀ p xs H', H p = none → Ex H H' → H' p = some (.lst xs) → Tps K H' xs (res a) → Q (.ref p) H') → SX (CC P w K mg base d N (He.fAd K (x, none)) cdv A outer s H E) d.body (rho0 N (args a)) H (DE0 Q))
    (hd : d.dfl = [] := by rfl) : Cal P w K mg base x (k + 1) (spL K args pre res) :=
  cal_of d hg hf S hd hb (fun vs H Q E ⟨a, t, _, _⟩ => by rw [t.len, len]) fun cdv A outer s H E vs Q hr ⟨a, t, p, q⟩ => body cdv A outer s H E Q a hr p q _ (sl_start t)
end
section
variable {X : Cx} {e : Expr} {es : List Expr} {ρ : List Kd} {H : Hp} {x : Str} {k : Nat} {pos p1 : Pos} {α : Type} {args : α → List PyData} {pre : α → Prop} {res : α → List PyData}
theorem le_fn {rs ds : List PyData} (C : Cal X.prog X.w X.K X.mg X.base x k (spL X.K args pre res)) (hr : Room k X.A) (a : α) (ha : AE X (e :: es) ρ H ds) (hp : pre a) (hds : ds = args a := by rfl) (hd : res a = rs := by rfl) (hg : Gl X x := by rfl)
    (hdb : (x == ("__debug__" : Str)) = false := by decide) (he : starEach (e :: es) X.env = (false, eval e X.env) :: starEach es X.env := by rfl) (hpl : (backTo pos (starEach es X.env)).any (·.1) = false := by rfl) : LE X (.Call (.Name x p1) (e :: es) [] pos) ρ H rs := by
  subst hds hd
  exact fun σ H1 s y Q q => re_call C hr hg (ha σ H1 s y _ fun vs H2 x2 t => ⟨a, t, hp, fun p xs H3 hp x3 hl tv => q p xs H3 (x2.free hp) (x2.trans x3) hl tv⟩) hdb he hpl
theorem BE.not' {c : Expr} {k : Bool} (h : BE X c ρ H k) : BE X (.UnaryOp .Not c pos) ρ H (!k) := be_not h
end
theorem sWord_eq (w : Word) (v : Word) : PyData.eqv (.str (sWord w)) (.str (sWord v)) = decide (w = v) := by
  rw [eqv_str]
  cases w <;> cases v <;> decide +kernel
theorem sWord_ok (w : Word) : PyData.strOk (sWord w) = true := by cases w <;> decide +kernel
section
variable {P : Program} {w : World} {K : PySem.W.Frag} {mg : Str → Option Value} {base : Heap} {k : Nat}
theorem cal_are_pairs (T : Tx K mg w) (k : Nat) : Cal P w K mg base "are_pairs" (k + 3) (spF K (fun a : List Pr => [ePrs a]) (fun a => a.all pairOk = true ∧ a.length ≤ 1000) (fun _ => .bool true)) :=
  cal_F d_are_pairs T.g_are_pairs T.f_are_pairs sc_are_pairs (fun _ _ _ _ _ _ us hl => match us, hl with | [_], _ => rfl) (fun _ => rfl) fun cdv A outer s H E Q a hr ok q => by
  refine sx_ret (DE.to (de_and (de_isi (k := true) rfl T.n_isinstance (de_name 0 rfl) rfl T.n_tuple rfl kTT) fun _ => de_one (de_all (bs := a.map fun _ => true) rfl rfl T.n_all
    (LE.to (le_lc (xs := a) (enc := ePr) (own := [("one", 1)]) (f := fun _ => .bool true) (c := fun _ => true) rfl sc_are_pairs.nd (ie_tup (de_name 0 rfl)) (blk_ok (by kernel_rfl))
      (fun z hz => tu [1] _ fun s0 H0 C cl fp => ⟨tg_name 1 sc_are_pairs.nd, rfl, fun _ => de_fn (cal_is_pair T k) (by exact hr) z (ae_cons (de_name 1 rfl) ae_nil) (List.all_eq_true.mp ok.1 z hz)⟩) (small1000 ok.2)) ?_))) ?_) fun v H1 x t => q v H1 x t
  · rw [List.filter_eq_self.mpr fun _ _ => rfl, List.map_map]; rfl
  · have : (a.map fun _ => true).all id = true := by simp
    rw [this]
    rfl
theorem cal_is_said (T : Tx K mg w) (k : Nat) : Cal P w K mg base "is_said" (k + 4) (spF K (fun a : Str × List Pr => [.tuple [.str a.1, ePrs a.2]]) (fun a => a.2.all pairOk = true ∧ a.2.length ≤ 1000) (fun _ => .bool true)) :=
  cal_F d_is_said T.g_is_said T.f_is_said sc_is_said (fun _ _ _ _ _ _ us hl => match us, hl with | [_], _ => rfl) (fun _ => rfl) fun cdv A outer s H E Q a hr ok q => by
  refine sx_ret (DE.to (de_and (de_fn (cal_is_tuple T (k + 2)) hr ([.str a.1, ePrs a.2], 2, 2) (ae_cons (de_name 0 rfl) (ae_cons de_int (ae_cons de_int ae_nil))) trivial) fun _ =>
    de_and (de_isi (d := .str a.1) (k := true) rfl T.n_isinstance (de_at (ds := [.str a.1, ePrs a.2]) 0 (de_name 0 rfl)) rfl T.n_str rfl kSS) fun _ => de_one (de_fn (cal_are_pairs T k) hr a.2 (ae_cons (de_at (ds := [.str a.1, ePrs a.2]) 1 (de_name 0 rfl)) ae_nil) ok)) ?_) fun v H1 x t => q v H1 x t
  rfl
theorem cal_kinds_in (T : Tx K mg w) (k : Nat) : Cal P w K mg base "kinds_in" (k + 1) (spL K (fun a : List Pr => [ePrs a]) (fun a => a.length ≤ 1000) (fun a => a.map fun p => .str p.1)) :=
  cal_L d_kinds_in T.g_kinds_in T.f_kinds_in sc_kinds_in (fun _ _ _ _ _ _ us hl => match us, hl with | [_], _ => rfl) (fun _ => rfl) fun cdv A outer s H E Q a hr ok q => by
  refine sx_retL (LE.to (le_lc (xs := a) (enc := ePr) (own := [("kind", 1), ("worth", 2)]) (f := fun p => .str p.1) (c := fun _ => true) rfl sc_kinds_in.nd (ie_tup (de_name 0 rfl)) (blk_ok (by kernel_rfl))
      (fun z hz => tu [1, 2] _ fun s0 H0 C cl fp => ⟨tg_tup (ds := [.str z.1, .int z.2]) rfl (tgs_cons (tg_name 1 sc_kinds_in.nd) (tgs_cons (tg_name 2 sc_kinds_in.nd) tgs_nil)), rfl, fun _ => de_name 1 rfl⟩) (small1000 ok)) ?_) fun p xs H1 hp x hl t => q p xs H1 hp x hl t
  rw [List.filter_eq_self.mpr fun _ _ => rfl]
theorem cal_left_behind (T : Tx K mg w) (k : Nat) : Cal P w K mg base "left_behind" (k + 1) (spF K (fun a : Word × Int × List Int => [.str (sWord a.1), .int a.2.1, eInts a.2.2]) (fun a => a.2.2.length ≤ 500) (fun a => eInts (leftBehind (decide (a.1 = .no)) a.2.1 a.2.2))) :=
  cal_F d_left_behind T.g_left_behind T.f_left_behind sc_left_behind (fun _ _ _ _ _ _ us hl => match us, hl with | [_, _, _], _ => rfl) (fun _ => rfl) fun cdv A outer s H E Q a hr ok q => by
  obtain ⟨wd, wo, lf⟩ := a
  have hlf : lf.length ≤ 500 := ok
  refine sx_if (be_cmp (opd_eq hr (depth_str _) (depth_str _)) (de_name 0 rfl) de_str) (fun hk H1 x1 => sx_ret (de_tup ae_nil) fun v H2 x2 t => q v H2 (x1.trans x2) ?_) fun hk H1 x1 => sx_next (sx_set 3 sc_left_behind.nd (de_tail (de_name 2 rfl)) fun H2 x2 => ?_)
  · rw [show PyData.str (Str.ofString "no") = .str (sWord .no) from rfl, sWord_eq] at hk
    have e : leftBehind (decide (wd = .no)) wo lf = [] := by unfold leftBehind; rw [hk, if_pos rfl]
    simp only [e]
    exact t
  · rw [show PyData.str (Str.ofString "no") = .str (sWord .no) from rfl, sWord_eq] at hk
    have et : PyData.tuple ((lf.map PyData.int).drop 1) = eInts (lf.drop 1) := by unfold eInts; rw [List.map_drop]
    have hdl : (lf.drop 1).length ≤ 500 := by rw [List.length_drop]; omega
    rw [et]
    refine sx_if (be_cmp (opd_notInInt hr wo (lf.drop 1)) (de_name 1 rfl) (de_name 3 rfl)) (fun hk2 H3 x3 => sx_ret (de_name 3 rfl) fun v H4 x4 t => q v H4 (((x1.trans x2).trans x3).trans x4) ?_) fun hk2 H3 x3 => sx_next (sx_ret (de_bin (opd_cat (ds := [.int wo])
      (es := ((lf.drop 1).filter fun z => !PyData.eqv (.int z) (.int wo)).map .int) ?_) (de_tup (ae_cons (de_name 1 rfl) ae_nil)) (de_tupleL rfl T.n_tuple (le_lc (xs := lf.drop 1) (enc := .int) (own := [("one", 4)]) (f := .int) (c := fun z => !PyData.eqv (.int z) (.int wo)) rfl sc_left_behind.nd (ie_tup (de_name 3 rfl)) (blk_ok (by kernel_rfl))
      (fun z hz => tu [4] _ fun s0 H0 C cl fp => ⟨tg_name 4 sc_left_behind.nd, be_cmp (opd_ne (by exact hr) (depth_int _) (depth_int _)) (de_name 4 rfl) (de_name 1 rfl), fun _ => de_name 4 rfl⟩) (small1000 (by omega))))) fun v H4 x4 t => q v H4 (((x1.trans x2).trans x3).trans x4) ?_)
    · have e : leftBehind (decide (wd = .no)) wo lf = lf.drop 1 := by
        unfold leftBehind
        rw [hk]
        have : wo ∉ lf.drop 1 := by simpa using hk2
        rw [if_neg Bool.false_ne_true, if_pos this]
      simp only [e]
      exact t
    · rw [List.length_map]
      have := List.length_filter_le (fun z => !PyData.eqv (.int z) (.int wo)) (lf.drop 1)
      exact small1k (by simp only [List.length_cons, List.length_nil]; omega)
    · have e : leftBehind (decide (wd = .no)) wo lf = wo :: (lf.drop 1).filter fun z => !PyData.eqv (.int z) (.int wo) := by
        unfold leftBehind
        rw [hk]
        have : ¬ wo ∉ lf.drop 1 := by simpa using hk2
        rw [if_neg Bool.false_ne_true, if_neg this]
        congr 1
        congr 1
        funext z
        rw [eqv_int]
        simp
      simp only [e]
      exact t
theorem cal_letter_back (T : Tx K mg w) (k : Nat) : Cal P w K mg base "letter_back" (k + 1) (spF K (fun a : Letter × Str => [eLet a.1, .str a.2]) (fun _ => True) (fun a => eLet ⟨a.2, .bye, a.1.yours, a.1.mine, 0, []⟩)) :=
  cal_F d_letter_back T.g_letter_back T.f_letter_back sc_letter_back (fun _ _ _ _ _ _ us hl => match us, hl with | [_, _], _ => rfl) (fun _ => rfl) fun cdv A outer s H E Q a hr ok q =>
  sx_unpack (de_name 0 rfl) (tg_tup (ds := [.str a.1.who, .str (sWord a.1.word), .int a.1.mine, .int a.1.yours, .int a.1.number, ePrs a.1.pairs]) rfl (tgs_cons (tg_name 2 sc_letter_back.nd) (tgs_cons (tg_name 3 sc_letter_back.nd) (tgs_cons (tg_name 4 sc_letter_back.nd) (tgs_cons (tg_name 5 sc_letter_back.nd) (tgs_cons (tg_name 6 sc_letter_back.nd) (tgs_cons (tg_name 7 sc_letter_back.nd) tgs_nil)))))))
  fun H1 x1 => sx_ret (de_tup (ae_cons (de_name 1 rfl) (ae_cons de_str (ae_cons (de_name 5 rfl) (ae_cons (de_name 4 rfl) (ae_cons de_int (ae_cons (de_tup ae_nil) ae_nil))))))) fun v H2 x2 t => q v H2 (x1.trans x2) t
end
end CW
/-! part CwDct3 -/
set_option maxRecDepth 100000
set_option maxHeartbeats 4000000
/-! Sorted lists, dict comprehensions, updates, stores. -/
namespace CW
open PySem PySem.Spec PyProof.Rows L2
/-! ### sorted(xs), xs a list of pairs -/
def sortPr (ps : List Pr) : List Pr := ps.mergeSort (PySem.W.dataLe false ePr)
theorem sortPr_perm (ps : List Pr) : (sortPr ps).Perm ps := List.mergeSort_perm ps _
theorem alike_pr (a b : Pr) : PySem.W.alike (ePr a) (ePr b) = true := by
  unfold ePr
  simp [PySem.W.alike, PySem.W.alikeAll]
section
variable {K : PySem.W.Frag} {H : Hp}
theorem each_tp {pins : List (Addr × Obj)} {X : Cx} {σ : L2.St} {s : Shared} (I : Inv X pins σ H s) : ∀ {ys : List V} {us : List Value} {bs : List Pr}, Vals ys us → Tps X.K H ys (bs.map ePr) →
    PySem.W.EachIs (fun u b => ∃ y, RelV y u ∧ Tp X.K H y (ePr b)) us bs ∧ PySem.W.EachIs (fun v b => ∃ as, Reads s.heap v (ePr b) as) us bs
  | _, _, [], r, t => by
    cases t
    cases r
    exact ⟨.nil, .nil⟩
  | _, _, b :: bs, r, t => by
    cases t with
    | cons a t =>
      cases r with
      | cons h r =>
        obtain ⟨e1, e2⟩ := each_tp I r t
        exact ⟨.cons ⟨_, h, a⟩ e1, .cons (Dp.reads I _ _ _ a.dp h) e2⟩
theorem of_each {us : List Value} {bs : List Pr} (h : PySem.W.EachIs (fun u b => ∃ y, RelV y u ∧ Tp K H y (ePr b)) us bs) : ∃ ys, Vals ys us ∧ Tps K H ys (bs.map ePr) := by
  induction h with
  | nil => exact ⟨[], .nil, .nil⟩
  | cons h t ih =>
    obtain ⟨y, r, tp⟩ := h
    obtain ⟨ys, rs, ts⟩ := ih
    exact ⟨y :: ys, .cons r rs, .cons tp ts⟩
end
section
variable {X : Cx} {e a b o : Expr} {es : List Expr} {ρ : List Kd} {H : Hp} {pos p1 : Pos} {ds : List PyData} {d : PyData} {p : Addr} {T T' T2 : List (Str × PyData)} {j : Nat} {k : Str} {sts : List Stmt} {D : Ends}
theorem call_sortedP (hr : Room j X.A) : CallR X (.builtin "sorted") (fun xs H Q => ∃ (a : Addr) (ys : List V) (bs : List Pr), xs = [.ref a] ∧ SqL X.K H a ys ∧ Tps X.K H ys (bs.map ePr) ∧ bs.length ≤ 1000 ∧
    ∀ l zs, H l = none → Tps X.K H zs ((sortPr bs).map ePr) → Q (.ref l) (upd H l (.lst zs))) := by
  intro pins s σ H xs us Q I r h
  obtain ⟨a, ys, bs, rfl, hq, t, hz, q⟩ := h
  obtain ⟨u, rfl, rx⟩ := vals1 r
  cases rx
  obtain ⟨its, rv, pl, _⟩ := I.list hq
  obtain ⟨e1, e2⟩ := each_tp I rv t
  refine PySem.W.sorted_data (R := fun u b => ∃ y, RelV y u ∧ Tp X.K H y (ePr b)) (enc := ePr) pl.isList e1 e2 (PySem.W.AllAlike.of alike_pr) (PySem.W.Sortable.tuples fun b => ⟨_, _, rfl⟩) (small1k hz) (fun b _ => by
    have h1 := depth_pr b
    have h2 := hr.un
    omega) fun out ho eo => ?_
  obtain ⟨zs, rz, tz⟩ := of_each eo
  obtain ⟨ep, he'⟩ := PyProof.Rows.sortedAll_at s.heap its out.toArray
  have hlen : zs.length ≤ sizeLine := by rw [rz.length, ho]; exact small1k hz
  exact ⟨.ref _, upd H (s.heap.objs.size + 1) (.lst zs), I.laid (t' := s.toks) (fun _ _ => PyProof.Rows.sortedAll_old) (Nat.le_succ _) ⟨hlen, out, ep, rz, he'⟩, rfl, q _ _ (I.hok.fresh (Nat.le_succ _)) tz⟩
theorem le_sorted {bs : List Pr} (hr : Room j X.A) (hg : Gl X "sorted") (hm : X.mg "sorted" = none) (h : LE X e ρ H (bs.map ePr)) (hz : bs.length ≤ 1000) (hs : starEach [e] X.env = (false, eval e X.env) :: starEach [] X.env := by rfl)
    (hpl : (backTo pos (starEach [] X.env)).any (·.1) = false := by rfl) : LE X (.Call (.Name "sorted" p1) [e] [] pos) ρ H ((sortPr bs).map ePr) := fun σ H1 s x Q q =>
  re_of (pe_callB (call_sortedP hr) hg hm (by decide +kernel) (pa1 hs) (he := hs) (hpl := hpl)) (h σ H1 s x _ fun p xs H2 hp x2 hl t => ⟨p, xs, bs, rfl, SqL.of hl, t, hz, fun l zs hn tz => q l zs _ (x2.free hn) (x2.trans (Ex.new hn)) upd_same (tz.mono (Ex.new hn).xt)⟩)
/-! ### {k: v for .. in ..} -/
theorem lookup_snoc (T : List (Str × PyData)) (k : Str) (d : PyData) (h : k ∉ T.map (·.1)) (j : Str) : (T ++ [(k, d)]).lookup j = if j = k then some d else T.lookup j := by
  induction T with
  | nil =>
    simp only [List.nil_append, List.lookup_cons, List.lookup_nil]
    by_cases e : j = k
    · subst e; simp
    · have : (j == k) = false := by simpa using e
      rw [this, if_neg e]
  | cons q T ih =>
    obtain ⟨a, b⟩ := q
    rw [List.map_cons, List.mem_cons, not_or] at h
    rw [List.cons_append, List.lookup_cons, List.lookup_cons, ih h.2]
    by_cases e : j = a
    · subst e
      simp only [beq_self_eq_true]
      rw [if_neg fun z => h.1 z.symm]
    · have : (j == a) = false := by simpa using e
      rw [this]
def TurnD (zf : Bool) (X : Cx) (scope : Scope) (own : List (Str × Nat)) (tg kx vx : Expr) (ρ : List Kd) (H : Hp) (d : PyData) (k : Str) (r : PyData) : Prop :=
  ∃ is ρ', (∀ i ∈ is, i ∈ own.map (·.2)) ∧ ∀ (s : Shared) (H0 : Hp) (C : Addr) (cl : List (Str × Addr)) (fp : List Addr), TgE zf (X.blk s H0 scope (compEnvC scope cl C X.env) fp) tg is d (wipeK ρ (own.map (·.2))) ρ' ∧
    DE (X.blk s H0 scope (compEnvC scope cl C X.env) fp) kx ρ' H (.str k) ∧ DE (X.blk s H0 scope (compEnvC scope cl C X.env) fp) vx ρ' H r
theorem me_dc {zf : Bool} {tg iter kx vx : Expr} {scope : Scope} {own : List (Str × Nat)} {α : Type} {xs : List α} {enc val : α → PyData} {key : α → Str} (hc : X.calm = true) (hN : X.N.Nodup) (hi : IE zf X tg iter ρ H (xs.map enc)) (ok : BlkOk X.N X.env.scope scope own)
    (turn : ∀ z ∈ xs, TurnD zf X scope own tg kx vx ρ H (enc z) (key z) (val z)) (nd : (xs.map key).Nodup) (hz : xs.length < sizeLine) (hs : ∀ x, foldedSetIterable iter X.env x = pure x := by intro _; rfl) :
    ME X (.DictComp kx vx [⟨tg, iter, [], 0⟩] scope pos) ρ H (xs.map fun z => (key z, val z)) := fun σ H1 s x Q q => by
  obtain ⟨wi, pi, hw⟩ := hi
  refine re_of (pe_dc hc hN pi ok (g := gB X scope tg) (tt := tB' X scope []) (tk := eB X scope kx) (tv := eB X scope vx) ?_ ?_ ?_ ?_ hs) (hw σ H1 s x _ fun J H2 x2 y D hD => ?_)
  · exact fun s0 H0 C cl fp => ⟨fun pins st σ H v u Q I r h => (h s0 H0 C cl fp).run pins st u I r⟩
  · exact fun s0 H0 C cl fp => ⟨fun pins st σ H Q I h => (h s0 H0 C cl fp).run pins st I⟩
  · exact fun s0 H0 C cl fp => ⟨fun pins st σ H Q I h => (h s0 H0 C cl fp).run pins st I⟩
  · exact fun s0 H0 C cl fp => ⟨fun pins st σ H Q I h => (h s0 H0 C cl fp).run pins st I⟩
  refine ⟨fun i m H' => m = xs.length - i ∧ i ≤ xs.length ∧ Ex H2 H' ∧ ∃ kvs, H' D = some (.dK kvs) ∧ TabK X.K H' kvs ((xs.take i).map fun z => (key z, val z)), ⟨xs.length, by simp, Nat.zero_le _, Ex.new hD, [], upd_same, .nil⟩, ?_⟩
  rintro i m H' ⟨rfl, hi, x3, kvs, hkv, ht⟩
  obtain ⟨y1, y2⟩ := y H' x3
  rw [List.length_map] at y1
  by_cases e : i = xs.length
  · subst e
    left
    rw [List.take_length] at ht
    exact ⟨y1, q D kvs H' (x2.free hD) (x2.trans x3) hkv ht⟩
  · right
    have hlt : i < xs.length := by omega
    have hx : xs[i]? = some xs[i] := List.getElem?_eq_getElem hlt
    obtain ⟨go, yl⟩ := y2 i (enc xs[i]) (by rw [List.getElem?_map, hx]; rfl)
    refine ⟨go, fun H'' => i + 1 ≤ xs.length ∧ Ex H2 H'' ∧ ∃ kvs, H'' D = some (.dK kvs) ∧ TabK X.K H'' kvs ((xs.take (i + 1)).map fun z => (key z, val z)), fun H'' n => ⟨xs.length - (i + 1), by omega, rfl, n⟩, fun v H'' hy => ?_⟩
    obtain ⟨x4, tv⟩ := yl v H'' hy
    obtain ⟨is, ρ', his, hh⟩ := turn xs[i] (List.getElem_mem hlt)
    intro s0 H0 C cl fp
    obtain ⟨ht1, ht2, ht3⟩ := hh s0 H0 C cl fp
    have hl : kvs.length < sizeLine := by
      have := ht.len
      rw [List.length_map, List.length_take] at this
      omega
    have tk : xs.take (i + 1) = xs.take i ++ [xs[i]] := by rw [List.take_add_one, hx]; rfl
    refine ht1 _ H'' v _ ((s.mono ((x2.trans x3).trans x4).xt).wipe _) tv fun σ' s' b => ⟨b.wipe his, ?_⟩
    intro s1 H3 C1 cl1 fp1
    refine bes_run (X := X.blk s1 H3 scope (compEnvC scope cl1 C1 X.env) fp1) (ifs := []) (b := true) (ρ := ρ') (H := H) rfl s' (((x.trans x2).trans x3).trans x4) (fun H5 x5 => ?_)
    rw [if_pos rfl]
    intro s2 H6 C2 cl2 fp2
    refine (hh s2 H6 C2 cl2 fp2).2.1 σ' H5 (s'.mono x5.xt) ((((x.trans x2).trans x3).trans x4).trans x5) _ fun kv H7 x7 tk7 => ?_
    intro s3 H8 C3 cl3 fp3
    refine (hh s3 H8 C3 cl3 fp3).2.2 σ' H7 (s'.mono (x5.trans x7).xt) (((((x.trans x2).trans x3).trans x4).trans x5).trans x7) _ fun w H9 x9 tw => ?_
    obtain ⟨rfl, _⟩ := tk7.str_inv
    have x10 : Ex H' H9 := ((x4.trans x5).trans x7).trans x9
    have hD9 : H9 D = some (.dK kvs) := x10 _ _ hkv
    have xu : Xt H9 (upd H9 D (.dK (putK kvs (.inr (key xs[i])) w))) := Xt.upd hD9 (by intro _ z; cases z) (by intro _ _ z; cases z)
    refine ⟨kvs, .inr (key xs[i]), rfl, hD9, hl, hlt, fun a o ha => ?_, _, upd_same, ?_⟩
    · rw [upd_ne (ne_of_none ha hD)]
      exact x10 _ _ (x3 _ _ ha)
    · rw [tk, List.map_append]
      refine TabK.put ((ht.mono x10.xt).mono xu) (tw.mono xu) (lookup_snoc _ _ _ ?_)
      rw [List.map_map]
      intro hm
      obtain ⟨z, hz1, hz2⟩ := List.mem_map.mp hm
      have nd2 : ((xs.take (i + 1)).map key).Nodup := (List.take_sublist (i + 1) xs).map key |>.nodup nd
      rw [tk, List.map_append, List.nodup_append] at nd2
      exact nd2.2.2 (key z) (List.mem_map.mpr ⟨z, hz1, rfl⟩) (key xs[i]) (by simp) hz2
/-! ### changes at one place -/
def Ch (p : Addr) (H H' : Hp) : Prop := (∀ a o, a ≠ p → H a = some o → H' a = some o) ∧ Xt H H'
theorem Ch.refl {p : Addr} (H : Hp) : Ch p H H := ⟨fun _ _ _ h => h, Xt.refl H⟩
theorem Ch.trans {p : Addr} {H H1 H2 : Hp} (h : Ch p H H1) (k : Ch p H1 H2) : Ch p H H2 := ⟨fun a o n e => k.1 a o n (h.1 a o n e), h.2.trans k.2⟩
theorem Ex.ch {p : Addr} {H H1 : Hp} (h : Ex H H1) : Ch p H H1 := ⟨fun a o _ e => h a o e, h.xt⟩
theorem Ch.upd {p : Addr} {H H1 : Hp} {kvs kvs' : List (Key × V)} (h : Ch p H H1) (e : H1 p = some (.dK kvs)) : Ch p H (upd H1 p (.dK kvs')) := ⟨fun a o n q => by rw [upd_ne n]; exact h.1 a o n q, h.2.trans (Xt.upd e (by intro _ z; cases z) (by intro _ _ z; cases z))⟩
theorem Ch.lst {p l : Addr} {H H1 : Hp} {xs : List V} (h : Ch p H H1) (n : l ≠ p) (e : H l = some (.lst xs)) : H1 l = some (.lst xs) := h.1 _ _ n e
/-- p.update(e) -/
theorem sx_update {apos spos : Pos} (ho : OE X o ρ H p) (hD : DicAt X.K H p T) (he : ME X e ρ H T2) (hT : ∀ j, T'.lookup j = (T2.lookup j).or (T.lookup j)) (hz : T.length + T2.length ≤ 1000) (k : ∀ H', Ch p H H' → DicAt X.K H' p T' → SX X sts ρ H' D)
    (hbase : attributeBase o "update" X.env (eval o X.env) = eval o X.env := by rfl)
    (hfew : ((backTo pos (starEach [e] X.env)).all (fun x => !x.1) && (backToKw pos (keywordEach [] X.env)).all (fun x => x.1.isSome)
      && decide (([e] : List Expr).length + ([] : List Keyword).length + (if ([] : List Keyword).isEmpty then 0 else 1) < 30)) = true := by rfl)
    (hline : (apos.endLine == pos.line) = true := by rfl) (hs : starEach [e] X.env = (false, eval e X.env) :: starEach [] X.env := by rfl) (hplain : (backTo pos (starEach [] X.env)).any (·.1) = false := by rfl)
    (hsw : swapsWith (.Call (.Attribute o "update" apos) [e] [] pos) none spos.line X.env = pure false := by rfl) : SX X (.Expr (.Call (.Attribute o "update" apos) [e] [] pos) spos :: sts) ρ H D := by
  obtain ⟨kvs, hH, t⟩ := hD
  refine sx_cons (ps_expr (pe_bm F.plainAttrs_dict F.slot_dict_update F.type_dict_update mt_upd pe_re (pa1 hs) hbase hfew hline hs hplain) hsw) fun σ s => ho σ H s (Ex.refl _) _ ⟨.inr (.inr (.inl ⟨rfl, .inl ⟨kvs, hH⟩⟩)), he σ H s (Ex.refl _) _ fun q more H2 hq x2 hk t2 => ?_⟩
  refine ⟨p, q, kvs, more, rfl, rfl, fun z => ?_, x2 _ _ hH, hk, ?_, ?_⟩
  · subst z; rw [hH] at hq; cases hq
  · have h1 := t.len
    have h2 := t2.len
    exact small1k (by omega)
  · have c : Ch p H (upd H2 p (.dK (mergeK kvs more))) := x2.ch.upd (x2 _ _ hH)
    have xu : Xt H2 (upd H2 p (.dK (mergeK kvs more))) := Xt.upd (x2 _ _ hH) (by intro _ z; cases z) (by intro _ _ z; cases z)
    exact k _ c ⟨_, upd_same, TabK.merge ((t.mono x2.xt).mono xu) (t2.mono xu) hT⟩ σ (s.mono c.2)
/-- p[k] = e -/
theorem sx_dput {pos' : Pos} (hr : Room j X.A) (ho : OE X o ρ H p) (hi : DE X b ρ H (.str k)) (hD : DicAt X.K H p T) (he : DE X e ρ H d) (hT : ∀ j, T'.lookup j = if j = k then some d else T.lookup j) (hz : T.length < 1000)
    (kk : ∀ H', Ch p H H' → DicAt X.K H' p T' → SX X sts ρ H' D) (hs : swapsWith e (some (.Subscript o b pos')) pos.line X.env = pure false := by rfl) : SX X (.Assign [.Subscript o b pos'] e pos :: sts) ρ H D := by
  obtain ⟨kvs, hH, t⟩ := hD
  refine sx_cons (ps_dput (hu_of hr) pe_re pe_re pe_re hs) fun σ s => he σ H s (Ex.refl _) _ fun v H1 x1 tv => ho σ H1 (s.mono x1.xt) x1 _ (hi σ H1 (s.mono x1.xt) x1 _ fun w H2 x2 tk => ?_)
  obtain ⟨rfl, _⟩ := tk.str_inv
  have hH2 := x2 _ _ (x1 _ _ hH)
  have hl : kvs.length < sizeLine := by have := t.len; exact small1000 (by omega)
  have xu : Xt H2 (upd H2 p (.dK (putK kvs (.inr k) v))) := Xt.upd hH2 (by intro _ z; cases z) (by intro _ _ z; cases z)
  have c : Ch p H (upd H2 p (.dK (putK kvs (.inr k) v))) := (x1.trans x2).ch.upd hH2
  exact ⟨p, _, rfl, DPut.k (k := .inr k) hH2 hl, kk _ c ⟨_, upd_same, TabK.put ((t.mono (x1.trans x2).xt).mono xu) ((tv.mono x2.xt).mono xu) hT⟩ σ (s.mono c.2)⟩
end
end CW
/-! part CwW5 -/
set_option maxRecDepth 100000
set_option maxHeartbeats 4000000
/-! The walk: answers, refusals. -/
namespace CW
open PySem PySem.Spec PyProof.Rows L2
def tPlan (b : Plan) : List (Str × PyData) := b.map fun q => (q.1, eInts q.2)
theorem tPlan_rows (b : Plan) : ePlan b = .tuple ((tPlan b).map eKv) := by
  unfold ePlan tPlan
  rw [List.map_map]
  rfl
theorem tPlan_keys (b : Plan) : (tPlan b).map (·.1) = b.map (·.1) := by
  unfold tPlan
  rw [List.map_map]
  rfl
theorem tPlan_lookup (b : Plan) (k : Str) : (tPlan b).lookup k = (b.lookup k).map eInts := by
  unfold tPlan
  induction b with
  | nil => rfl
  | cons q b ih =>
    obtain ⟨a, l⟩ := q
    simp only [List.map_cons, List.lookup_cons]
    cases k == a
    · exact ih
    · rfl
theorem ePrs_eq (ps : List Pr) (c : Pr → Bool) : PyData.tuple ((ps.filter c).map ePr) = ePrs (ps.filter c) := rfl
theorem eqv_prs_nil (xs : List Pr) : PyData.eqv (ePrs xs) (.tuple []) = decide (xs = []) := by rw [← ePrs_nil, eqv_prs]
section
variable {X : Cx} {a b : Expr} {ρ : List Kd} {H : Hp} {pos : Pos} {d : PyData}
theorem de_if' {c : Expr} (k : Bool) (h : BE X c ρ H k) (h1 : k = true → DE X a ρ H d) (h2 : k = false → DE X b ρ H d) : DE X (.IfExp c a b pos) ρ H d := de_if h h1 h2
end
section
variable {P : Program} {w : World} {K : PySem.W.Frag} {mg : Str → Option Value} {base : Heap} {k : Nat}
structure AnsPre (b : Plan) (ask : List Pr) : Prop where
  bok : BOk b
  blen : b.length ≤ 1000
  alen : ask.length ≤ 1000
theorem cal_answer (T : Tx K mg w) (k : Nat) : Cal P w K mg base "answer" (k + 1) (spF K (fun a : Plan × List Pr => [ePlan a.1, ePrs a.2]) (fun a => AnsPre a.1 a.2) (fun a => .tuple [.str (sWord (answer a.1 a.2).1), ePrs (answer a.1 a.2).2])) :=
  cal_F d_answer T.g_answer T.f_answer sc_answer (fun _ _ _ _ _ _ us hl => match us, hl with | [_, _], _ => rfl) (fun _ => rfl) fun cdv A outer s H E Q a hr ok q => by
  obtain ⟨b, ask⟩ := a
  have ok : AnsPre b ask := ok
  refine sx_setM 2 sc_answer.nd (me_dictT (T := tPlan b) rfl rfl T.n_dict (DE.to (de_name 0 rfl) (tPlan_rows b)) (by rw [tPlan_keys]; exact ok.bok.nd)) fun p H1 hp x1 hD => ?_
  refine sx_set 3 sc_answer.nd (de_tupleL rfl T.n_tuple (le_lc (xs := ask) (enc := ePr) (own := [("pair", 5)]) (f := ePr) (c := fun z => !((tPlan b).lookup z.1).isSome) rfl sc_answer.nd (ie_tup (de_name 1 rfl)) (blk_ok (by kernel_rfl))
      (fun z hz => tu [5] _ fun s0 H0 C cl fp => ⟨tg_name 5 sc_answer.nd, be_notInD (by exact hr) (de_at (ds := [.str z.1, .int z.2]) 0 (de_name 5 rfl)) (oe_name 2 rfl) hD, fun _ => de_name 5 rfl⟩) (small1000 ok.alen))) fun H2 x2 => ?_
  rw [ePrs_eq]
  have e1 : (ask.filter fun z => !((tPlan b).lookup z.1).isSome) = ask.filter fun z => (b.lookup z.1).isNone := by
    congr 1
    funext z
    rw [tPlan_lookup]
    cases b.lookup z.1 <;> rfl
  rw [e1]
  refine sx_if (be_cmp (opd_ne hr (depth_prs64 _) depth_nil64) (de_name 3 rfl) (de_tup ae_nil)) (fun hk H3 x3 => sx_ret (de_tup (ae_cons de_str (ae_cons (de_name 3 rfl) ae_nil))) fun v H4 x4 t => q v H4 (((x1.trans x2).trans x3).trans x4) ?_) fun hk H3 x3 => sx_next ?_
  · rw [eqv_prs_nil] at hk
    have hne : (ask.filter fun z => (b.lookup z.1).isNone) ≠ [] := by simpa using hk
    have e2 : answer b ask = (.no, ask.filter fun z => (b.lookup z.1).isNone) := by unfold answer; rw [if_pos hne]
    simp only [e2]
    exact t
  · rw [eqv_prs_nil] at hk
    have hne : (ask.filter fun z => (b.lookup z.1).isNone) = [] := by simpa using hk
    have hsome : ∀ z ∈ ask, ∃ l, b.lookup z.1 = some l ∧ l ≠ [] := fun z hz => by
      cases e : b.lookup z.1 with
      | none =>
        have : z ∈ ask.filter fun z => (b.lookup z.1).isNone := List.mem_filter.mpr ⟨hz, by rw [e]; rfl⟩
        rw [hne] at this
        cases this
      | some l => exact ⟨l, rfl, (ok.bok.each _ (lookup_mem e)).1⟩
    have hD3 := hD.mono (x2.trans x3)
    refine sx_set 4 sc_answer.nd (de_tupleL rfl T.n_tuple (le_lc (xs := ask) (enc := ePr) (own := [("kind", 6), ("worth", 7)]) (f := fun z => ePr (z.1, (boundOf b z.1).headD 0)) (c := fun z => !decide (z.2 ∈ boundOf b z.1)) rfl sc_answer.nd (ie_tup (de_name 1 rfl)) (blk_ok (by kernel_rfl))
      (fun z hz => by
        obtain ⟨l, hl, hln⟩ := hsome z hz
        have hb : boundOf b z.1 = l := by unfold boundOf; rw [hl]; rfl
        have hT : (tPlan b).lookup z.1 = some (eInts (boundOf b z.1)) := by rw [tPlan_lookup, hl, hb]; rfl
        have h0 : ((boundOf b z.1).map PyData.int)[0]? = some (.int ((boundOf b z.1).headD 0)) := by
          rw [hb]
          cases l with
          | nil => exact absurd rfl hln
          | cons c r => rfl
        exact tu [6, 7] _ fun s0 H0 C cl fp => ⟨tg_tup (ds := [.str z.1, .int z.2]) rfl (tgs_cons (tg_name 6 sc_answer.nd) (tgs_cons (tg_name 7 sc_answer.nd) tgs_nil)), be_cmp (opd_notInInt (by exact hr) z.2 (boundOf b z.1)) (de_name 7 rfl) (de_get (by exact hr) (oe_name 2 rfl) (de_name 6 rfl) hD3 hT),
          fun _ => de_tup (ae_cons (de_name 6 rfl) (ae_cons (de_at (ds := (boundOf b z.1).map .int) 0 (de_get (by exact hr) (oe_name 2 rfl) (de_name 6 rfl) hD3 hT) rfl h0) ae_nil))⟩) (small1000 ok.alen))) fun H4 x4 => ?_
    have e3 : PyData.tuple ((ask.filter fun z => !decide (z.2 ∈ boundOf b z.1)).map fun z => ePr (z.1, (boundOf b z.1).headD 0)) = ePrs ((ask.filter fun z => decide (z.2 ∉ boundOf b z.1)).map fun z => (z.1, (boundOf b z.1).headD 0)) := by
      unfold ePrs
      rw [List.map_map]
      congr 2
      congr 1
      funext z
      simp
    rw [e3]
    have e4 : answer b ask = if (ask.filter fun z => decide (z.2 ∉ boundOf b z.1)) ≠ [] then (.rather, (ask.filter fun z => decide (z.2 ∉ boundOf b z.1)).map fun z => (z.1, (boundOf b z.1).headD 0)) else (.yes, ask) := by
      unfold answer
      rw [if_neg (by rw [hne]; simp)]
    refine sx_ret (de_if (be_cmp (opd_ne hr (depth_prs64 _) depth_nil64) (de_name 4 rfl) (de_tup ae_nil)) (fun hk2 => DE.to (de_tup (ae_cons de_str (ae_cons (de_name 4 rfl) ae_nil))) ?_) fun hk2 => DE.to (de_tup (ae_cons de_str (ae_cons (de_name 1 rfl) ae_nil))) ?_) fun v H5 x5 t => q v H5 ((((x1.trans x2).trans x3).trans x4).trans x5) t
    · rw [eqv_prs_nil] at hk2
      have : (ask.filter fun z => decide (z.2 ∉ boundOf b z.1)) ≠ [] := by simpa using hk2
      simp only [e4, if_pos this]
      rfl
    · rw [eqv_prs_nil] at hk2
      have : (ask.filter fun z => decide (z.2 ∉ boundOf b z.1)) = [] := by simpa using hk2
      simp only [e4, this, ne_eq, not_true_eq_false, if_false]
      rfl
end
end CW
/-! part CwW6 -/
set_option maxRecDepth 100000
set_option maxHeartbeats 4000000
/-! The walk: refusals. -/
namespace CW
open PySem PySem.Spec PyProof.Rows L2
theorem prs2_zip {α β : Type} (f : α → PyData) (g : β → PyData) : ∀ (as : List α) (bs : List β), prs2 (as.map f) (bs.map g) = (as.zip bs).map fun q => .tuple [f q.1, g q.2]
  | [], _ => by simp [prs2]
  | _ :: _, [] => by simp [prs2]
  | a :: as, b :: bs => by
    have := prs2_zip f g as bs
    unfold prs2 at this ⊢
    simp only [List.map_cons, List.zipWith_cons_cons, List.zip_cons_cons, this]
theorem rising_zip : ∀ l : List Nat, rising l = (l.zip (l.drop 1)).all fun q => decide ((q.1 : Int) < (q.2 : Int))
  | [] => rfl
  | [_] => rfl
  | a :: b :: r => by
    have := rising_zip (b :: r)
    unfold rising
    rw [this]
    simp only [List.drop_succ_cons, List.drop_zero, List.zip_cons_cons, List.all_cons]
    congr 1
    by_cases h : a < b
    · rw [decide_eq_true h, decide_eq_true (by omega)]
    · rw [decide_eq_false h, decide_eq_false (by omega)]
theorem any_strs (k : Str) (ps : List Pr) : ((ps.map fun p => PyData.str p.1).any fun z => PyData.eqv z (.str k)) = decide (k ∈ ps.map (·.1)) := by
  have := any_map eqv_str k (ps.map (·.1))
  rw [List.map_map] at this
  exact this.trans (dec_irrel _ _)
theorem depth_strs (ps : List Pr) : PyData.depthAll (ps.map fun p => PyData.str p.1) ≤ 60 := depth_all (fun p => by simp [PyData.depth]) ps
theorem eqv_bool (a b : Bool) : PyData.eqv (.bool a) (.bool b) = (a == b) := by simp [PyData.eqv]
theorem depth_bool (b : Bool) : (PyData.bool b).depth ≤ 64 := by simp [PyData.depth]
theorem all_bools {α : Type} (xs : List α) (f : α → Bool) : (xs.map f).all id = xs.all f := by rw [List.all_map]; rfl
theorem lt_idxOf {k a : Str} : ∀ {l : List Str} {m : Nat}, m < l.idxOf k → l[m]? = some a → a ≠ k
  | [], m, h, e => by simp at e
  | b :: l, m, h, e => by
    rw [List.idxOf_cons] at h
    by_cases q : (b == k) = true
    · rw [q] at h
      simp at h
    · have q2 : (b == k) = false := by simpa using q
      rw [q2] at h
      simp only [cond_false] at h
      cases m with
      | zero =>
        simp at e
        subst e
        intro z
        subst z
        simp at q
      | succ m => exact lt_idxOf (l := l) (m := m) (by omega) (by simpa using e)
theorem idx_at {k : Str} {ps : List Pr} (h : k ∈ ps.map (·.1)) : (ps.map fun p => PyData.str p.1)[(ps.map (·.1)).idxOf k]? = some (.str k) ∧ ∀ (m : Nat) (z' : PyData), m < (ps.map (·.1)).idxOf k → (ps.map fun p => PyData.str p.1)[m]? = some z' → PyData.eqv z' (.str k) = false := by
  have e : (ps.map fun p => PyData.str p.1) = (ps.map (·.1)).map PyData.str := by rw [List.map_map]; rfl
  rw [e]
  constructor
  · rw [List.getElem?_map]
    have hl := List.idxOf_lt_length_of_mem h
    rw [List.getElem?_eq_getElem hl, List.getElem_idxOf hl]
    rfl
  · intro m z' hm hz
    rw [List.getElem?_map] at hz
    cases q : (ps.map (·.1))[m]? with
    | none => rw [q] at hz; cases hz
    | some a =>
      rw [q] at hz
      cases hz
      rw [eqv_str]
      refine decide_eq_false fun ea => ?_
      subst ea
      exact lt_idxOf hm q rfl
theorem IE.to {zf : Bool} {X : Cx} {tg iter : Expr} {ρ : List Kd} {H : Hp} {ds ds' : List PyData} (h : IE zf X tg iter ρ H ds) (e : ds = ds') : IE zf X tg iter ρ H ds' := e ▸ h
section
variable {P : Program} {w : World} {K : PySem.W.Frag} {mg : Str → Option Value} {base : Heap} {k : Nat}
structure RefPre (ps ask : List Pr) : Prop where
  plen : ps.length ≤ 1000
  alen : ask.length ≤ 1000
theorem cal_are_refusals (T : Tx K mg w) (k : Nat) : Cal P w K mg base "are_refusals" (k + 2) (spF K (fun a : Word × List Pr × List Pr => [.str (sWord a.1), ePrs a.2.1, ePrs a.2.2]) (fun a => RefPre a.2.1 a.2.2) (fun a => .bool (refusals (decide (a.1 = .no)) a.2.1 a.2.2))) :=
  cal_F d_are_refusals T.g_are_refusals T.f_are_refusals sc_are_refusals (fun _ _ _ _ _ _ us hl => match us, hl with | [_, _, _], _ => rfl) (fun _ => rfl) fun cdv A outer s H E Q a hr ok q => by
  obtain ⟨wd, ps, ask⟩ := a
  have ok : RefPre ps ask := ok
  refine sx_setL 3 sc_are_refusals.nd (le_fn (rs := ask.map fun p => .str p.1) (cal_kinds_in T k) hr ask (ae_cons (de_name 2 rfl) ae_nil) ok.alen) fun p xs H1 hp x1 hx tx => ?_
  refine sx_if (k := PyData.eqv (ePrs ps) (.tuple []) || !(ps.map fun p => ((ask.map fun p => PyData.str p.1).any fun z => PyData.eqv z (.str p.1))).all id) (be_w (we_or (be_cmp (opd_eq hr (depth_prs64 _) depth_nil64) (de_name 1 rfl) (de_tup ae_nil)) fun _ => we_or1 (be_not (be_val
    (de_all (bs := ps.map fun p => ((ask.map fun p => PyData.str p.1).any fun z => PyData.eqv z (.str p.1))) (by rfl) (by rfl) (by exact T.n_all) (LE.to (le_lc (xs := ps) (enc := fun p => .str p.1) (own := [("kind", 5)]) (f := fun p => .bool ((ask.map fun p => PyData.str p.1).any fun z => PyData.eqv z (.str p.1))) (c := fun _ => true) rfl sc_are_refusals.nd
      (ie_list (le_fn (cal_kinds_in T k) hr ps (ae_cons (de_name 1 rfl) ae_nil) ok.plen)) (blk_ok (by kernel_rfl))
      (fun z hz => tu [5] _ fun s0 H0 C cl fp => ⟨tg_name 5 sc_are_refusals.nd, (by rfl), fun _ => de_inO (by exact hr) (de_name 5 rfl) (oe_name 3 rfl) (SqL.of hx) tx (by simp [PyData.depth]) (depth_strs ask)⟩) (small1000 ok.plen)) (by rw [List.filter_eq_self.mpr fun _ _ => rfl, List.map_map]; rfl)))))))
    (fun hk H2 x2 => sx_ret de_bl fun v H3 x3 t => q v H3 ((x1.trans x2).trans x3) ?_) fun hk H2 x2 => sx_next ?_
  · have e : refusals (decide (wd = .no)) ps ask = false := by
      unfold refusals
      rw [eqv_prs_nil, all_bools, Bool.or_eq_true] at hk
      rcases hk with hk | hk
      · have : ¬ ps ≠ [] := by simpa using hk
        rw [decide_eq_false this]
        simp
      · have : (ps.all fun p => decide (p.1 ∈ ask.map (·.1))) = false := by
          rw [Bool.not_eq_true'] at hk
          rw [← hk]
          congr 1
          funext p
          exact (any_strs _ _).symm
        rw [this]
        simp
    simp only [e]
    exact t
  · rw [eqv_prs_nil, all_bools, Bool.or_eq_false_iff, Bool.not_eq_false'] at hk
    obtain ⟨hk1, hk2⟩ := hk
    have hne : ps ≠ [] := by simpa using hk1
    have hin : ∀ z ∈ ps, z.1 ∈ ask.map (·.1) := fun z hz => by
      have := List.all_eq_true.mp hk2 z hz
      rw [any_strs] at this
      exact of_decide_eq_true this
    have hall : (ps.all fun p => decide (p.1 ∈ ask.map (·.1))) = true := List.all_eq_true.mpr fun z hz => decide_eq_true (hin z hz)
    refine sx_setLc (xs := ps) (enc := fun p => .str p.1) (own := [("kind", 5)]) (f := fun p => .int ((ask.map (·.1)).idxOf p.1 : Nat)) (c := fun _ => true) 4 rfl sc_are_refusals.nd (ie_list (le_fn (cal_kinds_in T k) hr ps (ae_cons (de_name 1 rfl) ae_nil) ok.plen)) (blk_ok (by kernel_rfl))
      (fun z hz => by
        obtain ⟨i1, i2⟩ := idx_at (hin z hz)
        exact tu [5] _ fun s0 H0 C cl fp => ⟨tg_name 5 sc_are_refusals.nd, rfl, fun _ => de_index (by exact hr) (oe_name 3 rfl) (SqL.of (x2 _ _ hx)) (tx.mono x2.xt) (de_name 5 rfl) (by simp [PyData.depth]) (depth_strs ask) i1 (by rw [eqv_str]; simp) i2⟩) (small1000 ok.plen) fun p2 ys H3 hp2 x3 hy ty => ?_
    rw [List.filter_eq_self.mpr fun _ _ => rfl] at ty
    have ty' : Tps K H3 ys ((ps.map fun p => (ask.map (·.1)).idxOf p.1).map fun n => PyData.int (n : Nat)) := by rw [List.map_map]; exact ty
    generalize hidx : (ps.map fun p => (ask.map (·.1)).idxOf p.1) = idx at ty'
    have il : idx.length = ps.length := by rw [← hidx, List.length_map]
    refine sx_if (k := !((idx.zip (idx.drop 1)).map fun q => decide ((q.1 : Int) < (q.2 : Int))).all id) (be_not (be_val (de_all (by rfl) (by rfl) (by exact T.n_all) (LE.to (le_lc (zf := true) (xs := idx.zip (idx.drop 1)) (enc := fun q => .tuple [.int (q.1 : Nat), .int (q.2 : Nat)]) (own := [("place", 7), ("later", 8)]) (f := fun q => .bool (decide ((q.1 : Int) < (q.2 : Int)))) (c := fun _ => true) rfl sc_are_refusals.nd
      (by
        refine IE.to (ie_zipL ?_ ?_ ?_ (SqL.of hy) ty' (le_tailL ?_ (SqL.of hy) ty')) (by rw [← List.map_drop, prs2_zip])
        · rfl
        · exact T.n_zip
        · exact oe_name 4 rfl
        · exact oe_name 4 rfl) (blk_ok (by kernel_rfl))
      (fun z hz => tu [7, 8] _ fun s0 H0 C cl fp => ⟨tg_tup rfl (tgs_cons (tg_name 7 sc_are_refusals.nd) (tgs_cons (tg_name 8 sc_are_refusals.nd) tgs_nil)), rfl, fun _ => de_cmp opd_lt (de_name 7 rfl) (de_name 8 rfl)⟩) (by
        have h1 := ok.plen
        refine small1000 ?_
        rw [List.length_zip, il]
        omega)) (by rw [List.filter_eq_self.mpr fun _ _ => rfl, List.map_map]; rfl)))))
      (fun hk3 H4 x4 => sx_ret de_bl fun v H5 x5 t => q v H5 ((((x1.trans x2).trans x3).trans x4).trans x5) ?_) fun hk3 H4 x4 => sx_next (sx_ret (de_all (bs := ps.map fun z => PyData.eqv (.bool (decide (z ∈ ask))) (.bool (PyData.eqv (.str (sWord wd)) (.str "no")))) rfl rfl T.n_all
        (LE.to (le_lc (xs := ps) (enc := ePr) (own := [("pair", 6)]) (f := fun z => .bool (PyData.eqv (.bool (decide (z ∈ ask))) (.bool (PyData.eqv (.str (sWord wd)) (.str "no"))))) (c := fun _ => true) rfl sc_are_refusals.nd (ie_tup (de_name 1 rfl)) (blk_ok (by kernel_rfl))
          (fun z hz => tu [6] _ fun s0 H0 C cl fp => ⟨tg_name 6 sc_are_refusals.nd, rfl, fun _ => de_cmp (opd_eq (by exact hr) (depth_bool _) (depth_bool _)) (de_cmp (opd_inPr (by exact hr) z ask) (de_name 6 rfl) (de_name 2 rfl)) (de_cmp (opd_eq (by exact hr) (depth_str _) (depth_str _)) (de_name 0 rfl) de_str)⟩) (small1000 ok.plen))
          (by rw [List.filter_eq_self.mpr fun _ _ => rfl, List.map_map]; rfl))) fun v H5 x5 t => q v H5 ((((x1.trans x2).trans x3).trans x4).trans x5) ?_)
    · have e : refusals (decide (wd = .no)) ps ask = false := by
        unfold refusals
        rw [all_bools, Bool.not_eq_true'] at hk3
        rw [hidx, rising_zip, hk3]
        simp
      simp only [e]
      exact t
    · have e : refusals (decide (wd = .no)) ps ask = (ps.map fun z => PyData.eqv (.bool (decide (z ∈ ask))) (.bool (PyData.eqv (.str (sWord wd)) (.str "no")))).all id := by
        unfold refusals
        rw [all_bools, Bool.not_eq_false'] at hk3
        rw [hidx, rising_zip, hk3, hall, decide_eq_true hne, all_bools]
        simp only [Bool.true_and, eqv_bool]
        rw [show PyData.eqv (.str (sWord wd)) (.str "no") = decide (wd = .no) from sWord_eq wd .no]
      simp only [e]
      exact t
end
end CW
/-! part CwBehP -/
/-! The plain law of 'behind': lookups. -/
namespace CW
open PySem
theorem rising_pair : ∀ {l : List Nat}, rising l = true → l.Pairwise (· < ·)
  | [], _ => .nil
  | [a], _ => by simp
  | a :: b :: r, h => by
    unfold rising at h
    rw [Bool.and_eq_true, decide_eq_true_eq] at h
    have ih := rising_pair (l := b :: r) h.2
    rw [List.pairwise_cons]
    refine ⟨fun c hc => ?_, ih⟩
    rcases List.mem_cons.mp hc with rfl | hc
    · exact h.1
    · exact Nat.lt_trans h.1 ((List.pairwise_cons.mp ih).1 c hc)
theorem nodup_of_map {α β : Type} {f : α → β} : ∀ {l : List α}, (l.map f).Nodup → l.Nodup
  | [], _ => .nil
  | a :: l, h => by
    rw [List.map_cons, List.nodup_cons] at h
    rw [List.nodup_cons]
    exact ⟨fun m => h.1 (List.mem_map.mpr ⟨a, m, rfl⟩), nodup_of_map h.2⟩
structure RefFacts (ps ask : List Pr) : Prop where
  ne : ps ≠ []
  sub : ∀ p ∈ ps, p.1 ∈ ask.map (·.1)
  nd : (ps.map (·.1)).Nodup
theorem refusals_facts {b : Bool} {ps ask : List Pr} (h : refusals b ps ask = true) : RefFacts ps ask := by
  unfold refusals at h
  simp only [Bool.and_eq_true, decide_eq_true_eq, List.all_eq_true] at h
  obtain ⟨⟨⟨h1, h2⟩, h3⟩, _⟩ := h
  refine ⟨h1, h2, ?_⟩
  have := rising_pair h3
  have nd : (ps.map fun p => (ask.map (·.1)).idxOf p.1).Nodup := this.imp fun h => Nat.ne_of_lt h
  have e : (ps.map fun p => (ask.map (·.1)).idxOf p.1) = (ps.map (·.1)).map fun k => (ask.map (·.1)).idxOf k := by rw [List.map_map]; rfl
  rw [e] at nd
  exact nodup_of_map nd
theorem lookup_of_mem {β : Type} {k : Str} {v : β} : ∀ {l : List (Str × β)}, (l.map (·.1)).Nodup → (k, v) ∈ l → l.lookup k = some v
  | [], _, h => by cases h
  | (a, b) :: l, nd, h => by
    rw [List.map_cons, List.nodup_cons] at nd
    rw [List.lookup_cons]
    rcases List.mem_cons.mp h with e | h
    · cases e; simp
    · have : (k == a) = false := by
        apply beq_false_of_ne
        intro e
        exact nd.1 (List.mem_map.mpr ⟨(k, v), h, e⟩)
      rw [this]
      exact lookup_of_mem nd.2 h
theorem lookup_some_of {β : Type} {k : Str} : ∀ {l : List (Str × β)}, k ∈ l.map (·.1) → ∃ v, l.lookup k = some v ∧ (k, v) ∈ l
  | [], h => by cases h
  | (a, b) :: l, h => by
    rw [List.lookup_cons]
    by_cases e : k = a
    · subst e; exact ⟨b, by simp, by simp⟩
    · have : (k == a) = false := beq_false_of_ne e
      rw [this]
      rw [List.map_cons, List.mem_cons] at h
      rcases h with h | h
      · exact absurd h e
      · obtain ⟨v, h1, h2⟩ := lookup_some_of h
        exact ⟨v, h1, by simp [h2]⟩
theorem lookup_none_of {β : Type} {k : Str} : ∀ {l : List (Str × β)}, k ∉ l.map (·.1) → l.lookup k = none
  | [], _ => rfl
  | (a, b) :: l, h => by
    rw [List.map_cons, List.mem_cons, not_or] at h
    rw [List.lookup_cons, beq_false_of_ne h.1]
    exact lookup_none_of h.2
theorem planAt_of {p : Plan} {k : Str} (h : k ∈ p.map (·.1)) : p.lookup k = some (planAt p k) := by
  obtain ⟨v, h1, _⟩ := lookup_some_of h
  unfold planAt
  rw [h1]
  rfl
theorem planBehind_keys (b : Bool) (ps : List Pr) (pl : Plan) : (planBehind b ps pl).map (·.1) = pl.map (·.1) := by
  unfold planBehind
  rw [List.map_map]
  rfl
theorem planBehind_lookup (b : Bool) (ps : List Pr) (j : Str) : ∀ pl : Plan, (planBehind b ps pl).lookup j = (pl.lookup j).map fun l => match ps.lookup j with
    | some w => leftBehind b w l
    | none => l
  | [] => rfl
  | (a, l) :: pl => by
    have ih := planBehind_lookup b ps j pl
    unfold planBehind at ih ⊢
    simp only [List.map_cons, List.lookup_cons]
    by_cases e : j = a
    · subst e
      simp only [beq_self_eq_true, Option.map_some]
      all_goals (cases List.lookup j ps <;> rfl)
    · rw [beq_false_of_ne e]
      exact ih
/-- what the update tells of each kind -/
def updT (b : Bool) (ps : List Pr) (pl : Plan) : List (Str × List Int) := ps.map fun p => (p.1, leftBehind b p.2 (planAt pl p.1))
theorem updT_lookup (b : Bool) (ps : List Pr) (pl : Plan) (nd : (ps.map (·.1)).Nodup) (sub : ∀ p ∈ ps, p.1 ∈ pl.map (·.1)) (j : Str) : (planBehind b ps pl).lookup j = ((updT b ps pl).lookup j).or (pl.lookup j) := by
  rw [planBehind_lookup]
  have e : (updT b ps pl).lookup j = (ps.lookup j).map fun w => leftBehind b w (planAt pl j) := by
    unfold updT
    clear nd sub
    induction ps with
    | nil => rfl
    | cons q ps ih =>
      obtain ⟨a, w⟩ := q
      simp only [List.map_cons, List.lookup_cons]
      by_cases e : j = a
      · subst e; simp
      · rw [beq_false_of_ne e]; exact ih
  rw [e]
  cases h : ps.lookup j with
  | none => cases pl.lookup j <;> rfl
  | some w =>
    have hm : (j, w) ∈ ps := by
      clear nd sub e
      induction ps with
      | nil => cases h
      | cons q ps ih =>
        obtain ⟨a, w'⟩ := q
        rw [List.lookup_cons] at h
        by_cases e : j = a
        · subst e; simp at h; subst h; simp
        · rw [beq_false_of_ne e] at h; exact List.mem_cons_of_mem _ (ih h)
    rw [planAt_of (sub _ hm)]
    rfl
theorem plan_self : ∀ {pl : Plan}, (pl.map (·.1)).Nodup → pl.map (fun q => (q.1, planAt pl q.1)) = pl := by
  intro pl nd
  have : ∀ q ∈ pl, (q.1, planAt pl q.1) = q := fun q hq => by
    have := lookup_of_mem nd (k := q.1) (v := q.2) hq
    unfold planAt
    rw [this]
    rfl
  calc pl.map (fun q => (q.1, planAt pl q.1)) = pl.map id := List.map_congr_left this
    _ = pl := List.map_id pl
end CW
/-! part CwW7 -/
set_option maxRecDepth 100000
set_option maxHeartbeats 4000000
/-! The walk: behind. -/
namespace CW
open PySem PySem.Spec PyProof.Rows L2
theorem Ex.ch_new {p : Addr} {H H1 H2 : Hp} (h : H p = none) (x : Ex H H1) (c : Ch p H1 H2) : Ex H H2 := fun a o e => c.1 a o (ne_of_none e h) (x a o e)
section
variable {X : Cx} {e a b o : Expr} {es : List Expr} {ρ : List Kd} {H : Hp} {pos p1 : Pos} {ds : List PyData} {d : PyData} {p : Addr} {xs : List V} {j : Nat}
/-- xs[i], i written, xs a list in a slot -/
theorem de_ixO (i : Nat) {v : Int} {p2 : Pos} {jj : Nat} (h1 : OE X a ρ H p) (hH : SqL X.K H p xs) (t : Tps X.K H xs ds) (hd : ds[i]? = some d) (hv : v = (i : Int) := by rfl) : DE X (.Subscript a (.Constant (.int v) jj p2) pos) ρ H d := fun σ H1 s x Q q =>
  re_of (pe_ix ix_list pe_re pe_int (fun _ _ => rfl)) (h1 σ H1 s x _ (by
    obtain ⟨z, hz, tz⟩ := t.at hd
    exact ⟨p, xs, v, z, rfl, rfl, x.sql hH, by rw [hv]; exact atI_nat hz, q z H1 (Ex.refl _) (tz.mono x.xt)⟩))
end
def eBeh (ws : List Wish) (pl : Plan) (w : Word) (ps : List Pr) : PyData := match behind ws pl w ps with
  | none => .none
  | some (.agreed a) => .tuple [.str "agreed", ePrs a]
  | some (.failed k) => .tuple [.str "failed", .str k]
  | some (.plan p) => .tuple [.str "plan", ePlan p, ePrs (sortPr (newRefused (decide (w = .no)) ps (askOf ws pl)))]
structure BehPre (ws : List Wish) (pl : Plan) (ps : List Pr) : Prop where
  ok : WsOk ws
  nd : (ws.map (·.kind)).Nodup
  pf : PlanFor ws pl
  pairs : ps.all pairOk = true
  plen : ps.length ≤ 500
  wlen : ws.length ≤ 400
  small : ∀ x ∈ ws, x.worths.length ≤ 400
theorem PlanFor.small {n : Nat} : ∀ {ws : List Wish} {p : Plan}, PlanFor ws p → (∀ x ∈ ws, x.worths.length ≤ n) → ∀ q ∈ p, q.2.length ≤ n
  | [], [], _, _ => fun q hq => by cases hq
  | x :: xs, q :: qs, ⟨_, _, h3, h4⟩, h => fun r hr => by
    rcases List.mem_cons.mp hr with rfl | hr
    · exact Nat.le_trans h3 (h x (by simp))
    · exact PlanFor.small h4 (fun y hy => h y (by simp [hy])) r hr
  | [], _ :: _, h, _ => h.elim
  | _ :: _, [], h, _ => h.elim
theorem planAt_small {n : Nat} {p : Plan} (h : ∀ q ∈ p, q.2.length ≤ n) (k : Str) : (planAt p k).length ≤ n := by
  unfold planAt
  cases e : p.lookup k with
  | none => exact Nat.zero_le _
  | some l => exact h _ (lookup_mem e)
theorem ask_kinds {ws : List Wish} {pl : Plan} (pf : PlanFor ws pl) : ∀ p ∈ askOf ws pl, p.1 ∈ ws.map (·.kind) := fun p hp => by
  obtain ⟨x, hx, e, _⟩ := (askOf_heads ws pl).mem pf p hp
  exact List.mem_map.mpr ⟨x, hx, e.symm⟩
theorem lookup_map_prs (ask : List Pr) (k : Str) : (ask.map fun p => (p.1, PyData.int p.2)).lookup k = (ask.lookup k).map PyData.int := by
  induction ask with
  | nil => rfl
  | cons q r ih =>
    obtain ⟨a, w⟩ := q
    simp only [List.map_cons, List.lookup_cons]
    by_cases e : k = a
    · subst e; simp
    · rw [beq_false_of_ne e]; exact ih
theorem behind_none {ws : List Wish} {pl : Plan} {wd : Word} {ps : List Pr} (pk : ps.all pairOk = true) (hny : wd ≠ .yes) (h : (wd = .no ∨ wd = .rather) → refusals (decide (wd = .no)) ps (askOf ws pl) = false) : behind ws pl wd ps = none := by
  unfold behind
  rw [if_pos pk]
  cases wd with
  | yes => exact absurd rfl hny
  | no =>
    show behindRef true ws pl ps = none
    have := h (.inl rfl)
    unfold behindRef
    rw [if_neg]
    rw [show refusals true ps (askOf ws pl) = false from this]
    decide
  | rather =>
    show behindRef false ws pl ps = none
    have := h (.inr rfl)
    unfold behindRef
    rw [if_neg]
    rw [show refusals false ps (askOf ws pl) = false from this]
    decide
  | _ => rfl
theorem str_depths : ∀ xs : List Str, PyData.depthAll (xs.map PyData.str) ≤ 60 := depth_all fun _ => by simp [PyData.depth]
theorem ask_len (ws : List Wish) (pl : Plan) : (askOf ws pl).length ≤ ws.length := by
  have := (askOf_heads ws pl).sub.length_le
  simpa using this
section
variable {P : Program} {w : World} {K : PySem.W.Frag} {mg : Str → Option Value} {base : Heap} {k : Nat}
theorem two_words (w : Word) : ([PyData.str "no", PyData.str "rather"].any fun z => PyData.eqv z (.str (sWord w))) = (decide (w = .no) || decide (w = .rather)) := by
  simp only [List.any_cons, List.any_nil, Bool.or_false]
  rw [show PyData.eqv (.str "no") (.str (sWord w)) = decide (Word.no = w) from sWord_eq .no w, show PyData.eqv (.str "rather") (.str (sWord w)) = decide (Word.rather = w) from sWord_eq .rather w]
  cases w <;> rfl
theorem cal_behind (T : Tx K mg w) (k : Nat) : Cal P w K mg base "behind" (k + 5) (spF K (fun a : List Wish × Plan × Word × List Pr => [eWishes a.1, ePlan a.2.1, .tuple [.str (sWord a.2.2.1), ePrs a.2.2.2]]) (fun a => BehPre a.1 a.2.1 a.2.2.2) (fun a => eBeh a.1 a.2.1 a.2.2.1 a.2.2.2)) :=
  cal_F d_behind T.g_behind T.f_behind sc_behind (fun _ _ _ _ _ _ us hl => match us, hl with | [_, _, _], _ => rfl) (fun _ => rfl) fun cdv A outer s H E Q a hr ok q => by
  obtain ⟨ws, pl, wd, ps⟩ := a
  have ok : BehPre ws pl ps := ok
  have pkinds := ok.pf.kinds
  have plens := ok.pf.small ok.small
  have alen := ask_len ws pl
  have wlen := ok.wlen
  have plen := ok.plen
  refine sx_if (k := !true) (be_not (be_val (de_fn (cal_is_said T k) hr (sWord wd, ps) (ae_cons (de_name 2 rfl) ae_nil) ⟨ok.pairs, by show ps.length ≤ 1000; omega⟩))) (fun hk => absurd hk (by decide)) fun _ H1 x1 => sx_next ?_
  refine sx_unpack (de_name 2 rfl) (tg_tup (ds := [.str (sWord wd), ePrs ps]) rfl (tgs_cons (tg_name 8 sc_behind.nd) (tgs_cons (tg_name 9 sc_behind.nd) tgs_nil))) fun H2 x2 => ?_
  refine sx_set 3 sc_behind.nd (de_fn (cal_ask_of T (k + 3)) hr (ws, pl) (ae_cons (de_name 0 rfl) (ae_cons (de_name 1 rfl) ae_nil)) (by show ws.length ≤ 1000; omega)) fun H3 x3 => ?_
  have x03 : Ex H H3 := (x1.trans x2).trans x3
  refine sx_if (be_cmp (opd_eq hr (depth_str _) (depth_str _)) (de_name 8 rfl) de_str) (fun hk H4 x4 => sx_ret (d := eBeh ws pl wd ps) (de_if (be_cmp (opd_eq hr (depth_prs64 _) (depth_prs64 _)) (de_name 9 rfl) (de_name 3 rfl)) (fun hk2 => DE.to (de_tup (ae_cons de_str (ae_cons (de_name 3 rfl) ae_nil))) ?_) fun hk2 => DE.to de_non ?_) fun v H5 x5 t => q v H5 ((x03.trans x4).trans x5) t) fun hk H4 x4 => sx_next ?_
  · rw [show PyData.eqv (.str (sWord wd)) (.str "yes") = decide (wd = .yes) from sWord_eq wd .yes] at hk
    rw [eqv_prs] at hk2
    have e1 : wd = .yes := of_decide_eq_true hk
    have e2 : ps = askOf ws pl := of_decide_eq_true hk2
    subst e1
    have : behind ws pl .yes ps = some (.agreed (askOf ws pl)) := by unfold behind; rw [if_pos ok.pairs]; simp only [if_pos e2]
    unfold eBeh
    rw [this]
  · rw [show PyData.eqv (.str (sWord wd)) (.str "yes") = decide (wd = .yes) from sWord_eq wd .yes] at hk
    rw [eqv_prs] at hk2
    have e1 : wd = .yes := of_decide_eq_true hk
    have e2 : ¬ ps = askOf ws pl := of_decide_eq_false hk2
    subst e1
    have : behind ws pl .yes ps = none := by unfold behind; rw [if_pos ok.pairs]; simp only [if_neg e2]
    unfold eBeh
    rw [this]
  rw [show PyData.eqv (.str (sWord wd)) (.str "yes") = decide (wd = .yes) from sWord_eq wd .yes] at hk
  have hny : wd ≠ .yes := of_decide_eq_false hk
  refine sx_if (k := (!([PyData.str "no", PyData.str "rather"].any fun z => PyData.eqv z (.str (sWord wd)))) || !refusals (decide (wd = .no)) ps (askOf ws pl)) (be_w (we_or (be_cmp (opd_notIn hr (depth_str _)) (de_name 8 rfl) (de_tup (ae_cons de_str (ae_cons de_str ae_nil)))) fun _ => we_or1 (be_not (be_val
    (de_fn (cal_are_refusals T (k + 2)) hr (wd, ps, askOf ws pl) (ae_cons (de_name 8 rfl) (ae_cons (de_name 9 rfl) (ae_cons (de_name 3 rfl) ae_nil))) ⟨by show ps.length ≤ 1000; omega, by show (askOf ws pl).length ≤ 1000; omega⟩)))))
    (fun hk2 H5 x5 => sx_ret (d := eBeh ws pl wd ps) (DE.to de_non ?_) fun v H6 x6 t => q v H6 (((x03.trans x4).trans x5).trans x6) t) fun hk2 H5 x5 => sx_next ?_
  · rw [two_words, Bool.or_eq_true, Bool.not_eq_true', Bool.not_eq_true'] at hk2
    have : behind ws pl wd ps = none := behind_none ok.pairs hny fun hw => by
      rcases hk2 with h | h
      · rcases hw with e | e
        · rw [e] at h; exact absurd h (by decide)
        · rw [e] at h; exact absurd h (by decide)
      · exact h
    unfold eBeh
    rw [this]
  rw [two_words, Bool.or_eq_false_iff, Bool.not_eq_false', Bool.not_eq_false'] at hk2
  obtain ⟨hw, hrf⟩ := hk2
  have hbeh : behind ws pl wd ps = behindRef (decide (wd = .no)) ws pl ps := by
    unfold behind
    rw [if_pos ok.pairs]
    cases wd <;> first | rfl | exact absurd hw (by decide)
  have rf := refusals_facts hrf
  have psub : ∀ p ∈ ps, p.1 ∈ pl.map (·.1) := fun p hp => by
    rw [pkinds]
    obtain ⟨z, hz, e⟩ := List.mem_map.mp (rf.sub p hp)
    rw [← e]
    exact ask_kinds ok.pf z hz
  have pnd : (pl.map (·.1)).Nodup := by rw [pkinds]; exact ok.nd
  have pll : pl.length = ws.length := by simpa using congrArg List.length pkinds
  have x05 : Ex H H5 := (x03.trans x4).trans x5
  refine sx_setM 4 sc_behind.nd (me_dictT (T := tPlan pl) rfl rfl T.n_dict (DE.to (de_name 1 rfl) (tPlan_rows pl)) (by rw [tPlan_keys]; exact pnd)) fun p4 H6 hp4 x6 hD => ?_
  have x06 : Ex H H6 := x05.trans x6
  have hget : ∀ z ∈ ps, (tPlan pl).lookup z.1 = some (eInts (planAt pl z.1)) := fun z hz => by rw [tPlan_lookup, planAt_of (psub z hz)]; rfl
  refine sx_update (T' := tPlan (planBehind (decide (wd = .no)) ps pl)) (oe_name 4 rfl) hD (me_dc (xs := ps) (enc := ePr) (key := fun z => z.1) (val := fun z => eInts (leftBehind (decide (wd = .no)) z.2 (planAt pl z.1))) (own := [("kind", 10), ("worth", 14)]) rfl sc_behind.nd (ie_tup (de_name 9 rfl)) (blk_ok (by kernel_rfl))
    (fun z hz => ⟨[10, 14], _, by decide, fun s0 H0 C cl fp => ⟨tg_tup (ds := [.str z.1, .int z.2]) rfl (tgs_cons (tg_name 10 sc_behind.nd) (tgs_cons (tg_name 14 sc_behind.nd) tgs_nil)), de_name 10 rfl,
      de_fn (cal_left_behind T (k + 3)) (by exact hr) (wd, z.2, planAt pl z.1) (ae_cons (de_name 8 rfl) (ae_cons (de_name 14 rfl) (ae_cons (de_get (by exact hr) (oe_name 4 rfl) (de_name 10 rfl) hD (hget z hz)) ae_nil))) (by have := planAt_small plens z.1; show (planAt pl z.1).length ≤ 500; omega)⟩⟩) rf.nd (small1000 (by omega))) ?_ ?_ fun H7 c7 hD7 => ?_
  · intro j
    have := updT_lookup (decide (wd = .no)) ps pl rf.nd psub j
    rw [tPlan_lookup, tPlan_lookup, this]
    have e : (ps.map fun z => (z.1, eInts (leftBehind (decide (wd = .no)) z.2 (planAt pl z.1)))).lookup j = ((updT (decide (wd = .no)) ps pl).lookup j).map eInts := by
      rw [← tPlan_lookup]
      unfold tPlan updT
      rw [List.map_map]
      rfl
    rw [e]
    cases (updT (decide (wd = .no)) ps pl).lookup j <;> rfl
  · unfold tPlan
    simp only [List.length_map]
    omega
  generalize hpb : planBehind (decide (wd = .no)) ps pl = pb at hD7
  have pbk : pb.map (·.1) = ws.map (·.kind) := by rw [← hpb, planBehind_keys, pkinds]
  have x07 : Ex H H7 := Ex.ch_new (x05.free hp4) x06 c7
  have hpget : ∀ z, z ∈ ws.map (·.kind) → (tPlan pb).lookup z = some (eInts (planAt pb z)) := fun z hz => by rw [tPlan_lookup, planAt_of (by rw [pbk]; exact hz)]; rfl
  refine sx_setLc (xs := ws) (enc := eWish) (own := [("kind", 10), ("worths", 11), ("must", 12), ("needs", 13)]) (f := fun z => .str z.kind) (c := fun z => z.must && PyData.eqv (eInts (planAt pb z.kind)) (.tuple [])) 5 rfl sc_behind.nd (ie_tup (de_name 0 rfl)) (blk_ok (by kernel_rfl))
    (fun z hz => tu [10, 11, 12, 13] _ fun s0 H0 C cl fp => ⟨tg_tup (ds := [.str z.kind, eInts z.worths, .bool z.must, eNeed z.needs]) rfl (tgs_cons (tg_name 10 sc_behind.nd) (tgs_cons (tg_name 11 sc_behind.nd) (tgs_cons (tg_name 12 sc_behind.nd) (tgs_cons (tg_name 13 sc_behind.nd) tgs_nil)))),
      be_w (we_and (be_val (de_name 12 rfl)) fun _ => we_and1 (be_cmp (opd_eq (by exact hr) (depth_ints64 _) depth_nil64) (de_get (by exact hr) (oe_name 4 rfl) (de_name 10 rfl) hD7 (hpget _ (List.mem_map.mpr ⟨z, hz, rfl⟩))) (de_tup ae_nil))), fun _ => de_name 10 rfl⟩) (small1000 (by omega)) fun p5 ys H8 hp5 x8 hy ty => ?_
  have hD8 := hD7.mono x8
  have x08 : Ex H H8 := x07.trans x8
  have hlack : lacking ws pb = (ws.filter fun z => z.must && PyData.eqv (eInts (planAt pb z.kind)) (.tuple [])).head? := by
    unfold lacking
    rw [List.head?_filter]
    congr 1
    funext z
    rw [eqv_ints_nil]
  generalize hfl : (ws.filter fun z => z.must && PyData.eqv (eInts (planAt pb z.kind)) (.tuple [])) = fl at ty hlack
  have hbr : behindRef (decide (wd = .no)) ws pl ps = match lacking ws pb with
      | some x => some (.failed x.kind)
      | none => some (.plan pb) := by
    unfold behindRef
    rw [if_pos hrf, hpb]
    all_goals (cases lacking ws pb <;> rfl)
  have dfl : PyData.depthAll (fl.map fun z => PyData.str z.kind) ≤ 60 := depth_all (fun _ => by simp [PyData.depth]) fl
  refine sx_if (k := !(fl.map fun z => PyData.str z.kind).isEmpty) (be_neNil hr (oe_name 5 rfl) (SqL.of hy) ty dfl (le_lst ae_nil)) (fun hk2 H9 x9 => ?_) fun hk2 H9 x9 => sx_next ?_
  · obtain ⟨f0, fr, rfl⟩ : ∃ f0 fr, fl = f0 :: fr := by
      cases fl with
      | nil => simp at hk2
      | cons a b => exact ⟨a, b, rfl⟩
    refine sx_ret (d := eBeh ws pl wd ps) (DE.to (de_tup (ae_cons de_str (ae_cons (de_ixO 0 (oe_name 5 rfl) (SqL.of (x9 _ _ hy)) (ty.mono x9.xt) (d := .str f0.kind) rfl) ae_nil))) ?_) fun v H10 x10 t => q v H10 ((x08.trans x9).trans x10) t
    unfold eBeh
    rw [hbeh, hbr, hlack]
    rfl
  · have hnil : fl = [] := by
      cases fl with
      | nil => rfl
      | cons a b => simp at hk2
    subst hnil
    have andp : ((askOf ws pl).map (·.1)).Nodup := (askOf_heads ws pl).sub.nodup ok.nd
    refine sx_setM 6 sc_behind.nd (me_dictT (T := (askOf ws pl).map fun p => (p.1, PyData.int p.2)) rfl rfl T.n_dict (DE.to (de_name 3 rfl) (by unfold ePrs; rw [List.map_map]; rfl)) (by rw [List.map_map]; exact andp)) fun p6 H10 hp6 x10 hDa => ?_
    refine sx_setL 7 sc_behind.nd (le_sorted (bs := newRefused (decide (wd = .no)) ps (askOf ws pl)) hr rfl T.n_sorted (LE.to (le_lc (xs := ps) (enc := ePr) (own := [("kind", 10), ("worth", 14)]) (f := fun z => ePr (z.1, if wd = .no then -1 else ((askOf ws pl).lookup z.1).getD 0)) (c := fun _ => true) rfl sc_behind.nd (ie_tup (de_name 9 rfl)) (blk_ok (by kernel_rfl))
      (fun z hz => by
        have hl : ((askOf ws pl).map fun p => (p.1, PyData.int p.2)).lookup z.1 = some (.int (((askOf ws pl).lookup z.1).getD 0)) := by
          obtain ⟨v, h1, _⟩ := lookup_some_of (rf.sub z hz)
          rw [lookup_map_prs, h1]
          rfl
        exact tu [10, 14] _ fun s0 H0 C cl fp => ⟨tg_tup (ds := [.str z.1, .int z.2]) rfl (tgs_cons (tg_name 10 sc_behind.nd) (tgs_cons (tg_name 14 sc_behind.nd) tgs_nil)), rfl, fun _ => de_tup (ae_cons (de_name 10 rfl) (ae_cons (de_if (be_cmp (opd_eq (by exact hr) (depth_str _) (depth_str _)) (de_name 8 rfl) de_str)
          (fun hk3 => DE.to (de_gint T.ALL) (by
            rw [show PyData.eqv (.str (sWord wd)) (.str "no") = decide (wd = .no) from sWord_eq wd .no] at hk3
            rw [if_pos (of_decide_eq_true hk3)]))
          (fun hk3 => DE.to (de_get (by exact hr) (oe_name 6 rfl) (de_name 10 rfl) hDa hl) (by
            rw [show PyData.eqv (.str (sWord wd)) (.str "no") = decide (wd = .no) from sWord_eq wd .no] at hk3
            rw [if_neg (of_decide_eq_false hk3)]))) ae_nil))⟩) (small1000 (by omega))) (by
        rw [List.filter_eq_self.mpr fun _ _ => rfl]
        unfold newRefused
        rw [List.map_map]
        apply List.map_congr_left
        intro z _
        simp only [Function.comp, decide_eq_true_eq])) (by unfold newRefused; rw [List.length_map]; omega)) fun p7 zs H11 hp7 x11 hz tz => ?_
    have hDp := hD8.mono ((x9.trans x10).trans x11)
    refine sx_ret (d := eBeh ws pl wd ps) (DE.to (de_tup (ae_cons de_str (ae_cons (de_tupleL rfl T.n_tuple (le_lc (xs := pl) (enc := eRow) (own := [("kind", 10), ("old", 15)]) (f := fun z => eRow (z.1, planAt pb z.1)) (c := fun _ => true) rfl sc_behind.nd (ie_tup (de_name 1 rfl)) (blk_ok (by kernel_rfl))
      (fun z hz => by
        have hl := hpget z.1 (by rw [← pkinds]; exact List.mem_map.mpr ⟨z, hz, rfl⟩)
        exact tu [10, 15] _ fun s0 H0 C cl fp => ⟨tg_tup (ds := [.str z.1, eInts z.2]) rfl (tgs_cons (tg_name 10 sc_behind.nd) (tgs_cons (tg_name 15 sc_behind.nd) tgs_nil)), rfl, fun _ => de_tup (ae_cons (de_name 10 rfl) (ae_cons (de_get (by exact hr) (oe_name 4 rfl) (de_name 10 rfl) hDp hl) ae_nil))⟩) (small1000 (by omega))))
      (ae_cons (de_tupleO rfl T.n_tuple (oe_name 7 rfl) (SqL.of hz) tz) ae_nil)))) ?_) fun v H12 x12 t => q v H12 ((((x08.trans x9).trans x10).trans x11).trans x12) t
    unfold eBeh
    rw [hbeh, hbr, hlack]
    simp only [List.head?_nil]
    rw [List.filter_eq_self.mpr fun _ _ => rfl]
    have e1 : (pl.map fun z => eRow (z.1, planAt pb z.1)) = pb.map eRow := by
      have h1 := plan_self (pl := pb) (by rw [pbk]; exact ok.nd)
      have h2 : pl.map (fun z => (z.1, planAt pb z.1)) = pb := by
        have h3 : pl.map (·.1) = pb.map (·.1) := by rw [pbk, pkinds]
        have e4 : pl.map (fun z => (z.1, planAt pb z.1)) = (pl.map (·.1)).map fun k => (k, planAt pb k) := by rw [List.map_map]; rfl
        have e5 : pb.map (fun z => (z.1, planAt pb z.1)) = (pb.map (·.1)).map fun k => (k, planAt pb k) := by rw [List.map_map]; rfl
        rw [e4, h3, ← e5]
        exact h1
      calc (pl.map fun z => eRow (z.1, planAt pb z.1)) = (pl.map fun z => (z.1, planAt pb z.1)).map eRow := by rw [List.map_map]; rfl
        _ = pb.map eRow := by rw [h2]
    rw [e1]
    rfl
end
end CW
/-! part CwDct4 -/
set_option maxRecDepth 100000
set_option maxHeartbeats 4000000
/-! Dict displays, the rest's copy, known dicts. -/
namespace CW
open PySem PySem.Spec PyProof.Rows L2
def zipV (T : List (Str × PyData)) (vs : List V) : List (V × V) := ((T.map (·.1)).zip vs).map fun q => (V.str q.1, q.2)
def PD (X : Cx) (keys : List (Option Expr)) (vals : List Expr) (ρ : List Kd) (H : Hp) (T : List (Str × PyData)) : Prop := ∀ pos, ∃ trs, PPs X pos keys vals trs ∧ ∀ σ H1, Sl X.K H1 σ ρ → Ex H H1 → ∀ Q : List (V × V) → Hp → Prop,
  (∀ vs H2, Ex H1 H2 → Tps X.K H2 vs (T.map (·.2)) → Q (zipV T vs) H2) → tPairs trs σ H1 Q
section
variable {X : Cx} {e a b o : Expr} {keys : List (Option Expr)} {vals : List Expr} {ρ : List Kd} {H : Hp} {pos p1 : Pos} {d : PyData} {p : Addr} {T T' T2 : List (Str × PyData)} {j : Nat} {k : Str} {sts : List Stmt} {D : Ends}
theorem pd_nil : PD X [] [] ρ H [] := fun pos => ⟨[], pps_nil, fun σ H1 _ _ Q q => q [] H1 (Ex.refl _) .nil⟩
theorem pd_cons {jj : Nat} (he : DE X e ρ H d) (t : PD X keys vals ρ H T) : PD X (some (.Constant (.str k) jj p1) :: keys) (e :: vals) ρ H ((k, d) :: T) := fun pos => by
  obtain ⟨trs, hp, h⟩ := t pos
  refine ⟨_, pps_cons pe_str pe_re hp, fun σ H1 s x Q q => ?_⟩
  show RE X e σ H1 _
  exact he σ H1 s x _ fun v H2 x2 tv => h σ H2 (s.mono x2.xt) (x.trans x2) _ fun vs H3 x3 tvs => q (v :: vs) H3 (x2.trans x3) (.cons (tv.mono x3.xt) tvs)
theorem me_disp (h : PD X keys vals ρ H T) (ndB : decide (T.map (·.1)).Nodup = true := by kernel_rfl) (h15 : T.length ≤ 15 := by exact Nat.le_of_ble_eq_true rfl) (hall : keys.all (·.isSome) = true := by rfl) (hl : keys.length = vals.length := by rfl) (h0 : keys ≠ [] := by exact fun z => nomatch z) (hk : keys.length ≤ 15 := by decide) : ME X (.Dict keys vals pos) ρ H T := fun σ H1 s x Q q => by
  have nd : (T.map (·.1)).Nodup := of_decide_eq_true ndB
  obtain ⟨trs, hp, h⟩ := h pos
  refine re_of (pe_disp hp hall hl h0 hk) fun p hn => h σ _ (s.mono (Ex.new hn).xt) (x.trans (Ex.new hn)) _ fun vs H2 x2 tv => ?_
  have hl2 : (T.map (·.1)).length = vs.length := by rw [tv.len, List.length_map, List.length_map]
  refine ⟨x2 _ _ upd_same, ((T.map (·.1)).zip vs).map fun q => ((Sum.inr q.1 : Key), q.2), ?_, ?_, ?_⟩
  · unfold zipV
    rw [List.map_map]
    rfl
  · rw [List.length_map, List.length_zip, List.length_map]
    omega
  · have x3 : Ex H1 (upd H2 p (.dK (mergeK [] (((T.map (·.1)).zip vs).map fun q => ((Sum.inr q.1 : Key), q.2))))) := Ex.upd_new hn ((Ex.new hn).trans x2)
    refine q p _ _ hn x3 upd_same ?_
    have xu : Xt H2 (upd H2 p (.dK (mergeK [] (((T.map (·.1)).zip vs).map fun q => ((Sum.inr q.1 : Key), q.2))))) := Xt.upd (x2 _ _ upd_same) (by intro _ z; cases z) (by intro _ _ z; cases z)
    have t1 := (tab_of (ks := T.map (·.1)) nd hl2 tv).mono xu
    rw [zip_two T] at t1
    exact TabK.merge .nil t1 fun j => by cases T.lookup j <;> rfl
/-! ### known dicts -/
abbrev Knw (K : PySem.W.Frag) (H : Hp) (p : Addr) (e : End) : Prop := DicAt K H p (partsOf e)
theorem de_known {jj : Nat} {p2 : Pos} {e : End} (hr : Room j X.A) (h1 : OE X a ρ H p) (hK : Knw X.K H p e) (hk : (partsOf e).lookup k = some d := by rfl) (ok : PyData.strOk k = true := by decide +kernel) : DE X (.Subscript a (.Constant (.str k) jj p2) pos) ρ H d := de_get hr h1 (de_str ok) hK hk
end
/-- what the rest holds -/
def restT : List (Str × PyData) := [("stand", .str "closed"), ("number", .int 0), ("plan", .tuple []), ("refused", .tuple []), ("given", .none), ("heard", .int 0), ("took", .none), ("last", .none), ("tries", .int 0)]
section
variable {X : Cx} {K : PySem.W.Frag} {mg : Str → Option Value} {w : World} {ρ : List Kd} {H : Hp} {pos p1 p2 : Pos}
def restV (K : PySem.W.Frag) : List (Str × V) := restKvs.map fun q => (q.1, q.2.v K)
theorem rest_tab (T : Tx K mg w) (H : Hp) : Tps K H ((restV K).map (·.2)) (restT.map (·.2)) := by
  obtain ⟨_, _, e1, e2, _⟩ := T.exs
  exact .cons (.str _ (by decide +kernel)) (.cons (.int _) (.cons (.tup (etup_ok e1 H) .nil) (.cons (.tup (etup_ok e2 H) .nil) (.cons .non (.cons (.int _) (.cons .non (.cons .non (.cons (.int _) .nil))))))))
theorem me_rest (T : Tx X.K X.mg X.w) (hg1 : Gl X "dict" := by rfl) (hg2 : Gl X "AT_REST" := by rfl) (hs : starEach [.Name "AT_REST" p2] X.env = (false, eval (.Name "AT_REST" p2) X.env) :: starEach [] X.env := by rfl)
    (hpl : (backTo pos (starEach [] X.env)).any (·.1) = false := by rfl) : ME X (.Call (.Name "dict" p1) [.Name "AT_REST" p2] [] pos) ρ H restT := fun σ H1 s x Q q => by
  have hkeys : (restV X.K).map (·.1) = restKeys := by unfold restV; rw [List.map_map]; rfl
  have nd : restKeys.Nodup := by decide +kernel
  refine re_of (pe_callTy (call_dictK (He.ga X.K "AT_REST") (restV X.K) (by rw [hkeys]; exact T.rest) (by rw [hkeys]; exact nd) (by show 9 ≤ 1000; decide) fun q hq => ?_) hg1 T.n_dict (by decide +kernel) (pa_cons (pe_glob (v := .ref (He.ga X.K "AT_REST")) hg2 T.g_AT_REST rfl) pa_nil hs) (he := hs) (hpl := hpl)) ⟨rfl, fun p hn => ?_⟩
  · obtain ⟨q', hq', rfl⟩ := List.mem_map.mp hq
    exact He.valsB_ok T.exs.2.1 hq'
  · have xn : Ex H1 (upd H1 p (.dK ((restV X.K).map fun q => ((Sum.inr q.1 : Key), q.2)))) := Ex.new hn
    refine q p _ _ hn xn upd_same ?_
    have t1 := tab_of (K := X.K) (H := upd H1 p (.dK ((restV X.K).map fun q => ((Sum.inr q.1 : Key), q.2)))) (ks := restKeys) (vs := (restV X.K).map (·.2)) (ds := restT.map (·.2)) nd (by rw [← hkeys]; simp) (rest_tab T _)
    have e1 : (restKeys.zip ((restV X.K).map (·.2))).map (fun q => ((Sum.inr q.1 : Key), q.2)) = (restV X.K).map fun q => ((Sum.inr q.1 : Key), q.2) := rfl
    have e2 : restKeys.zip (restT.map (·.2)) = restT := rfl
    rw [e1, e2] at t1
    exact t1
end
end CW
/-! part CwZip3 -/
set_option maxRecDepth 100000
set_option maxHeartbeats 4000000
/-! zip(a, b, strict=True) in expressions: dict(list(..)), walks. -/
namespace CW
open PySem PySem.Spec PyProof.Rows L2
section
variable {M : Model} {A : Around} {E : Value → Shared → Prop} {s : Shared} {env : Env}
theorem cw_typeKw {pos : Pos} {T : String} {e : Expr} {rest : List Expr} {kws : List Keyword} {Q : Value → Shared → Prop}
    (h : wpAny M A (spliced (backTo pos (starEach (e :: rest) env))) (fun vs s₁ => wpAny M A (evalAll ((backToKw pos (keywordEach kws env)).map (·.2))) (fun kvs s₂ => wpAny M A (call (.type T) vs (((backToKw pos (keywordEach kws env)).filterMap (·.1)).zip kvs)) Q E s₂) E s₁) E s)
    (he : backTo pos (starEach (e :: rest) env) = (false, eval e env) :: backTo pos (starEach rest env) := by rfl) (hplain : (backTo pos (starEach (e :: rest) env)).any (·.1) = false := by rfl)
    (hall : (backToKw pos (keywordEach kws env)).all (·.1.isSome) = true := by rfl) (hkw : (backToKw pos (keywordEach kws env)).any (·.1.isNone) = false := by rfl) :
    wpAny M A (callWith pos (.type T) [] (backTo pos (starEach (e :: rest) env)) (backToKw pos (keywordEach kws env))) Q E s := by
  have h2 : wpAny M A (evalArgs (.type T) true (backTo pos (starEach (e :: rest) env)) (backToKw pos (keywordEach kws env))) (fun a s₁ => wpAny M A (call (.type T) ([] ++ a.pos) a.kw) Q E s₁) E s := by
    rw [he] at h ⊢
    exact evalArgs_kwB hall h
  unfold callWith
  refine wpAny_bind (wpAny_holding (wpAny_mono h2 (fun a s₁ h₁ => wpAny_bind (wpAny_standAt ?_)) fun _ _ x => x))
  simp only [hplain, hkw, Bool.or_false]
  refine wpAny_bind (wpAny_pure ?_)
  exact wpAny_bind (wpAny_mono h₁ (fun r s₂ hr => wpAny_bind (wpAny_holding (wpAny_point (wpAny_pure hr)))) fun _ _ x => x)
end
section
variable {X : Cx} {a b : Expr} {ρ : List Kd} {H : Hp} {pos pos1 pos2 pos3 p1 p2 p3 kp cp : Pos} {j : Nat} {as bs : List PyData}
/-- a comes to a tuple (plain or not) of the data -/
def SE (X : Cx) (e : Expr) (ρ : List Kd) (H : Hp) (ds : List PyData) : Prop := ∀ σ H1, Sl X.K H1 σ ρ → Ex H H1 → ∀ Q : VK, (∀ p xs H2, Ex H1 H2 → SqT X.K H2 p xs → Tps X.K H2 xs ds → Q (.ref p) H2) → RE X e σ H1 Q
theorem se_de {e : Expr} {ds : List PyData} (h : DE X e ρ H (.tuple ds)) : SE X e ρ H ds := fun σ H1 s x Q q => h σ H1 s x Q fun v H2 x2 t => by
  obtain ⟨p, xs, rfl, sq, u⟩ := t.tuple_inv
  exact q p xs H2 x2 sq u
theorem se_top {x : Str} {p : Addr} {ds : List PyData} (hm : X.mg x = some (.ref p)) (h : ∀ H, ∃ xs, SqT X.K H p xs ∧ Tps X.K H xs ds) (hg : Gl X x := by rfl) (hd : (x == ("__debug__" : Str)) = false := by decide) : SE X (.Name x pos) ρ H ds := fun σ H1 s x1 Q q => by
  obtain ⟨xs, sq, t⟩ := h H1
  exact re_of (pe_glob (v := .ref p) hg hm rfl hd) (q p xs H1 (Ex.refl _) sq t)
/-- what stands behind zip(a, b, strict=True) -/
structure ZNew (X : Cx) (pins : List (Addr × Obj)) (σ : L2.St) (H2 : Hp) (s2 : Shared) (h' : Heap) (l1 l2 : Addr) (xs ys : List V) (ix iy : List Value) : Prop where
  inv : Inv X pins σ H2 s2
  vx : Vals xs ix
  vy : Vals ys iy
  t1 : s2.heap.IsTuple l1 ix.toArray
  t2 : s2.heap.IsTuple l2 iy.toArray
  z : IsZs h' (s2.heap.objs.size + 4) (s2.heap.objs.size + 2) (s2.heap.objs.size + 3) .none false
  ti : IsTupOf2 h' (s2.heap.objs.size + 2) (.ref s2.heap.objs.size) (.ref (s2.heap.objs.size + 1))
  to : IsTupOf2 h' (s2.heap.objs.size + 3) .none .none
  i1 : h'.IsTupleIter s2.heap.objs.size l1 0
  i2 : h'.IsTupleIter (s2.heap.objs.size + 1) l2 0
  sz : h'.objs.size = s2.heap.objs.size + 5
  kp : ∀ c o, s2.heap.get? c = some o → h'.get? c = some o
theorem zs_eval {pins : List (Addr × Obj)} {σ : L2.St} {s : Shared} {Q : Value → Shared → Prop} (I : Inv X pins σ H s) (sl : Sl X.K H σ ρ) (h1 : SE X a ρ H as) (h2 : SE X b ρ H bs) (hg : Gl X "zip") (hm : X.mg "zip" = none)
    (hQ : ∀ H2 s2 h' l1 l2 xs ys ix iy, ZNew X pins σ H2 s2 h' l1 l2 xs ys ix iy → Ex H H2 → SqT X.K H2 l1 xs → SqT X.K H2 l2 ys → Tps X.K H2 xs as → Tps X.K H2 ys bs → Q (.ref (s2.heap.objs.size + 4)) { s2 with heap := h' })
    (he : backTo pos (starEach [a, b] X.env) = (false, eval a X.env) :: backTo pos (starEach [b] X.env) := by rfl) (he2 : backTo pos (starEach [b] X.env) = [(false, eval b X.env)] := by rfl)
    (hpl : (backTo pos (starEach [a, b] X.env)).any (·.1) = false := by rfl) (hall : (backToKw pos (keywordEach [⟨some "strict", .Constant (.bool true) j cp, kp⟩] X.env)).all (·.1.isSome) = true := by rfl)
    (hkw : (backToKw pos (keywordEach [⟨some "strict", .Constant (.bool true) j cp, kp⟩] X.env)).any (·.1.isNone) = false := by rfl) (hks : (backToKw pos (keywordEach [⟨some "strict", .Constant (.bool true) j cp, kp⟩] X.env)).filterMap (·.1) = ([Str.ofString "strict"] : List Str) := by rfl) :
    wpAny (model X.prog X.w) X.A (eval (.Call (.Name "zip" p1) [a, b] [⟨some "strict", .Constant (.bool true) j cp, kp⟩] pos) X.env) Q X.xe s := by
  refine wpAny_Call_Name_kw (ld_blt I hg hm PyProof.Rows.boot_zip ?_ (by decide) (by decide))
  refine cw_typeKw ?_ he hpl hall hkw
  rw [he, he2]
  refine Calls.spliced_cons (thn ((h1 σ H sl (Ex.refl _) (fun v H1 => ∃ p xs, v = .ref p ∧ Ex H H1 ∧ SqT X.K H1 p xs ∧ Tps X.K H1 xs as) (fun p xs H1 x sq t => ⟨p, xs, rfl, x, sq, t⟩)).run pins s I) fun u s1 ⟨v, H1, I1, r1, l1, xs, e1, x1, sq1, t1⟩ => ?_)
  subst e1
  cases r1
  refine Calls.spliced_cons (thn ((h2 σ H1 (sl.mono x1.xt) x1 (fun v H2 => ∃ p ys, v = .ref p ∧ Ex H1 H2 ∧ SqT X.K H2 p ys ∧ Tps X.K H2 ys bs) (fun p ys H2 x sq t => ⟨p, ys, rfl, x, sq, t⟩)).run pins s1 I1) fun u s2 ⟨v, H2, I2, r2, l2, ys, e2, x2, sq2, t2⟩ => Calls.spliced_nil ?_)
  subst e2
  cases r2
  refine kws_cons (thn ((re_of (X := X) (σ := σ) (H := H2) (Q := fun v H3 => v = V.bl true ∧ H3 = H2) pe_bl ⟨rfl, rfl⟩).run pins s2 I2) fun u s3 ⟨v, H3, I3, r3, e3, e4⟩ => kws_nil ?_)
  subst e3
  subst e4
  cases r3
  rw [hks]
  obtain ⟨ix, vx, p1', _⟩ := I3.tuple (x2.xt.sq sq1)
  obtain ⟨iy, vy, p2', _⟩ := I3.tuple sq2
  exact call_zs (show s3.heap.IsTuple l1 ix.toArray from p1') (show s3.heap.IsTuple l2 iy.toArray from p2') fun h' hz hTI hTO hi1 hi2 hsz hk => hQ _ s3 h' l1 l2 xs ys ix iy ⟨I3, vx, vy, p1', p2', hz, hTI, hTO, hi1, hi2, hsz, hk⟩ (x1.trans x2) (x2.xt.sq sq1) sq2 (t1.mono x2.xt) t2
theorem zip_kv {P : Program} {w : World} : ∀ {ks : List Str} {xs : List V} {ix ys' : List Value} {ys : List V}, xs = ks.map V.str → Vals xs ix → Vals ys ys' → ks.length = ys.length →
    KV ((ks.zip ys).map fun q => ((Sum.inr q.1 : Key), q.2)) ((ks.zip ys').map fun q => ((Sum.inr q.1 : Key), q.2)) ∧ ix.length = ys'.length ∧ ∀ (i : Nat) (k v : Value), ix[i]? = some k → ys'[i]? = some v → ∃ q, ((ks.zip ys').map fun q => ((Sum.inr q.1 : Key), q.2))[i]? = some (q, v) ∧ keyIs q k = true
  | [], xs, ix, ys', ys, e, vx, vy, hl => by
    subst e
    cases vx
    cases ys with
    | nil =>
      cases vy
      exact ⟨.nil, rfl, fun i k v h => by simp at h⟩
    | cons _ _ => cases hl
  | k :: ks, xs, ix, ys', ys, e, vx, vy, hl => by
    subst e
    cases vx with
    | cons r vx =>
      cases ys with
      | nil => cases hl
      | cons y ys =>
        cases vy with
        | cons ry vy =>
          obtain ⟨h1, h2, h3⟩ := zip_kv (P := P) (w := w) (ks := ks) rfl vx vy (by simpa using hl)
          obtain ⟨t, rfl⟩ := r
          refine ⟨.cons ⟨rfl, ry⟩ h1, by simp [h2], fun i k' v' e1 e2 => ?_⟩
          cases i with
          | zero =>
            simp at e1 e2
            subst e1 e2
            exact ⟨.inr k, rfl, by simp [keyIs, Value.isStrOf]⟩
          | succ i => exact h3 i k' v' (by simpa using e1) (by simpa using e2)
theorem strs_inv {K : PySem.W.Frag} {H : Hp} : ∀ {xs : List V} {ks : List Str}, Tps K H xs (ks.map .str) → xs = ks.map V.str
  | [], [], _ => rfl
  | v :: vs, k :: ks, h => by
    cases h with
    | cons a t => rw [a.str_inv.1, strs_inv t]; rfl
  | [], _ :: _, h => by cases h
  | _ :: _, [], h => by cases h
theorem Tps.len2 {K : PySem.W.Frag} {H : Hp} {xs : List V} {ds : List PyData} (h : Tps K H xs ds) : xs.length = ds.length := h.len
/-- the cells of a new zip lie apart -/
theorem ne' {a b : Nat} (h : a < b ∨ b < a) : (a : Addr) ≠ b := fun e => by
  have e2 : (a : Nat) = b := e
  omega
theorem nin2 {a b c : Nat} (h : a < b ∨ b < a) (k : a < c ∨ c < a) : (a : Addr) ∉ ([b, c] : List Addr) := by
  simp only [List.mem_cons, List.not_mem_nil, or_false, not_or]
  exact ⟨ne' h, ne' k⟩
theorem zsep {z0 l1 l2 : Nat} (h1 : l1 < z0) (h2 : l2 < z0) : ZipSep2 (z0 + 4) (z0 + 2) (z0 + 3) z0 (z0 + 1) [z0, l1] [z0 + 1, l2] :=
  ⟨ne' (by omega), ne' (by omega), ne' (by omega), ne' (by omega), by simp, nin2 (by omega) (by omega), nin2 (by omega) (by omega), ne' (by omega), by simp, nin2 (by omega) (by omega), nin2 (by omega) (by omega), nin2 (by omega) (by omega), nin2 (by omega) (by omega)⟩
theorem lt2_of {b c d n : Nat} (hb : (b : Addr) ∈ ([c, d] : List Addr)) (h1 : c < n) (h2 : d < n) : b < n := by
  simp only [List.mem_cons, List.not_mem_nil, or_false] at hb
  rcases hb with e | e
  · rw [e]; exact h1
  · rw [e]; exact h2
theorem me_zipdict {ks : List Str} (hc : X.calm = true) (h1 : SE X a ρ H (ks.map .str)) (h2 : SE X b ρ H bs) (hl : ks.length = bs.length) (nd : ks.Nodup) (hz : ks.length ≤ 1000) (hgz : Gl X "zip") (hmz : X.mg "zip" = none) (hgl : Gl X "list") (hml : X.mg "list" = none) (hgd : Gl X "dict") (hmd : X.mg "dict" = none)
    (he : backTo pos3 (starEach [a, b] X.env) = (false, eval a X.env) :: backTo pos3 (starEach [b] X.env) := by rfl) (he2 : backTo pos3 (starEach [b] X.env) = [(false, eval b X.env)] := by rfl)
    (hpl : (backTo pos3 (starEach [a, b] X.env)).any (·.1) = false := by rfl) (hall : (backToKw pos3 (keywordEach [⟨some "strict", .Constant (.bool true) j cp, kp⟩] X.env)).all (·.1.isSome) = true := by rfl)
    (hkw : (backToKw pos3 (keywordEach [⟨some "strict", .Constant (.bool true) j cp, kp⟩] X.env)).any (·.1.isNone) = false := by rfl) (hks : (backToKw pos3 (keywordEach [⟨some "strict", .Constant (.bool true) j cp, kp⟩] X.env)).filterMap (·.1) = ([Str.ofString "strict"] : List Str) := by rfl)
    (hs2 : starEach [.Call (.Name "zip" p3) [a, b] [⟨some "strict", .Constant (.bool true) j cp, kp⟩] pos3] X.env = [(false, eval (.Call (.Name "zip" p3) [a, b] [⟨some "strict", .Constant (.bool true) j cp, kp⟩] pos3) X.env)] := by rfl)
    (hs1 : starEach [.Call (.Name "list" p2) [.Call (.Name "zip" p3) [a, b] [⟨some "strict", .Constant (.bool true) j cp, kp⟩] pos3] [] pos2] X.env = [(false, eval (.Call (.Name "list" p2) [.Call (.Name "zip" p3) [a, b] [⟨some "strict", .Constant (.bool true) j cp, kp⟩] pos3] [] pos2) X.env)] := by rfl)
    (hb2 : backTo pos2 (starEach [.Call (.Name "zip" p3) [a, b] [⟨some "strict", .Constant (.bool true) j cp, kp⟩] pos3] X.env) = [(false, eval (.Call (.Name "zip" p3) [a, b] [⟨some "strict", .Constant (.bool true) j cp, kp⟩] pos3) X.env)] := by rfl)
    (hb1 : backTo pos1 (starEach [.Call (.Name "list" p2) [.Call (.Name "zip" p3) [a, b] [⟨some "strict", .Constant (.bool true) j cp, kp⟩] pos3] [] pos2] X.env) = [(false, eval (.Call (.Name "list" p2) [.Call (.Name "zip" p3) [a, b] [⟨some "strict", .Constant (.bool true) j cp, kp⟩] pos3] [] pos2) X.env)] := by rfl) :
    ME X (.Call (.Name "dict" p1) [.Call (.Name "list" p2) [.Call (.Name "zip" p3) [a, b] [⟨some "strict", .Constant (.bool true) j cp, kp⟩] pos3] [] pos2] [] pos1) ρ H (ks.zip bs) := fun σ H1 s x Q q => by
  refine ⟨fun pins st I => ?_⟩
  have hh : X.A.handled = none := I.ok.hd hc
  refine Call_ (ld_blt I hgd hmd PyProof.Rows.boot_dict (PyProof.Rows.callWith_type1 ?_ hs1 rfl))
  rw [hb1]
  refine Calls.spliced_cons (Call_ (ld_blt I hgl hml PyProof.Rows.boot_list (PyProof.Rows.callWith_type1 ?_ hs2 rfl)))
  rw [hb2]
  refine Calls.spliced_cons (zs_eval (H := H1) I s (fun σ H2 s2 x2 => h1 σ H2 s2 (x.trans x2)) (fun σ H2 s2 x2 => h2 σ H2 s2 (x.trans x2)) hgz hmz (fun H2 s2 h' l1 l2 xs ys ix iy Z x2 sq1 sq2 t1 t2 => Calls.spliced_nil ?_) he he2 hpl hall hkw hks)
  have hxs := strs_inv t1
  have hyl : ks.length = ys.length := by rw [hl, t2.len]
  obtain ⟨kv, il, hget⟩ := zip_kv (P := X.prog) (w := X.w) hxs Z.vx Z.vy hyl
  have lx : ix.length = ks.length := by rw [← Z.vx.length, hxs, List.length_map]
  have lt1 : l1 < s2.heap.objs.size := by obtain ⟨_, e, _⟩ := Z.t1; exact Heap.lt_size e
  have lt2 : l2 < s2.heap.objs.size := by obtain ⟨_, e, _⟩ := Z.t2; exact Heap.lt_size e
  have D1 := Draws.tuple (prog := X.prog) (w := X.w) (A := X.A.in1.in1.in1) hh s2.heap.objs.size l1 (Nat.ne_of_lt lt1) ix.toArray
  have D2 := Draws.tuple (prog := X.prog) (w := X.w) (A := X.A.in1.in1.in1) hh (s2.heap.objs.size + 1) l2 (ne' (.inl (Nat.lt_succ_of_lt lt2))) iy.toArray
  have en : iy.toArray.size = ix.toArray.size := by simp [il]
  rw [en] at D2
  have keepT : ∀ {l : Addr} {its : Array Value}, s2.heap.IsTuple l its → h'.IsTuple l its := fun ⟨o, e, r⟩ => ⟨o, Z.kp _ _ e, r⟩
  have st0 : ZSt (s2.heap.objs.size + 4) (s2.heap.objs.size + 2) (s2.heap.objs.size + 3) s2.heap.objs.size (s2.heap.objs.size + 1) h'.objs.size (fun i h => h.IsTupleIter s2.heap.objs.size l1 i ∧ h.IsTuple l1 ix.toArray) (fun i h => h.IsTupleIter (s2.heap.objs.size + 1) l2 i ∧ h.IsTuple l2 iy.toArray) 0 h' :=
    ⟨Z.ti, ⟨_, _, Z.to⟩, ⟨Z.i1, keepT Z.t1⟩, ⟨Z.i2, keepT Z.t2⟩, .inl ⟨_, Z.z⟩⟩
  have hsz := Z.sz
  refine call_list_zs (s := { s2 with heap := h' }) hh (zsep lt1 lt2) D1 D2 (by simp only [List.size_toArray, lx]; exact small1k hz) st0 (fun b hb => lt2_of hb (by show _ < h'.objs.size; rw [hsz]; exact Nat.lt_add_of_pos_right (by decide)) (by show _ < h'.objs.size; rw [hsz]; exact Nat.lt_trans lt1 (Nat.lt_add_of_pos_right (by decide)))) (fun b hb => lt2_of hb (by show _ < h'.objs.size; rw [hsz]; exact Nat.add_lt_add_left (by decide) _) (by show _ < h'.objs.size; rw [hsz]; exact Nat.lt_trans lt2 (Nat.lt_add_of_pos_right (by decide)))) fun h2' tk acc' c' kp2 hL ha => ?_
  refine Calls.spliced_nil ?_
  have kpAll : ∀ c o, s2.heap.get? c = some o → h2'.get? c = some o := fun c o e => kp2 c o (by
    have hc1 : @LT.lt Nat _ c s2.heap.objs.size := Heap.lt_size e
    have up : ∀ m : Nat, @LT.lt Nat _ c (s2.heap.objs.size + m) := fun m => Nat.lt_of_lt_of_le hc1 (Nat.le_add_right _ _)
    have hc2 : @LT.lt Nat _ c h'.objs.size := by rw [hsz]; exact up 5
    simp only [List.mem_cons, List.not_mem_nil, or_false, not_or]
    exact ⟨ne' (.inl hc2), ne' (.inl (up 4)), ne' (.inl (up 3)), ne' (.inl hc1), ne' (.inl (up 1))⟩) (Z.kp c o e)
  have pi : PySem.PairItems h2' acc' (fun i => match acc'[i]? with
      | some (.ref T) => T
      | _ => 0) (ix.zip iy) := ⟨by rw [ha.1, List.length_zip, ← il]; simp, fun i k v e => by
    rw [List.getElem?_zip_eq_some] at e
    obtain ⟨e1, e2⟩ := e
    have hi : i < acc'.size := by
      rw [ha.1]
      have := (List.getElem?_eq_some_iff.mp e1).1
      simpa using this
    obtain ⟨T, x1, x2, f1, f2, f3, f4, _⟩ := ha.2 i _ (Array.getElem?_eq_getElem hi)
    have f3' : ix[i]? = some x1 := by simpa using f3
    have f4' : iy[i]? = some x2 := by simpa using f4
    rw [e1] at f3'
    rw [e2] at f4'
    cases f3'
    cases f4'
    have f0 : acc'[i]? = some (.ref T) := by rw [Array.getElem?_eq_getElem hi, f1]
    simp only [f0]
    exact ⟨trivial, .inl ⟨_, f2, rfl, _, rfl⟩⟩⟩
  refine PySem.call_dict_pairs (s := { s2 with heap := h2', toks := tk }) (knd := mixKind X.prog X.w) (kvs := (ks.zip iy).map fun q => ((Sum.inr q.1 : Key), q.2)) (PySem.PairArg.list h'.objs.size acc' _ (ix.zip iy)) hh ⟨⟨_, _, hL, rfl, rfl, rfl⟩, pi⟩ ⟨?_, fun i key v e => ?_⟩ ?_ fun h3 tk3 hd3 kp3 => ?_
  · rw [List.length_map, List.length_zip, List.length_zip]
    omega
  · obtain ⟨e1, e2⟩ := List.getElem?_zip_eq_some.mp e
    exact hget i key v e1 e2
  · rw [List.length_zip, lx]
    exact small1k (by omega)
  · have hm : (h2'.objs.size == sysModules) = false := beq_eq_false_iff_ne.mpr (ne' (by
      have h1 : sysModules < s2.heap.objs.size := Z.inv.big
      have h2 : h'.objs.size < h2'.objs.size := Heap.lt_size hL
      exact .inr (Nat.lt_trans h1 (by omega))))
    have hlen : (mergeK [] ((ks.zip ys).map fun q => ((Sum.inr q.1 : Key), q.2))).length ≤ sizeLine := by
      refine Nat.le_trans (length_mergeK _ _) ?_
      rw [List.length_nil, List.length_map, List.length_zip]
      exact small1k (by omega)
    have hle : s2.heap.objs.size ≤ h2'.objs.size := by
      have h2 : h'.objs.size < h2'.objs.size := Heap.lt_size hL
      omega
    have kp4 : ∀ c o, s2.heap.get? c = some o → h3.get? c = some o := fun c o e => kp3 c o (by simp) (kpAll c o e)
    have fr : H2 h2'.objs.size = none := Z.inv.hok.fresh hle
    have I3 : Inv X pins σ (upd H2 h2'.objs.size (.dK (mergeK [] ((ks.zip ys).map fun q => ((Sum.inr q.1 : Key), q.2))))) { s2 with heap := h3, toks := tk3 } :=
      Z.inv.laid (t' := tk3) kp4 hle (show ObjOk X.prog X.w _ _ _ (.dK _) from ⟨hlen, hm, merged [] ((ks.zip iy).map fun q => ((Sum.inr q.1 : Key), q.2)), KV.merge kv .nil, hd3⟩)
    refine ⟨.ref h2'.objs.size, _, I3, rfl, q _ _ _ (x2.free fr) (x2.trans (Ex.new fr)) upd_same ?_⟩
    exact TabK.merge .nil (tab_of nd hyl (t2.mono (Ex.new fr).xt)) fun j => by cases (ks.zip bs).lookup j <;> rfl
end
end CW
/-! part CwZip4 -/
set_option maxRecDepth 100000
set_option maxHeartbeats 4000000
/-! Walks over zip(a, b, strict=True) to several names. -/
namespace CW
open PySem PySem.Spec PyProof.Rows L2
def ItzS (K : PySem.W.Frag) (a b : Addr) (xs ys : List V) : It :=
  ⟨fun i H => SqT K H a xs ∧ SqT K H b ys ∧ i < xs.length, fun i H v H' => ∃ T x y, v = .ref T ∧ H T = none ∧ H' = upd H T (.tup [x, y]) ∧ xs[i]? = some x ∧ ys[i]? = some y, fun i H => SqT K H a xs ∧ SqT K H b ys ∧ i = xs.length⟩
theorem mem5 {c z TI TO i1 i2 : Addr} (h : c ∈ [z, TI, TO, i1, i2]) : c = z ∨ c = TI ∨ c = TO ∨ c = i1 ∨ c = i2 := by simpa using h
theorem turn_zs {P : Program} {w : World} {K : PySem.W.Frag} {elts : List Expr} {kk : Nat} {tpos : Pos} {a b z TI TO i1 i2 : Addr} {xs ys : List V} (D : ZipSep2 z TI TO i1 i2 [i1, a] [i2, b]) (ha : a ≠ i1) (hb : b ≠ i2) (hl : xs.length = ys.length) :
    Turn P w K (.Tuple elts kk tpos) (ItzS K a b xs ys) [z, TI, TO, i1, i2] z (fun i h => (∃ f, IsZs h z TI TO .none f) ∧ IsTupOf2 h TI (.ref i1) (.ref i2) ∧ (∃ x y, IsTupOf2 h TO x y) ∧ h.IsTupleIter i1 a i ∧ h.IsTupleIter i2 b i) where
  mem := by simp
  obj := fun i h st c hc => by
    obtain ⟨⟨f, hz⟩, hTI, ⟨x, y, hTO⟩, ⟨o1, e1, _, d1⟩, ⟨o2, e2, _, d2⟩⟩ := st
    rcases mem5 hc with q | q | q | q | q <;> subst q
    · exact ⟨_, hz, fun v q => nomatch q⟩
    · exact ⟨_, hTI, fun v q => nomatch q⟩
    · exact ⟨_, hTO, fun v q => nomatch q⟩
    · exact ⟨o1, e1, fun v q => by rw [d1] at q; cases q⟩
    · exact ⟨o2, e2, fun v q => by rw [d2] at q; cases q⟩
  keep := fun i h h' st k => by
    obtain ⟨⟨f, hz⟩, hTI, ⟨x, y, hTO⟩, h1, h2⟩ := st
    exact ⟨⟨f, k z (by simp) _ hz⟩, k TI (by simp) _ hTI, ⟨x, y, k TO (by simp) _ hTO⟩, h1.at fun o q => k i1 (by simp) o q, h2.at fun o q => k i2 (by simp) o q⟩
  item := by
    intro X hP hw hK hc i pins s σ H E I hf st hg
    subst hP hw hK
    obtain ⟨⟨f, hz⟩, hTI, ⟨x0, y0, hTO⟩, h1, h2⟩ := st
    obtain ⟨hqx, hqy, hi⟩ := hg
    obtain ⟨ix, rx, px, _⟩ := I.tuple hqx
    obtain ⟨iy, ry, py, _⟩ := I.tuple hqy
    have hh : X.A.handled = none := I.ok.hd hc
    have D1 := Draws.tuple (prog := X.prog) (w := X.w) (A := X.A.in1) hh i1 a ha ix.toArray
    have D2 := Draws.tuple (prog := X.prog) (w := X.w) (A := X.A.in1) hh i2 b hb iy.toArray
    have en : iy.toArray.size = ix.toArray.size := by simp only [List.size_toArray]; rw [← rx.length, ← ry.length, hl]
    rw [en] at D2
    have hzl : z < s.heap.objs.size := Heap.lt_size hz
    refine pn_free D D1 D2 hz hTI hTO ⟨h1, px⟩ ⟨h2, py⟩ (by simp only [List.size_toArray]; rw [← rx.length]; exact hi) fun u1 u2 h' tk y1 y2 z' TO' n1 n2 hT hk => ?_
    refine ⟨_, rfl, zs_letGo (s := { s with heap := h', toks := tk }) z' fun h'' z'' sb => ?_⟩
    replace sb : Heap.SameBut z h' h'' := sb
    have hT2 : IsTupOf2 h'' s.heap.objs.size u1 u2 := (sb.2 _ (Nat.ne_of_gt hzl)).trans hT
    obtain ⟨x, hx⟩ : ∃ x, xs[i]? = some x := ⟨xs[i], List.getElem?_eq_getElem hi⟩
    obtain ⟨y, hy⟩ : ∃ y, ys[i]? = some y := ⟨ys[i], List.getElem?_eq_getElem (by omega)⟩
    obtain ⟨v1, g1, q1⟩ := rx.get hx
    obtain ⟨v2, g2, q2⟩ := ry.get hy
    have e1 : u1 = v1 := by
      have : ix[i]? = some u1 := by simpa using y1
      rw [g1] at this
      exact (Option.some.inj this).symm
    have e2 : u2 = v2 := by
      have : iy[i]? = some u2 := by simpa using y2
      rw [g2] at this
      exact (Option.some.inj this).symm
    subst e1 e2
    have new : ObjOk X.prog X.w (upd H s.heap.objs.size (.tup [x, y])) h'' s.heap.objs.size (.tup [x, y]) := ⟨by show 2 ≤ sizeLine; decide, [u1, u2], .cons q1 (.cons q2 .nil), ⟨_, hT2, rfl, _, rfl⟩⟩
    have I1 : Inv X pins σ (upd H s.heap.objs.size (.tup [x, y])) { s with heap := h'', toks := tk } :=
      I.turnedNew (t' := tk) (ch := [z, TI, TO, i1, i2]) (fun c o hb q => (sb.2 c (fun q' => hb (by simp [q']))).trans (hk c o (fun q' => hb (by simp [q'])) (fun q' => hb (by simp [q'])) (fun q' => hb (by simp [q'])) (fun q' => hb (by simp [q'])) q)) hf (Nat.le_refl _) new
    have z1 : i1 ≠ z := D.zi1.symm
    have z2 : i2 ≠ z := D.zi2.symm
    refine ⟨.ref s.heap.objs.size, _, I1, rfl, ⟨_, x, y, rfl, I.hok.fresh (Nat.le_refl _), rfl, hx, hy⟩, ⟨⟨_, z''⟩, ?_, ⟨u1, u2, ?_⟩, ?_, ?_⟩, fun c hcm => ?_⟩
    · exact (sb.2 _ D.TIz).trans (hk _ _ D.TIz D.TITO D.TIi1 D.TIi2 hTI)
    · exact (sb.2 _ D.TOz).trans TO'
    · exact n1.1.at fun o q => (sb.2 _ z1).trans q
    · exact n2.1.at fun o q => (sb.2 _ z2).trans q
    · have hlt : c < s.heap.objs.size := by
        rcases mem5 hcm with q | q | q | q | q <;> subst q
        · exact hzl
        · exact Heap.lt_size hTI
        · exact Heap.lt_size hTO
        · obtain ⟨_, e1, _⟩ := h1; exact Heap.lt_size e1
        · obtain ⟨_, e1, _⟩ := h2; exact Heap.lt_size e1
      rw [upd_ne (Nat.ne_of_lt hlt)]
      exact (hf c hcm).1
  done := by
    intro X hP hw hK hc i pins s σ H E I hf st hg
    subst hP hw hK
    obtain ⟨⟨f, hz⟩, hTI, ⟨x0, y0, hTO⟩, h1, h2⟩ := st
    obtain ⟨hqx, hqy, hi⟩ := hg
    obtain ⟨ix, rx, px, _⟩ := I.tuple hqx
    obtain ⟨iy, ry, py, _⟩ := I.tuple hqy
    have hh : X.A.handled = none := I.ok.hd hc
    have D1 := Draws.tuple (prog := X.prog) (w := X.w) (A := X.A.in1) hh i1 a ha ix.toArray
    have D2 := Draws.tuple (prog := X.prog) (w := X.w) (A := X.A.in1) hh i2 b hb iy.toArray
    have en : iy.toArray.size = ix.toArray.size := by simp only [List.size_toArray]; rw [← rx.length, ← ry.length, hl]
    rw [en] at D2
    have ei : ix.toArray.size = i := by simp only [List.size_toArray]; rw [← rx.length, hi]
    rw [ei] at D1 D2
    exact pn_freeEnd hh D D1 D2 hz hTI ⟨h1, px⟩ ⟨h2, py⟩ fun h' tk hk => ⟨rfl, I.turnedL (t' := tk) (ch := [z, TI, TO, i1, i2]) (fun c o hb q => hk c o (fun q' => hb (by simp [q'])) (fun q' => hb (by simp [q'])) (fun q' => hb (by simp [q'])) q) hf⟩
  self := fun A i s Q E st h => by
    obtain ⟨⟨f, hz⟩, _⟩ := st
    exact zs_iter hz h
section
variable {X : Cx} {a b : Expr} {ρ : List Kd} {H : Hp} {pos p1 kp cp tpos : Pos} {j kk : Nat} {as bs : List PyData} {elts : List Expr}
def iZs (X : Cx) (ρ : List Kd) (H : Hp) (as bs : List PyData) : TI := fun σ H1 R => Sl X.K H1 σ ρ ∧ Ex H H1 ∧ ∀ l1 l2 xs ys H2, Ex H1 H2 → SqT X.K H2 l1 xs → SqT X.K H2 l2 ys → Tps X.K H2 xs as → Tps X.K H2 ys bs → R (ItzS X.K l1 l2 xs ys) H2
theorem pi_zs (h1 : SE X a ρ H as) (h2 : SE X b ρ H bs) (hl : as.length = bs.length) (hg : Gl X "zip") (hm : X.mg "zip" = none)
    (he : backTo pos (starEach [a, b] X.env) = (false, eval a X.env) :: backTo pos (starEach [b] X.env) := by rfl) (he2 : backTo pos (starEach [b] X.env) = [(false, eval b X.env)] := by rfl)
    (hpl : (backTo pos (starEach [a, b] X.env)).any (·.1) = false := by rfl) (hall : (backToKw pos (keywordEach [⟨some "strict", .Constant (.bool true) j cp, kp⟩] X.env)).all (·.1.isSome) = true := by rfl)
    (hkw : (backToKw pos (keywordEach [⟨some "strict", .Constant (.bool true) j cp, kp⟩] X.env)).any (·.1.isNone) = false := by rfl) (hks : (backToKw pos (keywordEach [⟨some "strict", .Constant (.bool true) j cp, kp⟩] X.env)).filterMap (·.1) = ([Str.ofString "strict"] : List Str) := by rfl) :
    PI X (.Tuple elts kk tpos) (.Call (.Name "zip" p1) [a, b] [⟨some "strict", .Constant (.bool true) j cp, kp⟩] pos) (iZs X ρ H as bs) := by
  refine ⟨fun pins s σ H1 R I ⟨sl, x, r⟩ => ?_⟩
  refine zs_eval (H := H1) I sl (fun σ H2 s2 x2 => h1 σ H2 s2 (x.trans x2)) (fun σ H2 s2 x2 => h2 σ H2 s2 (x.trans x2)) hg hm (fun H2 s2 h' l1 l2 xs ys ix iy Z x2 sq1 sq2 t1 t2 => zs_iter Z.z ?_) he he2 hpl hall hkw hks
  have lt1 : l1 < s2.heap.objs.size := by obtain ⟨_, e, _⟩ := Z.t1; exact Heap.lt_size e
  have lt2 : l2 < s2.heap.objs.size := by obtain ⟨_, e, _⟩ := Z.t2; exact Heap.lt_size e
  have I2 : Inv X pins σ H2 { s2 with heap := h' } := Z.inv.kept (t' := s2.toks) Z.kp
  have fresh : ∀ c, c ∈ [s2.heap.objs.size + 4, s2.heap.objs.size + 2, s2.heap.objs.size + 3, s2.heap.objs.size, s2.heap.objs.size + 1] → FpOk X pins H2 c := fun c hcm => by
    have hle : s2.heap.objs.size ≤ c := by
      rcases mem5 hcm with z | z | z | z | z <;> rw [z] <;> first | exact Nat.le_refl _ | exact Nat.le_add_right _ _
    exact Z.inv.fpOk hle (Z.inv.hok.fresh hle)
  exact ⟨s2.heap.objs.size + 4, [s2.heap.objs.size + 4, s2.heap.objs.size + 2, s2.heap.objs.size + 3, s2.heap.objs.size, s2.heap.objs.size + 1], _, _, H2, rfl, I2, turn_zs (zsep lt1 lt2) (Nat.ne_of_lt lt1) (ne' (.inl (Nat.lt_succ_of_lt lt2))) (by rw [t1.len, t2.len, hl]), ⟨⟨_, Z.z⟩, Z.ti, ⟨_, _, Z.to⟩, Z.i1, Z.i2⟩, fresh, r l1 l2 xs ys H2 x2 sq1 sq2 t1 t2⟩
theorem ie_zs (h1 : DE X a ρ H (.tuple as)) (h2 : DE X b ρ H (.tuple bs)) (hl : as.length = bs.length) (hg : Gl X "zip") (hm : X.mg "zip" = none)
    (he : backTo pos (starEach [a, b] X.env) = (false, eval a X.env) :: backTo pos (starEach [b] X.env) := by rfl) (he2 : backTo pos (starEach [b] X.env) = [(false, eval b X.env)] := by rfl)
    (hpl : (backTo pos (starEach [a, b] X.env)).any (·.1) = false := by rfl) (hall : (backToKw pos (keywordEach [⟨some "strict", .Constant (.bool true) j cp, kp⟩] X.env)).all (·.1.isSome) = true := by rfl)
    (hkw : (backToKw pos (keywordEach [⟨some "strict", .Constant (.bool true) j cp, kp⟩] X.env)).any (·.1.isNone) = false := by rfl) (hks : (backToKw pos (keywordEach [⟨some "strict", .Constant (.bool true) j cp, kp⟩] X.env)).filterMap (·.1) = ([Str.ofString "strict"] : List Str) := by rfl) :
    IE true X (.Tuple elts kk tpos) (.Call (.Name "zip" p1) [a, b] [⟨some "strict", .Constant (.bool true) j cp, kp⟩] pos) ρ H (prs2 as bs) :=
  ⟨_, pi_zs (se_de h1) (se_de h2) hl hg hm he he2 hpl hall hkw hks, fun σ H1 s x R r => ⟨s, x, fun l1 l2 xs ys H2 x2 sq1 sq2 t1 t2 => r _ H2 x2 fun H' x' => ⟨⟨x'.xt.sq sq1, x'.xt.sq sq2, by unfold prs2; rw [List.length_zipWith, t1.len]; omega⟩, fun i d hd => by
    obtain ⟨dx, dy, hx, hy, rfl⟩ := prs2_get hd
    obtain ⟨v, hv, tv⟩ := t1.at hx
    obtain ⟨u, hu, tu⟩ := t2.at hy
    refine ⟨⟨x'.xt.sq sq1, x'.xt.sq sq2, (List.getElem?_eq_some_iff.mp hv).1⟩, fun w H'' y => ?_⟩
    obtain ⟨Tt, x1, y1, rfl, hT, rfl, f1, f2⟩ := y
    rw [f1] at hv
    rw [f2] at hu
    cases hv
    cases hu
    exact ⟨Ex.new hT, .of (SqT.of upd_same) (.cons ((tv.mono x'.xt).mono (Ex.new hT).xt) (.cons ((tu.mono x'.xt).mono (Ex.new hT).xt) .nil))⟩⟩⟩⟩
end
end CW
/-! part CwW8 -/
set_option maxRecDepth 100000
set_option maxHeartbeats 4000000
/-! The walk: what is read off a known dict. -/
namespace CW
open PySem PySem.Spec PyProof.Rows L2
/-! ### promises about known dicts -/
def spKD {α : Type} (K : PySem.W.Frag) (args : α → List PyData) (pre : α → Prop) (en : α → End) (res : α → PyData) : Sp := fun vs H Q _ => ∃ a p ws, vs = .ref p :: ws ∧ Tps K H ws (args a) ∧ pre a ∧ Knw K H p (en a) ∧ ∀ v H', Ex H H' → Tp K H' v (res a) → Q v H'
def spKM {α : Type} (K : PySem.W.Frag) (args : α → List PyData) (pre : α → Prop) (en : α → End) (post : α → End → List Letter → Prop) : Sp := fun vs H Q _ => ∃ a p ws, vs = .ref p :: ws ∧ Tps K H ws (args a) ∧ pre a ∧ Knw K H p (en a) ∧
  ∀ e' ls l xs H', post a e' ls → Ch p H H' → Knw K H' p e' → H l = none → H' l = some (.lst xs) → Tps K H' xs (ls.map eLet) → Q (.ref l) H'
def rhoK (N : List Str) (p : Addr) (ds : List PyData) : List Kd := kdStart N (.obj p :: ds.map .dat)
section
variable {P : Program} {w : World} {K : PySem.W.Frag} {mg : Str → Option Value} {base : Heap} {x : Str} {N ps : List Str} {k : Nat} {α : Type} {args : α → List PyData} {pre : α → Prop} {en : α → End} {res : α → PyData} {post : α → End → List Letter → Prop}
theorem sl_k {H : Hp} {p : Addr} {ws : List V} {ds : List PyData} (t : Tps K H ws ds) : Sl K H (L2.start N (.ref p :: ws)) (rhoK N p ds) := sl_kstart (vs := .ref p :: ws) (ks := .obj p :: ds.map .dat) ⟨rfl, ke_of_tps t⟩
theorem cal_KD (d : He.DefD) (hg : mg x = some (.ref (He.fAd K (x, none)))) (hf : ∃ fd, FunD K d.name d.qual d.params d.body d.scope (d.dvs K) (d.kws K) (He.fAd K (x, none)) fd) (S : FnScope N ps d.scope) (hb : BindN d ps) (len : ∀ a, (args a).length + 1 = ps.length)
    (body : ∀ cdv A outer s H E Q a p, Room k (CC P w K mg base d N (He.fAd K (x, none)) cdv A outer s H E).A → pre a → Knw K H p (en a) → (∀ v H', Ex H H' → Tp K H' v (res a) → Q v H') → SX (CC P w K mg base d N (He.fAd K (x, none)) cdv A outer s H E) d.body (rhoK N p (args a)) H (DE0 Q))
    (hd : d.dfl = [] := by rfl) : Cal P w K mg base x (k + 1) (spKD K args pre en res) :=
  cal_of d hg hf S hd hb (fun vs H Q E ⟨a, p, ws, e, t, _, _, _⟩ => by rw [e, List.length_cons, t.len]; exact len a) fun cdv A outer s H E vs Q hr ⟨a, p, ws, e, t, hp, hK, q⟩ => by
    subst e
    exact body cdv A outer s H E Q a p hr hp hK q _ (sl_k t)
theorem cal_KM (d : He.DefD) (hg : mg x = some (.ref (He.fAd K (x, none)))) (hf : ∃ fd, FunD K d.name d.qual d.params d.body d.scope (d.dvs K) (d.kws K) (He.fAd K (x, none)) fd) (S : FnScope N ps d.scope) (hb : BindN d ps) (len : ∀ a, (args a).length + 1 = ps.length)
    (body : ∀ cdv A outer s H E Q a p, Room k (CC P w K mg base d N (He.fAd K (x, none)) cdv A outer s H E).A → pre a → Knw K H p (en a) → (∀ e' ls l xs H', post a e' ls → Ch p H H' → Knw K H' p e' → H l = none → H' l = some (.lst xs) → Tps K H' xs (ls.map eLet) → Q (.ref l) H') →
      SX (CC P w K mg base d N (He.fAd K (x, none)) cdv A outer s H E) d.body (rhoK N p (args a)) H (DE0 Q))
    (hd : d.dfl = [] := by rfl) : Cal P w K mg base x (k + 1) (spKM K args pre en post) :=
  cal_of d hg hf S hd hb (fun vs H Q E ⟨a, p, ws, e, t, _, _, _⟩ => by rw [e, List.length_cons, t.len]; exact len a) fun cdv A outer s H E vs Q hr ⟨a, p, ws, e, t, hp, hK, q⟩ => by
    subst e
    exact body cdv A outer s H E Q a p hr hp hK q _ (sl_k t)
end
section
variable {X : Cx} {e : Expr} {es : List Expr} {ρ : List Kd} {H : Hp} {x : Str} {k : Nat} {pos p1 : Pos} {α : Type} {args : α → List PyData} {pre : α → Prop} {en : α → End} {res : α → PyData} {post : α → End → List Letter → Prop} {p : Addr} {kds : List Kd} {d : PyData}
theorem ke_obj {K : PySem.W.Frag} {vs : List V} {ds : List PyData} (h : KE' K H vs (.obj p :: ds.map .dat)) : ∃ ws, vs = .ref p :: ws ∧ Tps K H ws ds := by
  cases vs with
  | nil => exact h.elim
  | cons v ws =>
    obtain ⟨h1, h2⟩ := h
    cases h1
    exact ⟨ws, rfl, tps_of_ke h2⟩
theorem de_kd (C : Cal X.prog X.w X.K X.mg X.base x k (spKD X.K args pre en res)) (hr : Room k X.A) (a : α) (ha : AK X (e :: es) ρ H kds) (hp : pre a) (hK : Knw X.K H p (en a)) (hks : kds = .obj p :: (args a).map .dat := by rfl) (hd : res a = d := by rfl) (hg : Gl X x := by rfl)
    (hdb : (x == ("__debug__" : Str)) = false := by decide) (he : starEach (e :: es) X.env = (false, eval e X.env) :: starEach es X.env := by rfl) (hpl : (backTo pos (starEach es X.env)).any (·.1) = false := by rfl) : DE X (.Call (.Name x p1) (e :: es) [] pos) ρ H d := by
  subst hks hd
  exact de_call C hr hg ha (fun H1 vs x1 kv Q q => by
    obtain ⟨ws, rfl, t⟩ := ke_obj kv
    exact ⟨a, p, ws, rfl, t, hp, hK.mono x1, q⟩) hdb he hpl
/-- what a call that changes p comes to -/
def KmR (K : PySem.W.Frag) (p : Addr) (H : Hp) (post : End → List Letter → Prop) : V → Hp → Prop := fun v H' => ∃ e' ls l xs, v = .ref l ∧ post e' ls ∧ Ch p H H' ∧ Knw K H' p e' ∧ H l = none ∧ H' l = some (.lst xs) ∧ Tps K H' xs (ls.map eLet)
theorem ge_km (C : Cal X.prog X.w X.K X.mg X.base x k (spKM X.K args pre en post)) (hr : Room k X.A) (a : α) (ha : AK X (e :: es) ρ H kds) (hp : pre a) (hK : Knw X.K H p (en a)) (hks : kds = .obj p :: (args a).map .dat := by rfl) (hg : Gl X x := by rfl)
    (hdb : (x == ("__debug__" : Str)) = false := by decide) (he : starEach (e :: es) X.env = (false, eval e X.env) :: starEach es X.env := by rfl) (hpl : (backTo pos (starEach es X.env)).any (·.1) = false := by rfl) : GE X (.Call (.Name x p1) (e :: es) [] pos) ρ H (KmR X.K p H (post a)) := by
  subst hks
  exact ge_call C hr hg ha (fun H1 vs x1 kv Q q => by
    obtain ⟨ws, rfl, t⟩ := ke_obj kv
    exact ⟨a, p, ws, rfl, t, hp, hK.mono x1, fun e' ls l xs H' h1 h2 h3 h4 h5 h6 => q _ _ ⟨e', ls, l, xs, rfl, h1, x1.ch.trans h2, h3, x1.free h4, h5, h6⟩⟩) hdb he hpl
end
/-! ### as_end, written, ask_written -/
theorem eqv_oprs_none (o : Option (List Pr)) : isNon (eOPrs o) = !o.isSome := by cases o <;> rfl
def standTxt (e : End) : Str := if openOf e then "open" else "asking"
theorem asEnd_parts (e : End) : partNames.map (fun (k : Str) => if k = "stand" then PyData.str (if e.stand = .closed then sStand e.stand else standTxt e) else ((partsOf e).lookup k).getD .none) = (partsOf (asEnd e)).map (·.2) := by
  have e1 : sStand (asEnd e).stand = if e.stand = .closed then sStand e.stand else standTxt e := by
    unfold asEnd standTxt
    by_cases h : e.stand = .closed
    · simp [h, sStand]
    · by_cases h2 : openOf e <;> simp [h, h2, sStand]
  have e2 : (partsOf (asEnd e)).map (·.2) = [PyData.str e.name, eWishes e.wishes, .str (sStand (asEnd e).stand), .int e.turn, .int e.yours, .int e.number, ePlan e.plan, ePrs e.refused, eOPrs e.given, .int e.heard, eOPrs e.took, eOLet e.last, .int e.tries, .int e.echoes, .str e.why] := rfl
  rw [e2, e1]
  generalize (if e.stand = .closed then sStand e.stand else standTxt e) = z
  rfl
section
variable {P : Program} {w : World} {K : PySem.W.Frag} {mg : Str → Option Value} {base : Heap} {k : Nat}
theorem parts_tup (T : Tx K mg w) (H : Hp) : ∃ xs, SqT K H (He.ga K "PARTS") xs ∧ Tps K H xs (partNames.map PyData.str) :=
  ⟨_, He.tupB_ok T.exs.1 H, by
    have : ∀ l : List Str, (∀ x ∈ l, PyData.strOk x = true) → Tps K H ((l.map He.Dv.str).map (He.Dv.v K)) (l.map PyData.str) := fun l => by
      induction l with
      | nil => exact fun _ => .nil
      | cons a l ih => exact fun h => .cons (.str a (h a (by simp))) (ih fun x hx => h x (by simp [hx]))
    exact this partNames (by decide +kernel)⟩
/-- a tuple of the top that is walked -/
theorem ie_top {X : Cx} {tg : Expr} {x : Str} {pos : Pos} {ρ : List Kd} {H : Hp} {a : Addr} {ds : List PyData} (hm : X.mg x = some (.ref a)) (h : ∀ H, ∃ xs, SqT X.K H a xs ∧ Tps X.K H xs ds) (hg : Gl X x := by rfl) (hd : (x == ("__debug__" : Str)) = false := by decide) : IE false X tg (.Name x pos) ρ H ds :=
  ⟨_, pi_tup (pe_glob (v := .ref a) hg hm rfl hd), fun σ H1 s x R r => by
    obtain ⟨xs, sq, t⟩ := h H1
    exact ⟨a, rfl, ⟨xs, sq⟩, r _ H1 (Ex.refl _) (ylds_tup sq t)⟩⟩
theorem lookup_parts (e : End) {z : Str} (h : z ∈ partNames) : (partsOf e).lookup z = some (((partsOf e).lookup z).getD .none) := by
  have : ∃ d, (partsOf e).lookup z = some d := by
    have hm : z ∈ (partsOf e).map (·.1) := h
    obtain ⟨d, hd, _⟩ := lookup_some_of hm
    exact ⟨d, hd⟩
  obtain ⟨d, hd⟩ := this
  rw [hd]
  rfl
theorem cal_as_end (T : Tx K mg w) (k : Nat) : Cal P w K mg base "as_end" (k + 1) (spKD K (fun _ : End => []) (fun _ => True) (fun e => e) (fun e => eEnd (asEnd e))) :=
  cal_KD d_as_end T.g_as_end T.f_as_end sc_as_end (fun _ _ _ _ _ _ us hl => match us, hl with | [_], _ => rfl) (fun _ => rfl) fun cdv A outer s H E Q e p hr _ hK q => by
  have hK : Knw K H p e := hK
  refine sx_set (d := .str (standTxt e)) 1 sc_as_end.nd (de_if (k := openOf e) (BE.to (be_w (we_and (be_cmp opd_notN (de_known hr (oe_name 0 rfl) hK) de_non) fun _ => we_and1 (be_cmp opd_notN (de_known hr (oe_name 0 rfl) hK) de_non))) (by
      show (!isNon (eOPrs e.given) && !isNon (eOPrs e.took)) = openOf e
      rw [eqv_oprs_none, eqv_oprs_none, Bool.not_not, Bool.not_not]
      rfl)) (fun h => DE.to de_str (by unfold standTxt; rw [h]; rfl)) fun h => DE.to de_str (by unfold standTxt; rw [h]; rfl)) fun H1 x1 => ?_
  have hK1 := hK.mono x1
  refine sx_set (d := .str (if e.stand = .closed then sStand e.stand else standTxt e)) 2 sc_as_end.nd (de_if (k := decide (e.stand = .closed)) (BE.to (be_cmp (opd_eq hr (depth_str _) (depth_str _)) (de_known hr (oe_name 0 rfl) hK1) de_str) (by
      rw [eqv_str]
      cases e.stand <;> decide +kernel)) (fun h => DE.to (de_known hr (oe_name 0 rfl) hK1) (by rw [if_pos (of_decide_eq_true h)])) fun h => DE.to (de_name 1 rfl) (by rw [if_neg (of_decide_eq_false h)])) fun H2 x2 => ?_
  have hK2 := hK1.mono x2
  refine sx_ret (d := eEnd (asEnd e)) (DE.to (de_tupleL rfl T.n_tuple (le_lc (xs := partNames) (enc := PyData.str) (own := [("part", 3)]) (f := fun z => if z = "stand" then PyData.str (if e.stand = .closed then sStand e.stand else standTxt e) else ((partsOf e).lookup z).getD .none) (c := fun _ => true) rfl sc_as_end.nd
      (ie_top T.g_PARTS (parts_tup T)) (blk_ok (by kernel_rfl)) (fun z hz => tu [3] _ fun s0 H0 C cl fp => ⟨tg_name 3 sc_as_end.nd, rfl, fun _ => de_if (be_cmp (opd_eq (by exact hr) (depth_str _) (depth_str _)) (de_name 3 rfl) de_str)
        (fun h => DE.to (de_name 2 rfl) (by rw [eqv_str] at h; rw [if_pos (of_decide_eq_true h)])) (fun h => DE.to (de_get (by exact hr) (oe_name 0 rfl) (de_name 3 rfl) hK2 (lookup_parts e hz)) (by rw [eqv_str] at h; rw [if_neg (of_decide_eq_false h)]))⟩) (small1000 (by decide)))) (by
      rw [List.filter_eq_self.mpr fun _ _ => rfl, asEnd_parts]
      rfl)) fun v H3 x3 t => q v H3 ((x1.trans x2).trans x3) t
end
end CW
/-! part CwW9 -/
set_option maxRecDepth 100000
set_option maxHeartbeats 4000000
/-! The walk: written, begin, shut, new_end. -/
namespace CW
open PySem PySem.Spec PyProof.Rows L2
theorem parts_all {Q : Str → Prop} (h : Q "name" ∧ Q "wishes" ∧ Q "stand" ∧ Q "turn" ∧ Q "yours" ∧ Q "number" ∧ Q "plan" ∧ Q "refused" ∧ Q "given" ∧ Q "heard" ∧ Q "took" ∧ Q "last" ∧ Q "tries" ∧ Q "echoes" ∧ Q "why") : ∀ k ∈ partNames, Q k := by
  obtain ⟨h1, h2, h3, h4, h5, h6, h7, h8, h9, h10, h11, h12, h13, h14, h15⟩ := h
  intro k hk
  simp only [partNames, List.mem_cons, List.not_mem_nil, or_false] at hk
  rcases hk with rfl | rfl | rfl | rfl | rfl | rfl | rfl | rfl | rfl | rfl | rfl | rfl | rfl | rfl | rfl <;> assumption
theorem tabs_eq {T' T2 T : List (Str × PyData)} (hk' : ∀ k ∈ T'.map (·.1), k ∈ partNames) (hk : ∀ k ∈ T.map (·.1), k ∈ partNames) (h2B : ((T2.map (·.1)).all fun k => decide (k ∈ partNames)) = true) (h : ∀ k ∈ partNames, T'.lookup k = (T2.lookup k).or (T.lookup k)) (j : Str) : T'.lookup j = (T2.lookup j).or (T.lookup j) := by
  have h2 : ∀ k ∈ T2.map (·.1), k ∈ partNames := fun k hk => of_decide_eq_true (List.all_eq_true.mp h2B k hk)
  by_cases hj : j ∈ partNames
  · exact h j hj
  · rw [lookup_none_of fun m => hj (hk' j m), lookup_none_of fun m => hj (h2 j m), lookup_none_of fun m => hj (hk j m)]
    rfl
theorem parts_keys (e : End) : ∀ k ∈ (partsOf e).map (·.1), k ∈ partNames := fun _ h => h
theorem tabs_put {T' T : List (Str × PyData)} {k : Str} {d : PyData} (h : ∀ j, T'.lookup j = ([(k, d)].lookup j).or (T.lookup j)) (j : Str) : T'.lookup j = if j = k then some d else T.lookup j := by
  rw [h, List.lookup_cons]
  by_cases e : j = k
  · subst e; simp
  · rw [beq_false_of_ne e, if_neg e]; rfl
theorem rest_upd (e : End) : ∀ j, (partsOf (atRest e)).lookup j = (restT.lookup j).or ((partsOf e).lookup j) :=
  tabs_eq (parts_keys _) (parts_keys _) (by kernel_rfl) (parts_all ⟨rfl, rfl, rfl, rfl, rfl, rfl, rfl, rfl, rfl, rfl, rfl, rfl, rfl, rfl, rfl⟩)
section
variable {P : Program} {w : World} {K : PySem.W.Frag} {mg : Str → Option Value} {base : Heap} {k : Nat}
abbrev spWr (K : PySem.W.Frag) : Sp := spKD K (fun a : End × Word × Int × List Pr => [.str (sWord a.2.1), .int a.2.2.1, ePrs a.2.2.2]) (fun _ => True) (fun a => a.1) (fun a => eLet (writ a.1 a.2.1 a.2.2.1 a.2.2.2))
theorem kw_written (T : Tx K mg w) (k : Nat) : KwOk P w K mg base d_written "written" P_written (k + 1) (spWr K) :=
  kwok d_written T.g_written T.f_written sc_written (fun vs H Q E ⟨a, p, ws, e, t, _, _, _⟩ => by rw [e, List.length_cons, t.len]; rfl) fun cdv A outer s H E vs Q hr ⟨a, p, ws, e, t, hp, hK, q⟩ => by
    subst e
    obtain ⟨en, wd, n, ps⟩ := a
    have hK : Knw K H p en := hK
    exact sx_ret (ρ := rhoK N_written p [.str (sWord wd), .int n, ePrs ps]) (de_tup (ae_cons (de_known hr (oe_name 0 rfl) hK) (ae_cons (de_name 1 rfl) (ae_cons (de_known hr (oe_name 0 rfl) hK) (ae_cons (de_known hr (oe_name 0 rfl) hK) (ae_cons (de_name 2 rfl) (ae_cons (de_name 3 rfl) ae_nil))))))) (fun v H1 x t => q v H1 x t) _ (sl_k t)
theorem cal_written (T : Tx K mg w) (k : Nat) : Cal P w K mg base "written" (k + 1) (spKD K (fun a : End × Word => [.str (sWord a.2)]) (fun _ => True) (fun a => a.1) (fun a => eLet (writ a.1 a.2 0 []))) := by
  have C := (kw_written (P := P) (base := base) T k).lack 2 (by decide) rfl (fun D doc pm an cdv ct us ks h1 h2 => match us, h1, ks, h2 with | [_, _], _, [_, _], _ => ⟨_, _, _, _, _, _, rfl, rfl, ⟨_, _, _, _, _, _, rfl, rfl, rfl⟩⟩)
  obtain ⟨f, fd, ps, ds, dvs, sp0, a, b, c, d, e, g⟩ := C.ex
  refine ⟨f, fd, ps, ds, dvs, sp0, a, b, c, d, e, fun vs H Q E ⟨⟨en, wd⟩, p, ws, hv, t, hp, hK, q⟩ => g vs H Q E ⟨(en, wd, 0, []), p, ws ++ [.int 0, .ref (kwdAt ("written", none) "pairs" K)], by rw [hv]; rfl, ?_, trivial, hK, q⟩⟩
  exact t.append (.cons (.int 0) (.cons (.tup (etup_ok T.exs.2.2.2.2.2 H) .nil) .nil))
theorem calk_written (T : Tx K mg w) (k : Nat) : CalK P w K mg base "written" 2 (["number", "pairs"] : List Str) (k + 1) (fun vs zs H Q E => spWr K (vs ++ zs) H Q E) :=
  (kw_written (P := P) (base := base) T k).full 2 (by decide) fun D doc pm an cdv ct us ws h1 h2 => match us, h1, ws, h2 with | [_, _], _, [_, _], _ => rfl
section
variable {X : Cx} {e1 e2 e3 e4 : Expr} {ρ : List Kd} {H : Hp} {pos p1 k1 k2 : Pos} {p : Addr} {en : End} {wd : Word} {n : Int} {ps : List Pr}
/-- written(known, word, number=.., pairs=..) -/
theorem de_written4 (T : Tx X.K X.mg X.w) (hr : Room (k + 1) X.A) (h1 : OE X e1 ρ H p) (hK : Knw X.K H p en) (h2 : DE X e2 ρ H (.str (sWord wd))) (h3 : DE X e3 ρ H (.int n)) (h4 : DE X e4 ρ H (ePrs ps)) (hg : Gl X "written" := by rfl)
    (hall : (backToKw pos (keywordEach [⟨some "number", e3, k1⟩, ⟨some "pairs", e4, k2⟩] X.env)).all (·.1.isSome) = true := by rfl) (hks : (backToKw pos (keywordEach [⟨some "number", e3, k1⟩, ⟨some "pairs", e4, k2⟩] X.env)).filterMap (·.1) = (["number", "pairs"] : List Str) := by rfl)
    (hs1 : starEach [e2] X.env = (false, eval e2 X.env) :: starEach [] X.env := by rfl) (hs2 : starEach [e1, e2] X.env = (false, eval e1 X.env) :: starEach [e2] X.env := by rfl)
    (hpl : ((backTo pos (starEach [e1, e2] X.env)).any (·.1) || (backToKw pos (keywordEach [⟨some "number", e3, k1⟩, ⟨some "pairs", e4, k2⟩] X.env)).any (·.1.isNone)) = false := by rfl) :
    DE X (.Call (.Name "written" p1) [e1, e2] [⟨some "number", e3, k1⟩, ⟨some "pairs", e4, k2⟩] pos) ρ H (eLet (writ en wd n ps)) :=
  de_callK (calk_written T k) hr (ak_obj h1 (ak_dat h2 ak_nil hs1) hs2) (kw_cons h3 (kw_cons h4 kw_nil)) (fun H1 vs zs x1 kv tz Q q => by
    obtain ⟨ws, rfl, t⟩ := ke_obj (ds := [.str (sWord wd)]) kv
    exact ⟨(en, wd, n, ps), p, ws ++ zs, rfl, t.append tz, trivial, hK.mono x1, q⟩) rfl rfl hg hall hks (by decide) hs2 hpl
end
theorem cal_ask_written (T : Tx K mg w) (k : Nat) : Cal P w K mg base "ask_written" (k + 2) (spKD K (fun _ : End => []) (fun e => e.wishes.length ≤ 1000) (fun e => e) (fun e => eLet (askLet e))) :=
  cal_KD d_ask_written T.g_ask_written T.f_ask_written sc_ask_written (fun _ _ _ _ _ _ us hl => match us, hl with | [_], _ => rfl) (fun _ => rfl) fun cdv A outer s H E Q e p hr hp hK q => by
  have hK : Knw K H p e := hK
  exact sx_ret (d := eLet (askLet e)) (de_written4 (wd := .ask) T hr (oe_name 0 rfl) hK de_str (de_known hr (oe_name 0 rfl) hK) (de_fn (cal_ask_of T k) hr (e.wishes, e.plan) (ae_cons (de_known hr (oe_name 0 rfl) hK) (ae_cons (de_known hr (oe_name 0 rfl) hK) ae_nil)) hp)) fun v H1 x t => q v H1 x t
theorem begun_upd (e : End) (tr : Int) : ∀ j, (partsOf (begun e tr)).lookup j = (([("stand", PyData.str "asking"), ("number", .int 1), ("plan", ePlan (planOf e.wishes [])), ("tries", .int tr), ("why", .str "")] : List (Str × PyData)).lookup j).or ((partsOf (atRest e)).lookup j) :=
  tabs_eq (parts_keys _) (parts_keys _) (by kernel_rfl) (parts_all ⟨rfl, rfl, rfl, rfl, rfl, rfl, rfl, rfl, rfl, rfl, rfl, rfl, rfl, rfl, rfl⟩)
theorem le_single {X : Cx} {e : Expr} {ρ : List Kd} {H : Hp} {d : PyData} {pos : Pos} (h : DE X e ρ H d) (hs : starEach [e] X.env = (false, eval e X.env) :: starEach [] X.env := by rfl) : LE X (.List [e] pos) ρ H [d] := le_lst (ae_cons h ae_nil hs)
theorem cal_begin (T : Tx K mg w) (k : Nat) : Cal P w K mg base "begin" (k + 3) (spKM K (fun a : End × Int => [.int a.2]) (fun a => WsOk a.1.wishes) (fun a => a.1) (fun a e' ls => e' = begun a.1 a.2 ∧ ls = [askLet (begun a.1 a.2)])) :=
  cal_KM d_begin T.g_begin T.f_begin sc_begin (fun _ _ _ _ _ _ us hl => match us, hl with | [_, _], _ => rfl) (fun _ => rfl) fun cdv A outer s H E Q a p hr hp hK q => by
  obtain ⟨e, tr⟩ := a
  have hK : Knw K H p e := hK
  have hp : WsOk e.wishes := hp
  refine sx_update (T' := partsOf (atRest e)) (oe_name 0 rfl) hK (me_rest T) (rest_upd e) (by show 24 ≤ 1000; decide) fun H1 c1 hK1 => ?_
  have hK1' : Knw K H1 p (atRest e) := hK1
  refine sx_update (T' := partsOf (begun e tr)) (oe_name 0 rfl) hK1' (me_disp (pd_cons de_str (pd_cons de_int (pd_cons (de_fn (cal_plan_of T k) hr e.wishes (ae_cons (de_known hr (oe_name 0 rfl) hK1') ae_nil) hp) (pd_cons (de_name 1 rfl) (pd_cons de_str pd_nil)))))) (begun_upd e tr) (by show 20 ≤ 1000; decide) fun H2 c2 hK2 => ?_
  refine sx_retL (le_single (de_kd (cal_ask_written T k) hr (begun e tr) (ak_obj (oe_name 0 rfl) ak_nil) hp.len hK2)) fun l xs H3 hl x3 hx t => q _ _ l xs H3 ⟨rfl, rfl⟩ ((c1.trans c2).trans x3.ch) (hK2.mono x3) ?_ hx t
  have h2 : H2 l = none := hl
  cases e1 : H l with
  | none => rfl
  | some o =>
    by_cases hlp : l = p
    · subst hlp
      obtain ⟨kvs, hk, _⟩ := hK2
      rw [hk] at h2
      cases h2
    · rw [(c1.trans c2).1 l o hlp e1] at h2
      cases h2
end
end CW
/-! part CwW10 -/
set_option maxRecDepth 100000
set_option maxHeartbeats 4000000
/-! The walk: shut, new_end. -/
namespace CW
open PySem PySem.Spec PyProof.Rows L2
theorem ch_free {K : PySem.W.Frag} {H H' : Hp} {p l : Addr} {e : End} (c : Ch p H H') (hK : Knw K H' p e) (hl : H' l = none) : H l = none := by
  cases e1 : H l with
  | none => rfl
  | some o =>
    by_cases hlp : l = p
    · subst hlp
      obtain ⟨kvs, hk, _⟩ := hK
      rw [hk] at hl
      cases hl
    · rw [c.1 l o hlp e1] at hl
      cases hl
theorem shut_upd (e : End) (why : Str) : ∀ j, (partsOf (shutE e why)).lookup j = if j = "why" then some (.str why) else (partsOf (atRest e)).lookup j :=
  tabs_put (tabs_eq (parts_keys _) (parts_keys _) (by kernel_rfl) (parts_all ⟨rfl, rfl, rfl, rfl, rfl, rfl, rfl, rfl, rfl, rfl, rfl, rfl, rfl, rfl, rfl⟩))
theorem new_upd (name : Str) (ws : List Wish) : ∀ j, (partsOf (newEnd name ws)).lookup j = (([("name", PyData.str name), ("wishes", eWishes ws), ("turn", .int 0), ("yours", .int 0), ("echoes", .int 0), ("why", .str "new")] : List (Str × PyData)).lookup j).or (restT.lookup j) :=
  tabs_eq (parts_keys _) (fun k hk => by
    have : ∀ k ∈ restT.map (·.1), k ∈ partNames := by decide +kernel
    exact this k hk) (by kernel_rfl) (parts_all ⟨rfl, rfl, rfl, rfl, rfl, rfl, rfl, rfl, rfl, rfl, rfl, rfl, rfl, rfl, rfl⟩)
section
variable {P : Program} {w : World} {K : PySem.W.Frag} {mg : Str → Option Value} {base : Heap} {k : Nat}
abbrev spShut (K : PySem.W.Frag) : Sp := spKM K (fun a : End × Str × Bool => [.str a.2.1, .bool a.2.2]) (fun _ => True) (fun a => a.1) (fun a e' ls => e' = shutE a.1 a.2.1 ∧ ls = if a.2.2 then [writ a.1 .bye 0 []] else [])
theorem kw_shut (T : Tx K mg w) (k : Nat) : KwOk P w K mg base d_shut "shut" P_shut (k + 2) (spShut K) :=
  kwok d_shut T.g_shut T.f_shut sc_shut (fun vs H Q E ⟨a, p, ws, e, t, _, _, _⟩ => by rw [e, List.length_cons, t.len]; rfl) fun cdv A outer s H E vs Q hr ⟨a, p, ws, e, t, hp, hK, q⟩ => by
    subst e
    obtain ⟨en, why, told⟩ := a
    have hK : Knw K H p en := hK
    refine (?_ : SX (CC P w K mg base d_shut N_shut (He.fAd K ("shut", none)) cdv A outer s H E) d_shut.body (rhoK N_shut p [.str why, .bool told]) H (DE0 Q)) _ (sl_k t)
    refine sx_setL (ds := (if told then [writ en .bye 0 []] else []).map eLet) 3 sc_shut.nd (le_if (be_val (de_name 2 rfl)) (fun h => LE.to (le_single (de_kd (cal_written T k) hr (en, .bye) (ak_obj (oe_name 0 rfl) (ak_dat de_str ak_nil)) trivial hK)) (by rw [h]; rfl)) fun h => LE.to (le_lst ae_nil) (by rw [h]; rfl)) fun l xs H1 hl x1 hx tx => ?_
    have hK1 := hK.mono x1
    have hlp : l ≠ p := fun z => by
      obtain ⟨kvs, hk, _⟩ := hK
      rw [z, hk] at hl
      cases hl
    refine sx_update (T' := partsOf (atRest en)) (oe_name 0 rfl) hK1 (me_rest T) (rest_upd en) (by show 24 ≤ 1000; decide) fun H2 c2 hK2 => ?_
    refine sx_dput (T' := partsOf (shutE en why)) hr (oe_name 0 rfl) de_str hK2 (de_name 1 rfl) (shut_upd en why) (by show 15 < 1000; decide) fun H3 c3 hK3 => ?_
    have c23 : Ch p H1 H3 := c2.trans c3
    exact sx_retO (oe_name 3 rfl) (q _ _ l xs H3 ⟨rfl, rfl⟩ (x1.ch.trans c23) hK3 hl (c23.1 _ _ hlp hx) (tx.mono c23.2))
theorem cal_shut (T : Tx K mg w) (k : Nat) : Cal P w K mg base "shut" (k + 2) (spKM K (fun a : End × Str => [.str a.2]) (fun _ => True) (fun a => a.1) (fun a e' ls => e' = shutE a.1 a.2 ∧ ls = [writ a.1 .bye 0 []])) := by
  have C := (kw_shut (P := P) (base := base) T k).lack 2 (by decide) rfl (fun D doc pm an cdv ct us ks h1 h2 => match us, h1, ks, h2 with | [_, _], _, [_], _ => ⟨_, _, _, _, _, _, rfl, rfl, rfl⟩)
  obtain ⟨f, fd, ps, ds, dvs, sp0, a, b, c, d, e, g⟩ := C.ex
  refine ⟨f, fd, ps, ds, dvs, sp0, a, b, c, d, e, fun vs H Q E ⟨⟨en, why⟩, p, ws, hv, t, hp, hK, q⟩ => g vs H Q E ⟨(en, why, true), p, ws ++ [.bl true], by rw [hv]; rfl, t.append (.cons (.bl true) .nil), trivial, hK, fun e' ls l xs H' h => q e' ls l xs H' h⟩⟩
theorem calk_shut (T : Tx K mg w) (k : Nat) : CalK P w K mg base "shut" 2 (["is_told"] : List Str) (k + 2) (fun vs zs H Q E => spShut K (vs ++ zs) H Q E) :=
  (kw_shut (P := P) (base := base) T k).full 2 (by decide) fun D doc pm an cdv ct us ws h1 h2 => match us, h1, ws, h2 with | [_, _], _, [_], _ => rfl
theorem cal_new_end (T : Tx K mg w) (k : Nat) : Cal P w K mg base "new_end" (k + 2) (spF K (fun a : Str × List Wish => [.str a.1, eWishes a.2]) (fun _ => True) (fun a => eEnd (newEnd a.1 a.2))) :=
  cal_F d_new_end T.g_new_end T.f_new_end sc_new_end (fun _ _ _ _ _ _ us hl => match us, hl with | [_, _], _ => rfl) (fun _ => rfl) fun cdv A outer s H E Q a hr _ q => by
  obtain ⟨name, ws⟩ := a
  refine sx_setM 2 sc_new_end.nd (me_rest T) fun p H1 hp x1 hD => ?_
  refine sx_update (T' := partsOf (newEnd name ws)) (oe_name 2 rfl) hD (me_disp (pd_cons (de_name 0 rfl) (pd_cons (de_name 1 rfl) (pd_cons de_int (pd_cons de_int (pd_cons de_int (pd_cons de_str pd_nil))))))) (new_upd name ws) (by show 15 ≤ 1000; decide) fun H2 c2 hK => ?_
  exact sx_ret (d := eEnd (newEnd name ws)) (de_kd (cal_as_end T k) hr (newEnd name ws) (ak_obj (oe_name 2 rfl) ak_nil) trivial hK) fun v H3 x3 t => q v H3 ((Ex.ch_new hp x1 c2).trans x3) t
end
end CW
/-! part CwW11 -/
set_option maxRecDepth 100000
set_option maxHeartbeats 4000000
/-! The walk: known_of, stands_open_with, opened, closing, ticked. -/
namespace CW
open PySem PySem.Spec PyProof.Rows L2
/-! ### promises: a new table; an end and its letters -/
def spM {α : Type} (K : PySem.W.Frag) (args : α → List PyData) (pre : α → Prop) (res : α → List (Str × PyData)) : Sp := fun vs H Q _ => ∃ a, Tps K H vs (args a) ∧ pre a ∧ ∀ p kvs H', H p = none → Ex H H' → H' p = some (.dK kvs) → TabK K H' kvs (res a) → Q (.ref p) H'
/-- v is the pair of an end and its new letters -/
def PairV (K : PySem.W.Frag) (H H' : Hp) (e : End) (ls : List Letter) (v : V) : Prop := ∃ T ve l xs, v = .ref T ∧ SqT K H' T [ve, .ref l] ∧ Tp K H' ve (eEnd e) ∧ H l = none ∧ H' l = some (.lst xs) ∧ Tps K H' xs (ls.map eLet)
def spP {α : Type} (K : PySem.W.Frag) (args : α → List PyData) (pre : α → Prop) (post : α → End → List Letter → Prop) : Sp := fun vs H Q _ => ∃ a, Tps K H vs (args a) ∧ pre a ∧ ∀ e ls v H', post a e ls → Ex H H' → PairV K H H' e ls v → Q v H'
section
variable {X : Cx} {e e1 e2 : Expr} {es : List Expr} {ρ : List Kd} {H : Hp} {x : Str} {k : Nat} {pos p1 spos : Pos} {α : Type} {args : α → List PyData} {pre : α → Prop} {res : α → List (Str × PyData)} {sts : List Stmt} {D : Ends} {d : PyData} {l : Addr} {kk : Nat}
theorem me_fn {rs : List (Str × PyData)} {ds : List PyData} (C : Cal X.prog X.w X.K X.mg X.base x k (spM X.K args pre res)) (hr : Room k X.A) (a : α) (ha : AE X (e :: es) ρ H ds) (hp : pre a) (hds : ds = args a := by rfl) (hd : res a = rs := by rfl) (hg : Gl X x := by rfl)
    (hdb : (x == ("__debug__" : Str)) = false := by decide) (he : starEach (e :: es) X.env = (false, eval e X.env) :: starEach es X.env := by rfl) (hpl : (backTo pos (starEach es X.env)).any (·.1) = false := by rfl) : ME X (.Call (.Name x p1) (e :: es) [] pos) ρ H rs := by
  subst hds hd
  exact fun σ H1 s y Q q => re_call C hr hg (ha σ H1 s y _ fun vs H2 x2 t => ⟨a, t, hp, fun p kvs H3 hp x3 hl tv => q p kvs H3 (x2.free hp) (x2.trans x3) hl tv⟩) hdb he hpl
theorem sx_retM {T : List (Str × PyData)} (he : ME X e ρ H T) (k : ∀ p kvs H1, H p = none → Ex H H1 → H1 p = some (.dK kvs) → TabK X.K H1 kvs T → D.rt (.ref p) H1) : SX X (.Return (some e) spos :: sts) ρ H D :=
  sx_cons (ps_ret pe_re) fun σ s => he σ H s (Ex.refl _) _ k
/-- return (e, l): e a datum, l the list in a slot -/
theorem sx_retP (h1 : DE X e1 ρ H d) (h2 : OE X e2 ρ H l) (k : ∀ T v H1, Ex H H1 → SqT X.K H1 T [v, .ref l] → Tp X.K H1 v d → D.rt (.ref T) H1) (hs : starEach [e1, e2] X.env = (false, eval e1 X.env) :: starEach [e2] X.env := by rfl) (hs2 : starEach [e2] X.env = (false, eval e2 X.env) :: starEach [] X.env := by rfl) :
    SX X (.Return (some (.Tuple [e1, e2] kk pos)) spos :: sts) ρ H D :=
  sx_cons (ps_ret (pe_tupF (pa_cons pe_re (pa_cons pe_re pa_nil hs2) hs))) fun σ s => h1 σ H s (Ex.refl _) _ fun v H1 x1 t => h2 σ H1 (s.mono x1.xt) x1 _ ⟨by show 2 ≤ sizeLine; decide, fun p o hp ho =>
    k p v _ (x1.trans (Ex.new hp)) (PlT.of ho upd_same).sq (t.mono (Ex.new hp).xt)⟩
end
section
variable {X : Cx} {a b : Expr} {ρ : List Kd} {H : Hp} {pos px py pt pt2 : Pos} {kt k2 : Nat} {T1 T2 : List (Str × PyData)} {sts : List Stmt} {D : Ends} {x y : Str}
/-- x, y = (a, b), both new tables -/
theorem sx_par2M (i j : Nat) (hc : X.calm = true) (hN : X.N.Nodup) (h1 : ME X a ρ H T1) (h2 : ME X b ρ H T2) (k : ∀ p q H1, Ex H H1 → DicAt X.K H1 p T1 → DicAt X.K H1 q T2 → SX X sts ((ρ.set i (.obj p)).set j (.obj q)) H1 D) (hi : X.N[i]? = some x := by rfl) (hj : X.N[j]? = some y := by rfl)
    (hij : i ≠ j := by decide) (hx : X.env.scope.names.lookup x = some .local := by rfl) (hy : X.env.scope.names.lookup y = some .local := by rfl) (hs1 : starEach [a, b] X.env = (false, eval a X.env) :: starEach [b] X.env := by rfl) (hs2 : starEach [b] X.env = (false, eval b X.env) :: starEach [] X.env := by rfl)
    (hw : swappedStores [.Tuple [.Name x px, .Name y py] kt pt] (.Tuple [a, b] k2 pt2) X.env = pure (some [x, y]) := by kernel_rfl) (hs : swapsWithSole [.Tuple [.Name x px, .Name y py] kt pt] (.Tuple [a, b] k2 pt2) pos.line X.env = pure false := by rfl) :
    SX X (.Assign [.Tuple [.Name x px, .Name y py] kt pt] (.Tuple [a, b] k2 pt2) pos :: sts) ρ H D :=
  sx_cons (ps_par hc hN hi hj hij hx hy (pa_cons pe_re (pa_cons pe_re pa_nil hs2) hs1) hw hs) fun σ s => h1 σ H s (Ex.refl _) _ fun p kvs H1 hp x1 hk t => h2 σ H1 (s.mono x1.xt) x1 _ fun q kvs2 H2 hq x2 hk2 t2 =>
    ⟨_, _, rfl, k p q H2 (x1.trans x2) ⟨kvs, x2 _ _ hk, t.mono x2.xt⟩ ⟨kvs2, hk2, t2⟩ _ (((s.mono (x1.trans x2).xt).set (k := .obj p) rfl).set (k := .obj q) rfl)⟩
end
section
variable {P : Program} {w : World} {K : PySem.W.Frag} {mg : Str → Option Value} {base : Heap} {k : Nat}
theorem cal_known_of (T : Tx K mg w) (k : Nat) : Cal P w K mg base "known_of" (k + 1) (spM K (fun e : End => [eEnd e]) (fun _ => True) (fun e => partsOf e)) :=
  cal_of d_known_of T.g_known_of T.f_known_of sc_known_of rfl (fun _ _ _ _ _ _ us hl => match us, hl with | [_], _ => rfl) (fun vs H Q E ⟨a, t, _, _⟩ => by rw [t.len]; rfl) fun cdv A outer s H E vs Q hr ⟨e, t, _, q⟩ => by
    have nd : partNames.Nodup := by decide +kernel
    exact sx_retM (ρ := rho0 N_known_of [eEnd e]) (me_zipdict (ks := partNames) (bs := (partsOf e).map (·.2)) (by rfl) (se_top T.g_PARTS (parts_tup T)) (se_de (de_name 0 rfl)) rfl nd (by decide) (by rfl) (by exact T.n_zip) (by rfl) (by exact T.n_list) (by rfl) (by exact T.n_dict)) (fun p kvs H1 hp x hk tk => q p kvs H1 hp x hk tk) _ (sl_start t)
theorem sStand_eq (a b : Stand) : PyData.eqv (.str (sStand a)) (.str (sStand b)) = decide (a = b) := by
  rw [eqv_str]
  cases a <;> cases b <;> decide +kernel
theorem cal_stands_open_with (T : Tx K mg w) (k : Nat) : Cal P w K mg base "stands_open_with" (k + 2) (spF K (fun a : End × End => [eEnd a.1, eEnd a.2]) (fun _ => True) (fun a => .bool (standsOpen a.1 a.2))) :=
  cal_F d_stands_open_with T.g_stands_open_with T.f_stands_open_with sc_stands_open_with (fun _ _ _ _ _ _ us hl => match us, hl with | [_, _], _ => rfl) (fun _ => rfl) fun cdv A outer s H E Q a hr _ q => by
  obtain ⟨a, b⟩ := a
  refine sx_par2M 2 3 rfl sc_stands_open_with.nd (me_fn (cal_known_of T k) hr a (ae_cons (de_name 0 rfl) ae_nil) trivial) (me_fn (cal_known_of T k) hr b (ae_cons (de_name 1 rfl) ae_nil) trivial) fun p1 p2 H1 x1 hA hB => ?_
  have hA : Knw K H1 p1 a := hA
  have hB : Knw K H1 p2 b := hB
  have e1 : (!PyData.eqv (.str (sStand a.stand)) (.str "open") || !PyData.eqv (.str (sStand b.stand)) (.str "open")) = !(decide (a.stand = .opn) && decide (b.stand = .opn)) := by
    rw [show PyData.eqv (.str (sStand a.stand)) (.str "open") = decide (a.stand = .opn) from sStand_eq a.stand .opn, show PyData.eqv (.str (sStand b.stand)) (.str "open") = decide (b.stand = .opn) from sStand_eq b.stand .opn]
    cases decide (a.stand = .opn) <;> cases decide (b.stand = .opn) <;> rfl
  refine sx_if (k := !(decide (a.stand = .opn) && decide (b.stand = .opn))) (BE.to (be_w (we_or (be_cmp (opd_ne hr (depth_str _) (depth_str _)) (de_known hr (oe_name 2 rfl) hA) de_str) fun _ => we_or1 (be_cmp (opd_ne hr (depth_str _) (depth_str _)) (de_known hr (oe_name 3 rfl) hB) de_str))) e1)
    (fun hk H2 x2 => sx_ret (d := .bool (standsOpen a b)) (DE.to de_bl ?_) fun v H3 x3 t => q v H3 ((x1.trans x2).trans x3) t) fun hk H2 x2 => sx_next (sx_ret (d := .bool (standsOpen a b)) (DE.to (de_and (de_cmp (opd_eq hr (depth_int _) (depth_int _)) (de_known hr (oe_name 2 rfl) (hA.mono x2)) (de_known hr (oe_name 3 rfl) (hB.mono x2))) fun _ =>
      de_one (de_cmp (opd_eq hr (depth_int _) (depth_int _)) (de_known hr (oe_name 3 rfl) (hB.mono x2)) (de_known hr (oe_name 2 rfl) (hA.mono x2)))) ?_) fun v H3 x3 t => q v H3 ((x1.trans x2).trans x3) t)
  · rw [Bool.not_eq_true'] at hk
    unfold standsOpen
    rw [hk]
    rfl
  · rw [Bool.not_eq_false'] at hk
    unfold standsOpen
    rw [hk, eqv_int, eqv_int]
    simp
end
end CW
/-! part CwW12 -/
set_option maxRecDepth 100000
set_option maxHeartbeats 4000000
/-! The walk: opened, closing, ticked. -/
namespace CW
open PySem PySem.Spec PyProof.Rows L2
section
variable {X : Cx} {a b e o : Expr} {ρ : List Kd} {H : Hp} {pos tpos apos : Pos} {p : Addr} {T T' : List (Str × PyData)} {sts : List Stmt} {D : Ends} {k : Str} {j : Nat} {i m : Int}
theorem sx_dadd (hr : Room j X.A) (ho : OE X o ρ H p) (hi : DE X b ρ H (.str k)) (hD : DicAt X.K H p T) (hk : T.lookup k = some (.int i)) (he : DE X e ρ H (.int m)) (hT : ∀ j, T'.lookup j = if j = k then some (.int (i + m)) else T.lookup j) (hz : T.length < 1000)
    (kk : ∀ H', Ch p H H' → DicAt X.K H' p T' → SX X sts ρ H' D) (ha : ∀ ov iv new, augStore b ov iv new = (do holding [new, ov, iv] (setItem ov iv new); release [new, ov, iv] []; pure .next) := by intro _ _ _; rfl) : SX X (.AugAssign (.Subscript o b tpos) .Add e pos :: sts) ρ H D := by
  obtain ⟨kvs, hH, t⟩ := hD
  obtain ⟨v, hv, tv⟩ := t.get hk
  refine sx_cons (ps_daug (hu_of hr) pe_re pe_re pe_re in_add ha) fun σ s => ho σ H s (Ex.refl _) _ (hi σ H s (Ex.refl _) _ fun w H1 x1 tk => ?_)
  obtain ⟨rfl, _⟩ := tk.str_inv
  obtain rfl := tv.int_inv
  refine ⟨p, .int i, rfl, by rw [← hv]; exact DGet.k (k := .inr k) (x1 _ _ hH), he σ H1 (s.mono x1.xt) x1 _ fun u H2 x2 tu => ?_⟩
  obtain rfl := tu.int_inv
  have hH2 := x2 _ _ (x1 _ _ hH)
  have hl : kvs.length < sizeLine := by have := t.len; exact small1000 (by omega)
  have xu : Xt H2 (upd H2 p (.dK (putK kvs (.inr k) (.int (i + m))))) := Xt.upd hH2 (by intro _ z; cases z) (by intro _ _ z; cases z)
  have c : Ch p H (upd H2 p (.dK (putK kvs (.inr k) (.int (i + m))))) := (x1.trans x2).ch.upd hH2
  have fin : ∃ H5, DPut H2 p (kV (.inr k)) (.int (i + m)) H5 ∧ (thenD X sts D).nx σ H5 := ⟨_, DPut.k (k := .inr k) hH2 hl, kk _ c ⟨_, upd_same, TabK.put ((t.mono (x1.trans x2).xt).mono xu) (.int _) hT⟩ σ (s.mono c.2)⟩
  exact ⟨i, m, rfl, rfl, fin⟩
theorem sx_dsub (hr : Room j X.A) (ho : OE X o ρ H p) (hi : DE X b ρ H (.str k)) (hD : DicAt X.K H p T) (hk : T.lookup k = some (.int i)) (he : DE X e ρ H (.int m)) (hT : ∀ j, T'.lookup j = if j = k then some (.int (i - m)) else T.lookup j) (hz : T.length < 1000)
    (kk : ∀ H', Ch p H H' → DicAt X.K H' p T' → SX X sts ρ H' D) (ha : ∀ ov iv new, augStore b ov iv new = (do holding [new, ov, iv] (setItem ov iv new); release [new, ov, iv] []; pure .next) := by intro _ _ _; rfl) : SX X (.AugAssign (.Subscript o b tpos) .Sub e pos :: sts) ρ H D := by
  obtain ⟨kvs, hH, t⟩ := hD
  obtain ⟨v, hv, tv⟩ := t.get hk
  refine sx_cons (ps_daug (hu_of hr) pe_re pe_re pe_re in_sub ha) fun σ s => ho σ H s (Ex.refl _) _ (hi σ H s (Ex.refl _) _ fun w H1 x1 tk => ?_)
  obtain ⟨rfl, _⟩ := tk.str_inv
  obtain rfl := tv.int_inv
  refine ⟨p, .int i, rfl, by rw [← hv]; exact DGet.k (k := .inr k) (x1 _ _ hH), he σ H1 (s.mono x1.xt) x1 _ fun u H2 x2 tu => ?_⟩
  obtain rfl := tu.int_inv
  have hH2 := x2 _ _ (x1 _ _ hH)
  have hl : kvs.length < sizeLine := by have := t.len; exact small1000 (by omega)
  have xu : Xt H2 (upd H2 p (.dK (putK kvs (.inr k) (.int (i - m))))) := Xt.upd hH2 (by intro _ z; cases z) (by intro _ _ z; cases z)
  have c : Ch p H (upd H2 p (.dK (putK kvs (.inr k) (.int (i - m))))) := (x1.trans x2).ch.upd hH2
  have fin : ∃ H5, DPut H2 p (kV (.inr k)) (.int (i - m)) H5 ∧ (thenD X sts D).nx σ H5 := ⟨_, DPut.k (k := .inr k) hH2 hl, kk _ c ⟨_, upd_same, TabK.put ((t.mono (x1.trans x2).xt).mono xu) (.int _) hT⟩ σ (s.mono c.2)⟩
  exact ⟨i, m, rfl, rfl, fin⟩
/-- letters = f(known, ..) -/
theorem sx_km {post : End → List Letter → Prop} {n : Str} {npos : Pos} (i : Nat) (hN : X.N.Nodup) (he : GE X e ρ H (KmR X.K p H post)) (k : ∀ e' ls l xs H', post e' ls → Ch p H H' → Knw X.K H' p e' → H l = none → H' l = some (.lst xs) → Tps X.K H' xs (ls.map eLet) → SX X sts (ρ.set i (.obj l)) H' D)
    (hi : X.N[i]? = some n := by rfl) (hx : Loc X.env.scope n := by first | exact Or.inl rfl | exact Or.inr rfl) (hs : swapsWith e (some (.Name n npos)) pos.line X.env = pure false := by rfl)
    (hf : X.fn n = true ∨ X.env.scope.names.lookup n = some .local := by first | exact .inl rfl | exact .inr rfl) : SX X (.Assign [.Name n npos] e pos :: sts) ρ H D :=
  sx_setG i hN he (fun v H' ⟨e', ls, l, xs, ev, h1, h2, h3, h4, h5, h6⟩ => ⟨.obj l, by subst ev; rfl, h2.2, k e' ls l xs H' h1 h2 h3 h4 h5 h6⟩) hi hx hs hf
end
theorem up_turn (e : End) : ∀ j, (partsOf { e with turn := e.turn + 1, echoes := 0 }).lookup j = (([("turn", PyData.int (e.turn + 1)), ("echoes", .int 0)] : List (Str × PyData)).lookup j).or ((partsOf e).lookup j) :=
  tabs_eq (parts_keys _) (parts_keys _) (by kernel_rfl) (parts_all ⟨rfl, rfl, rfl, rfl, rfl, rfl, rfl, rfl, rfl, rfl, rfl, rfl, rfl, rfl, rfl⟩)
theorem up_tries (e : End) (n : Int) : ∀ j, (partsOf { e with tries := n }).lookup j = if j = "tries" then some (.int n) else (partsOf e).lookup j :=
  tabs_put (tabs_eq (parts_keys _) (parts_keys _) (by kernel_rfl) (parts_all ⟨rfl, rfl, rfl, rfl, rfl, rfl, rfl, rfl, rfl, rfl, rfl, rfl, rfl, rfl, rfl⟩))
section
variable {P : Program} {w : World} {K : PySem.W.Frag} {mg : Str → Option Value} {base : Heap} {k : Nat} {N ps : List Str} {x : Str} {α : Type} {args : α → List PyData} {pre : α → Prop} {post : α → End → List Letter → Prop}
theorem cal_P (d : He.DefD) (hg : mg x = some (.ref (He.fAd K (x, none)))) (hf : ∃ fd, FunD K d.name d.qual d.params d.body d.scope (d.dvs K) (d.kws K) (He.fAd K (x, none)) fd) (S : FnScope N ps d.scope) (hb : BindN d ps) (len : ∀ a, (args a).length = ps.length)
    (body : ∀ cdv A outer s H E Q a, Room k (CC P w K mg base d N (He.fAd K (x, none)) cdv A outer s H E).A → pre a → (∀ e ls v H', post a e ls → Ex H H' → PairV K H H' e ls v → Q v H') → SX (CC P w K mg base d N (He.fAd K (x, none)) cdv A outer s H E) d.body (rho0 N (args a)) H (DE0 Q))
    (hd : d.dfl = [] := by rfl) : Cal P w K mg base x (k + 1) (spP K args pre post) :=
  cal_of d hg hf S hd hb (fun vs H Q E ⟨a, t, _, _⟩ => by rw [t.len, len]) fun cdv A outer s H E vs Q hr ⟨a, t, p, q⟩ => body cdv A outer s H E Q a hr p q _ (sl_start t)
theorem kwok_P (d : He.DefD) (hg : mg x = some (.ref (He.fAd K (x, none)))) (hf : ∃ fd, FunD K d.name d.qual d.params d.body d.scope (d.dvs K) (d.kws K) (He.fAd K (x, none)) fd) (S : FnScope N ps d.scope) (len : ∀ a, (args a).length = ps.length)
    (body : ∀ cdv A outer s H E Q a, Room k (CC P w K mg base d N (He.fAd K (x, none)) cdv A outer s H E).A → pre a → (∀ e ls v H', post a e ls → Ex H H' → PairV K H H' e ls v → Q v H') → SX (CC P w K mg base d N (He.fAd K (x, none)) cdv A outer s H E) d.body (rho0 N (args a)) H (DE0 Q))
    (hd : d.dfl = [] := by rfl) : KwOk P w K mg base d x ps (k + 1) (spP K args pre post) :=
  kwok d hg hf S (fun vs H Q E ⟨a, t, _, _⟩ => by rw [t.len, len]) (fun cdv A outer s H E vs Q hr ⟨a, t, p, q⟩ => body cdv A outer s H E Q a hr p q _ (sl_start t)) hd
theorem new_apart {H H1 : Hp} {p : Addr} {e : End} (hK : Knw K H1 p e) {l : Addr} (hl : H1 l = none) : l ≠ p := fun z => by
  obtain ⟨kvs, hk, _⟩ := hK
  rw [z, hk] at hl
  cases hl
theorem kw_opened (T : Tx K mg w) (k : Nat) : KwOk P w K mg base d_opened "opened" P_opened (k + 4) (spP K (fun a : End × Int => [eEnd a.1, .int a.2]) (fun a => a.1.stand = .closed ∧ WsOk a.1.wishes) (fun a e' ls => e' = (opened a.1 a.2).1 ∧ ls = (opened a.1 a.2).2)) :=
  kwok_P d_opened T.g_opened T.f_opened sc_opened (fun _ => rfl) fun cdv A outer s H E Q a hr hp q => by
  obtain ⟨e, tr⟩ := a
  obtain ⟨hst, hws⟩ := hp
  have hst : e.stand = .closed := hst
  have hws : WsOk e.wishes := hws
  refine sx_setM 2 sc_opened.nd (me_fn (cal_known_of T (k + 2)) hr e (ae_cons (de_name 0 rfl) ae_nil) trivial) fun p H1 hp1 x1 hK => ?_
  have hK : Knw K H1 p e := hK
  refine sx_if (k := !PyData.eqv (.str (sStand e.stand)) (.str "closed")) (be_cmp (opd_ne hr (depth_str _) (depth_str _)) (de_known hr (oe_name 2 rfl) hK) de_str) (fun hk => ?_) fun hk H2 x2 => sx_next ?_
  · rw [show PyData.eqv (.str (sStand e.stand)) (.str "closed") = decide (e.stand = .closed) from sStand_eq e.stand .closed, decide_eq_true hst] at hk
    cases hk
  refine sx_update (T' := partsOf { e with turn := e.turn + 1, echoes := 0 }) (oe_name 2 rfl) (hK.mono x2) (me_disp (pd_cons (de_bin opd_add (de_known hr (oe_name 2 rfl) (hK.mono x2)) de_int) (pd_cons de_int pd_nil))) (up_turn e) (by show 17 ≤ 1000; decide) fun H3 c3 hK3 => ?_
  have hK3 : Knw K H3 p { e with turn := e.turn + 1, echoes := 0 } := hK3
  refine sx_km 3 sc_opened.nd (ge_km (cal_begin T k) hr (({ e with turn := e.turn + 1, echoes := 0 } : End), tr) (ak_obj (oe_name 2 rfl) (ak_dat (de_name 1 rfl) ak_nil)) (by exact hws) (by exact hK3)) fun e' ls l xs H4 hpost c4 hK4 hl hx tx => ?_
  obtain ⟨rfl, rfl⟩ := hpost
  have x3 : Ex H H3 := Ex.ch_new hp1 (x1.trans x2) c3
  have x4 : Ex H H4 := Ex.ch_new hp1 (x1.trans x2) (c3.trans c4)
  refine sx_retP (de_kd (cal_as_end T (k + 2)) hr _ (ak_obj (oe_name 2 rfl) ak_nil) trivial hK4) (oe_name 3 rfl) fun Tt v H5 x5 sq tv => q _ _ _ H5 ⟨rfl, rfl⟩ (x4.trans x5) ⟨Tt, v, l, xs, rfl, sq, tv, x3.free hl, x5 _ _ hx, tx.mono x5.xt⟩
theorem cal_closing (T : Tx K mg w) (k : Nat) : Cal P w K mg base "closing" (k + 3) (spP K (fun a : End => [eEnd a]) (fun a => a.stand ≠ .closed) (fun a e' ls => e' = (closing a).1 ∧ ls = (closing a).2)) :=
  cal_P d_closing T.g_closing T.f_closing sc_closing (fun _ _ _ _ _ _ us hl => match us, hl with | [_], _ => rfl) (fun _ => rfl) fun cdv A outer s H E Q e hr hst q => by
  refine sx_setM 1 sc_closing.nd (me_fn (cal_known_of T (k + 1)) hr e (ae_cons (de_name 0 rfl) ae_nil) trivial) fun p H1 hp1 x1 hK => ?_
  have hK : Knw K H1 p e := hK
  refine sx_if (k := PyData.eqv (.str (sStand e.stand)) (.str "closed")) (be_cmp (opd_eq hr (depth_str _) (depth_str _)) (de_known hr (oe_name 1 rfl) hK) de_str) (fun hk => ?_) fun hk H2 x2 => sx_next ?_
  · rw [show PyData.eqv (.str (sStand e.stand)) (.str "closed") = decide (e.stand = .closed) from sStand_eq e.stand .closed] at hk
    exact absurd (of_decide_eq_true hk) hst
  refine sx_km 2 sc_closing.nd (ge_km (cal_shut T k) hr (e, ("closed" : Str)) (ak_obj (oe_name 1 rfl) (ak_dat de_str ak_nil)) (by exact trivial) (by exact hK.mono x2)) fun e' ls l xs H4 hpost c4 hK4 hl hx tx => ?_
  obtain ⟨rfl, rfl⟩ := hpost
  have x4 : Ex H H4 := Ex.ch_new hp1 (x1.trans x2) c4
  exact sx_retP (de_kd (cal_as_end T (k + 1)) hr _ (ak_obj (oe_name 1 rfl) ak_nil) trivial hK4) (oe_name 2 rfl) fun Tt v H5 x5 sq tv => q _ _ _ H5 ⟨rfl, rfl⟩ (x4.trans x5) ⟨Tt, v, l, xs, rfl, sq, tv, (x1.trans x2).free hl, x5 _ _ hx, tx.mono x5.xt⟩
end
section
variable {X : Cx} {e1 e2 : Expr} {ρ : List Kd} {H : Hp} {pos spos : Pos} {d : PyData} {ds : List PyData} {kk : Nat} {sts : List Stmt} {D : Ends}
/-- return (e, [..]): the list is new -/
theorem sx_retPL (h1 : DE X e1 ρ H d) (h2 : LE X e2 ρ H ds) (k : ∀ T v l xs H1, Ex H H1 → SqT X.K H1 T [v, .ref l] → Tp X.K H1 v d → H l = none → H1 l = some (.lst xs) → Tps X.K H1 xs ds → D.rt (.ref T) H1) (hs : starEach [e1, e2] X.env = (false, eval e1 X.env) :: starEach [e2] X.env := by rfl) (hs2 : starEach [e2] X.env = (false, eval e2 X.env) :: starEach [] X.env := by rfl) :
    SX X (.Return (some (.Tuple [e1, e2] kk pos)) spos :: sts) ρ H D :=
  sx_cons (ps_ret (pe_tupF (pa_cons pe_re (pa_cons pe_re pa_nil hs2) hs))) fun σ s => h1 σ H s (Ex.refl _) _ fun v H1 x1 t => h2 σ H1 (s.mono x1.xt) x1 _ fun l xs H2 hl x2 hx tx => ⟨by show 2 ≤ sizeLine; decide, fun p o hp ho =>
    k p v l xs _ ((x1.trans x2).trans (Ex.new hp)) (PlT.of ho upd_same).sq ((t.mono x2.xt).mono (Ex.new hp).xt) (x1.free hl) ((Ex.new hp) _ _ hx) (tx.mono (Ex.new hp).xt)⟩
end
section
variable {P : Program} {w : World} {K : PySem.W.Frag} {mg : Str → Option Value} {base : Heap} {k : Nat}
theorem cal_ticked (T : Tx K mg w) (k : Nat) : Cal P w K mg base "ticked" (k + 4) (spP K (fun a : End => [eEnd a]) (fun a => a.wishes.length ≤ 1000) (fun a e' ls => e' = (ticked a).1 ∧ ls = (ticked a).2)) :=
  cal_P d_ticked T.g_ticked T.f_ticked sc_ticked (fun _ _ _ _ _ _ us hl => match us, hl with | [_], _ => rfl) (fun _ => rfl) fun cdv A outer s H E Q e hr hws q => by
  have hws : e.wishes.length ≤ 1000 := hws
  refine sx_setM 1 sc_ticked.nd (me_fn (cal_known_of T (k + 2)) hr e (ae_cons (de_name 0 rfl) ae_nil) trivial) fun p H1 hp1 x1 hK => ?_
  have hK : Knw K H1 p e := hK
  refine sx_if (k := PyData.eqv (.str (sStand e.stand)) (.str "closed")) (be_cmp (opd_eq hr (depth_str _) (depth_str _)) (de_known hr (oe_name 1 rfl) hK) de_str) (fun hk H2 x2 => ?_) fun hk H2 x2 => sx_next ?_
  · rw [show PyData.eqv (.str (sStand e.stand)) (.str "closed") = decide (e.stand = .closed) from sStand_eq e.stand .closed] at hk
    have et : ticked e = (e, []) := by unfold ticked; rw [if_pos (of_decide_eq_true hk)]
    exact sx_retPL (de_name 0 rfl) (le_lst ae_nil) fun Tt v l xs H3 x3 sq tv hl hx tx => q _ _ _ H3 ⟨rfl, rfl⟩ ((x1.trans x2).trans x3) (by rw [et]; exact ⟨Tt, v, l, xs, rfl, sq, tv, (x1.trans x2).free hl, hx, tx⟩)
  rw [show PyData.eqv (.str (sStand e.stand)) (.str "closed") = decide (e.stand = .closed) from sStand_eq e.stand .closed] at hk
  have hst : ¬ e.stand = .closed := of_decide_eq_false hk
  refine sx_if (k := PyData.eqv (.int e.tries) (.int 0)) (be_cmp (opd_eq hr (depth_int _) (depth_int _)) (de_known hr (oe_name 1 rfl) (hK.mono x2)) de_int) (fun hk2 H3 x3 => ?_) fun hk2 H3 x3 => sx_next ?_
  · rw [eqv_int] at hk2
    have et : ticked e = (asEnd (shutE e "tries"), [writ e .bye 0 []]) := by unfold ticked; rw [if_neg hst, if_pos (of_decide_eq_true hk2)]
    refine sx_km 2 sc_ticked.nd (ge_km (cal_shut T (k + 1)) hr (e, ("tries" : Str)) (ak_obj (oe_name 1 rfl) (ak_dat de_str ak_nil)) (by exact trivial) (by exact (hK.mono x2).mono x3)) fun e' ls l xs H4 hpost c4 hK4 hl hx tx => ?_
    obtain ⟨rfl, rfl⟩ := hpost
    have x4 : Ex H H4 := Ex.ch_new hp1 ((x1.trans x2).trans x3) c4
    exact sx_retP (de_kd (cal_as_end T (k + 2)) hr _ (ak_obj (oe_name 1 rfl) ak_nil) trivial hK4) (oe_name 2 rfl) fun Tt v H5 x5 sq tv => q _ _ _ H5 ⟨rfl, rfl⟩ (x4.trans x5) (by rw [et]; exact ⟨Tt, v, l, xs, rfl, sq, tv, ((x1.trans x2).trans x3).free hl, x5 _ _ hx, tx.mono x5.xt⟩)
  · rw [eqv_int] at hk2
    have hK3 := (hK.mono x2).mono x3
    have et : ticked e = (asEnd { e with tries := e.tries - 1 }, [if e.given.isNone then askLet e else writ e .here 0 []]) := by unfold ticked; rw [if_neg hst, if_neg (of_decide_eq_false hk2)]
    refine sx_dsub (T' := partsOf { e with tries := e.tries - 1 }) hr (oe_name 1 rfl) de_str hK3 rfl de_int (up_tries e _) (by show 15 < 1000; decide) fun H4 c4 hK4 => ?_
    have hK4 : Knw K H4 p { e with tries := e.tries - 1 } := hK4
    have x4 : Ex H H4 := Ex.ch_new hp1 ((x1.trans x2).trans x3) c4
    refine sx_retPL (de_kd (cal_as_end T (k + 2)) hr _ (ak_obj (oe_name 1 rfl) ak_nil) trivial hK4) (le_single (d := eLet (if e.given.isNone then askLet e else writ e .here 0 [])) (de_if (k := e.given.isNone) (BE.to (be_cmp opd_isN (de_known hr (oe_name 1 rfl) hK4) de_non) (by show isNon (eOPrs e.given) = _; rw [eqv_oprs_none]; cases e.given <;> rfl))
      (fun hg => DE.to (de_kd (cal_ask_written T (k + 1)) hr ({ e with tries := e.tries - 1 } : End) (ak_obj (oe_name 1 rfl) ak_nil) hws hK4) (by rw [hg]; rfl)) fun hg => DE.to (de_kd (cal_written T (k + 2)) hr (({ e with tries := e.tries - 1 } : End), Word.here) (ak_obj (oe_name 1 rfl) (ak_dat de_str ak_nil)) trivial hK4) (by rw [hg]; rfl)))
      fun Tt v l xs H5 x5 sq tv hl hx tx => q _ _ _ H5 ⟨rfl, rfl⟩ (x4.trans x5) (by rw [et]; exact ⟨Tt, v, l, xs, rfl, sq, tv, x4.free hl, hx, tx⟩)
end
end CW
/-! part CwW13 -/
set_option maxRecDepth 100000
set_option maxHeartbeats 4000000
/-! The walk: has_failed, wished. -/
namespace CW
open PySem PySem.Spec PyProof.Rows L2
theorem up_wishes (e : End) (ws : List Wish) : ∀ j, (partsOf { e with wishes := ws }).lookup j = if j = "wishes" then some (eWishes ws) else (partsOf e).lookup j :=
  tabs_put (tabs_eq (parts_keys _) (parts_keys _) (by kernel_rfl) (parts_all ⟨rfl, rfl, rfl, rfl, rfl, rfl, rfl, rfl, rfl, rfl, rfl, rfl, rfl, rfl, rfl⟩))
theorem up_plan (e : End) (p : Plan) : ∀ j, (partsOf { e with plan := p }).lookup j = if j = "plan" then some (ePlan p) else (partsOf e).lookup j :=
  tabs_put (tabs_eq (parts_keys _) (parts_keys _) (by kernel_rfl) (parts_all ⟨rfl, rfl, rfl, rfl, rfl, rfl, rfl, rfl, rfl, rfl, rfl, rfl, rfl, rfl, rfl⟩))
theorem up_wish3 (e : End) (n tr : Int) : ∀ j, (partsOf { e with number := n, given := none, tries := tr }).lookup j = (([("number", PyData.int n), ("given", .none), ("tries", .int tr)] : List (Str × PyData)).lookup j).or ((partsOf e).lookup j) :=
  tabs_eq (parts_keys _) (parts_keys _) (by kernel_rfl) (parts_all ⟨rfl, rfl, rfl, rfl, rfl, rfl, rfl, rfl, rfl, rfl, rfl, rfl, rfl, rfl, rfl⟩)
section
variable {P : Program} {w : World} {K : PySem.W.Frag} {mg : Str → Option Value} {base : Heap} {k : Nat}
theorem cal_has_failed (T : Tx K mg w) (k : Nat) : Cal P w K mg base "has_failed" (k + 1) (spF K (fun a : List Wish × Plan => [eWishes a.1, ePlan a.2]) (fun a => a.1.length = a.2.length ∧ a.1.length ≤ 1000) (fun a => .bool (hasFailed a.1 a.2))) :=
  cal_F d_has_failed T.g_has_failed T.f_has_failed sc_has_failed (fun _ _ _ _ _ _ us hl => match us, hl with | [_, _], _ => rfl) (fun _ => rfl) fun cdv A outer s H E Q a hr hp q => by
  obtain ⟨ws, pl⟩ := a
  obtain ⟨hl, hz⟩ := hp
  have hl : ws.length = pl.length := hl
  have hz : ws.length ≤ 1000 := hz
  refine sx_ret (d := .bool (hasFailed ws pl)) (DE.to (de_any (bs := (ws.zip pl).map fun q => q.1.must && PyData.eqv (eInts q.2.2) (.tuple [])) rfl rfl T.n_any
    (LE.to (le_lc (zf := true) (xs := ws.zip pl) (enc := fun q => .tuple [eWish q.1, eRow q.2]) (own := [("kind", 2), ("worths", 3), ("must", 4), ("needs", 5), ("same", 6), ("left", 7)]) (f := fun q => .bool (q.1.must && PyData.eqv (eInts q.2.2) (.tuple []))) (c := fun _ => true) rfl sc_has_failed.nd
      (by
        refine IE.to (ie_zs (as := ws.map eWish) (bs := pl.map eRow) ?_ ?_ (by rw [List.length_map, List.length_map, hl]) ?_ ?_) (prs2_zip _ _ _ _)
        · exact de_name 0 rfl
        · exact de_name 1 rfl
        · rfl
        · exact T.n_zip) (blk_ok (by kernel_rfl))
      (fun z hz => tu [2, 3, 4, 5, 6, 7] _ fun s0 H0 C cl fp => ⟨tg_tup rfl (tgs_cons (tg_tup (ds := [.str z.1.kind, eInts z.1.worths, .bool z.1.must, eNeed z.1.needs]) rfl (tgs_cons (tg_name 2 sc_has_failed.nd) (tgs_cons (tg_name 3 sc_has_failed.nd) (tgs_cons (tg_name 4 sc_has_failed.nd) (tgs_cons (tg_name 5 sc_has_failed.nd) tgs_nil)))))
        (tgs_cons (tg_tup (ds := [.str z.2.1, eInts z.2.2]) rfl (tgs_cons (tg_name 6 sc_has_failed.nd) (tgs_cons (tg_name 7 sc_has_failed.nd) tgs_nil))) tgs_nil)), rfl, fun _ => de_and (de_name 4 rfl) fun _ => de_one (de_cmp (opd_eq (by exact hr) (depth_ints64 _) depth_nil64) (de_name 7 rfl) (de_tup ae_nil))⟩) (small1000 (by rw [List.length_zip]; omega)))
      (by rw [List.filter_eq_self.mpr fun _ _ => rfl, List.map_map]; rfl))) ?_) fun v H1 x t => q v H1 x t
  unfold hasFailed
  rw [List.any_map]
  congr 2
  funext z
  simp only [Function.comp, eqv_ints_nil]
  rfl
theorem kw_wished (T : Tx K mg w) (k : Nat) : KwOk P w K mg base d_wished "wished" P_wished (k + 4) (spP K (fun a : End × List Wish × Int => [eEnd a.1, eWishes a.2.1, .int a.2.2]) (fun a => WsOk a.2.1) (fun a e' ls => e' = (wished a.1 a.2.1 a.2.2).1 ∧ ls = (wished a.1 a.2.1 a.2.2).2)) :=
  kwok_P d_wished T.g_wished T.f_wished sc_wished (fun _ => rfl) fun cdv A outer s H E Q a hr hp q => by
  obtain ⟨e, ws, tr⟩ := a
  have hws : WsOk ws := hp
  refine sx_setM 3 sc_wished.nd (me_fn (cal_known_of T (k + 2)) hr e (ae_cons (de_name 0 rfl) ae_nil) trivial) fun p H1 hp1 x1 hK => ?_
  have hK : Knw K H1 p e := hK
  refine sx_dput (T' := partsOf { e with wishes := ws }) hr (oe_name 3 rfl) de_str hK (de_name 1 rfl) (up_wishes e ws) (by show 15 < 1000; decide) fun H2 c2 hK2 => ?_
  have hK2 : Knw K H2 p { e with wishes := ws } := hK2
  have x02 : Ex H H2 := Ex.ch_new hp1 x1 c2
  refine sx_if (k := PyData.eqv (.str (sStand e.stand)) (.str "closed")) (be_cmp (opd_eq hr (depth_str _) (depth_str _)) (de_known hr (oe_name 3 rfl) hK2) de_str) (fun hk H3 x3 => ?_) fun hk H3 x3 => sx_next ?_
  · rw [show PyData.eqv (.str (sStand e.stand)) (.str "closed") = decide (e.stand = .closed) from sStand_eq e.stand .closed] at hk
    have et : wished e ws tr = (asEnd { e with wishes := ws }, []) := by unfold wished; rw [if_pos (of_decide_eq_true hk)]
    exact sx_retPL (de_kd (cal_as_end T (k + 2)) hr ({ e with wishes := ws } : End) (ak_obj (oe_name 3 rfl) ak_nil) trivial (hK2.mono x3)) (le_lst ae_nil) fun Tt v l xs H4 x4 sq tv hl hx tx => q _ _ _ H4 ⟨rfl, rfl⟩ ((x02.trans x3).trans x4) (by rw [et]; exact ⟨Tt, v, l, xs, rfl, sq, tv, (x02.trans x3).free hl, hx, tx⟩)
  rw [show PyData.eqv (.str (sStand e.stand)) (.str "closed") = decide (e.stand = .closed) from sStand_eq e.stand .closed] at hk
  have hst : ¬ e.stand = .closed := of_decide_eq_false hk
  have hK3 := hK2.mono x3
  refine sx_dput (T' := partsOf { e with wishes := ws, plan := planOf ws e.refused }) hr (oe_name 3 rfl) de_str hK3 (d := ePlan (planOf ws e.refused)) (de_callK (calk_plan_of T (k + 1)) hr (ak_dat (de_name 1 rfl) ak_nil) (kw_cons (de_known hr (oe_name 3 rfl) hK3) kw_nil) (fun H4 vs zs x4 kv tz Q' q' => ⟨(ws, e.refused), (tps_of_ke (ds := [eWishes ws]) kv).append tz, hws, q'⟩))
    (up_plan { e with wishes := ws } (planOf ws e.refused)) (by show 15 < 1000; decide) fun H4 c4 hK4 => ?_
  have hK4 : Knw K H4 p { e with wishes := ws, plan := planOf ws e.refused } := hK4
  have x04 : Ex H H4 := Ex.ch_new hp1 x1 ((c2.trans x3.ch).trans c4)
  have plen : ws.length = (planOf ws e.refused).length := by unfold planOf; rw [List.length_map]
  refine sx_if (k := hasFailed ws (planOf ws e.refused)) (be_val (de_fn (cal_has_failed T (k + 2)) hr (ws, planOf ws e.refused) (ae_cons (de_name 1 rfl) (ae_cons (de_known hr (oe_name 3 rfl) hK4) ae_nil)) ⟨plen, hws.len⟩)) (fun hk2 H5 x5 => ?_) fun hk2 H5 x5 => sx_next ?_
  · have et : wished e ws tr = (asEnd (shutE { e with wishes := ws, plan := planOf ws e.refused } "failed"), [writ e .bye 0 []]) := by unfold wished; rw [if_neg hst, if_pos hk2]
    refine sx_km 4 sc_wished.nd (ge_km (cal_shut T (k + 1)) hr (({ e with wishes := ws, plan := planOf ws e.refused } : End), ("failed" : Str)) (ak_obj (oe_name 3 rfl) (ak_dat de_str ak_nil)) (by exact trivial) (by exact hK4.mono x5)) fun e' ls l xs H6 hpost c6 hK6 hl hx tx => ?_
    obtain ⟨rfl, rfl⟩ := hpost
    have x06 : Ex H H6 := Ex.ch_new hp1 x1 (((c2.trans x3.ch).trans c4).trans (x5.ch.trans c6))
    exact sx_retP (de_kd (cal_as_end T (k + 2)) hr _ (ak_obj (oe_name 3 rfl) ak_nil) trivial hK6) (oe_name 4 rfl) fun Tt v H7 x7 sq tv => q _ _ _ H7 ⟨rfl, rfl⟩ (x06.trans x7) (by rw [et]; exact ⟨Tt, v, l, xs, rfl, sq, tv, (x04.trans x5).free hl, x7 _ _ hx, tx.mono x7.xt⟩)
  · have et : wished e ws tr = (asEnd (wishedE e ws tr), [askLet (wishedE e ws tr)]) := by unfold wished; rw [if_neg hst, if_neg (by rw [hk2]; exact Bool.false_ne_true)]
    have hK5 := hK4.mono x5
    refine sx_update (T' := partsOf (wishedE e ws tr)) (oe_name 3 rfl) hK5 (me_disp (pd_cons (de_bin opd_add (de_known hr (oe_name 3 rfl) hK5) de_int) (pd_cons de_non (pd_cons (de_name 2 rfl) pd_nil)))) (up_wish3 { e with wishes := ws, plan := planOf ws e.refused } (e.number + 1) tr) (by show 18 ≤ 1000; decide) fun H6 c6 hK6 => ?_
    have hK6 : Knw K H6 p (wishedE e ws tr) := hK6
    have x06 : Ex H H6 := Ex.ch_new hp1 x1 (((c2.trans x3.ch).trans c4).trans (x5.ch.trans c6))
    exact sx_retPL (de_kd (cal_as_end T (k + 2)) hr (wishedE e ws tr) (ak_obj (oe_name 3 rfl) ak_nil) trivial hK6) (le_single (de_kd (cal_ask_written T (k + 1)) hr (wishedE e ws tr) (ak_obj (oe_name 3 rfl) ak_nil) hws.len hK6)) fun Tt v l xs H7 x7 sq tv hl hx tx => q _ _ _ H7 ⟨rfl, rfl⟩ (x06.trans x7) (by rw [et]; exact ⟨Tt, v, l, xs, rfl, sq, tv, x06.free hl, hx, tx⟩)
end
end CW
/-! part CwStar -/
set_option maxHeartbeats 4000000
set_option maxRecDepth 100000
namespace CW
open PySem PySem.Spec PyProof.Rows L2
/-- a, *b, .. = a tuple: what stands at the star goes into a new list -/
def gStar (K : PySem.W.Frag) (n i : Nat) (t : TGs) : TG := fun v σ H Q => ∃ a xs, v = .ref a ∧ SqT K H a xs ∧ n ≤ xs.length + 1 ∧ ∀ D, H D = none →
  t (xs.take i ++ [.ref D] ++ (xs.drop i).drop (xs.length + 1 - n)) σ (upd H D (.lst ((xs.drop i).take (xs.length + 1 - n)))) Q
theorem vals_takeD {xs : List V} {us : List Value} (h : Vals xs us) : ∀ n, Vals (xs.take n) (us.take n) := by
  induction h with
  | nil => intro n; simp; exact .nil
  | cons a b ih => intro n; cases n with
    | zero => exact .nil
    | succ n => exact .cons a (ih n)
theorem vals_dropD {xs : List V} {us : List Value} (h : Vals xs us) : ∀ n, Vals (xs.drop n) (us.drop n) := by
  induction h with
  | nil => intro n; simp; exact .nil
  | cons a b ih => intro n; cases n with
    | zero => exact .cons a b
    | succ n => exact ih n
theorem vals_catD {xs ys : List V} {us ws : List Value} (h : Vals xs us) (g : Vals ys ws) : Vals (xs ++ ys) (us ++ ws) := by
  induction h with
  | nil => exact g
  | cons a b ih => exact .cons a ih
theorem pg_star {X : Cx} {pos : Pos} {es es' : List Expr} {k : Nat} {t : TGs} {n i : Nat} (hc : X.calm = true) (h : PGs X es' t)
    (hE : (assignEach es X.env).map (·.2) = (assignEach es' X.env).map (·.2) := by rfl)
    (hn : (assignEach es X.env).length = n := by rfl) (hst : (assignEach es X.env).findIdx? (·.1) = some i := by rfl) (hi : i < n := by decide) : PG X (.Tuple es k pos) (gStar X.K n i t) := by
  refine ⟨fun pins s σ H v u Q I r hw => ?_⟩
  obtain ⟨a, xs, e1, hq, hl, hw⟩ := hw
  subst e1
  cases r
  obtain ⟨its, rv, ht, hz⟩ := I.tuple hq
  have hxl : xs.length = its.length := rv.length
  have hlt : a ≠ s.heap.objs.size := by obtain ⟨o, ho, _⟩ := ht; exact Nat.ne_of_lt (Heap.lt_size ho)
  have hh := I.ok.hd hc
  rw [assign_Tuple]
  refine wpAny_bind (wpAny_standAt ?_)
  unfold unpack
  rw [hn, hst]
  refine wpAny_bind (wpAny_holding ?_)
  unfold unpackItems
  refine wpAny_bind ?_
  unfold notIterableAtAll
  refine wpAny_bind (wpAny_specialOf ht.typeIs slot_tuple_iter.lookup ?_)
  refine wpAny_pure ?_
  simp only [Bool.false_eq_true, if_false]
  refine wpAny_bind (wpAny_holding (iter_tuple ht ?_))
  refine wpAny_bind (wpAny_holding (draw_tuple hlt i 0 _ _ ⟨_, Heap.get?_push_size _ rfl, rfl, rfl⟩ (ht.push _) (by simp only [List.size_toArray]; omega) fun h₁ hit₁ hs₁ => ?_))
  have hl₁ : IsTup h₁ a its.toArray := (ht.push _).extBut hs₁.extBut hlt
  rw [Nat.zero_add] at hit₁
  have hit₁' := hit₁
  obtain ⟨oi, hoi, _⟩ := hit₁'
  have hl₁' := hl₁
  obtain ⟨ol, hol, _⟩ := hl₁'
  rw [List.drop_zero]
  simp only [List.toList_toArray]
  have hfl : (its.take i).length = i := by rw [List.length_take]; omega
  rw [if_neg (show ¬ ((its.take i).length < i) by rw [hfl]; omega)]
  refine wpAny_bind (wpAny_holding (PySem.W.kun_collect (s := { s with heap := h₁ }) (T := "tuple_iterator") (.inr (.inr (.inr rfl))) (PySem.Walks.tuple (A := X.A.in1) hh s.heap.objs.size a hlt its.toArray) (fun j u st => st.1.typeIs) (k := i) (by simp only [List.size_toArray]; omega) ⟨hit₁, hl₁⟩ (Heap.lt_size hoi) (Heap.lt_size hol) (fun h₂ tk hk => ?_) (by simp only [List.size_toArray]; omega)))
  simp only [List.toList_toArray]
  have hrl : (its.drop i).length = its.length - i := by rw [List.length_drop]
  have hmid : (its.drop i).length - (n - 1 - i) = xs.length + 1 - n := by rw [hrl]; omega
  rw [if_neg (by rw [hrl]; omega)]
  show wpAny _ _ (newList ((its.drop i).take ((its.drop i).length - (n - 1 - i))) >>= fun d => pure (its.take i ++ [d] ++ (its.drop i).drop ((its.drop i).length - (n - 1 - i)))) _ _ _
  rw [hmid]
  have he : ∀ b o, s.heap.get? b = some o → h₂.get? b = some o := fun b o e => hk b o (Nat.ne_of_lt (Heap.lt_size e)) (hs₁.extBut b o (Nat.ne_of_lt (Heap.lt_size e)) (Heap.get?_push_of_some _ e))
  have I2 : Inv X pins σ H { s with heap := h₂, toks := tk } := I.kept he
  have hm : Vals ((xs.drop i).take (xs.length + 1 - n)) ((its.drop i).take (xs.length + 1 - n)) := vals_takeD (vals_dropD rv _) _
  have hml : ((its.drop i).take (xs.length + 1 - n)).length ≤ sizeLine := by rw [List.length_take, hrl]; omega
  refine wpAny_bind (wpAny_newList (wpAny_pure ?_) hml)
  have I3 := I2.laid (a := h₂.objs.size) (o := .lst ((xs.drop i).take (xs.length + 1 - n))) (t' := tk) (h' := h₂.push { cls := .type "list", data := .seq ((its.drop i).take (xs.length + 1 - n)).toArray }) (fun b o e => Heap.get?_push_of_some _ e) (Nat.le_refl _)
    ⟨by rw [hm.length]; exact hml, _, _, hm, Heap.get?_push_size _ rfl⟩
  rw [hE]
  exact h.run pins _ σ _ _ _ Q I3 (vals_catD (vals_catD (vals_takeD rv i) (.cons (show L2.RelV (.ref h₂.objs.size) (.ref h₂.objs.size) from rfl) .nil)) (vals_dropD (vals_dropD rv i) _)) (hw _ (I2.hok.fresh (Nat.le_refl _)))
/-! ### names that take data and objects -/
def TgsK (X : Cx) (ts : List Expr) (ks ρ ρ' : List Kd) : Prop := ∀ σ H vs (Q : L2.St → Hp → Prop), Sl X.K H σ ρ → KE' X.K H vs ks → (∀ σ', Sl X.K H σ' ρ' → Q σ' H) → RGs X ts vs σ H Q
section
variable {X : Cx} {e : Expr} {ts es : List Expr} {ρ ρ' : List Kd} {kd : Kd} {ks : List Kd} {pos p : Pos} {x : Str} {sts : List Stmt} {D : Ends} {H : Hp}
theorem tgk_nil : TgsK X [] [] ρ ρ := fun σ H vs Q s t k => by
  cases vs with
  | nil => exact rgs_of pgs_nil ⟨rfl, k σ s⟩
  | cons _ _ => exact t.elim
theorem tgk_cons (i : Nat) (hN : X.N.Nodup) (t : TgsK X ts ks (ρ.set i kd) ρ') (hi : X.N[i]? = some x := by rfl) (hx : Loc X.env.scope x := by first | exact Or.inl rfl | exact Or.inr rfl) (hf : X.fn x = true ∨ X.env.scope.names.lookup x = some .local := by first | exact .inl rfl | exact .inr rfl) :
    TgsK X (.Name x p :: ts) (kd :: ks) ρ ρ' := fun σ H vs Q s tp k => by
  cases vs with
  | nil => exact tp.elim
  | cons v vs => exact rgs_of (pgs_cons (pg_name hN hi hx hf) pgs_rgs rfl) ⟨_, _, rfl, t _ H _ Q (s.set tp.1) tp.2 k⟩
theorem ke_dats {K : PySem.W.Frag} {H : Hp} : ∀ {vs : List V} {ds : List PyData}, Tps K H vs ds → KE' K H vs (ds.map .dat)
  | _, _, .nil => trivial
  | _, _, .cons a b => ⟨⟨_, rfl, a⟩, ke_dats b⟩
theorem ke_app {K : PySem.W.Frag} {H : Hp} : ∀ {vs ws : List V} {ks ls : List Kd}, KE' K H vs ks → KE' K H ws ls → KE' K H (vs ++ ws) (ks ++ ls)
  | [], _, [], _, _, g => g
  | _ :: _, _, _ :: _, _, h, g => ⟨h.1, ke_app h.2 g⟩
  | [], _, _ :: _, _, h, _ => h.elim
  | _ :: _, _, [], _, h, _ => h.elim
theorem Tps.split {K : PySem.W.Frag} {H : Hp} : ∀ {ds es : List PyData} {vs : List V}, Tps K H vs (ds ++ es) → Tps K H (vs.take ds.length) ds ∧ Tps K H (vs.drop ds.length) es
  | [], es, vs, h => by simpa using ⟨.nil, h⟩
  | d :: ds, es, _, .cons a b => by
    obtain ⟨h1, h2⟩ := Tps.split (ds := ds) b
    exact ⟨.cons a h1, h2⟩
/-- a, *b, c = e, where e is a tuple: fs at the names ahead of the star, ms at the star (a new list), ls at the names after -/
theorem sx_star {ts ts' : List Expr} {k : Nat} {p1 : Pos} (fs ms ls : List PyData) (hc : X.calm = true) (he : DE X e ρ H (.tuple (fs ++ ms ++ ls)))
    (h : ∀ D' xs H1, H D' = none → Ex H H1 → H1 D' = some (.lst xs) → Tps X.K H1 xs ms → ∃ ρ', TgsK X ts' (fs.map .dat ++ [.obj D'] ++ ls.map .dat) ρ ρ' ∧ SX X sts ρ' H1 D)
    (hE : (assignEach ts X.env).map (·.2) = (assignEach ts' X.env).map (·.2) := by rfl)
    (hn : (assignEach ts X.env).length = fs.length + 1 + ls.length := by rfl) (hst : (assignEach ts X.env).findIdx? (·.1) = some fs.length := by rfl)
    (hs : swapsWithSole [.Tuple ts k p1] e pos.line X.env = pure false := by rfl) (hw : swappedStores [.Tuple ts k p1] e X.env = pure none := by rfl)
    (h1 : (assignEach [.Tuple ts k p1] X.env).map (·.2) = [assign (.Tuple ts k p1) X.env] := by rfl) : SX X (.Assign [.Tuple ts k p1] e pos :: sts) ρ H D :=
  sx_cons (ps_asg pe_re (pg_star hc pgs_rgs hE hn hst (by omega)) hs hw h1) fun σ s => he σ H s (Ex.refl _) _ fun v H1 x t => by
    obtain ⟨a, xs, rfl, sq, u⟩ := t.z.tuple_inv
    obtain ⟨u1, u3⟩ := Tps.split (ds := fs ++ ms) u
    obtain ⟨u1, u2⟩ := Tps.split (ds := fs) u1
    have hl := u.len
    simp only [List.length_append] at hl u1 u2 u3
    refine ⟨a, xs, rfl, sq, by omega, fun D' hD => ?_⟩
    have xD : Ex H1 (upd H1 D' (.lst ((xs.drop fs.length).take (xs.length + 1 - (fs.length + 1 + ls.length))))) := Ex.new hD
    rw [List.take_take, Nat.min_eq_left (by omega)] at u1
    rw [List.drop_take, show fs.length + ms.length - fs.length = ms.length by omega] at u2
    have e1 : xs.length + 1 - (fs.length + 1 + ls.length) = ms.length := by omega
    rw [e1] at xD ⊢
    rw [List.drop_drop]
    obtain ⟨ρ', tg, sx⟩ := h D' _ _ (x.free hD) (x.trans xD) (by simp [upd]) (u2.mono xD.xt)
    exact tg σ _ _ _ ((s.mono x.xt).mono xD.xt) (ke_app (ke_app (ke_dats (u1.mono xD.xt)) ⟨rfl, trivial⟩) (ke_dats (u3.mono xD.xt))) fun σ' s' => sx σ' s'
end
end CW
/-! part CwW14 -/
set_option maxRecDepth 100000
set_option maxHeartbeats 4000000
/-! The walk: heard_closed, heard_ask. -/
namespace CW
open PySem PySem.Spec PyProof.Rows L2
section
variable {P : Program} {w : World} {K : PySem.W.Frag} {mg : Str → Option Value} {base : Heap} {k : Nat}
theorem cal_heard_closed (T : Tx K mg w) (k : Nat) : Cal P w K mg base "heard_closed" (k + 2) (spKM K (fun a : End × Letter => [eLet a.2]) (fun _ => True) (fun a => a.1) (fun a e' ls => e' = a.1 ∧ ls = heardClosed a.1 a.2)) :=
  cal_KM d_heard_closed T.g_heard_closed T.f_heard_closed sc_heard_closed (fun _ _ _ _ _ _ us hl => match us, hl with | [_, _], _ => rfl) (fun _ => rfl) fun cdv A outer s H E Q a p hr hp hK q => by
  obtain ⟨e, l⟩ := a
  have hK : Knw K H p e := hK
  refine sx_star [.str l.who, .str (sWord l.word), .int l.mine, .int l.yours] [.int l.number, ePrs l.pairs] [] rfl (de_name 1 rfl) fun D' xs H1 hD x1 hx tx => ⟨_, tgk_cons 2 sc_heard_closed.nd (tgk_cons 3 sc_heard_closed.nd (tgk_cons 4 sc_heard_closed.nd (tgk_cons 5 sc_heard_closed.nd (tgk_cons 6 sc_heard_closed.nd tgk_nil)))), ?_⟩
  have hK1 := hK.mono x1
  refine sx_if (be_w (we_or (be_cmp (opd_eq hr (depth_int _) (depth_int _)) (de_name 5 rfl) de_int) fun _ => we_or (be_cmp (opd_ne hr (depth_int _) (depth_int _)) (de_name 5 rfl) (de_known hr (oe_name 0 rfl) hK1)) fun _ => we_or1 (be_cmp (opd_eq hr (depth_str _) (depth_str _)) (de_name 3 rfl) de_str)))
    (fun hk H2 x2 => sx_retL (le_lst ae_nil) fun p2 ys H3 hp2 x3 hl t => q _ [] p2 ys H3 ⟨rfl, ?_⟩ ((x1.trans x2).trans x3).ch (hK.mono ((x1.trans x2).trans x3)) ((x1.trans x2).free hp2) hl t)
    fun hk H2 x2 => sx_next (sx_retL (le_single (de_fn (cal_letter_back T k) hr (l, e.name) (ae_cons (de_name 1 rfl) (ae_cons (de_known hr (oe_name 0 rfl) (hK1.mono x2)) ae_nil)) trivial)) fun p2 ys H3 hp2 x3 hl t => q _ [⟨e.name, .bye, l.yours, l.mine, 0, []⟩] p2 ys H3 ⟨rfl, ?_⟩ ((x1.trans x2).trans x3).ch (hK.mono ((x1.trans x2).trans x3)) ((x1.trans x2).free hp2) hl t)
  · rw [eqv_int, eqv_int, show PyData.eqv (.str (sWord l.word)) (.str "bye") = decide (l.word = .bye) from sWord_eq l.word .bye] at hk
    have : l.yours = 0 ∨ l.yours ≠ e.turn ∨ l.word = .bye := by simpa using hk
    show [] = heardClosed e l
    unfold heardClosed
    rw [if_pos this]
  · rw [eqv_int, eqv_int, show PyData.eqv (.str (sWord l.word)) (.str "bye") = decide (l.word = .bye) from sWord_eq l.word .bye] at hk
    have : ¬ (l.yours = 0 ∨ l.yours ≠ e.turn ∨ l.word = .bye) := by simpa using hk
    show _ = heardClosed e l
    unfold heardClosed
    rw [if_neg this]
theorem ask_upd (e : End) (n : Int) (t : Option (List Pr)) : ∀ j, (partsOf { e with heard := n, took := t }).lookup j = (([("heard", PyData.int n), ("took", eOPrs t)] : List (Str × PyData)).lookup j).or ((partsOf e).lookup j) :=
  tabs_eq (parts_keys _) (parts_keys _) (by kernel_rfl) (parts_all ⟨rfl, rfl, rfl, rfl, rfl, rfl, rfl, rfl, rfl, rfl, rfl, rfl, rfl, rfl, rfl⟩)
theorem up_last (e : End) (l : Option Letter) : ∀ j, (partsOf { e with last := l }).lookup j = if j = "last" then some (eOLet l) else (partsOf e).lookup j :=
  tabs_put (tabs_eq (parts_keys _) (parts_keys _) (by kernel_rfl) (parts_all ⟨rfl, rfl, rfl, rfl, rfl, rfl, rfl, rfl, rfl, rfl, rfl, rfl, rfl, rfl, rfl⟩))
structure AskPre (e : End) (l : Letter) (b : Plan) : Prop where
  ans : AnsPre b l.pairs
  last : l.number = e.heard → e.last.isSome = true
theorem cal_heard_ask (T : Tx K mg w) (k : Nat) : Cal P w K mg base "heard_ask" (k + 2) (spKM K (fun a : End × Letter × Plan => [eLet a.2.1, ePlan a.2.2]) (fun a => AskPre a.1 a.2.1 a.2.2) (fun a => a.1) (fun a e' ls => e' = (heardAsk a.1 a.2.1 a.2.2).1 ∧ ls = (heardAsk a.1 a.2.1 a.2.2).2)) :=
  cal_KM d_heard_ask T.g_heard_ask T.f_heard_ask sc_heard_ask (fun _ _ _ _ _ _ us hl => match us, hl with | [_, _, _], _ => rfl) (fun _ => rfl) fun cdv A outer s H E Q a p hr hp hK q => by
  obtain ⟨e, l, b⟩ := a
  have hK : Knw K H p e := hK
  have hp : AskPre e l b := hp
  refine sx_star [] [.str l.who, .str (sWord l.word), .int l.mine, .int l.yours] [.int l.number, ePrs l.pairs] rfl (de_name 1 rfl) fun D' xs H1 hD x1 hx tx => ⟨_, tgk_cons 5 sc_heard_ask.nd (tgk_cons 3 sc_heard_ask.nd (tgk_cons 4 sc_heard_ask.nd tgk_nil)), ?_⟩
  have hK1 := hK.mono x1
  refine sx_if (be_cmp opd_lt (de_name 3 rfl) (de_known hr (oe_name 0 rfl) hK1)) (fun hk H2 x2 => sx_retL (le_lst ae_nil) fun p2 ys H3 hp2 x3 hl t => q _ [] p2 ys H3 ?_ ((x1.trans x2).trans x3).ch (hK.mono ((x1.trans x2).trans x3)) ((x1.trans x2).free hp2) hl t) fun hk H2 x2 => sx_next ?_
  · have hlt : l.number < e.heard := of_decide_eq_true hk
    show _ = (heardAsk e l b).1 ∧ _ = (heardAsk e l b).2
    unfold heardAsk
    rw [if_pos hlt]
    exact ⟨rfl, rfl⟩
  have hnl : ¬ l.number < e.heard := of_decide_eq_false hk
  have hK2 := hK1.mono x2
  refine sx_if (be_cmp opd_gt (de_name 3 rfl) (de_known hr (oe_name 0 rfl) hK2)) (fun hk2 H3 x3 => ?_) fun hk2 H3 x3 => sx_next ?_
  · have hgt : l.number > e.heard := of_decide_eq_true hk2
    refine sx_unpack (de_fn (cal_answer T k) hr (b, l.pairs) (ae_cons (de_name 2 rfl) (ae_cons (de_name 4 rfl) ae_nil)) hp.ans) (tg_tup (ds := [.str (sWord (answer b l.pairs).1), ePrs (answer b l.pairs).2]) rfl (tgs_cons (tg_name 6 sc_heard_ask.nd) (tgs_cons (tg_name 7 sc_heard_ask.nd) tgs_nil))) fun H4 x4 => ?_
    have hK4 := (hK2.mono x3).mono x4
    refine sx_update (T' := partsOf ({ e with heard := l.number, took := if (answer b l.pairs).1 = .yes then some l.pairs else none } : End)) (oe_name 0 rfl) hK4 (me_disp (T := [("heard", .int l.number), ("took", eOPrs (if (answer b l.pairs).1 = .yes then some l.pairs else none))]) (pd_cons (de_name 3 rfl) (pd_cons (de_if (be_cmp (opd_eq hr (depth_str _) (depth_str _)) (de_name 6 rfl) de_str) (fun h => DE.to (de_name 4 rfl) ?_) fun h => DE.to de_non ?_) pd_nil))) (ask_upd e _ _) (by show 17 ≤ 1000; decide) fun H5 c5 hK5 => ?_
    · rw [show PyData.eqv (.str (sWord (answer b l.pairs).1)) (.str "yes") = decide ((answer b l.pairs).1 = .yes) from sWord_eq _ .yes] at h
      rw [if_pos (of_decide_eq_true h)]
      rfl
    · rw [show PyData.eqv (.str (sWord (answer b l.pairs).1)) (.str "yes") = decide ((answer b l.pairs).1 = .yes) from sWord_eq _ .yes] at h
      rw [if_neg (of_decide_eq_false h)]
      rfl
    have hK5 : Knw K H5 p ({ e with heard := l.number, took := if (answer b l.pairs).1 = .yes then some l.pairs else none } : End) := hK5
    refine sx_dput (T' := partsOf (askHeard e l b)) hr (oe_name 0 rfl) de_str hK5 (de_written4 (wd := (answer b l.pairs).1) T hr (oe_name 0 rfl) hK5 (de_name 6 rfl) (de_name 3 rfl) (de_name 7 rfl)) (up_last ({ e with heard := l.number, took := if (answer b l.pairs).1 = .yes then some l.pairs else none } : End) _) (by show 15 < 1000; decide) fun H6 c6 hK6 => sx_next ?_
    have hK6 : Knw K H6 p (askHeard e l b) := hK6
    have c06 : Ch p H H6 := ((((x1.trans x2).trans x3).trans x4).ch.trans c5).trans c6
    refine sx_retL (ds := [eLet (writ e (answer b l.pairs).1 l.number (answer b l.pairs).2)]) (le_single (de_known hr (oe_name 0 rfl) hK6)) fun p2 ys H7 hp2 x7 hl t => q (askHeard e l b) [writ e (answer b l.pairs).1 l.number (answer b l.pairs).2] p2 ys H7 ?_ (c06.trans x7.ch) (hK6.mono x7) (ch_free c06 hK6 hp2) hl t
    show _ = (heardAsk e l b).1 ∧ _ = (heardAsk e l b).2
    unfold heardAsk
    rw [if_neg hnl, if_pos hgt]
    exact ⟨rfl, rfl⟩
  · have hngt : ¬ l.number > e.heard := of_decide_eq_false hk2
    have he : l.number = e.heard := by omega
    obtain ⟨la, hla⟩ := Option.isSome_iff_exists.mp (hp.last he)
    have hK3 := hK2.mono x3
    refine sx_retL (ds := [eLet la]) (le_single (DE.to (de_known hr (oe_name 0 rfl) hK3) ?_)) fun p2 ys H7 hp2 x7 hl t => q e [la] p2 ys H7 ?_ ((((x1.trans x2).trans x3).trans x7).ch) (hK3.mono x7) (((x1.trans x2).trans x3).free hp2) hl t
    · show eOLet e.last = eLet la
      rw [hla]
      rfl
    · show _ = (heardAsk e l b).1 ∧ _ = (heardAsk e l b).2
      unfold heardAsk
      rw [if_neg hnl, if_neg hngt, hla]
      exact ⟨rfl, rfl⟩
end
end CW
/-! part CwSet -/
set_option maxRecDepth 100000
set_option maxHeartbeats 4000000
/-! Sets of flat tuples of mixed items (texts and whole numbers), fewer than 64. The table's own laws (TabOk, go_spec, relaid_ok) are the library's HandS.TupSets; the
road through the search, the adding, the laying anew is turned here from whole numbers to mixed items. -/
namespace CW
open PySem PySem.Spec PyProof.Rows L2
/-- the mixed tuple at b is g -/
abbrev MT (P : Program) (w : World) (h : Heap) (g : List Key) (b : Addr) : Prop := IsTupleKey (mixKind P w) h g b
/-- its hash -/
abbrev mh (P : Program) (w : World) (g : List Key) : Int := tupleKeyHash (mixKind P w) g
section
variable {P : Program} {w : World} {A : Around} {E : Value → Shared → Prop} {s : Shared}
theorem mixed_items {g : List Key} {vs : List Value} (h : ItemsAre (mixKind P w) g vs) : ∀ v ∈ vs, (∀ n, ofAClassStatement n v = pure false) ∧ ∀ n, ∃ k, hashByValue n v = pure k := by
  induction h with
  | nil => exact fun v m => (nomatch m)
  | @cons z u zs us hz _ ih =>
    intro v m
    cases m with
    | tail _ m => exact ih v m
    | head _ =>
      obtain ⟨i, t, _, rfl⟩ | ⟨i, t, _, rfl⟩ := keyIs_shape hz
      · exact ⟨fun n => by cases n <;> rfl, fun n => ⟨true, by cases n <;> rfl⟩⟩
      · exact ⟨fun n => by cases n <;> rfl, fun n => ⟨false, by cases n <;> rfl⟩⟩
/-- a loop that asks each item one thing, and finds nothing -/
theorem quiet_loop {β : Type} {b : β} {items : List Value} {f : Value → β → Sem (ForInStep β)} {Q : β → Shared → Prop}
    (hf : ∀ v ∈ items, f v b = pure (.yield b)) (h : Q b s) : wpAny (model P w) A (forIn items b f) Q E s := by
  induction items with
  | nil => exact wpAny_pure h
  | cons v vs ih =>
    rw [List.forIn_cons, hf v List.mem_cons_self]
    exact wpAny_bind (wpAny_pure (ih fun u m => hf u (List.mem_cons_of_mem _ m)))
theorem mt_class {g : List Key} {b : Addr} {Q : Bool → Shared → Prop} (hk : MT P w s.heap g b) (h : Q false s) : wpAny (model P w) A (ofAClassStatement 8 (.ref b)) Q E s := by
  have hT := hk.typeIs
  obtain ⟨o, items, n, ho, _, hd, hi⟩ := hk
  unfold ofAClassStatement
  refine wpAny_bind (wpAny_typeOf hT ?_)
  show wpAny _ _ (seqItems? (.ref b) >>= _) _ _ s
  refine wpAny_bind (wpAny_seqItems ho hd (wpAny_bind ?_))
  show wpAny _ _ (forIn items _ _) _ _ s
  rw [← Array.forIn_toList]
  refine quiet_loop (fun v m => ?_) ?_
  · rw [(mixed_items hi v m).1]
    rfl
  · exact wpAny_pure h
/-- whether its hash is known by value, either way -/
theorem mt_byValue {g : List Key} {b : Addr} {Q : Bool → Shared → Prop} (hk : MT P w s.heap g b) (h : ∀ k, Q k s) : wpAny (model P w) A (hashByValue 8 (.ref b)) Q E s := by
  have hT := hk.typeIs
  obtain ⟨o, items, n, ho, _, hd, hi⟩ := hk
  unfold hashByValue
  refine wpAny_bind (wpAny_specialOf hT F.slot_tuple_hash.lookup ?_)
  show wpAny _ _ (seqItems? (.ref b) >>= _) _ _ s
  refine wpAny_bind (wpAny_seqItems ho hd (wpAny_bind ?_))
  show wpAny _ _ (forIn items _ _) _ _ s
  rw [← Array.forIn_toList]
  refine wpAny_forIn_list _ (fun rest r s' => s' = s ∧ ∀ v ∈ rest, ∀ n, ∃ k, hashByValue n v = pure k) _ ?_ ?_ _ _ ⟨rfl, fun v m => (mixed_items hi v m).2⟩
  · rintro v rest r s' ⟨rfl, all⟩
    obtain ⟨k, e⟩ := all v List.mem_cons_self 7
    rw [e]
    refine wpAny_bind (wpAny_pure ?_)
    cases k with
    | true => exact wpAny_pure ⟨rfl, fun u m => all u (.tail _ m)⟩
    | false => exact wpAny_pure (wpAny_pure (h false))
  · rintro ⟨r1, r2⟩ s' ⟨rfl, _⟩
    cases r1 with
    | none => exact wpAny_pure (h true)
    | some k => exact wpAny_pure (h k)
/-- comparing mixed tuples shows nothing to the program -/
theorem mt_unseen {g : List Key} {b : Addr} {Q : Bool → Shared → Prop} (hk : MT P w s.heap g b) {ys : List Value} (hy : ∀ y ∈ ys, ∃ z c, y = Value.ref c ∧ MT P w s.heap z c) (h : Q false s) :
    wpAny (model P w) A (searchCouldBeSeen (.ref b) ys) Q E s := by
  unfold searchCouldBeSeen
  refine wpAny_bind (wpAny_forIn_list _ (fun rest r s' => r.1 = none ∧ s' = s ∧ ∀ y ∈ rest, ∃ z c, y = Value.ref c ∧ MT P w s.heap z c) _ ?_ ?_ _ _ ⟨rfl, rfl, hy⟩)
  · rintro v rest r s' ⟨_, rfl, all⟩
    obtain ⟨z, c, rfl, hc⟩ := all v List.mem_cons_self
    have all2 : ∀ y ∈ rest, ∃ z c, y = Value.ref c ∧ MT P w s'.heap z c := fun u m => all u (.tail _ m)
    dsimp only
    by_cases hv : (b == c || (carriedByValue (.ref b) && carriedByValue (.ref c))) = true
    · exact wp_if_pos hv (wpAny_pure ⟨rfl, rfl, all2⟩)
    · refine wp_if_neg hv (wpAny_bind (wpAny_eqIsQuiet_tuple hk ?_))
      refine wpAny_bind (wpAny_eqIsQuiet_tuple hc ?_)
      refine wpAny_bind (mt_class hk ?_)
      exact wpAny_bind (mt_class hc (wpAny_pure ⟨rfl, rfl, all2⟩))
  · rintro ⟨r1, r2⟩ s' ⟨e, rfl, _⟩
    cases e
    exact wpAny_pure h
end
/-! ### the table's way -/
abbrev wst (m : Nat) (h : Int) (c : Nat) : SetTable.Probe := nth m (runAt m (SetTable.bits h % (m + 1)) (SetTable.bits h)) c
theorem wst_add (m : Nat) (h : Int) (c q : Nat) : nth m (wst m h c) q = wst m h (c + q) := (nth_add m c _ q).symm
theorem nth_clean (m : Nat) : ∀ (n : Nat) (p : SetTable.Probe), p.dummy = none → (nth m p n).dummy = none
  | 0, _, e => e
  | n + 1, p, e => nth_clean m n (adv m p) (by unfold adv; split <;> exact e)
theorem probe_ans {t : SetTable} {hs : List Int} (T : TabOk t hs) (f : Nat → Int) {h : Int} {K c : Nat} (hc : c ≤ K) (hKf : K < 10 * SetTable.turns t.mask) (hK : way t.mask h K ∉ t.place.toList) (hb : ∀ q, q < K → way t.mask h q ∈ t.place.toList) :
    (∃ q i, c ≤ q ∧ q < K ∧ t.place.toList[i]? = some (way t.mask h q) ∧ (∀ q' i', c ≤ q' → q' < q → t.place.toList[i']? = some (way t.mask h q') → f i' ≠ h) ∧ t.probe f h (wst t.mask h c) = some (.candidate (way t.mask h q) i (wst t.mask h (q + 1)))) ∨
    ((∀ q' i', c ≤ q' → q' < K → t.place.toList[i']? = some (way t.mask h q') → f i' ≠ h) ∧ t.probe f h (wst t.mask h c) = some (.empty (way t.mask h K) none)) := by
  have e1 : ∀ q, (nth t.mask (wst t.mask h c) q).j = way t.mask h (c + q) := fun q => congrArg SetTable.Probe.j (wst_add t.mask h c q)
  rcases go_spec t T.ris T.dm f h (10 * SetTable.turns t.mask) (K - c) (wst t.mask h c) (nth_clean _ _ _ rfl) (by omega) (fun q hq => by rw [e1]; exact hb _ (by omega)) (by rw [e1, show c + (K - c) = K by omega]; exact hK) with ⟨q, i, hq, hi, _, hno, e⟩ | ⟨hno, e⟩
  · left
    rw [e1] at hi e
    rw [wst_add] at e
    refine ⟨c + q, i, by omega, by omega, hi, fun q' i' a b hp => hno (q' - c) i' (by omega) ?_, e⟩
    rw [e1, show c + (q' - c) = q' by omega]
    exact hp
  · right
    rw [e1, show c + (K - c) = K by omega] at e
    refine ⟨fun q' i' a b hp => hno (q' - c) i' (by omega) ?_, e⟩
    rw [e1, show c + (q' - c) = q' by omega]
    exact hp
/-! ### the set of mixed tuples -/
abbrev MRow := Addr × List Key
def rowsM (P : Program) (w : World) (L : List MRow) : List (Int × Value) := L.map fun z => (mh P w z.2, Value.ref z.1)
structure SM (P : Program) (w : World) (h : Heap) (a : Addr) (L : List MRow) (es : Array (Int × Value)) (ep : Nat) (t : SetTable) : Prop where
  ob : ∃ o, h.get? a = some o ∧ o.ExactSet ∧ o.data = .set es ep t
  rows : es.toList = rowsM P w L
  tab : TabOk t (L.map fun z => mh P w z.2)
  nd : (L.map (·.2)).Nodup
  tup : ∀ z ∈ L, MT P w h z.2 z.1
  led : w.params.followText "set-order" = true ∨ t.led = true
  room : L.length * 5 < t.mask * 3
  few : L.length < 64
section
variable {P : Program} {w : World} {A : Around} {E : Value → Shared → Prop} {s : Shared} {a : Addr} {L : List MRow} {es : Array (Int × Value)} {ep : Nat} {t : SetTable}
theorem rowsM_size (e : es.toList = rowsM P w L) : es.size = L.length := by
  rw [← Array.length_toList, e, rowsM, List.length_map]
theorem rowsM_at (e : es.toList = rowsM P w L) {i : Nat} {z : MRow} (h : L[i]? = some z) : es[i]? = some (mh P w z.2, Value.ref z.1) := by
  rw [← Array.getElem?_toList, e, rowsM, List.getElem?_map, h]
  rfl
theorem SM.sz (R : SM P w s.heap a L es ep t) : t.place.size = L.length := by rw [R.tab.sz, List.length_map]
theorem fits_of {n : Nat} (h1 : t.dummies = #[]) (h2 : t.place.size = n) (h3 : n ≤ t.mask) : t.fits n = true := by
  unfold SetTable.fits SetTable.fill
  rw [h1, h2]
  simp only [beq_self_eq_true, Bool.true_and, decide_eq_true_eq]
  exact h3
theorem SM.fits (R : SM P w s.heap a L es ep t) : t.fits es.size = true := by
  have h3 := R.room
  exact fits_of R.tab.dm (by rw [R.sz, rowsM_size R.rows]) (by rw [rowsM_size R.rows]; omega)
theorem SM.gw (R : SM P w s.heap a L es ep t) : ¬ t.gaveWay = true := by
  unfold SetTable.gaveWay
  rw [mask_odd R.tab.mok]
  decide
theorem sm_from (R : SM P w s.heap a L es ep t) {x : Addr} {g : List Key} (hx : MT P w s.heap g x) (hu : A.units < cLine) {K : Nat} (hKf : K < 10 * SetTable.turns t.mask) (hK : way t.mask (mh P w g) K ∉ t.place.toList)
    (hb : ∀ c, c < K → way t.mask (mh P w g) c ∈ t.place.toList) {Q : SetFound → Shared → Prop} (yes : g ∈ L.map (·.2) → Q (.there none) s) (no : g ∉ L.map (·.2) → Q (.free (way t.mask (mh P w g) K) false) s) :
    ∀ (f c : Nat) (stand : Option SetTable.Probe), stand.getD (t.probeStart (mh P w g)) = wst t.mask (mh P w g) c → c ≤ K → K - c < f →
      (∀ (i : Nat) z, L[i]? = some z → z.2 = g → ∃ c', c ≤ c' ∧ c' < K ∧ t.place.toList[i]? = some (way t.mask (mh P w g) c')) → wpAny (model P w) A (setSearchFrom a (.ref x) (mh P w g) true f stand) Q E s := by
  intro f
  induction f with
  | zero => exact fun c stand _ _ z => absurd z (Nat.not_lt_zero _)
  | succ f ih =>
    intro c stand hst hc hf hre
    obtain ⟨o, ho, _, hd⟩ := R.ob
    have fAt : ∀ (i : Nat) z, L[i]? = some z → (es[i]?.map (·.1)).getD 0 = mh P w z.2 := fun i z hz => by rw [rowsM_at R.rows hz]; rfl
    rw [setSearchFrom_succ]
    refine wpAny_bind (wpAny_setState_of ho hd R.fits (wp_if_neg R.gw ?_))
    try refine wpAny_bind (wpAny_pure ?_)
    rw [hst]
    rcases probe_ans R.tab (fun i => (es[i]?.map (·.1)).getD 0) hc hKf hK hb with ⟨q, i, cq, qK, hi, hno, e⟩ | ⟨hno, e⟩
    · rw [e]
      dsimp only
      have hil : i < L.length := by
        have := (List.getElem?_eq_some_iff.mp hi).1
        rw [Array.length_toList, R.sz] at this
        exact this
      obtain ⟨z, hz⟩ : ∃ z, L[i]? = some z := ⟨_, List.getElem?_eq_getElem hil⟩
      have hmem : z ∈ L := List.mem_of_getElem? hz
      have rest : wpAny (model P w) A (searchRest a (.ref x) (mh P w g) true f es t (way t.mask (mh P w g) q) i (wst t.mask (mh P w g) (q + 1))) Q E s := by
        unfold searchRest
        rw [rowsM_at R.rows hz]
        refine wpAny_bind (wpAny_holding (wpAny_eqBool_tuple hu (R.tup z hmem) hx (wpAny_bind (wpAny_setState_of ho hd R.fits ?_))))
        by_cases hk : z.2 = g
        · exact wp_if_pos (by simp [hk]) (wpAny_pure (yes (List.mem_map.mpr ⟨z, hmem, hk⟩)))
        · refine wp_if_neg (by simp [hk]) ?_
          try refine wpAny_bind (wpAny_pure ?_)
          rw [sameMem]
          have hsl := slot_live R.tab.ris hi
          simp only [if_true, hsl, rowsM_at R.rows hz]
          refine wpAny_bind (wpAny_isSame_ref_self (wpAny_bind (wpAny_pure ?_)))
          refine wp_if_neg (by simp [hk]) (ih (q + 1) _ rfl (by omega) (by omega) fun i0 z0 h0 hk0 => ?_)
          obtain ⟨c', a1, a2, a3⟩ := hre i0 z0 h0 hk0
          refine ⟨c', ?_, a2, a3⟩
          rcases Nat.lt_trichotomy c' q with u | u | u
          · exact absurd ((fAt i0 z0 h0).trans (congrArg (mh P w) hk0)) (hno c' i0 a1 u a3)
          · subst u
            have s0 := slot_live R.tab.ris a3
            rw [hsl] at s0
            injection s0 with s0
            subst s0
            rw [hz] at h0
            injection h0 with h0
            exact absurd ((congrArg Prod.snd h0).trans hk0) hk
          · exact u
      by_cases hl : t.led = true
      · refine wp_if_neg (by simp [hl]) ?_
        try refine wpAny_bind (wpAny_pure ?_)
        exact rest
      · refine wp_if_pos (by simp [hl]) (wpAny_bind (mt_unseen hx (fun y hy => ?_) ?_))
        · obtain ⟨u, hu1, rfl⟩ := List.mem_map.mp hy
          have hu2 : u ∈ es.toList := by
            have : u ∈ es ∧ u.1 = mh P w g := by simpa using hu1
            simpa using this.1
          rw [R.rows] at hu2
          obtain ⟨z2, hz2, rfl⟩ := List.mem_map.mp hu2
          exact ⟨z2.2, z2.1, rfl, R.tup z2 hz2⟩
        · refine wp_if_neg (by decide) ?_
          try refine wpAny_bind (wpAny_pure ?_)
          exact rest
    · rw [e]
      refine wpAny_pure (no fun hm => ?_)
      obtain ⟨z0, h0, hk0⟩ := List.mem_map.mp hm
      obtain ⟨i0, hi0, e0⟩ := List.getElem_of_mem h0
      have h00 : L[i0]? = some z0 := by rw [List.getElem?_eq_getElem hi0, e0]
      obtain ⟨c', a1, a2, a3⟩ := hre i0 z0 h00 hk0
      exact hno c' i0 a1 a2 a3 ((fAt i0 z0 h00).trans (congrArg (mh P w) hk0))
theorem sm_search (R : SM P w s.heap a L es ep t) {x : Addr} {g : List Key} (hx : MT P w s.heap g x) (hu : A.units < cLine) {Q : SetFound → Shared → Prop} (yes : g ∈ L.map (·.2) → Q (.there none) s)
    (no : ∀ K, g ∉ L.map (·.2) → way t.mask (mh P w g) K ∉ t.place.toList → (∀ c, c < K → way t.mask (mh P w g) c ∈ t.place.toList) → Q (.free (way t.mask (mh P w g) K) false) s) : wpAny (model P w) A (setSearch a (.ref x) (mh P w g) true) Q E s := by
  have hroom := R.room
  obtain ⟨K, hKf, hK, hb⟩ := R.tab.first (by rw [List.length_map]; omega) (mh P w g)
  have big : 10 * SetTable.turns t.mask ≤ 1420 := by
    unfold SetTable.turns
    rcases R.tab.mok with e | e | e <;> omega
  refine sm_from R hx hu hKf hK hb yes (fun m => no K m hK hb) 100000 0 none rfl (Nat.zero_le _) (by omega) fun i z hz hk => ?_
  have hil : i < t.place.toList.length := by
    rw [Array.length_toList, R.sz]
    exact (List.getElem?_eq_some_iff.mp hz).1
  have hj := List.getElem?_eq_getElem hil
  obtain ⟨c, hc, e⟩ := R.tab.before (h := mh P w g) (i := i) hK (by rw [List.getElem?_map, hz, ← hk]; rfl) hj
  exact ⟨c, Nat.zero_le _, hc, by rw [hj, e]⟩
theorem mt_same {h h' : Heap} {g : List Key} {b : Addr} {o : Obj} (hb : MT P w h g b) (ho : h.get? a = some o) (hd : o.data = .set es ep t) (hs : Heap.SameBut a h h') : MT P w h' g b := by
  obtain ⟨u, items, n, hu, hc, hd', hi⟩ := hb
  refine ⟨u, items, n, (hs.2 b fun z => ?_).trans hu, hc, hd', hi⟩
  subst z
  rw [ho] at hu
  cases hu
  rw [hd] at hd'
  cases hd'
/-- the rows in another order -/
theorem rowsM_order (order : Array Nat) (hr : es.toList = rowsM P w L) (hp : order.toList.Perm (List.range L.length)) :
    ∃ L2, (order.filterMap (es[·]?)).toList = rowsM P w L2 ∧ L2.Perm L ∧ (L2.map fun z => mh P w z.2) = order.toList.map fun i => (es.map (·.1)).getD i 0 := by
  have walk : ∀ l : List Nat, (∀ i ∈ l, i < L.length) → l.filterMap (fun i => es[i]?) = rowsM P w (l.filterMap fun i => L[i]?) ∧ ((l.filterMap fun i => L[i]?).map fun z => mh P w z.2) = l.map fun i => (es.map (·.1)).getD i 0 := by
    intro l
    induction l with
    | nil => exact fun _ => ⟨rfl, rfl⟩
    | cons i l ih =>
      intro hl
      obtain ⟨z, hi⟩ : ∃ z, L[i]? = some z := ⟨_, List.getElem?_eq_getElem (hl i List.mem_cons_self)⟩
      obtain ⟨e1, e2⟩ := ih fun j m => hl j (.tail _ m)
      rw [List.filterMap_cons_some hi, List.filterMap_cons_some (rowsM_at hr hi), e1, List.map_cons, e2]
      refine ⟨rfl, ?_⟩
      have : (es.map (·.1))[i]? = some (mh P w z.2) := by
        rw [Array.getElem?_map, rowsM_at hr hi]
        rfl
      rw [List.map_cons, Array.getD_eq_getD_getElem?, this]
      rfl
  have all : (List.range L.length).filterMap (fun i => L[i]?) = L := by
    apply List.ext_getElem?
    intro j
    have : ∀ n, n ≤ L.length → (List.range n).filterMap (fun i => L[i]?) = L.take n := by
      intro n
      induction n with
      | zero => exact fun _ => rfl
      | succ n ih =>
        intro hn
        rw [List.range_succ, List.filterMap_append, ih (by omega), List.take_succ, List.getElem?_eq_getElem hn, List.filterMap_cons_some (List.getElem?_eq_getElem hn)]
        rfl
    rw [this _ (Nat.le_refl _), List.take_length]
  obtain ⟨e1, e2⟩ := walk order.toList fun i m => List.mem_range.mp (hp.mem_iff.mp m)
  refine ⟨_, by rw [Array.toList_filterMap]; exact e1, ?_, e2⟩
  have := hp.filterMap fun i => L[i]?
  rw [all] at this
  exact this
theorem sm_relay {o : Obj} (ho : s.heap.get? a = some o) (hex : o.ExactSet) (hd : o.data = .set es ep t) (hr : es.toList = rowsM P w L) (hsz : t.place.size = L.length) (hdm : t.dummies = #[]) (hfl : L.length ≤ t.mask)
    (nd : (L.map (·.2)).Nodup) (tup : ∀ z ∈ L, MT P w s.heap z.2 z.1) (ld : w.params.followText "set-order" = true ∨ t.led = true) (few : L.length < 64) {wanted M : Nat}
    (hw : SetTable.sizeAbove wanted - 1 = M) (hM : MaskOk M) (hw2 : SetTable.sizeAbove wanted ≤ 128) (hn : L.length * 5 < M * 3) {Q : Unit → Shared → Prop}
    (hQ : ∀ h' L' es' ep' t', Heap.SameBut a s.heap h' → SM P w h' a L' es' ep' t' → L'.Perm L → Q () { s with heap := h' }) : wpAny (model P w) A (setRelay a wanted) Q E s := by
  have hsl := rowsM_size hr
  obtain ⟨t', order, e, hp, T, em, el, ep', ed⟩ := relaid_ok t (hs := es.map (·.1)) (wanted := wanted) hw hM (by rw [Array.size_map, hsl]; omega)
  rw [Array.size_map, hsl] at hp
  obtain ⟨L2, r1, r2, r3⟩ := rowsM_order order hr hp
  rw [← r3] at T
  have hs2 : (order.filterMap (es[·]?)).size = L.length := (rowsM_size r1).trans r2.length_eq
  rw [setRelay_eq]
  refine wpAny_bind (wpAny_setState_of ho hd (fits_of hdm (by rw [hsz, hsl]) (by omega)) (wp_if_neg (by rw [sizeLine_eq]; omega) ?_))
  try refine wpAny_bind (wpAny_pure ?_)
  rw [e]
  refine wpAny_bind (wp_if_neg (by rw [hs2, hsl]; simp) ?_)
  try refine wpAny_bind (wpAny_pure ?_)
  refine wpAny_pure (wpAny_storeSet_of ho hd ?_ (by rw [hs2, sizeLine_eq]; omega))
  have sb : Heap.SameBut a s.heap (s.heap.update a (Obj.putSet (order.filterMap (es[·]?)) t')) := Heap.SameBut.update ..
  exact hQ _ L2 _ (ep + 1) t' sb ⟨⟨_, store_at ho hd, ⟨hex.1, hex.2.1, hex.2.2⟩, rfl⟩, r1, T, (r2.map (·.2)).nodup_iff.mpr nd, fun z m => mt_same (tup z (r2.mem_iff.mp m)) ho hd sb, by rw [el]; exact ld, by rw [r2.length_eq, em]; exact hn, by rw [r2.length_eq]; exact few⟩ r2
theorem rowsM_ins (p : Nat) (x : Addr) (g : List Key) : (rowsM P w L).take p ++ (mh P w g, Value.ref x) :: (rowsM P w L).drop p = rowsM P w (L.take p ++ (x, g) :: L.drop p) := by
  simp only [rowsM, List.map_append, List.map_cons, List.map_take, List.map_drop]
theorem tab_off {t : SetTable} {hs : List Int} (T : TabOk t hs) : TabOk { t with plain := false } hs := ⟨T.ris, T.dm, T.sz, T.mok, T.bd, T.reach⟩
/-- one more is asked into the set -/
theorem sm_add (R : SM P w s.heap a L es ep t) {x : Addr} {g : List Key} (hx : MT P w s.heap g x) (hu : A.units < cLine) (hfew : L.length + 1 < 64) {Q : Bool → Shared → Prop}
    (hQ : ∀ b h' L' es' ep' t', Heap.SameBut a s.heap h' → SM P w h' a L' es' ep' t' → (g ∈ L.map (·.2) → L' = L) → (g ∉ L.map (·.2) → L'.Perm ((x, g) :: L)) → Q b { s with heap := h' }) :
    wpAny (model P w) A (setAddHashed a (.ref x) (mh P w g)) Q E s := by
  obtain ⟨o, ho, hex, hd⟩ := R.ob
  have hsl := rowsM_size R.rows
  have hroom := R.room
  unfold setAddHashed
  refine wpAny_holding ?_
  rw [show (100000 : Nat) = 99999 + 1 from rfl, setAddHashedIn_succ]
  refine wpAny_bind (wpAny_setState_of ho hd R.fits (wp_if_neg (by simp [byScan, Value.scannable]) ?_))
  try refine wpAny_bind (wpAny_pure ?_)
  refine wpAny_bind (sm_search R hx hu (fun hm => wpAny_pure (hQ false s.heap L es ep t (.refl a s.heap) R (fun _ => rfl) fun z => absurd hm z)) fun K hm hK hb => ?_)
  refine wpAny_bind (wpAny_setState_of ho hd R.fits ?_)
  obtain ⟨q1, q2, q3, q4, q5, q6, q7, q8, q9⟩ := R.tab.put hK hb
  dsimp only
  generalize t.put (way t.mask (mh P w g) K) = pt at q1 q3 q4 q5 q6 q7 q8 q9 ⊢
  obtain ⟨t1, p⟩ := pt
  dsimp only at q1 q3 q4 q5 q6 q7 q8 q9 ⊢
  rw [← q1] at q2 q3
  clear q1
  have pm := put_perm L p (x, g)
  have hlen : (L.take p ++ (x, g) :: L.drop p).length = L.length + 1 := pm.length_eq
  have hhs : (L.map fun z => mh P w z.2).take p ++ mh P w g :: (L.map fun z => mh P w z.2).drop p = (L.take p ++ (x, g) :: L.drop p).map fun z => mh P w z.2 := by
    simp only [List.map_append, List.map_cons, List.map_take, List.map_drop]
  rw [hhs] at q3
  have hin : (SetTable.insertAt es p (mh P w g, Value.ref x)).toList = rowsM P w (L.take p ++ (x, g) :: L.drop p) := by rw [SetTable.toList_insertAt, R.rows, rowsM_ins]
  have nd1 : ((L.take p ++ (x, g) :: L.drop p).map (·.2)).Nodup := (pm.map (·.2)).nodup_iff.mpr (List.nodup_cons.mpr ⟨hm, R.nd⟩)
  generalize SetTable.insertAt es p (mh P w g, Value.ref x) = es1 at hin ⊢
  generalize L.take p ++ (x, g) :: L.drop p = L1 at pm hlen q3 nd1 hin
  have hes : es1.size = L.length + 1 := (rowsM_size hin).trans hlen
  have step : ∀ t2 : SetTable, t2.mask = t1.mask → t2.led = t1.led → t2.fill = t1.fill → TabOk t2 (L1.map fun z => mh P w z.2) → wpAny (model P w) A (do
      storeSet a es1 t2
      if !false && t2.tooFull then setRelay a (SetTable.grown (es.size + 1))
      return true) Q E s := fun t2 f1 f2 f3 T2 => by
    have hsz2 : t2.place.size = L1.length := by rw [T2.sz, List.length_map]
    refine wpAny_bind (wpAny_storeSet_of ho hd ?_ (by rw [hes, sizeLine_eq]; omega))
    have sb : Heap.SameBut a s.heap (s.heap.update a (Obj.putSet es1 t2)) := Heap.SameBut.update ..
    have ho1 := store_at (es' := es1) (t' := t2) ho hd
    generalize s.heap.update a (Obj.putSet es1 t2) = h1 at sb ho1 ⊢
    have tup1 : ∀ z ∈ L1, MT P w h1 z.2 z.1 := fun z m => by
      rcases List.mem_cons.mp (pm.mem_iff.mp m) with e | m
      · subst e; exact mt_same hx ho hd sb
      · exact mt_same (R.tup z m) ho hd sb
    have ld1 : w.params.followText "set-order" = true ∨ t2.led = true := by rw [f2, q5]; exact R.led
    have hfill : t2.fill = L.length + 1 := by rw [f3, q9, List.length_map]
    by_cases hf : t2.tooFull = true
    · have hfull := hf
      unfold SetTable.tooFull at hfull
      rw [decide_eq_true_eq, hfill, f1, q4] at hfull
      have two : (t.mask = 7 ∧ L.length = 4) ∨ (t.mask = 31 ∧ L.length = 18) := by rcases R.tab.mok with e | e | e <;> rw [e] at hfull hroom <;> omega
      have go : ∀ M, SetTable.sizeAbove (SetTable.grown (L.length + 1)) - 1 = M → MaskOk M → SetTable.sizeAbove (SetTable.grown (L.length + 1)) ≤ 128 → (L.length + 1) * 5 < M * 3 →
          wpAny (model P w) A (setRelay a (SetTable.grown (L.length + 1))) (fun _ s' => wpAny (model P w) A (pure true) Q E s') E { s with heap := h1 } := fun M m1 m2 m3 m4 =>
        sm_relay (s := { s with heap := h1 }) ho1 ⟨hex.1, hex.2.1, hex.2.2⟩ rfl hin hsz2 T2.dm (by rw [hlen, f1, q4]; rcases two with ⟨e, e2⟩ | ⟨e, e2⟩ <;> omega) nd1 tup1 ld1 (by rw [hlen]; exact hfew) m1 m2 m3 (by rw [hlen]; exact m4)
          fun h2 L2 es2 ep2 t2 sb2 R2 pm2 => wpAny_pure (hQ true h2 L2 es2 ep2 t2 (sb.trans sb2) R2 (fun z => absurd z hm) fun _ => pm2.trans pm)
      have both : wpAny (model P w) A (setRelay a (SetTable.grown (es.size + 1))) (fun _ s' => wpAny (model P w) A (pure true) Q E s') E { s with heap := h1 } := by
        rw [hsl]
        rcases two with ⟨_, e2⟩ | ⟨_, e2⟩
        · exact go 31 (by rw [e2, size_20]) (.inr (.inl rfl)) (by rw [e2, size_20]; decide) (by omega)
        · exact go 127 (by rw [e2, size_76]) (.inr (.inr rfl)) (by rw [e2, size_76]; decide) (by omega)
      first
        | exact wpAny_bind (wp_if_pos (by simp [hf]) both)
        | exact wp_if_pos (by simp [hf]) (wpAny_bind both)
    · have fin : Q true { s with heap := h1 } := hQ true h1 L1 es1 (ep + 1) t2 sb ⟨⟨_, ho1, ⟨hex.1, hex.2.1, hex.2.2⟩, rfl⟩, hin, T2, nd1, tup1, ld1, by
        unfold SetTable.tooFull at hf
        rw [decide_eq_true_eq, hfill] at hf
        rw [hlen]
        omega, by rw [hlen]; exact hfew⟩ (fun z => absurd z hm) fun _ => pm
      first
        | exact wp_if_neg (by simp [hf]) (wpAny_pure fin)
        | exact wpAny_bind (wp_if_neg (by simp [hf]) (wpAny_pure (wpAny_pure fin)))
  have off : ∀ k : Bool, wpAny (model P w) A (do
      let t2 := if k then t1 else { t1 with plain := false }
      storeSet a es1 t2
      if !false && t2.tooFull then setRelay a (SetTable.grown (es.size + 1))
      return true) Q E s := fun k => by
    cases k with
    | true => exact step t1 rfl rfl rfl q3
    | false => exact step { t1 with plain := false } rfl rfl rfl (tab_off q3)
  by_cases hpl : t1.plain = true
  · first
      | exact wpAny_bind (wp_if_pos hpl (mt_byValue hx off))
      | exact wp_if_pos hpl (wpAny_bind (mt_byValue hx off))
  · first
      | exact wpAny_bind (wp_if_neg hpl (wpAny_pure (off true)))
      | exact wp_if_neg hpl (wpAny_bind (wpAny_pure (off true)))
end
/-! ### set(xs), xs a tuple -/
structure GotM (ks : List MRow) (i : Nat) (L : List MRow) : Prop where
  sub : ∀ z ∈ L, z ∈ ks.take i
  all : ∀ z ∈ ks.take i, z.2 ∈ L.map (·.2)
  len : L.length ≤ i
theorem GotM.old {ks L : List MRow} {i : Nat} {z : MRow} (g : GotM ks i L) (h : ks[i]? = some z) (hm : z.2 ∈ L.map (·.2)) : GotM ks (i + 1) L := by
  have e := take_next h
  refine ⟨fun y m => by rw [e]; exact List.mem_append_left _ (g.sub y m), fun y m => ?_, Nat.le_succ_of_le g.len⟩
  rw [e, List.mem_append, List.mem_singleton] at m
  exact m.elim (g.all y) fun u => u ▸ hm
theorem GotM.new {ks L L' : List MRow} {i : Nat} {z : MRow} (g : GotM ks i L) (h : ks[i]? = some z) (pm : L'.Perm (z :: L)) : GotM ks (i + 1) L' := by
  have e := take_next h
  refine ⟨fun y m => ?_, fun y m => ?_, by rw [pm.length_eq, List.length_cons]; have := g.len; omega⟩
  · rw [e, List.mem_append, List.mem_singleton]
    exact (List.mem_cons.mp (pm.mem_iff.mp m)).elim .inr fun u => .inl (g.sub y u)
  · rw [(pm.map (·.2)).mem_iff, List.map_cons, List.mem_cons]
    rw [e, List.mem_append, List.mem_singleton] at m
    exact m.elim (fun u => .inr (g.all y u)) fun u => .inl (by rw [u])
section
variable {P : Program} {w : World} {A : Around} {E : Value → Shared → Prop} {s : Shared}
theorem mt_keep {h h' : Heap} {g : List Key} {b : Addr} (x : MT P w h g b) (hk : ∀ c o, h.get? c = some o → h'.get? c = some o) : MT P w h' g b := by
  obtain ⟨o, items, n, ho, r⟩ := x
  exact ⟨o, items, n, hk b o ho, r⟩
theorem SM.keep {h h' : Heap} {a : Addr} {L : List MRow} {es : Array (Int × Value)} {ep : Nat} {t : SetTable} (R : SM P w h a L es ep t) (ha : ∀ o, h.get? a = some o → h'.get? a = some o) (ht : ∀ z ∈ L, MT P w h' z.2 z.1) : SM P w h' a L es ep t := by
  obtain ⟨o, ho, r⟩ := R.ob
  exact { R with ob := ⟨o, ha o ho, r⟩, tup := ht }
abbrev newSetO (w : World) : Obj := { cls := .type "set", dict := none, data := .set #[] 0 (.fresh 0 0 (!w.params.followText "set-order")) }
theorem sm_new {h : Heap} {a : Addr} (ho : h.get? a = some (newSetO w)) : SM P w h a [] #[] 0 (.fresh 0 0 (!w.params.followText "set-order")) := by
  refine ⟨⟨_, ho, ⟨rfl, rfl, rfl⟩, rfl⟩, rfl, ⟨.nil, rfl, rfl, .inl rfl, fun x m => (nomatch m), fun i h j e => (by simp at e)⟩, .nil, fun z m => (nomatch m), ?_, show 0 * 5 < 7 * 3 by decide, show 0 < 64 by decide⟩
  show _ ∨ (!w.params.followText "set-order") = true
  cases w.params.followText "set-order" <;> simp
/-- the loop of set.update over a walk of mixed tuples -/
theorem sm_loop {I S : Addr} {fp wr : List Addr} {G : Array GenState → Array GenState → Prop} {ks : List MRow} {Pv : Nat → Value → Prop} {St : Nat → Shared → Prop} {R : Result → Shared → Prop} (W : WalksS P w A.in1 I fp wr G ks.length Pv St) (hSf : S ∉ fp) (hfew : ks.length < 64)
    (hval : ∀ i v, Pv i v → ∃ z, ks[i]? = some z ∧ v = .ref z.1) (h0 : Heap) (hk : ∀ z ∈ ks, MT P w h0 z.2 z.1) (hS0 : h0.get? S = none) (hw0 : ∀ b ∈ wr, h0.get? b = none) (hu : A.in1.units < cLine) :
    ∀ (k i : Nat) (s : Shared), ks.length - i = k → i ≤ ks.length → St i s → (∀ b o, h0.get? b = some o → s.heap.get? b = some o) → (∃ L es ep t, SM P w s.heap S L es ep t ∧ GotM ks i L) →
      (∀ s' L es ep t, Moved (S :: wr) G s s' → SM P w s'.heap S L es ep t → GotM ks ks.length L → (∀ b o, h0.get? b = some o → s'.heap.get? b = some o) → R (.ok (.ret .none)) s') →
      codeAny (model P w) A (.builtin "set.update.loop" ⟨[.ref S, .ref I], []⟩) R s := by
  have hSw : S ∉ wr := fun m => hSf (W.sub _ m)
  have wide : ∀ b ∈ wr, b ∈ S :: wr := fun b m => .tail _ m
  have keepM : ∀ {s s' : Shared}, Moved wr G s s' → (∀ b o, h0.get? b = some o → s.heap.get? b = some o) → ∀ b o, h0.get? b = some o → s'.heap.get? b = some o := fun mv kp b o e => mv.heap b o (fun m => by rw [hw0 b m] at e; cases e) (kp b o e)
  have within : ∀ {L : List MRow} {i : Nat}, GotM ks i L → ∀ z ∈ L, z ∈ ks := fun g z m => List.mem_of_mem_take (g.sub z m)
  intro k
  induction k with
  | zero =>
    intro i s hk' hi hst kp ⟨L, es, ep, t, hS, g⟩ hR
    obtain rfl : i = ks.length := by omega
    refine codeAny_builtin F.entry_set_update_loop ?_
    rw [Around.under_plainId F.plain_set_update_loop _]
    refine (wpAny_bind (W.done s _ _ hst fun s' mv => ?_) : wpAny _ A.in1 (pyNext (.ref I) >>= _) _ _ s)
    have kp' := keepM mv kp
    have fin := hR s' L es ep t (mv.mono wide) (hS.keep (fun o e => mv.heap S o hSw e) fun z m => mt_keep (hk z (within g z m)) kp') g kp'
    show wpAny _ A.in1 (ret Value.none) _ _ s'
    exact wpAny_pure fin
  | succ k ih =>
    intro i s hk' hi hst kp ⟨L, es, ep, t, hS, g⟩ hR
    have hlt : i < ks.length := by omega
    refine codeAny_builtin F.entry_set_update_loop ?_
    rw [Around.under_plainId F.plain_set_update_loop _]
    refine (wpAny_bind (W.item i s _ _ hlt hst fun v s' hP hst' mv => ?_) : wpAny _ A.in1 (pyNext (.ref I) >>= _) _ _ s)
    obtain ⟨z, hz, rfl⟩ := hval i v hP
    have kp' := keepM mv kp
    have hS' : SM P w s'.heap S L es ep t := hS.keep (fun o e => mv.heap S o hSw e) fun y m => mt_keep (hk y (within g y m)) kp'
    have hx : MT P w s'.heap z.2 z.1 := mt_keep (hk z (List.mem_of_getElem? hz)) kp'
    refine (wpAny_bind (wpAny_holding ?_) : wpAny _ A.in1 (holding [Value.ref z.1] (setAdd S (.ref z.1)) >>= _) _ _ s')
    unfold setAdd
    refine wpAny_holding (wpAny_bind (wpAny_pyHash_tuple hu hx ?_))
    refine sm_add (s := { s' with toks := s'.toks + (z.2.length + 1) }) hS' hx hu (by have := g.len; omega) fun b h' L' es' ep' t' sb hS2 c1 c2 => ?_
    have g' : GotM ks (i + 1) L' := by
      by_cases c : z.2 ∈ L.map (·.2)
      · rw [c1 c]; exact g.old hz c
      · exact g.new hz (c2 c)
    have kp2 : ∀ b o, h0.get? b = some o → h'.get? b = some o := fun b o e => (sb.2 b fun u => by rw [u, hS0] at e; cases e).trans (kp' b o e)
    refine wpAny_pure ⟨plainId_quiet F.plain_set_update_loop _, ih (i + 1) _ (by omega) hlt (W.frame _ s' _ _ hst' (Nat.le_add_right _ _) fun b m o e => ?_) kp2 ⟨L', es', ep', t', hS2, g'⟩ fun s'' L2 es2 ep2 t2 mv2 hS3 g2 kp3 => ?_⟩
    · rw [sb.2 b fun u => hSf (u ▸ m)]
      exact e
    · refine hR s'' L2 es2 ep2 t2 (Moved.trans W.gtrans ((mv.mono wide).then_heap (Nat.le_add_right _ _) fun b o m e => ?_) mv2) hS3 g2 kp3
      rw [sb.2 b fun u => m (u ▸ List.mem_cons_self)]
      exact e
end
end CW
/-! part CwSet2 -/
set_option maxRecDepth 100000
set_option maxHeartbeats 4000000
/-! set(xs) of a tuple of mixed tuples; sorted(set). -/
namespace CW
open PySem PySem.Spec PyProof.Rows L2
section
variable {P : Program} {w : World} {A : Around} {E : Value → Shared → Prop} {s : Shared}
theorem call_setM {l : Addr} {items : Array Value} (ks : List MRow) {Q : Value → Shared → Prop} (hh : A.handled = none) (hl : s.heap.IsTuple l items) (hit : items.toList = ks.map fun z => Value.ref z.1)
    (hk : ∀ z ∈ ks, MT P w s.heap z.2 z.1) (hfew : ks.length < 64) (hu : A.units + 3 < cLine)
    (h : ∀ (h' : Heap) (tk : Nat) L es ep t, SM P w h' s.heap.objs.size L es ep t → GotM ks ks.length L → (∀ b o, s.heap.get? b = some o → h'.get? b = some o) → Q (.ref s.heap.objs.size) { s with heap := h', toks := tk }) :
    wpAny (model P w) A (call (.type "set") [.ref l]) Q E s := by
  have hisz : items.size = ks.length := by rw [← Array.length_toList, hit, List.length_map]
  obtain ⟨c, tl, hmro⟩ := F.called_set.mro
  have hmade := F.called_set.made; have hsub := F.called_set.sub
  refine wpAny_call (codeAny_of_tree ((wpAny_pure ⟨Code.quiet_builtin _ (by decide +kernel), codeAny_builtin F.entry_type_call ?_⟩ : wpAny _ _ (callAny (.type "set") _) _ _ _)))
  rw [Around.under_plain (weight_type_call_type "set" [.ref l] []) rfl]
  have h1 := F.called_set.notType; have h2 := F.called_set.canCreate; have hct := F.typeCall_set_1 (.ref l)
  repeat (any_goals (first | assumption | wp_step))
  refine codeAny_mono (code_set_led1 (.ref l) (E := E) (Q₁ := fun u s₁ => u = .ref s.heap.objs.size ∧ s₁ = { s with heap := s.heap.push (newSetO w) }) ⟨rfl, rfl⟩) fun r s₁ hr => ?_
  cases r with
  | error e => exact hr
  | ok fl =>
    cases fl with
    | ret u =>
      obtain ⟨rfl, rfl⟩ := hr
      have hS : (s.heap.push (newSetO w)).get? s.heap.objs.size = some (newSetO w) := Heap.get?_push_size _ rfl
      have hT : Shared.TypeIs { s with heap := s.heap.push (newSetO w) } (.ref s.heap.objs.size) "set" := ⟨_, hS, rfl⟩
      have hli := F.called_set.init.lookup; have hbi := F.called_set.init.bind (.ref s.heap.objs.size)
      repeat (any_goals (first | assumption | wp_step))
      refine codeAny_mono (codeAny_call_builtin (R := wants (fun r s₂ => r = .none ∧ ∃ h' tk L es ep t, s₂ = { s with heap := h', toks := tk } ∧ SM P w h' s.heap.objs.size L es ep t ∧ GotM ks ks.length L ∧ ∀ b o, s.heap.get? b = some o → h'.get? b = some o) E)
        F.called_set.init.plain F.entry_set_init (check_set_init_1 hT ?_)) fun r₂ s₂ hr₂ => ?_
      · obtain ⟨⟨ocls, odict, odata, oslots⟩, hol, hcl, nl, hdl⟩ := hl
        dsimp only at hcl hdl
        subst hcl hdl
        have hol' : (s.heap.push (newSetO w)).get? l = some { cls := .type "tuple", dict := odict, data := .seq items nl, slots := oslots } := Heap.get?_push_of_some _ hol
        have hsls := F.sub_tuple_set; have hslf := F.sub_tuple_frozenset
        have hne : (Value.type "tuple" == Value.type "dict") = false := by decide
        have hl1 : (s.heap.push (newSetO w)).IsTuple l items := ⟨_, hol', rfl, nl, rfl⟩
        unfold Builtin.«set.__init__» noKeywords Builtin.Frozenset.updateFrom
        generalize hPI : pyIter = PI
        wp_walk
        subst hPI
        refine wpAny_pyIter_tuple hl1 (wpAny_bind (wpAny_runValue ?_))
        have hlS : l < s.heap.objs.size := Heap.lt_size hol
        have hh3 : A.in1.in1.in1.handled = none := by simp [hh]
        have hz1 : (s.heap.push (newSetO w)).objs.size = s.heap.objs.size + 1 := Heap.size_push ..
        have hneI : l ≠ (s.heap.push (newSetO w)).objs.size := by rw [hz1]; exact Nat.ne_of_lt (Nat.lt_succ_of_lt hlS)
        have hSf : s.heap.objs.size ∉ [(s.heap.push (newSetO w)).objs.size, l] := by
          rw [hz1]
          simp only [List.mem_cons, List.not_mem_nil, or_false, not_or]
          exact ⟨Nat.ne_of_lt (Nat.lt_succ_self _), Nat.ne_of_gt hlS⟩
        have hval : ∀ (i : Nat) (v : Value), items[i]? = some v → ∃ z, ks[i]? = some z ∧ v = .ref z.1 := fun i v hv => by
          rw [← Array.getElem?_toList, hit, List.getElem?_map] at hv
          cases hq : ks[i]? with
          | none => rw [hq] at hv; cases hv
          | some z =>
            rw [hq] at hv
            exact ⟨z, rfl, (Option.some.inj hv).symm⟩
        have gone : ∀ b, s.heap.objs.size ≤ b → s.heap.get? b = none := fun b hb => by
          cases q : s.heap.get? b with
          | none => rfl
          | some o => exact absurd (Heap.lt_size q) (Nat.not_lt.mpr hb)
        have W := (Walks.tuple (prog := P) (w := w) (A := A.in1.in1.in1) hh3 (s.heap.push (newSetO w)).objs.size l hneI items).toS
        rw [hisz] at W
        refine sm_loop W hSf hfew hval s.heap hk (gone _ (Nat.le_refl _)) (fun b hb => gone b (by rw [List.mem_singleton.mp hb, hz1]; omega)) hu (ks.length - 0) 0 _ rfl (Nat.zero_le _)
          ⟨⟨_, Heap.get?_push_size _ rfl, rfl, rfl⟩, hl1.push _⟩ (fun b o e => Heap.get?_push_of_some _ (Heap.get?_push_of_some _ e)) ⟨[], #[], 0, _, sm_new (Heap.get?_push_of_some _ hS), ⟨fun z m => (nomatch m), fun z m => (by simp at m), Nat.le_refl _⟩⟩ ?_
        intro s' L es ep t hm hS' g' hkp
        obtain ⟨h', g2, d', tk', os'⟩ := s'
        obtain rfl : g2 = s.gens := hm.gens
        obtain rfl : d' = s.drawn := hm.drawn
        obtain rfl : os' = s.os := hm.os
        show wpAny _ _ _ _ _ _
        refine wpAny_pure ?_
        show wpAny _ _ (ret Value.none) _ _ _
        exact wpAny_pure ⟨rfl, h', tk', L, es, ep, t, rfl, hS', g', hkp⟩
      · cases r₂ with
        | error e => exact hr₂
        | ok fl₂ =>
          cases fl₂ with
          | ret r =>
            obtain ⟨rfl, h', tk, L, es, ep, t, rfl, hS', g', hk'⟩ := hr₂
            repeat (any_goals (first | assumption | wp_step))
            exact h _ _ _ _ _ _ hS' g' hk'
          | _ => exact hr₂.elim
    | _ => exact hr.elim
end
/-! ### the set as an object of the walk -/
abbrev PRow := Addr × Pr
abbrev keyPr (b : Pr) : List Key := [.inr b.1, .inl b.2]
def mrow (z : PRow) : MRow := (z.1, keyPr z.2)
theorem keyPr_inj {a b : Pr} (h : keyPr a = keyPr b) : a = b := by
  injection h with h1 h2
  injection h1 with h1
  injection h2 with h2 _
  injection h2 with h2
  exact Prod.ext h1 h2
def SetAtM (P : Program) (w : World) (h : Heap) (a : Addr) (L : List PRow) : Prop := ∃ es ep t, (∃ o, h.get? a = some o ∧ o.ExactSet ∧ o.data = .set es ep t) ∧ es.toList = rowsM P w (L.map mrow) ∧ TabOk t ((L.map mrow).map fun z => mh P w z.2) ∧
  (w.params.followText "set-order" = true ∨ t.led = true) ∧ L.length * 5 < t.mask * 3 ∧ L.length < 64
def SetMO (P : Program) (w : World) (a : Addr) (L : List PRow) : HO := .ext fun h => SetAtM P w h a L
theorem setMO_ok {P : Program} {w : World} {H : Hp} {h : Heap} {a : Addr} {L : List PRow} (R : SetAtM P w h a L) : ObjOk P w H h a (SetMO P w a L) := by
  obtain ⟨es, ep, t, ⟨o, ho, r⟩, q⟩ := id R
  refine ⟨R, ⟨o, ho⟩, fun h1 h2 p k => ?_⟩
  obtain ⟨es', ep', t', ⟨o', ho', r'⟩, q'⟩ := (p : SetAtM P w h1 a L)
  exact (⟨es', ep', t', ⟨o', k o' ho', r'⟩, q'⟩ : SetAtM P w h2 a L)
theorem perm_pre {α β : Type} {f : α → β} {vs us : List β} (h : vs.Perm us) : ∀ {L : List α}, us = L.map f → ∃ L1 : List α, L1.Perm L ∧ vs = L1.map f := by
  induction h with
  | nil => intro L e; cases L with
    | nil => exact ⟨[], .refl _, rfl⟩
    | cons _ _ => cases e
  | cons x _ ih => intro L e; cases L with
    | nil => cases e
    | cons z L =>
      injection e with e1 e2
      obtain ⟨L1, p, q⟩ := ih e2
      exact ⟨z :: L1, p.cons z, by rw [q, e1]; rfl⟩
  | swap x y l => intro L e; match L, e with
    | z :: u :: L, e =>
      injection e with e1 e2
      injection e2 with e2 e3
      exact ⟨u :: z :: L, .swap .., by rw [e1, e2, e3]; rfl⟩
  | trans _ _ ih1 ih2 =>
    intro L e
    obtain ⟨L2, p2, q2⟩ := ih2 e
    obtain ⟨L1, p1, q1⟩ := ih1 q2
    exact ⟨L1, p1.trans p2, q1⟩
/-- pairs by their addresses -/
theorem prows_of {K : PySem.W.Frag} {H : Hp} : ∀ {ys : List V} {bs : List Pr}, Tps K H ys (bs.map ePr) → ∃ L : List PRow, L.map (·.2) = bs ∧ ys = L.map (fun z => V.ref z.1) ∧ ∀ z ∈ L, Tp K H (.ref z.1) (ePr z.2)
  | _, [], .nil => ⟨[], rfl, rfl, fun z m => (nomatch m)⟩
  | _, b :: bs, .cons a t => by
    obtain ⟨L, e1, e2, e3⟩ := prows_of t
    have a' := a
    unfold ePr at a'
    obtain ⟨p, xs, rfl, _, _⟩ := a'.tuple_inv
    refine ⟨(p, b) :: L, by rw [List.map_cons, e1], by rw [e2]; rfl, fun z m => ?_⟩
    rcases List.mem_cons.mp m with e | m
    · subst e; exact a
    · exact e3 z m
theorem tps_rows {K : PySem.W.Frag} {H : Hp} : ∀ {L : List PRow}, (∀ z ∈ L, Tp K H (.ref z.1) (ePr z.2)) → Tps K H (L.map fun z => V.ref z.1) ((L.map (·.2)).map ePr)
  | [], _ => .nil
  | z :: L, h => .cons (h z List.mem_cons_self) (tps_rows fun u m => h u (.tail _ m))
theorem vals_rows : ∀ (L : List PRow), Vals (L.map fun z => V.ref z.1) (L.map fun z => Value.ref z.1)
  | [] => .nil
  | z :: L => .cons (show L2.RelV (.ref z.1) (.ref z.1) from rfl) (vals_rows L)
theorem refs_rows : ∀ {L : List PRow} {us : List Value}, Vals (L.map fun z => V.ref z.1) us → us = L.map fun z => Value.ref z.1
  | [], _, .nil => rfl
  | z :: L, _, .cons r t => by
    rw [refs_rows t]
    cases r
    rfl
section
variable {X : Cx} {j : Nat}
theorem inv_mt {pins : List (Addr × Obj)} {σ : L2.St} {H : Hp} {s : Shared} {p : Addr} {b : Pr} (I : Inv X pins σ H s) (h : Tp X.K H (.ref p) (ePr b)) : MT X.prog X.w s.heap (keyPr b) p := by
  unfold ePr at h
  obtain ⟨a, xs, e, sq, t⟩ := h.tuple_inv
  cases e
  obtain ⟨its, r, ⟨o, ho, hc, n, hd⟩, _⟩ := I.tuple sq
  refine ⟨o, its.toArray, n, ho, hc, hd, ?_⟩
  cases t with
  | cons t1 t =>
    cases t with
    | cons t2 t =>
      cases t
      cases t1
      cases t2
      cases r with
      | cons r1 r =>
        cases r with
        | cons r2 r =>
          cases r
          obtain ⟨k1, rfl⟩ := r1
          obtain ⟨k2, rfl⟩ := r2
          exact .cons (by simp [mixKind, keyIs, Value.isStrOf]) (.cons (by simp [mixKind, keyIs, Value.isInt]) .nil)
theorem pre_all {α β : Type} {f : α → β} {L : List α} : ∀ {us : List β}, (∀ u ∈ us, u ∈ L.map f) → ∃ L2 : List α, us = L2.map f ∧ ∀ z ∈ L2, z ∈ L
  | [], _ => ⟨[], rfl, fun z m => (nomatch m)⟩
  | u :: us, h => by
    obtain ⟨z, hz, e⟩ := List.mem_map.mp (h u List.mem_cons_self)
    obtain ⟨L2, e2, h2⟩ := pre_all fun v m => h v (.tail _ m)
    refine ⟨z :: L2, by rw [List.map_cons, e, e2], fun y m => ?_⟩
    rcases List.mem_cons.mp m with c | c
    · subst c; exact hz
    · exact h2 y c
/-- set(xs), xs a tuple of pairs -/
theorem cr_setP (hc : X.calm = true) (hr : Room j X.A) : CallR X (.type "set") (fun xs H Q => ∃ (T : Addr) (ys : List V) (bs : List Pr), xs = [.ref T] ∧ SqT X.K H T ys ∧ Tps X.K H ys (bs.map ePr) ∧ bs.length < 64 ∧
    ∀ (a : Addr) (L : List PRow), H a = none → (∀ z ∈ L, Tp X.K H (.ref z.1) (ePr z.2)) → (L.map (·.2)).Nodup → (∀ b, b ∈ L.map (·.2) ↔ b ∈ bs) → Q (.ref a) (upd H a (SetMO X.prog X.w a L))) := by
  intro pins s σ H xs us Q I r h
  obtain ⟨T, ys, bs, rfl, sq, t, hz, q⟩ := h
  obtain ⟨u, rfl, rx⟩ := vals1 r
  cases rx
  obtain ⟨its, rv, ht, _⟩ := I.tuple sq
  obtain ⟨L, e1, rfl, tl⟩ := prows_of t
  have hn : H s.heap.objs.size = none := I.hok.fresh (Nat.le_refl _)
  have hlen : L.length = bs.length := by rw [← e1, List.length_map]
  refine call_setM (P := X.prog) (w := X.w) (L.map mrow) (I.ok.hd hc) (show s.heap.IsTuple T its.toArray from ht) (by rw [refs_rows rv, List.map_map]; rfl) (fun z m => ?_) (by rw [List.length_map]; omega) (by have := hr.un; omega) fun h' tk L1 es ep t R g k => ?_
  · obtain ⟨y, hy, rfl⟩ := List.mem_map.mp m
    exact inv_mt I (tl y hy)
  · obtain ⟨L2, rfl, sub⟩ := pre_all (f := mrow) fun u m => List.mem_of_mem_take (g.sub u m)
    have e2 : (L2.map mrow).map (·.2) = (L2.map (·.2)).map keyPr := by rw [List.map_map, List.map_map]; rfl
    have nd := R.nd
    rw [e2] at nd
    refine ⟨.ref s.heap.objs.size, upd H s.heap.objs.size (SetMO X.prog X.w s.heap.objs.size L2), I.laid (t' := tk) k (Nat.le_refl _) (setMO_ok ⟨es, ep, t, R.ob, R.rows, R.tab, R.led, by simpa using R.room, by simpa using R.few⟩), rfl,
      q _ L2 hn (fun z m => tl z (sub z m)) (nodup_of_map nd) fun b => ⟨fun m => ?_, fun m => ?_⟩⟩
    · obtain ⟨z, hz, rfl⟩ := List.mem_map.mp m
      rw [← e1]
      exact List.mem_map.mpr ⟨z, sub z hz, rfl⟩
    · rw [← e1] at m
      obtain ⟨z, hz, rfl⟩ := List.mem_map.mp m
      have := g.all (mrow z) (by rw [List.take_length]; exact List.mem_map.mpr ⟨z, hz, rfl⟩)
      rw [e2] at this
      obtain ⟨c, hc, ec⟩ := List.mem_map.mp this
      rw [← keyPr_inj ec]
      exact hc
/-- sorted(set) -/
theorem cr_sortedS (hc : X.calm = true) (hr : Room j X.A) : CallR X (.builtin "sorted") (fun xs H Q => ∃ (a : Addr) (L : List PRow), xs = [.ref a] ∧ H a = some (SetMO X.prog X.w a L) ∧ (∀ z ∈ L, Tp X.K H (.ref z.1) (ePr z.2)) ∧
    ∀ l zs (us : List Pr), H l = none → us.Perm (L.map (·.2)) → Tps X.K H zs ((sortPr us).map ePr) → Q (.ref l) (upd H l (.lst zs))) := by
  intro pins s σ H xs us Q I r h
  obtain ⟨a, L, rfl, ha, tl, q⟩ := h
  obtain ⟨u, rfl, rx⟩ := vals1 r
  cases rx
  obtain ⟨es, ep, t, ⟨o, ho, hex, hd⟩, hrow, T, led, room, few⟩ := ((I.hok a _ ha).1 : SetAtM X.prog X.w s.heap a L)
  have hsz := rowsM_size hrow
  rw [List.length_map] at hsz
  refine Calls.call_function_entry kind_sorted plain_sorted entry_sorted (args_sorted1 _) ?_
  unfold Builtin.«sorted»
  refine wpAny_bind (m := checkCount "sorted" 1 1 _) (wpAny_pure ?_)
  refine wpAny_bind (collect_set (A := X.A.in1) (I.ok.hd hc) ⟨o, ho, hex.1, hd⟩ (fits_of T.dm (by rw [T.sz, List.length_map, List.length_map, hsz]) (by omega)) (by unfold scanBound; omega) T.ris led fun s1 vs k1 hz g1 o1 pm => ?_)
  have hes : es.toList.map (·.2) = L.map fun z => Value.ref z.1 := by
    rw [hrow, rowsM, List.map_map, List.map_map]
    rfl
  rw [hes] at pm
  obtain ⟨L1, p1, rfl⟩ := perm_pre pm rfl
  have tl1 : ∀ z ∈ L1, Tp X.K H (.ref z.1) (ePr z.2) := fun z m => tl z (p1.mem_iff.mp m)
  have hvl : (L1.map fun z => Value.ref z.1).length ≤ sizeLine := by rw [List.length_map, p1.length_eq, sizeLine_eq]; omega
  have ts := tps_rows tl1
  obtain ⟨e1, e2⟩ := each_tp I (vals_rows L1) ts
  generalize L1.map (fun z => Value.ref z.1) = vs at hvl e1 e2
  refine wpAny_bind (wpAny_newList ?_ hvl)
  have hoL : (s1.heap.push (seqObj "list" vs.toArray 0)).get? s1.heap.objs.size = some (seqObj "list" vs.toArray 0) := Heap.get?_push_size _ rfl
  have keep1 : ∀ b o, s.heap.get? b = some o → b ≠ s1.heap.objs.size ∧ (s1.heap.push (seqObj "list" vs.toArray 0)).get? b = some o := fun b o e => ⟨Nat.ne_of_lt (Heap.lt_size (k1 b o e)), Heap.get?_push_of_some _ (k1 b o e)⟩
  have er : PySem.W.EachIs (fun v b => ∃ as, Reads (PySem.W.sortingHeap (s1.heap.push (seqObj "list" vs.toArray 0)) s1.heap.objs.size vs) v (ePr b) as) vs (L1.map (·.2)) :=
    e2.mono fun _ _ ⟨as, r⟩ => ⟨as, PyProof.Rows.Reads.keeps (fun b o e => PySem.W.sortingHeap_old (keep1 b o e).1 (keep1 b o e).2) r⟩
  have hal : PySem.W.AllAlike ((L1.map (·.2)).map ePr) := PySem.W.AllAlike.of alike_pr
  refine wpAny_bind (wpAny_holding (wpAny_call_entry slot_list_sort ⟨_, hoL, rfl⟩ entry_list_sort (PySem.W.list_sort_vals (s := { s1 with heap := s1.heap.push (seqObj "list" vs.toArray 0) }) (κ := PySem.W.dataKind (PySem.W.sortingHeap (s1.heap.push (seqObj "list" vs.toArray 0)) s1.heap.objs.size vs) ((L1.map (·.2)).map ePr)) hoL
    (PySem.W.SortsAt.data (s := { s1 with heap := PySem.W.sortingHeap (s1.heap.push (seqObj "list" vs.toArray 0)) s1.heap.objs.size vs }) (PySem.W.each_map (R := fun v d => ∃ as, Reads (PySem.W.sortingHeap (s1.heap.push (seqObj "list" vs.toArray 0)) s1.heap.objs.size vs) v d as) ePr er) hal (PySem.W.Sortable.tuples fun b => ⟨_, _, rfl⟩)
      (PySem.W.bound_map fun b _ => by
        have h1 := depth_pr b
        have h2 := hr.un
        have h3 : X.A.in1.in1.units = X.A.units + 2 := rfl
        omega)) hvl ⟨.none, rfl, ?_⟩) (args_list_sort _)))
  have eo := PySem.W.sortVals_data false e1 er hal
  have hlo : (PySem.W.sortVals (PySem.W.dataKind (PySem.W.sortingHeap (s1.heap.push (seqObj "list" vs.toArray 0)) s1.heap.objs.size vs) ((L1.map (·.2)).map ePr)) false vs vs).length = vs.length := (PySem.W.sortVals_length (κ := PySem.W.dataKind (PySem.W.sortingHeap (s1.heap.push (seqObj "list" vs.toArray 0)) s1.heap.objs.size vs) ((L1.map (·.2)).map ePr)) (vs := vs) false rfl)
  generalize PySem.W.sortVals (PySem.W.dataKind (PySem.W.sortingHeap (s1.heap.push (seqObj "list" vs.toArray 0)) s1.heap.objs.size vs) ((L1.map (·.2)).map ePr)) false vs vs = out at eo hlo
  obtain ⟨zs, rz, tz⟩ := of_each eo
  obtain ⟨c, hat⟩ := PyProof.Rows.sortedHeap_at (vs := vs) (out := out.toArray) hoL
  have kept : ∀ b o, s.heap.get? b = some o → (sortedHeap (s1.heap.push (seqObj "list" vs.toArray 0)) s1.heap.objs.size vs out.toArray).get? b = some o := fun b o e => by
    rw [sortedHeap_old (keep1 b o e).1 (by rw [size_push']; exact Nat.lt_succ_of_lt (Heap.lt_size (k1 b o e)))]
    exact (keep1 b o e).2
  have hn : H s1.heap.objs.size = none := I.hok.fresh hz
  have J := I.call' (ch := []) (H' := upd H s1.heap.objs.size (.lst zs)) (s' := { s1 with heap := sortedHeap (s1.heap.push (seqObj "list" vs.toArray 0)) s1.heap.objs.size vs out.toArray }) o1 (Un.laid kept hz hn)
    (I.hok.laid kept hz ⟨by rw [rz.length, hlo]; exact hvl, out, c, rz, hat⟩) (by show AllBare s1.gens; rw [g1]; exact I.bare) (fun _ z => nomatch z)
  exact wpAny_pure ⟨_, rfl, .ref s1.heap.objs.size, _, J, rfl, q _ zs (L1.map fun z : PRow => z.2) hn (p1.map _) tz⟩
end
/-! ### the order of pairs is settled by their members -/
theorem keyToks_pr (a b : Pr) (h : PySem.W.keyToks (ePr a) = PySem.W.keyToks (ePr b)) : a = b := by
  unfold ePr at h
  simp only [PySem.W.keyToks, PySem.W.keyToksAll, List.cons_append, List.nil_append, List.cons.injEq, Sum.inr.injEq, Sum.inl.injEq, and_true, true_and] at h
  obtain ⟨h1, h2⟩ := h
  obtain ⟨⟨⟨x⟩⟩, n⟩ := a
  obtain ⟨⟨⟨y⟩⟩, m⟩ := b
  simp_all
theorem le_anti (a b : Pr) (h1 : PySem.W.dataLe false ePr a b = true) (h2 : PySem.W.dataLe false ePr b a = true) : a = b := by
  refine keyToks_pr a b ?_
  have e1 : (!(PyProof.Rows.listOrd PyProof.Rows.itemOrd).blt (PySem.W.keyToks (ePr b)) (PySem.W.keyToks (ePr a))) = true := h1
  have e2 : (!(PyProof.Rows.listOrd PyProof.Rows.itemOrd).blt (PySem.W.keyToks (ePr a)) (PySem.W.keyToks (ePr b))) = true := h2
  rw [Bool.not_eq_true'] at e1 e2
  exact (PyProof.Rows.listOrd PyProof.Rows.itemOrd).total _ _ e2 e1
theorem sortPr_sorted (bs : List Pr) : (sortPr bs).Pairwise fun a b => PySem.W.dataLe false ePr a b = true := by
  have T := PySem.W.sortLe_total (PyProof.Rows.listOrd PyProof.Rows.itemOrd) false fun b : Pr => PySem.W.keyToks (ePr b)
  exact List.pairwise_mergeSort (le := PySem.W.dataLe false ePr) (fun a b c => T.trans a b c) (fun a b => by rw [Bool.or_eq_true]; exact T.total a b) bs
theorem sortPr_eq {us vs : List Pr} (h : us.Perm vs) : sortPr us = sortPr vs :=
  List.Perm.eq_of_pairwise (fun a b _ _ => le_anti a b) (sortPr_sorted us) (sortPr_sorted vs) ((sortPr_perm us).trans (h.trans (sortPr_perm vs).symm))
def once : List Pr → List Pr
  | [] => []
  | b :: bs => if b ∈ bs then once bs else b :: once bs
theorem mem_once (b : Pr) : ∀ bs, b ∈ once bs ↔ b ∈ bs
  | [] => Iff.rfl
  | c :: bs => by
    unfold once
    split
    · rename_i hm
      rw [mem_once b bs, List.mem_cons]
      exact ⟨.inr, fun h => h.elim (fun e => e ▸ hm) id⟩
    · rw [List.mem_cons, List.mem_cons, mem_once b bs]
theorem once_nodup : ∀ bs, (once bs).Nodup
  | [] => .nil
  | c :: bs => by
    unfold once
    split
    · exact once_nodup bs
    · rename_i hm
      exact List.nodup_cons.mpr ⟨fun h => hm ((mem_once c bs).mp h), once_nodup bs⟩
def refSum (old new : List Pr) : List Pr := sortPr (once (old ++ new))
theorem refSum_ok (old new : List Pr) : RefOk (refSum old new) old new :=
  ⟨(sortPr_perm _).nodup_iff.mpr (once_nodup _), fun p => by rw [refSum, (sortPr_perm _).mem_iff, mem_once, List.mem_append]⟩
end CW
/-! part CwW15 -/
set_option maxRecDepth 100000
set_option maxHeartbeats 4000000
/-! The walk: sorted(set(..)), heard_answer. -/
namespace CW
open PySem PySem.Spec PyProof.Rows L2
section
variable {X : Cx} {e : Expr} {ρ : List Kd} {H : Hp} {pos p1 pos2 p2 : Pos} {bs : List Pr} {j : Nat}
theorem le_sortedSet (hc : X.calm = true) (hr : Room j X.A) (hg : Gl X "sorted") (hm : X.mg "sorted" = none) (hg2 : Gl X "set") (hm2 : X.mg "set" = none) (h : DE X e ρ H (ePrs bs)) (hz : bs.length < 64) (hs2 : starEach [e] X.env = (false, eval e X.env) :: starEach [] X.env := by rfl)
    (hs : starEach [.Call (.Name "set" p2) [e] [] pos2] X.env = (false, eval (.Call (.Name "set" p2) [e] [] pos2) X.env) :: starEach [] X.env := by rfl) (hpl : (backTo pos (starEach [] X.env)).any (·.1) = false := by rfl) (hpl2 : (backTo pos2 (starEach [] X.env)).any (·.1) = false := by rfl) :
    LE X (.Call (.Name "sorted" p1) [.Call (.Name "set" p2) [e] [] pos2] [] pos) ρ H ((sortPr (once bs)).map ePr) := fun σ H1 s x Q q => by
  have inner : PE X (.Call (.Name "set" p2) [e] [] pos2) _ := pe_callTy (cr_setP hc hr) hg2 hm2 (by decide +kernel) (pa1 hs2) (he := hs2) (hpl := hpl2)
  refine re_of (pe_callB (cr_sortedS hc hr) hg hm (by decide +kernel) (pa_cons inner pa_nil hs) (he := hs) (hpl := hpl)) ?_
  refine h σ H1 s x _ fun v H2 x2 t => ?_
  unfold ePrs at t
  obtain ⟨T, ys, rfl, sq, u⟩ := t.tuple_inv
  refine ⟨T, ys, bs, rfl, sq, u, hz, fun a L ha tl nd mem => ?_⟩
  have xa : Ex H2 (upd H2 a (SetMO X.prog X.w a L)) := Ex.new ha
  refine ⟨a, L, rfl, upd_same, fun z m => (tl z m).mono xa.xt, fun l zs us hl pm tz => ?_⟩
  have xl : Ex (upd H2 a (SetMO X.prog X.w a L)) (upd (upd H2 a (SetMO X.prog X.w a L)) l (.lst zs)) := Ex.new hl
  have e1 : sortPr us = sortPr (once bs) := sortPr_eq (pm.trans ((List.perm_ext_iff_of_nodup nd (once_nodup bs)).mpr fun b => by rw [mem b, mem_once]))
  rw [e1] at tz
  exact q l zs _ (x2.free (xa.free hl)) ((x2.trans xa).trans xl) upd_same (tz.mono xl.xt)
/-- a, b, .. = the list in a slot -/
theorem sx_unpackO {ts : List Expr} {k : Nat} {pt spos : Pos} {is : List Nat} {ds : List PyData} {ρ' : List Kd} {l : Addr} {xs : List V} {sts : List Stmt} {D : Ends} (hc : X.calm = true) (ho : OE X e ρ H l) (hH : H l = some (.lst xs)) (t : Tps X.K H xs ds) (hg : TgsE X ts is ds ρ ρ') (kk : SX X sts ρ' H D)
    (hn : (assignEach ts X.env).length = ds.length := by rfl) (hst : (assignEach ts X.env).findIdx? (·.1) = none := by rfl) (hs : swapsWithSole [.Tuple ts k pt] e spos.line X.env = pure false := by rfl) (hw : swappedStores [.Tuple ts k pt] e X.env = pure none := by rfl)
    (h1 : (assignEach [.Tuple ts k pt] X.env).map (·.2) = [assign (.Tuple ts k pt) X.env] := by rfl) : SX X (.Assign [.Tuple ts k pt] e spos :: sts) ρ H D :=
  sx_cons (ps_asg pe_re (pg_lst hc pgs_rgs hn hst) hs hw h1) fun σ s => ho σ H s (Ex.refl _) _ ⟨l, xs, rfl, SqL.of hH, t.len, hg σ H xs _ s t fun σ' s' _ => kk σ' s'⟩
end
section
variable {X : Cx} {e : Expr} {ρ : List Kd} {H : Hp} {spos : Pos} {p : Addr} {post : End → List Letter → Prop} {sts : List Stmt} {D : Ends}
/-- return f(known, ..): the new list of letters -/
theorem sx_retKm (he : GE X e ρ H (KmR X.K p H post)) (k : ∀ e' ls l xs H', post e' ls → Ch p H H' → Knw X.K H' p e' → H l = none → H' l = some (.lst xs) → Tps X.K H' xs (ls.map eLet) → D.rt (.ref l) H') : SX X (.Return (some e) spos :: sts) ρ H D :=
  sx_retG he fun v H' h => by
    obtain ⟨e', ls, l, xs, rfl, h1, h2, h3, h4, h5, h6⟩ := h
    exact k e' ls l xs H' h1 h2 h3 h4 h5 h6
end
theorem up_given (e : End) (g : Option (List Pr)) : ∀ j, (partsOf { e with given := g }).lookup j = if j = "given" then some (eOPrs g) else (partsOf e).lookup j :=
  tabs_put (tabs_eq (parts_keys _) (parts_keys _) (by kernel_rfl) (parts_all ⟨rfl, rfl, rfl, rfl, rfl, rfl, rfl, rfl, rfl, rfl, rfl, rfl, rfl, rfl, rfl⟩))
theorem up_number (e : End) (n : Int) : ∀ j, (partsOf { e with number := n }).lookup j = if j = "number" then some (.int n) else (partsOf e).lookup j :=
  tabs_put (tabs_eq (parts_keys _) (parts_keys _) (by kernel_rfl) (parts_all ⟨rfl, rfl, rfl, rfl, rfl, rfl, rfl, rfl, rfl, rfl, rfl, rfl, rfl, rfl, rfl⟩))
theorem up_planref (e : End) (p : Plan) (r : List Pr) : ∀ j, (partsOf { e with plan := p, refused := r }).lookup j = (([("plan", ePlan p), ("refused", ePrs r)] : List (Str × PyData)).lookup j).or ((partsOf e).lookup j) :=
  tabs_eq (parts_keys _) (parts_keys _) (by kernel_rfl) (parts_all ⟨rfl, rfl, rfl, rfl, rfl, rfl, rfl, rfl, rfl, rfl, rfl, rfl, rfl, rfl, rfl⟩)
structure AnswPre (e : End) (l : Letter) : Prop where
  beh : BehPre e.wishes e.plan l.pairs
  few : e.refused.length + l.pairs.length < 64
/-- what the answer adds to the refused -/
abbrev sumRef (e : End) (l : Letter) : List Pr := refSum e.refused (sortPr (newRef e l))
theorem sumRef_ok (e : End) (l : Letter) : RefOk (sumRef e l) e.refused (newRef e l) :=
  ⟨(refSum_ok _ _).1, fun p => by rw [(refSum_ok _ _).2 p, (sortPr_perm _).mem_iff]⟩
section
variable {P : Program} {w : World} {K : PySem.W.Frag} {mg : Str → Option Value} {base : Heap} {k : Nat}
theorem cal_heard_answer (T : Tx K mg w) (k : Nat) : Cal P w K mg base "heard_answer" (k + 6) (spKM K (fun a : End × Letter × Int => [eLet a.2.1, .int a.2.2]) (fun a => a.2.1.number = a.1.number → a.1.given = none → AnswPre a.1 a.2.1) (fun a => a.1) (fun a e' ls => e' = (heardAnswer (sumRef a.1 a.2.1) a.1 a.2.1 a.2.2).1 ∧ ls = (heardAnswer (sumRef a.1 a.2.1) a.1 a.2.1 a.2.2).2)) :=
  cal_KM d_heard_answer T.g_heard_answer T.f_heard_answer sc_heard_answer (fun _ _ _ _ _ _ us hl => match us, hl with | [_, _, _], _ => rfl) (fun _ => rfl) fun cdv A outer s H E Q a p hr hp hK q => by
  obtain ⟨e, l, tr⟩ := a
  have hK : Knw K H p e := hK
  have hpc : l.number = e.number → e.given = none → AnswPre e l := hp
  refine sx_unpack (de_name 1 rfl) (tg_tup (ds := [.str l.who, .str (sWord l.word), .int l.mine, .int l.yours, .int l.number, ePrs l.pairs]) rfl (tgs_cons (tg_name 4 sc_heard_answer.nd) (tgs_cons (tg_name 5 sc_heard_answer.nd) (tgs_cons (tg_name 6 sc_heard_answer.nd) (tgs_cons (tg_name 7 sc_heard_answer.nd) (tgs_cons (tg_name 8 sc_heard_answer.nd) (tgs_cons (tg_name 9 sc_heard_answer.nd) tgs_nil))))))) fun H1 x1 => ?_
  have hK1 := hK.mono x1
  refine sx_if (be_w (we_or (be_cmp (opd_ne hr (depth_int _) (depth_int _)) (de_name 8 rfl) (de_known hr (oe_name 0 rfl) hK1)) fun _ => we_or1 (be_cmp opd_notN (de_known hr (oe_name 0 rfl) hK1) de_non)))
    (fun hk H2 x2 => sx_retL (le_lst ae_nil) fun p2 ys H3 hp2 x3 hl t => q _ [] p2 ys H3 ?_ ((x1.trans x2).trans x3).ch (hK.mono ((x1.trans x2).trans x3)) ((x1.trans x2).free hp2) hl t) fun hk H2 x2 => sx_next ?_
  · rw [eqv_int, eqv_oprs_none, Bool.not_not] at hk
    have : l.number ≠ e.number ∨ e.given.isSome = true := by simpa using hk
    show _ = (heardAnswer (sumRef e l) e l tr).1 ∧ _ = (heardAnswer (sumRef e l) e l tr).2
    unfold heardAnswer
    rw [if_pos this]
    exact ⟨rfl, rfl⟩
  rw [eqv_int, eqv_oprs_none, Bool.not_not] at hk
  have hgo : ¬ (l.number ≠ e.number ∨ e.given.isSome = true) := by simpa using hk
  have hp : AnswPre e l := hpc (Classical.byContradiction fun z => hgo (.inl z)) (by
    cases hg : e.given with
    | none => rfl
    | some g => exact absurd (.inr (by rw [hg]; rfl)) hgo)
  have hK2 := hK1.mono x2
  refine sx_set (d := eBeh e.wishes e.plan l.word l.pairs) 3 sc_heard_answer.nd (de_fn (cal_behind T k) hr (e.wishes, e.plan, l.word, l.pairs) (ae_cons (de_known hr (oe_name 0 rfl) hK2) (ae_cons (de_known hr (oe_name 0 rfl) hK2) (ae_cons (de_tup (ae_cons (de_name 5 rfl) (ae_cons (de_name 9 rfl) ae_nil))) ae_nil))) hp.beh) fun H3 x3 => ?_
  have hK3 := hK2.mono x3
  have x03 : Ex H H3 := (x1.trans x2).trans x3
  have hmir : ∀ c, behind e.wishes e.plan l.word l.pairs = c → heardAnswer (sumRef e l) e l tr = match c with
      | none => (e, [])
      | some (.failed _) => (shutE e "failed", [writ e .bye 0 []])
      | some (.agreed a) => ({ e with tries := tr, given := some a }, [])
      | some (.plan p) => (planned e p (sumRef e l) tr, [askLet (planned e p (sumRef e l) tr)]) := fun c h => by
    unfold heardAnswer
    rw [if_neg hgo, h]
    all_goals rfl
  cases hb : behind e.wishes e.plan l.word l.pairs with
  | none =>
    have eb : eBeh e.wishes e.plan l.word l.pairs = .none := by unfold eBeh; rw [hb]
    rw [eb]
    refine sx_if (k := true) (be_cmp opd_isN (de_name 3 rfl) de_non) (fun _ H4 x4 => sx_retL (le_lst ae_nil) fun p2 ys H5 hp2 x5 hl t => q _ [] p2 ys H5 (by rw [hmir _ hb]; exact ⟨rfl, rfl⟩) ((x03.trans x4).trans x5).ch ((hK3.mono x4).mono x5) ((x03.trans x4).free hp2) hl t) fun h => absurd h (by decide)
  | some c =>
    cases c with
    | failed kd =>
      have eb : eBeh e.wishes e.plan l.word l.pairs = .tuple [.str "failed", .str kd] := by unfold eBeh; rw [hb]
      rw [eb]
      refine sx_if (k := false) (be_cmp opd_isN (de_name 3 rfl) de_non) (fun h => absurd h (by decide)) fun _ H4 x4 => sx_next ?_
      refine sx_star [.str "failed"] [.str kd] [] rfl (de_name 3 rfl) fun D' xs H5 hD x5 hx tx => ⟨_, tgk_cons 10 sc_heard_answer.nd (tgk_cons 13 sc_heard_answer.nd tgk_nil), ?_⟩
      have hK5 := (hK3.mono x4).mono x5
      have x05 := (x03.trans x4).trans x5
      refine sx_if (k := true) (BE.to (be_cmp (opd_eq hr (depth_str _) (depth_str _)) (de_name 10 rfl) de_str) (by rw [eqv_str]; exact decide_eq_true rfl)) (fun _ H6 x6 => ?_) fun h => absurd h (by decide)
      exact sx_retKm (ge_km (cal_shut T (k + 3)) hr (e, ("failed" : Str)) (ak_obj (oe_name 0 rfl) (ak_dat de_str ak_nil)) (by exact trivial) (by exact hK5.mono x6)) fun e' ls l7 xs7 H7 h1 h2 h3 h4 h5 h6 =>
        q e' ls l7 xs7 H7 (by rw [hmir _ hb]; exact h1) ((x05.trans x6).ch.trans h2) h3 ((x05.trans x6).free h4) h5 h6
    | agreed ag =>
      have eb : eBeh e.wishes e.plan l.word l.pairs = .tuple [.str "agreed", ePrs ag] := by unfold eBeh; rw [hb]
      rw [eb]
      refine sx_if (k := false) (be_cmp opd_isN (de_name 3 rfl) de_non) (fun h => absurd h (by decide)) fun _ H4 x4 => sx_next ?_
      refine sx_star [.str "agreed"] [ePrs ag] [] rfl (de_name 3 rfl) fun D' xs H5 hD x5 hx tx => ⟨_, tgk_cons 10 sc_heard_answer.nd (tgk_cons 13 sc_heard_answer.nd tgk_nil), ?_⟩
      have hK5 := (hK3.mono x4).mono x5
      have x05 := (x03.trans x4).trans x5
      refine sx_if (k := false) (BE.to (be_cmp (opd_eq hr (depth_str _) (depth_str _)) (de_name 10 rfl) de_str) (by rw [eqv_str]; decide +kernel)) (fun h => absurd h (by decide)) fun _ H6 x6 => sx_next ?_
      refine sx_dput (T' := partsOf { e with tries := tr }) hr (oe_name 0 rfl) de_str (hK5.mono x6) (de_name 2 rfl) (up_tries e tr) (by show 15 < 1000; decide) fun H7 c7 hK7 => ?_
      have hK7 : Knw K H7 p { e with tries := tr } := hK7
      refine sx_if (k := true) (BE.to (be_cmp (opd_eq hr (depth_str _) (depth_str _)) (de_name 10 rfl) de_str) (by rw [eqv_str]; exact decide_eq_true rfl)) (fun _ H8 x8 => ?_) fun h => absurd h (by decide)
      have hDp : D' ≠ p := new_apart (H := H) (hK3.mono x4) hD
      have hx8 : H8 D' = some (.lst xs) := x8 _ _ (c7.lst hDp (x6 _ _ hx))
      have tx8 : Tps K H8 xs [ePrs ag] := ((tx.mono x6.xt).mono c7.2).mono x8.xt
      refine sx_dput (T' := partsOf { e with tries := tr, given := some ag }) hr (oe_name 0 rfl) de_str (hK7.mono x8) (de_ixO 0 (oe_name 13 rfl) (SqL.of hx8) tx8 rfl) (up_given { e with tries := tr } (some ag)) (by show 15 < 1000; decide) fun H9 c9 hK9 => ?_
      have hK9 : Knw K H9 p { e with tries := tr, given := some ag } := hK9
      have c09 : Ch p H H9 := (((x05.trans x6).ch.trans c7).trans x8.ch).trans c9
      exact sx_retL (le_lst ae_nil) fun p2 ys H10 hp2 x10 hl t => q _ [] p2 ys H10 (by rw [hmir _ hb]; exact ⟨rfl, rfl⟩) (c09.trans x10.ch) (hK9.mono x10) (ch_free c09 hK9 hp2) hl t
    | plan pl =>
      have eb : eBeh e.wishes e.plan l.word l.pairs = .tuple [.str "plan", ePlan pl, ePrs (sortPr (newRef e l))] := by unfold eBeh; rw [hb]; rfl
      rw [eb]
      refine sx_if (k := false) (be_cmp opd_isN (de_name 3 rfl) de_non) (fun h => absurd h (by decide)) fun _ H4 x4 => sx_next ?_
      refine sx_star [.str "plan"] [ePlan pl, ePrs (sortPr (newRef e l))] [] rfl (de_name 3 rfl) fun D' xs H5 hD x5 hx tx => ⟨_, tgk_cons 10 sc_heard_answer.nd (tgk_cons 13 sc_heard_answer.nd tgk_nil), ?_⟩
      have hK5 := (hK3.mono x4).mono x5
      have x05 := (x03.trans x4).trans x5
      refine sx_if (k := false) (BE.to (be_cmp (opd_eq hr (depth_str _) (depth_str _)) (de_name 10 rfl) de_str) (by rw [eqv_str]; decide +kernel)) (fun h => absurd h (by decide)) fun _ H6 x6 => sx_next ?_
      refine sx_dput (T' := partsOf { e with tries := tr }) hr (oe_name 0 rfl) de_str (hK5.mono x6) (de_name 2 rfl) (up_tries e tr) (by show 15 < 1000; decide) fun H7 c7 hK7 => ?_
      have hK7 : Knw K H7 p { e with tries := tr } := hK7
      refine sx_if (k := false) (BE.to (be_cmp (opd_eq hr (depth_str _) (depth_str _)) (de_name 10 rfl) de_str) (by rw [eqv_str]; decide +kernel)) (fun h => absurd h (by decide)) fun _ H8 x8 => sx_next ?_
      have hDp : D' ≠ p := new_apart (H := H) (hK3.mono x4) hD
      have hx8 : H8 D' = some (.lst xs) := x8 _ _ (c7.lst hDp (x6 _ _ hx))
      have tx8 : Tps K H8 xs [ePlan pl, ePrs (sortPr (newRef e l))] := ((tx.mono x6.xt).mono c7.2).mono x8.xt
      refine sx_unpackO rfl (oe_name 13 rfl) hx8 tx8 (tgs_cons (tg_name 11 sc_heard_answer.nd) (tgs_cons (tg_name 12 sc_heard_answer.nd) tgs_nil)) ?_
      have hK8 := hK7.mono x8
      have len1 : (sortPr (newRef e l)).length = l.pairs.length := by rw [(sortPr_perm _).length_eq]; exact List.length_map ..
      have few := hp.few
      refine sx_update (T' := partsOf { e with tries := tr, plan := pl, refused := sumRef e l }) (oe_name 0 rfl) hK8 (me_disp (T := [("plan", ePlan pl), ("refused", ePrs (sumRef e l))]) (pd_cons (de_name 11 rfl) (pd_cons (DE.to (de_tupleL rfl T.n_tuple (le_sortedSet (bs := e.refused ++ sortPr (newRef e l)) rfl hr rfl T.n_sorted rfl T.n_set
        (DE.to (de_bin (opd_cat (ds := e.refused.map ePr) (es := (sortPr (newRef e l)).map ePr) (by simp only [List.length_map]; exact small1k (by omega))) (de_known hr (oe_name 0 rfl) hK8) (de_name 12 rfl)) (by rw [ePrs, List.map_append])) (by rw [List.length_append]; omega))) rfl) pd_nil))) (up_planref { e with tries := tr } pl (sumRef e l)) (by show 17 ≤ 1000; decide) fun H9 c9 hK9 => ?_
      have hK9 : Knw K H9 p { e with tries := tr, plan := pl, refused := sumRef e l } := hK9
      refine sx_dadd (T' := partsOf (planned e pl (sumRef e l) tr)) hr (oe_name 0 rfl) de_str hK9 (i := e.number) rfl (de_int (i := 1)) (up_number { e with tries := tr, plan := pl, refused := sumRef e l } _) (by show 15 < 1000; decide) fun H10 c10 hK10 => ?_
      have hK10 : Knw K H10 p (planned e pl (sumRef e l) tr) := hK10
      have c010 : Ch p H H10 := ((((x05.trans x6).ch.trans c7).trans x8.ch).trans c9).trans c10
      exact sx_retL (le_single (de_kd (cal_ask_written T (k + 3)) hr (planned e pl (sumRef e l) tr) (ak_obj (oe_name 0 rfl) ak_nil) (show e.wishes.length ≤ 1000 from by have := hp.beh.wlen; omega) hK10)) fun p2 ys H11 hp2 x11 hl t => q _ [askLet (planned e pl (sumRef e l) tr)] p2 ys H11 (by rw [hmir _ hb]; exact ⟨rfl, rfl⟩) (c010.trans x11.ch) (hK10.mono x11) (ch_free c010 hK10 hp2) hl t
end
end CW
/-! part CwG -/
set_option maxRecDepth 100000
set_option maxHeartbeats 4000000
/-! Readings of expressions that change the heap. -/
namespace CW
open PySem PySem.Spec PyProof.Rows L2
section
variable {X : Cx} {e : Expr} {es : List Expr} {σ : L2.St} {H : Hp}
theorem re_mono {Q Q' : VK} (h : RE X e σ H Q) (q : ∀ v H', Q v H' → Q' v H') : RE X e σ H Q' := ⟨fun pins s I => wpAny_mono (h.run pins s I) (fun _ _ ⟨x, H1, I1, r, z⟩ => ⟨x, H1, I1, r, q _ _ z⟩) fun _ _ z => z⟩
theorem rt_mono {Q Q' : Bool → Hp → Prop} (h : RT X e σ H Q) (q : ∀ v H', Q v H' → Q' v H') : RT X e σ H Q' := ⟨fun pins s I => wpAny_mono (h.run pins s I) (fun _ _ ⟨H1, I1, z⟩ => ⟨H1, I1, q _ _ z⟩) fun _ _ z => z⟩
theorem rw_mono {Q Q' : Bool → Hp → Prop} (h : RW X e σ H Q) (q : ∀ v H', Q v H' → Q' v H') : RW X e σ H Q' := ⟨fun wh pins s I => wpAny_mono (h.run wh pins s I) (fun _ _ ⟨H1, I1, z⟩ => ⟨H1, I1, q _ _ z⟩) fun _ _ z => z⟩
theorem ra_mono {Q Q' : List V → Hp → Prop} (h : RA X es σ H Q) (q : ∀ v H', Q v H' → Q' v H') : RA X es σ H Q' := ⟨fun pos pins s I => wpAny_mono (h.run pos pins s I) (fun _ _ ⟨x, H1, I1, r, z⟩ => ⟨x, H1, I1, r, q _ _ z⟩) fun _ _ z => z⟩
end
def WX (X : Cx) (e : Expr) (ρ : List Kd) (H : Hp) (Q : VK) : Prop := ∀ σ, Sl X.K H σ ρ → RE X e σ H Q
def GT (X : Cx) (e : Expr) (ρ : List Kd) (H : Hp) (Q : Bool → Hp → Prop) : Prop := ∀ σ, Sl X.K H σ ρ → RT X e σ H Q
def GW (X : Cx) (e : Expr) (ρ : List Kd) (H : Hp) (Q : Bool → Hp → Prop) : Prop := ∀ σ, Sl X.K H σ ρ → RW X e σ H Q
def GA (X : Cx) (es : List Expr) (ρ : List Kd) (H : Hp) (Q : List V → Hp → Prop) : Prop := ∀ σ, Sl X.K H σ ρ → RA X es σ H Q
section
variable {X : Cx} {e a b c o : Expr} {es rest : List Expr} {kws : List Keyword} {ρ : List Kd} {H : Hp} {Q Q' : VK} {B : Bool → Hp → Prop} {L : List V → Hp → Prop} {d : PyData} {ds : List PyData} {pos p1 apos cpos : Pos} {x : Str} {k n : Nat} {sp : Sp} {j : Nat}
theorem WX.mono (h : WX X e ρ H Q) (q : ∀ v H', Q v H' → Q' v H') : WX X e ρ H Q' := fun σ s => re_mono (h σ s) q
theorem gx_ge {P : V → Hp → Prop} (h : GE X e ρ H P) (q : ∀ v H', P v H' → Q v H') : WX X e ρ H Q := fun σ s => h σ s Q q
theorem ge_gx (h : WX X e ρ H Q) : GE X e ρ H Q := fun σ s _ q => re_mono (h σ s) q
theorem gx_de (h : DE X e ρ H d) (q : ∀ v H1, Ex H H1 → Tp X.K H1 v d → Q v H1) : WX X e ρ H Q := fun σ s => h σ H s (Ex.refl _) Q q
theorem gx_le (h : LE X e ρ H ds) (q : ∀ p xs H1, H p = none → Ex H H1 → H1 p = some (.lst xs) → Tps X.K H1 xs ds → Q (.ref p) H1) : WX X e ρ H Q := fun σ s => h σ H s (Ex.refl _) Q q
theorem gx_oe {p : Addr} (h : OE X e ρ H p) (q : Q (.ref p) H) : WX X e ρ H Q := fun σ s => h σ H s (Ex.refl _) Q q
theorem gx_me {T : List (Str × PyData)} (h : ME X e ρ H T) (q : ∀ p kvs H1, H p = none → Ex H H1 → H1 p = some (.dK kvs) → TabK X.K H1 kvs T → Q (.ref p) H1) : WX X e ρ H Q := fun σ s => h σ H s (Ex.refl _) Q q
theorem gt_be {k : Bool} (h : BE X c ρ H k) (q : ∀ H1, Ex H H1 → B k H1) : GT X c ρ H B := fun σ s => h σ H s (Ex.refl _) B q
theorem gx_op {op : Operator} {r : R2} (ho : OpR X (binaryOp op) r) (h : WX X a ρ H fun x H1 => Xt H H1 ∧ WX X b ρ H1 fun y H2 => r x y H2 Q) : WX X (.BinOp a op b pos) ρ H Q := fun σ s =>
  re_of (pe_op ho pe_re pe_re) (re_mono (h σ s) fun x H1 ⟨xt, g⟩ => g σ (s.mono xt))
theorem gx_cmp {op : CmpOp} {r : R2} (ho : OpR X (compareOp op) r) (h : WX X a ρ H fun x H1 => Xt H H1 ∧ WX X b ρ H1 fun y H2 => r x y H2 Q) (hm : behindInMarks op b = false := by first | exact nomark _ | rfl | with_unfolding_all rfl) : WX X (.Compare a [op] [b] pos) ρ H Q := fun σ s =>
  re_of (pe_cmpR ho pe_re pe_re hm) (re_mono (h σ s) fun x H1 ⟨xt, g⟩ => g σ (s.mono xt))
theorem gt_cmp {op : CmpOp} {r : R2} (ho : OpR X (compareOp op) r) (h : WX X a ρ H fun x H1 => Xt H H1 ∧ WX X b ρ H1 fun y H2 => r x y H2 fun v H3 => ∃ k, v = .bl k ∧ B k H3) (hm : behindInMarks op b = false := by first | exact nomark _ | rfl | with_unfolding_all rfl) : GT X (.Compare a [op] [b] pos) ρ H B := fun σ s =>
  rt_of (pt_cmpR ho pe_re pe_re hm) (re_mono (h σ s) fun x H1 ⟨xt, g⟩ => g σ (s.mono xt))
theorem gw_and (h : GT X a ρ H fun k H1 => Xt H H1 ∧ if k = true then GW X (.BoolOp .And (b :: rest) pos) ρ H1 B else B false H1) : GW X (.BoolOp .And (a :: b :: rest) pos) ρ H B := fun σ s =>
  rw_of (pw_and pt_rt pw_rw) (rt_mono (h σ s) fun k H1 ⟨xt, g⟩ => by
    by_cases hk : k = true
    · rw [if_pos hk] at g ⊢; exact g σ (s.mono xt)
    · rw [if_neg hk] at g ⊢; exact g)
theorem gw_and1 (h : GT X a ρ H B) : GW X (.BoolOp .And [a] pos) ρ H B := fun σ s => rw_of (pw_and1 pt_rt) (h σ s)
theorem gw_or (h : GT X a ρ H fun k H1 => Xt H H1 ∧ if k = true then B true H1 else GW X (.BoolOp .Or (b :: rest) pos) ρ H1 B) : GW X (.BoolOp .Or (a :: b :: rest) pos) ρ H B := fun σ s =>
  rw_of (pw_or pt_rt pw_rw) (rt_mono (h σ s) fun k H1 ⟨xt, g⟩ => by
    by_cases hk : k = true
    · rw [if_pos hk] at g ⊢; exact g
    · rw [if_neg hk] at g ⊢; exact g σ (s.mono xt))
theorem gw_or1 (h : GT X a ρ H B) : GW X (.BoolOp .Or [a] pos) ρ H B := fun σ s => rw_of (pw_or1 pt_rt) (h σ s)
theorem gt_w (h : GW X e ρ H B) : GT X e ρ H B := fun σ s => rt_of (pw_rw (X := X) (e := e)).pt (h σ s)
theorem gt_not (h : GT X a ρ H fun k H1 => B (!k) H1) : GT X (.UnaryOp .Not a pos) ρ H B := fun σ s => rt_of (pt_not pt_rt) (h σ s)
theorem gt_val (h : WX X e ρ H fun v H1 => ∃ k, v = .bl k ∧ B k H1) (he : ∀ whole, isTrue e X.env whole = (do let v ← whole; standAt e.pos; holding [v] (truthy v)) := by intro _; rfl) : GT X e ρ H B := fun σ s =>
  rt_of (pt_val pe_re he) (h σ s)
theorem ga_nil (h : L [] H) : GA X [] ρ H L := fun σ s => ra_of pa_nil h
theorem ga_cons (h : WX X e ρ H fun v H1 => Xt H H1 ∧ GA X es ρ H1 fun vs H2 => L (v :: vs) H2) (hs : starEach (e :: es) X.env = (false, eval e X.env) :: starEach es X.env := by rfl) : GA X (e :: es) ρ H L := fun σ s =>
  ra_of (pa_cons pe_re pa_ra hs) (re_mono (h σ s) fun x H1 ⟨xt, g⟩ => g σ (s.mono xt))
theorem ga_de (h : DE X e ρ H d) (q : ∀ v H1, Ex H H1 → Tp X.K H1 v d → GA X es ρ H1 fun vs H2 => L (v :: vs) H2) (hs : starEach (e :: es) X.env = (false, eval e X.env) :: starEach es X.env := by rfl) : GA X (e :: es) ρ H L :=
  ga_cons (gx_de h fun v H1 x t => ⟨x.xt, q v H1 x t⟩) hs
theorem ga_oe {p : Addr} (h : OE X e ρ H p) (q : GA X es ρ H fun vs H2 => L (.ref p :: vs) H2) (hs : starEach (e :: es) X.env = (false, eval e X.env) :: starEach es X.env := by rfl) : GA X (e :: es) ρ H L :=
  ga_cons (gx_oe h ⟨Xt.refl _, q⟩) hs
theorem gx_call (C : Cal X.prog X.w X.K X.mg X.base x k sp) (hr : Room k X.A) (h : GA X (e :: es) ρ H fun vs H1 => sp vs H1 Q E0) (hg : Gl X x := by rfl)
    (hdb : (x == ("__debug__" : Str)) = false := by decide) (he : starEach (e :: es) X.env = (false, eval e X.env) :: starEach es X.env := by rfl) (hpl : (backTo pos (starEach es X.env)).any (·.1) = false := by rfl) : WX X (.Call (.Name x p1) (e :: es) [] pos) ρ H Q := fun σ s =>
  re_call C hr hg (h σ s) hdb he hpl
theorem gx_callK {ks : List Str} {sp : List V → Sp} (C : CalK X.prog X.w X.K X.mg X.base x n ks k sp) (hr : Room k X.A) (h : GA X (e :: es) ρ H fun vs H1 => Xt H H1 ∧ KW X kws ρ H1 ds ∧ ∀ zs H2, Ex H1 H2 → Tps X.K H2 zs ds → vs.length = n ∧ sp vs zs H2 Q E0)
    (hm : ds.length = ks.length := by rfl) (hg : Gl X x := by rfl)
    (hall : (backToKw pos (keywordEach kws X.env)).all (·.1.isSome) = true := by rfl) (hks : (backToKw pos (keywordEach kws X.env)).filterMap (·.1) = ks := by rfl)
    (hdb : (x == ("__debug__" : Str)) = false := by decide) (he : starEach (e :: es) X.env = (false, eval e X.env) :: starEach es X.env := by rfl)
    (hpl : ((backTo pos (starEach (e :: es) X.env)).any (·.1) || (backToKw pos (keywordEach kws X.env)).any (·.1.isNone)) = false := by rfl) : WX X (.Call (.Name x p1) (e :: es) kws pos) ρ H Q := fun σ s =>
  re_callK C hr hg (ra_mono (h σ s) fun vs H1 ⟨xt, g, q⟩ => g σ H1 (s.mono xt) (Ex.refl _) _ fun zs H2 x2 tz => by
    obtain ⟨q1, q2⟩ := q zs H2 x2 tz
    exact ⟨q1, tz.len.trans hm, q2⟩) hall hks hdb he hpl
theorem gx_callB {id : String} {r : List V → Hp → VK → Prop} (hc : CallR X (.builtin id) r) (hm : X.mg x = none) (hv : bootBuiltins x = some (.builtin id)) (h : GA X (e :: es) ρ H fun vs H1 => r vs H1 Q) (hg : Gl X x := by rfl) (hn : x ≠ "__name__" := by decide) (hdb : (x == ("__debug__" : Str)) = false := by decide)
    (he : starEach (e :: es) X.env = (false, eval e X.env) :: starEach es X.env := by rfl) (hpl : (backTo pos (starEach es X.env)).any (·.1) = false := by rfl) : WX X (.Call (.Name x p1) (e :: es) [] pos) ρ H Q := fun σ s =>
  re_of (pe_callB hc hg hm hv pa_ra hn hdb he hpl) (h σ s)
theorem gx_callTy {T : String} {r : List V → Hp → VK → Prop} (hc : CallR X (.type T) r) (hm : X.mg x = none) (hv : bootBuiltins x = some (.type T)) (h : GA X (e :: es) ρ H fun vs H1 => r vs H1 Q) (hg : Gl X x := by rfl) (hn : x ≠ "__name__" := by decide) (hdb : (x == ("__debug__" : Str)) = false := by decide)
    (he : starEach (e :: es) X.env = (false, eval e X.env) :: starEach es X.env := by rfl) (hpl : (backTo pos (starEach es X.env)).any (·.1) = false := by rfl) : WX X (.Call (.Name x p1) (e :: es) [] pos) ρ H Q := fun σ s =>
  re_of (pe_callTy hc hg hm hv pa_ra hn hdb he hpl) (h σ s)
theorem gx_bm {T id : String} {name : Str} {r : V → List V → Hp → VK → Prop} (pa : PlainAttrs T) (slot : Slot T name id) (hty : typeOf (.builtin id) = pure (.type "method_descriptor")) (hm : MtM X id r) (h : WX X o ρ H fun x H1 => Xt H H1 ∧ tyV X.K T x H1 ∧ GA X (e :: es) ρ H1 fun xs H2 => r x xs H2 Q)
    (hbase : attributeBase o name X.env (eval o X.env) = eval o X.env := by rfl)
    (hfew : ((backTo cpos (starEach (e :: es) X.env)).all (fun x => !x.1) && (backToKw cpos (keywordEach [] X.env)).all (fun x => x.1.isSome)
      && decide ((e :: es).length + ([] : List Keyword).length + (if ([] : List Keyword).isEmpty then 0 else 1) < 30)) = true := by rfl)
    (hline : (apos.endLine == cpos.line) = true := by rfl) (hs : starEach (e :: es) X.env = (false, eval e X.env) :: starEach es X.env := by rfl) (hplain : (backTo cpos (starEach es X.env)).any (·.1) = false := by rfl) :
    WX X (.Call (.Attribute o name apos) (e :: es) [] cpos) ρ H Q := fun σ s =>
  re_of (pe_bm pa slot hty hm pe_re pa_ra hbase hfew hline hs hplain) (re_mono (h σ s) fun x H1 ⟨xt, ty, g⟩ => ⟨ty, g σ (s.mono xt)⟩)
theorem gx_ix {r : R2} (hr : IxR X r) (h : WX X a ρ H fun x H1 => Xt H H1 ∧ WX X b ρ H1 fun y H2 => r x y H2 Q) (hs : PlainIx b := by exact fun _ _ => rfl) : WX X (.Subscript a b pos) ρ H Q := fun σ s =>
  re_of (pe_ix hr pe_re pe_re hs) (re_mono (h σ s) fun x H1 ⟨xt, g⟩ => g σ (s.mono xt))
theorem gx_dget (hr : Room j X.A) (h : WX X a ρ H fun x H1 => Xt H H1 ∧ WX X b ρ H1 fun y H2 => ∃ a v, x = .ref a ∧ DGet H2 a y (some v) ∧ Q v H2) (hs : NoSl b := by exact fun _ _ => rfl) : WX X (.Subscript a b pos) ρ H Q := fun σ s =>
  re_of (pe_dget (hu_of hr) pe_re pe_re hs) (re_mono (h σ s) fun x H1 ⟨xt, g⟩ => g σ (s.mono xt))
theorem gx_tup {k : Nat} (h : GA X es ρ H fun xs H1 => xs.length ≤ sizeLine ∧ ∀ p o, H1 p = none → o.dict = Option.none → Q (.ref p) (upd H1 p (.frz o (.tup xs)))) : WX X (.Tuple es k pos) ρ H Q := fun σ s => re_of (pe_tupF pa_ra) (h σ s)
theorem gx_lst (h : GA X es ρ H fun xs H1 => xs.length ≤ sizeLine ∧ ∀ p, H1 p = none → Q (.ref p) (upd H1 p (.lst xs))) : WX X (.List es pos) ρ H Q := fun σ s => re_of (pe_lst pa_ra) (h σ s)
/-! ### statements -/
variable {sts sa sb : List Stmt} {D : Ends} {nm : Str} {pos' : Pos}
theorem sx_setX (i : Nat) (hN : X.N.Nodup) (h : WX X e ρ H fun v H1 => ∃ kd, KdOk X.K H1 kd (some v) ∧ Xt H H1 ∧ SX X sts (ρ.set i kd) H1 D) (hi : X.N[i]? = some nm := by rfl) (hx : Loc X.env.scope nm := by first | exact Or.inl rfl | exact Or.inr rfl)
    (hs : swapsWith e (some (.Name nm pos')) pos.line X.env = pure false := by rfl) (hf : X.fn nm = true ∨ X.env.scope.names.lookup nm = some .local := by first | exact .inl rfl | exact .inr rfl) : SX X (.Assign [.Name nm pos'] e pos :: sts) ρ H D :=
  sx_setG i hN (ge_gx h) (fun _ _ q => q) hi hx hs hf
theorem sx_dropX (h : WX X e ρ H fun v H1 => Xt H H1 ∧ SX X sts ρ H1 D) (hs : swapsWith e none pos.line X.env = pure false := by rfl) : SX X (.Expr e pos :: sts) ρ H D := sx_drop (ge_gx h) (fun _ _ q => q) hs
theorem sx_retX (h : WX X e ρ H D.rt) : SX X (.Return (some e) pos :: sts) ρ H D := sx_cons (ps_ret pe_re) fun σ s => h σ s
theorem sx_ifX (h : GT X c ρ H fun k H1 => Xt H H1 ∧ if k = true then SX X sa ρ H1 (thenD X sts D) else SX X sb ρ H1 (thenD X sts D)) : SX X (.If c sa sb pos :: sts) ρ H D :=
  sx_cons (ps_if pt_rt pss_rss pss_rss) fun σ s => rt_mono (h σ s) fun k H1 ⟨xt, g⟩ => by
    by_cases hk : k = true
    · rw [if_pos hk] at g ⊢; exact g σ (s.mono xt)
    · rw [if_neg hk] at g ⊢; exact g σ (s.mono xt)
theorem sx_dputX (hr : Room j X.A) (h : WX X e ρ H fun v H1 => Xt H H1 ∧ WX X o ρ H1 fun x H2 => Xt H1 H2 ∧ WX X b ρ H2 fun y H3 => ∃ a H4, x = .ref a ∧ DPut H3 a y v H4 ∧ Xt H H4 ∧ SX X sts ρ H4 D)
    (hs : swapsWith e (some (.Subscript o b pos')) pos.line X.env = pure false := by rfl) : SX X (.Assign [.Subscript o b pos'] e pos :: sts) ρ H D :=
  sx_cons (ps_dput (hu_of hr) pe_re pe_re pe_re hs) fun σ s => re_mono (h σ s) fun v H1 ⟨x1, g⟩ => re_mono (g σ (s.mono x1)) fun x H2 ⟨x2, g⟩ => re_mono (g σ ((s.mono x1).mono x2)) fun y H3 ⟨a, H4, e1, dp, xt, g⟩ => ⟨a, H4, e1, dp, g σ (s.mono xt)⟩
theorem sx_whileX (I : Nat → List Kd → Hp → Prop) (hp : PassesOwn (model X.prog X.w) X.A X.env X.xe) (m0 : Nat) (h0 : I m0 ρ H) (turn : ∀ m ρ' H', I m ρ' H' → GT X c ρ' H' fun k H1 => Xt H' H1 ∧
    if k = true then SX X sb ρ' H1 (loopD X sts D fun σ H4 => ∃ m', m' < m ∧ ∃ ρ4, Sl X.K H4 σ ρ4 ∧ I m' ρ4 H4) else SX X sts ρ' H1 D) : SX X (.While c sb [] pos :: sts) ρ H D :=
  sx_cons (ps_while hp pt_rt pss_rss) fun σ s => ⟨fun m σ' H' => ∃ ρ', Sl X.K H' σ' ρ' ∧ I m ρ' H', ⟨m0, ρ, s, h0⟩, fun m σ' H' ⟨ρ', s', i'⟩ => rt_mono (turn m ρ' H' i' σ' s') fun k H1 ⟨xt, g⟩ => by
    by_cases hk : k = true
    · rw [if_pos hk] at g ⊢
      exact ⟨fun σ H4 => ∃ m', m' < m ∧ ∃ ρ4, Sl X.K H4 σ ρ4 ∧ I m' ρ4 H4, fun σ4 H4 ⟨m', hm, ρ4, s4, i4⟩ => ⟨m', hm, ρ4, s4, i4⟩, g σ' (s'.mono xt)⟩
    · rw [if_neg hk] at g ⊢
      exact g σ' (s'.mono xt)⟩
/-! ### loops over what an expression that changes the heap comes to -/
variable {tg iter : Expr}
def IGX (zf : Bool) (X : Cx) (tg iter : Expr) (ρ : List Kd) (H : Hp) (G : Hp → Hp → Prop) (Post : List PyData → Hp → Prop) : Prop := ∃ wi, PI X tg iter wi ∧ ∀ σ, Sl X.K H σ ρ → ∀ R : It → Hp → Prop, (∀ J H2 ds, Post ds H2 → YldsG zf X.K J (G H2) ds → R J H2) → wi σ H R
theorem igx_ig {zf : Bool} {G : Hp → Hp → Prop} (h : IG zf X tg iter ρ H G ds) : IGX zf X tg iter ρ H G (fun ds' H2 => ds' = ds ∧ Ex H H2) := by
  obtain ⟨wi, pi, hw⟩ := h
  exact ⟨wi, pi, fun σ s R r => hw σ H s (Ex.refl _) R fun J H2 x2 y => r J H2 ds ⟨rfl, x2⟩ y⟩
def rangeD (j : Int) : List PyData := (List.range j.toNat).map fun i => .int (i : Nat)
theorem yldsg_range {K : PySem.W.Frag} {j : Int} {G : Hp → Prop} : YldsG false K (Itr 0 j.toNat) G (rangeD j) := fun H' x3 => ⟨by simp [Itr, rangeD]; omega, fun i d hd => by
    unfold rangeD at hd
    rw [List.getElem?_map] at hd
    cases q : (List.range j.toNat)[i]? with
    | none => rw [q] at hd; cases hd
    | some z =>
      obtain ⟨hz, e⟩ := List.getElem?_eq_some_iff.mp q
      rw [List.getElem_range] at e
      subst e
      rw [q] at hd
      cases hd
      rw [List.length_range] at hz
      refine ⟨by show i < j.toNat; exact hz, fun w H'' y => ?_⟩
      obtain ⟨rfl, rfl⟩ := y
      refine ⟨Ex.refl _, ?_⟩
      show TpZ false K _ (.int (0 + (i : Int))) (.int (i : Nat))
      rw [Int.zero_add]
      exact (Tp.int _).z⟩
theorem igx_range {G : Hp → Hp → Prop} {Post : List PyData → Hp → Prop} (hm : X.mg "range" = none) (h : WX X e ρ H fun v H1 => ∃ j, v = .int j ∧ -(2 ^ 62) ≤ j ∧ j < 2 ^ 62 ∧ Post (rangeD j) H1) (hg : Gl X "range" := by rfl) (hs : starEach [e] X.env = (false, eval e X.env) :: starEach [] X.env := by rfl) :
    IGX false X tg (.Call (.Name "range" p1) [e] [] pos) ρ H G Post :=
  ⟨_, pi_range1 hg hm (pa_cons pe_re pa_nil hs) hs, fun σ s R r => re_mono (h σ s) fun v H2 ⟨j, e1, h1, h2, p⟩ => ⟨j, by rw [e1], h1, h2, r _ H2 _ p yldsg_range⟩⟩
theorem sx_forX {zf : Bool} {G : Hp → Hp → Prop} {Post : List PyData → Hp → Prop} (I : List PyData → Hp → Nat → List Kd → Hp → Prop) (hc : X.calm = true) (hp : PassesOwn (model X.prog X.w) X.A X.env X.xe) (hi : IGX zf X tg iter ρ H G Post)
    (h0 : ∀ ds H2, Post ds H2 → Xt H H2 ∧ I ds H2 0 ρ H2)
    (hG : ∀ ds H2 i ρ' H', Post ds H2 → i ≤ ds.length → I ds H2 i ρ' H' → G H2 H')
    (turn : ∀ ds H2 i d ρ' H', Post ds H2 → ds[i]? = some d → I ds H2 i ρ' H' → ∃ is ρ'', TgE zf X tg is d ρ' ρ'' ∧ ∀ H3, Ex H' H3 → SX X sb ρ'' H3 (loopD X sts D fun σ H4 => ∃ ρ4, Sl X.K H4 σ ρ4 ∧ I ds H2 (i + 1) ρ4 H4))
    (k : ∀ ds H2 ρ' H', Post ds H2 → I ds H2 ds.length ρ' H' → SX X sts ρ' H' D) (hs : ∀ x, foldedSetIterable iter X.env x = pure x := by intro _; rfl) : SX X (.For tg iter sb [] pos :: sts) ρ H D := by
  obtain ⟨wi, pi, hw⟩ := hi
  refine sx_cons (ps_for hp hc pi pg_rg pss_rss hs) fun σ s => hw σ s _ fun J H2 ds p y => ?_
  obtain ⟨xt, i0⟩ := h0 ds H2 p
  refine ⟨fun i m σ' H' => m = ds.length - i ∧ i ≤ ds.length ∧ ∃ ρ', Sl X.K H' σ' ρ' ∧ I ds H2 i ρ' H', ⟨_, rfl, Nat.zero_le _, ρ, s.mono xt, i0⟩, ?_⟩
  rintro i m σ' H' ⟨rfl, hi, ρ', s', inv⟩
  obtain ⟨y1, y2⟩ := y H' (hG ds H2 i ρ' H' p hi inv)
  by_cases e : i = ds.length
  · subst e
    exact .inl ⟨y1, k ds H2 ρ' H' p inv σ' s'⟩
  · right
    have hlt : i < ds.length := by omega
    have hd : ds[i]? = some ds[i] := List.getElem?_eq_getElem hlt
    obtain ⟨go, yl⟩ := y2 i _ hd
    refine ⟨go, fun σ4 H4 => ∃ ρ4, Sl X.K H4 σ4 ρ4 ∧ I ds H2 (i + 1) ρ4 H4, fun σ4 H4 n => ⟨ds.length - (i + 1), by omega, rfl, hlt, n⟩, fun v H3 hy => ?_⟩
    obtain ⟨x3, tv⟩ := yl v H3 hy
    obtain ⟨is, ρ'', ht, hb⟩ := turn ds H2 i _ ρ' H' p hd inv
    exact ht σ' H3 v _ (s'.mono x3.xt) tv fun σ4 s4 _ => hb H3 x3 σ4 s4
/-! ### comprehensions whose turns change the heap -/
def GTs (X : Cx) (ifs : List Expr) (ρ : List Kd) (H : Hp) (B : Bool → Hp → Prop) : Prop := match ifs with
  | [] => B true H
  | [c] => GT X c ρ H B
  | _ => False
theorem gts_run {ifs : List Expr} (h : GTs X ifs ρ H B) {σ : L2.St} (s : Sl X.K H σ ρ) : RTs X ifs σ H B := by
  match ifs, h with
  | [], h => exact ⟨fun pins st I => (pts_nil (X := X)).run pins st σ H B I h⟩
  | [c], h => exact ⟨fun pins st I => (pts_one (pt_rt (X := X) (e := c))).run pins st σ H B I (h σ s)⟩
theorem gx_lc {zf : Bool} {elt : Expr} {ifs : List Expr} {scope : Scope} {own : List (Str × Nat)} {G : Hp → Hp → Prop} {Post : List PyData → Hp → Prop} (I : List PyData → Hp → Addr → Nat → List V → Hp → Prop) (hc : X.calm = true) (hN : X.N.Nodup) (hi : IGX zf X tg iter ρ H G Post) (ok : BlkOk X.N X.env.scope scope own)
    (h0 : ∀ ds H1 D, Post ds H1 → H1 D = none → Xt H H1 ∧ I ds H1 D 0 [] (upd H1 D (.lst [])))
    (hG : ∀ ds H1 D i acc H', Post ds H1 → H1 D = none → i ≤ ds.length → I ds H1 D i acc H' → G H1 H' ∧ Xt H1 H' ∧ acc.length ≤ 1000)
    (turn : ∀ ds H1 D i acc H' d, Post ds H1 → H1 D = none → ds[i]? = some d → H' D = some (.lst acc) → I ds H1 D i acc H' → ∃ is ρ', (∀ i ∈ is, i ∈ own.map (·.2)) ∧ ∀ (s : Shared) (H0 : Hp) (C : Addr) (cl : List (Str × Addr)) (fp : List Addr),
      TgE zf (X.blk s H0 scope (compEnvC scope cl C X.env) fp) tg is d (wipeK ρ (own.map (·.2))) ρ' ∧ ∀ H3, Ex H' H3 → GTs (X.blk s H0 scope (compEnvC scope cl C X.env) fp) ifs ρ' H3 fun k H4 => Xt H3 H4 ∧
        if k = true then ∀ (s : Shared) (H0 : Hp) (C : Addr) (cl : List (Str × Addr)) (fp : List Addr), WX (X.blk s H0 scope (compEnvC scope cl C X.env) fp) elt ρ' H4 fun v H5 => H5 D = some (.lst acc) ∧ I ds H1 D (i + 1) (acc ++ [v]) (upd H5 D (.lst (acc ++ [v])))
        else H4 D = some (.lst acc) ∧ I ds H1 D (i + 1) acc H4)
    (q : ∀ ds H1 D acc H', Post ds H1 → H1 D = none → H' D = some (.lst acc) → I ds H1 D ds.length acc H' → Q (.ref D) H')
    (hs : ∀ x, foldedSetIterable iter X.env x = pure x := by intro _; rfl) : WX X (.ListComp elt [⟨tg, iter, ifs, 0⟩] scope pos) ρ H Q := fun σ s => by
  obtain ⟨wi, pi, hw⟩ := hi
  refine re_of (pe_lc hc hN pi ok (g := gB X scope tg) (tt := tB' X scope ifs) (te := eB X scope elt) ?_ ?_ ?_ hs) (hw σ s _ fun J H1 ds p y D hD => ?_)
  · exact fun s0 H0 C cl fp => ⟨fun pins st σ H v u Q I r h => (h s0 H0 C cl fp).run pins st u I r⟩
  · exact fun s0 H0 C cl fp => ⟨fun pins st σ H Q I h => (h s0 H0 C cl fp).run pins st I⟩
  · exact fun s0 H0 C cl fp => ⟨fun pins st σ H Q I h => (h s0 H0 C cl fp).run pins st I⟩
  obtain ⟨xt, i0⟩ := h0 ds H1 D p hD
  refine ⟨fun i m H' => m = ds.length - i ∧ i ≤ ds.length ∧ ∃ acc, H' D = some (.lst acc) ∧ I ds H1 D i acc H', ⟨_, rfl, Nat.zero_le _, [], upd_same, i0⟩, ?_⟩
  rintro i m H' ⟨rfl, hi, acc, hacc, inv⟩
  obtain ⟨g1, g2, g3⟩ := hG ds H1 D i acc H' p hD hi inv
  obtain ⟨y1, y2⟩ := y H' g1
  by_cases e : i = ds.length
  · subst e
    exact .inl ⟨y1, q ds H1 D acc H' p hD hacc inv⟩
  · right
    have hlt : i < ds.length := by omega
    have hd : ds[i]? = some ds[i] := List.getElem?_eq_getElem hlt
    obtain ⟨go, yl⟩ := y2 i _ hd
    refine ⟨go, fun H'' => i + 1 ≤ ds.length ∧ ∃ acc, H'' D = some (.lst acc) ∧ I ds H1 D (i + 1) acc H'', fun H'' n => ⟨ds.length - (i + 1), by omega, rfl, n⟩, fun v H3 hy => ?_⟩
    obtain ⟨x3, tv⟩ := yl v H3 hy
    obtain ⟨is, ρ', his, hh⟩ := turn ds H1 D i acc H' _ p hD hd hacc inv
    intro s0 H0 C cl fp
    refine (hh s0 H0 C cl fp).1 _ H3 v _ ((s.mono ((xt.trans g2).trans x3.xt)).wipe _) tv fun σ' s' bt => ⟨bt.wipe his, ?_⟩
    intro s1 H01 C1 cl1 fp1
    refine ⟨fun pins st I' => wpAny_mono ((gts_run ((hh s1 H01 C1 cl1 fp1).2 H3 x3) s').run pins st I') (fun k s2 ⟨H4, I4, x4, g⟩ => ⟨H4, I4, ?_⟩) fun _ _ z => z⟩
    by_cases hk : k = true
    · rw [if_pos hk] at g ⊢
      intro s5 H05 C5 cl5 fp5
      exact re_mono (g s5 H05 C5 cl5 fp5 σ' (s'.mono x4)) fun v H5 ⟨hD5, i5⟩ => ⟨acc, hD5, small1000 g3, hlt, _, upd_same, i5⟩
    · rw [if_neg hk] at g ⊢
      exact ⟨hlt, acc, g.1, g.2⟩
end
end CW
/-! part CwTab -/
set_option maxRecDepth 100000
set_option maxHeartbeats 4000000
/-! Dicts with text keys that hold data and objects: what is known of some keys. -/
namespace CW
open PySem PySem.Spec PyProof.Rows L2
abbrev Fk := Str → Option Kd
def fput (f : Fk) (k : Str) (kd : Kd) : Fk := fun j => if j = k then some kd else f j
theorem fput_same (f : Fk) (k : Str) (kd : Kd) : fput f k kd k = some kd := by unfold fput; rw [if_pos rfl]
theorem fput_ne {f : Fk} {k j : Str} {kd : Kd} (h : j ≠ k) : fput f k kd j = f j := by unfold fput; rw [if_neg h]
def FkOk (K : PySem.W.Frag) (H : Hp) (kvs : List (Key × V)) (f : Fk) : Prop := ∀ k kd, f k = some kd → ∃ v, valV kvs (.inr k) = some v ∧ KdOk K H kd (some v)
def DicF (K : PySem.W.Frag) (H : Hp) (p : Addr) (m : Nat) (f : Fk) : Prop := ∃ kvs, H p = some (.dK kvs) ∧ kvs.length ≤ m ∧ FkOk K H kvs f
section
variable {K : PySem.W.Frag} {H H' : Hp} {kvs : List (Key × V)} {f : Fk} {p q : Addr} {m : Nat} {k : Str} {kd : Kd} {v : V}
theorem FkOk.mono (x : Xt H H') (h : FkOk K H kvs f) : FkOk K H' kvs f := fun k kd e => by
  obtain ⟨v, h1, h2⟩ := h k kd e
  exact ⟨v, h1, h2.mono x⟩
theorem DicF.keep (x : Xt H H') (e : ∀ o, H p = some o → H' p = some o) (h : DicF K H p m f) : DicF K H' p m f := by
  obtain ⟨kvs, h1, h2, h3⟩ := h
  exact ⟨kvs, e _ h1, h2, h3.mono x⟩
theorem DicF.mono (x : Ex H H') (h : DicF K H p m f) : DicF K H' p m f := h.keep x.xt fun o => x p o
theorem DicF.ch (c : Ch q H H') (n : p ≠ q) (h : DicF K H p m f) : DicF K H' p m f := h.keep c.2 fun o => c.1 p o n
theorem FkOk.put (h : FkOk K H kvs f) (t : KdOk K H kd (some v)) : FkOk K H (putK kvs (.inr k) v) (fput f k kd) := fun j kd' e => by
  rw [valV_put]
  unfold fput at e
  by_cases ej : j = k
  · subst ej
    rw [if_pos rfl] at e
    cases e
    exact ⟨v, if_pos rfl, t⟩
  · rw [if_neg ej] at e
    obtain ⟨u, h1, h2⟩ := h j kd' e
    exact ⟨u, by rw [if_neg fun z => ej (Sum.inr.inj z)]; exact h1, h2⟩
theorem length_putK_le (kvs : List (Key × V)) (k : Key) (v : V) : (putK kvs k v).length ≤ kvs.length + 1 := by
  unfold putK
  split <;> simp
/-- what a store at k makes of the dict -/
theorem dicf_put (h : DicF K H p m f) (hm : m < 1000) (t : KdOk K H kd (some v)) : ∃ H', DPut H p (kV (.inr k)) v H' ∧ Ch p H H' ∧ (∀ a, a ≠ p → H' a = H a) ∧ DicF K H' p (if (f k).isSome then m else m + 1) (fput f k kd) := by
  obtain ⟨kvs, h1, h2, h3⟩ := h
  have xu : Xt H (upd H p (.dK (putK kvs (.inr k) v))) := Xt.upd h1 (by intro _ z; cases z) (by intro _ _ z; cases z)
  refine ⟨_, DPut.k (k := .inr k) h1 (small1000 (by omega)), (Ch.refl H).upd h1, fun a n => upd_ne n, _, upd_same, ?_, (h3.mono xu).put (t.mono xu)⟩
  cases e : f k with
  | none =>
    have := length_putK_le kvs (.inr k) v
    simp only [Option.isSome_none, Bool.false_eq_true, if_false]
    omega
  | some kd' =>
    obtain ⟨u, hu, _⟩ := h3 k kd' e
    rw [length_putK_old hu]
    simpa using h2
end
section
variable {X : Cx} {e a b o : Expr} {ρ : List Kd} {H : Hp} {pos p1 p2 pos' : Pos} {d : PyData} {p l : Addr} {f : Fk} {m j jj : Nat} {k : Str} {kd : Kd} {sts : List Stmt} {D : Ends}
/-- d["k"], an object -/
theorem oe_getF (hr : Room j X.A) (h1 : OE X a ρ H p) (hD : DicF X.K H p m f) (hk : f k = some (.obj l)) : OE X (.Subscript a (.Constant (.str k) jj p2) pos) ρ H l := fun σ H1 s x Q q => by
  obtain ⟨kvs, hH, _, t⟩ := hD
  obtain ⟨v, hv, tv⟩ := t k _ hk
  cases tv
  exact re_of (pe_dget (hu_of hr) pe_re pe_str (fun _ _ => rfl)) (h1 σ H1 s x _ ⟨p, .ref l, rfl, by rw [← hv]; exact DGet.k (k := .inr k) (x _ _ hH), q⟩)
/-- d[k], a datum -/
theorem de_getF (hr : Room j X.A) (h1 : OE X a ρ H p) (h2 : DE X b ρ H (.str k)) (hD : DicF X.K H p m f) (hk : f k = some (.dat d)) (hs : NoSl b := by exact fun _ _ => rfl) : DE X (.Subscript a b pos) ρ H d := fun σ H1 s x Q q => by
  obtain ⟨kvs, hH, _, t⟩ := hD
  obtain ⟨v, hv, u, e1, tv⟩ := t k _ hk
  cases e1
  exact re_of (pe_dget (hu_of hr) pe_re pe_re hs) (h1 σ H1 s x _ (h2 σ H1 s x _ fun w H3 x3 t2 => by
    obtain ⟨rfl, _⟩ := t2.str_inv
    exact ⟨p, v, rfl, by rw [← hv]; exact DGet.k (k := .inr k) (x3 _ _ (x _ _ hH)), q v H3 x3 (tv.mono (x.trans x3).xt)⟩))
/-- d[k] = e -/
theorem sx_fput (hr : Room j X.A) (h : WX X e ρ H fun v H1 => Xt H H1 ∧ ∃ p k m f kd, OE X o ρ H1 p ∧ DE X b ρ H1 (.str k) ∧ DicF X.K H1 p m f ∧ m < 1000 ∧ KdOk X.K H1 kd (some v) ∧
      ∀ H4, Ch p H1 H4 → DicF X.K H4 p (if (f k).isSome then m else m + 1) (fput f k kd) → SX X sts ρ H4 D)
    (hs : swapsWith e (some (.Subscript o b pos')) pos.line X.env = pure false := by rfl) : SX X (.Assign [.Subscript o b pos'] e pos :: sts) ρ H D :=
  sx_dputX hr (h.mono fun v H1 ⟨x1, p, k, m, f, kd, ho, hb, hD, hm, hkd, kk⟩ => ⟨x1, gx_oe ho ⟨Xt.refl _, gx_de hb fun y H2 x2 ty => by
    obtain ⟨rfl, _⟩ := ty.str_inv
    obtain ⟨H4, dp, c, _, hD4⟩ := dicf_put (k := k) (hD.mono x2) hm (hkd.mono x2.xt)
    exact ⟨p, H4, rfl, dp, x1.trans (x2.xt.trans c.2), kk H4 (x2.ch.trans c) hD4⟩⟩⟩) hs
/-- xs[i], xs a list in a slot, i a datum -/
theorem de_ixOD (i : Nat) {xs : List V} {ds : List PyData} (h1 : OE X a ρ H p) (h2 : DE X b ρ H (.int i)) (hH : SqL X.K H p xs) (t : Tps X.K H xs ds) (hd : ds[i]? = some d) (hs : PlainIx b := by exact fun _ _ => rfl) : DE X (.Subscript a b pos) ρ H d := fun σ H1 s x Q q =>
  re_of (pe_ix ix_list pe_re pe_re hs) (h1 σ H1 s x _ (h2 σ H1 s x _ fun y H2 x2 ty => by
    obtain rfl := ty.int_inv
    obtain ⟨z, hz, tz⟩ := t.at hd
    exact ⟨p, xs, _, z, rfl, rfl, (x.trans x2).sql hH, atI_nat hz, q z H2 x2 (tz.mono (x.trans x2).xt)⟩))
/-- t[i], t a tuple in a slot, of which one item is a datum; an object -/
theorem de_ixTO (i : Nat) {v : Int} {xs : List V} {w : V} (h1 : OE X a ρ H p) (hH : SqT X.K H p xs) (hw : xs[i]? = some w) (tw : Tp X.K H w d) (hv : v = (i : Int) := by rfl) : DE X (.Subscript a (.Constant (.int v) jj p2) pos) ρ H d := fun σ H1 s x Q q =>
  re_of (pe_ix ix_tup pe_re pe_int (fun _ _ => rfl)) (h1 σ H1 s x _ ⟨p, xs, v, w, rfl, rfl, x.xt.sq hH, by rw [hv]; exact atI_nat hw, q w H1 (Ex.refl _) (tw.mono x.xt)⟩)
theorem oe_ixTO (i : Nat) {v : Int} {xs : List V} (h1 : OE X a ρ H p) (hH : SqT X.K H p xs) (hw : xs[i]? = some (.ref l)) (hv : v = (i : Int) := by rfl) : OE X (.Subscript a (.Constant (.int v) jj p2) pos) ρ H l := fun σ H1 s x Q q =>
  re_of (pe_ix ix_tup pe_re pe_int (fun _ _ => rfl)) (h1 σ H1 s x _ ⟨p, xs, v, .ref l, rfl, rfl, x.xt.sq hH, by rw [hv]; exact atI_nat hw, q⟩)
end
/-! ### changes at new places -/
theorem ch_updN {p l : Addr} {H H1 : Hp} {o : HO} (c : Ch p H H1) (h : H l = none) : Ch p H (upd H1 l o) := ⟨fun a u n e => by
    rw [upd_ne (ne_of_none e h)]
    exact c.1 a u n e, ⟨fun a xs e => by rw [upd_ne (ne_of_none e h)]; exact c.2.1 a xs e, fun a ob xs e => by rw [upd_ne (ne_of_none e h)]; exact c.2.2 a ob xs e⟩⟩
theorem xt_updL {H : Hp} {l : Addr} {xs ys : List V} (h : H l = some (.lst xs)) : Xt H (upd H l (.lst ys)) := Xt.upd h (by intro _ z; cases z) (by intro _ _ z; cases z)
/-- what stands at l is laid anew: all else stands -/
theorem upd_other {H : Hp} {l a : Addr} {o u : HO} (n : a ≠ l) (h : H a = some u) : upd H l o a = some u := by rw [upd_ne n]; exact h
end CW
/-! part CwL1 -/
set_option maxRecDepth 100000
set_option maxHeartbeats 4000000
/-! The law's own defs: the pen, a draw. -/
namespace CW
open PySem PySem.Spec PyProof.Rows L2
theorem tps_ints {K : PySem.W.Frag} {H : Hp} : ∀ ns : List Int, Tps K H (ns.map V.int) (ns.map .int)
  | [] => .nil
  | n :: ns => .cons (.int n) (tps_ints ns)
theorem depths_int (l : List Int) : PyData.depthAll (l.map .int) ≤ 60 := Nat.le_trans (depth_all (n := 1) (fun a => by simp [PyData.depth]) l) (by decide)
section
variable {X : Cx} {e a b : Expr} {ρ : List Kd} {H : Hp} {pos p1 : Pos} {i j : Int}
theorem opd_mod (h : 0 < j) : OpD X (binaryOp .Mod) (.int i) (.int j) (.int (i % j)) := opd_intC op_mod h fun _ => .int _
theorem opd_fdiv (h : 0 < j) (h2 : j < 1073741824) : OpD X (binaryOp .FloorDiv) (.int i) (.int j) (.int (i / j)) := opd_intC op_fdiv ⟨h, h2⟩ fun _ => .int _
theorem opd_mul (h : CMul i j) : OpD X (binaryOp .Mult) (.int i) (.int j) (.int (i * j)) := opd_intC op_mul h fun _ => .int _
theorem opd_pow (h : CPow i j) : OpD X (binaryOp .Pow) (.int i) (.int j) (.int (i ^ j.toNat)) := opd_intC op_pow h fun _ => .int _
theorem de_abs (hm : X.mg "abs" = none) (h : DE X e ρ H (.int i)) (hg : Gl X "abs" := by rfl) (hs : starEach [e] X.env = (false, eval e X.env) :: starEach [] X.env := by rfl)
    (hpl : (backTo pos (starEach [] X.env)).any (·.1) = false := by rfl) : DE X (.Call (.Name "abs" p1) [e] [] pos) ρ H (.int (if i < 0 then -i else i)) := fun σ H1 s x Q q =>
  re_of (pe_callB call_abs hg hm (by decide +kernel) (pa_cons pe_re pa_nil hs) (he := hs) (hpl := hpl)) (h σ H1 s x _ fun v H2 x2 t => by
    obtain rfl := t.int_inv
    exact ⟨i, rfl, q _ H2 x2 (.int _)⟩)
theorem de_intB {k : Bool} (hm : X.mg "int" = none) (h : DE X e ρ H (.bool k)) (hg : Gl X "int" := by rfl) (hs : starEach [e] X.env = (false, eval e X.env) :: starEach [] X.env := by rfl)
    (hpl : (backTo pos (starEach [] X.env)).any (·.1) = false := by rfl) : DE X (.Call (.Name "int" p1) [e] [] pos) ρ H (.int (if k then 1 else 0)) := fun σ H1 s x Q q =>
  re_of (pe_callTy call_int1 hg hm (by decide +kernel) (pa_cons pe_re pa_nil hs) (he := hs) (hpl := hpl)) (h σ H1 s x _ fun v H2 x2 t => by
    obtain rfl := t.bool_inv
    exact .inr ⟨k, rfl, q _ H2 x2 (.int _)⟩)
end
/-- the pen: its cells at c; at most n draws were made -/
def PenAt (K : PySem.W.Frag) (H : Hp) (p c : Addr) (n : Nat) : Prop := ∃ (cells : List Int) (at_ left : Int) (f : Fk), DicF K H p 3 f ∧ f "cells" = some (.obj c) ∧ f "at" = some (.dat (.int at_)) ∧ f "left" = some (.dat (.int left)) ∧
  H c = some (.lst (cells.map V.int)) ∧ 0 ≤ at_ ∧ at_ ≤ n
section
variable {K : PySem.W.Frag} {H H' : Hp} {p c : Addr} {n m : Nat}
theorem PenAt.ne (h : PenAt K H p c n) : c ≠ p := fun z => by
  obtain ⟨_, _, _, _, ⟨kvs, h1, _⟩, _, _, _, h2, _⟩ := h
  rw [z, h1] at h2
  cases h2
theorem PenAt.keep (x : Xt H H') (hp : ∀ o, H p = some o → H' p = some o) (hc : ∀ o, H c = some o → H' c = some o) (h : PenAt K H p c n) : PenAt K H' p c n := by
  obtain ⟨cells, a, l, f, h1, h2, h3, h4, h5, h6, h7⟩ := h
  exact ⟨cells, a, l, f, h1.keep x hp, h2, h3, h4, hc _ h5, h6, h7⟩
theorem PenAt.mono (x : Ex H H') (h : PenAt K H p c n) : PenAt K H' p c n := h.keep x.xt (fun o => x p o) fun o => x c o
theorem PenAt.le (h : PenAt K H p c n) (l : n ≤ m) : PenAt K H p c m := by
  obtain ⟨cells, a, l', f, h1, h2, h3, h4, h5, h6, h7⟩ := h
  exact ⟨cells, a, l', f, h1, h2, h3, h4, h5, h6, by omega⟩
/-- a list that is not the pen's is laid anew -/
theorem PenAt.upd {l : Addr} {xs xs' : List V} (h : PenAt K H p c n) (hl : H l = some (.lst xs)) (n1 : l ≠ c) : PenAt K (L2.upd H l (.lst xs')) p c n := by
  have hp : p ≠ l := fun z => by
    obtain ⟨_, _, _, _, ⟨kvs, h1, _⟩, _⟩ := h
    rw [z, hl] at h1
    cases h1
  exact h.keep (xt_updL hl) (fun o e => upd_other hp e) fun o e => upd_other (Ne.symm n1) e
end
def spDr (K : PySem.W.Frag) : Sp := fun vs H Q _ => ∃ (p c : Addr) (n : Nat) (m : Int), vs = [.ref p, .int m] ∧ 1 ≤ m ∧ m ≤ 1000 ∧ PenAt K H p c n ∧ n ≤ 100000 ∧
  ∀ i H', 0 ≤ i → i < m → Ch p H H' → PenAt K H' p c (n + 1) → Q (.int i) H'
section
variable {P : Program} {w : World} {K : PySem.W.Frag} {mg : Str → Option Value} {base : Heap} {k : Nat}
theorem pow_small {z : Int} (h0 : 0 ≤ z) (h : z < 18446744073709551616) {m : Nat} (hm : m ≤ 1000000) : CPow z (m : Nat) := ⟨by omega, by omega, by
  have : (2 : Nat) ^ 64 = 18446744073709551616 := by decide
  rw [this]
  omega⟩
theorem mul_small {z y : Int} (h0 : 0 ≤ z) (h : z < 18446744073709551616) : CMul z y := .inl ⟨by
    have : (2 : Int) ^ 64 = 18446744073709551616 := by decide
    rw [this]
    omega, by
    have : (2 : Int) ^ 64 = 18446744073709551616 := by decide
    rw [this]
    omega⟩
theorem cal_draw (T : Tx K mg w) (k : Nat) : Cal P w K mg base "_law_draw" (k + 1) (spDr K) :=
  cal_of d__law_draw T.g__law_draw T.f__law_draw sc__law_draw rfl (fun _ _ _ _ _ _ us hl => match us, hl with | [_, _], _ => rfl) (fun vs H Q E ⟨p, c, n, m, e, _⟩ => by rw [e]; rfl) fun cdv A outer s H E vs Q hr ⟨p, c, n, m, e, hm1, hm2, pen, hn, q⟩ => by
  subst e
  have pne := pen.ne
  obtain ⟨cells, at_, left, f, hD, f1, f2, f3, hc, a0, an⟩ := pen
  refine (?_ : SX (CC P w K mg base d__law_draw N__law_draw (He.fAd K ("_law_draw", none)) cdv A outer s H E) d__law_draw.body (kdStart N__law_draw [.obj p, .dat (.int m)]) H (DE0 Q)) _ (sl_kstart ⟨rfl, ⟨_, rfl, .int m⟩, trivial⟩)
  have fin : ∀ (i : Int) H1 H4 (at2 left2 : Int) f2, 0 ≤ i → i < m → Ch p H H1 → Ex H1 H4 → DicF K H1 p 3 f2 → f2 "cells" = some (.obj c) → f2 "at" = some (.dat (.int at2)) → f2 "left" = some (.dat (.int left2)) → 0 ≤ at2 → at2 ≤ at_ + 1 → Q (.int i) H4 := fun i H1 H4 at2 left2 f2 i0 i1 c1 x4 hD g1 g2 g3 b0 b1 =>
    q i H4 i0 i1 (c1.trans x4.ch) ⟨cells, at2, left2, f2, hD.mono x4, g1, g2, g3, x4 _ _ (c1.lst pne hc), b0, by omega⟩
  refine sx_if (k := decide (0 < left)) (be_cmp opd_gt (de_getF hr (oe_name 0 rfl) de_str hD f3) de_int) (fun hk H1 x1 => ?_) fun hk H1 x1 => sx_next ?_
  · refine sx_set (d := .int (left % m)) 6 sc__law_draw.nd (de_bin (opd_mod (by omega)) (de_getF hr (oe_name 0 rfl) de_str (hD.mono x1) f3) (de_name 1 rfl)) fun H2 x2 => ?_
    have hD2 := (hD.mono x1).mono x2
    refine sx_fput hr (gx_de (de_bin (opd_fdiv (by omega) (by omega)) (de_getF hr (oe_name 0 rfl) de_str hD2 f3) (de_name 1 rfl)) fun v H3 x3 tv => ⟨x3.xt, p, "left", 3, f, .dat (.int (left / m)), oe_name 0 rfl, de_str, hD2.mono x3, by decide, ⟨v, rfl, tv⟩, fun H4 c4 hD4 => ?_⟩)
    rw [f3] at hD4
    exact sx_ret (de_name 6 rfl) fun v H5 x5 t => by
      obtain rfl := t.int_inv
      exact fin _ H4 H5 at_ (left / m) _ (Int.emod_nonneg _ (by omega)) (Int.emod_lt_of_pos _ (by omega)) (((x1.trans x2).trans x3).ch.trans c4) x5 hD4 (by rw [fput_ne (by decide +kernel)]; exact f1) (by rw [fput_ne (by decide +kernel)]; exact f2) (fput_same _ _ _) a0 (by omega)
  refine sx_set (d := .int at_) 2 sc__law_draw.nd (de_getF hr (oe_name 0 rfl) de_str (hD.mono x1) f2) fun H2 x2 => ?_
  have hD2 := (hD.mono x1).mono x2
  refine sx_fput hr (gx_de (de_bin opd_add (de_name 2 rfl) de_int) fun v H3 x3 tv => ⟨x3.xt, p, "at", 3, f, .dat (.int (at_ + 1)), oe_name 0 rfl, de_str, hD2.mono x3, by decide, ⟨v, rfl, tv⟩, fun H4 c4 hD4 => ?_⟩)
  rw [f2] at hD4
  generalize hg : fput f "at" (.dat (.int (at_ + 1))) = g at hD4
  have g1 : g "cells" = some (.obj c) := by rw [← hg, fput_ne (by decide +kernel)]; exact f1
  have g2 : g "at" = some (.dat (.int (at_ + 1))) := by rw [← hg]; exact fput_same _ _ _
  have g3 : g "left" = some (.dat (.int left)) := by rw [← hg, fput_ne (by decide +kernel)]; exact f3
  have hD4 : DicF K H4 p 3 g := hD4
  have c04 : Ch p H H4 := (((x1.trans x2).trans x3).ch.trans c4)
  have hc4 : H4 c = some (.lst (cells.map V.int)) := c04.lst pne hc
  refine sx_set (d := .int (1951 * at_ + 701)) 3 sc__law_draw.nd (de_bin opd_add (de_bin (opd_mul (mul_small (by omega) (by omega))) de_int (de_name 2 rfl)) de_int) fun H5 x5 => ?_
  have key : ∀ (cell : Int) H6, Ex H4 H6 → SX (CC P w K mg base d__law_draw N__law_draw (He.fAd K ("_law_draw", none)) cdv A outer s H E) (d__law_draw.body.drop 5) [.obj p, .dat (.int m), .dat (.int at_), .dat (.int cell), .no, .no, .no, .no] H6 (DE0 Q) := by
    intro cell H6 x6
    have hD6 := hD4.mono x6
    have hc6 := x6 _ _ hc4
    refine sx_if (be_w (we_and (be_cmp opd_lt (de_name 2 rfl) (de_lenO rfl T.n_len (oe_getF hr (oe_name 0 rfl) hD6 g1) hc6)) fun _ => we_and1 (be_cmp opd_ge (de_abs T.n_abs (de_name 3 rfl)) (de_bin (opd_pow (pow_small (by omega) (by omega) (m := 18) (by omega))) de_int de_int)))) (fun hk2 H7 x7 => ?_) fun hk2 H7 x7 => sx_next ?_
    · refine sx_set 7 sc__law_draw.nd (de_bin opd_add (de_bin (opd_mul (mul_small (by omega) (by omega))) de_int (de_abs T.n_abs (de_name 3 rfl))) (de_intB T.n_int (de_cmp opd_lt (de_name 3 rfl) de_int))) fun H8 x8 => ?_
      generalize (2 * (if cell < 0 then -cell else cell) + if (decide (cell < 0)) = true then 1 else 0) = whole
      have hD8 := (hD6.mono x7).mono x8
      refine sx_fput hr (gx_de (de_bin (opd_fdiv (by omega) (by omega)) (de_name 7 rfl) (de_name 1 rfl)) fun v H9 x9 tv => ⟨x9.xt, p, "left", 3, g, .dat (.int (whole / m)), oe_name 0 rfl, de_str, hD8.mono x9, by decide, ⟨v, rfl, tv⟩, fun H10 c10 hD10 => ?_⟩)
      rw [g3] at hD10
      exact sx_ret (de_bin (opd_mod (by omega)) (de_name 7 rfl) (de_name 1 rfl)) fun v H11 x11 t => by
        obtain rfl := t.int_inv
        exact fin _ H10 H11 (at_ + 1) (whole / m) _ (Int.emod_nonneg _ (by omega)) (Int.emod_lt_of_pos _ (by omega)) (c04.trans ((((x6.trans x7).trans x8).trans x9).ch.trans c10)) x11 hD10 (by rw [fput_ne (by decide +kernel)]; exact g1) (by rw [fput_ne (by decide +kernel)]; exact g2) (fput_same _ _ _) (by omega) (by omega)
    · have b1 : 0 ≤ cell % 2147483563 := Int.emod_nonneg _ (by omega)
      have b2 : cell % 2147483563 < 2147483563 := Int.emod_lt_of_pos _ (by omega)
      refine sx_set 4 sc__law_draw.nd (de_bin (opd_mod (by omega)) (de_bin (opd_pow (pow_small (m := 5) ?_ ?_ (by omega))) (de_bin opd_add (de_bin opd_add (de_bin (opd_mod (by omega)) (de_name 3 rfl) de_int) (de_bin (opd_mul (mul_small (by omega) (by omega))) de_int (de_name 2 rfl))) de_int) de_int) de_int) fun H8 x8 => ?_
      · omega
      · omega
      have b3 : 0 ≤ (cell % 2147483563 + 70997 * at_ + 79) ^ ((5 : Nat) : Int).toNat % 2147483647 := Int.emod_nonneg _ (by omega)
      have b4 : (cell % 2147483563 + 70997 * at_ + 79) ^ ((5 : Nat) : Int).toNat % 2147483647 < 2147483647 := Int.emod_lt_of_pos _ (by omega)
      generalize (cell % 2147483563 + 70997 * at_ + 79) ^ ((5 : Nat) : Int).toNat % 2147483647 = one at b3 b4
      have h100 : at_ ≤ 100000 := by omega
      have b5 : 0 ≤ one * (at_ + 65539) := Int.mul_nonneg b3 (by omega)
      have b6 : one * (at_ + 65539) ≤ 2147483647 * 165539 := Int.le_trans (Int.mul_le_mul_of_nonneg_right (by omega) (by omega)) (Int.mul_le_mul_of_nonneg_left (by omega) (by omega))
      have b7 : 0 ≤ 85009 * at_ * at_ := Int.mul_nonneg (by omega) a0
      have b8 : 85009 * at_ * at_ ≤ 8500900000 * 100000 := Int.le_trans (Int.mul_le_mul_of_nonneg_right (by omega) a0) (Int.mul_le_mul_of_nonneg_left h100 (by omega))
      refine sx_set 5 sc__law_draw.nd (de_bin (opd_mod (by omega)) (de_bin (opd_pow (pow_small (m := 3) ?_ ?_ (by omega))) (de_bin opd_add (de_bin (opd_mul (mul_small b3 (by omega))) (de_name 4 rfl) (de_bin opd_add (de_name 2 rfl) de_int)) (de_bin (opd_mul (mul_small (by omega) (by omega))) (de_bin (opd_mul (mul_small (by omega) (by omega))) de_int (de_name 2 rfl)) (de_name 2 rfl))) de_int) de_int) fun H9 x9 => ?_
      · omega
      · omega
      exact sx_ret (de_bin (opd_mod (by omega)) (de_bin (opd_fdiv (by omega) (by omega)) (de_name 5 rfl) de_int) (de_name 1 rfl)) fun v H11 x11 t => by
        obtain rfl := t.int_inv
        exact fin _ H4 H11 (at_ + 1) left g (Int.emod_nonneg _ (by omega)) (Int.emod_lt_of_pos _ (by omega)) c04 ((((x6.trans x7).trans x8).trans x9).trans x11) hD4 g1 g2 g3 (by omega) (by omega)
  have hD5 := hD4.mono x5
  have hc5 := x5 _ _ hc4
  have tc5 : Tps K H5 (cells.map V.int) (cells.map .int) := tps_ints cells
  refine sx_if (k := !(cells.map PyData.int).isEmpty) (be_neNil hr (oe_getF hr (oe_name 0 rfl) hD5 g1) (SqL.of hc5) tc5 (depths_int cells) (le_lst ae_nil)) (fun hk2 H6 x6 => ?_) fun hk2 H6 x6 => sx_next (key _ H6 (x5.trans x6))
  have hpos : 0 < cells.length := by
    cases cells with
    | nil => cases hk2
    | cons _ _ => simp
  have i0 : 0 ≤ at_ % (cells.length : Int) := Int.emod_nonneg _ (by omega)
  have i1 : at_ % (cells.length : Int) < cells.length := Int.emod_lt_of_pos _ (by omega)
  obtain ⟨ix, hix⟩ : ∃ ix : Nat, at_ % (cells.length : Int) = ix := ⟨(at_ % (cells.length : Int)).toNat, by omega⟩
  have hlt : ix < cells.length := by omega
  refine sx_set (d := .int cells[ix]) 3 sc__law_draw.nd (de_ixOD ix (oe_getF hr (oe_name 0 rfl) (hD5.mono x6) g1) (DE.to (de_bin (opd_mod (i := at_) (j := (cells.length : Int)) (by omega)) (de_name 2 rfl) (DE.to (de_lenO rfl T.n_len (oe_getF hr (oe_name 0 rfl) (hD5.mono x6) g1) (x6 _ _ hc5)) (by rw [List.length_map]))) (by rw [hix])) (SqL.of (x6 _ _ hc5)) (tc5.mono x6.xt) (by rw [List.getElem?_map, List.getElem?_eq_getElem hlt]; rfl)) fun H7 x7 => sx_next (key _ H7 ((x5.trans x6).trans x7))
end
end CW
/-! part CwL2 -/
set_option maxRecDepth 100000
set_option maxHeartbeats 4000000
/-! The law's own defs: kinds, worths. -/
namespace CW
open PySem PySem.Spec PyProof.Rows L2
theorem big_ok {n : Nat} (h : n ≤ 100000) : n ≤ sizeLine := by rw [sizeLine_eq]; omega
theorem big_lt {n : Nat} (h : n ≤ 100000) : n < sizeLine := by rw [sizeLine_eq]; omega
theorem tps_strs {K : PySem.W.Frag} {H : Hp} : ∀ {ks : List Str}, (∀ k ∈ ks, PyData.strOk k = true) → Tps K H (ks.map V.str) (ks.map .str)
  | [], _ => .nil
  | k :: ks, h => .cons (.str k (h k (by simp))) (tps_strs fun z hz => h z (by simp [hz]))
theorem depths_str (l : List Str) : PyData.depthAll (l.map .str) ≤ 60 := Nat.le_trans (depth_all (n := 1) (fun a => by simp [PyData.depth]) l) (by decide)
theorem ne_new {H : Hp} {a b : Addr} {o : HO} (h : H a = some o) (hn : H b = none) : a ≠ b := ne_of_none h hn
section
variable {X : Cx} {e e1 o : Expr} {es : List Expr} {ρ : List Kd} {H : Hp} {Q : VK} {pos p1 apos : Pos} {p c l : Addr} {n k : Nat} {m : Int} {xs : List V}
theorem gx_draw (T : Tx X.K X.mg X.w) (hr : Room (k + 1) X.A) (h1 : OE X e1 ρ H p) (h : WX X e ρ H fun v H1 => Xt H H1 ∧ ∃ c n m, v = .int m ∧ 1 ≤ m ∧ m ≤ 1000 ∧ PenAt X.K H1 p c n ∧ n ≤ 100000 ∧ ∀ i H2, 0 ≤ i → i < m → Ch p H1 H2 → PenAt X.K H2 p c (n + 1) → Q (.int i) H2) (hg : Gl X "_law_draw" := by rfl)
    (hs2 : starEach [e] X.env = (false, eval e X.env) :: starEach [] X.env := by rfl) (he : starEach [e1, e] X.env = (false, eval e1 X.env) :: starEach [e] X.env := by rfl) (hpl : (backTo pos (starEach [e] X.env)).any (·.1) = false := by rfl) :
    WX X (.Call (.Name "_law_draw" p1) [e1, e] [] pos) ρ H Q :=
  gx_call (cal_draw T k) hr (ga_oe h1 (ga_cons (h.mono fun v H1 ⟨xt, c, n, m, e1, h1, h2, pen, hn, q⟩ => ⟨xt, ga_nil ⟨p, c, n, m, by rw [e1], h1, h2, pen, hn, q⟩⟩) hs2) he) hg (by decide) he hpl
theorem gx_drawD (T : Tx X.K X.mg X.w) (hr : Room (k + 1) X.A) (h1 : OE X e1 ρ H p) (h : DE X e ρ H (.int m)) (hm1 : 1 ≤ m) (hm2 : m ≤ 1000) (pen : PenAt X.K H p c n) (hn : n ≤ 100000) (q : ∀ i H2, 0 ≤ i → i < m → Ch p H H2 → PenAt X.K H2 p c (n + 1) → Q (.int i) H2) (hg : Gl X "_law_draw" := by rfl)
    (hs2 : starEach [e] X.env = (false, eval e X.env) :: starEach [] X.env := by rfl) (he : starEach [e1, e] X.env = (false, eval e1 X.env) :: starEach [e] X.env := by rfl) (hpl : (backTo pos (starEach [e] X.env)).any (·.1) = false := by rfl) :
    WX X (.Call (.Name "_law_draw" p1) [e1, e] [] pos) ρ H Q :=
  gx_draw T hr h1 (gx_de h fun v H1 x t => ⟨x.xt, c, n, m, t.int_inv, hm1, hm2, pen.mono x, hn, fun i H2 i0 i1 ch pen2 => q i H2 i0 i1 (x.ch.trans ch) pen2⟩) hg hs2 he hpl
theorem gx_pop (ho : OE X o ρ H l) (hH : H l = some (.lst xs)) (h : WX X e ρ H fun v H1 => Xt H H1 ∧ ∃ ys i, v = .int (i : Nat) ∧ H1 l = some (.lst ys) ∧ i < ys.length ∧ i ≤ 100000 ∧ ∀ y, ys[i]? = some y → Q y (upd H1 l (.lst (ys.eraseIdx i))))
    (hbase : attributeBase o "pop" X.env (eval o X.env) = eval o X.env := by rfl)
    (hfew : ((backTo pos (starEach [e] X.env)).all (fun x => !x.1) && (backToKw pos (keywordEach [] X.env)).all (fun x => x.1.isSome)
      && decide (([e] : List Expr).length + ([] : List Keyword).length + (if ([] : List Keyword).isEmpty then 0 else 1) < 30)) = true := by rfl)
    (hline : (apos.endLine == pos.line) = true := by rfl) (hs : starEach [e] X.env = (false, eval e X.env) :: starEach [] X.env := by rfl) (hplain : (backTo pos (starEach [] X.env)).any (·.1) = false := by rfl) :
    WX X (.Call (.Attribute o "pop" apos) [e] [] pos) ρ H Q :=
  gx_bm F.plainAttrs_list F.slot_list_pop F.type_list_pop mt_popAt (gx_oe ho ⟨Xt.refl _, tyV_lst (SqL.of hH), ga_cons (h.mono fun v H1 ⟨xt, ys, i, e1, h1, h2, h3, q⟩ => ⟨xt, ga_nil
    ⟨l, ys, i, i, ys[i], rfl, by rw [e1], h1, by omega, by omega, by rw [PySem.seqIndex_of (by omega) (by omega)]; rfl, List.getElem?_eq_getElem h2, q _ (List.getElem?_eq_getElem h2)⟩⟩) hs⟩) hbase hfew hline hs hplain
theorem gx_app (ho : OE X o ρ H l) (hH : H l = some (.lst xs)) (h : WX X e ρ H fun w H1 => Xt H H1 ∧ ∃ ys, H1 l = some (.lst ys) ∧ ys.length ≤ 100000 ∧ Q .non (upd H1 l (.lst (ys ++ [w]))))
    (hbase : attributeBase o "append" X.env (eval o X.env) = eval o X.env := by rfl)
    (hfew : ((backTo pos (starEach [e] X.env)).all (fun x => !x.1) && (backToKw pos (keywordEach [] X.env)).all (fun x => x.1.isSome)
      && decide (([e] : List Expr).length + ([] : List Keyword).length + (if ([] : List Keyword).isEmpty then 0 else 1) < 30)) = true := by rfl)
    (hline : (apos.endLine == pos.line) = true := by rfl) (hs : starEach [e] X.env = (false, eval e X.env) :: starEach [] X.env := by rfl) (hplain : (backTo pos (starEach [] X.env)).any (·.1) = false := by rfl) :
    WX X (.Call (.Attribute o "append" apos) [e] [] pos) ρ H Q :=
  gx_bm F.plainAttrs_list F.slot_list_append type_list_append mt_append (gx_oe ho ⟨Xt.refl _, tyV_lst (SqL.of hH), ga_cons (h.mono fun w H1 ⟨xt, ys, h1, h2, q⟩ => ⟨xt, ga_nil ⟨l, ys, w, rfl, rfl, h1, big_lt h2, q⟩⟩) hs⟩) hbase hfew hline hs hplain
end
section
variable {P : Program} {w : World} {K : PySem.W.Frag} {mg : Str → Option Value} {base : Heap} {x : Str} {N ps : List Str} {k : Nat} {sp : Sp}
/-- a def by its promise: what is known of the arguments, then the body -/
theorem cal_S (d : He.DefD) (hg : mg x = some (.ref (He.fAd K (x, none)))) (hf : ∃ fd, FunD K d.name d.qual d.params d.body d.scope (d.dvs K) (d.kws K) (He.fAd K (x, none)) fd) (S : FnScope N ps d.scope) (hb : BindN d ps)
    (body : ∀ cdv A outer s H E vs Q, Room k (CC P w K mg base d N (He.fAd K (x, none)) cdv A outer s H E).A → sp vs H Q E → ∃ kds, KE' K H vs kds ∧ SX (CC P w K mg base d N (He.fAd K (x, none)) cdv A outer s H E) d.body (kdStart N kds) H (DE0 Q))
    (len : ∀ vs H Q E, sp vs H Q E → vs.length = ps.length) (hd : d.dfl = [] := by rfl) : Cal P w K mg base x (k + 1) sp :=
  cal_of d hg hf S hd hb len fun cdv A outer s H E vs Q hr h => by
    obtain ⟨kds, ke, sx⟩ := body cdv A outer s H E vs Q hr h
    exact sx _ (sl_kstart ke)
end
def kindMenu : List Str := ["a", "aa", "b", "ba", "c", "k", "l", "o", "zz", "zzzzzzzz", "m", "ma"]
theorem kindMenu_nd : kindMenu.Nodup := by decide +kernel
theorem cons_erase {α : Type} : ∀ {xs : List α} {i : Nat} (h : i < xs.length), (xs[i] :: xs.eraseIdx i).Perm xs
  | a :: as, 0, _ => List.Perm.refl _
  | a :: as, i + 1, h => (List.Perm.swap a _ _).trans ((cons_erase (xs := as) (i := i) (by simpa using h)).cons a)
theorem perm_pop {α : Type} {ks rest menu : List α} {i : Nat} {y : α} (h : (ks ++ rest).Perm menu) (hy : rest[i]? = some y) : ((ks ++ [y]) ++ rest.eraseIdx i).Perm menu := by
  obtain ⟨hi, e⟩ := List.getElem?_eq_some_iff.mp hy
  subst e
  refine List.Perm.trans ?_ h
  rw [List.append_assoc]
  exact List.Perm.append_left ks (cons_erase hi)
theorem map_erase {α β : Type} (f : α → β) (xs : List α) (i : Nat) : (xs.map f).eraseIdx i = (xs.eraseIdx i).map f := by
  induction xs generalizing i with
  | nil => rfl
  | cons a as ih =>
    cases i with
    | zero => rfl
    | succ i => exact congrArg (List.cons _) (ih i)
def spKinds (K : PySem.W.Frag) : Sp := fun vs H Q _ => ∃ (p c : Addr) (n : Nat) (m : Int), vs = [.ref p, .int m] ∧ 0 ≤ m ∧ m ≤ 12 ∧ PenAt K H p c n ∧ n + 12 ≤ 100000 ∧
  ∀ (ks : List Str) l H', H l = none → Ch p H H' → PenAt K H' p c (n + 12) → H' l = some (.lst (ks.map V.str)) → (ks.length : Int) = m → ks.Nodup → (∀ z ∈ ks, z ∈ kindMenu) → Q (.ref l) H'
section
variable {P : Program} {w : World} {K : PySem.W.Frag} {mg : Str → Option Value} {base : Heap} {k : Nat}
theorem PenAt.ex {H : Hp} {p c : Addr} {n : Nat} (h : PenAt K H p c n) : (∃ o, H p = some o) ∧ ∃ o, H c = some o := by
  obtain ⟨_, _, _, _, ⟨kvs, h1, _⟩, _, _, _, h2, _⟩ := h
  exact ⟨⟨_, h1⟩, _, h2⟩
theorem cal_kinds (T : Tx K mg w) (k : Nat) : Cal P w K mg base "_law_kinds" (k + 2) (spKinds K) :=
  cal_S d__law_kinds T.g__law_kinds T.f__law_kinds sc__law_kinds (fun _ _ _ _ _ _ us hl => match us, hl with | [_, _], _ => rfl) (len := fun vs H Q E ⟨p, c, n, m, e, _⟩ => by rw [e]; rfl) fun cdv A outer s H E vs Q hr hsp => by
  obtain ⟨p, c, n, m, e, hm1, hm2, pen, hn, q⟩ := hsp
  subst e
  obtain ⟨⟨op, hp⟩, ⟨oc, hc⟩⟩ := pen.ex
  refine ⟨[.obj p, .dat (.int m)], ⟨rfl, ⟨_, rfl, .int m⟩, trivial⟩, ?_⟩
  refine sx_setL (ds := kindMenu.map .str) 2 sc__law_kinds.nd (le_lst (ae_cons de_str (ae_cons de_str (ae_cons de_str (ae_cons de_str (ae_cons de_str (ae_cons de_str (ae_cons de_str (ae_cons de_str (ae_cons de_str (ae_cons de_str (ae_cons de_str (ae_cons de_str ae_nil))))))))))))) fun l0 xs H1 hl0 x1 hx tx => ?_
  obtain rfl := strs_inv tx
  refine sx_retX (gx_lc (Post := fun ds H2 => ds.length = m.toNat ∧ Ex H1 H2) (G := fun _ _ => True) (fun ds H2 D i acc H' => ∃ (ks rest : List Str), acc = ks.map V.str ∧ ks.length = i ∧ i ≤ 12 ∧ (ks ++ rest).Perm kindMenu ∧ H' l0 = some (.lst (rest.map V.str)) ∧ Ch p H H' ∧ Xt H2 H' ∧ PenAt K H' p c (n + i)) (own := [("_law_k", 3)]) rfl sc__law_kinds.nd
    (igx_range T.n_range (gx_de (de_name 1 rfl) fun v H2 x2 t => ⟨m, t.int_inv, by omega, by omega, by simp [rangeD], x2⟩)) (blk_ok (by kernel_rfl)) ?_ ?_ ?_ ?_)
  · intro ds H2 D ⟨hl, x2⟩ hD
    have hD1 := x2.free hD
    have e1 : D ≠ l0 := (ne_new hx hD1).symm
    have pD : PenAt K (upd H2 D (.lst [])) p c n := (pen.mono (x1.trans x2)).mono (Ex.new hD)
    exact ⟨x2.xt, [], kindMenu, rfl, rfl, by omega, List.Perm.refl _, upd_other e1.symm (x2 _ _ hx), ((x1.trans x2).trans (Ex.new hD)).ch, (Ex.new hD).xt, pD⟩
  · rintro ds H2 D i acc H' ⟨hl, x2⟩ hD hi ⟨ks, rest, rfl, hk, h12, hperm, hrest, hch, hxt, hpen⟩
    exact ⟨trivial, hxt, by rw [List.length_map]; omega⟩
  · rintro ds H2 D i acc H' d ⟨hl, x2⟩ hD hd hacc ⟨ks, rest, rfl, hk, h12, hperm, hrest, hch, hxt, hpen⟩
    have hi : i < m.toNat := by rw [← hl]; exact (List.getElem?_eq_some_iff.mp hd).1
    have hlen : ks.length + rest.length = 12 := by
      have := hperm.length_eq
      rw [List.length_append] at this
      exact this
    have hD1 := x2.free hD
    have hD0 : H D = none := x1.free hD1
    have eDl : D ≠ l0 := (ne_new hx hD1).symm
    have eDp : D ≠ p := (ne_new hp hD0).symm
    have eDc : D ≠ c := (ne_new hc hD0).symm
    have elc : l0 ≠ c := (ne_new hc hl0).symm
    have elp : l0 ≠ p := (ne_new hp hl0).symm
    refine ⟨[3], _, by decide, fun s0 H0 C cl fp => ⟨tg_name 3 sc__law_kinds.nd, fun H3 x3 => ⟨Xt.refl _, ?_⟩⟩⟩
    rw [if_pos rfl]
    intro s1 H01 C1 cl1 fp1
    have hr3 := x3 _ _ hrest
    refine gx_pop (oe_name 2 rfl) hr3 (gx_drawD T hr (oe_name 0 rfl) (m := rest.length) (DE.to (de_lenO rfl T.n_len (oe_name 2 rfl) hr3) (by rw [List.length_map])) (by omega) (by omega) (hpen.mono x3) (by omega) fun j H4 j0 j1 c4 pen4 => ?_)
    refine ⟨c4.2, rest.map V.str, j.toNat, by rw [Int.toNat_of_nonneg j0], c4.lst elp hr3, by rw [List.length_map]; omega, by omega, fun y hy => ?_⟩
    rw [List.getElem?_map] at hy
    obtain ⟨z, hz, rfl⟩ := Option.map_eq_some_iff.mp hy
    have hD4 : H4 D = some (.lst (ks.map V.str)) := c4.lst eDp (x3 _ _ hacc)
    have hl4 : H4 l0 = some (.lst (rest.map V.str)) := c4.lst elp hr3
    have pen5 : PenAt K (upd H4 l0 (.lst ((rest.map V.str).eraseIdx j.toNat))) p c (n + i + 1) := pen4.upd hl4 elc
    have hD5 : upd H4 l0 (.lst ((rest.map V.str).eraseIdx j.toNat)) D = some (.lst (ks.map V.str)) := upd_other eDl hD4
    refine ⟨hD5, ks ++ [z], rest.eraseIdx j.toNat, by rw [List.map_append]; rfl, by rw [List.length_append, hk]; rfl, by omega, perm_pop hperm hz, ?_, ?_, ?_, ?_⟩
    · refine upd_other eDl.symm ?_
      rw [← map_erase]
      exact upd_same
    · exact ch_updN (ch_updN ((hch.trans x3.ch).trans c4) hl0) hD0
    · exact (((hxt.trans x3.xt).trans c4.2).trans (xt_updL hl4)).trans (xt_updL hD5)
    · exact (pen5.upd hD5 eDc).le (by omega)
  · rintro ds H2 D acc H' ⟨hl, x2⟩ hD hacc ⟨ks, rest, rfl, hk, h12, hperm, hrest, hch, hxt, hpen⟩
    have nd := hperm.nodup_iff.mpr kindMenu_nd
    exact q ks D H' (x1.free (x2.free hD)) hch (hpen.le (by omega)) hacc (by omega) (List.nodup_append.mp nd).1 fun z hz => hperm.mem_iff.mp (List.mem_append.mpr (.inl hz))
end
end CW
/-! part CwL3 -/
set_option maxRecDepth 100000
set_option maxHeartbeats 1000000
/-! The law's own defs: worths. -/
namespace CW
open PySem PySem.Spec PyProof.Rows L2
section
variable {X : Cx} {a b e : Expr} {ρ : List Kd} {H : Hp} {Q : VK} {B : Bool → Hp → Prop} {pos p1 p2 : Pos} {i j : Int} {jj k : Nat}
theorem de_min2 (hc : X.calm = true) (hm : X.mg "min" = none) (h : AE X [a, b] ρ H [.int i, .int j]) (hg : Gl X "min" := by rfl) (hs : starEach [a, b] X.env = (false, eval a X.env) :: starEach [b] X.env := by rfl)
    (hpl : (backTo pos (starEach [b] X.env)).any (·.1) = false := by rfl) : DE X (.Call (.Name "min" p1) [a, b] [] pos) ρ H (.int (if j < i then j else i)) := fun σ H1 s x Q q =>
  re_of (pe_callB (call_min2 hc) hg hm (by decide +kernel) pa_ra (he := hs) (hpl := hpl)) (h σ H1 s x _ fun vs H2 x2 t => by
    cases t with
    | cons t1 t => cases t with
      | cons t2 t =>
        cases t
        rw [t1.int_inv, t2.int_inv]
        exact ⟨i, j, rfl, q _ H2 x2 (.int _)⟩)
theorem de_max2 (hc : X.calm = true) (hm : X.mg "max" = none) (h : AE X [a, b] ρ H [.int i, .int j]) (hg : Gl X "max" := by rfl) (hs : starEach [a, b] X.env = (false, eval a X.env) :: starEach [b] X.env := by rfl)
    (hpl : (backTo pos (starEach [b] X.env)).any (·.1) = false := by rfl) : DE X (.Call (.Name "max" p1) [a, b] [] pos) ρ H (.int (if j > i then j else i)) := fun σ H1 s x Q q =>
  re_of (pe_callB (call_max2 hc) hg hm (by decide +kernel) pa_ra (he := hs) (hpl := hpl)) (h σ H1 s x _ fun vs H2 x2 t => by
    cases t with
    | cons t1 t => cases t with
      | cons t2 t =>
        cases t
        rw [t1.int_inv, t2.int_inv]
        exact ⟨i, j, rfl, q _ H2 x2 (.int _)⟩)
theorem rEq_int {K : PySem.W.Frag} {H : Hp} {i j : Int} {Q : VK} (q : Q (.bl (decide (i = j))) H) : rEqD K (.int i) (.int j) H Q := ⟨.int i, .int j, .int i, .int j, (Tp.int i : Tp K H _ _).shaped (depth_int i), (Tp.int j : Tp K H _ _).shaped (depth_int j), by rw [eqv_int]; exact q⟩
theorem gx_eqC (hr : Room k X.A) (h : WX X a ρ H fun v H1 => Xt H H1 ∧ ∃ i, v = .int i ∧ ∀ H2, Ex H1 H2 → Q (.bl (decide (i = j))) H2) : WX X (.Compare a [.Eq] [.Constant (.int j) jj p2] pos) ρ H Q :=
  gx_cmp (op_eqD hr.units) (h.mono fun v H1 ⟨xt, i, e1, q⟩ => ⟨xt, gx_de de_int fun w H2 x2 t => by
    obtain rfl := t.int_inv
    subst e1
    exact rEq_int (q H2 x2)⟩)
theorem gt_eqC (hr : Room k X.A) (h : WX X a ρ H fun v H1 => Xt H H1 ∧ ∃ i, v = .int i ∧ ∀ H2, Ex H1 H2 → B (decide (i = j)) H2) : GT X (.Compare a [.Eq] [.Constant (.int j) jj p2] pos) ρ H B :=
  gt_cmp (op_eqD hr.units) (h.mono fun v H1 ⟨xt, i, e1, q⟩ => ⟨xt, gx_de de_int fun w H2 x2 t => by
    obtain rfl := t.int_inv
    subst e1
    exact rEq_int ⟨_, rfl, q H2 x2⟩⟩)
theorem gt_gtC (h : WX X a ρ H fun v H1 => Xt H H1 ∧ ∃ i, v = .int i ∧ ∀ H2, Ex H1 H2 → B (decide (i > j)) H2) : GT X (.Compare a [.Gt] [.Constant (.int j) jj p2] pos) ρ H B :=
  gt_cmp op_gt (h.mono fun v H1 ⟨xt, i, e1, q⟩ => ⟨xt, gx_de de_int fun w H2 x2 t => by
    obtain rfl := t.int_inv
    subst e1
    exact ⟨i, j, rfl, rfl, _, rfl, q H2 x2⟩⟩)
end
structure WorthsOk (m : Int) (ws : List Int) : Prop where
  ne : ws ≠ []
  nd : ws.Nodup
  len : (ws.length : Int) ≤ m
  men : ∀ w ∈ ws, w ∈ menu
def spWorths (K : PySem.W.Frag) : Sp := fun vs H Q _ => ∃ (p c : Addr) (n : Nat) (m : Int), vs = [.ref p, .int m] ∧ 1 ≤ m ∧ m ≤ 4 ∧ PenAt K H p c n ∧ n ≤ 90000 ∧
  ∀ (ws : List Int) v H', Ch p H H' → PenAt K H' p c (n + 9) → Tp K H' v (eInts ws) → WorthsOk m ws → Q v H'
theorem menu_nd : menu.Nodup := by decide
section
variable {P : Program} {w : World} {K : PySem.W.Frag} {mg : Str → Option Value} {base : Heap} {k : Nat}
theorem cal_worths (T : Tx K mg w) (k : Nat) : Cal P w K mg base "_law_worths" (k + 2) (spWorths K) :=
  cal_S d__law_worths T.g__law_worths T.f__law_worths sc__law_worths (fun _ _ _ _ _ _ us hl => match us, hl with | [_, _], _ => rfl) (len := fun vs H Q E ⟨p, c, n, m, e, _⟩ => by rw [e]; rfl) fun cdv A outer s H E vs Q hr hsp => by
  obtain ⟨p, c, n, m, e, hm1, hm2, pen, hn, q⟩ := hsp
  subst e
  obtain ⟨⟨op, hp⟩, ⟨oc, hc⟩⟩ := pen.ex
  refine ⟨[.obj p, .dat (.int m)], ⟨rfl, ⟨_, rfl, .int m⟩, trivial⟩, ?_⟩
  refine sx_setL (ds := menu.map .int) 2 sc__law_worths.nd (le_lst (ae_cons de_int (ae_cons de_int (ae_cons de_int (ae_cons de_int (ae_cons de_int (ae_cons de_int (ae_cons de_int (ae_cons de_int ae_nil))))))))) fun l0 xs H1 hl0 x1 hx tx => ?_
  obtain rfl := ints_inv tx
  refine sx_setL 3 sc__law_worths.nd (le_lst ae_nil) fun f0 ys H2 hf0 x2 hy ty => ?_
  cases ty
  have x02 := x1.trans x2
  have hlp : l0 ≠ p := (ne_new hp hl0).symm
  have hlc : l0 ≠ c := (ne_new hc hl0).symm
  have hf0' : H f0 = none := x1.free hf0
  have hfp : f0 ≠ p := (ne_new hp hf0').symm
  have hfc : f0 ≠ c := (ne_new hc hf0').symm
  have hlf : l0 ≠ f0 := ne_new hx hf0
  refine sx_forX (Post := fun ds H3 => ∃ j : Nat, ds.length = 1 + j ∧ (j : Int) < m ∧ Ch p H H3 ∧ Xt H2 H3 ∧ PenAt K H3 p c (n + 1) ∧ H3 l0 = some (.lst (menu.map V.int)) ∧ H3 f0 = some (.lst [])) (G := fun _ _ => True)
    (fun ds H3 i ρ' H' => ∃ (ws rest : List Int) (k4 : Kd), ρ' = [.obj p, .dat (.int m), .obj l0, .obj f0, k4] ∧ ws.length = i ∧ (ws ++ rest).Perm menu ∧ H' l0 = some (.lst (rest.map V.int)) ∧ H' f0 = some (.lst (ws.map V.int)) ∧ Ch p H H' ∧ PenAt K H' p c (n + 1 + 2 * i))
    rfl PassesOwn.never (igx_range T.n_range (gx_op op_add (gx_de de_int fun v1 H3 x3 t1 => ⟨x3.xt, gx_drawD (k := k) T (hr.mono (by omega)) (oe_name 0 rfl) (de_name 1 rfl) hm1 (by omega) (((pen.mono x02).mono x3)) (by omega) fun j H4 j0 j1 c4 pen4 => ?_⟩))) ?_ ?_ ?_ ?_
  · obtain rfl := t1.int_inv
    have c24 : Ch p H2 H4 := x3.ch.trans c4
    refine ⟨1, j, rfl, rfl, 1 + j, rfl, by omega, by omega, j.toNat, by simp [rangeD]; omega, by omega, x02.ch.trans c24, c24.2, pen4, c24.lst hlp (x2 _ _ hx), c24.lst hfp hy⟩
  · rintro ds H3 ⟨j, hl, hj, c3, xt3, pen3, h1, h2⟩
    exact ⟨xt3, [], menu, _, rfl, rfl, List.Perm.refl _, h1, h2, c3, pen3⟩
  · exact fun _ _ _ _ _ _ _ _ => trivial
  · rintro ds H3 i d ρ' H' ⟨j, hl, hj, c3, xt3, pen3, h1, h2⟩ hd ⟨ws, rest, k4, rfl, hws, hperm, hrest, hfound, hch, hpen⟩
    have hi : i < ds.length := (List.getElem?_eq_some_iff.mp hd).1
    have hlen : ws.length + rest.length = 8 := by
      have := hperm.length_eq
      rw [List.length_append] at this
      exact this
    refine ⟨_, _, tg_name 4 sc__law_worths.nd, fun H4 x4 => ?_⟩
    have hr4 := x4 _ _ hrest
    have hf4 := x4 _ _ hfound
    have el : ∀ H5 pos p1, H5 l0 = some (.lst (rest.map V.int)) → DE (CC P w K mg base d__law_worths N__law_worths (He.fAd K ("_law_worths", none)) cdv A outer s H E) (.Call (.Name "len" p1) [.Name "_law_some" pos] [] pos) [.obj p, .dat (.int m), .obj l0, .obj f0, .dat d] H5 (.int rest.length) := fun H5 pos p1 h5 => DE.to (de_lenO rfl T.n_len (oe_name 2 rfl) h5) (by rw [List.length_map])
    refine sx_dropX (gx_app (oe_name 3 rfl) hf4 (gx_pop (oe_name 2 rfl) hr4 (gx_draw (k := k) T (hr.mono (by omega)) (oe_name 0 rfl) (gx_ix ix_list (gx_lst (ga_de (DE.to (de_lenO rfl T.n_len (oe_name 2 rfl) hr4) (by rw [List.length_map])) fun v1 H5 x5 t1 => ga_de (d := .int (if (rest.length : Int) < 4 then rest.length else 4)) (de_min2 rfl T.n_min (ae_cons de_int (ae_cons (DE.to (de_lenO rfl T.n_len (oe_name 2 rfl) (x5 _ _ hr4)) (by rw [List.length_map])) ae_nil))) fun v2 H6 x6 t2 => ga_nil ⟨by show 2 ≤ sizeLine; decide, fun r hr0 => ?_⟩)))))) 
    obtain rfl := t1.int_inv
    obtain rfl := t2.int_inv
    have x46 : Ex H4 (upd H6 r (.lst [V.int rest.length, V.int (if (rest.length : Int) < 4 then rest.length else 4)])) := (x5.trans x6).trans (Ex.new hr0)
    refine ⟨x46.xt, gx_drawD (k := k) T (hr.mono (by omega)) (oe_name 0 rfl) (de_int (i := 2)) (by omega) (by omega) ((hpen.mono x4).mono x46) (by omega) fun j2 H7 j20 j21 c7 pen7 => ?_⟩
    have hrp : r ≠ p := by
      obtain ⟨⟨o, ho⟩, _⟩ := ((hpen.mono x4).mono (x5.trans x6)).ex
      exact (ne_new ho hr0).symm
    obtain ⟨mm, hmm, m1, m2⟩ : ∃ mm : Int, atI [V.int rest.length, V.int (if (rest.length : Int) < 4 then rest.length else 4)] j2 = some (.int mm) ∧ 1 ≤ mm ∧ mm ≤ rest.length := by
      have : j2 = 0 ∨ j2 = 1 := by omega
      rcases this with rfl | rfl
      · exact ⟨_, atI_nat (j := 0) rfl, by omega, by omega⟩
      · exact ⟨_, atI_nat (j := 1) rfl, by split <;> omega, by split <;> omega⟩
    have c47 : Ch p H4 H7 := x46.ch.trans c7
    refine ⟨r, _, j2, _, rfl, rfl, SqL.of (c7.lst hrp upd_same), hmm, c47.2, c, n + 1 + 2 * i + 1, mm, rfl, m1, by omega, pen7, by omega, fun j3 H8 j30 j31 c8 pen8 => ?_⟩
    have c48 := c47.trans c8
    have hr8 : H8 l0 = some (.lst (rest.map V.int)) := c48.lst hlp hr4
    have hf8 : H8 f0 = some (.lst (ws.map V.int)) := c48.lst hfp hf4
    refine ⟨c48.2, rest.map V.int, j3.toNat, by rw [Int.toNat_of_nonneg j30], hr8, by rw [List.length_map]; omega, by omega, fun y hy => ?_⟩
    rw [List.getElem?_map] at hy
    obtain ⟨z, hz, rfl⟩ := Option.map_eq_some_iff.mp hy
    have hf9 : upd H8 l0 (.lst ((rest.map V.int).eraseIdx j3.toNat)) f0 = some (.lst (ws.map V.int)) := upd_other hlf.symm hf8
    have pen9 := pen8.upd (xs' := (rest.map V.int).eraseIdx j3.toNat) hr8 hlc
    refine ⟨c48.2.trans (xt_updL hr8), ws.map V.int, hf9, by rw [List.length_map]; omega, (c48.2.trans (xt_updL hr8)).trans (xt_updL hf9), sx_nil fun σ s => ⟨_, s, ws ++ [z], rest.eraseIdx j3.toNat, _, rfl, by rw [List.length_append, hws]; rfl, perm_pop hperm hz, ?_, ?_, ?_, ?_⟩⟩
    · refine upd_other hlf ?_
      rw [← map_erase]
      exact upd_same
    · rw [List.map_append]
      exact upd_same
    · exact ch_updN (ch_updN ((hch.trans x4.ch).trans c48) hl0) hf0'
    · exact (pen9.upd hf9 hfc).le (by omega)
  · rintro ds H3 ρ' H' ⟨j, hl, hj, c3, xt3, pen3, h1, h2⟩ ⟨ws, rest, k4, rfl, hws, hperm, hrest, hfound, hch, hpen⟩
    refine sx_ret (de_tupleO rfl T.n_tuple (oe_name 3 rfl) (SqL.of hfound) (tps_ints ws)) fun v H4 x4 t => q ws v H4 (hch.trans x4.ch) ((hpen.mono x4).le (by omega)) t ⟨?_, ?_, by omega, ?_⟩
    · intro z
      subst z
      simp at hws
      omega
    · exact (List.nodup_append.mp (hperm.nodup_iff.mpr menu_nd)).1
    · exact fun z hz => hperm.mem_iff.mp (List.mem_append.mpr (.inl hz))
end
end CW
/-! part CwL4 -/
set_option maxRecDepth 100000
set_option maxHeartbeats 1000000
/-! The law's own defs: wishes, bounds. -/
namespace CW
open PySem PySem.Spec PyProof.Rows L2
theorem kind_ok {z : Str} (h : z ∈ kindMenu) : PyData.strOk z = true ∧ nameOk z = true := by
  have : ∀ z ∈ kindMenu, PyData.strOk z = true ∧ nameOk z = true := by decide +kernel
  exact this z h
theorem depth_wish (x : Wish) : (eWish x).depth ≤ 4 := by
  have h1 := depth_ints x.worths
  have h2 : (eNeed x.needs).depth ≤ 2 := by
    cases x.needs with
    | none => simp [eNeed, PyData.depth]
    | some p => exact depth_pr p
  unfold eWish
  simp only [PyData.depth, PyData.depthAll]
  omega
theorem depths_wish (ws : List Wish) : PyData.depthAll (ws.map eWish) ≤ 60 := Nat.le_trans (depth_all depth_wish ws) (by decide)
def spWishes (K : PySem.W.Frag) : Sp := fun vs H Q _ => ∃ (p c a : Addr) (n : Nat) (m : Int) (ks : List Str), vs = [.ref p, .ref a, .int m] ∧ 1 ≤ m ∧ m ≤ 4 ∧ PenAt K H p c n ∧ n ≤ 80000 ∧ H a = some (.lst (ks.map V.str)) ∧ ks.length ≤ 12 ∧ ks.Nodup ∧ (∀ z ∈ ks, z ∈ kindMenu) ∧
  ∀ (ws : List Wish) v H', Ch p H H' → PenAt K H' p c (n + 14 * ks.length) → Tp K H' v (eWishes ws) → WOk ks ws → ws.length ≤ ks.length → Q v H'
section
variable {X : Cx} {e : Expr} {ρ : List Kd} {H : Hp} {Q : VK} {pos p1 p2 : Pos} {l : Addr} {xs : List V} {k : Nat} {p c a : Addr} {n : Nat} {m : Int}
/-- list(xs) -/
theorem gx_listO (hm : X.mg "list" = none) (h : OE X e ρ H l) (hH : H l = some (.lst xs)) (q : ∀ r, H r = none → Q (.ref r) (upd H r (.lst xs))) (hg : Gl X "list" := by rfl) (he : starEach [e] X.env = (false, eval e X.env) :: starEach [] X.env := by rfl) (hpl : (backTo pos (starEach [] X.env)).any (·.1) = false := by rfl) :
    WX X (.Call (.Name "list" p1) [e] [] pos) ρ H Q := gx_callTy call_list_of hm (by decide +kernel) (ga_oe h (ga_nil ⟨l, xs, rfl, .inl (SqL.of hH), q⟩) he) hg (by decide) (by decide) he hpl
end
section
variable {P : Program} {w : World} {K : PySem.W.Frag} {mg : Str → Option Value} {base : Heap} {k : Nat}
theorem cal_wishes (T : Tx K mg w) (k : Nat) : Cal P w K mg base "_law_wishes" (k + 3) (spWishes K) :=
  cal_S d__law_wishes T.g__law_wishes T.f__law_wishes sc__law_wishes (fun _ _ _ _ _ _ us hl => match us, hl with | [_, _, _], _ => rfl) (len := fun vs H Q E ⟨p, c, a, n, m, ks, e, _⟩ => by rw [e]; rfl) fun cdv A outer s H E vs Q hr hsp => by
  obtain ⟨p, c, a, n, m, ks, e, hm1, hm2, pen, hn, ha, hks, knd, kmen, q⟩ := hsp
  subst e
  obtain ⟨⟨op, hp⟩, ⟨oc, hc⟩⟩ := pen.ex
  refine ⟨[.obj p, .obj a, .dat (.int m)], ⟨rfl, rfl, ⟨_, rfl, .int m⟩, trivial⟩, ?_⟩
  refine sx_setX 3 sc__law_wishes.nd (gx_listO T.n_list (oe_name 1 rfl) ha fun l0 hl0 => ⟨.obj l0, rfl, (Ex.new hl0).xt, ?_⟩)
  have x1 : Ex H (upd H l0 (.lst (ks.map V.str))) := Ex.new hl0
  generalize hH1 : upd H l0 (.lst (ks.map V.str)) = H1 at x1
  have hx : H1 l0 = some (.lst (ks.map V.str)) := by rw [← hH1]; exact upd_same
  refine sx_setL 4 sc__law_wishes.nd (le_lst ae_nil) fun f0 ys H2 hf0 x2 hy ty => ?_
  cases ty
  have x02 := x1.trans x2
  have hlp : l0 ≠ p := (ne_new hp hl0).symm
  have hlc : l0 ≠ c := (ne_new hc hl0).symm
  have hf0' : H f0 = none := x1.free hf0
  have hfp : f0 ≠ p := (ne_new hp hf0').symm
  have hfc : f0 ≠ c := (ne_new hc hf0').symm
  have hlf : l0 ≠ f0 := ne_new hx hf0
  refine sx_whileX (fun mm ρ' H' => ∃ (ws : List Wish) (rest : List Str) (xs : List V) (k5 k6 k7 : Kd), ρ' = [.obj p, .obj a, .dat (.int m), .obj l0, .obj f0, k5, k6, k7] ∧ mm = rest.length ∧ ((ws.map (·.kind)) ++ rest).Perm ks ∧ H' l0 = some (.lst (rest.map V.str)) ∧ H' f0 = some (.lst xs) ∧ Tps K H' xs (ws.map eWish) ∧
      (∀ x ∈ ws, WishOk ks x) ∧ Ch p H H' ∧ PenAt K H' p c (n + 14 * ws.length)) PassesOwn.never ks.length
    ⟨[], ks, [], _, _, _, rfl, rfl, List.Perm.refl _, x2 _ _ hx, hy, .nil, (fun _ h => by cases h), x02.ch, pen.mono x02⟩ ?_
  rintro mm ρ' H' ⟨ws, rest, xs, k5, k6, k7, rfl, rfl, hperm, hrest, hfound, tx, wok, hch, hpen⟩
  have hlen : ws.length + rest.length = ks.length := by
    have := hperm.length_eq
    rw [List.length_append, List.length_map] at this
    exact this
  have rmem : ∀ z ∈ rest, z ∈ ks := fun z hz => hperm.mem_iff.mp (List.mem_append.mpr (.inr hz))
  have trest : ∀ H, Tps K H (rest.map V.str) (rest.map .str) := fun H => tps_strs fun z hz => (kind_ok (kmen z (rmem z hz))).1
  refine gt_be (k := !(rest.map PyData.str).isEmpty) (be_neNil hr (oe_name 3 rfl) (SqL.of hrest) (trest _) (depths_str rest) (le_lst ae_nil)) fun H3 x3 => ⟨x3.xt, ?_⟩
  by_cases hk : (!(rest.map PyData.str).isEmpty) = true
  rotate_left
  · rw [if_neg hk]
    have hnil : rest = [] := by cases rest with | nil => rfl | cons _ _ => exact absurd rfl hk
    subst hnil
    rw [List.append_nil] at hperm
    exact sx_ret (de_tupleO rfl T.n_tuple (oe_name 4 rfl) (SqL.of (x3 _ _ hfound)) (tx.mono x3.xt)) fun v H4 x4 t => q ws v H4 ((hch.trans x3.ch).trans x4.ch) (((hpen.mono x3).mono x4).le (by simp at hlen; omega)) t ⟨hperm.nodup_iff.mpr knd, wok⟩ (by omega)
  rw [if_pos hk]
  have hpos : 0 < rest.length := by cases rest with | nil => exact absurd hk (by simp) | cons _ _ => simp
  have hr3 := x3 _ _ hrest
  -- the kind
  refine sx_setX 5 sc__law_wishes.nd (gx_pop (oe_name 3 rfl) hr3 (gx_drawD (k := k) T (hr.mono (by omega)) (oe_name 0 rfl) (m := rest.length) (DE.to (de_lenO rfl T.n_len (oe_name 3 rfl) hr3) (by rw [List.length_map])) (by omega) (by omega) (hpen.mono x3) (by omega) fun j H4 j0 j1 c4 pen4 => ?_))
  have hr4 := c4.lst hlp hr3
  refine ⟨c4.2, rest.map V.str, j.toNat, by rw [Int.toNat_of_nonneg j0], hr4, by rw [List.length_map]; omega, by omega, fun y hyy => ?_⟩
  rw [List.getElem?_map] at hyy
  obtain ⟨z, hz, rfl⟩ := Option.map_eq_some_iff.mp hyy
  have zr : z ∈ rest := List.mem_of_getElem? hz
  have zk := rmem z zr
  have hf4 : upd H4 l0 (.lst ((rest.map V.str).eraseIdx j.toNat)) f0 = some (.lst xs) := upd_other hlf.symm (c4.lst hfp (x3 _ _ hfound))
  have xt5 : Xt H3 (upd H4 l0 (.lst ((rest.map V.str).eraseIdx j.toNat))) := c4.2.trans (xt_updL hr4)
  have pen5 := pen4.upd (xs' := (rest.map V.str).eraseIdx j.toNat) hr4 hlc
  have ch5 : Ch p H (upd H4 l0 (.lst ((rest.map V.str).eraseIdx j.toNat))) := ch_updN ((hch.trans x3.ch).trans c4) hl0
  have hl5 : upd H4 l0 (.lst ((rest.map V.str).eraseIdx j.toNat)) l0 = some (.lst ((rest.eraseIdx j.toNat).map V.str)) := by rw [← map_erase]; exact upd_same
  have tx5 := (tx.mono x3.xt).mono xt5
  generalize upd H4 l0 (.lst ((rest.map V.str).eraseIdx j.toNat)) = H5 at hf4 xt5 pen5 ch5 hl5 tx5
  refine ⟨.dat (.str z), ⟨_, rfl, .str z (kind_ok (kmen z zk)).1⟩, xt5, ?_⟩
  refine sx_set 6 sc__law_wishes.nd de_non fun H6 x6 => ?_
  -- behind the needs
  have key : ∀ (nd : Option Pr) k7 H7, Ch p H H7 → PenAt K H7 p c (n + 14 * ws.length + 4) → H7 l0 = some (.lst ((rest.eraseIdx j.toNat).map V.str)) → H7 f0 = some (.lst xs) → Tps K H7 xs (ws.map eWish) →
      SX (CC P w K mg base d__law_wishes N__law_wishes (He.fAd K ("_law_wishes", none)) cdv A outer s H E) [(match d__law_wishes.body with | [_, _, .While _ b _ _, _] => b.getD 3 (.Pass ⟨0, 0, 0, 0⟩) | _ => .Pass ⟨0, 0, 0, 0⟩)] [.obj p, .obj a, .dat (.int m), .obj l0, .obj f0, .dat (.str z), .dat (eNeed nd), k7] H7
        (loopD (CC P w K mg base d__law_wishes N__law_wishes (He.fAd K ("_law_wishes", none)) cdv A outer s H E) (d__law_wishes.body.drop 3) (DE0 Q) fun σ H4 => ∃ m', m' < rest.length ∧ ∃ ρ4, Sl K H4 σ ρ4 ∧ ∃ (ws : List Wish) (rest : List Str) (xs : List V) (k5 k6 k7 : Kd), ρ4 = [.obj p, .obj a, .dat (.int m), .obj l0, .obj f0, k5, k6, k7] ∧ m' = rest.length ∧ ((ws.map (·.kind)) ++ rest).Perm ks ∧ H4 l0 = some (.lst (rest.map V.str)) ∧ H4 f0 = some (.lst xs) ∧ Tps K H4 xs (ws.map eWish) ∧
      (∀ x ∈ ws, WishOk ks x) ∧ Ch p H H4 ∧ PenAt K H4 p c (n + 14 * ws.length)) := by
    intro nd k7 H7 ch7 pen7 hl7 hf7 tx7
    refine sx_dropX (gx_app (oe_name 4 rfl) hf7 (gx_tup (ga_de (de_name 5 rfl) fun v1 H8 x8 t1 => ga_cons (gx_call (cal_worths T k) (hr.mono (by omega)) (ga_oe (oe_name 0 rfl) (ga_de (de_name 2 rfl) fun v2 H9 x9 t2 => ga_nil ?_))))))
    obtain rfl := t2.int_inv
    refine ⟨p, c, n + 14 * ws.length + 4, m, rfl, hm1, hm2, (pen7.mono x8).mono x9, by omega, fun wo v H10 c10 pen10 tv wok2 => ⟨(x9.xt.trans c10.2), ga_cons (gx_eqC hr (gx_drawD (k := k) T (hr.mono (by omega)) (oe_name 0 rfl) (de_int (i := 3)) (by omega) (by omega) pen10 (by omega) fun jj H11 jj0 jj1 c11 pen11 => ⟨c11.2, jj, rfl, fun H12 x12 => ?_⟩))⟩⟩
    refine ⟨c11.2.trans x12.xt, ga_de (de_name 6 rfl) fun v3 H13 x13 t3 => ga_nil ⟨by show 4 ≤ sizeLine; decide, fun r o hr0 ho => ?_⟩⟩
    have c713 : Ch p H7 (upd H13 r (.frz o (.tup [v1, v, .bl (decide (jj = 0)), v3]))) := ((((((x8.trans x9).ch.trans c10).trans c11).trans (x12.trans x13).ch)).trans (Ex.new hr0).ch)
    have c813 : Xt H8 (upd H13 r (.frz o (.tup [v1, v, .bl (decide (jj = 0)), v3]))) := (((x9.ch.trans c10).trans c11).trans ((x12.trans x13).trans (Ex.new hr0)).ch : Ch p _ _).2
    have tw : Tp K (upd H13 r (.frz o (.tup [v1, v, .bl (decide (jj = 0)), v3]))) (.ref r) (eWish ⟨z, wo, decide (jj = 0), nd⟩) :=
      .tup (PlT.of ho upd_same) (.cons (t1.mono c813) (.cons (tv.mono ((c11.trans ((x12.trans x13).trans (Ex.new hr0)).ch : Ch p _ _).2)) (.cons (.bl _) (.cons (t3.mono (Ex.new hr0).xt) .nil))))
    have pen14 : PenAt K (upd H13 r (.frz o (.tup [v1, v, .bl (decide (jj = 0)), v3]))) p c (n + 14 * ws.length + 4 + 9 + 1) := ((pen11.mono (x12.trans x13)).mono (Ex.new hr0))
    generalize upd H13 r (.frz o (.tup [v1, v, .bl (decide (jj = 0)), v3])) = H14 at c713 tw pen14
    have hf14 := c713.lst hfp hf7
    have hl14 := c713.lst hlp hl7
    refine ⟨c713.2, xs, hf14, by rw [tx7.len, List.length_map]; omega, c713.2.trans (xt_updL hf14), sx_nil fun σ s => ⟨_, ?_, _, s, ws ++ [⟨z, wo, decide (jj = 0), nd⟩], rest.eraseIdx j.toNat, xs ++ [.ref r], _, _, _, rfl, rfl, ?_, upd_other hlf hl14, upd_same, ?_, ?_, ch_updN (ch7.trans c713) hf0', (pen14.upd hf14 hfc).le ?_⟩⟩
    · rw [List.length_eraseIdx, if_pos (by omega)]; omega
    · rw [List.map_append]
      exact perm_pop hperm hz
    · rw [List.map_append]
      have xu : Xt H14 (upd H14 f0 (.lst (xs ++ [.ref r]))) := xt_updL hf14
      exact ((tx7.mono c713.2).mono xu).append (.cons (tw.mono xu) .nil)
    · intro x hx'
      rcases List.mem_append.mp hx' with h | h
      · exact wok x h
      · rw [List.mem_singleton] at h
        subst h
        exact ⟨zk, wok2.ne, wok2.nd, by have := wok2.len; show wo.length ≤ 4; omega, wok2.men⟩
    · rw [List.length_append, List.length_singleton]; omega
  have ch6 := ch5.trans x6.ch
  have pen6 := pen5.mono x6
  have hf6 := x6 _ _ hf4
  have hl6 := x6 _ _ hl5
  have tx6 := tx5.mono x6.xt
  refine sx_ifX (gt_w (gw_and (gt_be (k := !(ws.map eWish).isEmpty) (be_neNil hr (oe_name 4 rfl) (SqL.of hf6) tx6 (depths_wish ws) (le_lst ae_nil)) fun H7 x7 => ⟨x7.xt, ?_⟩)))
  by_cases hkw : (!(ws.map eWish).isEmpty) = true
  rotate_left
  · rw [if_neg hkw]
    exact ⟨x7.xt, by rw [if_neg Bool.false_ne_true]; exact sx_next (key none _ H7 (ch6.trans x7.ch) ((pen6.mono x7).le (by omega)) (x7 _ _ hl6) (x7 _ _ hf6) (tx6.mono x7.xt))⟩
  rw [if_pos hkw]
  have wpos : 0 < ws.length := by cases ws with | nil => exact absurd hkw (by simp) | cons _ _ => simp
  refine gw_and1 (gt_eqC hr (gx_drawD (k := k) T (hr.mono (by omega)) (oe_name 0 rfl) (de_int (i := 3)) (by omega) (by omega) (pen6.mono x7) (by omega) fun j3 H8 j30 j31 c8 pen8 => ⟨c8.2, j3, rfl, fun H9 x9 => ?_⟩))
  have c79 : Ch p H6 H9 := (x7.ch.trans c8).trans x9.ch
  have hf9 := c79.lst hfp hf6
  have hl9 := c79.lst hlp hl6
  have tx9 := tx6.mono c79.2
  have pen9 := pen8.mono x9
  refine ⟨c79.2, ?_⟩
  by_cases hk3 : decide (j3 = 0) = true
  rotate_left
  · rw [if_neg hk3]
    exact sx_next (key none _ H9 (ch6.trans c79) (pen9.le (by omega)) hl9 hf9 tx9)
  rw [if_pos hk3]
  refine sx_setX 7 sc__law_wishes.nd (gx_ix ix_list (gx_oe (oe_name 4 rfl) ⟨Xt.refl _, gx_drawD (k := k) T (hr.mono (by omega)) (oe_name 0 rfl) (m := ws.length) (DE.to (de_lenO rfl T.n_len (oe_name 4 rfl) hf9) (by rw [tx9.len, List.length_map])) (by omega) (by omega) pen9 (by omega) fun j4 H10 j40 j41 c10 pen10 => ?_⟩))
  have hf10 := c10.lst hfp hf9
  have tx10 := tx9.mono c10.2
  have hlt : j4.toNat < ws.length := by omega
  obtain ⟨u, hu, tu⟩ := tx10.at (i := j4.toNat) (d := eWish ws[j4.toNat]) (by rw [List.getElem?_map, List.getElem?_eq_getElem hlt]; rfl)
  have e4 : j4 = (j4.toNat : Int) := by omega
  refine ⟨f0, xs, j4, u, rfl, rfl, SqL.of hf10, by rw [e4]; exact atI_nat hu, .dat (eWish ws[j4.toNat]), ⟨u, rfl, tu⟩, c10.2, ?_⟩
  generalize hwi : ws[j4.toNat] = wi
  have wiok : WishOk ks wi := by rw [← hwi]; exact wok _ (List.getElem_mem hlt)
  refine sx_setX 6 sc__law_wishes.nd (gx_tup (ga_de (de_at (ds := [.str wi.kind, eInts wi.worths, .bool wi.must, eNeed wi.needs]) 0 (de_name 7 rfl)) fun v1 H11 x11 t1 => ga_cons (gx_ix ix_tup (gx_de (de_bin (opd_cat (ds := wi.worths.map .int) (es := [.int 4]) ?_) (de_at (ds := [.str wi.kind, eInts wi.worths, .bool wi.must, eNeed wi.needs]) 1 (de_name 7 rfl)) (de_tup (ae_cons de_int ae_nil))) fun v2 H12 x12 t2 => ⟨x12.xt, gx_drawD (k := k) T (hr.mono (by omega)) (oe_name 0 rfl) (m := wi.worths.length + 1)
    (DE.to (de_bin opd_add (de_len (ds := wi.worths.map .int) rfl T.n_len (de_at (ds := [.str wi.kind, eInts wi.worths, .bool wi.must, eNeed wi.needs]) 1 (de_name 7 rfl))) de_int) (by rw [List.length_map])) (by omega) (by have := wiok.len; omega) ((pen10.mono x11).mono x12) (by omega) fun j5 H13 j50 j51 c13 pen13 => ?_⟩))))
  · rw [List.length_map]
    have := wiok.len
    exact small1k (by simp only [List.length_singleton]; omega)
  obtain ⟨ta, tvs, rfl, tsq, tts⟩ := (t2.mono c13.2).tuple_inv
  have e5 : j5 = (j5.toNat : Int) := by omega
  obtain ⟨w5, hw5⟩ : ∃ w5, (wi.worths ++ [4])[j5.toNat]? = some w5 := ⟨_, List.getElem?_eq_getElem (by rw [List.length_append, List.length_singleton]; omega)⟩
  obtain ⟨v5, hv5, tv5⟩ := tts.at (i := j5.toNat) (d := .int w5) (by
    have : wi.worths.map PyData.int ++ [.int 4] = (wi.worths ++ [4]).map .int := by rw [List.map_append]; rfl
    rw [this, List.getElem?_map, hw5]
    rfl)
  refine ⟨ta, tvs, j5, v5, rfl, rfl, tsq, by rw [e5]; exact atI_nat hv5, x12.xt.trans c13.2, ga_nil ⟨by show 2 ≤ sizeLine; decide, fun r o hr0 ho => ⟨.dat (ePr (wi.kind, w5)), ⟨_, rfl, .tup (PlT.of ho upd_same) (.cons (t1.mono ((x12.xt.trans c13.2).trans (Ex.new hr0).xt)) (.cons (tv5.mono (Ex.new hr0).xt) .nil))⟩, ?_, ?_⟩⟩⟩
  · exact ((x11.trans x12).xt.trans c13.2).trans (Ex.new hr0).xt
  have c6 : Ch p H6 (upd H13 r (.frz o (.tup [v1, v5]))) := (((c79.trans c10).trans (x11.trans x12).ch).trans c13).trans (Ex.new hr0).ch
  exact sx_next (key (some (wi.kind, w5)) _ _ (ch6.trans c6) ((pen13.mono (Ex.new hr0)).le (by omega)) (c6.lst hlp hl6) (c6.lst hfp hf6) (tx6.mono c6.2))
end
end CW
/-! part CwL5 -/
set_option maxRecDepth 100000
set_option maxHeartbeats 1000000
/-! The law's own defs: bounds, books. -/
namespace CW
open PySem PySem.Spec PyProof.Rows L2
def spBounds (K : PySem.W.Frag) : Sp := fun vs H Q _ => ∃ (p c a : Addr) (n : Nat) (m : Int) (ks : List Str), vs = [.ref p, .ref a, .int m] ∧ 1 ≤ m ∧ m ≤ 4 ∧ PenAt K H p c n ∧ n ≤ 80000 ∧ H a = some (.lst (ks.map V.str)) ∧ ks.length ≤ 12 ∧ ks.Nodup ∧ (∀ z ∈ ks, z ∈ kindMenu) ∧
  ∀ (b : Plan) v H', Ch p H H' → PenAt K H' p c (n + 10 * ks.length + 1) → Tp K H' v (ePlan b) → BOk b → b.length ≤ ks.length + 1 → Q v H'
structure RowsOk (ks : List Str) (b : Plan) : Prop where
  sub : (b.map (·.1)).Sublist ks
  each : ∀ q ∈ b, q.2 ≠ [] ∧ ∀ w ∈ q.2, worthOk w = true
section
variable {P : Program} {w : World} {K : PySem.W.Frag} {mg : Str → Option Value} {base : Heap} {k : Nat}
theorem cal_bounds (T : Tx K mg w) (k : Nat) : Cal P w K mg base "_law_bounds" (k + 3) (spBounds K) :=
  cal_S d__law_bounds T.g__law_bounds T.f__law_bounds sc__law_bounds (fun _ _ _ _ _ _ us hl => match us, hl with | [_, _, _], _ => rfl) (len := fun vs H Q E ⟨p, c, a, n, m, ks, e, _⟩ => by rw [e]; rfl) fun cdv A outer s H E vs Q hr hsp => by
  obtain ⟨p, c, a, n, m, ks, e, hm1, hm2, pen, hn, ha, hks, knd, kmen, q⟩ := hsp
  subst e
  obtain ⟨⟨op, hp⟩, ⟨oc, hc⟩⟩ := pen.ex
  have hap : a ≠ p := fun z => by
    obtain ⟨_, _, _, _, ⟨kvs, h1, _⟩, _⟩ := pen
    rw [z, h1] at ha
    cases ha
  refine ⟨[.obj p, .obj a, .dat (.int m)], ⟨rfl, rfl, ⟨_, rfl, .int m⟩, trivial⟩, ?_⟩
  refine sx_setL 3 sc__law_bounds.nd (le_lst ae_nil) fun f0 ys H2 hf0 x2 hy ty => ?_
  cases ty
  have hfp : f0 ≠ p := (ne_new hp hf0).symm
  have hfc : f0 ≠ c := (ne_new hc hf0).symm
  have hfa : f0 ≠ a := (ne_new ha hf0).symm
  have tks : ∀ H, Tps K H (ks.map V.str) (ks.map .str) := fun H => tps_strs fun z hz => (kind_ok (kmen z hz)).1
  refine sx_forX (Post := fun ds H3 => ds = ks.map .str ∧ Ex H2 H3)
    (fun ds H3 i ρ' H' => ∃ (b : Plan) (xs : List V) (k4 : Kd), ρ' = [.obj p, .obj a, .dat (.int m), .obj f0, k4] ∧ H' a = some (.lst (ks.map V.str)) ∧ H' f0 = some (.lst xs) ∧ Tps K H' xs (b.map eRow) ∧ RowsOk (ks.take i) b ∧ Ch p H H' ∧ PenAt K H' p c (n + 10 * i) ∧ Xt H3 H')
    rfl PassesOwn.never (igx_ig (ig_obj (oe_name 1 rfl) (SqL.of (x2 _ _ ha)) (tks _))) ?_ ?_ ?_ ?_
  · rintro ds H3 ⟨rfl, x3⟩
    exact ⟨x3.xt, [], [], _, rfl, x3 _ _ (x2 _ _ ha), x3 _ _ hy, .nil, ⟨by simp, fun _ h => by cases h⟩, (x2.trans x3).ch, (pen.mono x2).mono x3, Xt.refl _⟩
  · rintro ds H3 i ρ' H' ⟨rfl, x3⟩ hi ⟨b, xs, k4, rfl, ha', hf', tx, ro, hch, hpen, xt⟩
    exact ⟨xt, SqL.of ha'⟩
  · rintro ds H3 i d ρ' H' ⟨rfl, x3⟩ hd ⟨b, xs, k4, rfl, ha', hf', tx, ro, hch, hpen, xt⟩
    rw [List.getElem?_map] at hd
    obtain ⟨z, hz, rfl⟩ := Option.map_eq_some_iff.mp hd
    obtain ⟨hi, ez⟩ := List.getElem?_eq_some_iff.mp hz
    have blen : b.length ≤ i := by
      have := ro.sub.length_le
      rw [List.length_map, List.length_take] at this
      omega
    have tk : ks.take (i + 1) = ks.take i ++ [z] := by rw [List.take_add_one, hz]; rfl
    refine ⟨_, _, tg_name 4 sc__law_bounds.nd, fun H4 x4 => ?_⟩
    refine sx_ifX (gt_gtC (gx_drawD (k := k) T (hr.mono (by omega)) (oe_name 0 rfl) (de_int (i := 5)) (by omega) (by omega) (hpen.mono x4) (by omega) fun j H5 j0 j1 c5 pen5 => ⟨c5.2, j, rfl, fun H6 x6 => ?_⟩))
    have c46 : Ch p H4 H6 := c5.trans x6.ch
    refine ⟨c46.2, ?_⟩
    by_cases hj : decide (j > 0) = true
    rotate_left
    · rw [if_neg hj]
      refine sx_next (sx_nil fun σ s => ⟨_, s, b, xs, _, rfl, c46.lst hap (x4 _ _ ha'), c46.lst hfp (x4 _ _ hf'), (tx.mono x4.xt).mono c46.2, ⟨?_, ro.each⟩, (hch.trans x4.ch).trans c46, (pen5.mono x6).le (by omega), (xt.trans x4.xt).trans c46.2⟩)
      rw [tk]
      exact ro.sub.trans (List.sublist_append_left _ _)
    rw [if_pos hj]
    have hf6 := c46.lst hfp (x4 _ _ hf')
    refine sx_dropX (gx_app (oe_name 3 rfl) hf6 (gx_tup (ga_de (de_name 4 rfl) fun v1 H7 x7 t1 => ga_cons (gx_call (cal_worths T k) (hr.mono (by omega)) (ga_oe (oe_name 0 rfl) (ga_de (de_name 2 rfl) fun v2 H8 x8 t2 => ga_nil ?_))))))
    obtain rfl := t2.int_inv
    refine ⟨p, c, n + 10 * i + 1, m, rfl, hm1, hm2, ((pen5.mono x6).mono x7).mono x8, by omega, fun wo v H9 c9 pen9 tv wok2 => ⟨x8.xt.trans c9.2, ga_nil ⟨by show 2 ≤ sizeLine; decide, fun r o hr0 ho => ?_⟩⟩⟩
    have c610 : Ch p H6 (upd H9 r (.frz o (.tup [v1, v]))) := ((x7.trans x8).ch.trans c9).trans (Ex.new hr0).ch
    have tw : Tp K (upd H9 r (.frz o (.tup [v1, v]))) (.ref r) (eRow (z, wo)) := .tup (PlT.of ho upd_same) (.cons (t1.mono ((x8.ch.trans c9).trans (Ex.new hr0).ch : Ch p _ _).2) (.cons (tv.mono (Ex.new hr0).xt) .nil))
    have pen10 : PenAt K (upd H9 r (.frz o (.tup [v1, v]))) p c (n + 10 * i + 1 + 9) := pen9.mono (Ex.new hr0)
    generalize upd H9 r (.frz o (.tup [v1, v])) = H10 at c610 tw pen10
    have c410 := c46.trans c610
    have hf10 := c610.lst hfp hf6
    have xu : Xt H10 (upd H10 f0 (.lst (xs ++ [.ref r]))) := xt_updL hf10
    refine ⟨c610.2, xs, hf10, by rw [tx.len, List.length_map]; omega, c610.2.trans xu, sx_next (sx_nil fun σ s => ⟨_, s, b ++ [(z, wo)], xs ++ [.ref r], _, rfl, upd_other hfa.symm (c410.lst hap (x4 _ _ ha')), upd_same, ?_, ⟨?_, ?_⟩, ch_updN ((hch.trans x4.ch).trans c410) hf0, (pen10.upd hf10 hfc).le (by omega), ((xt.trans x4.xt).trans c410.2).trans xu⟩)⟩
    · rw [List.map_append]
      exact (((tx.mono x4.xt).mono c410.2).mono xu).append (.cons (tw.mono xu) .nil)
    · rw [tk, List.map_append]
      exact ro.sub.append (List.Sublist.refl _)
    · intro q' hq'
      rcases List.mem_append.mp hq' with h | h
      · exact ro.each q' h
      · rw [List.mem_singleton] at h
        subst h
        exact ⟨wok2.ne, fun w hw => menu_ok (wok2.men w hw)⟩
  · rintro ds H3 ρ' H' ⟨rfl, x3⟩ ⟨b, xs, k4, rfl, ha', hf', tx, ro, hch, hpen, xt⟩
    rw [List.length_map, List.take_length] at ro
    rw [List.length_map] at hpen
    have blen : b.length ≤ ks.length := by
      have := ro.sub.length_le
      rwa [List.length_map] at this
    have fin : ∀ (b2 : Plan) xs2 H5, Ch p H H5 → PenAt K H5 p c (n + 10 * ks.length + 1) → H5 f0 = some (.lst xs2) → Tps K H5 xs2 (b2.map eRow) → BOk b2 → b2.length ≤ ks.length + 1 → SX (CC P w K mg base d__law_bounds N__law_bounds (He.fAd K ("_law_bounds", none)) cdv A outer s H E) (d__law_bounds.body.drop 3) [.obj p, .obj a, .dat (.int m), .obj f0, k4] H5 (DE0 Q) := fun b2 xs2 H5 c5 pen5 hf5 t5 bok bl =>
      sx_ret (de_tupleO rfl T.n_tuple (oe_name 3 rfl) (SqL.of hf5) t5) fun v H6 x6 t => q b2 v H6 (c5.trans x6.ch) (pen5.mono x6) t bok bl
    refine sx_ifX (gt_eqC hr (gx_drawD (k := k) T (hr.mono (by omega)) (oe_name 0 rfl) (de_int (i := 4)) (by omega) (by omega) hpen (by omega) fun j H5 j0 j1 c5 pen5 => ⟨c5.2, j, rfl, fun H6 x6 => ?_⟩))
    have c6 : Ch p H' H6 := c5.trans x6.ch
    refine ⟨c6.2, ?_⟩
    by_cases hj : decide (j = 0) = true
    rotate_left
    · rw [if_neg hj]
      exact sx_next (fin b xs H6 (hch.trans c6) (pen5.mono x6) (c6.lst hfp hf') (tx.mono c6.2) ⟨ro.sub.nodup knd, ro.each⟩ (by omega))
    rw [if_pos hj]
    have hf6 := c6.lst hfp hf'
    refine sx_append (d := eRow ("qq", [1])) (oe_name 3 rfl) hf6 (de_tup (ae_cons de_str (ae_cons (de_tup (ae_cons de_int ae_nil)) ae_nil))) (by rw [tx.len, List.length_map]; exact small1000 (by omega)) fun v H7 x7 tv => sx_next ?_
    have hf7 := x7 _ _ hf6
    have xu : Xt H7 (upd H7 f0 (.lst (xs ++ [v]))) := xt_updL hf7
    refine fin (b ++ ([("qq", [1])] : Plan)) (xs ++ [v]) _ (ch_updN ((hch.trans c6).trans x7.ch) hf0) (((pen5.mono x6).mono x7).upd hf7 hfc) upd_same ?_ ⟨?_, ?_⟩ (by rw [List.length_append, List.length_singleton]; omega)
    · rw [List.map_append]
      exact (((tx.mono c6.2).mono x7.xt).mono xu).append (.cons (tv.mono xu) .nil)
    · rw [List.map_append, List.nodup_append]
      refine ⟨ro.sub.nodup knd, by simp, fun x hx y hy e => ?_⟩
      subst e
      simp only [List.map_cons, List.map_nil, List.mem_singleton] at hy
      subst hy
      have := kmen _ (ro.sub.subset hx)
      exact absurd this (by decide +kernel)
    · intro q' hq'
      rcases List.mem_append.mp hq' with h | h
      · exact ro.each q' h
      · rw [List.mem_singleton] at h
        subst h
        exact ⟨by simp, fun w hw => by rw [List.mem_singleton] at hw; subst hw; decide⟩
/-! ### books -/
structure Book where
  ws : List Wish
  b : Plan
  ks : List Str
structure BookOk (B : Book) : Prop where
  wok : WOk B.ks B.ws
  bok : BOk B.b
  wlen : B.ws.length ≤ 3
  blen : B.b.length ≤ 4
  klen : B.ks.length ≤ 3
  kmen : ∀ z ∈ B.ks, z ∈ kindMenu
def eBook (B : Book) : PyData := .tuple [eWishes B.ws, ePlan B.b]
def spBooks (K : PySem.W.Frag) : Sp := fun vs H Q _ => ∃ (p c : Addr) (n : Nat) (many m : Int), vs = [.ref p, .int many, .int m] ∧ 0 ≤ many ∧ many ≤ 3 ∧ 1 ≤ m ∧ m ≤ 4 ∧ PenAt K H p c n ∧ n ≤ 70000 ∧
  ∀ (B0 B1 : Book) v H', Ch p H H' → PenAt K H' p c (n + 1000) → Tp K H' v (.tuple [eBook B0, eBook B1]) → BookOk B0 → BookOk B1 → Q v H'
theorem cal_books (T : Tx K mg w) (k : Nat) : Cal P w K mg base "_law_books" (k + 4) (spBooks K) :=
  cal_S d__law_books T.g__law_books T.f__law_books sc__law_books (fun _ _ _ _ _ _ us hl => match us, hl with | [_, _, _], _ => rfl) (len := fun vs H Q E ⟨p, c, n, many, m, e, _⟩ => by rw [e]; rfl) fun cdv A outer s H E vs Q hr hsp => by
  obtain ⟨p, c, n, many, m, e, hy1, hy2, hm1, hm2, pen, hn, q⟩ := hsp
  subst e
  obtain ⟨⟨op, hp⟩, ⟨oc, hc⟩⟩ := pen.ex
  refine ⟨[.obj p, .dat (.int many), .dat (.int m)], ⟨rfl, ⟨_, rfl, .int many⟩, ⟨_, rfl, .int m⟩, trivial⟩, ?_⟩
  refine sx_setX 3 sc__law_books.nd (gx_call (cal_kinds T (k + 1)) (hr.mono (by omega)) (ga_oe (oe_name 0 rfl) (ga_cons (gx_drawD (k := k) T (hr.mono (by omega)) (oe_name 0 rfl) (m := many + 1) (de_bin opd_add (de_name 1 rfl) de_int) (by omega) (by omega) pen (by omega) fun j H1 j0 j1 c1 pen1 => ⟨c1.2, ga_nil ⟨p, c, n + 1, j, rfl, j0, by omega, pen1, by omega, fun ks0 l0 H2 hl0 c2 pen2 hk0 kl0 knd0 km0 => ?_⟩⟩))))
  refine ⟨.obj l0, rfl, c1.2.trans c2.2, ?_⟩
  have c02 : Ch p H H2 := c1.trans c2
  have l0p : l0 ≠ p := by
    obtain ⟨⟨o, ho⟩, _⟩ := pen1.ex
    exact (ne_new ho hl0).symm
  refine sx_setX 4 sc__law_books.nd (gx_call (cal_kinds T (k + 1)) (hr.mono (by omega)) (ga_oe (oe_name 0 rfl) (ga_cons (gx_drawD (k := k) T (hr.mono (by omega)) (oe_name 0 rfl) (m := many + 1) (de_bin opd_add (de_name 1 rfl) de_int) (by omega) (by omega) pen2 (by omega) fun j' H3 j0' j1' c3 pen3 => ⟨c3.2, ga_nil ⟨p, c, n + 1 + 12 + 1, j', rfl, j0', by omega, pen3, by omega, fun ks1 l1 H4 hl1 c4 pen4 hk1 kl1 knd1 km1 => ?_⟩⟩))))
  refine ⟨.obj l1, rfl, c3.2.trans c4.2, ?_⟩
  have c24 : Ch p H2 H4 := c3.trans c4
  have l1p : l1 ≠ p := by
    obtain ⟨⟨o, ho⟩, _⟩ := pen3.ex
    exact (ne_new ho hl1).symm
  have hk04 := c24.lst l0p hk0
  have n0 : ks0.length ≤ 3 := by omega
  have n1 : ks1.length ≤ 3 := by omega
  refine sx_setX 5 sc__law_books.nd (gx_tup (ga_cons (gx_call (cal_wishes T k) (hr.mono (by omega)) (ga_oe (oe_name 0 rfl) (ga_oe (oe_name 3 rfl) (ga_de (de_name 2 rfl) fun v1 H5 x5 t1 => ga_nil ?_))))))
  obtain rfl := t1.int_inv
  refine ⟨p, c, l0, _, m, ks0, rfl, hm1, hm2, pen4.mono x5, by omega, x5 _ _ hk04, by omega, knd0, km0, fun ws0 vw0 H6 c6 pen6 tw0 wok0 wl0 => ?_⟩
  have c46 : Ch p H4 H6 := x5.ch.trans c6
  have hk16 := c46.lst l1p hk1
  refine ⟨c46.2, ga_cons (gx_call (cal_bounds T k) (hr.mono (by omega)) (ga_oe (oe_name 0 rfl) (ga_oe (oe_name 4 rfl) (ga_de (de_name 2 rfl) fun v2 H7 x7 t2 => ga_nil ?_))))⟩
  obtain rfl := t2.int_inv
  refine ⟨p, c, l1, _, m, ks1, rfl, hm1, hm2, pen6.mono x7, by omega, x7 _ _ hk16, by omega, knd1, km1, fun b0 vb0 H8 c8 pen8 tb0 bok0 bl0 => ?_⟩
  have c68 : Ch p H6 H8 := x7.ch.trans c8
  refine ⟨c68.2, ga_nil ⟨by show 2 ≤ sizeLine; decide, fun r0 o0 hr0 ho0 => ?_⟩⟩
  have c49 : Ch p H4 (upd H8 r0 (.frz o0 (.tup [vw0, vb0]))) := (c46.trans c68).trans (Ex.new hr0).ch
  have tB0 : Tp K (upd H8 r0 (.frz o0 (.tup [vw0, vb0]))) (.ref r0) (.tuple [eWishes ws0, ePlan b0]) := .tup (PlT.of ho0 upd_same) (.cons ((tw0.mono c68.2).mono (Ex.new hr0).xt) (.cons (tb0.mono (Ex.new hr0).xt) .nil))
  have pen9 := pen8.mono (Ex.new hr0 (o := .frz o0 (.tup [vw0, vb0])))
  generalize upd H8 r0 (.frz o0 (.tup [vw0, vb0])) = H9 at c49 tB0 pen9
  refine ⟨.dat (.tuple [eWishes ws0, ePlan b0]), ⟨_, rfl, tB0⟩, c49.2, ?_⟩
  have hk09 := c49.lst l0p hk04
  have hk19 := c49.lst l1p hk1
  refine sx_retX (gx_tup (ga_de (de_name 5 rfl) fun vB0 H10 x10 tb => ga_cons (gx_tup (ga_cons (gx_call (cal_wishes T k) (hr.mono (by omega)) (ga_oe (oe_name 0 rfl) (ga_oe (oe_name 4 rfl) (ga_de (de_name 2 rfl) fun v1 H11 x11 t1 => ga_nil ?_))))))))
  obtain rfl := t1.int_inv
  refine ⟨p, c, l1, _, m, ks1, rfl, hm1, hm2, (pen9.mono x10).mono x11, by omega, x11 _ _ (x10 _ _ hk19), by omega, knd1, km1, fun ws1 vw1 H12 c12 pen12 tw1 wok1 wl1 => ?_⟩
  have c1012 : Ch p H10 H12 := x11.ch.trans c12
  refine ⟨c1012.2, ga_cons (gx_call (cal_bounds T k) (hr.mono (by omega)) (ga_oe (oe_name 0 rfl) (ga_oe (oe_name 3 rfl) (ga_de (de_name 2 rfl) fun v2 H13 x13 t2 => ga_nil ?_))))⟩
  obtain rfl := t2.int_inv
  refine ⟨p, c, l0, _, m, ks0, rfl, hm1, hm2, pen12.mono x13, by omega, x13 _ _ (c1012.lst l0p (x10 _ _ hk09)), by omega, knd0, km0, fun b1 vb1 H14 c14 pen14 tb1 bok1 bl1 => ?_⟩
  have c1214 : Ch p H12 H14 := x13.ch.trans c14
  refine ⟨c1214.2, ga_nil ⟨by show 2 ≤ sizeLine; decide, fun r1 o1 hr1 ho1 => ?_⟩⟩
  have xn := (Ex.new hr1 (o := .frz o1 (.tup [vw1, vb1])))
  have tB1 : Tp K (upd H14 r1 (.frz o1 (.tup [vw1, vb1]))) (.ref r1) (.tuple [eWishes ws1, ePlan b1]) := .tup (PlT.of ho1 upd_same) (.cons ((tw1.mono c1214.2).mono xn.xt) (.cons (tb1.mono xn.xt) .nil))
  have c1015 : Ch p H10 (upd H14 r1 (.frz o1 (.tup [vw1, vb1]))) := (c1012.trans c1214).trans xn.ch
  have pen15 := pen14.mono xn
  generalize upd H14 r1 (.frz o1 (.tup [vw1, vb1])) = H15 at tB1 c1015 pen15
  refine ⟨c1015.2, ga_nil ⟨by show 2 ≤ sizeLine; decide, fun r2 o2 hr2 ho2 => ?_⟩⟩
  have xn2 := (Ex.new hr2 (o := .frz o2 (.tup [vB0, .ref r1])))
  refine q ⟨ws0, b0, ks0⟩ ⟨ws1, b1, ks1⟩ _ _ ((((c02.trans c24).trans c49).trans x10.ch).trans (c1015.trans xn2.ch)) ((pen15.mono xn2).le (by omega)) (.tup (PlT.of ho2 upd_same) (.cons ((tb.mono c1015.2).mono xn2.xt) (.cons (tB1.mono xn2.xt) .nil)))
    ⟨wok0, bok0, by show ws0.length ≤ 3; omega, by show b0.length ≤ 4; omega, n0, km0⟩ ⟨wok1, bok1, by show ws1.length ≤ 3; omega, by show b1.length ≤ 4; omega, n1, km1⟩
end
end CW
/-! part CwW16 -/
set_option maxRecDepth 100000
set_option maxHeartbeats 4000000
/-! The walk: heard_word, heard. -/
namespace CW
open PySem PySem.Spec PyProof.Rows L2
structure WordPre (e : End) (l : Letter) (b : Plan) : Prop where
  ask : l.word = .ask → AskPre e l b
  ans : (l.word = .yes ∨ l.word = .no ∨ l.word = .rather) → l.number = e.number → e.given = none → AnswPre e l
section
variable {X : Cx} {e1 e2 e3 : Expr} {ρ : List Kd} {H : Hp} {pos p1 k1 : Pos} {p : Addr} {en : End} {why : Str} {told : Bool}
/-- shut(known, why, is_told=..) -/
theorem ge_shutK {k : Nat} (T : Tx X.K X.mg X.w) (hr : Room (k + 2) X.A) (h1 : OE X e1 ρ H p) (hK : Knw X.K H p en) (h2 : DE X e2 ρ H (.str why)) (h3 : DE X e3 ρ H (.bool told)) (hg : Gl X "shut" := by rfl)
    (hall : (backToKw pos (keywordEach [⟨some "is_told", e3, k1⟩] X.env)).all (·.1.isSome) = true := by rfl) (hks : (backToKw pos (keywordEach [⟨some "is_told", e3, k1⟩] X.env)).filterMap (·.1) = (["is_told"] : List Str) := by rfl)
    (hs1 : starEach [e2] X.env = (false, eval e2 X.env) :: starEach [] X.env := by rfl) (hs2 : starEach [e1, e2] X.env = (false, eval e1 X.env) :: starEach [e2] X.env := by rfl)
    (hpl : ((backTo pos (starEach [e1, e2] X.env)).any (·.1) || (backToKw pos (keywordEach [⟨some "is_told", e3, k1⟩] X.env)).any (·.1.isNone)) = false := by rfl) :
    GE X (.Call (.Name "shut" p1) [e1, e2] [⟨some "is_told", e3, k1⟩] pos) ρ H (KmR X.K p H (fun e' ls => e' = shutE en why ∧ ls = if told then [writ en .bye 0 []] else [])) :=
  ge_callK (calk_shut T k) hr (ak_obj h1 (ak_dat h2 ak_nil hs1) hs2) (kw_cons h3 kw_nil) (fun H1 vs zs x1 kv tz Q q => by
    obtain ⟨ws, rfl, t⟩ := ke_obj (ds := [.str why]) kv
    exact ⟨(en, why, told), p, ws ++ zs, rfl, t.append tz, trivial, hK.mono x1, fun e' ls l xs H' h1 h2 h3 h4 h5 h6 => q _ _ ⟨e', ls, l, xs, rfl, h1, x1.ch.trans h2, h3, x1.free h4, h5, h6⟩⟩) rfl rfl hg hall hks (by decide) hs2 hpl
end
section
variable {X : Cx} {e1 e2 : Expr} {ρ : List Kd} {H : Hp} {pos spos : Pos} {d : PyData} {kk : Nat} {sts : List Stmt} {D : Ends} {R : Hp → V → Hp → Prop}
/-- return (e, f(..)): what the second comes to -/
theorem sx_retPG (h1 : DE X e1 ρ H d) (h2 : ∀ (v : V) H1, Ex H H1 → GE X e2 ρ H1 (R H1)) (k : ∀ T v vl H1 H2 H3, Ex H H1 → Tp X.K H1 v d → R H1 vl H2 → Ex H2 H3 → SqT X.K H3 T [v, vl] → D.rt (.ref T) H3) (hx : ∀ v H1 H2, R H1 v H2 → Xt H1 H2 := by exact fun _ _ _ ⟨_, _, _, _, _, _, c, _⟩ => c.2) (hs : starEach [e1, e2] X.env = (false, eval e1 X.env) :: starEach [e2] X.env := by rfl) (hs2 : starEach [e2] X.env = (false, eval e2 X.env) :: starEach [] X.env := by rfl) :
    SX X (.Return (some (.Tuple [e1, e2] kk pos)) spos :: sts) ρ H D :=
  sx_retX (gx_tup (ga_de h1 (fun v H1 x1 tv => ga_cons (gx_ge (h2 v H1 x1) fun vl H2 r => ⟨hx _ _ _ r, ga_nil ⟨by show 2 ≤ sizeLine; decide, fun p o hp ho => k p v vl H1 H2 _ x1 tv r (Ex.new hp) (PlT.of ho upd_same).sq⟩⟩) hs2) hs))
end
section
variable {P : Program} {w : World} {K : PySem.W.Frag} {mg : Str → Option Value} {base : Heap} {k : Nat}
theorem cal_heard_word (T : Tx K mg w) (k : Nat) : Cal P w K mg base "heard_word" (k + 7) (spKM K (fun a : End × Letter × Plan × Int => [eLet a.2.1, ePlan a.2.2.1, .int a.2.2.2]) (fun a => WordPre a.1 a.2.1 a.2.2.1) (fun a => a.1) (fun a e' ls => e' = (heardWord (sumRef a.1 a.2.1) a.1 a.2.1 a.2.2.1 a.2.2.2).1 ∧ ls = (heardWord (sumRef a.1 a.2.1) a.1 a.2.1 a.2.2.1 a.2.2.2).2)) :=
  cal_KM d_heard_word T.g_heard_word T.f_heard_word sc_heard_word (fun _ _ _ _ _ _ us hl => match us, hl with | [_, _, _, _], _ => rfl) (fun _ => rfl) fun cdv A outer s H E Q a p hr hp hK q => by
  obtain ⟨e, l, b, tr⟩ := a
  have hK : Knw K H p e := hK
  have hp : WordPre e l b := hp
  have q : ∀ e' ls l2 xs H', (e' = (heardWord (sumRef e l) e l b tr).1 ∧ ls = (heardWord (sumRef e l) e l b tr).2) → Ch p H H' → Knw K H' p e' → H l2 = none → H' l2 = some (.lst xs) → Tps K H' xs (ls.map eLet) → Q (.ref l2) H' := q
  refine sx_set (d := .str (sWord l.word)) 4 sc_heard_word.nd (de_at (ds := [.str l.who, .str (sWord l.word), .int l.mine, .int l.yours, .int l.number, ePrs l.pairs]) 1 (de_name 1 rfl)) fun H1 x1 => ?_
  have hK1 := hK.mono x1
  have ew : ∀ v : Word, PyData.eqv (.str (sWord l.word)) (.str (sWord v)) = decide (l.word = v) := sWord_eq l.word
  refine sx_if (k := decide (l.word = .ask)) (BE.to (be_cmp (opd_eq hr (depth_str _) (depth_str _)) (de_name 4 rfl) de_str) (ew .ask)) (fun hk H2 x2 => ?_) fun hk H2 x2 => sx_next ?_
  · have hw : l.word = .ask := of_decide_eq_true hk
    refine sx_retKm (ge_km (cal_heard_ask T (k + 4)) hr (e, l, b) (ak_obj (oe_name 0 rfl) (ak_dat (de_name 1 rfl) (ak_dat (de_name 2 rfl) ak_nil))) (by exact hp.ask hw) (by exact hK1.mono x2)) fun e' ls l7 xs7 H7 h1 h2 h3 h4 h5 h6 =>
        q e' ls l7 xs7 H7 (by unfold heardWord; rw [hw]; exact h1) ((x1.trans x2).ch.trans h2) h3 ((x1.trans x2).free h4) h5 h6
  have n1 : l.word ≠ .ask := of_decide_eq_false hk
  have hK2 := hK1.mono x2
  refine sx_if (k := decide (l.word = .bye)) (BE.to (be_cmp (opd_eq hr (depth_str _) (depth_str _)) (de_name 4 rfl) de_str) (ew .bye)) (fun hk H3 x3 => ?_) fun hk H3 x3 => sx_next ?_
  · have hw : l.word = .bye := of_decide_eq_true hk
    refine sx_retKm (ge_shutK (k := k + 4) (en := e) (why := "bye") (told := false) T hr (oe_name 0 rfl) (hK2.mono x3) de_str de_bl) fun e' ls l7 xs7 H7 h1 h2 h3 h4 h5 h6 =>
        q e' ls l7 xs7 H7 (by unfold heardWord; rw [hw]; exact h1) (((x1.trans x2).trans x3).ch.trans h2) h3 (((x1.trans x2).trans x3).free h4) h5 h6
  have n2 : l.word ≠ .bye := of_decide_eq_false hk
  have hK3 := hK2.mono x3
  have x03 := (x1.trans x2).trans x3
  refine sx_if (k := decide (l.word = .here)) (BE.to (be_cmp (opd_eq hr (depth_str _) (depth_str _)) (de_name 4 rfl) de_str) (ew .here)) (fun hk H4 x4 => ?_) fun hk H4 x4 => sx_next ?_
  · have hw : l.word = .here := of_decide_eq_true hk
    exact sx_retL (le_single (de_kd (cal_written T (k + 5)) hr (e, Word.there) (ak_obj (oe_name 0 rfl) (ak_dat de_str ak_nil)) trivial (hK3.mono x4))) fun p2 ys H5 hp2 x5 hl t =>
      q e [writ e .there 0 []] p2 ys H5 (by unfold heardWord; rw [hw]; exact ⟨rfl, rfl⟩) ((x03.trans x4).trans x5).ch ((hK3.mono x4).mono x5) ((x03.trans x4).free hp2) hl t
  have n3 : l.word ≠ .here := of_decide_eq_false hk
  have hK4 := hK3.mono x4
  have x04 := x03.trans x4
  refine sx_if (k := decide (l.word = .there)) (BE.to (be_cmp (opd_eq hr (depth_str _) (depth_str _)) (de_name 4 rfl) de_str) (ew .there)) (fun hk H5 x5 => ?_) fun hk H5 x5 => sx_next ?_
  · have hw : l.word = .there := of_decide_eq_true hk
    refine sx_dput (T' := partsOf { e with tries := tr }) hr (oe_name 0 rfl) de_str (hK4.mono x5) (de_name 3 rfl) (up_tries e tr) (by show 15 < 1000; decide) fun H6 c6 hK6 => ?_
    have hK6 : Knw K H6 p { e with tries := tr } := hK6
    have c06 : Ch p H H6 := (x04.trans x5).ch.trans c6
    exact sx_retL (le_lst ae_nil) fun p2 ys H7 hp2 x7 hl t => q { e with tries := tr } [] p2 ys H7 (by unfold heardWord; rw [hw]; exact ⟨rfl, rfl⟩) (c06.trans x7.ch) (hK6.mono x7) (ch_free c06 hK6 hp2) hl t
  have n4 : l.word ≠ .there := of_decide_eq_false hk
  have hw : l.word = .yes ∨ l.word = .no ∨ l.word = .rather := by
    cases hc : l.word with
    | ask => exact absurd hc n1
    | bye => exact absurd hc n2
    | here => exact absurd hc n3
    | there => exact absurd hc n4
    | yes => exact .inl rfl
    | no => exact .inr (.inl rfl)
    | rather => exact .inr (.inr rfl)
  have hm : heardWord (sumRef e l) e l b tr = heardAnswer (sumRef e l) e l tr := by
    unfold heardWord
    rcases hw with h | h | h <;> rw [h]
  refine sx_retKm (ge_km (cal_heard_answer T k) hr (e, l, tr) (ak_obj (oe_name 0 rfl) (ak_dat (de_name 1 rfl) (ak_dat (de_name 3 rfl) ak_nil))) (by exact hp.ans hw) (by exact hK4.mono x5)) fun e' ls l7 xs7 H7 h1 h2 h3 h4 h5 h6 =>
        q e' ls l7 xs7 H7 (by rw [hm]; exact h1) ((x04.trans x5).ch.trans h2) h3 ((x04.trans x5).free h4) h5 h6
theorem knw_upd {H : Hp} {p l : Addr} {e : End} {xs ys : List V} (h : Knw K H p e) (n : l ≠ p) (hl : H l = some (.lst xs)) : Knw K (upd H l (.lst ys)) p e := by
  obtain ⟨kvs, h1, h2⟩ := h
  exact ⟨kvs, upd_other (Ne.symm n) h1, h2.mono (xt_updL hl)⟩
theorem learnt_word (e : End) (l : Letter) (b : Plan) (tr : Int) (h : (l.word = .yes ∨ l.word = .no ∨ l.word = .rather) → learnt e l tr = e) : heardWord (sumRef (learnt e l tr) l) (learnt e l tr) l b tr = heardWord (sumRef e l) (learnt e l tr) l b tr := by
  by_cases hw : l.word = .yes ∨ l.word = .no ∨ l.word = .rather
  · rw [h hw]
  · unfold heardWord
    cases hc : l.word with
    | yes => exact absurd (.inl hc) hw
    | no => exact absurd (.inr (.inl hc)) hw
    | rather => exact absurd (.inr (.inr hc)) hw
    | ask => rfl
    | bye => rfl
    | here => rfl
    | there => rfl
structure HearPre (e : End) (l : Letter) (b : Plan) (tr : Int) : Prop where
  who : l.who ≠ e.name
  ws : WsOk e.wishes
  word : e.stand ≠ .closed → l.mine = (learnt e l tr).yours → l.yours = (learnt e l tr).turn → WordPre (learnt e l tr) l b
  ans : (l.word = .yes ∨ l.word = .no ∨ l.word = .rather) → learnt e l tr = e
theorem up_yours (e : End) (n : Int) : ∀ j, (partsOf { e with yours := n }).lookup j = if j = "yours" then some (.int n) else (partsOf e).lookup j :=
  tabs_put (tabs_eq (parts_keys _) (parts_keys _) (by kernel_rfl) (parts_all ⟨rfl, rfl, rfl, rfl, rfl, rfl, rfl, rfl, rfl, rfl, rfl, rfl, rfl, rfl, rfl⟩))
theorem kw_heard (T : Tx K mg w) (k : Nat) : KwOk P w K mg base d_heard "heard" P_heard (k + 8) (spP K (fun a : End × Letter × Plan × Int => [eEnd a.1, eLet a.2.1, ePlan a.2.2.1, .int a.2.2.2]) (fun a => HearPre a.1 a.2.1 a.2.2.1 a.2.2.2) (fun a e' ls => e' = (heard (sumRef a.1 a.2.1) a.1 a.2.1 a.2.2.1 a.2.2.2).1 ∧ ls = (heard (sumRef a.1 a.2.1) a.1 a.2.1 a.2.2.1 a.2.2.2).2)) :=
  kwok_P d_heard T.g_heard T.f_heard sc_heard (fun _ => rfl) fun cdv A outer s H E Q a hr hp q => by
  obtain ⟨e, l, b, tr⟩ := a
  have hp : HearPre e l b tr := hp
  have q : ∀ e' ls v H', (e' = (heard (sumRef e l) e l b tr).1 ∧ ls = (heard (sumRef e l) e l b tr).2) → Ex H H' → PairV K H H' e' ls v → Q v H' := q
  refine sx_setM 4 sc_heard.nd (me_fn (cal_known_of T (k + 6)) hr e (ae_cons (de_name 0 rfl) ae_nil) trivial) fun p H1 hp1 x1 hK => ?_
  have hK : Knw K H1 p e := hK
  refine sx_star [.str l.who, .str (sWord l.word), .int l.mine, .int l.yours] [.int l.number, ePrs l.pairs] [] rfl (de_name 1 rfl) fun D' xs H2 hD x2 hx tx => ⟨_, tgk_cons 6 sc_heard.nd (tgk_cons 7 sc_heard.nd (tgk_cons 8 sc_heard.nd (tgk_cons 9 sc_heard.nd (tgk_cons 10 sc_heard.nd tgk_nil)))), ?_⟩
  have hK2 := hK.mono x2
  refine sx_if (k := false) (BE.to (be_cmp (opd_eq hr (depth_str _) (depth_str _)) (de_name 6 rfl) (de_known hr (oe_name 4 rfl) hK2)) (by rw [eqv_str]; exact decide_eq_false hp.who)) (fun h => absurd h (by decide)) fun _ H3 x3 => sx_next ?_
  have hK3 := hK2.mono x3
  have x03 := (x1.trans x2).trans x3
  refine sx_if (k := decide (e.stand = .closed)) (BE.to (be_cmp (opd_eq hr (depth_str _) (depth_str _)) (de_known hr (oe_name 4 rfl) hK3) de_str) (sStand_eq e.stand .closed)) (fun hk H4 x4 => ?_) fun hk H4 x4 => sx_next ?_
  · have hc : e.stand = .closed := of_decide_eq_true hk
    have et : heard (sumRef e l) e l b tr = (e, heardClosed e l) := by unfold heard; rw [if_pos hc]
    refine sx_retPG (de_name 0 rfl) (fun v H5 x5 => ge_km (cal_heard_closed T (k + 5)) hr (e, l) (ak_obj (oe_name 4 rfl) (ak_dat (de_name 1 rfl) ak_nil)) (by exact trivial) (by exact (hK3.mono x4).mono x5)) fun Tt v vl H5 H6 H7 x5 tv hkm x7 sq => ?_
    obtain ⟨e', ls, m, ys, rfl, ⟨rfl, rfl⟩, c6, hK6, hm, hys, ty⟩ := hkm
    have x06 : Ex H H6 := Ex.ch_new hp1 ((((x1.trans x2).trans x3).trans x4).trans x5) c6
    exact q _ _ _ H7 ⟨rfl, rfl⟩ (x06.trans x7) (by rw [et]; exact ⟨Tt, v, m, ys, rfl, sq, (tv.mono c6.2).mono x7.xt, ((x03.trans x4).trans x5).free hm, x7 _ _ hys, ty.mono x7.xt⟩)
  have hst : e.stand ≠ .closed := of_decide_eq_false hk
  have hK4 := hK3.mono x4
  have x04 := x03.trans x4
  refine sx_setL 5 sc_heard.nd (le_lst ae_nil) fun l0 ys0 H5 hl0 x5 hys0 ty0 => ?_
  cases ty0
  have hK5 := hK4.mono x5
  have x05 := x04.trans x5
  -- what is learnt
  have key : ∀ H6 l1 ys1, Ex H H6 → Knw K H6 p (learnt e l tr) → H l1 = none → H6 l1 = some (.lst ys1) → Tps K H6 ys1 ((learntLs e l tr).map eLet) → l1 ≠ p → ∀ k6 k7 k10, SX (CC P w K mg base d_heard N_heard (He.fAd K ("heard", none)) cdv A outer s H E)
      (d_heard.body.drop 6) [.dat (eEnd e), .dat (eLet l), .dat (ePlan b), .dat (.int tr), .obj p, .obj l1, k6, k7, .dat (.int l.mine), .dat (.int l.yours), k10] H6 (DE0 Q) := by
    intro H6 l1 ys1 x06 hK6 hl1 hys1 ty1 hne k6 k7 k10
    refine sx_if (k := decide (l.mine = (learnt e l tr).yours) && decide (l.yours = (learnt e l tr).turn)) (BE.to (be_w (we_and (be_cmp (opd_eq hr (depth_int _) (depth_int _)) (de_name 8 rfl) (de_known hr (oe_name 4 rfl) hK6)) fun _ => we_and1 (be_cmp (opd_eq hr (depth_int _) (depth_int _)) (de_name 9 rfl) (de_known hr (oe_name 4 rfl) hK6)))) (by rw [eqv_int, eqv_int]))
      (fun hk2 H7 x7 => ?_) fun hk2 H7 x7 => sx_next ?_
    · rw [Bool.and_eq_true] at hk2
      have h1 : l.mine = (learnt e l tr).yours := of_decide_eq_true hk2.1
      have h2 : l.yours = (learnt e l tr).turn := of_decide_eq_true hk2.2
      have et : heard (sumRef e l) e l b tr = (asEnd (heardWord (sumRef e l) (learnt e l tr) l b tr).1, learntLs e l tr ++ (heardWord (sumRef e l) (learnt e l tr) l b tr).2) := by unfold heard; rw [if_neg hst, if_pos ⟨h1, h2⟩]
      have hw := learnt_word e l b tr hp.ans
      refine sx_dropX (gx_bm F.plainAttrs_list F.slot_list_extend F.type_list_extend mt_extend (gx_oe (oe_name 5 rfl) ⟨Xt.refl _, tyV_lst (SqL.of (x7 _ _ hys1)), ga_cons (gx_ge (ge_km (cal_heard_word T k) hr (learnt e l tr, l, b, tr) (ak_obj (oe_name 4 rfl) (ak_dat (de_name 1 rfl) (ak_dat (de_name 2 rfl) (ak_dat (de_name 3 rfl) ak_nil)))) (by exact hp.word hst h1 h2) (by exact hK6.mono x7)) fun v H8 hkm => ?_)⟩))
      obtain ⟨e', ls, m, zs, rfl, ⟨rfl, rfl⟩, c8, hK8, hm, hzs, tz⟩ := hkm
      have hl8 : H8 l1 = some (.lst ys1) := c8.lst hne (x7 _ _ hys1)
      have ln : m ≠ l1 := fun z => by subst z; rw [x7 _ _ hys1] at hm; cases hm
      refine ⟨c8.2, ga_nil ⟨l1, m, ys1, zs, rfl, rfl, hl8, hzs, ?_, ?_⟩⟩
      · have e1 := ty1.len
        have e2 : zs.length = (heardWord (sumRef (learnt e l tr) l) (learnt e l tr) l b tr).2.length := by
          have := tz.len
          rw [List.length_map] at this
          exact this
        rw [List.length_map] at e1
        have e3 : (learntLs e l tr).length ≤ 1 := by unfold learntLs; split <;> simp
        have e4 : ∀ r X, (heardWord r X l b tr).2.length ≤ 1 := fun r X => by
          unfold heardWord heardAsk heardAnswer
          repeat' split
          all_goals first | simp | (cases X.last <;> simp)
        have e5 := e4 (sumRef (learnt e l tr) l) (learnt e l tr)
        exact small1k (by omega)
      · have xu : Xt H8 (upd H8 l1 (.lst (ys1 ++ zs))) := xt_updL hl8
        refine ⟨c8.2.trans xu, sx_next ?_⟩
        have hK9 := knw_upd (ys := ys1 ++ zs) hK8 hne hl8
        have x08 : Ex H H8 := fun a o ea => c8.1 a o (ne_of_none ea (by exact hp1)) (x7 _ _ (x06 _ _ ea))
        have x09 : Ex H (upd H8 l1 (.lst (ys1 ++ zs))) := x08.upd_new hl1
        rw [hw] at hK9 tz
        have tt : Tps K (upd H8 l1 (.lst (ys1 ++ zs))) (ys1 ++ zs) ((learntLs e l tr ++ (heardWord (sumRef e l) (learnt e l tr) l b tr).2).map eLet) := by
          rw [List.map_append]
          exact (((ty1.mono x7.xt).mono c8.2).mono xu).append (tz.mono xu)
        exact sx_retP (de_kd (cal_as_end T (k + 6)) hr _ (ak_obj (oe_name 4 rfl) ak_nil) trivial hK9) (oe_name 5 rfl) fun Tt v H10 x10 sq tv => q _ _ _ H10 ⟨rfl, rfl⟩ (x09.trans x10) (by rw [et]; exact ⟨Tt, v, l1, _, rfl, sq, tv, hl1, x10 _ _ upd_same, tt.mono x10.xt⟩)
    · have hn : ¬ (l.mine = (learnt e l tr).yours ∧ l.yours = (learnt e l tr).turn) := fun ⟨h1, h2⟩ => by rw [decide_eq_true h1, decide_eq_true h2] at hk2; cases hk2
      have et : heard (sumRef e l) e l b tr = (asEnd (learnt e l tr), learntLs e l tr) := by unfold heard; rw [if_neg hst, if_neg hn]
      exact sx_retP (de_kd (cal_as_end T (k + 6)) hr _ (ak_obj (oe_name 4 rfl) ak_nil) trivial (hK6.mono x7)) (oe_name 5 rfl) fun Tt v H10 x10 sq tv => q _ _ _ H10 ⟨rfl, rfl⟩ ((x06.trans x7).trans x10) (by rw [et]; exact ⟨Tt, v, l1, _, rfl, sq, tv, hl1, x10 _ _ (x7 _ _ hys1), (ty1.mono x7.xt).mono x10.xt⟩)
  refine sx_if (k := decide (e.yours < l.mine)) (be_cmp opd_gt (de_name 8 rfl) (de_known hr (oe_name 4 rfl) hK5)) (fun hk2 H6 x6 => ?_) fun hk2 H6 x6 => sx_next ?_
  · have hgt : l.mine > e.yours := of_decide_eq_true hk2
    refine sx_dput (T' := partsOf { e with yours := l.mine }) hr (oe_name 4 rfl) de_str (hK5.mono x6) (de_name 8 rfl) (up_yours e l.mine) (by show 15 < 1000; decide) fun H7 c7 hK7 => ?_
    have hK7 : Knw K H7 p { e with yours := l.mine } := hK7
    refine sx_km 5 sc_heard.nd (ge_km (cal_begin T (k + 4)) hr (({ e with yours := l.mine } : End), tr) (ak_obj (oe_name 4 rfl) (ak_dat (de_name 3 rfl) ak_nil)) (by exact hp.ws) (by exact hK7)) fun e' ls l1 ys1 H8 hpost c8 hK8 hl1 hys1 ty1 => sx_next ?_
    obtain ⟨rfl, rfl⟩ := hpost
    have c78 := c7.trans c8
    have x08 : Ex H H8 := Ex.ch_new hp1 (x05.trans x6) c78
    have e1 : learnt e l tr = begun { e with yours := l.mine } tr := by unfold learnt; rw [if_pos hgt]
    have e2 : learntLs e l tr = [askLet (begun { e with yours := l.mine } tr)] := by unfold learntLs; rw [if_pos hgt]
    have hl0' : H l1 = none := (x05.trans x6).free (ch_free c7 hK7 hl1)
    exact key H8 l1 ys1 x08 (by rw [e1]; exact hK8) hl0' hys1 (by rw [e2]; exact ty1) (new_apart (H := H) hK7 hl1) _ _ _
  · have hng : ¬ l.mine > e.yours := of_decide_eq_false hk2
    have e1 : learnt e l tr = e := by unfold learnt; rw [if_neg hng]
    have e2 : learntLs e l tr = [] := by unfold learntLs; rw [if_neg hng]
    exact key H6 l0 [] (x05.trans x6) (by rw [e1]; exact hK5.mono x6) (x04.free hl0) (x6 _ _ hys0) (by rw [e2]; exact .nil) (new_apart (H := H) hK4 hl0) _ _ _
end
end CW
/-! part CwP1 -/
set_option maxRecDepth 100000
set_option maxHeartbeats 1000000
/-! The law's own defs: the pair; what is done; a letter comes. -/
namespace CW
open PySem PySem.Spec PyProof.Rows L2
structure Cfg where
  nm : Bool → Str
  bk : Bool → Book
  TR : Nat
structure Cfg.Ok (C : Cfg) : Prop where
  ne : C.nm false ≠ C.nm true
  nin : ∀ s, C.nm s ∈ kindMenu
  bk : ∀ s, BookOk (C.bk s)
  tr : C.TR ≤ 9
def Cfg.play (C : Cfg) : Play := ⟨C.TR, fun s => (C.bk s).ks, fun s => (C.bk s).b⟩
def bI (s : Bool) : Int := if s then 1 else 0
def eAir (q : Bool × Letter) : PyData := .tuple [.int (bI q.1), eLet q.2]
structure PairF (C : Cfg) (S : Sys) (f : Fk) (nl al fl tl : Addr) : Prop where
  names : f "names" = some (.obj nl)
  air : f "air" = some (.obj al)
  fresh : f "fresh" = some (.obj fl)
  altered : f "altered" = some (.obj tl)
  books : f "books" = some (.dat (.tuple [eBook (C.bk false), eBook (C.bk true)]))
  many : f "many" = some (.dat (.int C.TR))
  ends : ∀ s, f (C.nm s) = some (.dat (eEnd (S.e s)))
structure GameL (K : PySem.W.Frag) (H : Hp) (p c : Addr) (n : Nat) (q : Addr) (C : Cfg) (S : Sys) (F : Nat) (f : Fk) (nl al fl tl : Addr) (xs ys zs : List V) : Prop where
  pen : PenAt K H p c n
  dic : DicF K H q 8 f
  pf : PairF C S f nl al fl tl
  hn : H nl = some (.lst [.str (C.nm false), .str (C.nm true)])
  ha : H al = some (.lst xs)
  ta : Tps K H xs (S.air.map eAir)
  hf : H fl = some (.lst ys)
  yl : ys.length ≤ F
  ht : H tl = some (.lst zs)
  zl : zs.length ≤ F
  pq : p ≠ q
  cal : c ≠ al
  nal : nl ≠ al
  fal : fl ≠ al
  tal : tl ≠ al
def GameAt (K : PySem.W.Frag) (H : Hp) (p c : Addr) (n : Nat) (q : Addr) (C : Cfg) (S : Sys) (F : Nat) : Prop := ∃ f nl al fl tl xs ys zs, GameL K H p c n q C S F f nl al fl tl xs ys zs
section
variable {K : PySem.W.Frag} {H H' : Hp} {p c q : Addr} {n m F F' : Nat} {C : Cfg} {S : Sys} {f : Fk} {nl al fl tl : Addr} {xs ys zs : List V}
theorem dict_lst {a b : Addr} {kvs : List (Key × V)} {l : List V} (h1 : H a = some (.dK kvs)) (h2 : H b = some (.lst l)) : b ≠ a := fun z => by
  rw [z, h1] at h2
  cases h2
theorem DicF.ne_lst {a b : Addr} {m : Nat} {l : List V} (h1 : DicF K H a m f) (h2 : H b = some (.lst l)) : b ≠ a := by
  obtain ⟨kvs, h, _⟩ := h1
  exact dict_lst h h2
theorem PenAt.ne_lst {b : Addr} {l : List V} (h1 : PenAt K H p c n) (h2 : H b = some (.lst l)) : b ≠ p := by
  obtain ⟨_, _, _, _, h, _⟩ := h1
  exact h.ne_lst h2
theorem GameL.mono (x : Ex H H') (G : GameL K H p c n q C S F f nl al fl tl xs ys zs) : GameL K H' p c n q C S F f nl al fl tl xs ys zs :=
  { G with pen := G.pen.mono x, dic := G.dic.mono x, hn := x _ _ G.hn, ha := x _ _ G.ha, ta := G.ta.mono x.xt, hf := x _ _ G.hf, ht := x _ _ G.ht }
theorem GameAt.mono (x : Ex H H') (G : GameAt K H p c n q C S F) : GameAt K H' p c n q C S F := by
  obtain ⟨f, nl, al, fl, tl, xs, ys, zs, G⟩ := G
  exact ⟨f, nl, al, fl, tl, xs, ys, zs, G.mono x⟩
/-- the pen drew -/
theorem GameL.drew (h : Ch p H H') (pen : PenAt K H' p c m) (G : GameL K H p c n q C S F f nl al fl tl xs ys zs) : GameL K H' p c m q C S F f nl al fl tl xs ys zs :=
  { G with pen := pen, dic := G.dic.ch h (Ne.symm G.pq), hn := h.lst (G.pen.ne_lst G.hn) G.hn, ha := h.lst (G.pen.ne_lst G.ha) G.ha, ta := G.ta.mono h.2, hf := h.lst (G.pen.ne_lst G.hf) G.hf, ht := h.lst (G.pen.ne_lst G.ht) G.ht }
theorem GameAt.drew (h : Ch p H H') (pen : PenAt K H' p c m) (G : GameAt K H p c n q C S F) : GameAt K H' p c m q C S F := by
  obtain ⟨f, nl, al, fl, tl, xs, ys, zs, G⟩ := G
  exact ⟨f, nl, al, fl, tl, xs, ys, zs, G.drew h pen⟩
theorem GameAt.pen (G : GameAt K H p c n q C S F) : PenAt K H p c n := by
  obtain ⟨f, nl, al, fl, tl, xs, ys, zs, G⟩ := G
  exact G.pen
theorem GameAt.le (G : GameAt K H p c n q C S F) (h : n ≤ m) (h2 : F ≤ F') : GameAt K H p c m q C S F' := by
  obtain ⟨f, nl, al, fl, tl, xs, ys, zs, G⟩ := G
  exact ⟨f, nl, al, fl, tl, xs, ys, zs, { G with pen := G.pen.le h, yl := Nat.le_trans G.yl h2, zl := Nat.le_trans G.zl h2 }⟩
/-- q is changed: the pen and the lists stand -/
theorem PenAt.chq (h : Ch q H H') (pq : p ≠ q) (cq : c ≠ q) (pen : PenAt K H p c n) : PenAt K H' p c n := pen.keep h.2 (fun o => h.1 p o pq) fun o => h.1 c o cq
end
theorem nm_key {C : Cfg} (ok : C.Ok) (s : Bool) : C.nm s ≠ "names" ∧ C.nm s ≠ "air" ∧ C.nm s ≠ "fresh" ∧ C.nm s ≠ "altered" ∧ C.nm s ≠ "books" ∧ C.nm s ≠ "many" ∧ PyData.strOk (C.nm s) = true := by
  have : ∀ z ∈ kindMenu, z ≠ "names" ∧ z ≠ "air" ∧ z ≠ "fresh" ∧ z ≠ "altered" ∧ z ≠ "books" ∧ z ≠ "many" ∧ PyData.strOk z = true := by decide +kernel
  exact this _ (ok.nin s)
theorem nm_at (C : Cfg) (s : Bool) : [PyData.str (C.nm false), .str (C.nm true)][(bI s).toNat]? = some (.str (C.nm s)) := by cases s <;> rfl
theorem bI_nat (s : Bool) : bI s = ((bI s).toNat : Int) := by cases s <;> rfl
theorem nm_tps {K : PySem.W.Frag} {H : Hp} {C : Cfg} (ok : C.Ok) : Tps K H [.str (C.nm false), .str (C.nm true)] [.str (C.nm false), .str (C.nm true)] := .cons (.str _ (nm_key ok false).2.2.2.2.2.2) (.cons (.str _ (nm_key ok true).2.2.2.2.2.2) .nil)
section
variable {X : Cx} {e e1 : Expr} {ρ : List Kd} {H : Hp} {pos p1 p2 : Pos} {p c q : Addr} {n F : Nat} {C : Cfg} {S : Sys} {f : Fk} {nl al fl tl : Addr} {xs ys zs : List V} {s : Bool} {j jj k : Nat}
/-- pair['names'][at] -/
theorem de_nm (hr : Room j X.A) (ok : C.Ok) (G : GameL X.K H p c n q C S F f nl al fl tl xs ys zs) (h1 : OE X e ρ H q) (h2 : DE X e1 ρ H (.int (bI s))) (hs : PlainIx e1 := by exact fun _ _ => rfl) : DE X (.Subscript (.Subscript e (.Constant (.str "names") jj p2) p1) e1 pos) ρ H (.str (C.nm s)) :=
  de_ixOD (bI s).toNat (oe_getF hr h1 G.dic G.pf.names) (DE.to h2 (by rw [← bI_nat])) (SqL.of G.hn) (nm_tps ok) (nm_at C s) hs
end
def spDone (K : PySem.W.Frag) : Sp := fun vs H Q _ => ∃ (p c q T l : Addr) (n F : Nat) (C : Cfg) (S : Sys) (s : Bool) (ve : V) (e : End) (ls : List Letter) (ws : List V), vs = [.ref q, .int (bI s), .ref T] ∧ C.Ok ∧ GameAt K H p c n q C S F ∧ SqT K H T [ve, .ref l] ∧ Tp K H ve (eEnd e) ∧ H l = some (.lst ws) ∧ Tps K H ws (ls.map eLet) ∧
  S.air.length + ls.length ≤ 50000 ∧ F + ls.length ≤ 50000 ∧ ls.length ≤ 900 ∧ ∀ H', Xt H H' → GameAt K H' p c n q C ⟨setE S.e s e, S.air ++ sent s ls⟩ (F + ls.length) → Q .non H'
section
variable {P : Program} {w : World} {K : PySem.W.Frag} {mg : Str → Option Value} {base : Heap} {k : Nat}
theorem cal_done (T : Tx K mg w) (k : Nat) : Cal P w K mg base "_law_done" (k + 1) (spDone K) :=
  cal_S d__law_done T.g__law_done T.f__law_done sc__law_done (fun _ _ _ _ _ _ us hl => match us, hl with | [_, _, _], _ => rfl) (len := fun vs H Q E ⟨_, _, _, _, _, _, _, _, _, _, _, _, _, _, e, _⟩ => by rw [e]; rfl) fun cdv A outer st H E vs Q hr hsp => by
  obtain ⟨p, c, q, T0, l, n, F, C, S, s, ve, e, ls, ws, ev, ok, ⟨f, nl, al, fl, tl, xs, ys, zs, G⟩, sq, te, hl, tl', la, lf, lls, qq⟩ := hsp
  subst ev
  obtain ⟨k1, k2, k3, k4, k5, k6, kok⟩ := nm_key ok s
  refine ⟨[.obj q, .dat (.int (bI s)), .obj T0], ⟨rfl, ⟨_, rfl, .int _⟩, rfl, trivial⟩, ?_⟩
  refine sx_set 3 sc__law_done.nd (de_nm hr ok G (oe_name 0 rfl) (de_name 1 rfl)) fun H1 x1 => ?_
  have G1 := G.mono x1
  have sq1 := x1.xt.sq sq
  -- the end
  refine sx_fput hr (gx_de (de_ixTO 0 (oe_name 2 rfl) sq1 rfl (te.mono x1.xt)) fun v H2 x2 tv => ⟨x2.xt, q, C.nm s, 8, f, .dat (eEnd e), oe_name 0 rfl, de_name 3 rfl, G1.dic.mono x2, by decide, ⟨v, rfl, tv⟩, fun H3 c3 hD3 => ?_⟩)
  rw [G.pf.ends s, Option.isSome_some, if_pos rfl] at hD3
  have G2 := G1.mono x2
  have hn3 := c3.lst (G2.dic.ne_lst G2.hn) G2.hn
  have ha3 := c3.lst (G2.dic.ne_lst G2.ha) G2.ha
  have hf3 := c3.lst (G2.dic.ne_lst G2.hf) G2.hf
  have ht3 := c3.lst (G2.dic.ne_lst G2.ht) G2.ht
  obtain ⟨cells, _, _, _, _, _, _, _, hcell, _⟩ := id G2.pen
  have pen3 := G2.pen.chq c3 G.pq (G2.dic.ne_lst hcell)
  have l2 : H2 l = some (.lst ws) := x2 _ _ (x1 _ _ hl)
  have l3 := c3.lst (G2.dic.ne_lst l2) l2
  have x03 : Xt H H3 := (x1.trans x2).xt.trans c3.2
  have g2 : fput f (C.nm s) (.dat (eEnd e)) "air" = some (.obj al) := by rw [fput_ne (Ne.symm k2)]; exact G.pf.air
  -- the air
  refine sx_fput hr (gx_op op_cat (gx_oe (oe_getF hr (oe_name 0 rfl) hD3 g2) ⟨Xt.refl _, gx_le (le_lc (xs := ls) (enc := eLet) (own := [("_law_letter", 4)]) (f := fun z => eAir (!s, z)) (c := fun _ => true) rfl sc__law_done.nd (ie_obj (oe_ixTO 1 (oe_name 2 rfl) (x03.sq sq) rfl) (SqL.of l3) (tl'.mono x03)) (blk_ok (by kernel_rfl))
    (fun z hz => tu [4] _ fun s0 H0 C0 cl fp => ⟨tg_name 4 sc__law_done.nd, rfl, fun _ => DE.to (de_tup (ae_cons (de_bin opd_sub de_int (de_name 1 rfl)) (ae_cons (de_name 4 rfl) ae_nil))) (by unfold eAir; cases s <;> rfl)⟩) (big_lt (by omega))) fun a4 vs4 H4 ha4 x4 h4 t4 => ?_⟩))
  rw [List.filter_eq_self.mpr fun _ _ => rfl] at t4
  have vl : vs4.length = ls.length := by rw [t4.len, List.length_map]
  have xl : xs.length = S.air.length := by rw [G.ta.len, List.length_map]
  refine ⟨al, a4, xs, vs4, rfl, rfl, x4 _ _ ha3, h4, big_ok (by omega), fun r hr0 => ?_⟩
  have xn : Ex H4 (upd H4 r (.lst (xs ++ vs4))) := Ex.new hr0
  have x35 : Ex H3 (upd H4 r (.lst (xs ++ vs4))) := x4.trans xn
  have hr3 : H3 r = none := x4.free hr0
  refine ⟨x35.xt, q, "air", 8, _, .obj r, oe_name 0 rfl, de_str, hD3.mono x35, by decide, rfl, fun H6 c6 hD6 => ?_⟩
  rw [g2, Option.isSome_some, if_pos rfl] at hD6
  have hr5 : upd H4 r (.lst (xs ++ vs4)) r = some (.lst (xs ++ vs4)) := upd_same
  have ta5 : Tps K (upd H4 r (.lst (xs ++ vs4))) (xs ++ vs4) ((S.air ++ sent s ls).map eAir) := by
    rw [List.map_append]
    have : (sent s ls).map eAir = ls.map fun z => eAir (!s, z) := by unfold sent; rw [List.map_map]; rfl
    rw [this]
    exact ((G.ta.mono x03).mono x35.xt).append (t4.mono xn.xt)
  have hn5 := x35 _ _ hn3
  have hf5 := x35 _ _ hf3
  have ht5 := x35 _ _ ht3
  have l5 := x35 _ _ l3
  have pen5 := pen3.mono x35
  have dq5 : DicF K (upd H4 r (.lst (xs ++ vs4))) q 8 (fput f (C.nm s) (.dat (eEnd e))) := hD3.mono x35
  obtain ⟨cells3, _, _, _, _, _, _, _, hc3, _⟩ := id pen3
  have r_c : c ≠ r := ne_new hc3 hr3
  have r_nl : nl ≠ r := ne_new hn3 hr3
  have r_fl : fl ≠ r := ne_new hf3 hr3
  have r_tl : tl ≠ r := ne_new ht3 hr3
  generalize upd H4 r (.lst (xs ++ vs4)) = H5 at x35 c6 hr5 ta5 hn5 hf5 ht5 l5 pen5 dq5
  obtain ⟨cells5, _, _, _, _, _, _, _, hc5, _⟩ := id pen5
  have hr6 := c6.lst (dq5.ne_lst hr5) hr5
  have hn6 := c6.lst (dq5.ne_lst hn5) hn5
  have hf6 := c6.lst (dq5.ne_lst hf5) hf5
  have ht6 := c6.lst (dq5.ne_lst ht5) ht5
  have l6 := c6.lst (dq5.ne_lst l5) l5
  have pen6 := pen5.chq c6 G.pq (dq5.ne_lst hc5)
  have x06 : Xt H H6 := (x03.trans x35.xt).trans c6.2
  have g3 : fput (fput f (C.nm s) (.dat (eEnd e))) "air" (.obj r) "fresh" = some (.obj fl) := by rw [fput_ne (by decide +kernel), fput_ne (Ne.symm k3)]; exact G.pf.fresh
  -- what is fresh
  refine sx_fput hr (gx_op op_cat (gx_oe (oe_getF hr (oe_name 0 rfl) hD6 g3) ⟨Xt.refl _, gx_oe (oe_ixTO 1 (oe_name 2 rfl) (x06.sq sq) rfl) ?_⟩))
  have wl : ws.length = ls.length := by rw [tl'.len, List.length_map]
  have yl := G.yl
  refine ⟨fl, l, ys, ws, rfl, rfl, hf6, l6, big_ok (by omega), fun r2 hr2 => ?_⟩
  have xn2 : Ex H6 (upd H6 r2 (.lst (ys ++ ws))) := Ex.new hr2
  refine ⟨xn2.xt, q, "fresh", 8, _, .obj r2, oe_name 0 rfl, de_str, hD6.mono xn2, by decide, rfl, fun H8 c8 hD8 => ?_⟩
  rw [g3, Option.isSome_some, if_pos rfl] at hD8
  have dq7 := hD6.mono xn2
  have pen7 := pen6.mono xn2
  obtain ⟨cells7, _, _, _, _, _, _, _, hc7, _⟩ := id pen7
  have h72 : upd H6 r2 (.lst (ys ++ ws)) r2 = some (.lst (ys ++ ws)) := upd_same
  refine sx_nil fun σ s' => qq H8 ((x06.trans xn2.xt).trans c8.2) ⟨_, nl, r, r2, tl, _, _, _, { pen := pen7.chq c8 G.pq (dq7.ne_lst hc7), dic := hD8, pf := ⟨?_, ?_, ?_, ?_, ?_, ?_, ?_⟩, hn := c8.lst (dq7.ne_lst (xn2 _ _ hn6)) (xn2 _ _ hn6), ha := c8.lst (dq7.ne_lst (xn2 _ _ hr6)) (xn2 _ _ hr6), ta := ((ta5.mono c6.2).mono xn2.xt).mono c8.2, hf := c8.lst (dq7.ne_lst h72) h72, yl := by rw [List.length_append]; omega, ht := c8.lst (dq7.ne_lst (xn2 _ _ ht6)) (xn2 _ _ ht6), zl := by have := G.zl; omega, pq := G.pq, cal := r_c, nal := r_nl, fal := (ne_new hr6 hr2).symm, tal := r_tl }⟩
  · rw [fput_ne (by decide +kernel), fput_ne (by decide +kernel), fput_ne (Ne.symm k1)]; exact G.pf.names
  · rw [fput_ne (by decide +kernel)]; exact fput_same _ _ _
  · exact fput_same _ _ _
  · rw [fput_ne (by decide +kernel), fput_ne (by decide +kernel), fput_ne (Ne.symm k4)]; exact G.pf.altered
  · rw [fput_ne (by decide +kernel), fput_ne (by decide +kernel), fput_ne (Ne.symm k5)]; exact G.pf.books
  · rw [fput_ne (by decide +kernel), fput_ne (by decide +kernel), fput_ne (Ne.symm k6)]; exact G.pf.many
  · intro t
    obtain ⟨t1, t2, t3, t4, t5, t6, tok⟩ := nm_key ok t
    rw [fput_ne t3, fput_ne t2]
    by_cases ht : t = s
    · subst ht
      rw [fput_same]
      show _ = some (Kd.dat (eEnd (setE S.e t e t)))
      rw [setE_same]
    · have hne : C.nm t ≠ C.nm s := fun z => by
        have := ok.ne
        cases t <;> cases s <;> first | exact ht rfl | exact this z | exact this z.symm
      rw [fput_ne hne]
      have e1 := (ne_not ht).1
      subst e1
      show _ = some (Kd.dat (eEnd (setE S.e s e (!s))))
      rw [setE_not]
      exact G.pf.ends _
end
end CW
/-! part CwP2 -/
set_option maxRecDepth 100000
set_option maxHeartbeats 1000000
/-! The law's own defs: a letter comes; an end does something of itself. -/
namespace CW
open PySem PySem.Spec PyProof.Rows L2
theorem Tps.erase {K : PySem.W.Frag} {H : Hp} : ∀ {vs : List V} {ds : List PyData} (i : Nat), Tps K H vs ds → Tps K H (vs.eraseIdx i) (ds.eraseIdx i)
  | _, _, i, .nil => by simpa using .nil
  | _, _, 0, .cons _ t => t
  | _, _, i + 1, .cons a t => .cons a (Tps.erase i t)
section
variable {X : Cx} {e tg : Expr} {ρ : List Kd} {H : Hp} {pos : Pos} {sts : List Stmt} {D : Ends}
/-- a, b = what an expression comes to -/
theorem sx_unpackX (h : WX X e ρ H fun v H1 => Xt H H1 ∧ ∃ is d ρ', TgE false X tg is d ρ ρ' ∧ Tp X.K H1 v d ∧ SX X sts ρ' H1 D) (hs : swapsWithSole [tg] e pos.line X.env = pure false := by rfl) (hw : swappedStores [tg] e X.env = pure none := by rfl)
    (h1 : (assignEach [tg] X.env).map (·.2) = [assign tg X.env] := by rfl) : SX X (.Assign [tg] e pos :: sts) ρ H D :=
  sx_cons (ps_asg pe_re pg_rg hs hw h1) fun σ s => re_mono (h σ s) fun v H1 ⟨xt, is, d, ρ', hg, t, k⟩ => hg σ H1 v _ (s.mono xt) t.z fun σ' s' _ => k σ' s'
end
section
variable {P : Program} {w : World} {K : PySem.W.Frag} {mg : Str → Option Value} {base : Heap} {k : Nat}
theorem calk_heard (T : Tx K mg w) (k : Nat) : CalK P w K mg base "heard" 3 (["tries"] : List Str) (k + 8) (fun vs zs H Q E => spP K (fun a : End × Letter × Plan × Int => [eEnd a.1, eLet a.2.1, ePlan a.2.2.1, .int a.2.2.2]) (fun a => HearPre a.1 a.2.1 a.2.2.1 a.2.2.2) (fun a e' ls => e' = (heard (sumRef a.1 a.2.1) a.1 a.2.1 a.2.2.1 a.2.2.2).1 ∧ ls = (heard (sumRef a.1 a.2.1) a.1 a.2.1 a.2.2.1 a.2.2.2).2) (vs ++ zs) H Q E) :=
  (kw_heard (P := P) (base := base) T k).full 3 (by decide) fun D doc pm an cdv ct us ws h1 h2 => match us, h1, ws, h2 with | [_, _, _], _, [_], _ => rfl
theorem calk_opened (T : Tx K mg w) (k : Nat) : CalK P w K mg base "opened" 1 (["tries"] : List Str) (k + 4) (fun vs zs H Q E => spP K (fun a : End × Int => [eEnd a.1, .int a.2]) (fun a => a.1.stand = .closed ∧ WsOk a.1.wishes) (fun a e' ls => e' = (opened a.1 a.2).1 ∧ ls = (opened a.1 a.2).2) (vs ++ zs) H Q E) :=
  (kw_opened (P := P) (base := base) T k).full 1 (by decide) fun D doc pm an cdv ct us ws h1 h2 => match us, h1, ws, h2 with | [_], _, [_], _ => rfl
theorem calk_wished (T : Tx K mg w) (k : Nat) : CalK P w K mg base "wished" 2 (["tries"] : List Str) (k + 4) (fun vs zs H Q E => spP K (fun a : End × List Wish × Int => [eEnd a.1, eWishes a.2.1, .int a.2.2]) (fun a => WsOk a.2.1) (fun a e' ls => e' = (wished a.1 a.2.1 a.2.2).1 ∧ ls = (wished a.1 a.2.1 a.2.2).2) (vs ++ zs) H Q E) :=
  (kw_wished (P := P) (base := base) T k).full 2 (by decide) fun D doc pm an cdv ct us ws h1 h2 => match us, h1, ws, h2 with | [_, _], _, [_], _ => rfl
theorem heard_len (r : List Pr) (e : End) (l : Letter) (b : Plan) (tr : Int) : (heard r e l b tr).2.length ≤ 2 := by
  have e3 : (learntLs e l tr).length ≤ 1 := by unfold learntLs; split <;> simp
  have e4 : ∀ r X, (heardWord r X l b tr).2.length ≤ 1 := fun r X => by
    unfold heardWord heardAsk heardAnswer
    repeat' split
    all_goals first | simp | (cases X.last <;> simp)
  unfold heard
  split
  · unfold heardClosed; split <;> simp
  · split
    · rw [List.length_append]
      have := e4 r (learnt e l tr)
      omega
    · show (learntLs e l tr).length ≤ 2
      omega
/-- what stands behind a letter that came -/
def cameS (C : Cfg) (S : Sys) (i : Nat) (t : Bool) (l : Letter) : Sys := ⟨setE S.e t (heard (sumRef (S.e t) l) (S.e t) l (C.bk t).b C.TR).1, S.air.eraseIdx i ++ sent t (heard (sumRef (S.e t) l) (S.e t) l (C.bk t).b C.TR).2⟩
def spComes (K : PySem.W.Frag) : Sp := fun vs H Q _ => ∃ (p c q : Addr) (n F : Nat) (C : Cfg) (S : Sys) (i : Nat) (t : Bool) (l : Letter), vs = [.ref q, .int i] ∧ C.Ok ∧ GameAt K H p c n q C S F ∧ S.air[i]? = some (t, l) ∧ HearPre (S.e t) l (C.bk t).b C.TR ∧
  S.air.length ≤ 40000 ∧ F ≤ 40000 ∧ ∀ H', Xt H H' → GameAt K H' p c n q C (cameS C S i t l) (F + 2) → Q .non H'
theorem bk_at (C : Cfg) (s : Bool) : [eBook (C.bk false), eBook (C.bk true)][(bI s).toNat]? = some (eBook (C.bk s)) := by cases s <;> rfl
theorem cal_comes (T : Tx K mg w) (k : Nat) : Cal P w K mg base "_law_comes" (k + 9) (spComes K) :=
  cal_S d__law_comes T.g__law_comes T.f__law_comes sc__law_comes (fun _ _ _ _ _ _ us hl => match us, hl with | [_, _], _ => rfl) (len := fun vs H Q E ⟨_, _, _, _, _, _, _, _, _, _, e, _⟩ => by rw [e]; rfl) fun cdv A outer st H E vs Q hr hsp => by
  obtain ⟨p, c, q, n, F, C, S, i, t, l, ev, ok, ⟨f, nl, al, fl, tl, xs, ys, zs, G⟩, hi, hp, la, lf, qq⟩ := hsp
  subst ev
  refine ⟨[.obj q, .dat (.int i)], ⟨rfl, ⟨_, rfl, .int _⟩, trivial⟩, ?_⟩
  obtain ⟨v0, hv0, tv0⟩ := G.ta.at (i := i) (d := eAir (t, l)) (by rw [List.getElem?_map, hi]; rfl)
  have hil : i < xs.length := (List.getElem?_eq_some_iff.mp hv0).1
  have xl : xs.length = S.air.length := by rw [G.ta.len, List.length_map]
  refine sx_unpackX (gx_pop (oe_getF hr (oe_name 0 rfl) G.dic G.pf.air) G.ha (gx_de (de_name 1 rfl) fun v H1 x1 tv => ⟨x1.xt, xs, i, tv.int_inv, x1 _ _ G.ha, hil, by omega, fun y hy => ?_⟩))
  rw [hv0] at hy
  cases hy
  have G1 := G.mono x1
  have xu : Xt H1 (upd H1 al (.lst (xs.eraseIdx i))) := xt_updL G1.ha
  refine ⟨x1.xt.trans xu, _, eAir (t, l), _, tg_tup (ds := [.int (bI t), eLet l]) rfl (tgs_cons (tg_name 3 sc__law_comes.nd) (tgs_cons (tg_name 4 sc__law_comes.nd) tgs_nil)), (tv0.mono x1.xt).mono xu, ?_⟩
  have G2 : GameL K (upd H1 al (.lst (xs.eraseIdx i))) p c n q C ⟨S.e, S.air.eraseIdx i⟩ F f nl al fl tl (xs.eraseIdx i) ys zs :=
    { pen := G1.pen.upd G1.ha (Ne.symm G1.cal), dic := G1.dic.keep xu fun o h => upd_other (Ne.symm (G1.dic.ne_lst G1.ha)) h, pf := ⟨G1.pf.names, G1.pf.air, G1.pf.fresh, G1.pf.altered, G1.pf.books, G1.pf.many, G1.pf.ends⟩, hn := upd_other G1.nal G1.hn, ha := upd_same, ta := by
        have := (G1.ta.mono xu).erase i
        rwa [map_erase] at this, hf := upd_other G1.fal G1.hf, yl := G1.yl, ht := upd_other G1.tal G1.ht, zl := G1.zl, pq := G1.pq, cal := G1.cal, nal := G1.nal, fal := G1.fal, tal := G1.tal }
  have x02 : Xt H (upd H1 al (.lst (xs.eraseIdx i))) := x1.xt.trans xu
  generalize upd H1 al (.lst (xs.eraseIdx i)) = H2 at G2 x02
  refine sx_set 2 sc__law_comes.nd (de_nm hr ok G2 (oe_name 0 rfl) (de_name 3 rfl)) fun H3 x3 => ?_
  have G3 := G2.mono x3
  have hend : f (C.nm t) = some (.dat (eEnd (S.e t))) := G3.pf.ends t
  refine sx_dropX (gx_call (cal_done T (k + 7)) (hr.mono (by omega)) (ga_oe (oe_name 0 rfl) (ga_de (de_name 3 rfl) fun v1 H4 x4 t1 => ga_cons (gx_callK (ds := [.int C.TR]) (calk_heard T k) hr (ga_de (de_getF hr (oe_name 0 rfl) (de_name 2 rfl) (G3.mono x4).dic hend) fun v2 H5 x5 t2 => ga_de (de_name 4 rfl) fun v3 H6 x6 t3 =>
    ga_de (d := ePlan (C.bk t).b) (de_at (ds := [eWishes (C.bk t).ws, ePlan (C.bk t).b]) 1 (DE.to (de_ixT (i := (bI t).toNat) (ds := [eBook (C.bk false), eBook (C.bk true)]) (bI_nat t) (de_getF hr (oe_name 0 rfl) de_str (((G3.mono x4).mono x5).mono x6).dic G3.pf.books) (de_name 3 rfl) (bk_at C t)) rfl)) fun v4 H7 x7 t4 =>
    ga_nil ⟨(x5.trans (x6.trans x7)).xt, kw_cons (de_getF hr (oe_name 0 rfl) de_str ((((G3.mono x4).mono x5).mono x6).mono x7).dic G3.pf.many) kw_nil, fun zs8 H8 x8 t8 => ⟨rfl, ?_⟩⟩)))))
  have x38 : Ex H3 H8 := (((x4.trans x5).trans x6).trans x7).trans x8
  have x58 : Ex H4 H8 := ((x5.trans x6).trans x7).trans x8
  refine ⟨(S.e t, l, (C.bk t).b, (C.TR : Int)), Tps.append (.cons (t2.mono ((x6.trans x7).trans x8).xt) (.cons (t3.mono (x7.trans x8).xt) (.cons (t4.mono x8.xt) .nil))) t8, hp, fun e' ls v H9 hpost x9 pv => ?_⟩
  obtain ⟨rfl, rfl⟩ := hpost
  obtain ⟨T9, ve, l9, ws9, rfl, sq9, te9, hl9, h9, t9⟩ := pv
  have hh := heard_len (sumRef (S.e t) l) (S.e t) l (C.bk t).b C.TR
  have al9 : (S.air.eraseIdx i).length ≤ S.air.length := List.length_eraseIdx_le ..
  refine ⟨(x58.trans x9).xt, ga_nil ⟨p, c, q, T9, l9, n, F, C, ⟨S.e, S.air.eraseIdx i⟩, t, ve, _, _, ws9, by rw [t1.int_inv], ok, ⟨f, nl, al, fl, tl, _, _, _, (G3.mono x38).mono x9⟩, sq9, te9, h9, t9, ?_, ?_, ?_, fun H10 xt10 GA => ?_⟩⟩
  · show (S.air.eraseIdx i).length + (heard (sumRef (S.e t) l) (S.e t) l (C.bk t).b C.TR).2.length ≤ 50000
    omega
  · show F + (heard (sumRef (S.e t) l) (S.e t) l (C.bk t).b C.TR).2.length ≤ 50000
    omega
  · show (heard (sumRef (S.e t) l) (S.e t) l (C.bk t).b C.TR).2.length ≤ 900
    omega
  · have xx := (x38.trans x9).xt.trans xt10
    exact ⟨xx, sx_nil fun σ s' => qq H10 ((x02.trans x3.xt).trans xx) (GA.le (Nat.le_refl _) (by show F + (heard (sumRef (S.e t) l) (S.e t) l (C.bk t).b C.TR).2.length ≤ F + 2; omega))⟩
end
end CW
/-! part CwP3 -/
set_option maxRecDepth 100000
set_option maxHeartbeats 1000000
/-! The law's own defs: an end does something of itself. -/
namespace CW
open PySem PySem.Spec PyProof.Rows L2
inductive OwnStep (TR : Int) (ks : List Str) (X : End) : End → List Letter → Prop
  | opn (c : X.stand = .closed) : OwnStep TR ks X (opened X TR).1 (opened X TR).2
  | cls (o : X.stand ≠ .closed) : OwnStep TR ks X (closing X).1 (closing X).2
  | wsh (o : X.stand ≠ .closed) (ws : List Wish) (wok : WOk ks ws) : OwnStep TR ks X (wished X ws TR).1 (wished X ws TR).2
  | tck (o : X.stand ≠ .closed) : OwnStep TR ks X (ticked X).1 (ticked X).2
theorem own_len {TR : Int} {ks : List Str} {X e' : End} {ls : List Letter} (h : OwnStep TR ks X e' ls) : ls.length ≤ 1 := by
  cases h with
  | opn c => exact Nat.le_refl _
  | cls o => exact Nat.le_refl _
  | wsh o ws wok => unfold wished; split <;> (try split) <;> simp
  | tck o => unfold ticked; split <;> (try split) <;> simp
theorem WOk.mono {ks ks' : List Str} {ws : List Wish} (h : WOk ks' ws) (s : ∀ z ∈ ks', z ∈ ks) : WOk ks ws := ⟨h.nd, fun x hx => { h.each x hx with kin := s _ (h.each x hx).kin }⟩
theorem wok_len {ks : List Str} {ws : List Wish} (h : WOk ks ws) : ws.length ≤ ks.length := by
  have := len_sub (l := ws.map (·.kind)) (m := ks) h.nd fun x hx => by
    obtain ⟨y, hy, rfl⟩ := List.mem_map.mp hx
    exact (h.each y hy).kin
  simpa using this
theorem wok_ws {ks : List Str} {ws : List Wish} (h : WOk ks ws) (hk : ks.length ≤ 12) : WsOk ws := ⟨by have := wok_len h; omega, fun x hx => by have := (h.each x hx).len; omega⟩
def spOf (K : PySem.W.Frag) : Sp := fun vs H Q _ => ∃ (p c q : Addr) (n F : Nat) (C : Cfg) (S : Sys) (s : Bool) (way : Int), vs = [.ref p, .ref q, .int (bI s), .int way] ∧ C.Ok ∧ GameAt K H p c n q C S F ∧ WOk (C.bk s).ks (S.e s).wishes ∧ n ≤ 60000 ∧ S.air.length ≤ 40000 ∧ F ≤ 40000 ∧
  ∀ e' ls H', OwnStep C.TR (C.bk s).ks (S.e s) e' ls → Xt H H' → GameAt K H' p c (n + 100) q C ⟨setE S.e s e', S.air ++ sent s ls⟩ (F + 2) → Q .non H'
section
variable {P : Program} {w : World} {K : PySem.W.Frag} {mg : Str → Option Value} {base : Heap} {k : Nat}
theorem end_at {e : End} (i : Nat) {d : PyData} {X : Cx} {ex : Expr} {ρ : List Kd} {H : Hp} {pos p2 : Pos} {v : Int} {j : Nat} (h : DE X ex ρ H (eEnd e)) (hv : v = (i : Int) := by rfl) (hd : ((partsOf e).map (·.2))[i]? = some d := by rfl) : DE X (.Subscript ex (.Constant (.int v) j p2) pos) ρ H d := de_at (ds := (partsOf e).map fun z : Str × PyData => z.2) i h hv hd
theorem cal_of_itself (T : Tx K mg w) (k : Nat) : Cal P w K mg base "_law_of_itself" (k + 5) (spOf K) :=
  cal_S d__law_of_itself T.g__law_of_itself T.f__law_of_itself sc__law_of_itself (fun _ _ _ _ _ _ us hl => match us, hl with | [_, _, _, _], _ => rfl) (len := fun vs H Q E ⟨_, _, _, _, _, _, _, _, _, e, _⟩ => by rw [e]; rfl) fun cdv A outer st H E vs Q hr hsp => by
  obtain ⟨p, c, q, n, F, C, S, s, way, ev, ok, ⟨f, nl, al, fl, tl, xs, ys, zs, G⟩, wok, hn, la, lf, qq⟩ := hsp
  subst ev
  have hbk := ok.bk s
  have hws : WsOk (S.e s).wishes := wok_ws wok (by have := hbk.klen; omega)
  refine ⟨[.obj p, .obj q, .dat (.int (bI s)), .dat (.int way)], ⟨rfl, rfl, ⟨_, rfl, .int _⟩, ⟨_, rfl, .int _⟩, trivial⟩, ?_⟩
  refine sx_set (d := eEnd (S.e s)) 4 sc__law_of_itself.nd (de_getF hr (oe_name 1 rfl) (de_nm hr ok G (oe_name 1 rfl) (de_name 2 rfl)) G.dic (G.pf.ends s)) fun H1 x1 => ?_
  have G1 := G.mono x1
  -- what an own deed's pair comes to
  have fin : ∀ (e' : End) ls H2 H5 n5 v H6 F5 v1, OwnStep C.TR (C.bk s).ks (S.e s) e' ls → Xt H H2 → Xt H2 H5 → GameAt K H5 p c n5 q C S F5 → n5 ≤ n + 100 → F5 ≤ F + 1 → Ex H5 H6 → PairV K H5 H6 e' ls v → v1 = .int (bI s) → spDone K [.ref q, v1, v] H6 (fun u H7 => Xt H2 H7 ∧ Q .non H7) E0 := by
    intro e' ls H2 H5 n5 v H6 F5 v1 hs x2 x5 GA hn5 hF5 x6 pv hv1
    obtain ⟨T9, ve, l9, ws9, rfl, sq9, te9, hl9, h9, t9⟩ := pv
    have := own_len hs
    exact ⟨p, c, q, T9, l9, n5, F5, C, S, s, ve, e', ls, ws9, by rw [hv1], ok, GA.mono x6, sq9, te9, h9, t9, by omega, by omega, by omega, fun H7 x7 G7 => ⟨(x5.trans x6.xt).trans x7, qq e' ls H7 hs (((x2.trans x5).trans x6.xt).trans x7) (G7.le hn5 (by omega))⟩⟩
  have cv : PyData.eqv (.str (sStand (S.e s).stand)) (.str "closed") = decide ((S.e s).stand = .closed) := sStand_eq (S.e s).stand .closed
  refine sx_if (k := decide ((S.e s).stand = .closed)) (BE.to (be_cmp (opd_eq hr (depth_str _) (depth_str _)) (end_at (e := S.e s) 2 (de_name 4 rfl)) de_str) cv) (fun hk H2 x2 => ?_) fun hk H2 x2 => ?_
  · have hc : (S.e s).stand = .closed := of_decide_eq_true hk
    have G2 := G1.mono x2
    refine sx_dropX (WX.mono (gx_call (Q := fun v H7 => Xt H2 H7 ∧ Q .non H7) (cal_done T (k + 3)) (hr.mono (by omega)) (ga_oe (oe_name 1 rfl) (ga_de (de_name 2 rfl) fun v1 H3 x3 t1 => ga_cons (gx_callK (ds := [.int C.TR]) (calk_opened T k) (hr.mono (by omega)) (ga_de (de_name 4 rfl) fun v2 H4 x4 t2 => ga_nil ⟨x4.xt, kw_cons (de_getF hr (oe_name 1 rfl) de_str ((G2.mono x3).mono x4).dic G2.pf.many) kw_nil, fun zs5 H5 x5 t5 => ⟨rfl, ?_⟩⟩))))) fun v H7 h => ⟨h.1, sx_next (sx_nil fun _ _ => h.2)⟩)
    refine ⟨(S.e s, (C.TR : Int)), Tps.append (.cons (t2.mono x5.xt) .nil) t5, ⟨hc, hws⟩, fun e' ls v H6 hpost x6 pv => ?_⟩
    obtain ⟨rfl, rfl⟩ := hpost
    have x25 := (x3.trans x4).trans x5
    exact ⟨((x4.trans x5).trans x6).xt, ga_nil (fin _ _ H2 H5 n v H6 F v1 (.opn hc) (x1.trans x2).xt x25.xt ⟨f, nl, al, fl, tl, _, _, _, G2.mono x25⟩ (by omega) (by omega) x6 pv t1.int_inv)⟩
  have ho : (S.e s).stand ≠ .closed := of_decide_eq_false hk
  have G2 := G1.mono x2
  have x02 := x1.trans x2
  refine sx_if (k := decide (way = 0)) (BE.to (be_cmp (opd_eq hr (depth_int _) (depth_int _)) (de_name 3 rfl) de_int) (eqv_int _ _)) (fun hk3 H3 x3 => ?_) fun hk3 H3 x3 => ?_
  · have G3 := G2.mono x3
    refine sx_dropX (WX.mono (gx_call (Q := fun v H7 => Xt H3 H7 ∧ Q .non H7) (cal_done T (k + 3)) (hr.mono (by omega)) (ga_oe (oe_name 1 rfl) (ga_de (de_name 2 rfl) fun v1 H4 x4 t1 => ga_cons (gx_call (cal_closing T (k + 1)) (hr.mono (by omega)) (ga_de (de_name 4 rfl) fun v2 H5 x5 t2 => ga_nil ?_))))) fun v H7 h => ⟨h.1, sx_next (sx_next (sx_nil fun _ _ => h.2))⟩)
    refine ⟨S.e s, .cons t2 .nil, ho, fun e' ls v H6 hpost x6 pv => ?_⟩
    obtain ⟨rfl, rfl⟩ := hpost
    exact ⟨(x5.trans x6).xt, ga_nil (fin _ _ H3 H5 n v H6 F v1 (.cls ho) (x02.trans x3).xt (x4.trans x5).xt ⟨f, nl, al, fl, tl, _, _, _, (G3.mono x4).mono x5⟩ (by omega) (by omega) x6 pv t1.int_inv)⟩
  refine sx_if (k := decide (way = 1)) (BE.to (be_cmp (opd_eq hr (depth_int _) (depth_int _)) (de_name 3 rfl) de_int) (eqv_int _ _)) (fun hk4 H4 x4 => ?_) fun hk4 H4 x4 => ?_
  rotate_left
  · have G4 := (G2.mono x3).mono x4
    refine sx_dropX (WX.mono (gx_call (Q := fun v H7 => Xt H4 H7 ∧ Q .non H7) (cal_done T (k + 3)) (hr.mono (by omega)) (ga_oe (oe_name 1 rfl) (ga_de (de_name 2 rfl) fun v1 H5 x5 t1 => ga_cons (gx_call (cal_ticked T k) (hr.mono (by omega)) (ga_de (de_name 4 rfl) fun v2 H6 x6 t2 => ga_nil ?_))))) fun v H7 h => ⟨h.1, sx_next (sx_next (sx_next (sx_nil fun _ _ => h.2)))⟩)
    refine ⟨S.e s, .cons t2 .nil, hws.len, fun e' ls v H7 hpost x7 pv => ?_⟩
    obtain ⟨rfl, rfl⟩ := hpost
    exact ⟨(x6.trans x7).xt, ga_nil (fin _ _ H4 H6 n v H7 F v1 (.tck ho) ((x02.trans x3).trans x4).xt (x5.trans x6).xt ⟨f, nl, al, fl, tl, _, _, _, (G4.mono x5).mono x6⟩ (by omega) (by omega) x7 pv t1.int_inv)⟩
  have G4 := (G2.mono x3).mono x4
  have x04 := (x02.trans x3).trans x4
  have hw3 := wok_len wok
  have hk3 := hbk.klen
  refine sx_setX 5 sc__law_of_itself.nd (gx_call (cal_wishes T (k + 1)) (hr.mono (by omega)) (ga_oe (oe_name 0 rfl) (ga_cons (gx_lc (fun ds H5 D i acc H' => ∃ kk : List Str, acc = kk.map V.str ∧ kk.Sublist (((S.e s).wishes.take i).map (·.kind)) ∧ Ch p H4 H' ∧ Xt H5 H' ∧ PenAt K H' p c (n + i)) (own := [("_law_wish", 6)]) rfl sc__law_of_itself.nd
    (igx_ig (ig_tup (ds := (S.e s).wishes.map eWish) (end_at (e := S.e s) 1 (de_name 4 rfl)))) (blk_ok (by kernel_rfl)) ?_ ?_ ?_ ?_))))
  · rintro ds H5 D ⟨rfl, x5⟩ hD
    exact ⟨x5.xt, [], rfl, by simp, (x5.trans (Ex.new hD)).ch, (Ex.new hD).xt, (G4.pen.mono x5).mono (Ex.new hD)⟩
  · rintro ds H5 D i acc H' ⟨rfl, x5⟩ hD hi ⟨kk, rfl, hsub, hch, hxt, hpen⟩
    refine ⟨hxt, hxt, ?_⟩
    have := hsub.length_le
    rw [List.length_map, List.length_take] at this
    rw [List.length_map]
    omega
  · rintro ds H5 D i acc H' d ⟨rfl, x5⟩ hD hd hacc ⟨kk, rfl, hsub, hch, hxt, hpen⟩
    rw [List.getElem?_map] at hd
    obtain ⟨wi, hwi, rfl⟩ := Option.map_eq_some_iff.mp hd
    have hi : i < (S.e s).wishes.length := (List.getElem?_eq_some_iff.mp hwi).1
    obtain ⟨⟨op, hp⟩, ⟨oc, hc⟩⟩ := G4.pen.ex
    have hD4 : H4 D = none := x5.free hD
    have eDp : D ≠ p := (ne_new hp hD4).symm
    have eDc : D ≠ c := (ne_new hc hD4).symm
    have tk : (S.e s).wishes.take (i + 1) = (S.e s).wishes.take i ++ [wi] := by rw [List.take_add_one, hwi]; rfl
    refine ⟨[6], _, by decide, fun s0 H0 C0 cl fp => ⟨tg_name 6 sc__law_of_itself.nd, fun H6 x6 => ?_⟩⟩
    refine gt_gtC (gx_drawD (k := k) T (by exact hr.mono (by omega)) (oe_name 0 rfl) (de_int (i := 4)) (by omega) (by omega) (hpen.mono x6) (by omega) fun j H7 j0 j1 c7 pen7 => ⟨c7.2, j, rfl, fun H8 x8 => ⟨c7.2.trans x8.xt, ?_⟩⟩)
    have hD8 : H8 D = some (.lst (kk.map V.str)) := x8 _ _ (c7.lst eDp (x6 _ _ hacc))
    have c48 : Ch p H4 H8 := ((hch.trans x6.ch).trans c7).trans x8.ch
    have xt58 : Xt H5 H8 := ((hxt.trans x6.xt).trans c7.2).trans x8.xt
    by_cases hj : decide (j > 0) = true
    · rw [if_pos hj]
      intro s1 H01 C1 cl1 fp1
      refine gx_de (de_at (ds := [.str wi.kind, eInts wi.worths, .bool wi.must, eNeed wi.needs]) 0 (de_name 6 rfl)) fun v H9 x9 tv => ?_
      obtain ⟨rfl, _⟩ := tv.str_inv
      have hD9 := x9 _ _ hD8
      refine ⟨hD9, kk ++ [wi.kind], by rw [List.map_append]; rfl, ?_, ch_updN (c48.trans x9.ch) hD4, (xt58.trans x9.xt).trans (xt_updL hD9), (((pen7.mono x8).mono x9).upd hD9 eDc).le (by omega)⟩
      rw [tk, List.map_append]
      exact hsub.append (List.Sublist.refl _)
    · rw [if_neg hj]
      refine ⟨hD8, kk, rfl, ?_, c48, xt58, (pen7.mono x8).le (by omega)⟩
      rw [tk, List.map_append]
      exact hsub.trans (List.sublist_append_left _ _)
  rintro ds H5 D acc H6 ⟨rfl, x5⟩ hD hacc ⟨kk, rfl, hsub, hch, hxt, hpen⟩
  rw [List.length_map, List.take_length] at hsub
  rw [List.length_map] at hpen
  have kmem : ∀ z ∈ kk, z ∈ (C.bk s).ks := fun z hz => by
    obtain ⟨y, hy, rfl⟩ := List.mem_map.mp (hsub.subset hz)
    exact (wok.each y hy).kin
  have kl : kk.length ≤ 3 := by
    have := hsub.length_le
    rw [List.length_map] at this
    omega
  refine ⟨x5.xt.trans hxt, ga_de de_int fun v7 H7 x7 t7 => ga_nil ?_⟩
  obtain rfl := t7.int_inv
  refine ⟨p, c, D, _, 3, kk, rfl, by omega, by omega, hpen.mono x7, by omega, x7 _ _ hacc, by omega, hsub.nodup wok.nd, fun z hz => hbk.kmen z (kmem z hz), fun ow vo H8 c8 pen8 tow owok owl => ?_⟩
  have c48 : Ch p H4 H8 := (hch.trans x7.ch).trans c8
  refine ⟨.dat (eWishes ow), ⟨vo, rfl, tow⟩, c48.2, ?_⟩
  have G8 := G4.drew c48 (pen8.le (m := n + 100) (by omega))
  have owok2 : WOk (C.bk s).ks ow := owok.mono kmem
  -- whom it altered
  refine sx_fput hr (gx_op op_cat (gx_oe (oe_getF hr (oe_name 1 rfl) G8.dic G8.pf.altered) ⟨Xt.refl _, gx_le (le_lst (ae_cons (end_at (e := S.e s) 0 (de_name 4 rfl)) ae_nil)) fun a9 vs9 H9 ha9 x9 h9 t9 => ?_⟩))
  have G9 := G8.mono x9
  have v9 : vs9.length = 1 := t9.len
  have zl := G9.zl
  refine ⟨tl, a9, zs, vs9, rfl, rfl, G9.ht, h9, big_ok (by omega), fun r hr0 => ?_⟩
  have xn : Ex H9 (upd H9 r (.lst (zs ++ vs9))) := Ex.new hr0
  have G10 := G9.mono xn
  refine ⟨(x9.trans xn).xt, q, "altered", 8, f, .obj r, oe_name 1 rfl, de_str, G10.dic, by decide, rfl, fun H11 c11 hD11 => ?_⟩
  rw [G8.pf.altered, Option.isSome_some, if_pos rfl] at hD11
  have h10r : upd H9 r (.lst (zs ++ vs9)) r = some (.lst (zs ++ vs9)) := upd_same
  obtain ⟨cells, _, _, _, _, _, _, _, hcell, _⟩ := id G10.pen
  have G11 : GameL K H11 p c (n + 100) q C S (F + 1) (fput f "altered" (.obj r)) nl al fl r xs ys (zs ++ vs9) :=
    { pen := G10.pen.chq c11 G10.pq (G10.dic.ne_lst hcell), dic := hD11,
      pf := ⟨by rw [fput_ne (by decide +kernel)]; exact G8.pf.names, by rw [fput_ne (by decide +kernel)]; exact G8.pf.air, by rw [fput_ne (by decide +kernel)]; exact G8.pf.fresh, fput_same _ _ _, by rw [fput_ne (by decide +kernel)]; exact G8.pf.books, by rw [fput_ne (by decide +kernel)]; exact G8.pf.many, fun t => by rw [fput_ne (nm_key ok t).2.2.2.1]; exact G8.pf.ends t⟩,
      hn := c11.lst (G10.dic.ne_lst G10.hn) G10.hn, ha := c11.lst (G10.dic.ne_lst G10.ha) G10.ha, ta := G10.ta.mono c11.2, hf := c11.lst (G10.dic.ne_lst G10.hf) G10.hf, yl := Nat.le_succ_of_le G10.yl, ht := c11.lst (G10.dic.ne_lst h10r) h10r, zl := by rw [List.length_append]; omega, pq := G10.pq, cal := G10.cal, nal := G10.nal, fal := G10.fal, tal := (ne_new G9.ha hr0).symm }
  have xt811 : Xt H8 H11 := (x9.trans xn).xt.trans c11.2
  have xt011 : Xt H H11 := (x04.xt.trans c48.2).trans xt811
  refine sx_dropX (WX.mono (gx_call (Q := fun v H17 => Xt H11 H17 ∧ Q .non H17) (cal_done T (k + 3)) (hr.mono (by omega)) (ga_oe (oe_name 1 rfl) (ga_de (de_name 2 rfl) fun v1 H12 x12 t1 => ga_cons (gx_callK (ds := [.int C.TR]) (calk_wished T k) (hr.mono (by omega)) (ga_de (de_name 4 rfl) fun v2 H13 x13 t2 => ga_de (de_name 5 rfl) fun v3 H14 x14 t3 => ga_nil ⟨(x13.trans x14).xt, kw_cons (de_getF hr (oe_name 1 rfl) de_str (((G11.mono x12).mono x13).mono x14).dic G11.pf.many) kw_nil, fun zs5 H15 x15 t5 => ⟨rfl, ?_⟩⟩))))) fun v H17 h => ⟨h.1, sx_next (sx_next (sx_next (sx_nil fun _ _ => h.2)))⟩)
  refine ⟨(S.e s, ow, (C.TR : Int)), Tps.append (.cons (t2.mono (x14.trans x15).xt) (.cons (t3.mono x15.xt) .nil)) t5, wok_ws owok2 (by have := hbk.klen; omega), fun e' ls v H16 hpost x16 pv => ?_⟩
  obtain ⟨rfl, rfl⟩ := hpost
  have x1115 := ((x12.trans x13).trans x14).trans x15
  exact ⟨(((x13.trans x14).trans x15).trans x16).xt, ga_nil (fin _ _ H11 H15 (n + 100) v H16 (F + 1) v1 (.wsh ho ow owok2) xt011 x1115.xt ⟨_, nl, al, fl, r, _, _, _, G11.mono x1115⟩ (by omega) (by omega) x16 pv t1.int_inv)⟩
end
end CW
/-! part CwP4 -/
set_option maxRecDepth 100000
set_option maxHeartbeats 1000000
/-! The law's own defs: one thing more. -/
namespace CW
open PySem PySem.Spec PyProof.Rows L2
inductive LedStep (C : Cfg) (S : Sys) : Sys → Prop
  | own (s : Bool) (e' : End) (ls : List Letter) (h : OwnStep C.TR (C.bk s).ks (S.e s) e' ls) : LedStep C S ⟨setE S.e s e', S.air ++ sent s ls⟩
  | lost (i : Nat) (hi : i < S.air.length) : LedStep C S ⟨S.e, S.air.eraseIdx i⟩
  | twice (x : Bool × Letter) (hx : x ∈ S.air) : LedStep C S ⟨S.e, S.air ++ [x]⟩
  | come (i : Nat) (t : Bool) (l : Letter) (hi : S.air[i]? = some (t, l)) : LedStep C S (cameS C S i t l)
theorem depth_let (l : Letter) : (eLet l).depth ≤ 5 := by
  have h1 := depth_prs l.pairs
  unfold eLet
  simp only [PyData.depth, PyData.depthAll]
  omega
theorem depth_air (x : Bool × Letter) : (eAir x).depth ≤ 6 := by
  have h1 := depth_let x.2
  unfold eAir
  simp only [PyData.depth, PyData.depthAll]
  omega
theorem depths_air (xs : List (Bool × Letter)) : PyData.depthAll (xs.map eAir) ≤ 60 := Nat.le_trans (depth_all depth_air xs) (by decide)
section
variable {K : PySem.W.Frag} {H : Hp} {p c q : Addr} {n F : Nat} {C : Cfg} {S : Sys} {f : Fk} {nl al fl tl : Addr} {xs ys zs xs' : List V} {air' : List (Bool × Letter)}
theorem GameL.newair (G : GameL K H p c n q C S F f nl al fl tl xs ys zs) (t : Tps K (upd H al (.lst xs')) xs' (air'.map eAir)) : GameL K (upd H al (.lst xs')) p c n q C ⟨S.e, air'⟩ F f nl al fl tl xs' ys zs :=
  { pen := G.pen.upd G.ha (Ne.symm G.cal), dic := G.dic.keep (xt_updL G.ha) fun o h => upd_other (Ne.symm (G.dic.ne_lst G.ha)) h, pf := ⟨G.pf.names, G.pf.air, G.pf.fresh, G.pf.altered, G.pf.books, G.pf.many, G.pf.ends⟩, hn := upd_other G.nal G.hn, ha := upd_same, ta := t, hf := upd_other G.fal G.hf, yl := G.yl, ht := upd_other G.tal G.ht, zl := G.zl, pq := G.pq, cal := G.cal, nal := G.nal, fal := G.fal, tal := G.tal }
end
def spLed (K : PySem.W.Frag) : Sp := fun vs H Q _ => ∃ (p c q : Addr) (n F : Nat) (C : Cfg) (S : Sys), vs = [.ref p, .ref q] ∧ C.Ok ∧ GameAt K H p c n q C S F ∧ (∀ s, WOk (C.bk s).ks (S.e s).wishes) ∧ (∀ x ∈ S.air, HearPre (S.e x.1) x.2 (C.bk x.1).b C.TR) ∧ n ≤ 50000 ∧ S.air.length ≤ 900 ∧ F ≤ 30000 ∧
  ∀ S' H', LedStep C S S' → Xt H H' → GameAt K H' p c (n + 200) q C S' (F + 2) → Q .non H'
section
variable {P : Program} {w : World} {K : PySem.W.Frag} {mg : Str → Option Value} {base : Heap} {k : Nat}
theorem cal_led (T : Tx K mg w) (k : Nat) : Cal P w K mg base "_law_led" (k + 10) (spLed K) :=
  cal_S d__law_led T.g__law_led T.f__law_led sc__law_led (fun _ _ _ _ _ _ us hl => match us, hl with | [_, _], _ => rfl) (len := fun vs H Q E ⟨_, _, _, _, _, _, _, e, _⟩ => by rw [e]; rfl) fun cdv A outer st H E vs Q hr hsp => by
  obtain ⟨p, c, q, n, F, C, S, ev, ok, ⟨f, nl, al, fl, tl, xs, ys, zs, G⟩, wok, hear, hn, la, lf, qq⟩ := hsp
  subst ev
  have xl : xs.length = S.air.length := by rw [G.ta.len, List.length_map]
  refine ⟨[.obj p, .obj q], ⟨rfl, rfl, trivial⟩, ?_⟩
  refine sx_setX 2 sc__law_led.nd (gx_drawD (k := k) T (hr.mono (by omega)) (oe_name 0 rfl) (de_int (i := 12)) (by omega) (by omega) G.pen (by omega) fun way H1 w0 w1 c1 pen1 => ⟨.dat (.int way), ⟨_, rfl, .int way⟩, c1.2, ?_⟩)
  refine sx_setX 3 sc__law_led.nd (gx_drawD (k := k) T (hr.mono (by omega)) (oe_name 0 rfl) (de_int (i := 2)) (by omega) (by omega) pen1 (by omega) fun at_ H2 a0 a1 c2 pen2 => ⟨.dat (.int at_), ⟨_, rfl, .int at_⟩, c2.2, ?_⟩)
  obtain ⟨s, rfl⟩ : ∃ s, at_ = bI s := by
    have : at_ = 0 ∨ at_ = 1 := by omega
    rcases this with rfl | rfl
    · exact ⟨false, rfl⟩
    · exact ⟨true, rfl⟩
  have G2 := G.drew (c1.trans c2) pen2
  have x02 := (c1.trans c2).2
  -- the spot
  refine sx_setX 4 sc__law_led.nd (gx_ix ix_list (gx_lst (ga_de de_int fun v1 H3 x3 t1 => ga_de de_int fun v2 H4 x4 t2 => ga_cons (gx_drawD (k := k) T (hr.mono (by omega)) (oe_name 0 rfl) (m := if (S.air.length : Int) > 1 then S.air.length else 1) (de_max2 rfl T.n_max (ae_cons de_int (ae_cons (DE.to (de_lenO rfl T.n_len (oe_getF hr (oe_name 1 rfl) ((G2.mono x3).mono x4).dic G2.pf.air) ((G2.mono x3).mono x4).ha) (by rw [xl])) ae_nil))) (by split <;> omega) (by split <;> omega) ((pen2.mono x3).mono x4) (by omega) fun d H5 d0 d1 c5 pen5 => ⟨c5.2, ga_nil ⟨by show 3 ≤ sizeLine; decide, fun r hr0 => ?_⟩⟩)))) 
  obtain rfl := t1.int_inv
  obtain rfl := t2.int_inv
  have c26 : Ch p H2 (upd H5 r (.lst [.int 0, .int 0, .int d])) := ((x3.trans x4).ch.trans c5).trans (Ex.new hr0).ch
  refine ⟨c26.2, gx_drawD (k := k) T (hr.mono (by omega)) (oe_name 0 rfl) (de_int (i := 3)) (by omega) (by omega) (pen5.mono (Ex.new hr0)) (by omega) fun j H7 j0 j1 c7 pen7 => ?_⟩
  have hrp : r ≠ p := by
    obtain ⟨⟨o, ho⟩, _⟩ := pen5.ex
    exact (ne_new ho hr0).symm
  obtain ⟨i, hi, hi2⟩ : ∃ i : Nat, atI [V.int 0, V.int 0, V.int d] j = some (.int (i : Nat)) ∧ (i = 0 ∨ i < S.air.length) := by
    have : j = 0 ∨ j = 1 ∨ j = 2 := by omega
    have e : d = (d.toNat : Int) := by omega
    rcases this with rfl | rfl | rfl
    · exact ⟨0, atI_nat (j := 0) rfl, .inl rfl⟩
    · exact ⟨0, atI_nat (j := 1) rfl, .inl rfl⟩
    · refine ⟨d.toNat, by rw [← e]; exact atI_nat (j := 2) rfl, ?_⟩
      split at d1 <;> omega
  have c27 := c26.trans c7
  refine ⟨r, _, j, _, rfl, rfl, SqL.of (c7.lst hrp upd_same), hi, .dat (.int i), ⟨_, rfl, .int _⟩, c27.2, ?_⟩
  have G7 := G2.drew c27 pen7
  have x07 := x02.trans c27.2
  -- what it is
  refine sx_if (k := (S.air.map eAir).isEmpty || decide (9 < way)) (be_w (we_or (be_eqNil hr (oe_getF hr (oe_name 1 rfl) G7.dic G7.pf.air) (SqL.of G7.ha) G7.ta (depths_air _) (le_lst ae_nil)) fun _ => we_or1 (be_cmp opd_gt (de_name 2 rfl) de_int))) (fun hk H8 x8 => ?_) fun hk H8 x8 => ?_
  · have G8 := G7.mono x8
    refine sx_dropX (WX.mono (gx_call (Q := fun v H9 => Xt H8 H9 ∧ Q .non H9) (cal_of_itself T k) (hr.mono (by omega)) (ga_oe (oe_name 0 rfl) (ga_oe (oe_name 1 rfl) (ga_de (de_name 3 rfl) fun v3 H9 x9 t3 => ga_cons (gx_drawD (k := k) T (hr.mono (by omega)) (oe_name 0 rfl) (de_int (i := 9)) (by omega) (by omega) (G8.pen.mono x9) (by omega) fun wy H10 y0 y1 c10 pen10 => ⟨c10.2, ga_nil ?_⟩))))) fun v H9 h => ⟨h.1, sx_next (sx_nil fun _ _ => h.2)⟩)
    have G10 := (G8.mono x9).drew c10 pen10
    exact ⟨p, c, q, _, F, C, S, s, wy, by rw [t3.int_inv], ok, ⟨f, nl, al, fl, tl, _, _, _, G10⟩, wok s, by omega, by omega, by omega, fun e' ls H11 hs x11 GA => ⟨(x9.xt.trans c10.2).trans x11, qq _ H11 (.own s e' ls hs) ((x07.trans x8.xt).trans ((x9.xt.trans c10.2).trans x11)) (GA.le (by omega) (Nat.le_refl _))⟩⟩
  rw [Bool.or_eq_false_iff] at hk
  have hne : S.air ≠ [] := fun z => by rw [z] at hk; exact absurd hk.1 (by decide)
  have hpos : 0 < S.air.length := List.length_pos_iff.mpr hne
  have hil : i < S.air.length := by omega
  have G8 := G7.mono x8
  have x08 := x07.trans x8.xt
  refine sx_if (k := decide (way = 0)) (BE.to (be_cmp (opd_eq hr (depth_int _) (depth_int _)) (de_name 2 rfl) de_int) (eqv_int _ _)) (fun hk2 H9 x9 => ?_) fun hk2 H9 x9 => ?_
  · have G9 := G8.mono x9
    refine sx_dropX (gx_pop (oe_getF hr (oe_name 1 rfl) G9.dic G9.pf.air) G9.ha (gx_de (de_name 4 rfl) fun v H10 x10 tv => ⟨x10.xt, xs, i, tv.int_inv, x10 _ _ G9.ha, by omega, by omega, fun y hy => ?_⟩))
    have G10 := G9.mono x10
    have xu : Xt H10 (upd H10 al (.lst (xs.eraseIdx i))) := xt_updL G10.ha
    have GA := G10.newair (xs' := xs.eraseIdx i) (air' := S.air.eraseIdx i) (by
      have := (G10.ta.mono xu).erase i
      rwa [map_erase] at this)
    have xx := x10.xt.trans xu
    exact ⟨xx, sx_next (sx_next (sx_nil fun _ _ => qq _ _ (.lost i hil) ((x08.trans x9.xt).trans xx) (GameAt.le ⟨f, nl, al, fl, tl, _, _, _, GA⟩ (by omega) (by omega))))⟩
  refine sx_if (k := decide (way = 1)) (BE.to (be_cmp (opd_eq hr (depth_int _) (depth_int _)) (de_name 2 rfl) de_int) (eqv_int _ _)) (fun hk3 H10 x10 => ?_) fun hk3 H10 x10 => ?_
  · have G10 := (G8.mono x9).mono x10
    have hx := List.getElem?_eq_getElem hil
    refine sx_dropX (gx_app (oe_getF hr (oe_name 1 rfl) G10.dic G10.pf.air) G10.ha (gx_de (d := eAir S.air[i]) (de_ixOD i (oe_getF hr (oe_name 1 rfl) G10.dic G10.pf.air) (de_name 4 rfl) (SqL.of G10.ha) G10.ta (by rw [List.getElem?_map, hx]; rfl)) fun v H11 x11 tv => ⟨x11.xt, xs, x11 _ _ G10.ha, by omega, ?_⟩))
    have G11 := G10.mono x11
    have xu : Xt H11 (upd H11 al (.lst (xs ++ [v]))) := xt_updL G11.ha
    have GA := G11.newair (xs' := xs ++ [v]) (air' := S.air ++ [S.air[i]]) (by
      rw [List.map_append]
      exact (G11.ta.mono xu).append (.cons (tv.mono xu) .nil))
    have xx := x11.xt.trans xu
    exact ⟨xx, sx_next (sx_next (sx_next (sx_nil fun _ _ => qq _ _ (.twice _ (List.getElem_mem hil)) (((x08.trans x9.xt).trans x10.xt).trans xx) (GameAt.le ⟨f, nl, al, fl, tl, _, _, _, GA⟩ (by omega) (by omega)))))⟩
  · have G10 := (G8.mono x9).mono x10
    obtain ⟨t, l, htl⟩ : ∃ t l, S.air[i]? = some (t, l) := ⟨S.air[i].1, S.air[i].2, List.getElem?_eq_getElem hil⟩
    refine sx_dropX (WX.mono (gx_call (Q := fun v H12 => Xt H10 H12 ∧ Q .non H12) (cal_comes T k) (hr.mono (by omega)) (ga_oe (oe_name 1 rfl) (ga_de (de_name 4 rfl) fun v4 H11 x11 t4 => ga_nil ?_))) fun v H12 h => ⟨h.1, sx_next (sx_next (sx_next (sx_nil fun _ _ => h.2)))⟩)
    exact ⟨p, c, q, _, F, C, S, i, t, l, by rw [t4.int_inv], ok, ⟨f, nl, al, fl, tl, _, _, _, G10.mono x11⟩, htl, hear (t, l) (List.mem_of_getElem? htl), by omega, by omega, fun H12 x12 GA => ⟨x11.xt.trans x12, qq _ H12 (.come i t l htl) (((x08.trans x9.xt).trans x10.xt).trans (x11.xt.trans x12)) (GA.le (by omega) (Nat.le_refl _))⟩⟩
end
end CW
/-! part CwP5 -/
set_option maxRecDepth 100000
set_option maxHeartbeats 1000000
/-! The law's own defs: whether an agreed ask is borne; whether two agree. -/
namespace CW
open PySem PySem.Spec PyProof.Rows L2
section
variable {X : Cx} {e a b f1 : Expr} {ρ ρ' : List Kd} {H : Hp} {pos p1 apos : Pos} {T : List (Str × PyData)} {d d' : PyData} {p : Addr} {k : Str} {j : Nat} {kb : Bool} {ds : List PyData} {ts : List Expr} {is : List Nat} {sts : List Stmt} {D : Ends} {kk : Nat} {tp : Pos}
theorem me_dictL (hc : X.calm = true) (hm : X.mg "dict" = none) (h : LE X e ρ H (T.map eKv)) (nd : (T.map (·.1)).Nodup) (hg : Gl X "dict" := by rfl) (hs : starEach [e] X.env = (false, eval e X.env) :: starEach [] X.env := by rfl)
    (hpl : (backTo pos (starEach [] X.env)).any (·.1) = false := by rfl) : ME X (.Call (.Name "dict" p1) [e] [] pos) ρ H T := fun σ H1 s x Q q =>
  re_of (pe_callTy (call_dictP hc) hg hm (by decide +kernel) (pa1 hs) (he := hs) (hpl := hpl)) (h σ H1 s x _ fun p xs H2 hp x2 hl u => by
    obtain ⟨ps, vs, rfl, hlen, tv, pr⟩ := rows_of u
    refine ⟨p, ps, _, rfl, SqL.of hl, pr, fun l hn => q l _ _ (x2.free hn) (x2.trans (Ex.new hn)) upd_same ?_⟩
    have t1 := (tab_of (ks := T.map (·.1)) nd (by simp [hlen]) tv).mono (Ex.new hn (o := .dK (mergeK [] (((T.map (·.1)).zip vs).map fun q => ((Sum.inr q.1 : Key), q.2))))).xt
    have e2 := zip_two T
    rw [e2] at t1
    exact TabK.merge .nil t1 fun j => by cases T.lookup j <;> rfl)
/-- d.get(k, e), k in d -/
theorem de_get2 (hr : Room j X.A) (h1 : OE X a ρ H p) (h2 : DE X e ρ H (.str k)) (h3 : DE X f1 ρ H d') (hD : DicAt X.K H p T) (hk : T.lookup k = some d) (m : M2 X a "get" apos e f1 pos := by exact ⟨rfl, rfl, rfl, rfl⟩) : DE X (.Call (.Attribute a "get" apos) [e, f1] [] pos) ρ H d := fun σ H1 s x Q q => by
  obtain ⟨kvs, hH, t⟩ := hD
  obtain ⟨v, hv, tv⟩ := t.get hk
  exact re_of (pe_dget2 (hu_of hr) pe_re pe_re pe_re m) (h1 σ H1 s x _ ⟨p, rfl, .inl ⟨kvs, .inl (x _ _ hH)⟩, h2 σ H1 s x _ fun w H2 x2 tk => h3 σ H2 (s.mono x2.xt) (x.trans x2) _ fun z H3 x3 tz => by
    obtain ⟨rfl, _⟩ := tk.str_inv
    refine ⟨some v, by rw [← hv]; exact DGet.k (k := .inr k) (x3 _ _ (x2 _ _ (x _ _ hH))), q v H3 (x2.trans x3) (tv.mono ((x.trans x2).trans x3).xt)⟩⟩)
theorem call_repr_bool : CallR X (.builtin "repr") (fun xs H Q => ∃ b, xs = [.bl b] ∧ Q (.str (if b then "True" else "False")) H) := by
  intro pins s σ H xs us Q I r h
  obtain ⟨b, rfl, q⟩ := h
  obtain ⟨u, rfl, rx⟩ := vals1 r
  obtain rfl : u = .bool b := rx
  exact PySem.P.repr_of_bool ⟨.str _, H, I.tok _, ⟨_, rfl⟩, q⟩
theorem de_repr (hm : X.mg "repr" = none) (h : DE X e ρ H (.bool kb)) (hg : Gl X "repr" := by rfl) (hs : starEach [e] X.env = (false, eval e X.env) :: starEach [] X.env := by rfl)
    (hpl : (backTo pos (starEach [] X.env)).any (·.1) = false := by rfl) : DE X (.Call (.Name "repr" p1) [e] [] pos) ρ H (.str (if kb then "True" else "False")) := fun σ H1 s x Q q =>
  re_of (pe_callB call_repr_bool hg hm (by decide +kernel) (pa_cons pe_re pa_nil hs) (he := hs) (hpl := hpl)) (h σ H1 s x _ fun v H2 x2 t => by
    obtain rfl := t.bool_inv
    exact ⟨kb, rfl, q _ H2 x2 (.str _ (by cases kb <;> decide +kernel))⟩)
/-- a, b = a new list -/
theorem sx_unpackL (hc : X.calm = true) (h : LE X e ρ H ds) (hg : TgsE X ts is ds ρ ρ') (kx : ∀ H1, Ex H H1 → SX X sts ρ' H1 D)
    (hn : (assignEach ts X.env).length = ds.length := by rfl) (hst : (assignEach ts X.env).findIdx? (·.1) = none := by rfl) (hs : swapsWithSole [.Tuple ts kk tp] e pos.line X.env = pure false := by rfl) (hw : swappedStores [.Tuple ts kk tp] e X.env = pure none := by rfl)
    (h1 : (assignEach [.Tuple ts kk tp] X.env).map (·.2) = [assign (.Tuple ts kk tp) X.env] := by rfl) : SX X (.Assign [.Tuple ts kk tp] e pos :: sts) ρ H D :=
  sx_cons (ps_asg pe_re (pg_lst hc pgs_rgs hn hst) hs hw h1) fun σ s => h σ H s (Ex.refl _) _ fun l xs H1 hl x1 hx t => ⟨l, xs, rfl, SqL.of hx, t.len, hg σ H1 xs _ (s.mono x1.xt) t fun σ' s' _ => kx H1 x1 σ' s'⟩
end
structure BornePre (e : End) (b : Plan) (g : List Pr) : Prop where
  giv : e.given = some g
  wnd : (e.wishes.map (·.kind)).Nodup
  wl : e.wishes.length ≤ 900
  bnd : (b.map (·.1)).Nodup
  bl : b.length ≤ 900
  gl : g.length ≤ 900
  each : ∀ z ∈ g, (∃ x ∈ e.wishes, x.kind = z.1 ∧ z.2 ∈ x.worths) ∧ ∃ l, b.lookup z.1 = some l ∧ z.2 ∈ l
def tWish (ws : List Wish) : List (Str × PyData) := ws.map fun x => (x.kind, eInts x.worths)
theorem tWish_lookup {x : Wish} : ∀ {ws : List Wish}, (ws.map (·.kind)).Nodup → x ∈ ws → (tWish ws).lookup x.kind = some (eInts x.worths)
  | [], _, h => by cases h
  | y :: ws, nd, h => by
    rw [List.map_cons, List.nodup_cons] at nd
    show List.lookup x.kind ((y.kind, eInts y.worths) :: tWish ws) = _
    rw [List.lookup_cons]
    rcases List.mem_cons.mp h with rfl | h
    · simp
    · have : (x.kind == y.kind) = false := by
        apply beq_false_of_ne
        intro z
        exact nd.1 (by rw [← z]; exact List.mem_map.mpr ⟨x, h, rfl⟩)
      rw [this]
      exact tWish_lookup nd.2 h
section
variable {P : Program} {w : World} {K : PySem.W.Frag} {mg : Str → Option Value} {base : Heap} {k : Nat}
theorem cal_borne (T : Tx K mg w) (k : Nat) : Cal P w K mg base "_law_borne" (k + 1) (spF K (fun a : End × Plan × List Pr => [eEnd a.1, ePlan a.2.1]) (fun a => BornePre a.1 a.2.1 a.2.2) (fun _ => .bool true)) :=
  cal_F d__law_borne T.g__law_borne T.f__law_borne sc__law_borne (fun _ _ _ _ _ _ us hl => match us, hl with | [_, _], _ => rfl) (fun _ => rfl) fun cdv A outer s H E Q a hr hp q => by
  obtain ⟨e, b, g⟩ := a
  have hp : BornePre e b g := hp
  have hwl := hp.wl
  have hbl := hp.bl
  have hgl := hp.gl
  refine sx_setM 2 sc__law_borne.nd (me_dictL (T := tWish e.wishes) rfl T.n_dict (LE.to (le_lc (xs := e.wishes) (enc := eWish) (own := [("_law_wish", 4)]) (f := fun x => .tuple [.str x.kind, eInts x.worths]) (c := fun _ => true) rfl sc__law_borne.nd (ie_tup (end_at (e := e) 1 (de_name 0 rfl))) (blk_ok (by kernel_rfl))
    (fun z hz => tu [4] _ fun s0 H0 C cl fp => ⟨tg_name 4 sc__law_borne.nd, rfl, fun _ => de_tup (ae_cons (de_at (ds := [.str z.kind, eInts z.worths, .bool z.must, eNeed z.needs]) 0 (de_name 4 rfl)) (ae_cons (de_at (ds := [.str z.kind, eInts z.worths, .bool z.must, eNeed z.needs]) 1 (de_name 4 rfl)) ae_nil))⟩) (small1000 (by omega))) (by
      rw [List.filter_eq_self.mpr fun _ _ => rfl]
      unfold tWish
      rw [List.map_map]
      rfl)) (by
      unfold tWish
      rw [List.map_map]
      exact hp.wnd)) fun p2 H1 hp2 x1 hD1 => ?_
  refine sx_setM 3 sc__law_borne.nd (me_dictT (T := tPlan b) rfl rfl T.n_dict (DE.to (de_name 1 rfl) (tPlan_rows b)) (by rw [tPlan_keys]; exact hp.bnd)) fun p3 H2 hp3 x2 hD2 => ?_
  have hD1 := hD1.mono x2
  refine sx_ret (DE.to (de_eqNilL hr (le_lc (xs := g) (enc := ePr) (own := [("_law_kind", 5), ("_law_worth", 6)]) (f := fun _ => .int 1) (c := fun _ => false) rfl sc__law_borne.nd (ie_tup (DE.to (end_at (e := e) 8 (de_name 0 rfl)) (by
      show eOPrs e.given = _
      rw [hp.giv]
      rfl))) (blk_ok (by kernel_rfl))
    (fun z hz => by
      obtain ⟨⟨x, hx, e1, e2⟩, l, e3, e4⟩ := hp.each z hz
      have l1 : (tWish e.wishes).lookup z.1 = some (eInts x.worths) := by rw [← e1]; exact tWish_lookup hp.wnd hx
      have l2 : (tPlan b).lookup z.1 = some (eInts l) := by rw [tPlan_lookup, e3]; rfl
      exact tu [5, 6] _ fun s0 H0 C cl fp => ⟨tg_tup (ds := [.str z.1, .int z.2]) rfl (tgs_cons (tg_name 5 sc__law_borne.nd) (tgs_cons (tg_name 6 sc__law_borne.nd) tgs_nil)), BE.to (be_w (we_or (be_cmp (opd_notInInt (by exact hr) z.2 x.worths) (de_name 6 rfl) (de_get2 (by exact hr) (oe_name 2 rfl) (de_name 5 rfl) (de_tup ae_nil) hD1 l1)) fun _ =>
        we_or1 (be_cmp (opd_notInInt (by exact hr) z.2 l) (de_name 6 rfl) (de_get2 (by exact hr) (oe_name 3 rfl) (de_name 5 rfl) (de_tup ae_nil) hD2 l2)))) (by rw [decide_eq_true e2, decide_eq_true e4]; rfl), fun h => absurd h (by decide)⟩) (small1000 (by omega))) (by rw [List.filter_eq_nil_iff.mpr (by simp)]; decide) (le_lst ae_nil)) (by rw [List.filter_eq_nil_iff.mpr (by simp)]; rfl)) fun v H3 x3 t => q v H3 ((x1.trans x2).trans x3) t
/-- the look at two ends -/
structure RightPre (C : Cfg) (S : Sys) : Prop where
  same : standsOpen (S.e false) (S.e true) = true → (S.e false).given = (S.e true).took ∧ (S.e true).given = (S.e false).took
  borne : standsOpen (S.e false) (S.e true) = true → ∀ s, ∃ g, BornePre (S.e s) (C.bk !s).b g
theorem standsOpen_swap (a b : End) : standsOpen b a = standsOpen a b := by
  unfold standsOpen
  cases decide (a.stand = .opn) <;> cases decide (b.stand = .opn) <;> cases decide (a.yours = b.turn) <;> cases decide (b.yours = a.turn) <;> rfl
def spRight (K : PySem.W.Frag) : Sp := fun vs H Q _ => ∃ (p c q : Addr) (n F : Nat) (C : Cfg) (S : Sys), vs = [.ref q] ∧ C.Ok ∧ GameAt K H p c n q C S F ∧ RightPre C S ∧ ∀ H', Ex H H' → Q (.bl true) H'
theorem cal_right (T : Tx K mg w) (k : Nat) : Cal P w K mg base "_law_right" (k + 3) (spRight K) :=
  cal_S d__law_right T.g__law_right T.f__law_right sc__law_right (fun _ _ _ _ _ _ us hl => match us, hl with | [_], _ => rfl) (len := fun vs H Q E ⟨_, _, _, _, _, _, _, e, _⟩ => by rw [e]; rfl) fun cdv A outer st H E vs Q hr hsp => by
  obtain ⟨p, c, q, n, F, C, S, ev, ok, ⟨f, nl, al, fl, tl, xs, ys, zs, G⟩, rp, qq⟩ := hsp
  subst ev
  refine ⟨[.obj q], ⟨rfl, trivial⟩, ?_⟩
  have kok := fun s => (nm_key ok s).2.2.2.2.2.2
  refine sx_unpackL (ds := [eEnd (S.e false), eEnd (S.e true)]) rfl (LE.to (le_lc (xs := [false, true]) (enc := fun s => .str (C.nm s)) (own := [("_law_name", 4)]) (f := fun s => eEnd (S.e s)) (c := fun _ => true) rfl sc__law_right.nd (ie_obj (oe_getF hr (oe_name 0 rfl) G.dic G.pf.names) (SqL.of G.hn) (nm_tps ok)) (blk_ok (by kernel_rfl))
    (fun s hs => tu [4] _ fun s0 H0 C0 cl fp => ⟨tg_name 4 sc__law_right.nd, rfl, fun _ => de_getF (by exact hr) (oe_name 0 rfl) (de_name 4 rfl) G.dic (G.pf.ends s)⟩) (small1000 (by decide))) rfl) (tgs_cons (tg_name 2 sc__law_right.nd) (tgs_cons (tg_name 3 sc__law_right.nd) tgs_nil)) fun H1 x1 => ?_
  have G1 := G.mono x1
  have sv : ∀ a b : Stand, PyData.eqv (.str (sStand a)) (.str (sStand b)) = decide (a = b) := sStand_eq
  -- whether they should
  refine sx_set (d := .bool (standsOpen (S.e false) (S.e true))) 1 sc__law_right.nd (DE.to (de_and (de_chain (d := .str (sStand (S.e false).stand)) (d1 := .str (sStand (S.e true).stand)) (d2 := .str "open") (opd_eq hr (depth_str _) (depth_str _)) (fun _ => opd_eq hr (depth_str _) (depth_str _)) ⟨_, op_eqD hr.units⟩ (end_at (e := S.e false) 2 (de_name 2 rfl)) (end_at (e := S.e true) 2 (de_name 3 rfl)) de_str) fun _ =>
    de_and (de_cmp (opd_eq hr (depth_int _) (depth_int _)) (end_at (e := S.e false) 4 (de_name 2 rfl)) (end_at (e := S.e true) 3 (de_name 3 rfl))) fun _ => de_one (de_cmp (opd_eq hr (depth_int _) (depth_int _)) (end_at (e := S.e true) 4 (de_name 3 rfl)) (end_at (e := S.e false) 3 (de_name 2 rfl)))) (by
      rw [sv, show PyData.eqv (.str (sStand (S.e true).stand)) (.str "open") = decide ((S.e true).stand = .opn) from sv (S.e true).stand .opn, eqv_int, eqv_int]
      unfold standsOpen
      cases h1 : (S.e false).stand <;> cases h2 : (S.e true).stand <;> simp)) fun H2 x2 => ?_
  generalize hso : standsOpen (S.e false) (S.e true) = so
  have hso2 : standsOpen (S.e true) (S.e false) = so := by rw [standsOpen_swap]; exact hso
  -- stands_open_with tells so
  have tf : ∀ b : Bool, PyData.strOk (if b then "True" else "False") = true := fun b => by cases b <;> decide +kernel
  have ev1 : ∀ b : Bool, (!PyData.eqv (.str (if b then "True" else "False")) (.str (if b then "True" else "False"))) = false := fun b => by rw [eqv_str]; simp
  refine sx_if (k := false) (BE.to (be_w (we_or (be_cmp (opd_ne hr (depth_str _) (depth_str _)) (de_repr (kb := so) T.n_repr (de_fn (cal_stands_open_with T k) (hr.mono (by omega)) (S.e false, S.e true) (ae_cons (de_name 2 rfl) (ae_cons (de_name 3 rfl) ae_nil)) trivial rfl (by rw [hso]))) (de_repr T.n_repr (de_name 1 rfl))) fun _ =>
    we_or1 (be_cmp (opd_ne hr (depth_str _) (depth_str _)) (de_repr (kb := so) T.n_repr (de_fn (cal_stands_open_with T k) (hr.mono (by omega)) (S.e true, S.e false) (ae_cons (de_name 3 rfl) (ae_cons (de_name 2 rfl) ae_nil)) trivial rfl (by rw [hso2]))) (de_repr T.n_repr (de_name 1 rfl))))) (by rw [ev1]; rfl)) (fun h => absurd h (by decide)) fun _ H3 x3 => sx_next ?_
  have x03 := (x1.trans x2).trans x3
  refine sx_if (be_not (be_val (de_name 1 rfl))) (fun hk H4 x4 => sx_ret de_bl fun v H5 x5 t => by
    obtain rfl := t.bool_inv
    exact qq H5 ((x03.trans x4).trans x5)) fun hk H4 x4 => sx_next ?_
  have hs1 : so = true := by cases so <;> first | rfl | exact absurd hk (by decide)
  rw [hs1] at hso
  obtain ⟨s1, s2⟩ := rp.same hso
  obtain ⟨g0, bp0⟩ := rp.borne hso false
  obtain ⟨g1, bp1⟩ := rp.borne hso true
  have dop : ∀ o : Option (List Pr), (eOPrs o).depth ≤ 64 := fun o => by
    cases o with
    | none => simp [eOPrs, PyData.depth]
    | some p => exact depth_prs64 p
  refine sx_if (k := false) (BE.to (be_w (we_or (be_cmp (opd_ne hr (dop (S.e false).given) (dop (S.e true).took)) (end_at (e := S.e false) 8 (de_name 2 rfl)) (end_at (e := S.e true) 10 (de_name 3 rfl))) fun _ => we_or1 (be_cmp (opd_ne hr (dop (S.e true).given) (dop (S.e false).took)) (end_at (e := S.e true) 8 (de_name 3 rfl)) (end_at (e := S.e false) 10 (de_name 2 rfl))))) (by
      rw [eqv_oprs, eqv_oprs, decide_eq_true s1, decide_eq_true s2]; rfl)) (fun h => absurd h (by decide)) fun _ H5 x5 => sx_next ?_
  have G5 := ((((G1.mono x2).mono x3).mono x4).mono x5)
  refine sx_ret (d := .bool (true && true)) (de_and (de_fn (cal_borne T (k + 1)) (hr.mono (by omega)) (S.e false, (C.bk true).b, g0) (ae_cons (de_name 2 rfl) (ae_cons (de_at (ds := [eWishes (C.bk true).ws, ePlan (C.bk true).b]) 1 (DE.to (de_at (ds := [eBook (C.bk false), eBook (C.bk true)]) 1 (de_getF hr (oe_name 0 rfl) de_str G5.dic G5.pf.books)) rfl)) ae_nil)) bp0) fun _ =>
    de_one (de_fn (cal_borne T (k + 1)) (hr.mono (by omega)) (S.e true, (C.bk false).b, g1) (ae_cons (de_name 3 rfl) (ae_cons (de_at (ds := [eWishes (C.bk false).ws, ePlan (C.bk false).b]) 1 (DE.to (de_at (ds := [eBook (C.bk false), eBook (C.bk true)]) 0 (de_getF hr (oe_name 0 rfl) de_str G5.dic G5.pf.books)) rfl)) ae_nil)) bp1)) fun v H6 x6 t => ?_
  obtain rfl := t.bool_inv
  exact qq H6 (((x03.trans x4).trans x5).trans x6)
end
end CW
/-! part CwZip5 -/
set_option maxRecDepth 100000
set_option maxHeartbeats 1000000
/-! zip of a list and a tuple, walked by a for. -/
namespace CW
open PySem PySem.Spec PyProof.Rows L2
abbrev zmH1 (h : Heap) (l1 : Addr) : Heap := h.push { cls := .type "list_iterator", data := .fields #[.ref l1, .int 0 0] }
abbrev zmH2 (h : Heap) (l1 l2 : Addr) : Heap := (zmH1 h l1).push { cls := .type "tuple_iterator", data := .fields #[.ref l2, .int 0 0] }
abbrev zmH3 (h : Heap) (l1 l2 : Addr) : Heap := (zmH2 h l1 l2).push { cls := .type "tuple", data := .seq #[.ref h.objs.size, .ref (zmH1 h l1).objs.size] }
abbrev zmH4 (h : Heap) (l1 l2 : Addr) : Heap := (zmH3 h l1 l2).push { cls := .type "tuple", data := .seq #[.none, .none] }
abbrev zmH5 (h : Heap) (l1 l2 : Addr) : Heap := (zmH4 h l1 l2).push { cls := .type "zip", data := .fields #[.none, .bool false, .bool false, .ref (zmH2 h l1 l2).objs.size, .ref (zmH3 h l1 l2).objs.size] }
theorem meets_zm (l1 l2 : Addr) (xs ys : Array Value) :
    Meets (Builtin.«zip.__new__» ⟨[.type "zip", .ref l1, .ref l2], []⟩) (fun _ R s => s.heap.IsList l1 xs ∧ s.heap.IsTuple l2 ys ∧
      R (.ok (.ret (.ref (zmH4 s.heap l1 l2).objs.size))) { s with heap := zmH5 s.heap l1 l2 }) :=
  .of_wp fun prog w A R s h => by
    obtain ⟨hp, g, d, tk, os⟩ := s; obtain ⟨hl1, hl2, h⟩ := h
    have hsub := sub_zip
    have hL1 : Heap.IsList (Shared.heap ⟨hp, g, d, tk, os⟩) l1 xs := hl1
    have hL2 : Heap.IsTuple (Shared.heap ⟨hp.push { cls := .type "list_iterator", data := .fields #[.ref l1, .int 0 0] }, g, d, tk, os⟩) l2 ys := Heap.IsTuple.push hl2 _
    wp_walk using wpAny_pyIter_list hL1, wpAny_pyIter_tuple hL2
    exact ⟨_, rfl, h⟩
section
variable {prog : Program} {w : World} {A : Around} {E : Value → Shared → Prop} {s : Shared}
theorem call_zm {l1 l2 : Addr} {xs ys : Array Value} {Q : Value → Shared → Prop} (hl1 : s.heap.IsList l1 xs) (hl2 : s.heap.IsTuple l2 ys)
    (h : ∀ h', IsZip h' (s.heap.objs.size + 4) (s.heap.objs.size + 2) (s.heap.objs.size + 3) .none → IsPair h' (s.heap.objs.size + 2) (.ref s.heap.objs.size) (.ref (s.heap.objs.size + 1)) →
      IsPair h' (s.heap.objs.size + 3) .none .none → h'.IsListIter s.heap.objs.size l1 0 → h'.IsTupleIter (s.heap.objs.size + 1) l2 0 →
      (∀ c o, s.heap.get? c = some o → h'.get? c = some o) → Q (.ref (s.heap.objs.size + 4)) { s with heap := h' }) :
    wpAny (model prog w) A (call (.type "zip") [.ref l1, .ref l2]) Q E s := by
  refine callType_new F.called_zip (by decide) (F.typeCall_zip_2 _ _) (F.newCall_zip_2 _ _) (fun obj => F.args_object_init_3 obj _ _) F.entry_zip_new
    (meets_zm l1 l2 xs ys) ⟨hl1, hl2, ?_⟩
  have z1 : (zmH1 s.heap l1).objs.size = s.heap.objs.size + 1 := Heap.size_push ..
  have z2 : (zmH2 s.heap l1 l2).objs.size = s.heap.objs.size + 2 := by rw [Heap.size_push, z1]
  have z3 : (zmH3 s.heap l1 l2).objs.size = s.heap.objs.size + 3 := by rw [Heap.size_push, z2]
  have z4 : (zmH4 s.heap l1 l2).objs.size = s.heap.objs.size + 4 := by rw [Heap.size_push, z3]
  have g5 : (zmH5 s.heap l1 l2).get? (zmH4 s.heap l1 l2).objs.size = some _ := Heap.get?_push_size _ rfl
  have g4 : (zmH5 s.heap l1 l2).get? (zmH3 s.heap l1 l2).objs.size = some _ := Heap.get?_push_of_some _ (Heap.get?_push_size _ rfl)
  have g3 : (zmH5 s.heap l1 l2).get? (zmH2 s.heap l1 l2).objs.size = some _ := Heap.get?_push_of_some _ (Heap.get?_push_of_some _ (Heap.get?_push_size _ rfl))
  have g2 : (zmH5 s.heap l1 l2).get? (zmH1 s.heap l1).objs.size = some _ := Heap.get?_push_of_some _ (Heap.get?_push_of_some _ (Heap.get?_push_of_some _ (Heap.get?_push_size _ rfl)))
  have g1 : (zmH5 s.heap l1 l2).get? s.heap.objs.size = some _ := Heap.get?_push_of_some _ (Heap.get?_push_of_some _ (Heap.get?_push_of_some _ (Heap.get?_push_of_some _ (Heap.get?_push_size _ rfl))))
  show _ ∧ _
  rw [z2, z3, z4] at g5
  rw [z1, z2] at g3
  rw [z3] at g4
  rw [z1] at g2
  rw [z4]
  exact ⟨⟨_, g5, rfl⟩, h _ g5 g3 g4 ⟨_, g1, rfl, rfl⟩ ⟨_, g2, rfl, rfl⟩ fun c o x =>
    Heap.get?_push_of_some _ (Heap.get?_push_of_some _ (Heap.get?_push_of_some _ (Heap.get?_push_of_some _ (Heap.get?_push_of_some _ x))))⟩
end
def ItzM (K : PySem.W.Frag) (a b : Addr) (xs ys : List V) : It :=
  ⟨fun i H => SqL K H a xs ∧ SqT K H b ys ∧ i < xs.length, fun i H v H' => ∃ T x y, v = .ref T ∧ H T = none ∧ H' = upd H T (.tup [x, y]) ∧ xs[i]? = some x ∧ ys[i]? = some y, fun i H => SqL K H a xs ∧ SqT K H b ys ∧ i = xs.length⟩
theorem turn_zm {P : Program} {w : World} {K : PySem.W.Frag} {elts : List Expr} {kk : Nat} {tpos : Pos} {a b z TI TO i1 i2 : Addr} {xs ys : List V} (D : ZipSep2 z TI TO i1 i2 [i1, a] [i2, b]) (ha : a ≠ i1) (hb : b ≠ i2) (hl : xs.length = ys.length) :
    Turn P w K (.Tuple elts kk tpos) (ItzM K a b xs ys) [z, TI, TO, i1, i2] z (fun i h => IsZip h z TI TO .none ∧ IsTupOf2 h TI (.ref i1) (.ref i2) ∧ (∃ x y, IsTupOf2 h TO x y) ∧ h.IsListIter i1 a i ∧ h.IsTupleIter i2 b i) where
  mem := by simp
  obj := fun i h st c hc => by
    obtain ⟨hz, hTI, ⟨x, y, hTO⟩, ⟨o1, e1, _, d1⟩, ⟨o2, e2, _, d2⟩⟩ := st
    rcases mem5 hc with q | q | q | q | q <;> subst q
    · exact ⟨_, hz, fun v q => nomatch q⟩
    · exact ⟨_, hTI, fun v q => nomatch q⟩
    · exact ⟨_, hTO, fun v q => nomatch q⟩
    · exact ⟨o1, e1, fun v q => by rw [d1] at q; cases q⟩
    · exact ⟨o2, e2, fun v q => by rw [d2] at q; cases q⟩
  keep := fun i h h' st k => by
    obtain ⟨hz, hTI, ⟨x, y, hTO⟩, h1, h2⟩ := st
    exact ⟨k z (by simp) _ hz, k TI (by simp) _ hTI, ⟨x, y, k TO (by simp) _ hTO⟩, h1.at fun o q => k i1 (by simp) o q, h2.at fun o q => k i2 (by simp) o q⟩
  item := by
    intro X hP hw hK hc i pins s σ H E I hf st hg
    subst hP hw hK
    obtain ⟨hz, hTI, ⟨x0, y0, hTO⟩, h1, h2⟩ := st
    obtain ⟨hqx, hqy, hi⟩ := hg
    obtain ⟨ix, rx, px, _⟩ := I.list hqx
    obtain ⟨iy, ry, py, _⟩ := I.tuple hqy
    have hh : X.A.handled = none := I.ok.hd hc
    have D1 := Draws.list (prog := X.prog) (w := X.w) (A := X.A.in1) hh i1 a ha ix.toArray
    have D2 := Draws.tuple (prog := X.prog) (w := X.w) (A := X.A.in1) hh i2 b hb iy.toArray
    have hzl : z < s.heap.objs.size := Heap.lt_size hz
    refine wpAny_pyNext_zipD2_item D D1 D2 hz hTI hTO ⟨h1, px.isList⟩ ⟨h2, py⟩ (by simp only [List.size_toArray]; rw [← rx.length]; exact hi) (by simp only [List.size_toArray]; rw [← ry.length, ← hl]; exact hi) fun u1 u2 h' tk y1 y2 z' TO' n1 n2 hT hsz hk => ?_
    refine ⟨_, rfl, wpAny_letOwnedTupleGo_zip (s := { s with heap := h', toks := tk }) z' fun h'' z'' sb => ?_⟩
    replace sb : Heap.SameBut z h' h'' := sb
    have hT2 : IsTupOf2 h'' s.heap.objs.size u1 u2 := (sb.2 _ (Nat.ne_of_gt hzl)).trans hT
    obtain ⟨x, hx⟩ : ∃ x, xs[i]? = some x := ⟨xs[i], List.getElem?_eq_getElem hi⟩
    obtain ⟨y, hy⟩ : ∃ y, ys[i]? = some y := ⟨ys[i], List.getElem?_eq_getElem (by omega)⟩
    obtain ⟨v1, g1, q1⟩ := rx.get hx
    obtain ⟨v2, g2, q2⟩ := ry.get hy
    have e1 : u1 = v1 := by
      have : ix[i]? = some u1 := by simpa using y1
      rw [g1] at this
      exact (Option.some.inj this).symm
    have e2 : u2 = v2 := by
      have : iy[i]? = some u2 := by simpa using y2
      rw [g2] at this
      exact (Option.some.inj this).symm
    subst e1 e2
    have new : ObjOk X.prog X.w (upd H s.heap.objs.size (.tup [x, y])) h'' s.heap.objs.size (.tup [x, y]) := ⟨by show 2 ≤ sizeLine; decide, [u1, u2], .cons q1 (.cons q2 .nil), ⟨_, hT2, rfl, _, rfl⟩⟩
    have I1 : Inv X pins σ (upd H s.heap.objs.size (.tup [x, y])) { s with heap := h'', toks := tk } :=
      I.turnedNew (t' := tk) (ch := [z, TI, TO, i1, i2]) (fun c o hb q => (sb.2 c (fun q' => hb (by simp [q']))).trans (hk c o (fun q' => hb (by simp [q'])) (fun q' => hb (by simp [q'])) (fun q' => hb (by simp [q'])) (fun q' => hb (by simp [q'])) q)) hf (Nat.le_refl _) new
    have z1 : i1 ≠ z := D.zi1.symm
    have z2 : i2 ≠ z := D.zi2.symm
    refine ⟨.ref s.heap.objs.size, _, I1, rfl, ⟨_, x, y, rfl, I.hok.fresh (Nat.le_refl _), rfl, hx, hy⟩, ⟨z'', ?_, ⟨u1, u2, ?_⟩, ?_, ?_⟩, fun c hcm => ?_⟩
    · exact (sb.2 _ D.TIz).trans (hk _ _ D.TIz D.TITO D.TIi1 D.TIi2 hTI)
    · exact (sb.2 _ D.TOz).trans TO'
    · exact n1.1.at fun o q => (sb.2 _ z1).trans q
    · exact n2.1.at fun o q => (sb.2 _ z2).trans q
    · have hlt : c < s.heap.objs.size := by
        rcases mem5 hcm with q | q | q | q | q <;> subst q
        · exact hzl
        · exact Heap.lt_size hTI
        · exact Heap.lt_size hTO
        · obtain ⟨_, e1, _⟩ := h1; exact Heap.lt_size e1
        · obtain ⟨_, e1, _⟩ := h2; exact Heap.lt_size e1
      rw [upd_ne (Nat.ne_of_lt hlt)]
      exact (hf c hcm).1
  done := by
    intro X hP hw hK hc i pins s σ H E I hf st hg
    subst hP hw hK
    obtain ⟨hz, hTI, ⟨x0, y0, hTO⟩, h1, h2⟩ := st
    obtain ⟨hqx, hqy, hi⟩ := hg
    obtain ⟨ix, rx, px, _⟩ := I.list hqx
    obtain ⟨iy, ry, py, _⟩ := I.tuple hqy
    have hh : X.A.handled = none := I.ok.hd hc
    have D1 := Draws.list (prog := X.prog) (w := X.w) (A := X.A.in1) hh i1 a ha ix.toArray
    have D2 := Draws.tuple (prog := X.prog) (w := X.w) (A := X.A.in1) hh i2 b hb iy.toArray
    have e1 : i = ix.toArray.size := by simp only [List.size_toArray]; rw [← rx.length, hi]
    have e2 : i = iy.toArray.size := by simp only [List.size_toArray]; rw [← ry.length, ← hl, hi]
    exact wpAny_pyNext_zipD2_end D D1 D2 hz hTI hTO ⟨h1, px.isList⟩ ⟨h2, py⟩ (Nat.le_of_eq e1) (Nat.le_of_eq e2) (.inl e1) fun h' tk hk => ⟨rfl, I.turnedL (t' := tk) (ch := [z, TI, TO, i1, i2]) (fun c o hb q => hk c o (fun q' => hb (by simp [q'])) (fun q' => hb (by simp [q'])) (fun q' => hb (by simp [q'])) (fun q' => hb (by simp [q'])) q) hf⟩
  self := fun A i s Q E st h => wpAny_pyIter_zip st.1 h
def iZm (K : PySem.W.Frag) (ta : TA) : TI := fun σ H R => ta σ H fun vs H1 => ∃ a b xs ys, vs = [.ref a, .ref b] ∧ xs.length = ys.length ∧ SqL K H1 a xs ∧ SqT K H1 b ys ∧ R (ItzM K a b xs ys) H1
theorem pi_zm {X : Cx} {e e2 : Expr} {ta : TA} {p pos tpos : Pos} {elts : List Expr} {kk : Nat} (hg : Gl X "zip") (hm : X.mg "zip" = none) (ha : PA X [e, e2] ta)
    (hs : starEach [e, e2] X.env = (false, eval e X.env) :: starEach [e2] X.env := by rfl) (hpl : (backTo pos (starEach [e2] X.env)).any (·.1) = false := by rfl) :
    PI X (.Tuple elts kk tpos) (.Call (.Name "zip" p) [e, e2] [] pos) (iZm X.K ta) := by
  refine ⟨fun pins s σ H R I h => ?_⟩
  refine Call_ (ld_blt I hg hm PyProof.Rows.boot_zip (PyProof.Rows.callWith_type1 (thn (ha.run pos pins s σ H _ I h) fun us s1 ⟨vs, H1, I1, r1, q1⟩ => ?_) hs hpl))
  obtain ⟨a, b, xs, ys, ex, hl, hqx, hqy, q⟩ := q1
  subst ex
  cases r1 with
  | cons r rr =>
    cases rr with
    | cons r' rr =>
      cases rr
      cases r
      cases r'
      obtain ⟨ix, rx, px, _⟩ := I1.list hqx
      obtain ⟨iy, ry, py, _⟩ := I1.tuple hqy
      have lt1 : a < s1.heap.objs.size := px.lt
      have lt2 : b < s1.heap.objs.size := by obtain ⟨_, e, _⟩ := id py; exact Heap.lt_size e
      refine call_zm px.isList py fun h' hz hTI hTO h1 h2 hk => wpAny_pyIter_zip hz ?_
      have I2 : Inv X pins σ H1 { s1 with heap := h' } := I1.kept (t' := s1.toks) hk
      have fresh : ∀ c, c ∈ [s1.heap.objs.size + 4, s1.heap.objs.size + 2, s1.heap.objs.size + 3, s1.heap.objs.size, s1.heap.objs.size + 1] → FpOk X pins H1 c := fun c hcm => by
        have hle : s1.heap.objs.size ≤ c := by
          rcases mem5 hcm with z | z | z | z | z <;> rw [z] <;> first | exact Nat.le_refl _ | exact Nat.le_add_right _ _
        exact I1.fpOk hle (I1.hok.fresh hle)
      exact ⟨s1.heap.objs.size + 4, [s1.heap.objs.size + 4, s1.heap.objs.size + 2, s1.heap.objs.size + 3, s1.heap.objs.size, s1.heap.objs.size + 1], _, _, H1, rfl, I2, turn_zm (zsep lt1 lt2) (Nat.ne_of_lt lt1) (ne' (.inl (Nat.lt_succ_of_lt lt2))) hl, ⟨hz, hTI, ⟨_, _, hTO⟩, h1, h2⟩, fresh, q⟩
section
variable {X : Cx} {a b : Expr} {ρ : List Kd} {H : Hp} {pos p1 tpos : Pos} {kk : Nat} {as bs : List PyData} {elts : List Expr} {p : Addr} {xs : List V}
/-- zip(xs, t): xs a list in a slot, t a datum -/
theorem ig_zm (hm : X.mg "zip" = none) (h1 : OE X a ρ H p) (hH : H p = some (.lst xs)) (t : Tps X.K H xs as) (h2 : DE X b ρ H (.tuple bs)) (hl : as.length = bs.length) (hg : Gl X "zip" := by rfl) (hs1 : starEach [b] X.env = (false, eval b X.env) :: starEach [] X.env := by rfl)
    (hs : starEach [a, b] X.env = (false, eval a X.env) :: starEach [b] X.env := by rfl) (hpl : (backTo pos (starEach [b] X.env)).any (·.1) = false := by rfl) : IG true X (.Tuple elts kk tpos) (.Call (.Name "zip" p1) [a, b] [] pos) ρ H (fun H1 H' => Xt H1 H' ∧ SqL X.K H' p xs) (prs2 as bs) :=
  ⟨_, pi_zm hg hm (pa_cons pe_re (pa_cons pe_re pa_nil hs1) hs) hs hpl, fun σ H1 s x R r => h1 σ H1 s x _ (h2 σ H1 s x _ fun v H2 x2 t2 => by
    obtain ⟨q, ys, rfl, sq2, u2⟩ := t2.tuple_inv
    have sq : SqL X.K H2 p xs := SqL.of (x2 _ _ (x _ _ hH))
    have tx := t.mono (x.trans x2).xt
    refine ⟨p, q, xs, ys, rfl, by rw [t.len, u2.len, hl], sq, sq2, r _ H2 x2 fun H' ⟨g, sqp⟩ => ⟨⟨sqp, g.sq sq2, by unfold prs2; rw [List.length_zipWith, t.len]; omega⟩, fun i d hd => ?_⟩⟩
    obtain ⟨dx, dy, hx, hy, rfl⟩ := prs2_get hd
    obtain ⟨w, hw, tw⟩ := tx.at hx
    obtain ⟨u, hu, tu⟩ := u2.at hy
    refine ⟨⟨sqp, g.sq sq2, (List.getElem?_eq_some_iff.mp hw).1⟩, fun z H'' y => ?_⟩
    obtain ⟨Tt, x1, y1, rfl, hT, rfl, f1, f2⟩ := y
    rw [f1] at hw
    rw [f2] at hu
    cases hw
    cases hu
    exact ⟨Ex.new hT, .of (SqT.of upd_same) (.cons ((tw.mono g).mono (Ex.new hT).xt) (.cons ((tu.mono g).mono (Ex.new hT).xt) .nil))⟩)⟩
end
end CW
/-! part CwP6 -/
set_option maxRecDepth 100000
set_option maxHeartbeats 1000000
/-! The law's own defs: two new ends. -/
namespace CW
open PySem PySem.Spec PyProof.Rows L2
section
variable {X : Cx} {a e1 e2 : Expr} {ρ : List Kd} {H : Hp} {Q : VK} {pos p1 : Pos} {p c : Addr} {n k : Nat} {m : Int} {is : List Int}
/-- [i, j, ..][draw(pen, m)] -/
theorem gx_pick (T : Tx X.K X.mg X.w) (hr : Room (k + 1) X.A) (hl : LE X a ρ H (is.map .int)) (h1 : OE X e1 ρ H p) (h2 : DE X e2 ρ H (.int m)) (hm : m = is.length) (h0 : 0 < is.length) (h9 : is.length ≤ 900) (pen : PenAt X.K H p c n) (hn : n ≤ 100000)
    (q : ∀ i ∈ is, ∀ H', Ch p H H' → PenAt X.K H' p c (n + 1) → Q (.int i) H') (hg : Gl X "_law_draw" := by rfl)
    (hs2 : starEach [e2] X.env = (false, eval e2 X.env) :: starEach [] X.env := by rfl) (he : starEach [e1, e2] X.env = (false, eval e1 X.env) :: starEach [e2] X.env := by rfl) (hpl : (backTo pos (starEach [e2] X.env)).any (·.1) = false := by rfl)
    (hs : PlainIx (.Call (.Name "_law_draw" p1) [e1, e2] [] pos) := by exact fun _ _ => rfl) {pos2 : Pos} : WX X (.Subscript a (.Call (.Name "_law_draw" p1) [e1, e2] [] pos) pos2) ρ H Q :=
  gx_ix ix_list (gx_le hl fun l xs H1 hl1 x1 hx t => ⟨x1.xt, gx_drawD T hr (fun σ H2 s x2 Q2 q2 => h1 σ H2 s (x1.trans x2) Q2 q2) (h2.mono x1) (by omega) (by omega) (pen.mono x1) hn (fun i H2 i0 i1 c2 pen2 => by
    have hlp : l ≠ p := by
      obtain ⟨⟨o, ho⟩, _⟩ := pen.ex
      exact (ne_new ho hl1).symm
    obtain ⟨ix, rfl⟩ : ∃ ix : Nat, i = ix := ⟨i.toNat, by omega⟩
    have hi : ix < is.length := by omega
    obtain rfl := ints_inv t
    exact ⟨l, _, ix, .int is[ix], rfl, rfl, SqL.of (c2.lst hlp hx), atI_nat (by rw [List.getElem?_map, List.getElem?_eq_getElem hi]; rfl), q _ (List.getElem_mem hi) H2 (x1.ch.trans c2) pen2⟩) hg hs2 he hpl⟩) hs
end
/-- the start -/
def startS (C : Cfg) : Sys := ⟨fun s => newEnd (C.nm s) (C.bk s).ws, []⟩
def spTwo (K : PySem.W.Frag) : Sp := fun vs H Q _ => ∃ (p c : Addr) (n : Nat), vs = [.ref p] ∧ PenAt K H p c n ∧ n ≤ 40000 ∧ ∀ q (C : Cfg) H', C.Ok → 2 ≤ C.TR → Xt H H' → GameAt K H' p c (n + 1100) q C (startS C) 0 → Q (.ref q) H'
section
variable {P : Program} {w : World} {K : PySem.W.Frag} {mg : Str → Option Value} {base : Heap} {k : Nat}
theorem fk_nil {H : Hp} : FkOk K H [] (fun _ => none) := fun _ _ h => by cases h
theorem cal_two (T : Tx K mg w) (k : Nat) : Cal P w K mg base "_law_two" (k + 5) (spTwo K) :=
  cal_S d__law_two T.g__law_two T.f__law_two sc__law_two (fun _ _ _ _ _ _ us hl => match us, hl with | [_], _ => rfl) (len := fun vs H Q E ⟨_, _, _, e, _⟩ => by rw [e]; rfl) fun cdv A outer st H E vs Q hr hsp => by
  obtain ⟨p, c, n, ev, pen, hn, qq⟩ := hsp
  subst ev
  refine ⟨[.obj p], ⟨rfl, trivial⟩, ?_⟩
  refine sx_setX 1 sc__law_two.nd (gx_call (cal_kinds T k) (hr.mono (by omega)) (ga_oe (oe_name 0 rfl) (ga_de (de_int (i := 2)) fun v1 H1 x1 t1 => ga_nil ?_)))
  obtain rfl := t1.int_inv
  refine ⟨p, c, n, 2, rfl, by omega, by omega, pen.mono x1, by omega, fun ks0 l0 H2 hl0 c2 pen2 hk0 kl0 knd0 km0 => ?_⟩
  have c02 : Ch p H H2 := x1.ch.trans c2
  obtain ⟨n0, n1, rfl⟩ : ∃ n0 n1, ks0 = [n0, n1] := by
    match ks0, kl0 with
    | [a, b], _ => exact ⟨a, b, rfl⟩
    | [], h => exact absurd h (by simp)
    | [_], h => exact absurd h (by simp)
    | _ :: _ :: _ :: _, h => exact absurd h (by simp only [List.length_cons]; omega)
  have hl0p : l0 ≠ p := by
    obtain ⟨⟨o, ho⟩, _⟩ := (pen.mono x1).ex
    exact (ne_new ho hl0).symm
  refine ⟨.obj l0, rfl, c02.2, ?_⟩
  -- the books
  refine sx_setX 2 sc__law_two.nd (gx_call (cal_books T k) (hr.mono (by omega)) (ga_oe (oe_name 0 rfl) (ga_cons (gx_pick (is := [1, 2, 3, 3]) (k := k) T (hr.mono (by omega)) (le_lst (ae_cons de_int (ae_cons de_int (ae_cons de_int (ae_cons de_int ae_nil))))) (oe_name 0 rfl) (de_int (i := 4)) rfl (by decide) (by decide) pen2 (by omega) fun many hmany H3 c3 pen3 => ⟨c3.2,
    ga_cons (gx_pick (is := [2, 3, 4]) (k := k) T (hr.mono (by omega)) (le_lst (ae_cons de_int (ae_cons de_int (ae_cons de_int ae_nil)))) (oe_name 0 rfl) (de_int (i := 3)) rfl (by decide) (by decide) pen3 (by omega) fun mm hmm H4 c4 pen4 => ⟨c4.2, ga_nil ?_⟩)⟩))))
  have b1 : 0 ≤ many ∧ many ≤ 3 := by
    simp only [List.mem_cons, List.not_mem_nil, or_false] at hmany
    omega
  have b2 : 1 ≤ mm ∧ mm ≤ 4 := by
    simp only [List.mem_cons, List.not_mem_nil, or_false] at hmm
    omega
  refine ⟨p, c, _, many, mm, rfl, b1.1, b1.2, b2.1, b2.2, pen4, by omega, fun B0 B1 vb H5 c5 pen5 tb ok0 ok1 => ?_⟩
  have c25 : Ch p H2 H5 := (c3.trans c4).trans c5
  refine ⟨.dat (.tuple [eBook B0, eBook B1]), ⟨vb, rfl, tb⟩, c25.2, ?_⟩
  -- how many tries
  refine sx_setX 3 sc__law_two.nd (gx_op op_add (gx_de (de_int (i := 2)) fun v6 H6 x6 t6 => ⟨x6.xt, gx_pick (is := [0, 1, 1, 7]) (k := k) T (hr.mono (by omega)) (le_lst (ae_cons de_int (ae_cons de_int (ae_cons de_int (ae_cons de_int ae_nil))))) (oe_name 0 rfl) (de_int (i := 4)) rfl (by decide) (by decide) (pen5.mono x6) (by omega) fun up hup H7 c7 pen7 => ?_⟩))
  obtain rfl := t6.int_inv
  have b3 : 0 ≤ up ∧ up ≤ 7 := by
    simp only [List.mem_cons, List.not_mem_nil, or_false] at hup
    omega
  obtain ⟨TR, hTR, tr2, tr9⟩ : ∃ TR : Nat, 2 + up = TR ∧ 2 ≤ TR ∧ TR ≤ 9 := ⟨(2 + up).toNat, by omega, by omega, by omega⟩
  refine ⟨2, up, rfl, rfl, .dat (.int TR), ⟨_, rfl, by rw [← hTR]; exact .int _⟩, x6.xt.trans c7.2, ?_⟩
  have c27 : Ch p H2 H7 := c25.trans (x6.ch.trans c7)
  have hk7 := c27.lst hl0p hk0
  have tb7 := tb.mono (x6.xt.trans c7.2)
  have pen7 : PenAt K H7 p c (n + 12 + 1 + 1 + 1000 + 1) := pen7
  -- the pair
  refine sx_setX 4 sc__law_two.nd (fun σ s => re_of (pe_disp (pps_cons pe_str pe_re (pps_cons pe_str pe_re (pps_cons pe_str pe_re (pps_cons pe_str pe_re (pps_cons pe_str pe_re pps_nil))))) rfl rfl (fun z => nomatch z) (by decide)) (fun q0 hq0 => ?_))
  have xq : Ex H7 (upd H7 q0 (.dK [])) := Ex.new hq0
  have s1 := s.mono xq.xt
  refine (oe_name 1 rfl : OE _ _ _ H7 l0) σ _ s1 xq _ ?_
  refine (le_lst ae_nil : LE _ _ _ H7 []) σ _ s1 xq _ fun al xs8 H8 hal x8 h8 t8 => ?_
  refine (le_lst ae_nil : LE _ _ _ H7 []) σ _ (s1.mono x8.xt) (xq.trans x8) _ fun fl xs9 H9 hfl x9 h9 t9 => ?_
  refine (le_lst ae_nil : LE _ _ _ H7 []) σ _ (s1.mono (x8.trans x9).xt) (xq.trans (x8.trans x9)) _ fun tl xs10 H10 htl x10 h10 t10 => ?_
  refine (de_name 2 rfl : DE _ _ _ H7 (.tuple [eBook B0, eBook B1])) σ _ (s1.mono ((x8.trans x9).trans x10).xt) (xq.trans ((x8.trans x9).trans x10)) _ fun vb2 H11 x11 t11 => ?_
  cases t8
  cases t9
  cases t10
  have xq11 : Ex (upd H7 q0 (.dK [])) H11 := ((x8.trans x9).trans x10).trans x11
  have hq11 : H11 q0 = some (.dK []) := xq11 _ _ upd_same
  refine ⟨hq11, [(.inr "names", .ref l0), (.inr "air", .ref al), (.inr "fresh", .ref fl), (.inr "altered", .ref tl), (.inr "books", vb2)], rfl, by simp, ?_⟩
  have x711 : Ex H7 H11 := xq.trans xq11
  have xu : Xt H11 (upd H11 q0 (.dK (mergeK [] [(.inr "names", .ref l0), (.inr "air", .ref al), (.inr "fresh", .ref fl), (.inr "altered", .ref tl), (.inr "books", vb2)]))) := Xt.upd hq11 (by intro _ z; cases z) (by intro _ _ z; cases z)
  have x712 : Ex H7 (upd H11 q0 (.dK (mergeK [] [(.inr "names", .ref l0), (.inr "air", .ref al), (.inr "fresh", .ref fl), (.inr "altered", .ref tl), (.inr "books", vb2)]))) := x711.upd_new hq0
  have hq12 : upd H11 q0 (.dK (mergeK [] [(.inr "names", .ref l0), (.inr "air", .ref al), (.inr "fresh", .ref fl), (.inr "altered", .ref tl), (.inr "books", vb2)])) q0 = some (.dK (mergeK [] [(.inr "names", .ref l0), (.inr "air", .ref al), (.inr "fresh", .ref fl), (.inr "altered", .ref tl), (.inr "books", vb2)])) := upd_same
  have hal11 : H11 al = some (.lst []) := x11 _ _ (x10 _ _ (x9 _ _ h8))
  have hfl11 : H11 fl = some (.lst []) := x11 _ _ (x10 _ _ h9)
  have htl11 : H11 tl = some (.lst []) := x11 _ _ h10
  have hal12 := upd_other (o := .dK (mergeK [] [(.inr "names", .ref l0), (.inr "air", .ref al), (.inr "fresh", .ref fl), (.inr "altered", .ref tl), (.inr "books", vb2)])) (dict_lst hq11 hal11) hal11
  have hfl12 := upd_other (o := .dK (mergeK [] [(.inr "names", .ref l0), (.inr "air", .ref al), (.inr "fresh", .ref fl), (.inr "altered", .ref tl), (.inr "books", vb2)])) (dict_lst hq11 hfl11) hfl11
  have htl12 := upd_other (o := .dK (mergeK [] [(.inr "names", .ref l0), (.inr "air", .ref al), (.inr "fresh", .ref fl), (.inr "altered", .ref tl), (.inr "books", vb2)])) (dict_lst hq11 htl11) htl11
  have fk : FkOk K H11 (mergeK [] [(.inr "names", .ref l0), (.inr "air", .ref al), (.inr "fresh", .ref fl), (.inr "altered", .ref tl), (.inr "books", vb2)]) (fput (fput (fput (fput (fput (fun _ => none) "names" (.obj l0)) "air" (.obj al)) "fresh" (.obj fl)) "altered" (.obj tl)) "books" (.dat (.tuple [eBook B0, eBook B1]))) :=
    ((((fk_nil.put (v := .ref l0) (kd := .obj l0) rfl).put (v := .ref al) (kd := .obj al) rfl).put (v := .ref fl) (kd := .obj fl) rfl).put (v := .ref tl) (kd := .obj tl) rfl).put (v := vb2) (kd := .dat (.tuple [eBook B0, eBook B1])) ⟨vb2, rfl, t11⟩
  have ml : (mergeK [] [(.inr "names", V.ref l0), (.inr "air", .ref al), (.inr "fresh", .ref fl), (.inr "altered", .ref tl), (.inr "books", vb2)]).length ≤ 5 := length_mergeK _ []
  have fk12 := fk.mono xu
  generalize hf0 : fput (fput (fput (fput (fput (fun _ => none) "names" (.obj l0)) "air" (.obj al)) "fresh" (.obj fl)) "altered" (.obj tl)) "books" (.dat (.tuple [eBook B0, eBook B1])) = f0 at fk12
  generalize mergeK [] [(.inr "names", V.ref l0), (.inr "air", .ref al), (.inr "fresh", .ref fl), (.inr "altered", .ref tl), (.inr "books", vb2)] = kvs0 at xu x712 hq12 hal12 hfl12 htl12 ml fk12
  generalize upd H11 q0 (.dK kvs0) = H12 at xu x712 hq12 hal12 hfl12 htl12 fk12
  have pq : p ≠ q0 := by
    obtain ⟨⟨o, ho⟩, _⟩ := pen7.ex
    exact ne_new ho hq0
  have hal7 : H7 al = none := xq.free hal
  have hfl8 : H8 fl = none := hfl
  have alc : c ≠ al := by
    obtain ⟨_, ⟨o, ho⟩⟩ := pen7.ex
    exact ne_new ho hal7
  have al0 : l0 ≠ al := ne_new hk7 hal7
  have alf : fl ≠ al := (ne_new h8 hfl).symm
  have alt : tl ≠ al := (ne_new (x9 _ _ h8) htl).symm
  -- what is static
  obtain ⟨C, rfl, rfl, rfl, rfl, rfl⟩ : ∃ C : Cfg, C.nm false = n0 ∧ C.nm true = n1 ∧ C.bk false = B0 ∧ C.bk true = B1 ∧ C.TR = TR := ⟨⟨fun s => if s then n1 else n0, fun s => if s then B1 else B0, TR⟩, rfl, rfl, rfl, rfl, rfl⟩
  have hC : C.Ok := ⟨by
    intro z
    rw [z, List.nodup_cons] at knd0
    exact knd0.1 (by simp), fun s => by
    cases s
    · exact km0 _ (by simp)
    · exact km0 _ (by simp), fun s => by
    cases s
    · exact ok0
    · exact ok1, tr9⟩
  have hf0o : ∀ s, f0 (C.nm s) = none := fun s => by
    obtain ⟨k1, k2, k3, k4, k5, k6, _⟩ := nm_key hC s
    rw [← hf0, fput_ne k5, fput_ne k4, fput_ne k3, fput_ne k2, fput_ne k1]
  have g1 : f0 "names" = some (.obj l0) := by rw [← hf0, fput_ne (by decide +kernel), fput_ne (by decide +kernel), fput_ne (by decide +kernel), fput_ne (by decide +kernel)]; exact fput_same _ _ _
  have g2 : f0 "air" = some (.obj al) := by rw [← hf0, fput_ne (by decide +kernel), fput_ne (by decide +kernel), fput_ne (by decide +kernel)]; exact fput_same _ _ _
  have g3 : f0 "fresh" = some (.obj fl) := by rw [← hf0, fput_ne (by decide +kernel), fput_ne (by decide +kernel)]; exact fput_same _ _ _
  have g4 : f0 "altered" = some (.obj tl) := by rw [← hf0, fput_ne (by decide +kernel)]; exact fput_same _ _ _
  have g5 : f0 "books" = some (.dat (.tuple [eBook (C.bk false), eBook (C.bk true)])) := by rw [← hf0]; exact fput_same _ _ _
  have g6 : f0 "many" = none := by rw [← hf0, fput_ne (by decide +kernel), fput_ne (by decide +kernel), fput_ne (by decide +kernel), fput_ne (by decide +kernel), fput_ne (by decide +kernel)]
  refine ⟨.obj q0, rfl, x712.xt, ?_⟩
  -- how many
  refine sx_fput hr (gx_de (de_name 3 rfl) fun v13 H13 x13 t13 => ⟨x13.xt, q0, "many", 5, f0, .dat (.int C.TR), oe_name 4 rfl, de_str, ⟨kvs0, x13 _ _ hq12, ml, fk12.mono x13.xt⟩, by decide, ⟨v13, rfl, t13⟩, fun H14 c14 hD14 => ?_⟩)
  rw [g6, Option.isSome_none, if_neg Bool.false_ne_true] at hD14
  have hq13 := x13 _ _ hq12
  have x713 := x712.trans x13
  have pen13 := pen7.mono x713
  obtain ⟨cells, _, _, _, _, _, _, _, hcell, _⟩ := id pen13
  have pen14 := pen13.chq c14 pq (dict_lst hq13 hcell)
  have hn14 := c14.lst (dict_lst hq13 (x713 _ _ hk7)) (x713 _ _ hk7)
  have ha14 := c14.lst (dict_lst hq13 (x13 _ _ hal12)) (x13 _ _ hal12)
  have hf14 := c14.lst (dict_lst hq13 (x13 _ _ hfl12)) (x13 _ _ hfl12)
  have ht14 := c14.lst (dict_lst hq13 (x13 _ _ htl12)) (x13 _ _ htl12)
  have x014 : Xt H H14 := (c02.trans c27).2.trans (x713.xt.trans c14.2)
  have tb14 := (tb7.mono x713.xt).mono c14.2
  have nk := fun s => nm_key hC s
  have n7 : ∀ s, fput f0 "many" (.dat (.int C.TR)) (C.nm s) = none := fun s => by rw [fput_ne (nk s).2.2.2.2.2.1]; exact hf0o s
  generalize hf1 : fput f0 "many" (.dat (.int C.TR)) = f1 at hD14 n7
  have m1 : f1 "names" = some (.obj l0) := by rw [← hf1, fput_ne (by decide +kernel)]; exact g1
  have m2 : f1 "air" = some (.obj al) := by rw [← hf1, fput_ne (by decide +kernel)]; exact g2
  have m3 : f1 "fresh" = some (.obj fl) := by rw [← hf1, fput_ne (by decide +kernel)]; exact g3
  have m4 : f1 "altered" = some (.obj tl) := by rw [← hf1, fput_ne (by decide +kernel)]; exact g4
  have m5 : f1 "books" = some (.dat (.tuple [eBook (C.bk false), eBook (C.bk true)])) := by rw [← hf1, fput_ne (by decide +kernel)]; exact g5
  have m6 : f1 "many" = some (.dat (.int C.TR)) := by rw [← hf1]; exact fput_same _ _ _
  -- the ends
  refine sx_forX (Post := fun ds H2 => ds = prs2 [.str (C.nm false), .str (C.nm true)] [eBook (C.bk false), eBook (C.bk true)] ∧ Ex H14 H2) (G := fun H1 H' => Xt H1 H' ∧ SqL K H' l0 [.str (C.nm false), .str (C.nm true)])
    (fun ds H2 i ρ' H' => ∃ (k5 k6 : Kd) (f : Fk), ρ' = [.obj p, .obj l0, .dat (.tuple [eBook (C.bk false), eBook (C.bk true)]), .dat (.int C.TR), .obj q0, k5, k6] ∧ DicF K H' q0 (6 + i) f ∧ i ≤ 2 ∧
      (f "names" = some (.obj l0) ∧ f "air" = some (.obj al) ∧ f "fresh" = some (.obj fl) ∧ f "altered" = some (.obj tl) ∧ f "books" = some (.dat (.tuple [eBook (C.bk false), eBook (C.bk true)])) ∧ f "many" = some (.dat (.int C.TR))) ∧
      (0 < i → f (C.nm false) = some (.dat (eEnd (newEnd (C.nm false) (C.bk false).ws)))) ∧ (1 < i → f (C.nm true) = some (.dat (eEnd (newEnd (C.nm true) (C.bk true).ws)))) ∧ (i = 0 → f (C.nm false) = none) ∧ (i ≤ 1 → f (C.nm true) = none) ∧
      PenAt K H' p c (n + 12 + 1 + 1 + 1000 + 1) ∧ H' l0 = some (.lst [.str (C.nm false), .str (C.nm true)]) ∧ H' al = some (.lst []) ∧ H' fl = some (.lst []) ∧ H' tl = some (.lst []) ∧ Xt H2 H')
    rfl PassesOwn.never (igx_ig (ig_zm T.n_zip (oe_name 1 rfl) hn14 (nm_tps hC) (de_name 2 rfl) rfl)) ?_ ?_ ?_ ?_
  · rintro ds H15 ⟨rfl, x15⟩
    exact ⟨x15.xt, _, _, f1, rfl, hD14.mono x15, by omega, ⟨m1, m2, m3, m4, m5, m6⟩, fun h => absurd h (by omega), fun h => absurd h (by omega), fun _ => n7 false, fun _ => n7 true, pen14.mono x15, x15 _ _ hn14, x15 _ _ ha14, x15 _ _ hf14, x15 _ _ ht14, Xt.refl _⟩
  · rintro ds H15 i ρ' H' ⟨rfl, x15⟩ hi ⟨k5, k6, f, rfl, hD, hi2, mm, e0, e1, o0, o1, pn, r1, r2, r3, r4, xt⟩
    exact ⟨xt, SqL.of r1⟩
  · rintro ds H15 i d ρ' H' ⟨rfl, x15⟩ hd ⟨k5, k6, f, rfl, hD, hi2, ⟨a1, a2, a3, a4, a5, a6⟩, e0, e1, o0, o1, pn, r1, r2, r3, r4, xt⟩
    obtain ⟨s, hs, rfl⟩ : ∃ s, i = (bI s).toNat ∧ d = .tuple [.str (C.nm s), eBook (C.bk s)] := by
      match i, hd with
      | 0, h => exact ⟨false, rfl, (Option.some.inj h).symm⟩
      | 1, h => exact ⟨true, rfl, (Option.some.inj h).symm⟩
      | _ + 2, h => cases h
    have fo : f (C.nm s) = none := by cases s; exact o0 hs; exact o1 (by rw [hs]; decide)
    have hi1 : i ≤ 1 := by rw [hs]; cases s <;> decide
    refine ⟨_, _, tg_tup (ds := [.str (C.nm s), eBook (C.bk s)]) rfl (tgs_cons (tg_name 5 sc__law_two.nd) (tgs_cons (tg_name 6 sc__law_two.nd) tgs_nil)), fun H16 x16 => ?_⟩
    refine sx_fput hr (gx_de (de_fn (cal_new_end T (k + 2)) (hr.mono (by omega)) (C.nm s, (C.bk s).ws) (ae_cons (de_name 5 rfl) (ae_cons (de_at (ds := [eWishes (C.bk s).ws, ePlan (C.bk s).b]) 0 (de_name 6 rfl)) ae_nil)) trivial) fun v17 H17 x17 t17 => ⟨x17.xt, q0, C.nm s, 6 + i, f, .dat (eEnd (newEnd (C.nm s) (C.bk s).ws)), oe_name 4 rfl, de_name 5 rfl, (hD.mono x16).mono x17, by omega, ⟨v17, rfl, t17⟩, fun H18 c18 hD18 => ?_⟩)
    rw [fo, Option.isSome_none, if_neg Bool.false_ne_true] at hD18
    have x1 := x16.trans x17
    have hD17 := hD.mono x1
    have pn17 := pn.mono x1
    obtain ⟨cells, _, _, _, _, _, _, _, hcell, _⟩ := id pn17
    obtain ⟨z1, z2, z3, z4, z5, z6, _⟩ := nk s
    refine sx_nil fun σ s' => ⟨_, s', _, _, fput f (C.nm s) (.dat (eEnd (newEnd (C.nm s) (C.bk s).ws))), rfl, hD18, by omega, ⟨by rw [fput_ne (Ne.symm z1)]; exact a1, by rw [fput_ne (Ne.symm z2)]; exact a2, by rw [fput_ne (Ne.symm z3)]; exact a3, by rw [fput_ne (Ne.symm z4)]; exact a4, by rw [fput_ne (Ne.symm z5)]; exact a5, by rw [fput_ne (Ne.symm z6)]; exact a6⟩, fun _ => ?_, fun h => ?_, fun h => absurd h (by omega), fun h => ?_,
      pn17.chq c18 pq (hD17.ne_lst hcell), c18.lst (hD17.ne_lst (x1 _ _ r1)) (x1 _ _ r1), c18.lst (hD17.ne_lst (x1 _ _ r2)) (x1 _ _ r2), c18.lst (hD17.ne_lst (x1 _ _ r3)) (x1 _ _ r3), c18.lst (hD17.ne_lst (x1 _ _ r4)) (x1 _ _ r4), (xt.trans x1.xt).trans c18.2⟩
    · cases s
      · exact fput_same _ _ _
      · rw [fput_ne hC.ne]
        exact e0 (by rw [hs]; decide)
    · cases s
      · rw [hs] at h
        exact absurd h (by decide)
      · exact fput_same _ _ _
    · cases s
      · rw [fput_ne hC.ne.symm]
        exact o1 (by rw [hs]; decide)
      · rw [hs] at h
        exact absurd h (by decide)
  · rintro ds H15 ρ' H' ⟨rfl, x15⟩ ⟨k5, k6, f, rfl, hD, hi2, ⟨a1, a2, a3, a4, a5, a6⟩, e0, e1, o0, o1, pn, r1, r2, r3, r4, xt⟩
    refine sx_retO (oe_name 4 rfl) (qq q0 C H' hC tr2 (x014.trans (x15.xt.trans xt)) ⟨f, l0, al, fl, tl, [], [], [], { pen := pn.le (by omega), dic := hD, pf := ⟨a1, a2, a3, a4, a5, a6, fun s => by cases s; exact e0 (by simp [prs2]); exact e1 (by simp [prs2])⟩, hn := r1, ha := r2, ta := .nil, hf := r3, yl := Nat.le_refl _, ht := r4, zl := Nat.le_refl _, pq := pq, cal := alc, nal := al0, fal := alf, tal := alt }⟩)
end
end CW
/-! part CwP7 -/
set_option maxRecDepth 100000
set_option maxHeartbeats 1000000
/-! The law's own defs: the settling. -/
namespace CW
open PySem PySem.Spec PyProof.Rows L2
/-- what is asked of the settling, in plain words: a measure that falls -/
structure SettleJ (C : Cfg) (J : Nat → Sys → Prop) : Prop where
  wok : ∀ {m S}, J m S → ∀ s, WOk (C.bk s).ks (S.e s).wishes
  hear : ∀ {m S}, J m S → ∀ x ∈ S.air, HearPre (S.e x.1) x.2 (C.bk x.1).b C.TR
  come : ∀ {m S t l rest}, J m S → ¬ Settled S → S.air = (t, l) :: rest → ∃ m', m' < m ∧ J m' (cameS C S 0 t l) ∧ RightPre C (cameS C S 0 t l)
  tick : ∀ {m S}, J m S → ¬ Settled S → S.air = [] → ∃ m', m' < m ∧ J m' (ticks S) ∧ RightPre C (ticks S)
def worthsOf (C : Cfg) (S : Sys) : Nat := mW (S.e false).wishes + mW (S.e true).wishes
def spSettled (K : PySem.W.Frag) : Sp := fun vs H Q _ => ∃ (p c q : Addr) (n F : Nat) (C : Cfg) (S : Sys) (J : Nat → Sys → Prop) (m0 : Nat), vs = [.ref q] ∧ C.Ok ∧ GameAt K H p c n q C S F ∧ SettleJ C J ∧ J m0 S ∧ m0 < 100 * (1 + worthsOf C S) ∧ S.air.length ≤ 900 ∧ F ≤ 900 ∧
  ∀ H', Xt H H' → PenAt K H' p c n → Q (.bl true) H'
theorem settled_iff (S : Sys) : ((decide ((S.e false).stand = .closed) && decide ((S.e true).stand = .closed)) || ((S.air.map eAir).isEmpty && standsOpen (S.e false) (S.e true))) = true ↔ Settled S := by
  unfold Settled closedAt
  rw [Bool.or_eq_true, Bool.and_eq_true, Bool.and_eq_true, decide_eq_true_eq, decide_eq_true_eq]
  constructor
  · rintro (⟨h1, h2⟩ | ⟨h1, h2⟩)
    · exact .inl fun s => by cases s; exact h1; exact h2
    · refine .inr ⟨?_, h2⟩
      cases e : S.air with
      | nil => rfl
      | cons a r => rw [e] at h1; cases h1
  · rintro (h | ⟨h1, h2⟩)
    · exact .inl ⟨h false, h true⟩
    · exact .inr ⟨by rw [h1]; rfl, h2⟩
theorem sum_cast : ∀ ws : List Nat, (ws.map fun n : Nat => (n : Int)).sum = ((ws.sum : Nat) : Int)
  | [] => rfl
  | a :: as => by
    rw [List.map_cons, List.sum_cons, List.sum_cons, sum_cast as]
    omega
theorem tick_len (e : End) : (ticked e).2.length ≤ 1 := by unfold ticked; split <;> (try split) <;> simp
theorem be_chain {X : Cx} {a b c : Expr} {ρ : List Kd} {H : Hp} {d d1 d2 : PyData} {pos : Pos} {op op' : CmpOp} {k k' : Bool} (o : OpD X (compareOp op) d d1 (.bool k)) (o' : k = true → OpD X (compareOp op') d1 d2 (.bool k')) (hn : ∃ r, OpR X (compareOp op') r) (h1 : DE X a ρ H d) (h2 : DE X b ρ H d1) (h3 : DE X c ρ H d2)
    (hm : lastMarks [op, op'] [b, c] = false := by with_unfolding_all rfl) : BE X (.Compare a [op, op'] [b, c] pos) ρ H (k && k') := fun σ H1 s x Q q => by
  obtain ⟨r, hr, h⟩ := o
  cases k with
  | false =>
    obtain ⟨r', hr'⟩ := hn
    refine rt_of (pt_chain hr hr' pe_re pe_re pe_re hm) ?_
    exact h1 σ H1 s x _ fun v H2 x2 t1 => h2 σ H2 (s.mono x2.xt) (x.trans x2) _ fun w H3 x3 t2 => h H3 v w (t1.mono x3.xt) t2 _ fun z H4 x4 t => ⟨false, t.bool_inv, false, rfl, q H4 ((x2.trans x3).trans x4)⟩
  | true =>
    obtain ⟨r', hr', h'⟩ := o' rfl
    refine rt_of (pt_chain hr hr' pe_re pe_re pe_re hm) ?_
    exact h1 σ H1 s x _ fun v H2 x2 t1 => h2 σ H2 (s.mono x2.xt) (x.trans x2) _ fun w H3 x3 t2 => h H3 v w (t1.mono x3.xt) t2 _ fun z H4 x4 t => ⟨true, t.bool_inv,
      h3 σ H4 (s.mono ((x2.trans x3).trans x4).xt) (((x.trans x2).trans x3).trans x4) _ fun u H5 x5 t3 => h' H5 w u (t2.mono (x4.trans x5).xt) t3 _ fun y H6 x6 t4 => ⟨k', t4.bool_inv, q H6 (((x2.trans x3).trans x4).trans (x5.trans x6))⟩⟩
def tickN (S : Sys) : Nat → Sys
  | 0 => S
  | 1 => tick1 S false
  | _ => tick1 (tick1 S false) true
theorem mW_le {ws : List Wish} (h : ∀ x ∈ ws, x.worths.length ≤ 4) : mW ws ≤ 4 * ws.length := by
  induction ws with
  | nil => exact Nat.zero_le _
  | cons x xs ih =>
    have h1 := h x (by simp)
    have h2 := ih fun y hy => h y (by simp [hy])
    simp only [mW, List.map_cons, List.sum_cons, List.length_cons] at *
    omega
section
variable {P : Program} {w : World} {K : PySem.W.Frag} {mg : Str → Option Value} {base : Heap} {k : Nat}
theorem cal_settled (T : Tx K mg w) (k : Nat) : Cal P w K mg base "_law_settled" (k + 10) (spSettled K) :=
  cal_S d__law_settled T.g__law_settled T.f__law_settled sc__law_settled (fun _ _ _ _ _ _ us hl => match us, hl with | [_], _ => rfl) (len := fun vs H Q E ⟨_, _, _, _, _, _, _, _, _, e, _⟩ => by rw [e]; rfl) fun cdv A outer st H E vs Q hr hsp => by
  obtain ⟨p, c, q, n, F, C, S, J, m0, ev, ok, ⟨f, nl, al, fl, tl, xs, ys, zs, G⟩, SJ, j0, hm0, la, lf, qq⟩ := hsp
  subst ev
  refine ⟨[.obj q], ⟨rfl, trivial⟩, ?_⟩
  have kok := fun s => (nm_key ok s).2.2.2.2.2.2
  have wlen : ∀ s, (S.e s).wishes.length ≤ 3 := fun s => by have := wok_len (SJ.wok j0 s); have := (ok.bk s).klen; omega
  have w4 : ∀ s, ∀ x ∈ (S.e s).wishes, x.worths.length ≤ 4 := fun s x hx => ((SJ.wok j0 s).each x hx).len
  have wmax : worthsOf C S ≤ 24 := by
    have h0 := mW_le (w4 false)
    have h1 := mW_le (w4 true)
    have := wlen false
    have := wlen true
    unfold worthsOf
    omega
  -- the worths
  refine sx_set (d := .int (worthsOf C S)) 1 sc__law_settled.nd (DE.to (de_sum (ns := [false, true].map fun s => ((mW (S.e s).wishes : Nat) : Int)) rfl rfl T.n_sum (LE.to (le_lc (xs := [false, true]) (enc := fun s => .str (C.nm s)) (own := [("_law_name", 6)]) (f := fun s => .int ((mW (S.e s).wishes : Nat) : Int)) (c := fun _ => true) rfl sc__law_settled.nd (ie_obj (oe_getF hr (oe_name 0 rfl) G.dic G.pf.names) (SqL.of G.hn) (nm_tps ok)) (blk_ok (by kernel_rfl))
    (fun s hs => tu [6] _ fun s0 H0 C0 cl fp => ⟨tg_name 6 sc__law_settled.nd, rfl, fun _ => DE.to (de_sum (ns := (S.e s).wishes.map fun x => ((x.worths.length : Nat) : Int)) rfl rfl (by exact T.n_sum) (LE.to (le_lc (xs := (S.e s).wishes) (enc := eWish) (own := [("_law_wish", 7)]) (f := fun x => .int ((x.worths.length : Nat) : Int)) (c := fun _ => true) rfl sc__law_settled.nd
      (ie_tup (end_at (e := S.e s) 1 (de_getF (by exact hr) (oe_name 0 rfl) (de_name 6 rfl) G.dic (G.pf.ends s)))) (blk_ok (by kernel_rfl))
      (fun x hx => tu [7] _ fun s1 H1 C1 cl1 fp1 => ⟨tg_name 7 sc__law_settled.nd, rfl, fun _ => DE.to (de_len (ds := x.worths.map .int) rfl (by exact T.n_len) (de_at (ds := [.str x.kind, eInts x.worths, .bool x.must, eNeed x.needs]) 1 (de_name 7 rfl))) (by rw [List.length_map])⟩) (small1000 (by have := wlen s; omega))) (by rw [List.filter_eq_self.mpr fun _ _ => rfl, List.map_map]; rfl))) (by
        unfold mW
        rw [← sum_cast, List.map_map]
        rfl)⟩) (small1000 (by decide))) (by rw [List.filter_eq_self.mpr fun _ _ => rfl, List.map_map]; rfl))) (by
    unfold worthsOf
    simp only [List.map_cons, List.map_nil, List.sum_cons, List.sum_nil]
    congr 1)) fun H1 x1 => ?_
  have G1 := G.mono x1
  -- the turns
  refine sx_forX (Post := fun ds H2 => ds.length = 100 * (1 + worthsOf C S) ∧ Ex H1 H2) (G := fun _ _ => True)
    (fun ds H2 i ρ' H' => ∃ (S' : Sys) (m : Nat) (k2 k3 k4 k5 : Kd), ρ' = [.obj q, .dat (.int (worthsOf C S)), k2, k3, k4, k5, .no, .no] ∧ GameAt K H' p c n q C S' (F + 4 * i) ∧ J m S' ∧ m + i ≤ m0 ∧ S'.air.length ≤ 900 + 2 * i ∧ i ≤ 2500 ∧ Xt H1 H')
    rfl PassesOwn.never (igx_range T.n_range (gx_de (d := .int ((100 * (1 + worthsOf C S) : Nat) : Int)) (DE.to (de_bin (opd_mul (mul_small (by omega) (by omega))) de_int (de_bin opd_add de_int (de_name 1 rfl))) (by congr 1)) fun v H2 x2 t => ⟨_, t.int_inv, by omega, by omega, by simp [rangeD]; omega, x2⟩)) ?_ ?_ ?_ ?_
  · rintro ds H2 ⟨hl, x2⟩
    exact ⟨x2.xt, S, m0, _, _, _, _, rfl, ⟨f, nl, al, fl, tl, xs, ys, zs, G1.mono x2⟩, j0, by omega, by omega, by omega, x2.xt⟩
  · exact fun _ _ _ _ _ _ _ _ => trivial
  rotate_left
  · rintro ds H2 ρ' H' ⟨hl, x2⟩ ⟨S', m, k2, k3, k4, k5, rfl, GA, jm, hm, hal, hi, xt⟩
    rw [hl] at hm
    exact absurd hm (by omega)
  rintro ds H2 i d ρ' H' ⟨hl, x2⟩ hd ⟨S', m, k2, k3, k4, k5, rfl, ⟨f', nl', al', fl', tl', xs', ys', zs', G'⟩, jm, hm, hal, hi, xt⟩
  have hlt : i < ds.length := (List.getElem?_eq_some_iff.mp hd).1
  refine ⟨_, _, tg_name 2 sc__law_settled.nd, fun H3 x3 => ?_⟩
  have G3 := G'.mono x3
  refine sx_unpackL (ds := [eEnd (S'.e false), eEnd (S'.e true)]) rfl (LE.to (le_lc (xs := [false, true]) (enc := fun s => .str (C.nm s)) (own := [("_law_name", 6)]) (f := fun s => eEnd (S'.e s)) (c := fun _ => true) rfl sc__law_settled.nd (ie_obj (oe_getF hr (oe_name 0 rfl) G3.dic G3.pf.names) (SqL.of G3.hn) (nm_tps ok)) (blk_ok (by kernel_rfl))
    (fun s hs => tu [6] _ fun s0 H0 C0 cl fp => ⟨tg_name 6 sc__law_settled.nd, rfl, fun _ => de_getF (by exact hr) (oe_name 0 rfl) (de_name 6 rfl) G3.dic (G3.pf.ends s)⟩) (small1000 (by decide))) rfl) (tgs_cons (tg_name 3 sc__law_settled.nd) (tgs_cons (tg_name 4 sc__law_settled.nd) tgs_nil)) fun H4 x4 => ?_
  have G4 := G3.mono x4
  have sv : ∀ a b : Stand, PyData.eqv (.str (sStand a)) (.str (sStand b)) = decide (a = b) := sStand_eq
  -- whether they settled
  refine sx_if (k := (decide ((S'.e false).stand = .closed) && decide ((S'.e true).stand = .closed)) || ((S'.air.map eAir).isEmpty && standsOpen (S'.e false) (S'.e true))) (BE.to (be_w (we_or ((be_chain (d := .str (sStand (S'.e false).stand)) (d1 := .str (sStand (S'.e true).stand)) (d2 := .str "closed") (opd_eq hr (depth_str _) (depth_str _)) (fun _ => opd_eq hr (depth_str _) (depth_str _)) ⟨_, op_eqD hr.units⟩ (end_at (e := S'.e false) 2 (de_name 3 rfl)) (end_at (e := S'.e true) 2 (de_name 4 rfl)) de_str)) fun _ =>
    we_or1 (be_w (we_and (be_eqNil hr (oe_getF hr (oe_name 0 rfl) G4.dic G4.pf.air) (SqL.of G4.ha) G4.ta (depths_air _) (le_lst ae_nil)) fun _ => we_and1 (be_val (de_fn (cal_stands_open_with T (k + 7)) (hr.mono (by omega)) (S'.e false, S'.e true) (ae_cons (de_name 3 rfl) (ae_cons (de_name 4 rfl) ae_nil)) trivial)))))) (by
      rw [sv, show PyData.eqv (.str (sStand (S'.e true).stand)) (.str "closed") = decide ((S'.e true).stand = .closed) from sv (S'.e true).stand .closed]
      congr 1
      cases h1 : (S'.e false).stand <;> cases h2 : (S'.e true).stand <;> simp)) (fun hk H5 x5 => sx_ret de_bl fun v H6 x6 t => by
    obtain rfl := t.bool_inv
    have GG := ((G4.mono x5).mono x6)
    exact qq H6 (((((x1.xt.trans xt).trans x3.xt).trans x4.xt).trans x5.xt).trans x6.xt) GG.pen) fun hk H5 x5 => sx_next ?_
  have ns : ¬ Settled S' := fun z => by rw [(settled_iff S').mpr z] at hk; cases hk
  have G5 := G4.mono x5
  have xt5 : Xt H1 H5 := ((xt.trans x3.xt).trans x4.xt).trans x5.xt
  -- behind the turn
  have key : ∀ (S2 : Sys) (m' : Nat) F2 H7 (k5 : Kd), GameAt K H7 p c n q C S2 F2 → F2 ≤ F + 4 * i + 4 → m' < m → J m' S2 → RightPre C S2 → S2.air.length ≤ 900 + 2 * i + 2 → Xt H1 H7 → SX (CC P w K mg base d__law_settled N__law_settled (He.fAd K ("_law_settled", none)) cdv A outer st H E) [(match d__law_settled.body with | [_, .For _ _ b _ _, _] => b.getD 3 (.Pass ⟨0, 0, 0, 0⟩) | _ => .Pass ⟨0, 0, 0, 0⟩)]
      [.obj q, .dat (.int (worthsOf C S)), .dat d, .dat (eEnd (S'.e false)), .dat (eEnd (S'.e true)), k5, .no, .no] H7 (loopD (CC P w K mg base d__law_settled N__law_settled (He.fAd K ("_law_settled", none)) cdv A outer st H E) (d__law_settled.body.drop 2) (DE0 Q) fun σ H4 => ∃ ρ4, Sl K H4 σ ρ4 ∧ ∃ (S' : Sys) (m : Nat) (k2 k3 k4 k5 : Kd), ρ4 = [.obj q, .dat (.int (worthsOf C S)), k2, k3, k4, k5, .no, .no] ∧ GameAt K H4 p c n q C S' (F + 4 * (i + 1)) ∧ J m S' ∧ m + (i + 1) ≤ m0 ∧ S'.air.length ≤ 900 + 2 * (i + 1) ∧ i + 1 ≤ 2500 ∧ Xt H1 H4) := by
    intro S2 m' F2 H7 k5 GA hF hm' jm' rp hl2 xt7
    refine sx_ifX (gt_not (gt_val (gx_call (cal_right T (k + 6)) (hr.mono (by omega)) (ga_oe (oe_name 0 rfl) (ga_nil ⟨p, c, q, n, F2, C, S2, rfl, ok, GA, rp, fun H8 x8 => ⟨true, rfl, x8.xt, ?_⟩⟩)))))
    rw [if_neg (by decide)]
    exact sx_next (sx_nil fun σ s => ⟨_, s, S2, m', _, _, _, _, rfl, (GA.mono x8).le (Nat.le_refl _) (by omega), jm', by omega, by omega, by omega, xt7.trans x8.xt⟩)
  refine sx_if (k := !(S'.air.map eAir).isEmpty) (be_neNil hr (oe_getF hr (oe_name 0 rfl) G5.dic G5.pf.air) (SqL.of G5.ha) G5.ta (depths_air _) (le_lst ae_nil)) (fun hk2 H6 x6 => ?_) fun hk2 H6 x6 => ?_
  · obtain ⟨t, l, rest, hair⟩ : ∃ t l rest, S'.air = (t, l) :: rest := by
      cases e : S'.air with
      | nil => rw [e] at hk2; cases hk2
      | cons a r => exact ⟨a.1, a.2, r, rfl⟩
    obtain ⟨m', hm', jm', rp⟩ := SJ.come jm ns hair
    have G6 := G5.mono x6
    refine sx_dropX (WX.mono (gx_call (Q := fun v H8 => Xt H6 H8 ∧ GameAt K H8 p c n q C (cameS C S' 0 t l) (F + 4 * i + 2)) (cal_comes T k) (hr.mono (by omega)) (ga_oe (oe_name 0 rfl) (ga_de (de_int (i := 0)) fun v7 H7 x7 t7 => ga_nil ?_))) fun v H8 h => ⟨h.1, sx_next (key _ m' _ H8 _ h.2 (by omega) hm' jm' rp ?_ ((xt5.trans x6.xt).trans h.1))⟩)
    · exact ⟨p, c, q, n, F + 4 * i, C, S', 0, t, l, by rw [t7.int_inv]; rfl, ok, ⟨f', nl', al', fl', tl', _, _, _, G6.mono x7⟩, by rw [hair]; rfl, SJ.hear jm (t, l) (by rw [hair]; exact List.mem_cons_self), by omega, by omega, fun H8 x8 GA => ⟨x7.xt.trans x8, GA⟩⟩
    · have hh := heard_len (sumRef (S'.e t) l) (S'.e t) l (C.bk t).b C.TR
      show (S'.air.eraseIdx 0 ++ sent t (heard (sumRef (S'.e t) l) (S'.e t) l (C.bk t).b C.TR).2).length ≤ _
      rw [List.length_append, hair]
      rw [hair] at hal
      simp only [List.eraseIdx_cons_zero, List.length_cons] at *
      unfold sent
      rw [List.length_map]
      omega
  · have hair : S'.air = [] := by
      cases e : S'.air with
      | nil => rfl
      | cons a r => rw [e] at hk2; cases hk2
    obtain ⟨m', hm', jm', rp⟩ := SJ.tick jm ns hair
    have G6 := G5.mono x6
    have xt6 := xt5.trans x6.xt
    refine sx_forX (Post := fun ds2 H7 => ds2 = [.int 0, .int 1] ∧ Ex H6 H7) (G := Xt)
      (fun ds2 H7 j ρ' H' => ∃ (k5 : Kd), ρ' = [.obj q, .dat (.int (worthsOf C S)), .dat d, .dat (eEnd (S'.e false)), .dat (eEnd (S'.e true)), k5, .no, .no] ∧ GameAt K H' p c n q C (tickN S' j) (F + 4 * i + j) ∧ j ≤ 2 ∧ Xt H6 H' ∧ Xt H7 H')
      rfl PassesOwn.never (igx_ig (ig_tup (de_tup (ae_cons de_int (ae_cons de_int ae_nil))))) ?_ ?_ ?_ ?_
    · rintro ds2 H7 ⟨rfl, x7⟩
      exact ⟨x7.xt, _, rfl, ⟨f', nl', al', fl', tl', _, _, _, G6.mono x7⟩, by omega, x7.xt, Xt.refl _⟩
    · rintro ds2 H7 j ρ' H' ⟨rfl, x7⟩ hj ⟨k5, rfl, GA, hj2, xx, xx2⟩
      exact xx2
    · rintro ds2 H7 j dd ρ' H' ⟨rfl, x7⟩ hdd ⟨k5, rfl, ⟨f2, nl2, al2, fl2, tl2, xs2, ys2, zs2, G2⟩, hj2, xx, xx2⟩
      obtain ⟨s, hs, rfl⟩ : ∃ s, j = (bI s).toNat ∧ dd = .int (bI s) := by
        match j, hdd with
        | 0, h => exact ⟨false, rfl, (Option.some.inj h).symm⟩
        | 1, h => exact ⟨true, rfl, (Option.some.inj h).symm⟩
        | _ + 2, h => cases h
      have hstep : tickN S' (j + 1) = ⟨setE (tickN S' j).e s (ticked ((tickN S' j).e s)).1, (tickN S' j).air ++ sent s (ticked ((tickN S' j).e s)).2⟩ := by cases s <;> (rw [hs]; rfl)
      have ewish : ((tickN S' j).e s).wishes.length ≤ 1000 := by
        have hw : (tickN S' j).e s = S'.e s := by
          cases s
          · rw [hs]; rfl
          · rw [hs]; exact setE_not (e := S'.e) (s := false) (x := (ticked (S'.e false)).1)
        rw [hw]
        have := wok_len (SJ.wok jm s)
        have := (ok.bk s).klen
        omega
      have al2' : (tickN S' j).air.length ≤ 2 := by
        have h0 := tick_len (S'.e false)
        cases s
        · rw [hs]; show S'.air.length ≤ 2; rw [hair]; simp
        · rw [hs]; show (S'.air ++ sent false (ticked (S'.e false)).2).length ≤ 2; rw [hair]; unfold sent; simp; omega
      have hj1 : j ≤ 1 := by rw [hs]; cases s <;> decide
      refine ⟨_, _, tg_name 5 sc__law_settled.nd, fun H8 x8 => ?_⟩
      have G8 := G2.mono x8
      have tl1 := tick_len ((tickN S' j).e s)
      refine sx_dropX (WX.mono (gx_call (Q := fun v H11 => Xt H8 H11 ∧ GameAt K H11 p c n q C (tickN S' (j + 1)) (F + 4 * i + j + 1)) (cal_done T (k + 8)) (hr.mono (by omega)) (ga_oe (oe_name 0 rfl) (ga_de (de_name 5 rfl) fun v1 H9 x9 t9 => ga_cons (gx_call (cal_ticked T (k + 5)) (hr.mono (by omega)) (ga_de (de_getF hr (oe_name 0 rfl) (de_nm hr ok (G8.mono x9) (oe_name 0 rfl) (de_name 5 rfl)) (G8.mono x9).dic (G8.pf.ends s)) fun v2 H10 x10 t10 => ga_nil ?_))))) fun v H11 h => ⟨h.1, sx_nil fun σ s' => ⟨_, s', _, rfl, h.2.le (Nat.le_refl _) (by omega), by omega, (xx.trans x8.xt).trans h.1, (xx2.trans x8.xt).trans h.1⟩⟩)
      refine ⟨(tickN S' j).e s, .cons t10 .nil, ewish, fun e' ls v H11 hpost x11 pv => ?_⟩
      obtain ⟨rfl, rfl⟩ := hpost
      obtain ⟨T9, ve, l9, ws9, rfl, sq9, te9, hl9, h9, t9'⟩ := pv
      have xx11 := (x9.trans x10).trans x11
      exact ⟨(x10.trans x11).xt, ga_nil ⟨p, c, q, T9, l9, n, F + 4 * i + j, C, tickN S' j, s, ve, _, _, ws9, by rw [t9.int_inv], ok, ⟨f2, nl2, al2, fl2, tl2, _, _, _, G8.mono xx11⟩, sq9, te9, h9, t9', by omega, by omega, by omega, fun H12 x12 GA => ⟨xx11.xt.trans x12, by rw [hstep]; exact GA.le (Nat.le_refl _) (by omega)⟩⟩⟩
    · rintro ds2 H7 ρ' H' ⟨rfl, x7⟩ ⟨k5, rfl, GA, hj2, xx, xx2⟩
      refine sx_next (key (ticks S') m' _ H' _ GA (by simp only [List.length_cons, List.length_nil]; omega) hm' jm' rp ?_ (xt6.trans xx))
      rw [ticks_air S' hair, List.length_append]
      unfold sent
      rw [List.length_map, List.length_map]
      have h0 := tick_len (S'.e false)
      have h1 := tick_len (S'.e true)
      omega
end
end CW
/-! part CwP8 -/
set_option maxRecDepth 100000
set_option maxHeartbeats 1000000
/-! The law's own defs: the pen made; the law. -/
namespace CW
open PySem PySem.Spec PyProof.Rows L2
theorem cut63 (xs : List V) (h : xs.length ≤ 63) : cutV xs none (some 63) = xs := by
  unfold cutV
  have e : HT.sIx xs.length xs.length (some 63) = min 63 xs.length := HT.sIx_nat xs.length xs.length 63
  rw [e, HT.sIx_none, Nat.sub_zero, List.drop_zero, Nat.min_eq_right h, List.take_length]
/-- what is asked of the chaos, in plain words -/
structure ChaosJ (C : Cfg) (J : Nat → Sys → Prop) : Prop where
  start : J 0 (startS C)
  wok : ∀ {i S}, J i S → ∀ s, WOk (C.bk s).ks (S.e s).wishes
  hear : ∀ {i S}, J i S → ∀ x ∈ S.air, HearPre (S.e x.1) x.2 (C.bk x.1).b C.TR
  air : ∀ {i S}, J i S → i ≤ 42 → S.air.length ≤ 900
  own : ∀ {s S e' ls}, J (bI s).toNat S → OwnStep C.TR (C.bk s).ks (S.e s) e' ls → J ((bI s).toNat + 1) ⟨setE S.e s e', S.air ++ sent s ls⟩
  led : ∀ {i S S'}, J (i + 2) S → LedStep C S S' → J (i + 3) S'
  right : ∀ {i S}, J (i + 2) S → RightPre C S
  settle : ∀ {i S}, J (i + 2) S → i ≤ 40 → ∃ Js m0, SettleJ C Js ∧ Js m0 S ∧ m0 < 100 * (1 + worthsOf C S)
def spPen (K : PySem.W.Frag) : Sp := fun vs H Q _ => ∃ (a : Addr) (ns : List Int), vs = [.ref a] ∧ SqL K H a (ns.map V.int) ∧ ns.length ≤ 63 ∧ ∀ p c H', Ex H H' → PenAt K H' p c 0 → Q (.ref p) H'
def spLaw (K : PySem.W.Frag) : Sp := fun vs H Q _ => ∃ (a : Addr) (ns : List Int), vs = [.ref a] ∧ SqL K H a (ns.map V.int) ∧ ns.length ≤ 63 ∧ (∀ C : Cfg, C.Ok → 2 ≤ C.TR → ∃ J, ChaosJ C J) ∧ ∀ H', Q (.bl true) H'
section
variable {P : Program} {w : World} {K : PySem.W.Frag} {mg : Str → Option Value} {base : Heap} {k : Nat}
theorem cal_pen (T : Tx K mg w) (k : Nat) : Cal P w K mg base "_law_pen" (k + 1) (spPen K) :=
  cal_S d__law_pen T.g__law_pen T.f__law_pen sc__law_pen (fun _ _ _ _ _ _ us hl => match us, hl with | [_], _ => rfl) (len := fun vs H Q E ⟨_, _, e, _⟩ => by rw [e]; rfl) fun cdv A outer st H E vs Q hr hsp => by
  obtain ⟨a, ns, ev, sq, nl, qq⟩ := hsp
  subst ev
  refine ⟨[.obj a], ⟨rfl, trivial⟩, ?_⟩
  refine sx_retX (fun σ s => re_of (pe_disp (pps_cons pe_str pe_re (pps_cons pe_str pe_re (pps_cons pe_str pe_re pps_nil))) rfl rfl (fun z => nomatch z) (by decide)) (fun q0 hq0 => ?_))
  have xq : Ex H (upd H q0 (.dK [])) := Ex.new hq0
  have s1 := s.mono xq.xt
  -- the cells
  have lst : WX (CC P w K mg base d__law_pen N__law_pen (He.fAd K ("_law_pen", none)) cdv A outer st H E) (match d__law_pen.body with | [.Return (some (.Dict _ (v :: _) _)) _] => v | _ => .Constant .none 0 ⟨0, 0, 0, 0⟩) [.obj a] (upd H q0 (.dK [])) (fun v H1 => ∃ c, v = .ref c ∧ Ex (upd H q0 (.dK [])) H1 ∧ H1 c = some (.lst (ns.map V.int))) := by
    refine gx_callTy call_list_of T.n_list (by decide +kernel) (ga_cons (fun σ s => re_of (pe_slice sl_list pe_re po_none (po_some pe_int)) ?_))
    refine (oe_name 0 rfl : OE _ _ _ H a) σ _ s xq _ ⟨63, rfl, a, _, rfl, xq.sql sq, fun l hl => ?_⟩
    rw [cut63 _ (by rw [List.length_map]; exact nl)]
    exact ⟨(Ex.new hl).xt, ga_nil ⟨l, _, rfl, .inl (SqL.of upd_same), fun c hc => ⟨c, rfl, (Ex.new hl).trans (Ex.new hc), upd_same⟩⟩⟩
  refine re_mono (lst σ s1) fun v H1 ⟨c, e1, x1, hc⟩ => ?_
  subst e1
  refine (de_int (i := 0) : DE _ _ [Kd.obj a] H1 (.int 0)) σ _ (s1.mono x1.xt) (Ex.refl _) _ fun v2 H2 x2 t2 => ?_
  refine (de_int (i := 0) : DE _ _ [Kd.obj a] H2 (.int 0)) σ _ (s1.mono (x1.trans x2).xt) (Ex.refl _) _ fun v3 H3 x3 t3 => ?_
  have hq3 : H3 q0 = some (.dK []) := x3 _ _ (x2 _ _ (x1 _ _ upd_same))
  have hc3 : H3 c = some (.lst (ns.map V.int)) := x3 _ _ (x2 _ _ hc)
  refine ⟨hq3, [(.inr "cells", .ref c), (.inr "at", v2), (.inr "left", v3)], rfl, by simp, ?_⟩
  have xu : Xt H3 (upd H3 q0 (.dK (mergeK [] [(.inr "cells", .ref c), (.inr "at", v2), (.inr "left", v3)]))) := Xt.upd hq3 (by intro _ z; cases z) (by intro _ _ z; cases z)
  refine qq q0 c _ (((xq.trans x1).trans (x2.trans x3)).upd_new hq0) ⟨ns, 0, 0, fput (fput (fput (fun _ => none) "cells" (.obj c)) "at" (.dat (.int 0))) "left" (.dat (.int 0)), ⟨_, upd_same, length_mergeK _ [], ?_⟩, ?_, ?_, fput_same _ _ _, upd_other (dict_lst hq3 hc3) hc3, by omega, by omega⟩
  · exact FkOk.mono xu (((fk_nil.put (v := .ref c) (kd := .obj c) rfl).put (v := v2) (kd := .dat (.int 0)) ⟨v2, rfl, t2.mono x3.xt⟩).put (v := v3) (kd := .dat (.int 0)) ⟨v3, rfl, t3⟩)
  · rw [fput_ne (by decide +kernel), fput_ne (by decide +kernel)]
    exact fput_same _ _ _
  · rw [fput_ne (by decide +kernel)]
    exact fput_same _ _ _
theorem law_body (T : Tx K mg w) (k : Nat) (cdv : Value) (A : Around) (outer : List Env) (st : Shared) (H : Hp) (E : XK) (vs : List V) (Q : VK) (hr : Room (k + 11) (CC P w K mg base d_law N_law (He.fAd K ("law", none)) cdv A outer st H E).A) (hsp : spLaw K vs H Q E) :
    ∃ kds, KE' K H vs kds ∧ SX (CC P w K mg base d_law N_law (He.fAd K ("law", none)) cdv A outer st H E) d_law.body (kdStart N_law kds) H (DE0 Q) := by
  obtain ⟨a, ns, ev, sq, nl, plain, qq⟩ := hsp
  subst ev
  refine ⟨[.obj a], ⟨rfl, trivial⟩, ?_⟩
  refine sx_setX 1 sc_law.nd (gx_call (cal_pen T k) (hr.mono (by omega)) (ga_oe (oe_name 0 rfl) (ga_nil ⟨a, ns, rfl, sq, nl, fun p c H1 x1 pen1 => ⟨.obj p, rfl, x1.xt, ?_⟩⟩)))
  refine sx_forX (Post := fun ds H2 => ds = rangeD 2 ∧ Ex H1 H2) (G := fun _ _ => True)
    (fun ds H2 i ρ' H' => ∃ (k2 k3 k4 k5 : Kd), ρ' = [.obj a, .obj p, k2, k3, k4, k5] ∧ i ≤ 2 ∧ PenAt K H' p c (i * 15000))
    rfl PassesOwn.never (igx_range T.n_range (gx_de (de_int (i := 2)) fun v H2 x2 t => ⟨2, t.int_inv, by omega, by omega, rfl, x2⟩)) ?_ ?_ ?_ ?_
  · rintro ds H2 ⟨rfl, x2⟩
    exact ⟨x2.xt, _, _, _, _, rfl, by omega, (pen1.mono x2).le (by omega)⟩
  · exact fun _ _ _ _ _ _ _ _ => trivial
  rotate_left
  · rintro ds H2 ρ' H' ⟨rfl, x2⟩ ⟨k2, k3, k4, k5, rfl, hi, pen⟩
    exact sx_ret de_bl fun v H3 x3 t => by
      obtain rfl := t.bool_inv
      exact qq H3
  rintro ds H2 i d ρ' H' ⟨rfl, x2⟩ hd ⟨k2, k3, k4, k5, rfl, hi, pen⟩
  have hi2 : i < 2 := by
    have := (List.getElem?_eq_some_iff.mp hd).1
    simpa [rangeD] using this
  refine ⟨_, _, tg_name 2 sc_law.nd, fun H3 x3 => ?_⟩
  -- two new ends
  refine sx_setX 3 sc_law.nd (gx_call (cal_two T (k + 5)) (hr.mono (by omega)) (ga_oe (oe_name 1 rfl) (ga_nil ⟨p, c, _, rfl, pen.mono x3, by omega, fun q C H4 hC tr2 x4 G4 => ⟨.obj q, rfl, x4, ?_⟩⟩)))
  obtain ⟨J, CJ⟩ := plain C hC tr2
  -- opened
  refine sx_forX (Post := fun ds2 H5 => ds2 = [.int 0, .int 1] ∧ Ex H4 H5) (G := Xt)
    (fun ds2 H5 j ρ' H' => ∃ (S : Sys) (k4 : Kd), ρ' = [.obj a, .obj p, .dat d, .obj q, k4, k5] ∧ j ≤ 2 ∧ J j S ∧ GameAt K H' p c (i * 15000 + 1100 + 100 * j) q C S (2 * j) ∧ Xt H5 H')
    rfl PassesOwn.never (igx_ig (ig_tup (de_tup (ae_cons de_int (ae_cons de_int ae_nil))))) ?_ ?_ ?_ ?_
  · rintro ds2 H5 ⟨rfl, x5⟩
    exact ⟨x5.xt, startS C, _, rfl, by omega, CJ.start, (G4.mono x5).le (by omega) (by omega), Xt.refl _⟩
  · rintro ds2 H5 j ρ' H' ⟨rfl, x5⟩ hj ⟨S, k4, rfl, hj2, jS, GA, xt⟩
    exact xt
  · rintro ds2 H5 j dd ρ' H' ⟨rfl, x5⟩ hdd ⟨S, k4, rfl, hj2, jS, GA, xt⟩
    obtain ⟨s, hs, rfl⟩ : ∃ s, j = (bI s).toNat ∧ dd = .int (bI s) := by
      match j, hdd with
      | 0, h => exact ⟨false, rfl, (Option.some.inj h).symm⟩
      | 1, h => exact ⟨true, rfl, (Option.some.inj h).symm⟩
      | _ + 2, h => cases h
    have hj1 : j ≤ 1 := by rw [hs]; cases s <;> decide
    refine ⟨_, _, tg_name 4 sc_law.nd, fun H6 x6 => ?_⟩
    refine sx_dropX (WX.mono (gx_call (Q := fun v H7 => Xt H6 H7 ∧ ∃ S', J (j + 1) S' ∧ GameAt K H7 p c (i * 15000 + 1100 + 100 * j + 100) q C S' (2 * j + 2)) (cal_of_itself T (k + 5)) (hr.mono (by omega)) (ga_oe (oe_name 1 rfl) (ga_oe (oe_name 3 rfl) (ga_de (de_name 4 rfl) fun v1 H7 x7 t1 => ga_de (de_int (i := 9)) fun v2 H8 x8 t2 => ga_nil ?_)))) fun v H7 ⟨x7, S', j7, G7⟩ => ⟨x7, sx_nil fun σ s' => ⟨_, s', S', _, rfl, by omega, j7, G7.le (by omega) (by omega), (xt.trans x6.xt).trans x7⟩⟩)
    refine ⟨p, c, q, _, _, C, S, s, 9, by rw [t1.int_inv, t2.int_inv], hC, ((GA.mono x6).mono x7).mono x8, CJ.wok jS s, by omega, by have := CJ.air jS (by omega); omega, by omega, fun e' ls H9 hs9 x9 G9 => ⟨(x7.trans x8).xt.trans x9, _, ?_, G9⟩⟩
    rw [hs] at jS ⊢
    exact CJ.own jS hs9
  rintro ds2 H5 ρ' H6 ⟨rfl, x5⟩ ⟨S2, k4, rfl, hj2, jS2, G6, xt6⟩
  have G6 : GameAt K H6 p c (i * 15000 + 1300) q C S2 4 := G6
  have jS2 : J 2 S2 := jS2
  -- the chaos
  refine sx_forX (Post := fun ds3 H7 => ds3.length ≤ 40 ∧ GameAt K H7 p c (i * 15000 + 1302) q C S2 4 ∧ Xt H6 H7) (G := fun _ _ => True)
    (fun ds3 H7 j ρ' H' => ∃ (S : Sys) (k5 : Kd), ρ' = [.obj a, .obj p, .dat d, .obj q, k4, k5] ∧ j ≤ 40 ∧ J (j + 2) S ∧ GameAt K H' p c (i * 15000 + 1302 + 200 * j) q C S (4 + 2 * j))
    rfl PassesOwn.never (igx_range T.n_range (gx_ix ix_list (gx_lst (ga_de de_int fun v1 H7 x7 t1 => ga_de de_int fun v2 H8 x8 t2 => ga_cons (gx_drawD (k := k) T (hr.mono (by omega)) (oe_name 1 rfl) (de_int (i := 41)) (by omega) (by omega) ((G6.pen.mono x7).mono x8) (by omega) fun dr H9 d0 d1 c9 pen9 => ⟨c9.2, ga_nil ⟨by show 3 ≤ sizeLine; decide, fun r hr0 => ?_⟩⟩))))) ?_ ?_ ?_ ?_
  · obtain rfl := t1.int_inv
    obtain rfl := t2.int_inv
    have c6 : Ch p H6 (upd H9 r (.lst [.int 0, .int 5, .int dr])) := ((x7.trans x8).ch.trans c9).trans (Ex.new hr0).ch
    refine ⟨c6.2, gx_drawD (k := k) T (hr.mono (by omega)) (oe_name 1 rfl) (de_int (i := 3)) (by omega) (by omega) (pen9.mono (Ex.new hr0)) (by omega) fun jj H11 j0 j1 c11 pen11 => ?_⟩
    have hrp : r ≠ p := by
      obtain ⟨⟨o, ho⟩, _⟩ := pen9.ex
      exact (ne_new ho hr0).symm
    obtain ⟨m, hm, m1, m2⟩ : ∃ m : Int, atI [V.int 0, V.int 5, V.int dr] jj = some (.int m) ∧ 0 ≤ m ∧ m ≤ 40 := by
      have : jj = 0 ∨ jj = 1 ∨ jj = 2 := by omega
      rcases this with rfl | rfl | rfl
      · exact ⟨0, atI_nat (j := 0) rfl, by omega, by omega⟩
      · exact ⟨5, atI_nat (j := 1) rfl, by omega, by omega⟩
      · exact ⟨dr, atI_nat (j := 2) rfl, by omega, by omega⟩
    have c611 := c6.trans c11
    exact ⟨r, _, jj, _, rfl, rfl, SqL.of (c11.lst hrp upd_same), hm, m, rfl, by omega, by omega, by simp [rangeD]; omega, G6.drew c611 pen11, c611.2⟩
  · rintro ds3 H7 ⟨hl, G7, x7⟩
    exact ⟨x7, S2, _, rfl, by omega, jS2, G7⟩
  · exact fun _ _ _ _ _ _ _ _ => trivial
  · rintro ds3 H7 j dd ρ' H' ⟨hl, G7, x7⟩ hdd ⟨S, k5', rfl, hj, jS, GA⟩
    have hjl : j < ds3.length := (List.getElem?_eq_some_iff.mp hdd).1
    refine ⟨_, _, tg_name 5 sc_law.nd, fun H8 x8 => ?_⟩
    refine sx_dropX (WX.mono (gx_call (Q := fun v H9 => Xt H8 H9 ∧ ∃ S', J (j + 3) S' ∧ GameAt K H9 p c (i * 15000 + 1302 + 200 * j + 200) q C S' (4 + 2 * j + 2)) (cal_led T k) (hr.mono (by omega)) (ga_oe (oe_name 1 rfl) (ga_oe (oe_name 3 rfl) (ga_nil ?_)))) fun v H9 ⟨x9, S', j9, G9⟩ => ⟨x9, ?_⟩)
    · exact ⟨p, c, q, _, _, C, S, rfl, hC, GA.mono x8, CJ.wok jS, CJ.hear jS, by omega, CJ.air jS (by omega), by omega, fun S' H9 hs9 x9 G9 => ⟨x9, S', CJ.led jS hs9, G9⟩⟩
    refine sx_ifX (gt_not (gt_val (gx_call (cal_right T (k + 7)) (hr.mono (by omega)) (ga_oe (oe_name 3 rfl) (ga_nil ⟨p, c, q, _, _, C, S', rfl, hC, G9, CJ.right j9, fun H10 x10 => ⟨true, rfl, x10.xt, ?_⟩⟩)))))
    rw [if_neg (by decide)]
    exact sx_next (sx_nil fun σ s' => ⟨_, s', S', _, rfl, by omega, j9, (G9.mono x10).le (by omega) (by omega)⟩)
  rintro ds3 H7 ρ' H8 ⟨hl, G7, x7⟩ ⟨S, k5', rfl, hj, jS, GA⟩
  -- the settling
  obtain ⟨Js, m0, SJ, js, hm0⟩ := CJ.settle jS hj
  refine sx_ifX (gt_not (gt_val (gx_call (cal_settled T k) (hr.mono (by omega)) (ga_oe (oe_name 3 rfl) (ga_nil ⟨p, c, q, _, _, C, S, Js, m0, rfl, hC, GA, SJ, js, hm0, CJ.air jS (by omega), by omega, fun H10 x10 pen10 => ⟨true, rfl, x10, ?_⟩⟩)))))
  rw [if_neg (by decide)]
  refine sx_next (sx_nil fun σ s' => ⟨_, s', _, _, _, _, rfl, by omega, pen10.le ?_⟩)
  have : (i + 1) * 15000 = i * 15000 + 15000 := by omega
  omega
theorem law_ok (T : Tx K mg w) (k : Nat) : ∃ fd, FunD K d_law.name d_law.qual d_law.params d_law.body d_law.scope (d_law.dvs K) (d_law.kws K) (He.fAd K ("law", none)) fd ∧ FnOk P w K mg base CX0 (k + 12) (He.fAd K ("law", none)) fd P_law (spLaw K) := by
  obtain ⟨fd, F⟩ := T.f_law
  exact ⟨fd, F, F.ok sc_law (fun vs H Q E ⟨_, _, e, _⟩ => by rw [e]; rfl) fun cdv A outer s H vs Q E hr h => ⟨_, PSs.nox pss_rss, by
    obtain ⟨kds, ke, sx⟩ := law_body T k cdv A outer s H E vs Q hr h
    exact sx _ (sl_kstart ke)⟩⟩
end
end CW
/-! part CwJoin -/
set_option maxHeartbeats 1000000
/-! The plain law joined: the chaos and the settling, as the walk asks for them. -/
namespace CW
open PySem Classical
/-! ### few pairs -/
def FewE (e : End) : Prop := ∀ l, e.last = some l → l.pairs.length ≤ 3
def Few (S : Sys) : Prop := (∀ s, FewE (S.e s)) ∧ ∀ q ∈ S.air, q.2.pairs.length ≤ 3
theorem askOf_len (ws : List Wish) (p : Plan) : (askOf ws p).length ≤ ws.length := by
  have := (askOf_heads ws p).sub.length_le
  rwa [List.length_map, List.length_map] at this
theorem answer_len (b : Plan) (ask : List Pr) : (answer b ask).2.length ≤ ask.length := by
  unfold answer
  split
  · exact List.length_filter_le ..
  · split
    · show ((ask.filter _).map _).length ≤ _
      rw [List.length_map]
      exact List.length_filter_le ..
    · exact Nat.le_refl _
theorem few_none {e : End} (h : e.last = none) : FewE e := fun l hl => by rw [h] at hl; cases hl
theorem few_same {e e' : End} (h : e'.last = e.last) (f : FewE e) : FewE e' := fun l hl => f l (by rw [← h]; exact hl)
theorem one_few {z : Letter} (h : z.pairs.length ≤ 3) : ∀ l ∈ [z], l.pairs.length ≤ 3 := fun l hl => by
  rw [List.mem_singleton] at hl
  subst hl
  exact h
theorem asks_few {e : End} (h : e.wishes.length ≤ 3) : ∀ l ∈ [askLet e], l.pairs.length ≤ 3 := one_few (Nat.le_trans (askOf_len e.wishes e.plan) h)
theorem bye_few (e : End) (w : Word) : ∀ l ∈ [writ e w 0 []], l.pairs.length ≤ 3 := one_few (Nat.zero_le _)
theorem own_few {TR : Int} {ks : List Str} {X e' : End} {ls : List Letter} (h : OwnStep TR ks X e' ls) (f : FewE X) (hw : X.wishes.length ≤ 3) (hk : ks.length ≤ 3) : FewE e' ∧ ∀ l ∈ ls, l.pairs.length ≤ 3 := by
  cases h with
  | opn c => exact ⟨few_none rfl, asks_few hw⟩
  | cls o => exact ⟨few_none rfl, bye_few _ _⟩
  | wsh o ws wok =>
    have := wok_len wok
    unfold wished
    rw [if_neg o]
    split
    · exact ⟨few_none rfl, bye_few _ _⟩
    · exact ⟨few_same rfl f, asks_few (e := wishedE X ws TR) (by show ws.length ≤ 3; omega)⟩
  | tck o =>
    unfold ticked
    rw [if_neg o]
    split
    · exact ⟨few_none rfl, bye_few _ _⟩
    · refine ⟨few_same rfl f, ?_⟩
      split
      · exact asks_few hw
      · exact bye_few _ _
theorem word_few {r : List Pr} {e : End} {l : Letter} {b : Plan} {tr : Int} (f : FewE e) (hl : l.pairs.length ≤ 3) (hw : e.wishes.length ≤ 3) : FewE (heardWord r e l b tr).1 ∧ ∀ z ∈ (heardWord r e l b tr).2, z.pairs.length ≤ 3 := by
  have ans : FewE (heardAnswer r e l tr).1 ∧ ∀ z ∈ (heardAnswer r e l tr).2, z.pairs.length ≤ 3 := by
    unfold heardAnswer
    split
    · exact ⟨f, fun z hz => by cases hz⟩
    · split
      · exact ⟨f, fun z hz => by cases hz⟩
      · exact ⟨few_none rfl, bye_few _ _⟩
      · exact ⟨few_same rfl f, fun z hz => by cases hz⟩
      · exact ⟨few_same rfl f, asks_few (e := planned e _ r tr) hw⟩
  unfold heardWord
  cases l.word with
  | ask =>
    show FewE (heardAsk e l b).1 ∧ _
    unfold heardAsk
    have al := answer_len b l.pairs
    split
    · exact ⟨f, fun z hz => by cases hz⟩
    · split
      · refine ⟨fun z hz => ?_, one_few (by show (answer b l.pairs).2.length ≤ 3; omega)⟩
        have : z = writ e (answer b l.pairs).1 l.number (answer b l.pairs).2 := (Option.some.inj hz).symm
        subst this
        show (answer b l.pairs).2.length ≤ 3
        omega
      · refine ⟨f, fun z hz => ?_⟩
        cases hla : e.last with
        | none => rw [hla] at hz; cases hz
        | some la =>
          rw [hla] at hz
          have : z = la := by simpa using hz
          subst this
          exact f z hla
  | bye => exact ⟨few_none rfl, fun z hz => by cases hz⟩
  | here => exact ⟨f, bye_few _ _⟩
  | there => exact ⟨few_same rfl f, fun z hz => by cases hz⟩
  | yes => exact ans
  | no => exact ans
  | rather => exact ans
theorem few_asEnd {e : End} (f : FewE e) : FewE (asEnd e) := few_same rfl f
theorem heard_few {r : List Pr} {e : End} {l : Letter} {b : Plan} {tr : Int} (f : FewE e) (hl : l.pairs.length ≤ 3) (hw : e.wishes.length ≤ 3) : FewE (heard r e l b tr).1 ∧ ∀ z ∈ (heard r e l b tr).2, z.pairs.length ≤ 3 := by
  have fl : FewE (learnt e l tr) ∧ (learnt e l tr).wishes.length ≤ 3 := by
    unfold learnt
    split
    · exact ⟨few_none rfl, hw⟩
    · exact ⟨f, hw⟩
  have fls : ∀ z ∈ learntLs e l tr, z.pairs.length ≤ 3 := by
    unfold learntLs
    split
    · exact asks_few (e := begun { e with yours := l.mine } tr) hw
    · exact fun z hz => by cases hz
  unfold heard
  split
  · refine ⟨f, fun z hz => ?_⟩
    unfold heardClosed at hz
    split at hz
    · cases hz
    · rw [List.mem_singleton] at hz
      subst hz
      exact Nat.zero_le _
  · split
    · obtain ⟨h1, h2⟩ := word_few (r := r) (b := b) (tr := tr) fl.1 hl fl.2
      refine ⟨few_asEnd h1, fun z hz => ?_⟩
      rcases List.mem_append.mp hz with h | h
      · exact fls z h
      · exact h2 z h
    · exact ⟨few_asEnd fl.1, fls⟩
/-! ### what the walk asks of a letter -/
theorem play_ok {C : Cfg} (hC : C.Ok) : C.play.Ok := ⟨hC.tr, fun s => ⟨fun k hk => (kind_ok ((hC.bk s).kmen k hk)).2, (hC.bk s).bok, (hC.bk !s).bok⟩⟩
theorem ref_len {ks : List Str} {r : List Pr} (h : RefInv ks r) : r.length ≤ ks.length * 9 := by
  have := len_sub (l := r) (m := ks.flatMap fun k => (menu ++ [-1]).map fun w => (k, w)) h.nd fun p hp => by
    obtain ⟨h1, h2⟩ := h.mem p hp
    rw [List.mem_flatMap]
    refine ⟨p.1, h1, List.mem_map.mpr ⟨p.2, ?_, rfl⟩⟩
    rw [List.mem_append, List.mem_singleton]
    exact h2
  rw [List.length_flatMap] at this
  have e : (ks.map fun k => ((menu ++ [-1]).map fun w => (k, w)).length) = ks.map fun _ => 9 := by
    apply List.map_congr_left
    intro k _
    rw [List.length_map]
    rfl
  rw [e, List.map_const', List.sum_replicate_nat] at this
  exact this
section
variable {C : Cfg} {S : Sys} {g : Bool → Gh}
theorem wok_of (I : SInvG C.play S g) (s : Bool) : WOk (C.bk s).ks (S.e s).wishes := (I.half s).wok
theorem wl_of (hC : C.Ok) (I : SInvG C.play S g) (s : Bool) : (S.e s).wishes.length ≤ 3 := Nat.le_trans (wok_len (wok_of I s)) (hC.bk s).klen
theorem hear_pre (hC : C.Ok) (I : SInvG C.play S g) (fw : Few S) (nm : ∀ s, (S.e s).name = C.nm s) {t : Bool} {l : Letter} (hl : (t, l) ∈ S.air) : HearPre (S.e t) l (C.bk t).b C.TR := by
  have lo : LetOk (C.bk !t).b (S.e !t) (g !t) (g t) l := I.let_ (t, l) hl
  have h := I.half t
  have fl := fw.2 (t, l) hl
  have fl : l.pairs.length ≤ 3 := fl
  have hbk := hC.bk t
  have hk := hbk.klen
  have bl := hbk.blen
  have lrn : (l.word = .yes ∨ l.word = .no ∨ l.word = .rather) → learnt (S.e t) l C.TR = S.e t := fun w => learnt_ref (r := []) (fun w => ans_known h lo w) w
  refine ⟨?_, wok_ws (wok_of I t) (by omega), fun c m1 t1 => ?_, lrn⟩
  · rw [lo.who, nm, nm]
    have := hC.ne
    cases t
    · exact fun z => this z.symm
    · exact this
  have R := (play_ok hC).rules t
  obtain ⟨⟨gx, a1, a2, a3, a4⟩, c2⟩ := learnt_step (TR := (C.TR : Int)) R (Int.natCast_nonneg _) h c lo
  refine ⟨fun w => ⟨⟨hbk.bok, by omega, by omega⟩, fun hn => ?_⟩, fun w n1 g1 => ?_⟩
  · have L := a3.live c2
    have n0 := (lo.ask w).1
    obtain ⟨p, _, _, hlast⟩ := L.ans (by rw [← hn]; omega)
    rw [hlast]
    rfl
  · rw [lrn w] at n1 g1 ⊢
    have L := h.live c
    have wok := wok_of I t
    have wl := wl_of hC I t
    have rl := ref_len L.ref
    have rl : (S.e t).refused.length ≤ (C.bk t).ks.length * 9 := rl
    exact ⟨⟨wok_ws wok (by omega), wok.nd, L.plan, lo.pairs, by omega, by omega, fun x hx => by have := (wok.each x hx).len; omega⟩, by omega⟩
theorem right_half (I : SInvG C.play S g) (s : Bool) (ho : standsOpen (S.e s) (S.e !s) = true) : ∃ q, (S.e s).given = some q ∧ (S.e !s).took = some q ∧ q = askOf (S.e s).wishes (S.e s).plan ∧ answer (C.bk !s).b q = (.yes, q) ∧ PlanFor (S.e s).wishes (S.e s).plan := by
  have hb := I.half !s
  rw [Bool.not_not] at hb
  exact Pair.right (la := []) (lb := []) ⟨I.half s, hb, (fun _ h => by cases h), (fun _ h => by cases h)⟩ ho
theorem right_pre (hC : C.Ok) (I : SInvG C.play S g) : RightPre C S := by
  have both : standsOpen (S.e false) (S.e true) = true → ∀ s, standsOpen (S.e s) (S.e !s) = true := fun ho s => by
    cases s
    · exact ho
    · rw [show (!true) = false from rfl, standsOpen_swap]; exact ho
  refine ⟨fun ho => ?_, fun ho s => ?_⟩
  · obtain ⟨q0, h1, h2, _⟩ := right_half I false (both ho false)
    obtain ⟨q1, h3, h4, _⟩ := right_half I true (both ho true)
    have h2 : (S.e true).took = some q0 := h2
    have h4 : (S.e false).took = some q1 := h4
    exact ⟨by rw [h1, h2], by rw [h3, h4]⟩
  · obtain ⟨q, h1, h2, h3, h4, h5⟩ := right_half I s (both ho s)
    have wok := wok_of I s
    have wl := wl_of hC I s
    have ao := askOf_ok wok h5
    have al := askOf_len (S.e s).wishes (S.e s).plan
    have bl := (hC.bk !s).blen
    refine ⟨q, h1, wok.nd, by omega, (hC.bk !s).bok.nd, by omega, by rw [h3]; omega, fun z hz => ?_⟩
    obtain ⟨x, hx, e1, e2, _⟩ := ao.mem z (by rw [← h3]; exact hz)
    obtain ⟨l, e3, e4⟩ := (yes_ask h4).2 z hz
    exact ⟨⟨x, hx, e1.symm, e2⟩, l, e3, e4⟩
/-! ### the settling -/
structure SetJ (C : Cfg) (m : Nat) (S : Sys) : Prop where
  inv : SInv C.play S
  few : Few S
  nm : ∀ s, (S.e s).name = C.nm s
  turn : ∀ s, 1 ≤ (S.e s).turn
  pot : pot C.play S = m
theorem ref_for (e : End) (l : Letter) : RefFor (sumRef e l) e l := sumRef_ok e l
theorem come_eq {t : Bool} {l : Letter} {i : Nat} : cameS C S i t l = hears C.play S t l (S.air.eraseIdx i) (sumRef (S.e t) l) := rfl
theorem step_adv {TR : Int} {ks : List Str} {bX bY : Plan} {X Y : End} {gX gY : Gh} {X' : End} {ls : List Letter} (h : Step TR ks bX bY X Y gX gY X' ls) : X'.name = X.name ∧ X.turn ≤ X'.turn := by
  obtain ⟨_, _, a, _⟩ := h
  exact ⟨a.name, a.turn⟩
theorem set_e {e : Bool → End} {s : Bool} {x : End} {Q : Bool → End → Prop} (h1 : Q s x) (h2 : ∀ t, Q t (e t)) : ∀ t, Q t (setE e s x t) := fun t => by
  unfold setE
  split
  · rename_i h; subst h; exact h1
  · exact h2 t
theorem came_all (hC : C.Ok) (I : SInvG C.play S g) (fw : Few S) (nm : ∀ s, (S.e s).name = C.nm s) {t : Bool} {l : Letter} {i : Nat} (hi : S.air[i]? = some (t, l)) :
    SInv C.play (cameS C S i t l) ∧ Few (cameS C S i t l) ∧ (∀ s, ((cameS C S i t l).e s).name = C.nm s) ∧ ∀ s, (S.e s).turn ≤ ((cameS C S i t l).e s).turn := by
  have hl := List.mem_of_getElem? hi
  have st := heard_step ((play_ok hC).rules t) (Int.natCast_nonneg _) (I.half t) (I.let_ _ hl) (ref_for (S.e t) l)
  obtain ⟨s1, s2⟩ := step_adv st
  have hf := heard_few (r := sumRef (S.e t) l) (b := (C.bk t).b) (tr := (C.TR : Int)) (fw.1 t) (fw.2 _ hl) (wl_of hC I t)
  refine ⟨?_, ⟨?_, fun q hq => ?_⟩, ?_, ?_⟩
  · rw [come_eq]
    exact hears_inv (play_ok hC) I (fun q hq => List.mem_of_mem_eraseIdx hq) hl (ref_for _ _)
  · exact set_e (Q := fun _ x => FewE x) hf.1 fw.1
  · rcases List.mem_append.mp hq with h | h
    · exact fw.2 q (List.mem_of_mem_eraseIdx h)
    · obtain ⟨z, hz, rfl⟩ := List.mem_map.mp h
      exact hf.2 z hz
  · exact set_e (Q := fun s x => x.name = C.nm s) (s1.trans (nm t)) nm
  · exact set_e (e := S.e) (Q := fun s x => (S.e s).turn ≤ x.turn) s2 fun s => Int.le_refl _
theorem own_all (hC : C.Ok) (I : SInvG C.play S g) (fw : Few S) (nm : ∀ s, (S.e s).name = C.nm s) {s : Bool} {e' : End} {ls : List Letter} (h : OwnStep C.TR (C.bk s).ks (S.e s) e' ls) :
    SInv C.play ⟨setE S.e s e', S.air ++ sent s ls⟩ ∧ Few ⟨setE S.e s e', S.air ++ sent s ls⟩ ∧ (∀ t, (setE S.e s e' t).name = C.nm t) ∧ (∀ t, (S.e t).turn ≤ (setE S.e s e' t).turn) ∧ OwnRes (S.e s) e' ls := by
  have hk := ((play_ok hC).rules s).names
  have hh := I.half s
  have st : Step (C.play.TR : Int) (C.play.ks s) (C.play.bd s) (C.play.bd !s) (S.e s) (S.e !s) (g s) (g !s) e' ls := by
    cases h with
    | opn c => exact opened_step hh hk (Int.natCast_nonneg _)
    | cls o => exact closing_step hh o
    | wsh o ws wok => exact wished_step hh hk (Int.natCast_nonneg _) wok
    | tck o => exact ticked_step hh hk
  obtain ⟨s1, s2⟩ := step_adv st
  have hf := own_few h (fw.1 s) (wl_of hC I s) (hC.bk s).klen
  refine ⟨I.go st fun q hq => ?_, ⟨set_e (Q := fun _ x => FewE x) hf.1 fw.1, fun q hq => ?_⟩, set_e (Q := fun t x => x.name = C.nm t) (s1.trans (nm s)) nm, set_e (e := S.e) (Q := fun t x => (S.e t).turn ≤ x.turn) s2 fun t => Int.le_refl _, ?_⟩
  · exact List.mem_append.mp hq
  · rcases List.mem_append.mp hq with h | h
    · exact fw.2 q h
    · obtain ⟨z, hz, rfl⟩ := List.mem_map.mp h
      exact hf.2 z hz
  · cases h with
    | opn c => exact opened_own c _
    | cls o => exact closing_own o
    | wsh o ws wok => exact wished_own o ws _
    | tck o => exact ticked_own o
theorem tick1_all (hC : C.Ok) (I : SInvG C.play S g) (fw : Few S) (nm : ∀ s, (S.e s).name = C.nm s) (s : Bool) :
    SInv C.play (tick1 S s) ∧ Few (tick1 S s) ∧ (∀ t, ((tick1 S s).e t).name = C.nm t) ∧ ∀ t, (S.e t).turn ≤ ((tick1 S s).e t).turn := by
  by_cases o : (S.e s).stand = .closed
  · have e1 : tick1 S s = S := by
      unfold tick1 ticked
      rw [if_pos o]
      have : setE S.e s (S.e s) = S.e := by
        funext t
        unfold setE
        split
        · rename_i h; rw [h]
        · rfl
      show Sys.mk (setE S.e s (S.e s)) (S.air ++ sent s []) = S
      rw [this]
      unfold sent
      rw [List.map_nil, List.append_nil]
    rw [e1]
    exact ⟨⟨g, I⟩, fw, nm, fun t => Int.le_refl _⟩
  · obtain ⟨h1, h2, h3, h4, _⟩ := own_all hC I fw nm (s := s) (.tck o)
    exact ⟨h1, h2, h3, h4⟩
theorem settle_j (hC : C.Ok) : SettleJ C (SetJ C) where
  wok := fun j s => by
    obtain ⟨g, I⟩ := j.inv
    exact wok_of I s
  hear := fun j x hx => by
    obtain ⟨g, I⟩ := j.inv
    exact hear_pre hC I j.few j.nm hx
  come := fun {m S t l rest} j ns hair => by
    obtain ⟨g, I⟩ := j.inv
    have hi : S.air[0]? = some (t, l) := by rw [hair]; rfl
    obtain ⟨h1, h2, h3, h4⟩ := came_all hC I j.few j.nm hi
    have er : S.air.eraseIdx 0 = rest := by rw [hair]; rfl
    have fall := fall_hear (play_ok hC) I hair (ref_for (S.e t) l) j.turn ns
    have ec : cameS C S 0 t l = hears C.play S t l rest (sumRef (S.e t) l) := by rw [come_eq, er]
    rw [← ec, j.pot] at fall
    obtain ⟨g', I'⟩ := h1
    exact ⟨_, fall, ⟨⟨g', I'⟩, h2, h3, fun s => Int.le_trans (j.turn s) (h4 s), rfl⟩, right_pre hC I'⟩
  tick := fun {m S} j ns hair => by
    obtain ⟨g, I⟩ := j.inv
    obtain ⟨⟨g1, I1⟩, f1, n1, t1⟩ := tick1_all hC I j.few j.nm false
    obtain ⟨⟨g2, I2⟩, f2, n2, t2⟩ := tick1_all hC I1 f1 n1 true
    have fall := fall_tick (play_ok hC) I hair j.turn ns
    rw [j.pot] at fall
    exact ⟨_, fall, ⟨⟨g2, I2⟩, f2, n2, fun s => Int.le_trans (j.turn s) (Int.le_trans (t1 s) (t2 s)), rfl⟩, right_pre hC I2⟩
/-! ### the chaos -/
structure Gd (C : Cfg) (i : Nat) (S : Sys) : Prop where
  inv : SInv C.play S
  psi : psi S ≤ 2 + 2 * i
  psj : psj S ≤ 2 + 3 * i
  few : Few S
  nm : ∀ s, (S.e s).name = C.nm s
  at0 : i = 0 → S = startS C
  at1 : i = 1 → (S.e true).stand = .closed ∧ (S.e true).turn = 0 ∧ 1 ≤ (S.e false).turn
  turn : 2 ≤ i → ∀ s, 1 ≤ (S.e s).turn
theorem start_gd (hC : C.Ok) : Gd C 0 (startS C) := by
  have dl0 : ∀ s, dS (startS C) s = 0 := fun s => rfl
  have cl1 : ∀ s, cl01 (startS C) s = 1 := fun s => if_pos rfl
  have cs0 : ∀ s, cS (startS C) s = 0 := fun s => if_neg (by show ¬ ((0 : Int) < 0); omega)
  refine ⟨⟨fun _ _ _ _ => none, fun s => ?_, fun q hq => by cases hq⟩, ?_, ?_, ⟨fun s => few_none rfl, fun q hq => by cases hq⟩, fun s => rfl, fun _ => rfl, fun h => absurd h (by omega), fun h => absurd h (by omega)⟩
  · exact { turn0 := Int.le_refl _, yours0 := Int.le_refl _, yoursLe := Int.le_refl _, norm := rfl, wok := (hC.bk s).wok, gdom := (fun t y n p h => by cases h), live := fun h => absurd rfl h }
  · have : aW (startS C).air = 0 := rfl
    unfold psi psiS
    rw [dl0, dl0, cl1, cl1, cs0, cs0, this]
    omega
  · have : (startS C).air.length = 0 := rfl
    unfold psj
    rw [dl0, dl0, cl1, cl1, this]
    omega
theorem gd_own (hC : C.Ok) {i : Nat} (G : Gd C i S) {s : Bool} {e' : End} {ls : List Letter} (h : OwnStep C.TR (C.bk s).ks (S.e s) e' ls) (hi : i ≤ 1 → i = (bI s).toNat) : Gd C (i + 1) ⟨setE S.e s e', S.air ++ sent s ls⟩ := by
  obtain ⟨g, I⟩ := G.inv
  obtain ⟨h1, h2, h3, h4, h5⟩ := own_all hC I G.few G.nm h
  have yl := (I.half !s).yoursLe
  rw [Bool.not_not] at yl
  obtain ⟨p1, p2⟩ := own_psi h5 yl _ rfl
  have q1 := G.psi
  have q2 := G.psj
  have open1 : (S.e s).stand = .closed → e'.turn = (S.e s).turn + 1 := fun c => by
    cases h with
    | opn c => rfl
    | cls o => exact absurd c o
    | wsh o ws wok => exact absurd c o
    | tck o => exact absurd c o
  refine ⟨h1, by omega, by omega, h2, h3, fun h => absurd h (by omega), fun h01 => ?_, fun h2i t => ?_⟩
  · have i0 : i = 0 := by omega
    have hs := hi (by omega)
    have s0 : s = false := by cases s; rfl; rw [i0] at hs; cases hs
    subst s0
    have eS := G.at0 i0
    subst eS
    have t1 := open1 rfl
    refine ⟨?_, ?_, ?_⟩
    · show (setE (startS C).e false e' true).stand = .closed
      rw [show (setE (startS C).e false e' true) = (startS C).e true from setE_not (s := false)]
      rfl
    · show (setE (startS C).e false e' true).turn = 0
      rw [show (setE (startS C).e false e' true) = (startS C).e true from setE_not (s := false)]
      rfl
    · show 1 ≤ (setE (startS C).e false e' false).turn
      rw [setE_same, t1]
      show 1 ≤ (0 : Int) + 1
      omega
  · by_cases i2 : 2 ≤ i
    · exact Int.le_trans (G.turn i2 t) (h4 t)
    · have i1 : i = 1 := by omega
      have hs := hi (by omega)
      have s1 : s = true := by cases s; rw [i1] at hs; cases hs; rfl
      subst s1
      obtain ⟨c1, c2, c3⟩ := G.at1 i1
      cases t
      · exact Int.le_trans c3 (h4 false)
      · show 1 ≤ (setE S.e true e' true).turn
        rw [setE_same, open1 c1, c2]
        omega
theorem chaos_j (hC : C.Ok) : ChaosJ C (Gd C) where
  start := start_gd hC
  wok := fun G s => by
    obtain ⟨g, I⟩ := G.inv
    exact wok_of I s
  hear := fun G x hx => by
    obtain ⟨g, I⟩ := G.inv
    exact hear_pre hC I G.few G.nm hx
  air := fun G hi => by
    have := G.psj
    unfold CW.psj at this
    omega
  own := fun G h => gd_own hC G h fun _ => rfl
  led := fun {i S S'} G h => by
    obtain ⟨g, I⟩ := G.inv
    have q1 := G.psi
    have q2 := G.psj
    cases h with
    | own s e' ls h => exact gd_own hC G h fun h => absurd h (by omega)
    | lost k hk =>
      have hq := List.getElem?_eq_getElem hk
      obtain ⟨p1, p2⟩ := lost_psi hq
      exact ⟨⟨g, I.half, fun q hq => I.let_ q (List.mem_of_mem_eraseIdx hq)⟩, by omega, by omega, ⟨G.few.1, fun q hq => G.few.2 q (List.mem_of_mem_eraseIdx hq)⟩, G.nm, fun h => absurd h (by omega), fun h => absurd h (by omega), fun _ => G.turn (by omega)⟩
    | twice x hx =>
      obtain ⟨p1, p2⟩ := twice_psi (S := S) x
      have sub : ∀ q ∈ S.air ++ [x], q ∈ S.air := fun q hq => by
        rcases List.mem_append.mp hq with h | h
        · exact h
        · rw [List.mem_singleton] at h
          rw [h]
          exact hx
      exact ⟨⟨g, I.half, fun q hq => I.let_ q (sub q hq)⟩, by omega, by omega, ⟨G.few.1, fun q hq => G.few.2 q (sub q hq)⟩, G.nm, fun h => absurd h (by omega), fun h => absurd h (by omega), fun _ => G.turn (by omega)⟩
    | come k t l hk =>
      obtain ⟨h1, h2, h3, h4⟩ := came_all hC I G.few G.nm hk
      obtain ⟨p1, p2⟩ := comes_psi (play_ok hC) I hk (sumRef (S.e t) l)
      rw [← come_eq] at p1 p2
      exact ⟨h1, by omega, by omega, h2, h3, fun h => absurd h (by omega), fun h => absurd h (by omega), fun _ s => Int.le_trans (G.turn (by omega) s) (h4 s)⟩
  right := fun G => by
    obtain ⟨g, I⟩ := G.inv
    exact right_pre hC I
  settle := fun {i S} G hi => by
    obtain ⟨g, I⟩ := G.inv
    have q1 := G.psi
    have q2 := G.psj
    have pl := pot_le (play_ok hC) I (by omega) (by omega)
    exact ⟨SetJ C, _, settle_j hC, ⟨⟨g, I⟩, G.few, G.nm, G.turn (by omega), rfl⟩, by unfold worthsOf; omega⟩
theorem plain_law (C : Cfg) (hC : C.Ok) (_ : 2 ≤ C.TR) : ∃ J, ChaosJ C J := ⟨Gd C, chaos_j hC⟩
end
end CW
/-! part CwFin -/
set_option maxRecDepth 100000
set_option maxHeartbeats 0
/-! The end: the law over the head. -/
namespace CW
open PySem PySem.Spec PyProof.Rows L2
theorem fin_facts {P : Program} {w : World} {K : PySem.W.Frag} {h : Heap} {mg : Str → Option Value} {f : Addr} (X : K.In h) (G : h.Ns mainGlobals mg) (hfa : mg ("law" : Str) = some (.ref f)) {h' : Heap} (c : He.SaysX faL fnL tsL [] exB w h' K) :
    ∃ fd : FuncData, (∀ (s : Shared) (v : Value), BindsTo s fd ⟨[v], []⟩ [("_law_script", v)]) ∧ ∀ base : Heap, K.In base → base.Ns mainGlobals mg → FnOk P w K mg base CX0 12 f fd ["_law_script"] (spLaw K) := by
  have T : Tx K mg w := tx_of X G c
  obtain ⟨fd, F⟩ := T.f_law
  have g : mg "law" = some (.ref (He.fAd K ("law", none))) := T.fa 49 (.glo "law") rfl
  have e := hfa.symm.trans g
  cases e
  have b := FunD.bindsA (ps := ["_law_script"]) F fun _ _ _ _ _ _ us hl => match us, hl with | [_], _ => rfl
  refine ⟨fd, fun s v => b s [v] rfl, fun base _ _ => ?_⟩
  exact F.ok sc_law (fun vs H Q E ⟨_, _, e, _⟩ => by rw [e]; rfl) fun cdv A outer s H vs Q E hr h => ⟨_, PSs.nox pss_rss, by
    obtain ⟨kds, ke, sx⟩ := law_body T 0 cdv A outer s H E vs Q hr h
    exact sx _ (sl_kstart ke)⟩
end CW
open PySem PySem.W PySem.Calls PyProof.Rows
set_option maxRecDepth 100000 in
set_option maxHeartbeats 0 in
theorem PySem.Challenge.cw_crossedwishes_k38_whole_what_two_ends_ag_holds : PySem.Challenge.rw_crossedwishes_k38_whole_what_two_ends_ag.Holds := by
  w_on; o_law
  refine HandSHeadRun.head_any (r := OpenLaw.row PySem.Challenge.rw_crossedwishes_k38_whole_what_two_ends_ag) (q := view (OpenLaw.row PySem.Challenge.rw_crossedwishes_k38_whole_what_two_ends_ag).prog [66]) (H := CW.hk) (ob := CW.ob) (M := 4000) (loose := CW.names) (d := HandSHeadRun.topDef (OpenLaw.row PySem.Challenge.rw_crossedwishes_k38_whole_what_two_ends_ag).prog 66) (kwd := []) CW.ob_eq
    (by kernel_rfl) (fun s => by kernel_rfl) CW.run (by kernel_rfl) (by kernel_rfl) (by kernel_rfl) (by rfl) (by first | assumption | decide +kernel) (by decide +kernel) ⟨rfl, rfl, rfl, rfl, rfl, by decide +kernel⟩ ?hw ?hc
  case hw => w_witness2
  case hc =>
    refine L2.walk_ofE (l := PySem.Challenge.rw_crossedwishes_k38_whole_what_two_ends_ag) (n := 63) (k := 12) (x := "_law_script") (CX := L2.CX0) rfl (by decide) (by kernel_rfl) ⟨rfl, by decide, by decide⟩ ?F (fun _ _ _ _ z => z)
    intro w mg fa h Y G hmg0
    obtain ⟨K, KX, c⟩ := Y
    have hmg : mg ("law" : PySem.Str) = some (.ref fa) := by
      have e : (HandSHeadRun.topDef (OpenLaw.row PySem.Challenge.rw_crossedwishes_k38_whole_what_two_ends_ag).prog 66).name = ("law" : PySem.Str) := by kernel_rfl
      rw [← e]
      exact hmg0
    obtain ⟨fd, hb, hF⟩ := CW.fin_facts (P := (PySem.Challenge.rw_crossedwishes_k38_whole_what_two_ends_ag).prog) (w := w) KX G hmg c
    exact ⟨K, fd, CW.spLaw K, KX, hb, fun H a ns hl _ hS => ⟨a, ns, rfl, hS, hl, CW.plain_law, fun _ => rfl⟩, hF⟩
