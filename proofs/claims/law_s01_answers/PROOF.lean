import PyProof.Rows.All
import Wide.All
import OpenK.AllK
import Wide.FinOn
import PyProof.EqAt
import PyProof.EqKinds
import PyProof.TupleCall
import Open.SpecLaws
import KE.OsGo
import KE.KAssignIn
import HandS.ForSpec
import HandS.ForMost
import HandS.TupLe
import HandS.TupAny
import HandS.DictTup
import HandS.SetFor
import HandS.Strs
import HandS.SortInts
import HandS.Style
import HandS.Zip
import HandS.TupLen
import HandS.Flow
import PyProof.DictMoreH
import VbrcafPlay
import KE.KExcInit
import HandS.Walk
import HandS.WordsExc
import HandS.WordsDict
import PySem.Challenge.RW_leadpoll_s01_answers
set_option Elab.async false
set_option linter.all false
set_option maxRecDepth 100000
set_option maxHeartbeats 4000000
/-! Part A: the program's members as plain functions over one record; plain Lean, nothing of the library. -/
namespace Lp
/-- a configuration as the program holds it -/
structure Cfg where
  voters : List Int
  outgoing : List Int
  everyone : List Int
/-- a member as the program holds it -/
structure M where
  number : Int
  position : Int × Int
  stored : Int × Int
  said : List (List Int)
  leaving : List (List Int)
  elections : List (Int × Int)
  runs : Bool
  term : Int
  vote : Int
  role : Int
  leader : Int
  elapsed : Int
  beat : Int
  ballot : List (Int × Bool)
  active : List Int
  pending : List (Int × Int)
  held : List (Int × List Int)
  issued : Int
  carried : Int

def isMajority (ms row : List Int) : Bool := decide ((row.length : Int) < 2 * ((row.filter fun n => ms.contains n).length : Int))
namespace Cfg
def votes (c : Cfg) (n : Int) : Bool := c.voters.contains n || c.outgoing.contains n
def isQuorum (c : Cfg) (ms : List Int) : Bool := isMajority ms c.voters && (c.outgoing.isEmpty || isMajority ms c.outgoing)
def others (c : Cfg) (n : Int) : List Int := c.everyone.filter fun m => !decide (m = n)
def otherVoters (c : Cfg) (n : Int) : List Int := (c.others n).filter c.votes
end Cfg
namespace M
def clear (m : M) : M := { m with term := 0, vote := 0, role := 0, leader := 0, elapsed := 0, beat := 0, ballot := [], active := [], pending := [], held := [], issued := 0, carried := 0 }
def start (m : M) : M := { m.clear with runs := true, term := m.stored.1, vote := m.stored.2 }
def stop (m : M) (count : Nat) : M := { ({ m with stored := (m.pending.take count).getLast?.getD m.stored } : M).clear with runs := false }
def fresh (n : Int) : M := ⟨n, (0, 0), (0, 0), [], [], [], true, 0, 0, 0, 0, 0, 0, [], [], [], [], 0, 0⟩
def reached (m : M) (i t : Int) : Bool := decide (m.position.2 < t) || (decide (m.position.2 = t) && decide (m.position.1 ≤ i))
def sheltered (m : M) : Bool := !decide (m.leader = 0) && decide (m.elapsed < 10)
def say (m : M) (r k : Int) (fs : List Int) (t : Int) : M := { m with said := m.said ++ [[m.number, r, t, k] ++ fs] }
def noted (m : M) (b : Int × Int) : M := if (m.term, m.vote) = b then m else { m with pending := m.pending ++ [(m.term, m.vote)], issued := m.issued + 1 }
def given (m : M) : M := if m.pending.isEmpty then { m with leaving := m.leaving ++ m.said } else { m with held := m.held ++ m.said.map fun r => (m.issued, r) }
def endInput (m : M) (b : Int × Int) : M := { (m.noted b).given with said := [] }
def follow (m : M) (l : Int) : M := { m with role := 0, leader := l, elapsed := 0, beat := 0, ballot := [], active := [] }
def join (m : M) (t l : Int) : M := ({ m with vote := if m.term < t then 0 else m.vote, term := t } : M).follow l
def sayAll (m : M) (rs : List Int) (k : Int) (fs : List Int) (t : Int) : M := { m with said := m.said ++ rs.map fun r => [m.number, r, t, k] ++ fs }
def sayHeartbeats (c : Cfg) (m : M) : M := m.sayAll (c.others m.number) 5 [] m.term
def askVotes (c : Cfg) (v : M) (h : Int) : M := v.sayAll (c.otherVoters v.number) 3 [v.position.1, v.position.2, h] v.term
def beginVote (c : Cfg) (m : M) (h : Int) : M := ({ m.follow 0 with term := m.term + 1, vote := m.number, role := 2 } : M).askVotes c h
def beginLead (c : Cfg) (m : M) : M := ({ m.follow m.number with role := 3, elections := m.elections ++ [(m.term, m.number)] } : M).sayHeartbeats c
def decide (c : Cfg) (m : M) : M :=
  if c.isQuorum ((m.ballot.filter fun b => b.2).map (·.1)) then (if m.role = 1 then m.beginVote c 0 else m.beginLead c)
  else if c.isQuorum (c.everyone.filter fun o => !((m.ballot.filter fun b => !b.2).map (·.1)).contains o) then m else m.follow 0
def added (m : M) (n : Int) (y : Bool) : M := if (m.ballot.map (·.1)).contains n then m else { m with ballot := m.ballot ++ [(n, y)] }
def count (c : Cfg) (m : M) (n : Int) (y : Bool) : M := (m.added n y).decide c
def askFirst (c : Cfg) (v : M) : M := (v.sayAll (c.otherVoters v.number) 1 [v.position.1, v.position.2] (v.term + 1)).decide c
def beginQuestion (c : Cfg) (m : M) : M := ({ m.follow 0 with role := 1, ballot := [(m.number, true)] } : M).askFirst c
def beats (c : Cfg) (m : M) : M := if 3 ≤ m.beat then ({ m with beat := 0 } : M).sayHeartbeats c else m
def tickOn (c : Cfg) (v : M) : M :=
  if 10 ≤ v.elapsed then (if c.isQuorum (v.number :: v.active) then ({ v with elapsed := 0, active := [] } : M).beats c else v.follow 0) else v.beats c
def tickLeader (c : Cfg) (m : M) : M := ({ m with elapsed := m.elapsed + 1, beat := m.beat + 1 } : M).tickOn c
def ticked (c : Cfg) (m : M) : M :=
  if m.role = 3 then m.tickLeader c
  else if m.elapsed + 1 < 10 + (7 * m.number + 3 * m.term) % 10 then { m with elapsed := m.elapsed + 1 }
  else if c.votes m.number then ({ m with elapsed := 0 } : M).beginQuestion c else { m with elapsed := 0, leader := 0 }
def tick (c : Cfg) (m : M) : M := (m.ticked c).endInput (m.term, m.vote)
def handOver (m : M) (target : Int) : M := (m.say target 9 [] m.term).endInput (m.term, m.vote)
def hearQuestion (m : M) (s t i l : Int) : M := if m.sheltered then m else if m.term < t ∧ m.reached i l = true then m.say s 2 [1] t else m.say s 2 [0] m.term
def hearAnswer (c : Cfg) (m : M) (s t g : Int) : M :=
  if g = 1 then (if m.role = 1 ∧ t = m.term + 1 then m.count c s true else m)
  else if m.term < t then m.join t 0
  else if m.role = 1 then m.count c s false else m
def grant (m : M) (s t i l : Int) : M :=
  if t = m.term ∧ m.reached i l = true then
    if m.vote = s ∨ (m.vote = 0 ∧ m.leader = 0) then (({ m with vote := s } : M).follow m.leader).say s 4 [1] m.term else m.say s 4 [0] m.term
  else m.say s 4 [0] m.term
def hearVote (m : M) (s t i l h : Int) : M :=
  if m.term < t then (if h = 0 ∧ m.sheltered = true then m else (m.join t 0).grant s t i l) else m.grant s t i l
/-- what a message is, but sender, receiver and term -/
inductive B where
  | question (i l : Int)
  | answer (g : Int)
  | vote (i l h : Int)
  | reply (g : Int)
  | beat
  | beatReply (a : Int)
  | now
def B.kind : B → Int
  | .question _ _ => 1
  | .answer _ => 2
  | .vote _ _ _ => 3
  | .reply _ => 4
  | .beat => 5
  | .beatReply _ => 6
  | .now => 9
def B.fields : B → List Int
  | .question i l => [i, l]
  | .answer g => [g]
  | .vote i l h => [i, l, h]
  | .reply g => [g]
  | .beat => []
  | .beatReply a => [a]
  | .now => []
def row (s r t : Int) (b : B) : List Int := [s, r, t, b.kind] ++ b.fields
def insertI (n : Int) : List Int → List Int
  | [] => [n]
  | m :: rest => if n < m then n :: m :: rest else if n = m then m :: rest else m :: insertI n rest
def activate (m : M) (s : Int) : M := if m.role = 3 then { m with active := insertI s m.active } else m
def hearCurrent (c : Cfg) (v : M) (s : Int) : B → M
  | .beat => v.say s 6 [1] v.term
  | .now => v.beginVote c 1
  | .beatReply _ => v.activate s
  | .reply g => if v.role = 2 then v.count c s (Decidable.decide (g = 1)) else v
  | _ => v
def hearOther (c : Cfg) (m : M) (s t : Int) (b : B) : M :=
  if t < m.term then (if b.kind = 5 then m.say s 6 [0] m.term else m)
  else
    (if b.kind = 5 ∨ b.kind = 9 then m.join t s else if m.term < t then m.join t 0 else m).hearCurrent c s b
def heard (c : Cfg) (m : M) (s t : Int) : B → M
  | .question i l => m.hearQuestion s t i l
  | .answer g => m.hearAnswer c s t g
  | .vote i l h => m.hearVote s t i l h
  | b => m.hearOther c s t b
def receive (c : Cfg) (m : M) (s t : Int) (b : B) : M := (m.heard c s t b).endInput (m.term, m.vote)
def written (m : M) (count : Nat) : M :=
  let ws := m.pending.take count
  let n : Int := m.carried + (ws.length : Int)
  { m with pending := m.pending.drop count, stored := ws.getLast?.getD m.stored, carried := n, leaving := m.leaving ++ (m.held.filter fun h => Decidable.decide (h.1 ≤ n)).map (·.2), held := m.held.filter fun h => Decidable.decide (n < h.1) }
def afterWrites (c : Cfg) (v : M) : M :=
  if v.role = 2 ∧ v.pending.isEmpty = true then (v.count c v.number true).endInput (v.term, v.vote) else v
def carryOut (c : Cfg) (m : M) (count : Nat) : M := (m.written count).afterWrites c
end M
end Lp
/-! Part B: the record's functions are the specification's, under a node's invariant. -/
namespace Lp
open VbrcCore VbrcafPlay
def iN (l : List Nat) : List Int := l.map fun n : Nat => (n : Int)
def toC (c : Config) : Cfg := ⟨iN c.voters, iN c.outgoing, iN (everyone c)⟩
def pS (s : Stored) : Int × Int := ((s.term : Int), (s.vote : Int))
def toM (n : Node) : M :=
  ⟨n.id, ((n.index : Int), (n.indexTerm : Int)), pS n.stored, [], [], [], n.alive, n.elector.term, n.elector.vote, roleCode n.elector.role, n.elector.leader, n.elector.elapsed, n.beat,
    n.elector.ballots.map fun b => ((b.1 : Int), b.2), iN n.active, n.writes.map pS, n.held.map fun h => ((h.need : Int), messageRow h.message), n.made, n.done⟩
def toW (lv : List (List Int)) (w : Work) : M := { toM w.node with said := w.out.map messageRow, leaving := lv, elections := w.elected.map fun t : Nat => ((t : Int), (w.node.id : Int)) }
def toO (o : Outcome) : M := { toM o.node with leaving := o.sent.map messageRow, elections := o.elected.map fun t : Nat => ((t : Int), (o.node.id : Int)) }

/-! ### lists -/
theorem beq_cast (n k : Nat) : ((n : Int) == (k : Int)) = (n == k) := by
  by_cases h : n = k
  · subst h; simp
  · have : ¬ (n : Int) = (k : Int) := by omega
    rw [beq_eq_false_iff_ne.mpr h, beq_eq_false_iff_ne.mpr this]
theorem iN_contains (l : List Nat) (n : Nat) : (iN l).contains (n : Int) = l.contains n := by
  unfold iN
  induction l with
  | nil => rfl
  | cons a l ih =>
    rw [List.map_cons, List.contains_cons, List.contains_cons, ih, beq_cast]
theorem iN_filter (l : List Nat) (p : Int → Bool) : (iN l).filter p = iN (l.filter fun n => p (n : Int)) := by
  unfold iN
  rw [List.filter_map]; rfl
theorem iN_length (l : List Nat) : (iN l).length = l.length := by simp [iN]
theorem mem_insertNumber (n : Nat) : ∀ (l : List Nat) (x : Nat), x ∈ insertNumber n l ↔ x = n ∨ x ∈ l
  | [], x => by simp [insertNumber]
  | m :: r, x => by
    have ih := mem_insertNumber n r x
    unfold insertNumber
    split
    · simp
    · split
      · rename_i h; subst h; simp
      · simp only [List.mem_cons, ih]
        constructor
        · rintro (h | h | h) <;> simp [h]
        · rintro (h | h | h) <;> simp [h]
theorem mem_foldInsert : ∀ (l acc : List Nat) (x : Nat), x ∈ l.foldl (fun l n => insertNumber n l) acc ↔ x ∈ l ∨ x ∈ acc
  | [], acc, x => by simp
  | n :: r, acc, x => by
    rw [List.foldl_cons, mem_foldInsert r, mem_insertNumber]
    simp only [List.mem_cons]
    constructor
    · rintro (h | h | h) <;> simp [h]
    · rintro ((h | h) | h) <;> simp [h]
theorem mem_everyone (c : Config) (x : Nat) : x ∈ everyone c ↔ x ∈ c.voters ∨ x ∈ c.outgoing ∨ x ∈ c.learners := by
  unfold everyone
  rw [mem_foldInsert, List.mem_append]
  constructor
  · rintro ((h | h) | h) <;> simp [h]
  · rintro (h | h | h) <;> simp [h]

/-! ### quorums -/
theorem majority_of (l : List Nat) (ms : List Int) (who : Nat → Bool) (h : ∀ n ∈ l, ms.contains (n : Int) = who n) : isMajority ms (iN l) = Vbrcaa.hasMajority l who := by
  unfold isMajority Vbrcaa.hasMajority
  rw [iN_filter, iN_length, iN_length]
  have e : (l.filter fun n : Nat => ms.contains (n : Int)) = l.filter who := List.filter_congr h
  rw [e]
  apply decide_eq_decide.mpr
  omega
theorem quorum_of (c : Config) (ms : List Int) (who : Nat → Bool) (h : ∀ n, n ∈ c.voters ∨ n ∈ c.outgoing → ms.contains (n : Int) = who n) : (toC c).isQuorum ms = Vbrcaa.isQuorum c who := by
  unfold Cfg.isQuorum Vbrcaa.isQuorum
  have e1 := majority_of c.voters ms who fun n hn => h n (.inl hn)
  have e2 := majority_of c.outgoing ms who fun n hn => h n (.inr hn)
  have e3 : (iN c.outgoing).isEmpty = c.outgoing.isEmpty := by unfold iN; cases c.outgoing <;> rfl
  show (isMajority ms (iN c.voters) && ((iN c.outgoing).isEmpty || isMajority ms (iN c.outgoing))) = _
  rw [e1, e2, e3]
theorem yes_contains (bs : List (Nat × Bool)) (y : Bool) (n : Nat) : (((bs.map fun b => ((b.1 : Int), b.2)).filter fun b => b.2 == y).map (·.1)).contains (n : Int) = bs.contains (n, y) := by
  induction bs with
  | nil => rfl
  | cons b r ih =>
    obtain ⟨k, z⟩ := b
    rw [List.map_cons, List.filter_cons, List.contains_cons]
    by_cases hz : (z == y) = true
    · rw [if_pos hz, List.map_cons, List.contains_cons, ih]
      have hz' : z = y := by simpa using hz
      subst hz'
      congr 1
      rw [beq_cast]
      show (n == k) = (n == k && z == z)
      simp
    · rw [if_neg hz, ih]
      have hz' : ¬ z = y := by simpa using hz
      have : ((n, y) == (k, z)) = false := by
        rw [beq_eq_false_iff_ne]
        intro e
        injection e with e1 e2
        exact hz' e2.symm
      rw [this, Bool.false_or]
theorem votes_of (c : Config) (n : Nat) : (toC c).votes (n : Int) = isVoter c n := by
  show ((iN c.voters).contains (n : Int) || (iN c.outgoing).contains (n : Int)) = _
  rw [iN_contains, iN_contains]; rfl
theorem others_of (c : Config) (n : Nat) : (toC c).others (n : Int) = iN (others c n) := by
  show (iN (everyone c)).filter _ = _
  rw [iN_filter]
  unfold VbrcafPlay.others
  congr 1
  apply List.filter_congr
  intro m _
  by_cases h : m = n
  · subst h; simp
  · have : ¬ (m : Int) = (n : Int) := by omega
    simp [h, this]
theorem otherVoters_of (c : Config) (n : Nat) : (toC c).otherVoters (n : Int) = iN (otherVoters c n) := by
  show ((toC c).others (n : Int)).filter (toC c).votes = _
  rw [others_of, iN_filter]
  unfold VbrcafPlay.otherVoters
  congr 1
  apply List.filter_congr
  intro m _
  exact votes_of c m

/-! ### saying -/
theorem foldSayIn (w : Work) (t : Work → Nat) (b : Work → Body) (l : List Nat) (ht : ∀ o : List Message, t { w with out := o } = t w) (hb : ∀ o : List Message, b { w with out := o } = b w) :
    l.foldl (fun x m => sayIn x (t x) m (b x)) w = { w with out := w.out ++ l.map fun m => ⟨w.node.id, m, t w, b w⟩ } := by
  have key : ∀ (l : List Nat) (o : List Message), l.foldl (fun x m => sayIn x (t x) m (b x)) { w with out := o } = { w with out := o ++ l.map fun m => ⟨w.node.id, m, t w, b w⟩ } := by
    intro l
    induction l with
    | nil => intro o; simp
    | cons a r ih =>
      intro o
      rw [List.foldl_cons]
      have e : sayIn { w with out := o } (t { w with out := o }) a (b { w with out := o }) = { w with out := o ++ [⟨w.node.id, a, t w, b w⟩] } := by
        rw [ht, hb]; rfl
      rw [e, ih]
      simp
  exact key l w.out
theorem toW_out (lv : List (List Int)) (w : Work) (ms : List Message) : toW lv { w with out := w.out ++ ms } = { toW lv w with said := (toW lv w).said ++ ms.map messageRow } := by
  unfold toW
  simp
theorem sayAll_of (lv : List (List Int)) (w : Work) (l : List Nat) (t : Nat) (b : Body) (k : Int) (fs : List Int) (hb : bodyRow b = k :: fs) :
    (toW lv w).sayAll (iN l) k fs (t : Int) = toW lv { w with out := w.out ++ l.map fun m => ⟨w.node.id, m, t, b⟩ } := by
  rw [toW_out]
  unfold M.sayAll
  congr 2
  unfold iN
  rw [List.map_map, List.map_map]
  apply List.map_congr_left
  intro m _
  simp [messageRow, toInts, hb, toW, toM]
theorem say_of (lv : List (List Int)) (w : Work) (r : Nat) (t : Nat) (b : Body) (k : Int) (fs : List Int) (hb : bodyRow b = k :: fs) :
    (toW lv w).say (r : Int) k fs (t : Int) = toW lv (sayIn w t r b) := by
  have := toW_out lv w [⟨w.node.id, r, t, b⟩]
  unfold sayIn
  rw [this]
  unfold M.say
  simp [messageRow, toInts, hb, toW, toM]

/-! ### the campaigns -/
theorem follow_of (lv : List (List Int)) (w : Work) (e : Elector) (h : e.role = .follower) (h1 : e.term = w.node.elector.term) (h2 : e.vote = w.node.elector.vote) (h3 : e.elapsed = 0) (h4 : e.ballots = []) :
    (toW lv w).follow (e.leader : Int) = toW lv (withElector w e) := by
  unfold withElector isLeader
  simp [h, M.follow, toW, toM, h1, h2, h3, h4, roleCode, iN]
theorem stepDown_of (lv : List (List Int)) (w : Work) : (toW lv w).follow 0 = toW lv (withElector w (Vbrcaf.stepDown w.node.elector)) := by
  have := follow_of lv w (Vbrcaf.stepDown w.node.elector) rfl rfl rfl rfl rfl
  exact this
theorem join_of (lv : List (List Int)) (w : Work) (t l : Nat) (h : w.node.elector.term ≤ t) : (toW lv w).join (t : Int) (l : Int) = toW lv (join w t l) := by
  unfold VbrcafPlay.join withElector isLeader Vbrcaf.joinTerm M.join M.follow
  by_cases e : t = w.node.elector.term
  · subst e
    simp [toW, toM, roleCode, iN]
  · have h1 : (w.node.elector.term : Int) < (t : Int) := by omega
    simp [toW, toM, roleCode, iN, h1, e]
theorem startVote_of (lv : List (List Int)) (c : Config) (h : Bool) (w : Work) : (toW lv w).beginVote (toC c) (ofBool h) = toW lv (startVote c h w) := by
  unfold startVote
  have e := foldSayIn (withElector w (Vbrcaf.beginVote w.node.id w.node.elector)) (fun x => x.node.elector.term) (fun x => .vote x.node.index x.node.indexTerm h) (otherVoters c (withElector w (Vbrcaf.beginVote w.node.id w.node.elector)).node.id) (fun _ => rfl) (fun _ => rfl)
  have e' : (otherVoters c (withElector w (Vbrcaf.beginVote w.node.id w.node.elector)).node.id).foldl (fun x m => say x m (.vote x.node.index x.node.indexTerm h)) (withElector w (Vbrcaf.beginVote w.node.id w.node.elector)) = _ := e
  show _ = toW lv ((otherVoters c (withElector w (Vbrcaf.beginVote w.node.id w.node.elector)).node.id).foldl (fun x m => say x m (.vote x.node.index x.node.indexTerm h)) (withElector w (Vbrcaf.beginVote w.node.id w.node.elector)))
  rw [e']
  have b : ∀ v : Work, bodyRow (.vote v.node.index v.node.indexTerm h) = 3 :: [(v.node.index : Int), (v.node.indexTerm : Int), ofBool h] := fun _ => rfl
  rw [← sayAll_of lv (withElector w (Vbrcaf.beginVote w.node.id w.node.elector)) _ _ _ 3 _ (b _)]
  have hv : ({ (toW lv w).follow 0 with term := (toW lv w).term + 1, vote := (toW lv w).number, role := 2 } : M) = toW lv (withElector w (Vbrcaf.beginVote w.node.id w.node.elector)) := by
    unfold withElector isLeader Vbrcaf.beginVote
    simp [M.follow, toW, toM, roleCode, iN]
  have ho := otherVoters_of c (withElector w (Vbrcaf.beginVote w.node.id w.node.elector)).node.id
  show M.askVotes (toC c) ({ (toW lv w).follow 0 with term := (toW lv w).term + 1, vote := (toW lv w).number, role := 2 } : M) (ofBool h) = _
  rw [hv]
  show M.sayAll _ ((toC c).otherVoters ((withElector w (Vbrcaf.beginVote w.node.id w.node.elector)).node.id : Int)) 3 _ _ = _
  rw [ho]
  rfl
theorem sendHeartbeats_of (lv : List (List Int)) (c : Config) (w : Work) : ({ toW lv w with beat := 0 } : M).sayHeartbeats (toC c) = toW lv (sendHeartbeats c w) := by
  unfold sendHeartbeats
  have e := foldSayIn { w with node := { w.node with beat := 0 } } (fun x => x.node.elector.term) (fun _ => heartbeatBody) (others c w.node.id) (fun _ => rfl) (fun _ => rfl)
  have e' : (others c w.node.id).foldl (fun x m => say x m heartbeatBody) { w with node := { w.node with beat := 0 } } = _ := e
  rw [e', ← sayAll_of lv { w with node := { w.node with beat := 0 } } _ _ _ 5 [] rfl]
  have ho := others_of c w.node.id
  show M.sayAll _ ((toC c).others (w.node.id : Int)) 5 [] _ = _
  rw [ho]
  rfl
theorem becomeLeader_of (lv : List (List Int)) (c : Config) (w : Work) : (toW lv w).beginLead (toC c) = toW lv (becomeLeader c w) := by
  unfold becomeLeader
  rw [← sendHeartbeats_of]
  unfold M.beginLead
  show M.sayHeartbeats _ _ = M.sayHeartbeats _ _
  congr 1
  simp [M.follow, toW, toM, roleCode, iN, Vbrcaf.lead]
/-- a member at work that isn't a leader keeps nothing of one -/
def Quiet (n : Node) : Prop := n.elector.role ≠ .leader → n.beat = 0 ∧ n.active = []
theorem decide_of (lv : List (List Int)) (c : Config) (w : Work) (h : w.node.elector.role = .candidate ∨ w.node.elector.role = .preCandidate) : (toW lv w).decide (toC c) = toW lv (decideBallot c w) := by
  unfold M.decide decideBallot Vbrcaa.tally
  have e1 : (toC c).isQuorum (((toW lv w).ballot.filter fun b => b.2).map (·.1)) = Vbrcaa.isQuorum c (fun m => w.node.elector.ballots.contains (m, true)) := by
    refine quorum_of c _ _ fun n _ => ?_
    have := yes_contains w.node.elector.ballots true n
    have e3 : (((toW lv w).ballot.filter fun b => b.2).map (·.1)).contains (n : Int) = w.node.elector.ballots.contains (n, true) := by
      rw [← this]
      congr 3
      funext b
      cases b.2 <;> rfl
    exact e3
  have e2 : (toC c).isQuorum ((toC c).everyone.filter fun o => !(((toW lv w).ballot.filter fun b => !b.2).map (·.1)).contains o) = Vbrcaa.isQuorum c (fun m => !w.node.elector.ballots.contains (m, false)) := by
    refine quorum_of c _ _ fun n hn => ?_
    have hme : n ∈ everyone c := (mem_everyone c n).mpr (hn.elim .inl fun z => .inr (.inl z))
    have := yes_contains w.node.elector.ballots false n
    have e3 : (((toW lv w).ballot.filter fun b => !b.2).map (·.1)).contains (n : Int) = w.node.elector.ballots.contains (n, false) := by
      rw [← this]
      congr 3
      funext b
      cases b.2 <;> rfl
    show ((iN (everyone c)).filter _).contains (n : Int) = _
    rw [iN_filter, iN_contains, ← e3]
    rw [Bool.eq_iff_iff]
    simp [hme]
  rw [e1, e2]
  by_cases q1 : Vbrcaa.isQuorum c (fun m => w.node.elector.ballots.contains (m, true)) = true
  · rw [if_pos q1, if_pos q1]
    rcases h with h | h
    · have : ¬ (toW lv w).role = 1 := by show ¬ roleCode w.node.elector.role = 1; rw [h]; decide
      rw [if_neg this]
      dsimp only
      rw [if_pos h]
      exact becomeLeader_of lv c w
    · have : (toW lv w).role = 1 := by show roleCode w.node.elector.role = 1; rw [h]; rfl
      rw [if_pos this]
      dsimp only
      rw [if_neg (by rw [h]; decide)]
      exact startVote_of lv c false w
  · rw [if_neg q1, if_neg q1]
    by_cases q2 : Vbrcaa.isQuorum c (fun m => !w.node.elector.ballots.contains (m, false)) = true
    · rw [if_pos q2, if_pos q2]
    · rw [if_neg q2, if_neg q2]
      exact stepDown_of lv w
end Lp
namespace Lp
open VbrcCore VbrcafPlay
/-! ### one input of a running member -/
theorem addBallot_of (lv : List (List Int)) (w : Work) (id : Nat) (g : Bool) (hq : Quiet w.node) (hr : w.node.elector.role ≠ .leader) : (toW lv w).added (id : Int) g = toW lv (withElector w (Vbrcaf.addBallot w.node.elector id g)) := by
  obtain ⟨h1, h2⟩ := hq hr
  have e : (((toW lv w).ballot.map (·.1)).contains (id : Int)) = w.node.elector.ballots.any fun b => b.1 = id := by
    show ((w.node.elector.ballots.map fun b => ((b.1 : Int), b.2)).map (·.1)).contains (id : Int) = _
    rw [List.map_map]
    induction w.node.elector.ballots with
    | nil => rfl
    | cons b r ih =>
      rw [List.map_cons, List.contains_cons, ih, List.any_cons]
      congr 1
      show ((id : Int) == (b.1 : Int)) = decide (b.1 = id)
      rw [beq_cast]
      exact decide_eq_decide.mpr eq_comm
  unfold M.added Vbrcaf.addBallot
  rw [e]
  have hw : ∀ e : Elector, e.role = w.node.elector.role → withElector w e = { w with node := { w.node with elector := e } } := by
    intro e he
    unfold withElector isLeader
    have : ¬ e.role = .leader := by rw [he]; exact hr
    simp only [this, decide_false]
    rw [if_neg Bool.false_ne_true]
    rw [← h1, ← h2]
  by_cases q : (w.node.elector.ballots.any fun b => b.1 = id) = true
  · rw [if_pos q, if_pos q, hw _ rfl]
  · rw [if_neg q, if_neg q, hw { w.node.elector with ballots := w.node.elector.ballots ++ [(id, g)] } rfl]
    simp [toW, toM]
theorem count_of (lv : List (List Int)) (c : Config) (w : Work) (id : Nat) (g : Bool) (hq : Quiet w.node) (h : w.node.elector.role = .candidate ∨ w.node.elector.role = .preCandidate) :
    (toW lv w).count (toC c) (id : Int) g = toW lv (countBallot c w id g) := by
  have hr : w.node.elector.role ≠ .leader := by rcases h with h | h <;> rw [h] <;> decide
  unfold M.count countBallot
  rw [addBallot_of lv w id g hq hr]
  refine decide_of lv c _ ?_
  have e : (withElector w (Vbrcaf.addBallot w.node.elector id g)).node.elector = Vbrcaf.addBallot w.node.elector id g := by
    unfold withElector; dsimp only; split <;> rfl
  rw [e]
  unfold Vbrcaf.addBallot
  split <;> exact h
theorem startPreVote_of (lv : List (List Int)) (c : Config) (w : Work) : (toW lv w).beginQuestion (toC c) = toW lv (startPreVote c w) := by
  unfold startPreVote
  have hv : ({ (toW lv w).follow 0 with role := 1, ballot := [((toW lv w).number, true)] } : M) = toW lv (withElector w (Vbrcaf.beginPreVote w.node.id w.node.elector)) := by
    unfold withElector isLeader Vbrcaf.beginPreVote
    simp [M.follow, toW, toM, roleCode, iN]
  have he : (withElector w (Vbrcaf.beginPreVote w.node.id w.node.elector)).node.elector.role = .preCandidate := by
    unfold withElector isLeader Vbrcaf.beginPreVote; simp
  show M.askFirst (toC c) ({ (toW lv w).follow 0 with role := 1, ballot := [((toW lv w).number, true)] } : M) = _
  rw [hv]
  dsimp only
  generalize withElector w (Vbrcaf.beginPreVote w.node.id w.node.elector) = v at he ⊢
  have e := foldSayIn v (fun x => x.node.elector.term + 1) (fun x => .preVote x.node.index x.node.indexTerm) (otherVoters c v.node.id) (fun _ => rfl) (fun _ => rfl)
  rw [e]
  have e2 := sayAll_of lv v (otherVoters c v.node.id) (v.node.elector.term + 1) (.preVote v.node.index v.node.indexTerm) 1 [(v.node.index : Int), (v.node.indexTerm : Int)] rfl
  have ho := otherVoters_of c v.node.id
  have e3 : (toW lv v).sayAll ((toC c).otherVoters (toW lv v).number) 1 [(toW lv v).position.1, (toW lv v).position.2] ((toW lv v).term + 1) = toW lv { v with out := v.out ++ (otherVoters c v.node.id).map fun m => ⟨v.node.id, m, v.node.elector.term + 1, .preVote v.node.index v.node.indexTerm⟩ } := by
    rw [← e2, ← ho]; rfl
  unfold M.askFirst
  rw [e3]
  exact decide_of lv c _ (.inr he)
theorem supported_of (c : Config) (n : Node) : (toC c).isQuorum ((n.id : Int) :: iN n.active) = isSupported c n := by
  unfold isSupported
  refine quorum_of c _ _ fun m _ => ?_
  rw [List.contains_cons, iN_contains, beq_cast]
  rfl
theorem beats_of (lv : List (List Int)) (c : Config) (w : Work) : (toW lv w).beats (toC c) = toW lv (if heartbeatTicks ≤ w.node.beat then sendHeartbeats c w else w) := by
  unfold M.beats heartbeatTicks
  by_cases h : 3 ≤ w.node.beat
  · have h' : (3 : Int) ≤ (toW lv w).beat := by show (3 : Int) ≤ (w.node.beat : Int); omega
    rw [if_pos h, if_pos h']
    exact sendHeartbeats_of lv c w
  · have h' : ¬ (3 : Int) ≤ (toW lv w).beat := by show ¬ (3 : Int) ≤ (w.node.beat : Int); omega
    rw [if_neg h, if_neg h']
def tickOnS (c : Config) (w : Work) : Work :=
  if decide (10 ≤ w.node.elector.elapsed) && !isSupported c w.node then withElector w (Vbrcaf.stepDown w.node.elector)
  else
    let n : Node := if 10 ≤ w.node.elector.elapsed then { w.node with elector := { w.node.elector with elapsed := 0 }, active := [] } else w.node
    if heartbeatTicks ≤ n.beat then sendHeartbeats c { w with node := n } else { w with node := n }
theorem tickOn_of (lv : List (List Int)) (c : Config) (w : Work) : (toW lv w).tickOn (toC c) = toW lv (tickOnS c w) := by
  unfold M.tickOn tickOnS
  have hs : (toC c).isQuorum ((toW lv w).number :: (toW lv w).active) = isSupported c w.node := supported_of c w.node
  rw [hs]
  by_cases h : 10 ≤ w.node.elector.elapsed
  · have h' : (10 : Int) ≤ (toW lv w).elapsed := by show (10 : Int) ≤ (w.node.elector.elapsed : Int); omega
    rw [if_pos h', if_pos h, decide_eq_true h, Bool.true_and]
    cases q : isSupported c w.node with
    | true =>
      rw [if_pos rfl, if_neg (by simp)]
      exact (beats_of lv c { w with node := { w.node with elector := { w.node.elector with elapsed := 0 }, active := [] } })
    | false =>
      rw [if_neg Bool.false_ne_true, if_pos (by rfl)]
      exact stepDown_of lv w
  · have h' : ¬ (10 : Int) ≤ (toW lv w).elapsed := by show ¬ (10 : Int) ≤ (w.node.elector.elapsed : Int); omega
    rw [if_neg h', if_neg h, decide_eq_false h, Bool.false_and, if_neg Bool.false_ne_true]
    exact beats_of lv c w
theorem tickLeader_of (lv : List (List Int)) (c : Config) (w : Work) : (toW lv w).tickLeader (toC c) = toW lv (tickLeader c w) := by
  have hv : ({ toW lv w with elapsed := (toW lv w).elapsed + 1, beat := (toW lv w).beat + 1 } : M) = toW lv { w with node := { w.node with elector := { w.node.elector with elapsed := w.node.elector.elapsed + 1 }, beat := w.node.beat + 1 } } := by
    simp [toW, toM]
  show M.tickOn (toC c) ({ toW lv w with elapsed := (toW lv w).elapsed + 1, beat := (toW lv w).beat + 1 } : M) = _
  rw [hv, tickOn_of]
  rfl
theorem role_leader (r : Role) : roleCode r = 3 ↔ r = .leader := by cases r <;> simp [roleCode]
theorem role_asking (r : Role) : roleCode r = 1 ↔ r = .preCandidate := by cases r <;> simp [roleCode]
theorem role_candidate (r : Role) : roleCode r = 2 ↔ r = .candidate := by cases r <;> simp [roleCode]
theorem ticked_of (lv : List (List Int)) (c : Config) (w : Work) (hq : Quiet w.node) : (toW lv w).ticked (toC c) = toW lv (tick c w) := by
  unfold M.ticked tick isLeader
  by_cases h : w.node.elector.role = .leader
  · have h' : (toW lv w).role = 3 := (role_leader _).mpr h
    rw [if_pos h', decide_eq_true h, if_pos rfl]
    exact tickLeader_of lv c w
  · have h' : ¬ (toW lv w).role = 3 := fun z => h ((role_leader _).mp z)
    rw [if_neg h', decide_eq_false h, if_neg Bool.false_ne_true]
    obtain ⟨h1, h2⟩ := hq h
    have hw : ∀ e : Elector, e.role = w.node.elector.role → withElector w e = { w with node := { w.node with elector := e } } := by
      intro e he
      unfold withElector isLeader
      have : ¬ e.role = .leader := by rw [he]; exact h
      simp only [this, decide_false]
      rw [if_neg Bool.false_ne_true]
      rw [← h1, ← h2]
    unfold Vbrcaf.tickIdle campaignTicks
    have ev : (toC c).votes (toW lv w).number = isVoter c w.node.id := votes_of c w.node.id
    rw [ev]
    by_cases q : w.node.elector.elapsed + 1 < 10 + (7 * w.node.id + 3 * w.node.elector.term) % 10
    · have q' : (toW lv w).elapsed + 1 < 10 + (7 * (toW lv w).number + 3 * (toW lv w).term) % 10 := by
        show (w.node.elector.elapsed : Int) + 1 < 10 + (7 * (w.node.id : Int) + 3 * (w.node.elector.term : Int)) % 10
        omega
      rw [if_pos q', if_pos q]
      dsimp only
      rw [if_neg Bool.false_ne_true, hw { w.node.elector with elapsed := w.node.elector.elapsed + 1 } rfl]
      simp [toW, toM]
    · have q' : ¬ (toW lv w).elapsed + 1 < 10 + (7 * (toW lv w).number + 3 * (toW lv w).term) % 10 := by
        show ¬ (w.node.elector.elapsed : Int) + 1 < 10 + (7 * (w.node.id : Int) + 3 * (w.node.elector.term : Int)) % 10
        omega
      rw [if_neg q', if_neg q]
      dsimp only
      cases hv : isVoter c w.node.id with
      | true =>
        rw [if_pos rfl, if_pos rfl, if_pos rfl]
        rw [hw { w.node.elector with elapsed := 0, leader := w.node.elector.leader } rfl, ← startPreVote_of]
        rfl
      | false =>
        rw [if_neg Bool.false_ne_true, if_neg Bool.false_ne_true, if_neg Bool.false_ne_true]
        rw [hw { w.node.elector with elapsed := 0, leader := 0 } rfl]
        simp [toW, toM]

/-! ### the end of an input -/
/-- the writes not yet carried out are as many as were issued and not carried out -/
def Even (n : Node) : Prop := n.made = n.done + n.writes.length
theorem current_of (lv : List (List Int)) (w : Work) : ((toW lv w).term, (toW lv w).vote) = pS (current w.node) := rfl
theorem pS_inj {a b : Stored} (h : pS a = pS b) : a = b := by
  obtain ⟨t, v⟩ := a
  obtain ⟨t', v'⟩ := b
  unfold pS at h
  injection h with h1 h2
  have h1 : (t : Int) = (t' : Int) := h1
  have h2 : (v : Int) = (v' : Int) := h2
  have e1 : t = t' := by omega
  have e2 : v = v' := by omega
  subst e1 e2
  rfl
/-- the second half of finish -/
def endO (w : Work) : Outcome := if w.node.done < w.node.made then ⟨{ w.node with held := w.node.held ++ w.out.map fun m => ⟨w.node.made, m⟩ }, [], w.elected, 0⟩ else ⟨w.node, w.out, w.elected, 0⟩
def noteW (b : Stored) (w : Work) : Work := if current w.node = b then w else { w with node := { w.node with writes := w.node.writes ++ [current w.node], made := w.node.made + 1 } }
theorem finish_eq (b : Stored) (w : Work) : finish b w = endO (noteW b w) := by
  unfold finish noteW
  by_cases h : current w.node = b
  · rw [if_pos h, if_pos h]; rfl
  · rw [if_neg h, if_neg h]; rfl
theorem noteW_even (b : Stored) (w : Work) (he : Even w.node) : Even (noteW b w).node := by
  unfold noteW
  split
  · exact he
  · unfold Even at he ⊢
    show w.node.made + 1 = w.node.done + (w.node.writes ++ [current w.node]).length
    rw [List.length_append, he]; simp; omega
theorem even_iff {n : Node} (h : Even n) : n.done < n.made ↔ n.writes ≠ [] := by
  unfold Even at h
  cases e : n.writes with
  | nil => rw [h, e]; simp
  | cons a r => rw [h, e]; simp
theorem given_of (lv : List (List Int)) (w : Work) (he : Even w.node) : ({ (toW lv w).given with said := [] } : M) = { toO (endO w) with leaving := lv ++ (endO w).sent.map messageRow } := by
  unfold M.given endO
  have e : (toW lv w).pending = w.node.writes.map pS := rfl
  rw [e]
  by_cases h : w.node.done < w.node.made
  · have hw := (even_iff he).mp h
    have h1 : ¬ (w.node.writes.map pS).isEmpty = true := by
      cases q : w.node.writes with
      | nil => exact absurd q hw
      | cons a r => simp
    rw [if_neg h1, if_pos h]
    simp [toO, toM, toW]
  · have hw : w.node.writes = [] := by
      cases q : w.node.writes with
      | nil => rfl
      | cons a r => exact absurd ((even_iff he).mpr (by rw [q]; simp)) h
    rw [if_pos (by rw [hw]; rfl), if_neg h]
    simp [toO, toM, toW]
theorem noted_of (lv : List (List Int)) (b : Stored) (w : Work) : (toW lv w).noted (pS b) = toW lv (noteW b w) := by
  unfold M.noted noteW
  rw [current_of]
  by_cases h : current w.node = b
  · rw [if_pos (by rw [h]), if_pos h]
  · rw [if_neg (fun z => h (pS_inj z)), if_neg h]
    simp [toW, toM]
theorem finish_of (lv : List (List Int)) (b : Stored) (w : Work) (he : Even w.node) :
    (toW lv w).endInput (pS b) = { toO (finish b w) with leaving := lv ++ (finish b w).sent.map messageRow } := by
  unfold M.endInput
  rw [noted_of, finish_eq]
  exact given_of lv _ (noteW_even b w he)
end Lp
namespace Lp
open VbrcCore VbrcafPlay
/-! ### a message arrives -/
def bodyB : Body → M.B
  | .preVote i t => .question i t
  | .preVoteReply b => .answer (ofBool b)
  | .vote i t h => .vote i t (ofBool h)
  | .voteReply b => .reply (ofBool b)
  | .append _ _ _ _ _ => .beat
  | .appendReply b _ _ _ _ => .beatReply (ofBool b)
  | _ => .now
/-- the bodies that members send -/
def Sent : Body → Prop
  | .chunk _ _ _ _ _ _ _ => False
  | .chunkReply _ _ _ => False
  | .readAsk _ _ => False
  | .readReply _ _ _ => False
  | _ => True
theorem row_of (m : Message) : messageRow m = M.row m.sender m.receiver m.term (bodyB m.body) := by
  obtain ⟨s, r, t, b⟩ := m
  cases b <;> rfl
theorem reached_of (lv : List (List Int)) (w : Work) (i t : Nat) : (toW lv w).reached i t = isUpToDate w.node i t := by
  unfold M.reached isUpToDate
  show (decide ((w.node.indexTerm : Int) < (t : Int)) || (decide ((w.node.indexTerm : Int) = (t : Int)) && decide ((w.node.index : Int) ≤ (i : Int)))) = _
  congr 1
  · exact decide_eq_decide.mpr (by omega)
  · congr 1
    · exact decide_eq_decide.mpr (by omega)
    · exact decide_eq_decide.mpr (by omega)
theorem sheltered_of (lv : List (List Int)) (w : Work) : (toW lv w).sheltered = Vbrcaf.isSheltered w.node.elector := by
  unfold M.sheltered Vbrcaf.isSheltered electionTicks
  show (!decide ((w.node.elector.leader : Int) = 0) && decide ((w.node.elector.elapsed : Int) < 10)) = _
  congr 1
  · rw [Bool.eq_iff_iff]
    simp
  · exact decide_eq_decide.mpr (by omega)
theorem hearQuestion_of (lv : List (List Int)) (c : Config) (w : Work) (s r t i l : Nat) : (toW lv w).hearQuestion s t i l = toW lv (receive c ⟨s, r, t, .preVote i l⟩ w) := by
  unfold M.hearQuestion receive Vbrcaf.answerPreVote
  dsimp only
  rw [sheltered_of, reached_of]
  cases h : Vbrcaf.isSheltered w.node.elector with
  | true => rw [if_pos rfl]; rfl
  | false =>
    rw [if_neg Bool.false_ne_true, if_neg Bool.false_ne_true]
    by_cases q : w.node.elector.term < t ∧ isUpToDate w.node i l = true
    · have q' : (toW lv w).term < (t : Int) ∧ isUpToDate w.node i l = true := ⟨by show (w.node.elector.term : Int) < (t : Int); omega, q.2⟩
      have e : (decide (w.node.elector.term < t) && isUpToDate w.node i l) = true := by rw [decide_eq_true q.1, q.2]; rfl
      rw [if_pos q', e]
      exact say_of lv w s t (.preVoteReply true) 2 [1] rfl
    · have q' : ¬ ((toW lv w).term < (t : Int) ∧ isUpToDate w.node i l = true) := fun z => q ⟨by have := z.1; have : (w.node.elector.term : Int) < (t : Int) := this; omega, z.2⟩
      have e : (decide (w.node.elector.term < t) && isUpToDate w.node i l) = false := by
        rw [Bool.eq_false_iff]
        intro z
        rw [Bool.and_eq_true, decide_eq_true_eq] at z
        exact q z
      rw [if_neg q', e]
      exact say_of lv w s w.node.elector.term (.preVoteReply false) 2 [0] rfl
theorem hearAnswer_of (lv : List (List Int)) (c : Config) (w : Work) (s r t : Nat) (g : Bool) (hq : Quiet w.node) : (toW lv w).hearAnswer (toC c) s t (ofBool g) = toW lv (receive c ⟨s, r, t, .preVoteReply g⟩ w) := by
  unfold M.hearAnswer receive
  dsimp only
  have er : (toW lv w).role = roleCode w.node.elector.role := rfl
  cases g with
  | true =>
    rw [if_pos (show ofBool true = 1 from rfl), if_pos rfl]
    by_cases q : w.node.elector.role = .preCandidate ∧ t = w.node.elector.term + 1
    · have q' : (toW lv w).role = 1 ∧ (t : Int) = (toW lv w).term + 1 := ⟨(role_asking _).mpr q.1, by show (t : Int) = (w.node.elector.term : Int) + 1; have := q.2; omega⟩
      rw [if_pos q', if_pos (by rw [decide_eq_true q.1, decide_eq_true q.2]; rfl)]
      exact count_of lv c w s true hq (.inr q.1)
    · have q' : ¬ ((toW lv w).role = 1 ∧ (t : Int) = (toW lv w).term + 1) := fun z => q ⟨(role_asking _).mp z.1, by have : (t : Int) = (w.node.elector.term : Int) + 1 := z.2; omega⟩
      rw [if_neg q', if_neg]
      intro z
      rw [Bool.and_eq_true, decide_eq_true_eq, decide_eq_true_eq] at z
      exact q z
  | false =>
    rw [if_neg (show ¬ ofBool false = 1 by decide), if_neg Bool.false_ne_true]
    by_cases q : w.node.elector.term < t
    · have q' : (toW lv w).term < (t : Int) := by show (w.node.elector.term : Int) < (t : Int); omega
      rw [if_pos q', if_pos q]
      exact join_of lv w t 0 (Nat.le_of_lt q)
    · have q' : ¬ (toW lv w).term < (t : Int) := by show ¬ (w.node.elector.term : Int) < (t : Int); omega
      rw [if_neg q', if_neg q]
      by_cases p : w.node.elector.role = .preCandidate
      · have p' : (toW lv w).role = 1 := (role_asking _).mpr p
        rw [if_pos p', if_pos p]
        exact count_of lv c w s false hq (.inr p)
      · have p' : ¬ (toW lv w).role = 1 := fun z => p ((role_asking _).mp z)
        rw [if_neg p', if_neg p]
theorem withElector_same (w : Work) (hq : Quiet w.node) : withElector w w.node.elector = w := by
  unfold withElector isLeader
  by_cases h : w.node.elector.role = .leader
  · simp [h]
  · obtain ⟨h1, h2⟩ := hq h
    simp only [h, decide_false]
    rw [if_neg Bool.false_ne_true, ← h1, ← h2]
/-- the answer to a vote in the member's own term or a past one -/
def grantS (e : Elector) (s t : Nat) (up : Bool) : Elector × Bool :=
  if t < e.term then (e, false)
  else if (decide (e.vote = s) || (decide (e.vote = 0) && decide (e.leader = 0))) && up then ({ e with vote := s, role := .follower, elapsed := 0, ballots := [] }, true)
  else (e, false)
theorem answerVote_eq (e : Elector) (s t : Nat) (up h : Bool) : Vbrcaf.answerVote e s t up h =
    if decide (e.term < t) && (!h && Vbrcaf.isSheltered e) then (e, none) else ((grantS (if e.term < t then Vbrcaf.joinTerm e t 0 else e) s t up).1, some (grantS (if e.term < t then Vbrcaf.joinTerm e t 0 else e) s t up).2) := by
  unfold Vbrcaf.answerVote grantS
  split
  · rfl
  · dsimp only
    generalize (if e.term < t then Vbrcaf.joinTerm e t 0 else e) = f
    by_cases h1 : t < f.term
    · rw [if_pos h1, if_pos h1]
    · rw [if_neg h1, if_neg h1]
      by_cases h2 : ((decide (f.vote = s) || (decide (f.vote = 0) && decide (f.leader = 0))) && up) = true
      · rw [if_pos h2, if_pos h2]
      · rw [if_neg h2, if_neg h2]
theorem grant_of (lv : List (List Int)) (w : Work) (s t i l : Nat) (hq : Quiet w.node) (ht : t ≤ w.node.elector.term) :
    (toW lv w).grant s t i l = toW lv (say (withElector w (grantS w.node.elector s t (isUpToDate w.node i l)).1) s (.voteReply (grantS w.node.elector s t (isUpToDate w.node i l)).2)) := by
  have no : (toW lv w).say s 4 [0] (toW lv w).term = toW lv (say (withElector w w.node.elector) s (.voteReply false)) := by
    rw [withElector_same w hq]
    exact say_of lv w s w.node.elector.term (.voteReply false) 4 [0] rfl
  unfold M.grant grantS
  rw [reached_of]
  by_cases h : t < w.node.elector.term
  · have h' : ¬ ((t : Int) = (toW lv w).term ∧ isUpToDate w.node i l = true) := fun z => by
      have : (t : Int) = (w.node.elector.term : Int) := z.1
      omega
    rw [if_neg h', if_pos h]
    exact no
  · rw [if_neg h]
    have et : t = w.node.elector.term := by omega
    have et' : (t : Int) = (toW lv w).term := by show (t : Int) = (w.node.elector.term : Int); omega
    cases u : isUpToDate w.node i l with
    | false =>
      rw [if_neg (fun z => Bool.false_ne_true z.2), Bool.and_false, if_neg Bool.false_ne_true]
      exact no
    | true =>
      rw [if_pos ⟨et', rfl⟩, Bool.and_true]
      by_cases q : w.node.elector.vote = s ∨ (w.node.elector.vote = 0 ∧ w.node.elector.leader = 0)
      · have q' : (toW lv w).vote = (s : Int) ∨ ((toW lv w).vote = 0 ∧ (toW lv w).leader = 0) := by
          show (w.node.elector.vote : Int) = (s : Int) ∨ ((w.node.elector.vote : Int) = 0 ∧ (w.node.elector.leader : Int) = 0)
          omega
        have e : (decide (w.node.elector.vote = s) || (decide (w.node.elector.vote = 0) && decide (w.node.elector.leader = 0))) = true := by
          simp only [Bool.or_eq_true, Bool.and_eq_true, decide_eq_true_eq]; exact q
        rw [if_pos q', if_pos e]
        have k : (({ toW lv w with vote := (s : Int) } : M).follow (toW lv w).leader) = toW lv (withElector w { w.node.elector with vote := s, role := .follower, elapsed := 0, ballots := [] }) := by
          unfold withElector isLeader
          simp [M.follow, toW, toM, roleCode, iN]
        rw [k]
        have e2 : (toW lv w).term = ((withElector w { w.node.elector with vote := s, role := .follower, elapsed := 0, ballots := [] }).node.elector.term : Int) := by
          unfold withElector isLeader; simp [toW, toM]
        rw [e2]
        exact say_of lv _ s _ (.voteReply true) 4 [1] rfl
      · have q' : ¬ ((toW lv w).vote = (s : Int) ∨ ((toW lv w).vote = 0 ∧ (toW lv w).leader = 0)) := by
          show ¬ ((w.node.elector.vote : Int) = (s : Int) ∨ ((w.node.elector.vote : Int) = 0 ∧ (w.node.elector.leader : Int) = 0))
          omega
        have e : ¬ (decide (w.node.elector.vote = s) || (decide (w.node.elector.vote = 0) && decide (w.node.elector.leader = 0))) = true := by
          simp only [Bool.or_eq_true, Bool.and_eq_true, decide_eq_true_eq]; exact q
        rw [if_neg q', if_neg e]
        exact no
theorem hearVote_of (lv : List (List Int)) (c : Config) (w : Work) (s r t i l : Nat) (h : Bool) (hq : Quiet w.node) : (toW lv w).hearVote s t i l (ofBool h) = toW lv (receive c ⟨s, r, t, .vote i l h⟩ w) := by
  unfold M.hearVote receive
  dsimp only
  rw [answerVote_eq, sheltered_of]
  have eh : (ofBool h = 0) ↔ h = false := by cases h <;> decide
  by_cases q : w.node.elector.term < t
  · have q' : (toW lv w).term < (t : Int) := by show (w.node.elector.term : Int) < (t : Int); omega
    rw [if_pos q', if_pos q, decide_eq_true q, Bool.true_and]
    by_cases p : h = false ∧ Vbrcaf.isSheltered w.node.elector = true
    · have p' : (!h && Vbrcaf.isSheltered w.node.elector) = true := by rw [p.1, p.2]; rfl
      rw [if_pos ⟨eh.mpr p.1, p.2⟩, if_pos p']
      dsimp only
      rw [withElector_same w hq]
    · have p' : ¬ (!h && Vbrcaf.isSheltered w.node.elector) = true := fun z => by
        rw [Bool.and_eq_true] at z
        exact p ⟨by simpa using z.1, z.2⟩
      rw [if_neg (fun z => p ⟨eh.mp z.1, z.2⟩), if_neg p']
      dsimp only
      have ej := join_of lv w t 0 (Nat.le_of_lt q)
      rw [show ((0 : Nat) : Int) = 0 from rfl] at ej
      rw [ej]
      have k1 : (join w t 0).node.elector = Vbrcaf.joinTerm w.node.elector t 0 := by unfold VbrcafPlay.join withElector; dsimp only; split <;> rfl
      have kq : Quiet (join w t 0).node := by
        unfold Quiet VbrcafPlay.join withElector isLeader Vbrcaf.joinTerm
        intro _
        simp
      have k2 : isUpToDate (join w t 0).node i l = isUpToDate w.node i l := by unfold VbrcafPlay.join withElector isUpToDate; dsimp only; split <;> rfl
      have g := grant_of lv (join w t 0) s t i l kq (by rw [k1]; exact Nat.le_refl _)
      rw [g, k1, k2]
      have er : (grantS (Vbrcaf.joinTerm w.node.elector t 0) s t (isUpToDate w.node i l)).1.role = .follower := by
        unfold grantS
        split
        · rfl
        · split <;> rfl
      generalize grantS (Vbrcaf.joinTerm w.node.elector t 0) s t (isUpToDate w.node i l) = gs at er ⊢
      have e3 : withElector (join w t 0) gs.1 = withElector w gs.1 := by
        unfold VbrcafPlay.join withElector isLeader
        simp [er, Vbrcaf.joinTerm]
      rw [e3]
  · have q' : ¬ (toW lv w).term < (t : Int) := by show ¬ (w.node.elector.term : Int) < (t : Int); omega
    rw [if_neg q', if_neg q, decide_eq_false q, Bool.false_and, if_neg Bool.false_ne_true]
    dsimp only
    exact grant_of lv w s t i l hq (by omega)
end Lp
namespace Lp
open VbrcCore VbrcafPlay
theorem join_quiet (w : Work) (t l : Nat) : Quiet (join w t l).node := by
  unfold Quiet VbrcafPlay.join withElector isLeader Vbrcaf.joinTerm
  intro _
  simp
theorem insertI_of (s : Nat) : ∀ l : List Nat, M.insertI (s : Int) (iN l) = iN (insertNumber s l)
  | [] => rfl
  | m :: r => by
    have ih := insertI_of s r
    show (if (s : Int) < (m : Int) then (s : Int) :: (m : Int) :: iN r else if (s : Int) = (m : Int) then (m : Int) :: iN r else (m : Int) :: M.insertI (s : Int) (iN r)) = iN (if s < m then s :: m :: r else if s = m then m :: r else m :: insertNumber s r)
    by_cases h1 : s < m
    · rw [if_pos h1, if_pos (by omega)]; rfl
    · rw [if_neg h1, if_neg (by omega)]
      by_cases h2 : s = m
      · rw [if_pos h2, if_pos (by omega)]; rfl
      · rw [if_neg h2, if_neg (by omega), ih]; rfl
theorem hearCurrent_of (lv : List (List Int)) (c : Config) (v : Work) (s : Nat) (b : Body) (hb : Sent b) (hq : Quiet v.node) (h1 : ∀ i l, b ≠ .preVote i l) (h2 : ∀ g, b ≠ .preVoteReply g) (h3 : ∀ i l h, b ≠ .vote i l h) :
    (toW lv v).hearCurrent (toC c) s (bodyB b) = toW lv (receiveCurrent c v s b) := by
  cases b with
  | preVote i l => exact absurd rfl (h1 i l)
  | preVoteReply g => exact absurd rfl (h2 g)
  | vote i l h => exact absurd rfl (h3 i l h)
  | append _ _ _ _ _ => exact say_of lv v s v.node.elector.term (heartbeatReply true) 6 [1] rfl
  | campaignNow => exact startVote_of lv c true v
  | appendReply a _ _ _ _ =>
    show (toW lv v).activate s = toW lv (if isLeader v.node then { v with node := { v.node with active := insertNumber s v.node.active } } else v)
    unfold M.activate isLeader
    by_cases h : v.node.elector.role = .leader
    · have h' : (toW lv v).role = 3 := (role_leader _).mpr h
      rw [if_pos h', decide_eq_true h, if_pos rfl]
      have e : M.insertI (s : Int) (toW lv v).active = iN (insertNumber s v.node.active) := insertI_of s v.node.active
      rw [e]
      simp [toW, toM]
    · have h' : ¬ (toW lv v).role = 3 := fun z => h ((role_leader _).mp z)
      rw [if_neg h', decide_eq_false h, if_neg Bool.false_ne_true]
  | voteReply g =>
    show (if (toW lv v).role = 2 then (toW lv v).count (toC c) s (Decidable.decide (ofBool g = 1)) else toW lv v) = toW lv (if v.node.elector.role = .candidate then countBallot c v s g else v)
    by_cases h : v.node.elector.role = .candidate
    · have h' : (toW lv v).role = 2 := (role_candidate _).mpr h
      rw [if_pos h', if_pos h]
      have e : Decidable.decide (ofBool g = 1) = g := by cases g <;> rfl
      rw [e]
      exact count_of lv c v s g hq (.inl h)
    · have h' : ¬ (toW lv v).role = 2 := fun z => h ((role_candidate _).mp z)
      rw [if_neg h', if_neg h]
  | chunk _ _ _ _ _ _ _ => exact absurd hb id
  | chunkReply _ _ _ => exact absurd hb id
  | readAsk _ _ => exact absurd hb id
  | readReply _ _ _ => exact absurd hb id
/-- a body that isn't handled ahead -/
def Late : Body → Prop
  | .append _ _ _ _ _ => True
  | .appendReply _ _ _ _ _ => True
  | .voteReply _ => True
  | .campaignNow => True
  | _ => False
theorem receive_late (c : Config) (w : Work) (s r t : Nat) (b : Body) (hb : Late b) : receive c ⟨s, r, t, b⟩ w =
    if t < w.node.elector.term then (match b with
      | .append _ _ _ _ _ => say w s (heartbeatReply false)
      | _ => w)
    else receiveCurrent c (if isFromLeader b then join w t s else if w.node.elector.term < t then join w t 0 else w) s b := by
  cases b <;> first | rfl | exact absurd hb id
theorem kind_from (b : Body) (hb : Late b) : ((bodyB b).kind = 5 ∨ (bodyB b).kind = 9) ↔ isFromLeader b = true := by
  cases b <;> first | exact absurd hb id | simp [bodyB, M.B.kind, isFromLeader]
theorem late_sent (b : Body) (hb : Late b) : Sent b := by cases b <;> first | trivial | exact absurd hb id
theorem hearOther_of (lv : List (List Int)) (c : Config) (w : Work) (s r t : Nat) (b : Body) (hb : Late b) (hq : Quiet w.node) : (toW lv w).hearOther (toC c) s t (bodyB b) = toW lv (receive c ⟨s, r, t, b⟩ w) := by
  rw [receive_late c w s r t b hb]
  unfold M.hearOther
  by_cases h : t < w.node.elector.term
  · have h' : (t : Int) < (toW lv w).term := by show (t : Int) < (w.node.elector.term : Int); omega
    rw [if_pos h, if_pos h']
    cases b with
    | append _ _ _ _ _ => exact say_of lv w s w.node.elector.term (heartbeatReply false) 6 [0] rfl
    | appendReply a _ _ _ _ => rfl
    | voteReply g => rfl
    | campaignNow => rfl
    | _ => exact absurd hb id
  · have h' : ¬ (t : Int) < (toW lv w).term := by show ¬ (t : Int) < (w.node.elector.term : Int); omega
    rw [if_neg h, if_neg h']
    have hs := late_sent b hb
    have n1 : ∀ i l, b ≠ .preVote i l := fun i l e => by rw [e] at hb; exact hb
    have n2 : ∀ g, b ≠ .preVoteReply g := fun g e => by rw [e] at hb; exact hb
    have n3 : ∀ i l h, b ≠ .vote i l h := fun i l h e => by rw [e] at hb; exact hb
    by_cases k : isFromLeader b = true
    · rw [if_pos ((kind_from b hb).mpr k), if_pos k, join_of lv w t s (by omega)]
      exact hearCurrent_of lv c _ s b hs (join_quiet w t s) n1 n2 n3
    · rw [if_neg (fun z => k ((kind_from b hb).mp z)), if_neg k]
      by_cases q : w.node.elector.term < t
      · have q' : (toW lv w).term < (t : Int) := by show (w.node.elector.term : Int) < (t : Int); omega
        rw [if_pos q', if_pos q]
        have ej := join_of lv w t 0 (by omega)
        rw [show ((0 : Nat) : Int) = 0 from rfl] at ej
        rw [ej]
        exact hearCurrent_of lv c _ s b hs (join_quiet w t 0) n1 n2 n3
      · have q' : ¬ (toW lv w).term < (t : Int) := by show ¬ (w.node.elector.term : Int) < (t : Int); omega
        rw [if_neg q', if_neg q]
        exact hearCurrent_of lv c _ s b hs hq n1 n2 n3
theorem heard_of (lv : List (List Int)) (c : Config) (w : Work) (m : Message) (hb : Sent m.body) (hq : Quiet w.node) : (toW lv w).heard (toC c) m.sender m.term (bodyB m.body) = toW lv (receive c m w) := by
  obtain ⟨s, r, t, b⟩ := m
  cases b with
  | preVote i l => exact hearQuestion_of lv c w s r t i l
  | preVoteReply g => exact hearAnswer_of lv c w s r t g hq
  | vote i l h => exact hearVote_of lv c w s r t i l h hq
  | append a1 a2 a3 a4 a5 => exact hearOther_of lv c w s r t (.append a1 a2 a3 a4 a5) trivial hq
  | appendReply a1 a2 a3 a4 a5 => exact hearOther_of lv c w s r t (.appendReply a1 a2 a3 a4 a5) trivial hq
  | voteReply g => exact hearOther_of lv c w s r t (.voteReply g) trivial hq
  | campaignNow => exact hearOther_of lv c w s r t .campaignNow trivial hq
  | chunk _ _ _ _ _ _ _ => exact absurd hb id
  | chunkReply _ _ _ => exact absurd hb id
  | readAsk _ _ => exact absurd hb id
  | readReply _ _ _ => exact absurd hb id

/-! ### what no step of an input changes -/
/-- all but the elector, beat and active are as they were, and what was said, told so far stands ahead -/
structure Grows (w v : Work) : Prop where
  id : v.node.id = w.node.id
  alive : v.node.alive = w.node.alive
  index : v.node.index = w.node.index
  indexTerm : v.node.indexTerm = w.node.indexTerm
  stored : v.node.stored = w.node.stored
  writes : v.node.writes = w.node.writes
  made : v.node.made = w.node.made
  didd : v.node.done = w.node.done
  held : v.node.held = w.node.held
theorem Grows.refl (w : Work) : Grows w w := ⟨rfl, rfl, rfl, rfl, rfl, rfl, rfl, rfl, rfl⟩
theorem Grows.trans {u v w : Work} (a : Grows u v) (b : Grows v w) : Grows u w :=
  ⟨b.id.trans a.id, b.alive.trans a.alive, b.index.trans a.index, b.indexTerm.trans a.indexTerm, b.stored.trans a.stored, b.writes.trans a.writes, b.made.trans a.made, b.didd.trans a.didd, b.held.trans a.held⟩
theorem withElector_grows (w : Work) (e : Elector) : Grows w (withElector w e) := by
  unfold withElector
  dsimp only
  split <;> exact ⟨rfl, rfl, rfl, rfl, rfl, rfl, rfl, rfl, rfl⟩
theorem withElector_quiet (w : Work) (e : Elector) (h : e.role ≠ .leader) : Quiet (withElector w e).node := by
  unfold Quiet withElector isLeader
  intro _
  simp [h]
theorem withElector_quiet' (w : Work) (e : Elector) (h : Quiet w.node) (h2 : e.role = .leader → w.node.elector.role = .leader) : Quiet (withElector w e).node := by
  unfold Quiet withElector isLeader
  by_cases q : e.role = .leader
  · simp [q]
  · simp [q]
theorem foldSay_eq (w : Work) (b : Work → Body) (l : List Nat) (hb : ∀ o : List Message, b { w with out := o } = b w) :
    l.foldl (fun x m => say x m (b x)) w = { w with out := w.out ++ l.map fun m => ⟨w.node.id, m, w.node.elector.term, b w⟩ } :=
  foldSayIn w (fun x => x.node.elector.term) b l (fun _ => rfl) hb
end Lp
/-! Part F: what every input keeps, and a potential that bounds how much there is of everything. -/
namespace Lp
open VbrcCore VbrcafPlay
def MsgOk (c : Config) (m : Message) : Prop := m.sender ∈ everyone c ∧ m.receiver ∈ everyone c ∧ Sent m.body
def wtB : Body → Nat
  | .preVote _ _ => 3
  | .preVoteReply _ => 2
  | .vote _ _ _ => 3
  | .voteReply _ => 2
  | .append _ _ _ _ _ => 3
  | .appendReply _ _ _ _ _ => 2
  | .campaignNow => 56
  | _ => 0
def wts (ms : List Message) : Nat := (ms.map fun m => wtB m.body).sum
theorem wts_append (a b : List Message) : wts (a ++ b) = wts a + wts b := by simp [wts]
theorem wts_map (l : List Nat) (s t : Nat) (b : Body) : wts (l.map fun m => ⟨s, m, t, b⟩) = l.length * wtB b := by
  unfold wts
  induction l with
  | nil => simp
  | cons a r ih => simp only [List.map_cons, List.sum_cons, List.length_cons, ih]; rw [Nat.succ_mul]; omega
def potR : Role → Nat
  | .candidate => 28
  | .preCandidate => 56
  | _ => 0
def psi (w : Work) : Nat := w.node.elector.ballots.length + w.node.active.length + wts w.out + w.elected.length
def Psi (w : Work) : Nat := potR w.node.elector.role + psi w
structure WOk (c : Config) (w : Work) : Prop where
  memb : w.node.id ∈ everyone c
  quiet : Quiet w.node
  asc : w.node.active.Pairwise (· < ·)
  out : ∀ m ∈ w.out, MsgOk c m
/-- from w to v: all kept, what is added is in order, the potential grows by at most k over b -/
structure St (c : Config) (w v : Work) : Prop where
  grows : Grows w v
  ok : WOk c v
theorem St.trans {c : Config} {u v w : Work} (a : St c u v) (b : St c v w) : St c u w := ⟨a.grows.trans b.grows, b.ok⟩
theorem others_mem {c : Config} {id m : Nat} (h : m ∈ others c id) : m ∈ everyone c := (List.mem_filter.mp h).1
theorem otherVoters_mem {c : Config} {id m : Nat} (h : m ∈ otherVoters c id) : m ∈ everyone c := others_mem (List.mem_filter.mp h).1
theorem others_len {c : Config} (id : Nat) : (others c id).length ≤ (everyone c).length := List.length_filter_le _ _
theorem otherVoters_len {c : Config} (id : Nat) : (otherVoters c id).length ≤ (everyone c).length := Nat.le_trans (List.length_filter_le _ _) (others_len id)

section
variable {c : Config} {w : Work}
theorem sayIn_st (h : WOk c w) (t r : Nat) (b : Body) (hr : r ∈ everyone c) (hb : Sent b) : St c w (sayIn w t r b) :=
  ⟨⟨rfl, rfl, rfl, rfl, rfl, rfl, rfl, rfl, rfl⟩, h.memb, h.quiet, h.asc, fun m hm => by
    rcases List.mem_append.mp hm with hm | hm
    · exact h.out m hm
    · have e := List.mem_singleton.mp hm
      subst e
      exact ⟨h.memb, hr, hb⟩⟩
theorem sayIn_psi (t r : Nat) (b : Body) : psi (sayIn w t r b) = psi w + wtB b := by
  unfold psi sayIn
  rw [wts_append]
  simp [wts]
  omega
theorem sayAll_st (h : WOk c w) (l : List Nat) (t : Nat) (b : Body) (hl : ∀ m ∈ l, m ∈ everyone c) (hb : Sent b) : St c w { w with out := w.out ++ l.map fun m => ⟨w.node.id, m, t, b⟩ } :=
  ⟨⟨rfl, rfl, rfl, rfl, rfl, rfl, rfl, rfl, rfl⟩, h.memb, h.quiet, h.asc, fun m hm => by
    rcases List.mem_append.mp hm with hm | hm
    · exact h.out m hm
    · obtain ⟨r, hr, rfl⟩ := List.mem_map.mp hm
      exact ⟨h.memb, hl r hr, hb⟩⟩
theorem sayAll_psi (l : List Nat) (t : Nat) (b : Body) : psi { w with out := w.out ++ l.map fun m => ⟨w.node.id, m, t, b⟩ } = psi w + l.length * wtB b := by
  unfold psi
  rw [wts_append, wts_map]
  dsimp only
  omega
theorem withElector_st (h : WOk c w) (e : Elector) (he : e.role = .leader → w.node.elector.role = .leader) : St c w (withElector w e) := by
  refine ⟨withElector_grows w e, ?_, withElector_quiet' w e h.quiet he, ?_, ?_⟩
  · rw [(withElector_grows w e).id]; exact h.memb
  · unfold withElector
    dsimp only
    split
    · exact h.asc
    · exact List.Pairwise.nil
  · exact h.out
theorem withElector_psi (e : Elector) : psi (withElector w e) ≤ e.ballots.length + w.node.active.length + wts w.out + w.elected.length := by
  unfold psi withElector
  dsimp only
  split <;> simp
theorem withElector_role (e : Elector) : (withElector w e).node.elector = e := by unfold withElector; dsimp only; split <;> rfl
theorem startVote_eq (hd : Bool) : startVote c hd w = { withElector w (Vbrcaf.beginVote w.node.id w.node.elector) with out := w.out ++ (otherVoters c w.node.id).map fun m => ⟨w.node.id, m, w.node.elector.term + 1, .vote w.node.index w.node.indexTerm hd⟩ } := by
  unfold startVote
  have e := foldSay_eq (withElector w (Vbrcaf.beginVote w.node.id w.node.elector)) (fun x => .vote x.node.index x.node.indexTerm hd) (otherVoters c (withElector w (Vbrcaf.beginVote w.node.id w.node.elector)).node.id) (fun _ => rfl)
  have g := withElector_grows w (Vbrcaf.beginVote w.node.id w.node.elector)
  dsimp only
  rw [e, g.id, g.index, g.indexTerm, withElector_role]
  rfl
theorem startVote_st (h : WOk c w) (hd : Bool) : St c w (startVote c hd w) := by
  rw [startVote_eq]
  have s1 := withElector_st h (Vbrcaf.beginVote w.node.id w.node.elector) (fun z => by cases z)
  have s2 := sayAll_st s1.ok (otherVoters c w.node.id) (w.node.elector.term + 1) (.vote w.node.index w.node.indexTerm hd) (fun m hm => otherVoters_mem hm) trivial
  rw [s1.grows.id] at s2
  exact s1.trans s2
theorem startVote_role (hd : Bool) : (startVote c hd w).node.elector.role = .candidate := by
  rw [startVote_eq]
  show (withElector w (Vbrcaf.beginVote w.node.id w.node.elector)).node.elector.role = .candidate
  rw [withElector_role]; rfl
theorem startVote_psi (h9 : (everyone c).length ≤ 9) (hd : Bool) : Psi (startVote c hd w) ≤ psi w + 55 := by
  unfold Psi
  rw [startVote_role]
  have e := startVote_eq (c := c) (w := w) hd
  have s2 := sayAll_psi (w := withElector w (Vbrcaf.beginVote w.node.id w.node.elector)) (otherVoters c w.node.id) (w.node.elector.term + 1) (.vote w.node.index w.node.indexTerm hd)
  rw [(withElector_grows w (Vbrcaf.beginVote w.node.id w.node.elector)).id] at s2
  have s3 := withElector_psi (w := w) (Vbrcaf.beginVote w.node.id w.node.elector)
  have l := otherVoters_len (c := c) w.node.id
  have b0 : (Vbrcaf.beginVote w.node.id w.node.elector).ballots.length = 0 := rfl
  rw [b0] at s3
  have e2 : psi (startVote c hd w) = psi (withElector w (Vbrcaf.beginVote w.node.id w.node.elector)) + (otherVoters c w.node.id).length * 3 := by
    rw [e]; exact s2
  rw [e2]
  show 28 + _ ≤ _
  unfold psi at s3 ⊢
  omega
theorem sendHeartbeats_eq : sendHeartbeats c w = { w with node := { w.node with beat := 0 }, out := w.out ++ (others c w.node.id).map fun m => ⟨w.node.id, m, w.node.elector.term, heartbeatBody⟩ } := by
  unfold sendHeartbeats
  have e := foldSay_eq { w with node := { w.node with beat := 0 } } (fun _ => heartbeatBody) (others c w.node.id) (fun _ => rfl)
  rw [e]
theorem sendHeartbeats_st (h : WOk c w) : St c w (sendHeartbeats c w) := by
  rw [sendHeartbeats_eq]
  refine ⟨⟨rfl, rfl, rfl, rfl, rfl, rfl, rfl, rfl, rfl⟩, h.memb, fun hr => ⟨rfl, (h.quiet hr).2⟩, h.asc, fun m hm => ?_⟩
  rcases List.mem_append.mp hm with hm | hm
  · exact h.out m hm
  · obtain ⟨r, hr, rfl⟩ := List.mem_map.mp hm
    exact ⟨h.memb, others_mem hr, trivial⟩
theorem sendHeartbeats_psi (h9 : (everyone c).length ≤ 9) : psi (sendHeartbeats c w) ≤ psi w + 27 := by
  rw [sendHeartbeats_eq]
  have s2 := sayAll_psi (w := w) (others c w.node.id) w.node.elector.term heartbeatBody
  have l := others_len (c := c) w.node.id
  have e : psi { w with node := { w.node with beat := 0 }, out := w.out ++ (others c w.node.id).map fun m => ⟨w.node.id, m, w.node.elector.term, heartbeatBody⟩ } = psi { w with out := w.out ++ (others c w.node.id).map fun m => ⟨w.node.id, m, w.node.elector.term, heartbeatBody⟩ } := rfl
  rw [e, s2]
  show psi w + (others c w.node.id).length * 3 ≤ _
  omega
theorem becomeLeader_st (h : WOk c w) : St c w (becomeLeader c w) := by
  unfold becomeLeader
  -- beat is set by the heartbeats
  rw [sendHeartbeats_eq]
  refine ⟨⟨rfl, rfl, rfl, rfl, rfl, rfl, rfl, rfl, rfl⟩, h.memb, fun hr => absurd rfl hr, List.Pairwise.nil, fun m hm => ?_⟩
  rcases List.mem_append.mp hm with hm | hm
  · exact h.out m hm
  · obtain ⟨r, hr, rfl⟩ := List.mem_map.mp hm
    exact ⟨h.memb, others_mem hr, trivial⟩
theorem becomeLeader_psi (h9 : (everyone c).length ≤ 9) : Psi (becomeLeader c w) ≤ psi w + 28 := by
  unfold becomeLeader
  have s := sendHeartbeats_psi (w := { w with node := { w.node with elector := Vbrcaf.lead w.node.id w.node.elector, active := [] }, elected := w.elected ++ [w.node.elector.term] }) h9
  have er : potR (sendHeartbeats c { w with node := { w.node with elector := Vbrcaf.lead w.node.id w.node.elector, active := [] }, elected := w.elected ++ [w.node.elector.term] }).node.elector.role = 0 := by
    rw [sendHeartbeats_eq]; rfl
  unfold Psi
  rw [er]
  refine Nat.le_trans (Nat.le_of_eq (Nat.zero_add _)) (Nat.le_trans s ?_)
  have : psi { w with node := { w.node with elector := Vbrcaf.lead w.node.id w.node.elector, active := [] }, elected := w.elected ++ [w.node.elector.term] } = 0 + 0 + wts w.out + (w.elected.length + 1) := by
    unfold psi
    simp [Vbrcaf.lead]
  rw [this]
  unfold psi
  omega
theorem stepDown_st (h : WOk c w) : St c w (withElector w (Vbrcaf.stepDown w.node.elector)) := withElector_st h _ (fun z => by cases z)
theorem stepDown_psi : Psi (withElector w (Vbrcaf.stepDown w.node.elector)) ≤ psi w := by
  unfold Psi
  rw [withElector_role]
  have s3 := withElector_psi (w := w) (Vbrcaf.stepDown w.node.elector)
  have b0 : (Vbrcaf.stepDown w.node.elector).ballots.length = 0 := rfl
  have r0 : potR (Vbrcaf.stepDown w.node.elector).role = 0 := rfl
  rw [b0] at s3
  rw [r0]
  unfold psi at s3 ⊢
  omega
theorem decideBallot_st (h : WOk c w) : St c w (decideBallot c w) := by
  unfold decideBallot
  split
  · exact ⟨Grows.refl w, h⟩
  · exact stepDown_st h
  · split
    · exact becomeLeader_st h
    · exact startVote_st h false
theorem decideBallot_psi (h9 : (everyone c).length ≤ 9) (hr : w.node.elector.role = .candidate ∨ w.node.elector.role = .preCandidate) : Psi (decideBallot c w) ≤ Psi w := by
  have pw : Psi w = potR w.node.elector.role + psi w := rfl
  unfold decideBallot
  split
  · exact Nat.le_refl _
  · have := stepDown_psi (w := w); omega
  · split
    · rename_i q
      have := becomeLeader_psi (c := c) (w := w) h9
      rw [q] at pw
      have : potR .candidate = 28 := rfl
      omega
    · rename_i q
      have := startVote_psi (c := c) (w := w) h9 false
      rcases hr with hr | hr
      · exact absurd hr q
      · rw [hr] at pw
        have : potR .preCandidate = 56 := rfl
        omega
theorem countBallot_st (h : WOk c w) (id : Nat) (g : Bool) : St c w (countBallot c w id g) := by
  unfold countBallot
  have s1 := withElector_st h (Vbrcaf.addBallot w.node.elector id g) (fun z => by
    unfold Vbrcaf.addBallot at z; split at z <;> exact z)
  exact s1.trans (decideBallot_st s1.ok)
theorem addBallot_role (e : Elector) (id : Nat) (g : Bool) : (Vbrcaf.addBallot e id g).role = e.role := by unfold Vbrcaf.addBallot; split <;> rfl
theorem countBallot_psi (h9 : (everyone c).length ≤ 9) (id : Nat) (g : Bool) (hr : w.node.elector.role = .candidate ∨ w.node.elector.role = .preCandidate) : Psi (countBallot c w id g) ≤ Psi w + 1 := by
  unfold countBallot
  refine Nat.le_trans (decideBallot_psi h9 ?_) ?_
  · rw [withElector_role, addBallot_role]; exact hr
  · unfold Psi
    rw [withElector_role, addBallot_role]
    have s3 := withElector_psi (w := w) (Vbrcaf.addBallot w.node.elector id g)
    have b : (Vbrcaf.addBallot w.node.elector id g).ballots.length ≤ w.node.elector.ballots.length + 1 := by
      unfold Vbrcaf.addBallot; split <;> simp
    unfold psi at s3 ⊢
    omega
theorem startPreVote_eq : startPreVote c w = decideBallot c { withElector w (Vbrcaf.beginPreVote w.node.id w.node.elector) with out := w.out ++ (otherVoters c w.node.id).map fun m => ⟨w.node.id, m, w.node.elector.term + 1, .preVote w.node.index w.node.indexTerm⟩ } := by
  unfold startPreVote
  have e := foldSayIn (withElector w (Vbrcaf.beginPreVote w.node.id w.node.elector)) (fun x => x.node.elector.term + 1) (fun x => .preVote x.node.index x.node.indexTerm) (otherVoters c (withElector w (Vbrcaf.beginPreVote w.node.id w.node.elector)).node.id) (fun _ => rfl) (fun _ => rfl)
  have g := withElector_grows w (Vbrcaf.beginPreVote w.node.id w.node.elector)
  dsimp only
  rw [e, g.id, g.index, g.indexTerm, withElector_role]
  rfl
theorem startPreVote_st (h : WOk c w) : St c w (startPreVote c w) := by
  rw [startPreVote_eq]
  have s1 := withElector_st h (Vbrcaf.beginPreVote w.node.id w.node.elector) (fun z => by cases z)
  have s2 := sayAll_st s1.ok (otherVoters c w.node.id) (w.node.elector.term + 1) (.preVote w.node.index w.node.indexTerm) (fun m hm => otherVoters_mem hm) trivial
  rw [s1.grows.id] at s2
  exact (s1.trans s2).trans (decideBallot_st s2.ok)
theorem startPreVote_psi (h9 : (everyone c).length ≤ 9) : Psi (startPreVote c w) ≤ psi w + 84 := by
  rw [startPreVote_eq]
  have er : ({ withElector w (Vbrcaf.beginPreVote w.node.id w.node.elector) with out := w.out ++ (otherVoters c w.node.id).map fun m => ⟨w.node.id, m, w.node.elector.term + 1, .preVote w.node.index w.node.indexTerm⟩ } : Work).node.elector.role = .preCandidate := by
    show (withElector w (Vbrcaf.beginPreVote w.node.id w.node.elector)).node.elector.role = _
    rw [withElector_role]; rfl
  refine Nat.le_trans (decideBallot_psi h9 (.inr er)) ?_
  unfold Psi
  rw [er]
  have s2 := sayAll_psi (w := withElector w (Vbrcaf.beginPreVote w.node.id w.node.elector)) (otherVoters c w.node.id) (w.node.elector.term + 1) (.preVote w.node.index w.node.indexTerm)
  rw [(withElector_grows w (Vbrcaf.beginPreVote w.node.id w.node.elector)).id] at s2
  have s3 := withElector_psi (w := w) (Vbrcaf.beginPreVote w.node.id w.node.elector)
  have l := otherVoters_len (c := c) w.node.id
  have b0 : (Vbrcaf.beginPreVote w.node.id w.node.elector).ballots.length = 1 := rfl
  rw [b0] at s3
  have e2 : psi { withElector w (Vbrcaf.beginPreVote w.node.id w.node.elector) with out := w.out ++ (otherVoters c w.node.id).map fun m => ⟨w.node.id, m, w.node.elector.term + 1, .preVote w.node.index w.node.indexTerm⟩ } = psi (withElector w (Vbrcaf.beginPreVote w.node.id w.node.elector)) + (otherVoters c w.node.id).length * 3 := s2
  rw [e2]
  show 56 + _ ≤ _
  unfold psi at s3 ⊢
  omega
end
end Lp
namespace Lp
open VbrcCore VbrcafPlay
section
variable {c : Config} {w : Work}
theorem join_st (h : WOk c w) (t l : Nat) : St c w (join w t l) := withElector_st h _ (fun z => by cases z)
theorem join_role (t l : Nat) : (join w t l).node.elector.role = .follower := by
  unfold VbrcafPlay.join; rw [withElector_role]; rfl
theorem join_psi (t l : Nat) : Psi (join w t l) ≤ psi w := by
  unfold Psi
  rw [join_role]
  have s3 := withElector_psi (w := w) (Vbrcaf.joinTerm w.node.elector t l)
  have b0 : (Vbrcaf.joinTerm w.node.elector t l).ballots.length = 0 := rfl
  rw [b0] at s3
  show 0 + psi (withElector w (Vbrcaf.joinTerm w.node.elector t l)) ≤ _
  unfold psi at s3 ⊢
  omega
theorem psi_le : psi w ≤ Psi w := Nat.le_add_left _ _
theorem insertNumber_len (n : Nat) : ∀ l : List Nat, (insertNumber n l).length ≤ l.length + 1
  | [] => by simp [insertNumber]
  | m :: r => by
    have ih := insertNumber_len n r
    unfold insertNumber
    split
    · simp
    · split
      · simp
      · simp only [List.length_cons]; omega
theorem insertNumber_asc (n : Nat) : ∀ l : List Nat, l.Pairwise (· < ·) → (insertNumber n l).Pairwise (· < ·)
  | [], _ => by simp [insertNumber]
  | m :: r, h => by
    obtain ⟨h1, h2⟩ := List.pairwise_cons.mp h
    have ih := insertNumber_asc n r h2
    unfold insertNumber
    split
    · rename_i q
      refine List.pairwise_cons.mpr ⟨fun x hx => ?_, h⟩
      rcases List.mem_cons.mp hx with e | e
      · subst e; exact q
      · exact Nat.lt_trans q (h1 x e)
    · rename_i q
      split
      · exact h
      · rename_i q2
        refine List.pairwise_cons.mpr ⟨fun x hx => ?_, ih⟩
        rcases (mem_insertNumber n r x).mp hx with e | e
        · subst e
          exact Nat.lt_of_le_of_ne (Nat.le_of_not_lt q) (Ne.symm q2)
        · exact h1 x e
theorem tickOnS_st (h : WOk c w) : St c w (tickOnS c w) := by
  unfold tickOnS
  split
  · exact stepDown_st h
  · dsimp only
    by_cases q : 10 ≤ w.node.elector.elapsed
    · rw [if_pos q]
      have s1 : St c w { w with node := { w.node with elector := { w.node.elector with elapsed := 0 }, active := [] } } :=
        ⟨⟨rfl, rfl, rfl, rfl, rfl, rfl, rfl, rfl, rfl⟩, h.memb, fun hr => ⟨(h.quiet hr).1, rfl⟩, List.Pairwise.nil, h.out⟩
      split
      · exact s1.trans (sendHeartbeats_st s1.ok)
      · exact s1
    · rw [if_neg q]
      split
      · exact sendHeartbeats_st h
      · exact ⟨Grows.refl w, h⟩
theorem tickOnS_psi (h9 : (everyone c).length ≤ 9) (hl : w.node.elector.role = .leader) : Psi (tickOnS c w) ≤ Psi w + 27 := by
  have pw : Psi w = 0 + psi w := by unfold Psi; rw [hl]; rfl
  unfold tickOnS
  split
  · have := stepDown_psi (w := w); omega
  · dsimp only
    have key : ∀ n : Node, n.elector.role = .leader → n.elector.ballots = w.node.elector.ballots → n.active.length ≤ w.node.active.length → Psi (if heartbeatTicks ≤ n.beat then sendHeartbeats c { w with node := n } else { w with node := n }) ≤ Psi w + 27 := by
      intro n h1 h2 h3
      have p1 : psi { w with node := n } ≤ psi w := by unfold psi; dsimp only; rw [h2]; omega
      split
      · have s := sendHeartbeats_psi (w := { w with node := n }) h9
        have er : potR (sendHeartbeats c { w with node := n }).node.elector.role = 0 := by rw [sendHeartbeats_eq]; show potR n.elector.role = 0; rw [h1]; rfl
        unfold Psi at pw ⊢
        rw [er]
        omega
      · have er : potR ({ w with node := n } : Work).node.elector.role = 0 := by show potR n.elector.role = 0; rw [h1]; rfl
        unfold Psi at pw ⊢
        rw [er]
        omega
    by_cases q : 10 ≤ w.node.elector.elapsed
    · rw [if_pos q]; exact key _ hl rfl (Nat.zero_le _)
    · rw [if_neg q]; exact key _ hl rfl (Nat.le_refl _)
theorem tickIdle_role (id : Nat) (b : Bool) (e : Elector) : (Vbrcaf.tickIdle id b e).1.role = e.role ∧ (Vbrcaf.tickIdle id b e).1.ballots = e.ballots := by
  unfold Vbrcaf.tickIdle; split <;> exact ⟨rfl, rfl⟩
theorem tick_st (h : WOk c w) : St c w (tick c w) := by
  unfold tick
  split
  · have s1 : St c w { w with node := { w.node with elector := { w.node.elector with elapsed := w.node.elector.elapsed + 1 }, beat := w.node.beat + 1 } } := by
      rename_i hl
      have hl' : w.node.elector.role = .leader := of_decide_eq_true hl
      exact ⟨⟨rfl, rfl, rfl, rfl, rfl, rfl, rfl, rfl, rfl⟩, h.memb, fun hr => absurd hl' hr, h.asc, h.out⟩
    exact s1.trans (tickOnS_st s1.ok)
  · dsimp only
    have s1 := withElector_st h (Vbrcaf.tickIdle w.node.id (isVoter c w.node.id) w.node.elector).1 (fun z => by rw [(tickIdle_role _ _ _).1] at z; exact z)
    split
    · exact s1.trans (startPreVote_st s1.ok)
    · exact s1
theorem tick_psi (h9 : (everyone c).length ≤ 9) : Psi (tick c w) ≤ Psi w + 84 := by
  unfold tick
  split
  · rename_i hl
    have hl' : w.node.elector.role = .leader := of_decide_eq_true hl
    have := tickOnS_psi (c := c) (w := { w with node := { w.node with elector := { w.node.elector with elapsed := w.node.elector.elapsed + 1 }, beat := w.node.beat + 1 } }) h9 hl'
    have e : Psi { w with node := { w.node with elector := { w.node.elector with elapsed := w.node.elector.elapsed + 1 }, beat := w.node.beat + 1 } } = Psi w := rfl
    rw [e] at this
    have e2 : tickLeader c w = tickOnS c { w with node := { w.node with elector := { w.node.elector with elapsed := w.node.elector.elapsed + 1 }, beat := w.node.beat + 1 } } := rfl
    rw [e2]
    omega
  · dsimp only
    have r := tickIdle_role w.node.id (isVoter c w.node.id) w.node.elector
    have s3 := withElector_psi (w := w) (Vbrcaf.tickIdle w.node.id (isVoter c w.node.id) w.node.elector).1
    rw [r.2] at s3
    have s4 : psi (withElector w (Vbrcaf.tickIdle w.node.id (isVoter c w.node.id) w.node.elector).1) ≤ psi w := s3
    split
    · have := startPreVote_psi (c := c) (w := withElector w (Vbrcaf.tickIdle w.node.id (isVoter c w.node.id) w.node.elector).1) h9
      have := psi_le (w := w)
      omega
    · unfold Psi
      rw [withElector_role, r.1]
      omega
theorem grantS_role (e : Elector) (s t : Nat) (u : Bool) : (grantS e s t u).1.role = e.role ∨ (grantS e s t u).1.role = .follower := by
  unfold grantS
  split
  · exact .inl rfl
  · split
    · exact .inr rfl
    · exact .inl rfl
theorem grantS_ballots (e : Elector) (s t : Nat) (u : Bool) : (grantS e s t u).1.ballots.length ≤ e.ballots.length := by
  unfold grantS
  split
  · exact Nat.le_refl _
  · split
    · exact Nat.zero_le _
    · exact Nat.le_refl _
theorem Psi_withElector (e : Elector) (hr : e.role = w.node.elector.role ∨ e.role = .follower) (hb : e.ballots.length ≤ w.node.elector.ballots.length) : Psi (withElector w e) ≤ Psi w := by
  unfold Psi
  rw [withElector_role]
  have s3 := withElector_psi (w := w) e
  have : potR e.role ≤ potR w.node.elector.role := by
    rcases hr with h | h
    · rw [h]; exact Nat.le_refl _
    · rw [h]; exact Nat.zero_le _
  have s4 : psi (withElector w e) ≤ psi w := by
    unfold psi at s3 ⊢; omega
  omega
theorem say_Psi (r : Nat) (b : Body) (t : Nat) : Psi (sayIn w t r b) = Psi w + wtB b := by
  have := sayIn_psi (w := w) t r b
  unfold Psi
  rw [this]
  show potR w.node.elector.role + _ = _
  omega
theorem answerVote_elector (e : Elector) (s t : Nat) (up hd : Bool) : ((Vbrcaf.answerVote e s t up hd).1.role = e.role ∨ (Vbrcaf.answerVote e s t up hd).1.role = .follower) ∧ (Vbrcaf.answerVote e s t up hd).1.ballots.length ≤ e.ballots.length := by
  rw [answerVote_eq]
  split
  · exact ⟨.inl rfl, Nat.le_refl _⟩
  · by_cases q : e.term < t
    · rw [if_pos q]
      refine ⟨.inr ?_, Nat.le_trans (grantS_ballots _ _ _ _) (Nat.zero_le _)⟩
      rcases grantS_role (Vbrcaf.joinTerm e t 0) s t up with h | h
      · exact h
      · exact h
    · rw [if_neg q]
      exact ⟨grantS_role _ _ _ _, grantS_ballots _ _ _ _⟩
theorem receiveCurrent_st (h : WOk c w) (s : Nat) (b : Body) (hs : s ∈ everyone c) : St c w (receiveCurrent c w s b) := by
  unfold receiveCurrent
  split
  · exact sayIn_st h _ s _ hs trivial
  · exact startVote_st h true
  · split
    · rename_i hl
      have hl' : w.node.elector.role = .leader := of_decide_eq_true hl
      exact ⟨⟨rfl, rfl, rfl, rfl, rfl, rfl, rfl, rfl, rfl⟩, h.memb, fun hr => absurd hl' hr, insertNumber_asc s _ h.asc, h.out⟩
    · exact ⟨Grows.refl w, h⟩
  · split
    · exact countBallot_st h s _
    · exact ⟨Grows.refl w, h⟩
  · exact ⟨Grows.refl w, h⟩
theorem receiveCurrent_psi (h9 : (everyone c).length ≤ 9) (s : Nat) (b : Body) (hb : Late b) : Psi (receiveCurrent c w s b) + 1 ≤ Psi w + wtB b := by
  cases b with
  | append _ _ _ _ _ => show Psi (say w s (heartbeatReply true)) + 1 ≤ Psi w + 3; unfold say; rw [say_Psi]; exact Nat.le_refl _
  | campaignNow =>
    have := startVote_psi (c := c) (w := w) h9 true
    have := psi_le (w := w)
    show Psi (startVote c true w) + 1 ≤ Psi w + 56
    omega
  | appendReply a a1 a2 a3 a4 =>
    show Psi (if isLeader w.node then { w with node := { w.node with active := insertNumber s w.node.active } } else w) + 1 ≤ Psi w + 2
    split
    · have l := insertNumber_len s w.node.active
      unfold Psi psi
      dsimp only
      omega
    · omega
  | voteReply g =>
    show Psi (if w.node.elector.role = .candidate then countBallot c w s g else w) + 1 ≤ Psi w + 2
    split
    · rename_i q
      have := countBallot_psi (c := c) (w := w) h9 s g (.inl q)
      omega
    · omega
  | _ => exact absurd hb id
theorem receive_st (h : WOk c w) (m : Message) (hm : MsgOk c m) : St c w (receive c m w) := by
  obtain ⟨s, r, t, b⟩ := m
  obtain ⟨hs, _, hb⟩ := hm
  have late : Late b → St c w (receive c ⟨s, r, t, b⟩ w) := fun hl => by
    rw [receive_late c w s r t b hl]
    split
    · split
      · exact sayIn_st h _ s _ hs trivial
      · exact ⟨Grows.refl w, h⟩
    · split
      · exact (join_st h t s).trans (receiveCurrent_st (join_st h t s).ok s b hs)
      · split
        · exact (join_st h t 0).trans (receiveCurrent_st (join_st h t 0).ok s b hs)
        · exact receiveCurrent_st h s b hs
  cases b with
  | preVote i l =>
    unfold receive
    dsimp only
    split
    · exact ⟨Grows.refl w, h⟩
    · exact sayIn_st h _ s _ hs trivial
    · exact sayIn_st h _ s _ hs trivial
  | preVoteReply g =>
    unfold receive
    dsimp only
    split
    · split
      · exact countBallot_st h s true
      · exact ⟨Grows.refl w, h⟩
    · split
      · exact join_st h t 0
      · split
        · exact countBallot_st h s false
        · exact ⟨Grows.refl w, h⟩
  | vote i l hd =>
    unfold receive
    dsimp only
    have a := (answerVote_elector w.node.elector s t (isUpToDate w.node i l) hd).1
    have s1 := withElector_st h (Vbrcaf.answerVote w.node.elector s t (isUpToDate w.node i l) hd).1 (fun z => by
      rcases a with a | a
      · exact a.symm.trans z
      · rw [a] at z; cases z)
    split
    · exact s1
    · exact s1.trans (sayIn_st s1.ok _ s _ hs trivial)
  | append a1 a2 a3 a4 a5 => exact late trivial
  | appendReply a1 a2 a3 a4 a5 => exact late trivial
  | voteReply g => exact late trivial
  | campaignNow => exact late trivial
  | chunk _ _ _ _ _ _ _ => exact absurd hb id
  | chunkReply _ _ _ => exact absurd hb id
  | readAsk _ _ => exact absurd hb id
  | readReply _ _ _ => exact absurd hb id
theorem receive_psi (h9 : (everyone c).length ≤ 9) (m : Message) (hb : Sent m.body) : Psi (receive c m w) + 1 ≤ Psi w + wtB m.body := by
  obtain ⟨s, r, t, b⟩ := m
  have late : Late b → Psi (receive c ⟨s, r, t, b⟩ w) + 1 ≤ Psi w + wtB b := fun hl => by
    rw [receive_late c w s r t b hl]
    have pj : ∀ t l, Psi (join w t l) ≤ Psi w := fun t l => Nat.le_trans (join_psi t l) psi_le
    split
    · cases b with
      | append _ _ _ _ _ => show Psi (say w s (heartbeatReply false)) + 1 ≤ Psi w + 3; unfold say; rw [say_Psi]; exact Nat.le_refl _
      | appendReply a1 a2 a3 a4 a5 => show Psi w + 1 ≤ Psi w + 2; omega
      | voteReply g => show Psi w + 1 ≤ Psi w + 2; omega
      | campaignNow => show Psi w + 1 ≤ Psi w + 56; omega
      | _ => exact absurd hl id
    · split
      · have := receiveCurrent_psi (c := c) (w := join w t s) h9 s b hl
        have := pj t s
        omega
      · split
        · have := receiveCurrent_psi (c := c) (w := join w t 0) h9 s b hl
          have := pj t 0
          omega
        · exact receiveCurrent_psi h9 s b hl
  cases b with
  | preVote i l =>
    unfold receive
    dsimp only
    split
    · show Psi w + 1 ≤ Psi w + 3; omega
    · rw [say_Psi]; exact Nat.le_refl _
    · unfold say; rw [say_Psi]; exact Nat.le_refl _
  | preVoteReply g =>
    unfold receive
    dsimp only
    show _ ≤ Psi w + 2
    split
    · split
      · rename_i q
        rw [Bool.and_eq_true, decide_eq_true_eq] at q
        have := countBallot_psi (c := c) (w := w) h9 s true (.inr q.1)
        omega
      · omega
    · split
      · have := join_psi (w := w) t 0
        have := psi_le (w := w)
        omega
      · split
        · rename_i q
          have := countBallot_psi (c := c) (w := w) h9 s false (.inr q)
          omega
        · omega
  | vote i l hd =>
    unfold receive
    dsimp only
    have a := answerVote_elector w.node.elector s t (isUpToDate w.node i l) hd
    have p := Psi_withElector (w := w) _ a.1 a.2
    show _ ≤ Psi w + 3
    split
    · omega
    · unfold say
      rw [say_Psi]
      show _ + 2 + 1 ≤ _
      omega
  | append a1 a2 a3 a4 a5 => exact late trivial
  | appendReply a1 a2 a3 a4 a5 => exact late trivial
  | voteReply g => exact late trivial
  | campaignNow => exact late trivial
  | chunk _ _ _ _ _ _ _ => exact absurd hb id
  | chunkReply _ _ _ => exact absurd hb id
  | readAsk _ _ => exact absurd hb id
  | readReply _ _ _ => exact absurd hb id
theorem afterSync_st (h : WOk c w) : St c w (afterSync c w) := by
  unfold afterSync
  split
  · exact countBallot_st h _ true
  · exact ⟨Grows.refl w, h⟩
theorem afterSync_psi (h9 : (everyone c).length ≤ 9) : Psi (afterSync c w) ≤ Psi w + 1 := by
  unfold afterSync
  split
  · rename_i q
    rw [Bool.and_eq_true, decide_eq_true_eq] at q
    exact countBallot_psi h9 _ true (.inl q.1)
  · omega
end
end Lp
/-! Part H: a node at rest: what an operation makes of it, in the program's record; its invariant; its potential. -/
namespace Lp
open VbrcCore VbrcafPlay
structure NodeOk (c : Config) (n : Node) : Prop where
  memb : n.id ∈ everyone c
  quiet : Quiet n
  asc : n.active.Pairwise (· < ·)
  even : Even n
  held : ∀ h ∈ n.held, n.done < h.need ∧ MsgOk c h.message
  dead : n.alive = false → n = stopped n.id n.stored n.index n.indexTerm
def wtsH (l : List Held) : Nat := wts (l.map (·.message))
def Phi (n : Node) : Nat := potR n.elector.role + n.elector.ballots.length + n.active.length + n.writes.length + wtsH n.held
/-- an operation's outcome from a node: all kept, the potential grown by at most k -/
structure OutOk (c : Config) (n : Node) (o : Outcome) (k : Nat) : Prop where
  ok : NodeOk c o.node
  id : o.node.id = n.id
  sent : ∀ m ∈ o.sent, MsgOk c m
  phi : Phi o.node + wts o.sent + o.elected.length ≤ Phi n + k
section
variable {c : Config} {n : Node}
theorem workOf_ok (h : NodeOk c n) : WOk c (workOf n) := ⟨h.memb, h.quiet, h.asc, fun _ hm => absurd hm (by simp [workOf])⟩
theorem toW_workOf (n : Node) : toW [] (workOf n) = toM n := rfl
theorem wtsH_append (a b : List Held) : wtsH (a ++ b) = wtsH a + wtsH b := by unfold wtsH; rw [List.map_append, wts_append]
theorem wtsH_out (k : Nat) (ms : List Message) : wtsH (ms.map fun m => ⟨k, m⟩) = wts ms := by unfold wtsH; rw [List.map_map]; congr 1; induction ms with | nil => rfl | cons a r ih => rw [List.map_cons, ih]; rfl
/-- the end of an input -/
theorem finish_out (b : Stored) (w : Work) (h : WOk c w) (ev : Even w.node) (hl : ∀ x ∈ w.node.held, w.node.done < x.need ∧ MsgOk c x.message) (al : w.node.alive = true) (n : Node) (k : Nat) (hid : w.node.id = n.id)
    (hp : Psi w + w.node.writes.length + 1 + wtsH w.node.held ≤ Phi n + k) : OutOk c n (finish b w) k := by
  rw [finish_eq]
  have key : ∀ v : Work, WOk c v → Even v.node → v.node.held = w.node.held → v.node.done = w.node.done → v.node.alive = true → v.node.id = n.id → v.out = w.out → Psi v = Psi w → v.node.writes.length ≤ w.node.writes.length + 1 → OutOk c n (endO v) k := by
    intro v hv ev hh hd ha hi ho hP hw
    unfold endO
    split
    · rename_i q
      refine ⟨⟨hv.memb, hv.quiet, hv.asc, ev, fun x hx => ?_, fun z => by rw [show v.node.alive = true from ha] at z; cases z⟩, hi, fun m hm => absurd hm (by simp), ?_⟩
      · rcases List.mem_append.mp hx with hx | hx
        · rw [hh] at hx
          have := hl x hx
          exact ⟨by show v.node.done < x.need; rw [hd]; exact this.1, this.2⟩
        · obtain ⟨m, hm, rfl⟩ := List.mem_map.mp hx
          exact ⟨q, hv.out m hm⟩
      · generalize Phi n + k = N at hp ⊢
        unfold Phi
        dsimp only
        rw [wtsH_append, wtsH_out, hh, ho]
        unfold Psi psi at hP hp
        rw [ho] at hP
        have : wts [] = 0 := rfl
        omega
    · refine ⟨⟨hv.memb, hv.quiet, hv.asc, ev, fun x hx => ?_, fun z => by rw [ha] at z; cases z⟩, hi, hv.out, ?_⟩
      · rw [hh] at hx
        have := hl x hx
        exact ⟨by rw [hd]; exact this.1, this.2⟩
      · generalize Phi n + k = N at hp ⊢
        unfold Phi
        dsimp only
        rw [hh, ho]
        unfold Psi psi at hP hp
        rw [ho] at hP
        omega
  refine key (noteW b w) ?_ (noteW_even b w ev) ?_ ?_ ?_ ?_ ?_ ?_ ?_
  · unfold noteW
    split
    · exact h
    · exact ⟨h.memb, h.quiet, h.asc, h.out⟩
  all_goals (unfold noteW; split)
  all_goals first
    | rfl
    | exact al
    | exact hid
    | omega
    | (rw [List.length_append]; exact Nat.le_refl _)
/-- one input, by what it does to the work -/
theorem input_out (f : Work → Work) (k : Nat) (h : NodeOk c n) (al : n.alive = true) (hf : St c (workOf n) (f (workOf n))) (hp : Psi (f (workOf n)) + 1 ≤ Psi (workOf n) + k) : OutOk c n (input n f) k := by
  unfold input
  rw [if_pos al]
  have g := hf.grows
  refine finish_out (current n) (f (workOf n)) hf.ok ?_ ?_ ?_ n k g.id ?_
  · unfold Even; rw [g.made, g.didd, g.writes]; exact h.even
  · rw [g.held, g.didd]; exact h.held
  · rw [g.alive]; exact al
  · rw [g.writes, g.held]
    have e : Psi (workOf n) + n.writes.length + wtsH n.held = Phi n := by
      unfold Psi psi Phi workOf wts
      simp
      omega
    show Psi (f (workOf n)) + n.writes.length + 1 + wtsH n.held ≤ _
    omega
theorem input_of (f : Work → Work) (fm : M → M) (h : NodeOk c n) (al : n.alive = true) (hf : St c (workOf n) (f (workOf n))) (e : fm (toM n) = toW [] (f (workOf n))) : (fm (toM n)).endInput ((toM n).term, (toM n).vote) = toO (input n f) := by
  unfold input
  rw [if_pos al, e]
  have ev : Even (f (workOf n)).node := by unfold Even; rw [hf.grows.made, hf.grows.didd, hf.grows.writes]; exact h.even
  have := finish_of [] (current n) (f (workOf n)) ev
  exact this
theorem receive_out (h9 : (everyone c).length ≤ 9) (h : NodeOk c n) (al : n.alive = true) (m : Message) (hm : MsgOk c m) : OutOk c n (input n (receive c m)) (wtB m.body) :=
  input_out _ _ h al (receive_st (workOf_ok h) m hm) (receive_psi h9 m hm.2.2)
theorem receive_of (h : NodeOk c n) (al : n.alive = true) (m : Message) (hm : MsgOk c m) : (toM n).receive (toC c) m.sender m.term (bodyB m.body) = toO (input n (receive c m)) :=
  input_of (receive c m) (fun x => x.heard (toC c) m.sender m.term (bodyB m.body)) h al (receive_st (workOf_ok h) m hm) (heard_of [] c (workOf n) m hm.2.2 h.quiet)
theorem tick_out (h9 : (everyone c).length ≤ 9) (h : NodeOk c n) (al : n.alive = true) : OutOk c n (input n (tick c)) 85 :=
  input_out _ _ h al (tick_st (workOf_ok h)) (by have := tick_psi (c := c) (w := workOf n) h9; omega)
theorem tick_of (h : NodeOk c n) (al : n.alive = true) : (toM n).tick (toC c) = toO (input n (tick c)) :=
  input_of (tick c) (fun x => x.ticked (toC c)) h al (tick_st (workOf_ok h)) (ticked_of [] c (workOf n) h.quiet)
theorem handOver_out (h : NodeOk c n) (al : n.alive = true) (t : Nat) (ht : t ∈ everyone c) : OutOk c n (input n fun w => say w t .campaignNow) 57 :=
  input_out _ _ h al (sayIn_st (workOf_ok h) _ t .campaignNow ht trivial) (by unfold say; rw [say_Psi]; exact Nat.le_refl _)
theorem handOver_of (h : NodeOk c n) (al : n.alive = true) (t : Nat) (ht : t ∈ everyone c) : (toM n).handOver t = toO (input n fun w => say w t .campaignNow) :=
  input_of (fun w => say w t .campaignNow) (fun x => x.say t 9 [] x.term) h al (sayIn_st (workOf_ok h) _ t .campaignNow ht trivial) (say_of [] (workOf n) t n.elector.term .campaignNow 9 [] rfl)

/-! ### writes are carried out -/
def synced (count : Nat) (n : Node) : Node := { carryOut count n with held := n.held.filter fun h => (carryOut count n).done < h.need }
def freed (count : Nat) (n : Node) : List Message := (n.held.filter fun h => h.need ≤ (carryOut count n).done).map (·.message)
theorem sync_eq (al : n.alive = true) (count : Nat) : sync c count n = { finish (current (synced count n)) (afterSync c (workOf (synced count n))) with sent := freed count n ++ (finish (current (synced count n)) (afterSync c (workOf (synced count n)))).sent } := by
  unfold sync
  rw [if_pos al]
  rfl
theorem wtsH_split (p : Held → Bool) (l : List Held) : wtsH (l.filter p) + wts ((l.filter fun h => !p h).map (·.message)) = wtsH l := by
  unfold wtsH
  induction l with
  | nil => rfl
  | cons a r ih =>
    have e : ∀ (m : Held) (q : List Held), wts ((m :: q).map (·.message)) = wtB m.message.body + wts (q.map (·.message)) := fun m q => by unfold wts; simp
    rw [List.filter_cons, List.filter_cons]
    cases hp : p a with
    | true => rw [if_pos rfl, if_neg (by simp), e, e]; omega
    | false => rw [if_neg Bool.false_ne_true, if_pos (by simp), e, e]; omega
theorem synced_ok (h : NodeOk c n) (al : n.alive = true) (count : Nat) : NodeOk c (synced count n) := by
  refine ⟨h.memb, h.quiet, h.asc, ?_, fun x hx => ?_, fun z => ?_⟩
  · have := h.even
    unfold Even at this ⊢
    unfold synced carryOut
    dsimp only
    rw [this, List.length_take, List.length_drop]
    omega
  · obtain ⟨h1, h2⟩ := List.mem_filter.mp hx
    exact ⟨of_decide_eq_true h2, (h.held x h1).2⟩
  · have : n.alive = false := z
    rw [al] at this; cases this
theorem synced_phi (count : Nat) : Phi (synced count n) + wts (freed count n) ≤ Phi n := by
  have e := wtsH_split (fun h => decide ((carryOut count n).done < h.need)) n.held
  have e2 : (n.held.filter fun h => !decide ((carryOut count n).done < h.need)) = n.held.filter fun h => h.need ≤ (carryOut count n).done := by
    apply List.filter_congr
    intro x _
    by_cases q : (carryOut count n).done < x.need
    · have : ¬ x.need ≤ (carryOut count n).done := by omega
      simp [q, this]
    · have : x.need ≤ (carryOut count n).done := by omega
      simp [q, this]
  rw [e2] at e
  unfold Phi freed
  have : (synced count n).writes.length ≤ n.writes.length := by
    show (n.writes.drop count).length ≤ _
    rw [List.length_drop]; omega
  show potR n.elector.role + n.elector.ballots.length + n.active.length + (synced count n).writes.length + wtsH (n.held.filter fun h => (carryOut count n).done < h.need) + _ ≤ _
  omega
theorem sync_out (h9 : (everyone c).length ≤ 9) (h : NodeOk c n) (al : n.alive = true) (count : Nat) : OutOk c n (sync c count n) 2 := by
  rw [sync_eq al]
  have hs := synced_ok h al count
  have st := afterSync_st (workOf_ok hs)
  have g := st.grows
  have o : OutOk c (synced count n) (finish (current (synced count n)) (afterSync c (workOf (synced count n)))) 2 := by
    refine finish_out _ _ st.ok ?_ ?_ ?_ _ 2 g.id ?_
    · unfold Even; rw [g.made, g.didd, g.writes]; exact hs.even
    · rw [g.held, g.didd]; exact hs.held
    · rw [g.alive]; exact al
    · rw [g.writes, g.held]
      have p := afterSync_psi (c := c) (w := workOf (synced count n)) h9
      have e : Psi (workOf (synced count n)) + (synced count n).writes.length + wtsH (synced count n).held = Phi (synced count n) := by
        unfold Psi psi Phi workOf wts
        simp
        omega
      show Psi (afterSync c (workOf (synced count n))) + (synced count n).writes.length + 1 + wtsH (synced count n).held ≤ _
      omega
  refine ⟨o.ok, o.id, fun m hm => ?_, ?_⟩
  · rcases List.mem_append.mp hm with hm | hm
    · obtain ⟨x, hx, rfl⟩ := List.mem_map.mp hm
      exact (h.held x (List.mem_filter.mp hx).1).2
    · exact o.sent m hm
  · have := synced_phi (n := n) count
    have := o.phi
    dsimp only
    rw [wts_append]
    omega
theorem written_of (n : Node) (count : Nat) : (toM n).written count = toW ((freed count n).map messageRow) (workOf (synced count n)) := by
  have e1 : ((toM n).pending.take count) = (n.writes.take count).map pS := (List.map_take ..).symm
  have e2 : (((toM n).pending.take count).length : Int) = ((n.writes.take count).length : Nat) := by rw [e1, List.length_map]
  have e3 : (toM n).carried + (((toM n).pending.take count).length : Int) = ((carryOut count n).done : Int) := by
    rw [e2]; show (n.done : Int) + _ = ((n.done + (n.writes.take count).length : Nat) : Int); omega
  unfold M.written
  dsimp only
  rw [e3, e1]
  have f1 : ((toM n).held.filter fun h => Decidable.decide (h.1 ≤ ((carryOut count n).done : Int))).map (·.2) = (freed count n).map messageRow := by
    show ((n.held.map fun h => ((h.need : Int), messageRow h.message)).filter fun h => Decidable.decide (h.1 ≤ ((carryOut count n).done : Int))).map (·.2) = _
    unfold freed
    rw [List.filter_map, List.map_map, List.map_map]
    congr 1
    apply List.filter_congr
    intro x _
    exact decide_eq_decide.mpr (by show (x.need : Int) ≤ ((carryOut count n).done : Int) ↔ _; omega)
  have f2 : ((toM n).held.filter fun h => Decidable.decide (((carryOut count n).done : Int) < h.1)) = (synced count n).held.map fun h => ((h.need : Int), messageRow h.message) := by
    show ((n.held.map fun h => ((h.need : Int), messageRow h.message)).filter fun h => Decidable.decide (((carryOut count n).done : Int) < h.1)) = (n.held.filter fun h => (carryOut count n).done < h.need).map _
    rw [List.filter_map]
    congr 1
    apply List.filter_congr
    intro x _
    exact decide_eq_decide.mpr (by show ((carryOut count n).done : Int) < (x.need : Int) ↔ _; omega)
  have f3 : ((n.writes.take count).map pS).getLast?.getD (toM n).stored = pS (carryOut count n).stored := by
    show ((n.writes.take count).map pS).getLast?.getD (pS n.stored) = pS ((n.writes.take count).getLast?.getD n.stored)
    rw [List.getLast?_map]
    cases (n.writes.take count).getLast? <;> rfl
  have f4 : (toM n).pending.drop count = (n.writes.drop count).map pS := (List.map_drop ..).symm
  rw [f1, f2, f3, f4]
  rfl
theorem toO_sent (o : Outcome) (ms : List Message) : toO { o with sent := ms ++ o.sent } = { toO o with leaving := ms.map messageRow ++ o.sent.map messageRow } := by
  unfold toO
  simp
theorem sync_of (h : NodeOk c n) (al : n.alive = true) (count : Nat) : (toM n).carryOut (toC c) count = toO (sync c count n) := by
  have hs := synced_ok h al count
  rw [sync_eq al, toO_sent]
  unfold M.carryOut
  rw [written_of]
  unfold M.afterWrites afterSync
  have e1 : (toW ((freed count n).map messageRow) (workOf (synced count n))).role = roleCode n.elector.role := rfl
  have e2 : (toW ((freed count n).map messageRow) (workOf (synced count n))).pending.isEmpty = (synced count n).writes.isEmpty := by
    show ((synced count n).writes.map pS).isEmpty = _
    cases (synced count n).writes <;> rfl
  rw [e1, e2]
  by_cases q : n.elector.role = .candidate ∧ (synced count n).writes.isEmpty = true
  · have q' : (decide ((workOf (synced count n)).node.elector.role = .candidate) && (workOf (synced count n)).node.writes.isEmpty) = true := by
      rw [Bool.and_eq_true]
      exact ⟨decide_eq_true q.1, q.2⟩
    rw [if_pos ⟨(role_candidate _).mpr q.1, q.2⟩, if_pos q']
    have k := count_of ((freed count n).map messageRow) c (workOf (synced count n)) (workOf (synced count n)).node.id true hs.quiet (.inl q.1)
    have st := countBallot_st (workOf_ok hs) (workOf (synced count n)).node.id true
    have ev : Even (countBallot c (workOf (synced count n)) (workOf (synced count n)).node.id true).node := by
      unfold Even; rw [st.grows.made, st.grows.didd, st.grows.writes]; exact hs.even
    have f := finish_of ((freed count n).map messageRow) (current (synced count n)) _ ev
    rw [← k] at f
    exact f
  · have q' : ¬ (decide ((workOf (synced count n)).node.elector.role = .candidate) && (workOf (synced count n)).node.writes.isEmpty) = true := fun z => by
      rw [Bool.and_eq_true] at z
      exact q ⟨of_decide_eq_true z.1, z.2⟩
    rw [if_neg (fun z => q ⟨(role_candidate _).mp z.1, z.2⟩), if_neg q', finish_eq]
    have n1 : noteW (current (synced count n)) (workOf (synced count n)) = workOf (synced count n) := by
      unfold noteW; exact if_pos rfl
    rw [n1]
    unfold endO
    split
    · simp [toO, toW, toM, workOf]
    · simp [toO, toW, toM, workOf]

/-! ### crash, restart, position -/
theorem stopped_ok (id : Nat) (hi : id ∈ everyone c) (s : Stored) (i t : Nat) : NodeOk c (stopped id s i t) :=
  ⟨hi, fun _ => ⟨rfl, rfl⟩, List.Pairwise.nil, rfl, fun x hx => absurd hx (by simp [stopped]), fun _ => rfl⟩
theorem phi_stopped (id : Nat) (s : Stored) (i t : Nat) : Phi (stopped id s i t) = 0 := rfl
theorem crash_out (h : NodeOk c n) (al : n.alive = true) (k : Nat) : OutOk c n (crash k n) 0 := by
  unfold crash
  rw [if_pos al]
  refine ⟨stopped_ok n.id h.memb _ _ _, rfl, fun m hm => absurd hm (by simp), ?_⟩
  show Phi (stopped n.id _ n.index n.indexTerm) + 0 + 0 ≤ _
  rw [phi_stopped]; exact Nat.zero_le _
theorem crash_of (al : n.alive = true) (k : Nat) : (toM n).stop k = toO (crash k n) := by
  unfold crash
  rw [if_pos al]
  unfold M.stop M.clear toO
  have f3 : ((toM n).pending.take k).getLast?.getD (toM n).stored = pS (carryOut k n).stored := by
    show ((n.writes.map pS).take k).getLast?.getD (pS n.stored) = pS ((n.writes.take k).getLast?.getD n.stored)
    rw [← List.map_take, List.getLast?_map]
    cases (n.writes.take k).getLast? <;> rfl
  rw [f3]
  rfl
theorem restart_out (h : NodeOk c n) (al : n.alive = false) : OutOk c n (restart n) 0 := by
  have hd := h.dead al
  unfold restart
  rw [al]
  simp only [Bool.false_eq_true, if_false]
  have hb : n.beat = 0 := by rw [hd]; rfl
  have ha : n.active = [] := by rw [hd]; rfl
  refine ⟨⟨h.memb, fun _ => ⟨hb, ha⟩, h.asc, h.even, h.held, fun z => by cases z⟩, rfl, fun m hm => absurd hm (by simp), ?_⟩
  show 0 + 0 + n.active.length + n.writes.length + wtsH n.held + 0 + 0 ≤ _
  unfold Phi
  omega
theorem restart_of (h : NodeOk c n) (al : n.alive = false) : (toM n).start = toO (restart n) := by
  have hd := h.dead al
  unfold restart
  rw [al]
  simp only [Bool.false_eq_true, if_false]
  generalize n.id = i at hd
  generalize n.stored = s at hd
  generalize n.index = x at hd
  generalize n.indexTerm = t at hd
  subst hd
  rfl
theorem position_out (h : NodeOk c n) (al : n.alive = true) (i t : Nat) : OutOk c n ⟨{ n with index := i, indexTerm := t }, [], [], 0⟩ 0 :=
  ⟨⟨h.memb, h.quiet, h.asc, h.even, h.held, fun z => by rw [show n.alive = true from al] at z; cases z⟩, rfl, fun m hm => absurd hm (by simp), Nat.le_refl _⟩
end
end Lp
/-! Part I: groups: what is kept, the potential, loops. -/
namespace Lp
open VbrcCore VbrcafPlay
/-- a group of the specification, with what the program notes besides -/
structure GS where
  g : Group
  log : List (Nat × Nat)
  sent : Nat
  bl : List (Int × Int)
def GS.after (S : GS) (r : Group × Seen) : GS := ⟨r.1, S.log ++ r.2.elected, S.sent + r.2.sent.length, S.bl⟩
structure GOk (g : Group) : Prop where
  ids : g.nodes.map (·.id) = everyone g.config
  asc : (everyone g.config).Pairwise (· < ·)
  h9 : (everyone g.config).length ≤ 9
  pos : ∀ x ∈ everyone g.config, x ≠ 0
  nodes : ∀ n ∈ g.nodes, NodeOk g.config n
  net : ∀ m ∈ g.net, MsgOk g.config m
def sumPhi (l : List Node) : Nat := (l.map Phi).sum
def pot (g : Group) : Nat := sumPhi g.nodes + wts g.net
def GS.tot (S : GS) : Nat := pot S.g + S.log.length
theorem GS.after_tot (S : GS) (r : Group × Seen) : (S.after r).tot = pot r.1 + S.log.length + r.2.elected.length := by
  show pot r.1 + (S.log ++ r.2.elected).length = _
  rw [List.length_append]
  omega
theorem GS.after_andThen (S : GS) (r : Group × Seen) (f : Group → Group × Seen) : S.after (andThen r f) = (S.after r).after (f r.1) := by
  unfold GS.after andThen joinSeen
  dsimp only
  rw [List.append_assoc, List.length_append, Nat.add_assoc]
theorem GS.after_nothing (S : GS) : S.after (S.g, nothing) = S := by
  unfold GS.after nothing
  simp
theorem sum_le_of {l : List Node} {n : Node} (h : n ∈ l) : Phi n ≤ sumPhi l := by
  unfold sumPhi
  induction l with
  | nil => cases h
  | cons a r ih =>
    rw [List.map_cons, List.sum_cons]
    rcases List.mem_cons.mp h with z | z
    · subst z; omega
    · have := ih z; omega
theorem sumPhi_set {m n : Node} : ∀ {l : List Node} {i : Nat}, l[i]? = some n → sumPhi (l.set i m) + Phi n = sumPhi l + Phi m
  | [], _, h => by simp at h
  | a :: l, 0, h => by
    have e : a = n := by simpa using h
    subst e
    show (Phi m + sumPhi l) + Phi a = (Phi a + sumPhi l) + Phi m
    omega
  | a :: l, i + 1, h => by
    have := sumPhi_set (m := m) (l := l) (i := i) (by simpa using h)
    show (Phi a + sumPhi (l.set i m)) + Phi n = (Phi a + sumPhi l) + Phi m
    omega
theorem asc_nodup {l : List Nat} (h : l.Pairwise (· < ·)) : l.Nodup := h.imp fun h e => by omega
theorem GOk.nd {g : Group} (h : GOk g) : (g.nodes.map (·.id)).Nodup := by rw [h.ids]; exact asc_nodup h.asc
theorem ids_inj {l : List Node} (nd : (l.map (·.id)).Nodup) {i j : Nat} {a b : Node} (hi : l[i]? = some a) (hj : l[j]? = some b) (e : a.id = b.id) : i = j := by
  have h1 : (l.map (·.id))[i]? = some a.id := by rw [List.getElem?_map, hi]; rfl
  have h2 : (l.map (·.id))[j]? = some a.id := by rw [List.getElem?_map, hj, e]; rfl
  obtain ⟨b1, c1⟩ := List.getElem?_eq_some_iff.mp h1
  obtain ⟨b2, c2⟩ := List.getElem?_eq_some_iff.mp h2
  exact (List.getElem_inj nd).mp (c1.trans c2.symm)
theorem find_at {n : Node} : ∀ {l : List Node} {i : Nat}, (l.map (·.id)).Nodup → l[i]? = some n → (l.find? fun x => decide (x.id = n.id)) = some n
  | [], _, _, h => by simp at h
  | a :: l, 0, _, h => by
    have e : a = n := by simpa using h
    subst e
    simp
  | a :: l, i + 1, nd, h => by
    rw [List.map_cons, List.nodup_cons] at nd
    have h' : l[i]? = some n := by simpa using h
    have ne : ¬ a.id = n.id := fun e => nd.1 (by rw [e]; exact List.mem_map.mpr ⟨n, List.mem_of_getElem? h', rfl⟩)
    rw [List.find?_cons, decide_eq_false ne]
    exact find_at nd.2 h'
theorem nodeOf_at {g : Group} (h : GOk g) {i : Nat} {n : Node} (hi : g.nodes[i]? = some n) : nodeOf g n.id = some n := find_at h.nd hi
theorem nodeOf_has {g : Group} {id : Nat} {n : Node} (h : nodeOf g id = some n) : n.id = id ∧ ∃ i : Nat, g.nodes[i]? = some n := by
  unfold nodeOf at h
  have h1 := List.find?_some h
  have h2 := List.mem_of_find?_eq_some h
  obtain ⟨i, hi, e⟩ := List.getElem_of_mem h2
  exact ⟨by simpa using h1, i, by rw [List.getElem?_eq_getElem hi, e]⟩
theorem nodeOf_none {g : Group} {id : Nat} (h : nodeOf g id = none) : id ∉ g.nodes.map (·.id) := fun z => by
  obtain ⟨n, hn, e⟩ := List.mem_map.mp z
  have := List.find?_eq_none.mp h n hn
  exact this (decide_eq_true e)
theorem nodeOf_mem {g : Group} (h : GOk g) {id : Nat} (hi : id ∈ everyone g.config) : ∃ (n : Node) (i : Nat), nodeOf g id = some n ∧ n.id = id ∧ g.nodes[i]? = some n := by
  cases e : nodeOf g id with
  | none => exact absurd (h.ids ▸ hi) (nodeOf_none e)
  | some n =>
    obtain ⟨h1, i, h2⟩ := nodeOf_has e
    exact ⟨n, i, rfl, h1, h2⟩
/-- a member has become another -/
theorem place_nodes {m n : Node} : ∀ {l : List Node} {i : Nat}, (l.map (·.id)).Nodup → l[i]? = some n → m.id = n.id → (l.map fun x => if x.id = m.id then m else x) = l.set i m
  | [], _, _, h, _ => by simp at h
  | a :: l, 0, nd, h, e => by
    have e1 : a = n := by simpa using h
    subst e1
    rw [List.map_cons, List.nodup_cons] at nd
    show (if a.id = m.id then m else a) :: _ = m :: l
    rw [if_pos e.symm]
    congr 1
    rw [List.map_congr_left (g := fun x => x)]
    · exact List.map_id' l
    · intro x hx
      rw [if_neg fun z => nd.1 (by rw [← e, ← z]; exact List.mem_map.mpr ⟨x, hx, rfl⟩)]
  | a :: l, i + 1, nd, h, e => by
    rw [List.map_cons, List.nodup_cons] at nd
    have h' : l[i]? = some n := by simpa using h
    have ne : ¬ a.id = m.id := fun z => nd.1 (by rw [z, e]; exact List.mem_map.mpr ⟨n, List.mem_of_getElem? h', rfl⟩)
    show (if a.id = m.id then m else a) :: _ = a :: l.set i m
    rw [if_neg ne, place_nodes nd.2 h' e]
theorem place_eq {g : Group} (h : GOk g) {i : Nat} {n : Node} (hi : g.nodes[i]? = some n) {o : Outcome} (e : o.node.id = n.id) :
    place g o = (⟨g.config, g.nodes.set i o.node, g.net ++ o.sent⟩, ⟨o.sent, o.elected.map fun t => (t, n.id), o.code⟩) := by
  unfold place
  rw [place_nodes h.nd hi e, e]
theorem set_ids {m n : Node} {l : List Node} {i : Nat} (h : l[i]? = some n) (e : m.id = n.id) : (l.set i m).map (·.id) = l.map (·.id) := by
  rw [List.map_set, e]
  have h1 : (l.map (·.id))[i]? = some n.id := by rw [List.getElem?_map, h]; rfl
  obtain ⟨b, c⟩ := List.getElem?_eq_some_iff.mp h1
  rw [← c]
  exact List.set_getElem_self b
theorem place_ok {g : Group} (h : GOk g) {i : Nat} {n : Node} (hi : g.nodes[i]? = some n) {o : Outcome} {k : Nat} (ho : OutOk g.config n o k) :
    GOk (place g o).1 ∧ (place g o).1.config = g.config ∧ pot (place g o).1 + (place g o).2.elected.length ≤ pot g + k ∧ ∀ (j : Nat) (x : Node), g.nodes[j]? = some x → x.id ≠ n.id → (place g o).1.nodes[j]? = some x := by
  rw [place_eq h hi ho.id]
  refine ⟨⟨?_, h.asc, h.h9, h.pos, fun x hx => ?_, fun m hm => ?_⟩, rfl, ?_, fun j x hj ne => ?_⟩
  · show (g.nodes.set i o.node).map (·.id) = _
    rw [set_ids hi ho.id]
    exact h.ids
  · rcases List.mem_or_eq_of_mem_set hx with z | z
    · exact h.nodes x z
    · rw [z]; exact ho.ok
  · rcases List.mem_append.mp hm with z | z
    · exact h.net m z
    · exact ho.sent m z
  · unfold pot
    dsimp only
    rw [wts_append, List.length_map]
    have h1 := sumPhi_set (m := o.node) hi
    have h2 := ho.phi
    omega
  · have ne' : i ≠ j := fun z => by subst z; rw [hi] at hj; cases hj; exact ne rfl
    show (g.nodes.set i o.node)[j]? = _
    rw [List.getElem?_set_ne ne', hj]
/-! ### all running members in turn -/
def upto (g : Group) (f : Node → Step) (j : Nat) : Group × Seen := steps g (((running g).map f).take j)
theorem steps_snoc (g : Group) (l : List Step) (s : Step) : steps g (l ++ [s]) = andThen (steps g l) fun x => step x s := by
  unfold steps
  rw [List.foldl_append]
  rfl
theorem take_snoc {α : Type} : ∀ {l : List α} {i : Nat} {x : α}, l[i]? = some x → l.take (i + 1) = l.take i ++ [x]
  | [], i, x, h => by simp at h
  | a :: l, 0, x, h => by
    have e : a = x := by simpa using h
    subst e
    rfl
  | a :: l, i + 1, x, h => by
    rw [List.take_succ_cons, List.take_succ_cons, take_snoc (l := l) (i := i) (x := x) (by simpa using h)]
    rfl
theorem upto_succ {g : Group} {f : Node → Step} {j : Nat} {n : Node} (h : (running g)[j]? = some n) : upto g f (j + 1) = andThen (upto g f j) fun x => step x (f n) := by
  unfold upto
  rw [take_snoc (x := f n) (by rw [List.getElem?_map, h]; rfl), steps_snoc]
theorem upto_all (g : Group) (f : Node → Step) : upto g f (running g).length = steps g ((running g).map f) := by
  unfold upto
  rw [List.take_of_length_le (by rw [List.length_map]; exact Nat.le_refl _)]
/-- what stands behind the first j turns -/
structure Sw (g : Group) (r : Group × Seen) (j k : Nat) : Prop where
  ok : GOk r.1
  cfg : r.1.config = g.config
  pot : pot r.1 + r.2.elected.length ≤ pot g + j * k
  rest : ∀ (i : Nat) (n : Node), g.nodes[i]? = some n → n.id ∉ ((running g).take j).map (·.id) → r.1.nodes[i]? = some n
theorem running_at {g : Group} {j : Nat} {n : Node} (h : (running g)[j]? = some n) : n.alive = true ∧ ∃ i : Nat, g.nodes[i]? = some n := by
  have hm := List.mem_of_getElem? h
  unfold running at hm
  obtain ⟨h1, h2⟩ := List.mem_filter.mp hm
  obtain ⟨i, hi, e⟩ := List.getElem_of_mem h1
  exact ⟨by simpa using h2, i, by rw [List.getElem?_eq_getElem hi, e]⟩
theorem running_nd {g : Group} (h : GOk g) : ((running g).map (·.id)).Nodup := h.nd.sublist (List.filter_sublist.map _)
theorem running_fresh {g : Group} (h : GOk g) {j : Nat} {n : Node} (hj : (running g)[j]? = some n) : n.id ∉ ((running g).take j).map (·.id) := fun z => by
  obtain ⟨x, hx, e⟩ := List.mem_map.mp z
  obtain ⟨i, hi, e2⟩ := List.getElem_of_mem hx
  rw [List.length_take] at hi
  have : (running g)[i]? = some x := by rw [List.getElem_take] at e2; rw [List.getElem?_eq_getElem (by omega), e2]
  have := ids_inj (running_nd h) this hj e
  omega
theorem sw_zero {g : Group} (h : GOk g) (f : Node → Step) (k : Nat) : Sw g (upto g f 0) 0 k := by
  have e : upto g f 0 = (g, nothing) := rfl
  rw [e]
  exact ⟨h, rfl, by show Lp.pot g + 0 ≤ _; omega, fun i n hi _ => hi⟩
/-- one more: node n, now still as it was, by an outcome o -/
theorem sw_succ {g : Group} {f : Node → Step} {j k : Nat} {n : Node} {o : Outcome} (h : GOk g) (s : Sw g (upto g f j) j k) (hj : (running g)[j]? = some n) {i : Nat} (hi : g.nodes[i]? = some n)
    (ho : OutOk g.config n o k) (e : step (upto g f j).1 (f n) = place (upto g f j).1 o) : Sw g (upto g f (j + 1)) (j + 1) k := by
  have hi2 := s.rest i n hi (running_fresh h hj)
  rw [upto_succ hj]
  unfold andThen joinSeen
  dsimp only
  rw [e]
  obtain ⟨p1, p2, p3, p4⟩ := place_ok s.ok hi2 (by rw [s.cfg]; exact ho)
  refine ⟨p1, p2.trans s.cfg, ?_, fun i2 x hx nx => ?_⟩
  · have := s.pot
    dsimp only
    rw [List.length_append, Nat.succ_mul]
    omega
  · rw [take_snoc hj, List.map_append, List.mem_append, not_or] at nx
    refine p4 i2 x (s.rest i2 x hx nx.1) fun z => nx.2 ?_
    rw [z]
    exact List.mem_singleton.mpr rfl
theorem step_tick {g : Group} (h : GOk g) {i : Nat} {n : Node} (hi : g.nodes[i]? = some n) : step g (.tick n.id) = place g (input n (tick g.config)) := by
  show onNode g n.id _ = _
  unfold onNode
  rw [nodeOf_at h hi]
theorem step_sync {g : Group} (h : GOk g) {i : Nat} {n : Node} (hi : g.nodes[i]? = some n) (k : Nat) : step g (.sync n.id k) = place g (sync g.config k n) := by
  show onNode g n.id _ = _
  unfold onNode
  rw [nodeOf_at h hi]
theorem sw_tick {g : Group} {j : Nat} {n : Node} (h : GOk g) (s : Sw g (upto g (fun n => .tick n.id) j) j 85) (hj : (running g)[j]? = some n) : Sw g (upto g (fun n => .tick n.id) (j + 1)) (j + 1) 85 := by
  obtain ⟨al, i, hi⟩ := running_at hj
  have hi2 := s.rest i n hi (running_fresh h hj)
  exact sw_succ h s hj hi (tick_out h.h9 (h.nodes n (List.mem_of_getElem? hi)) al) (by rw [step_tick s.ok hi2, s.cfg])
theorem sw_sync {g : Group} {j : Nat} {n : Node} (h : GOk g) (s : Sw g (upto g (fun n => .sync n.id n.writes.length) j) j 2) (hj : (running g)[j]? = some n) : Sw g (upto g (fun n => .sync n.id n.writes.length) (j + 1)) (j + 1) 2 := by
  obtain ⟨al, i, hi⟩ := running_at hj
  have hi2 := s.rest i n hi (running_fresh h hj)
  exact sw_succ h s hj hi (sync_out h.h9 (h.nodes n (List.mem_of_getElem? hi)) al n.writes.length) (by rw [step_sync s.ok hi2, s.cfg])
theorem sw_upto {g : Group} (h : GOk g) (f : Node → Step) (k : Nat) (hs : ∀ j n, Sw g (upto g f j) j k → (running g)[j]? = some n → Sw g (upto g f (j + 1)) (j + 1) k) : ∀ j, j ≤ (running g).length → Sw g (upto g f j) j k
  | 0, _ => sw_zero h f k
  | j + 1, hj => by
    have hlt : j < (running g).length := by omega
    exact hs j _ (sw_upto h f k hs j (by omega)) (List.getElem?_eq_getElem hlt)
theorem running_le {g : Group} (h : GOk g) : (running g).length ≤ 9 := by
  have h1 : (running g).length ≤ g.nodes.length := List.length_filter_le _ _
  have h2 : g.nodes.length = (everyone g.config).length := by rw [← h.ids, List.length_map]
  have := h.h9
  omega
/-! ### messages arrive -/
/-- what stands behind an outcome, with less than so much -/
structure Wf (c : Config) (r : Group × Seen) (b : Nat) : Prop where
  ok : GOk r.1
  cfg : r.1.config = c
  pot : pot r.1 + r.2.elected.length ≤ b
theorem arrive_eq {g : Group} (h : GOk g) {m : Message} (hm : MsgOk g.config m) : ∃ (n : Node) (i : Nat), g.nodes[i]? = some n ∧ n.id = m.receiver ∧ arrive g m = if n.alive = true then place g (input n (receive g.config m)) else (g, nothing) := by
  obtain ⟨n, i, h1, h2, h3⟩ := nodeOf_mem h hm.2.1
  refine ⟨n, i, h3, h2, ?_⟩
  unfold arrive
  rw [h1]
theorem arrive_ok {g : Group} (h : GOk g) {m : Message} (hm : MsgOk g.config m) : GOk (arrive g m).1 ∧ (arrive g m).1.config = g.config ∧ pot (arrive g m).1 + (arrive g m).2.elected.length ≤ pot g + wtB m.body := by
  obtain ⟨n, i, hi, hid, e⟩ := arrive_eq h hm
  rw [e]
  by_cases al : n.alive = true
  · rw [if_pos al]
    obtain ⟨p1, p2, p3, _⟩ := place_ok h hi (receive_out h.h9 (h.nodes n (List.mem_of_getElem? hi)) al m hm)
    exact ⟨p1, p2, p3⟩
  · rw [if_neg al]
    exact ⟨h, rfl, by show pot g + 0 ≤ _; omega⟩
def arr (bl : List (Nat × Nat)) (x : Group × Seen) (m : Message) : Group × Seen := if isBlocked bl m then x else andThen x fun y => arrive y m
def swept (bl : List (Nat × Nat)) (l : List Message) (x : Group × Seen) (j : Nat) : Group × Seen := (l.take j).foldl (arr bl) x
theorem swept_succ {bl : List (Nat × Nat)} {l : List Message} {x : Group × Seen} {j : Nat} {m : Message} (h : l[j]? = some m) : swept bl l x (j + 1) = arr bl (swept bl l x j) m := by
  unfold swept
  rw [take_snoc h, List.foldl_append]
  rfl
theorem wts_take {l : List Message} {j : Nat} {m : Message} (h : l[j]? = some m) : wts (l.take (j + 1)) = wts (l.take j) + wtB m.body := by
  rw [take_snoc h, wts_append]
  rfl
theorem wts_take_le (l : List Message) (j : Nat) : wts (l.take j) ≤ wts l := by
  have h := congrArg wts (List.take_append_drop j l)
  rw [wts_append] at h
  omega
theorem swept_ok {bl : List (Nat × Nat)} {l : List Message} {x : Group × Seen} {b : Nat} (hl : ∀ m ∈ l, MsgOk x.1.config m) (h : Wf x.1.config x b) : ∀ j, j ≤ l.length → Wf x.1.config (swept bl l x j) (b + wts (l.take j))
  | 0, _ => by
    have e : swept bl l x 0 = x := rfl
    rw [e]
    exact ⟨h.ok, h.cfg, by have := h.pot; omega⟩
  | j + 1, hj => by
    have hlt : j < l.length := by omega
    have e := List.getElem?_eq_getElem hlt
    have ih := swept_ok (bl := bl) hl h j (by omega)
    rw [swept_succ e, wts_take e]
    unfold arr
    split
    · exact ⟨ih.ok, ih.cfg, by have := ih.pot; omega⟩
    · obtain ⟨p1, p2, p3⟩ := arrive_ok ih.ok (m := l[j]) (by rw [ih.cfg]; exact hl _ (List.getElem_mem _))
      refine ⟨p1, p2.trans ih.cfg, ?_⟩
      unfold andThen joinSeen
      dsimp only
      rw [List.length_append]
      have := ih.pot
      omega
/-! ### rounds -/
def emptied (r : Group × Seen) : Group × Seen := (⟨r.1.config, r.1.nodes, []⟩, r.2)
theorem round_eq (bl : List (Nat × Nat)) (g : Group) : VbrcafPlay.round bl g = swept bl (steps g ((running g).map fun n => .sync n.id n.writes.length)).1.net (emptied (steps g ((running g).map fun n => .sync n.id n.writes.length))) (steps g ((running g).map fun n => .sync n.id n.writes.length)).1.net.length := by
  unfold swept VbrcafPlay.round emptied
  rw [List.take_length]
  rfl
theorem emptied_ok {g : Group} {r : Group × Seen} {k : Nat} (ok : GOk r.1) (cfg : r.1.config = g.config) (hp : pot r.1 + r.2.elected.length ≤ k) : Wf g.config (emptied r) (k - wts r.1.net) ∧ wts r.1.net ≤ k := by
  have e : pot r.1 = sumPhi r.1.nodes + wts r.1.net := rfl
  refine ⟨⟨⟨ok.ids, ok.asc, ok.h9, ok.pos, ok.nodes, fun _ z => by cases z⟩, cfg, ?_⟩, by omega⟩
  unfold emptied pot
  have : wts [] = 0 := rfl
  dsimp only
  omega
theorem synced_all {g : Group} (h : GOk g) : Sw g (steps g ((running g).map fun n => .sync n.id n.writes.length)) (running g).length 2 := by
  rw [← upto_all]
  exact sw_upto h _ 2 (fun j n s hj => sw_sync h s hj) _ (Nat.le_refl _)
theorem ticked_all {g : Group} (h : GOk g) : Sw g (steps g ((running g).map fun n => .tick n.id)) (running g).length 85 := by
  rw [← upto_all]
  exact sw_upto h _ 85 (fun j n s hj => sw_tick h s hj) _ (Nat.le_refl _)
theorem round_ok {g : Group} (h : GOk g) (bl : List (Nat × Nat)) : Wf g.config (VbrcafPlay.round bl g) (pot g + 18) := by
  have s := synced_all h
  have l9 := running_le h
  rw [round_eq]
  have hp : pot (steps g ((running g).map fun n => .sync n.id n.writes.length)).1 + (steps g ((running g).map fun n => .sync n.id n.writes.length)).2.elected.length ≤ pot g + 18 := by have := s.pot; omega
  obtain ⟨w1, w2⟩ := emptied_ok s.ok s.cfg hp
  have hn : ∀ m ∈ (steps g ((running g).map fun n => .sync n.id n.writes.length)).1.net, MsgOk (emptied (steps g ((running g).map fun n => .sync n.id n.writes.length))).1.config m := s.ok.net
  have z := swept_ok (bl := bl) (l := (steps g ((running g).map fun n => .sync n.id n.writes.length)).1.net) (x := emptied (steps g ((running g).map fun n => .sync n.id n.writes.length))) hn (by rw [w1.cfg]; exact w1) _ (Nat.le_refl _)
  refine ⟨z.ok, z.cfg.trans w1.cfg, ?_⟩
  have := z.pot
  rw [List.take_length] at this
  omega
theorem rounds_succ (bl : List (Nat × Nat)) : ∀ (k : Nat) (r : Group × Seen), rounds bl (k + 1) r = andThen (rounds bl k r) (VbrcafPlay.round bl)
  | 0, r => rfl
  | k + 1, r => by
    show rounds bl (k + 1) (andThen r (VbrcafPlay.round bl)) = _
    rw [rounds_succ bl k]
    rfl
theorem rounds_ok {bl : List (Nat × Nat)} {c : Config} {r : Group × Seen} {b : Nat} (h : Wf c r b) : ∀ k, Wf c (rounds bl k r) (b + 18 * k)
  | 0 => h
  | k + 1 => by
    have ih := rounds_ok (bl := bl) h k
    rw [rounds_succ]
    have z := round_ok ih.ok bl
    refine ⟨z.ok, z.cfg.trans ih.cfg, ?_⟩
    unfold andThen joinSeen
    dsimp only
    rw [List.length_append]
    have := z.pot
    have := ih.pot
    omega
def ticksOf (g : Group) : Group × Seen := steps g ((running g).map fun n => .tick n.id)
def advanced (bl : List (Nat × Nat)) (r : Group × Seen) : Group × Seen := rounds bl roundsPerTick (andThen r ticksOf)
theorem advance_step (bl : List (Nat × Nat)) (k : Nat) (r : Group × Seen) : advance bl (k + 1) r = advance bl k (advanced bl r) := by
  rw [advance]
  unfold advanced ticksOf
  rfl
theorem advance_succ (bl : List (Nat × Nat)) : ∀ (k : Nat) (r : Group × Seen), advance bl (k + 1) r = advanced bl (advance bl k r)
  | 0, r => by rw [advance_step]; rfl
  | k + 1, r => by
    have e1 := advance_step bl (k + 1) r
    have e2 := advance_succ bl k (advanced bl r)
    have e3 := advance_step bl k r
    exact e1.trans (e2.trans (congrArg (advanced bl) e3.symm))
theorem advanced_ok {bl : List (Nat × Nat)} {c : Config} {r : Group × Seen} {b : Nat} (h : Wf c r b) : Wf c (andThen r ticksOf) (b + 765) ∧ Wf c (advanced bl r) (b + 873) := by
  have s := ticked_all h.ok
  have l9 := running_le h.ok
  have z : Wf c (andThen r ticksOf) (b + 765) := by
    refine ⟨s.ok, s.cfg.trans h.cfg, ?_⟩
    unfold andThen joinSeen
    dsimp only
    rw [List.length_append]
    have := s.pot
    have := h.pot
    unfold ticksOf
    omega
  exact ⟨z, rounds_ok (bl := bl) z 6⟩
theorem advance_ok {bl : List (Nat × Nat)} {c : Config} {r : Group × Seen} {b : Nat} (h : Wf c r b) : ∀ k, Wf c (advance bl k r) (b + 873 * k)
  | 0 => h
  | k + 1 => by
    have ih := advance_ok (bl := bl) h k
    rw [advance_succ]
    have z := (advanced_ok (bl := bl) ih).2
    exact ⟨z.ok, z.cfg, Nat.le_trans z.pot (by rw [Nat.mul_succ, Nat.add_assoc]; exact Nat.le_refl _)⟩
end Lp
/-! Part J: what is done to a member. -/
namespace Lp
open VbrcCore VbrcafPlay
theorem finish_alive (b : Stored) (w : Work) : (finish b w).node.alive = w.node.alive ∧ (finish b w).code = 0 := by
  unfold finish
  by_cases e : current w.node = b
  · rw [if_pos e]
    dsimp only
    split <;> exact ⟨rfl, rfl⟩
  · rw [if_neg e]
    dsimp only
    split <;> exact ⟨rfl, rfl⟩
theorem tick_alive {c : Config} {n : Node} (h : NodeOk c n) (al : n.alive = true) : (input n (tick c)).node.alive = true ∧ (input n (tick c)).code = 0 := by
  unfold input
  rw [if_pos al]
  obtain ⟨h1, h2⟩ := finish_alive (current n) (tick c (workOf n))
  exact ⟨h1.trans ((tick_st (workOf_ok h)).grows.alive.trans al), h2⟩
theorem sync_code {c : Config} {n : Node} (al : n.alive = true) (k : Nat) : (sync c k n).code = 0 := by
  unfold sync
  rw [if_pos al]
  exact (finish_alive _ _).2
theorem steps_succ (g : Group) (s : Step) (t : Nat) : steps g (List.replicate (t + 1) s) = andThen (steps g (List.replicate t s)) fun x => step x s := by
  rw [List.replicate_succ', steps_snoc]
/-- ticks of one running member -/
structure Tk (g : Group) (i : Nat) (n : Node) (r : Group × Seen) (b : Nat) : Prop where
  wf : Wf g.config r b
  node : ∃ m, r.1.nodes[i]? = some m ∧ m.id = n.id ∧ m.alive = true
  code : r.2.code = 0
theorem ticks_ok {g : Group} (h : GOk g) {i : Nat} {n : Node} (hi : g.nodes[i]? = some n) (al : n.alive = true) : ∀ t, Tk g i n (steps g (List.replicate t (.tick n.id))) (pot g + 85 * t)
  | 0 => ⟨⟨h, rfl, Nat.le_refl _⟩, ⟨n, hi, rfl, al⟩, rfl⟩
  | t + 1 => by
    obtain ⟨⟨ok, cfg, hp⟩, ⟨m, hm, hid, alm⟩, _⟩ := ticks_ok h hi al t
    have st := step_tick ok hm
    rw [hid] at st
    have nok := ok.nodes m (List.mem_of_getElem? hm)
    have to := tick_out ok.h9 nok alm
    obtain ⟨p1, p2, p3, _⟩ := place_ok ok hm to
    have pe := place_eq ok hm to.id
    rw [steps_succ]
    unfold andThen joinSeen
    dsimp only
    rw [st]
    refine ⟨⟨p1, p2.trans cfg, ?_⟩, ⟨(input m (tick (steps g (List.replicate t (Step.tick n.id))).1.config)).node, ?_, to.id.trans hid, (tick_alive nok alm).1⟩, ?_⟩
    · dsimp only
      rw [List.length_append]
      omega
    · rw [pe]
      exact List.getElem?_set_self (List.getElem?_eq_some_iff.mp hm).1
    · rw [pe]
      exact (tick_alive nok alm).2
theorem place_same {g : Group} (h : GOk g) {i : Nat} {n : Node} (hi : g.nodes[i]? = some n) (k : Int) : place g (refuse n k) = (g, ⟨[], [], k⟩) := by
  rw [place_eq h hi rfl]
  unfold refuse
  dsimp only
  obtain ⟨b, c⟩ := List.getElem?_eq_some_iff.mp hi
  have : g.nodes.set i n = g.nodes := by rw [← c]; exact List.set_getElem_self b
  rw [this, List.append_nil]
  rfl
theorem dead_ticks {g : Group} (h : GOk g) {i : Nat} {n : Node} (hi : g.nodes[i]? = some n) (al : n.alive = false) : ∀ t, (steps g (List.replicate (t + 1) (.tick n.id))).2.code = -1 ∧ (steps g (List.replicate t (.tick n.id))).1 = g
  | 0 => by
    have st := step_tick h hi
    have e : input n (tick g.config) = refuse n stoppedCode := by unfold input; rw [if_neg (by rw [al]; exact Bool.false_ne_true)]
    rw [e, place_same h hi] at st
    refine ⟨?_, rfl⟩
    show (joinSeen nothing (step g (.tick n.id)).2).code = -1
    rw [st]
    rfl
  | t + 1 => by
    have st := step_tick h hi
    have e : input n (tick g.config) = refuse n stoppedCode := by unfold input; rw [if_neg (by rw [al]; exact Bool.false_ne_true)]
    rw [e, place_same h hi] at st
    have ih := (dead_ticks h hi al t).2
    have e1 : (steps g (List.replicate (t + 1) (.tick n.id))).1 = g := by
      rw [steps_succ]
      unfold andThen
      dsimp only
      rw [ih, st]
    refine ⟨?_, e1⟩
    rw [steps_succ]
    unfold andThen joinSeen
    dsimp only
    rw [e1, st]
    rfl
/-- what an operation on a member does: r, by its number and its arguments -/
def MemIs (g : Group) (n : Node) (num : Int) (ns : List Nat) (r : Group × Seen) : Prop :=
  (num = 1 ∧ 2 ≤ ns.length ∧ 1 ≤ ns.getD 1 0 ∧ ns.getD 1 0 ≤ 40 ∧ r = steps g (List.replicate (ns.getD 1 0) (.tick n.id))) ∨ (num = 5 ∧ 2 ≤ ns.length ∧ r = step g (.sync n.id (ns.getD 1 0))) ∨
  (num = 6 ∧ 2 ≤ ns.length ∧ r = step g (.crash n.id (ns.getD 1 0))) ∨ (num = 7 ∧ 1 ≤ ns.length ∧ r = step g (.restart n.id)) ∨
  (num = 8 ∧ 3 ≤ ns.length ∧ r = step g (.position n.id (ns.getD 1 0) (ns.getD 2 0))) ∨ (num = 9 ∧ 2 ≤ ns.length ∧ r = step g (.handOver n.id (ns.getD 1 0)))
theorem step_on {g : Group} (h : GOk g) {i : Nat} {n : Node} (hi : g.nodes[i]? = some n) (f : Node → Outcome) : onNode g n.id f = place g (f n) := by
  unfold onNode
  rw [nodeOf_at h hi]
theorem placed_ok {g : Group} (h : GOk g) {i : Nat} {n : Node} (hi : g.nodes[i]? = some n) {o : Outcome} {k b : Nat} (ho : OutOk g.config n o k) (hk : k ≤ b) : Wf g.config (place g o) (pot g + b) := by
  obtain ⟨p1, p2, p3, _⟩ := place_ok h hi ho
  exact ⟨p1, p2, by omega⟩
theorem refuse_ok {c : Config} {n : Node} (h : NodeOk c n) (k : Int) : OutOk c n (refuse n k) 0 := ⟨h, rfl, (fun _ z => by cases z), Nat.le_refl _⟩
theorem target_iff (c : Config) (id t : Nat) : (otherVoters c id).contains t = (!decide (t = id) && isVoter c t) := by
  rw [List.contains_eq_mem]
  have key : (t ∈ otherVoters c id) ↔ (t ≠ id ∧ isVoter c t = true) := by
    unfold otherVoters others
    rw [List.mem_filter, List.mem_filter, mem_everyone]
    constructor
    · rintro ⟨⟨_, h1⟩, h2⟩
      exact ⟨of_decide_eq_true h1, h2⟩
    · rintro ⟨h1, h2⟩
      refine ⟨⟨?_, decide_eq_true h1⟩, h2⟩
      unfold isVoter at h2
      rw [Bool.or_eq_true, List.contains_iff_mem, List.contains_iff_mem] at h2
      exact h2.elim .inl fun z => .inr (.inl z)
  cases e1 : decide (t = id) with
  | true =>
    have := of_decide_eq_true e1
    exact decide_eq_false fun z => (key.mp z).1 this
  | false =>
    have ne := of_decide_eq_false e1
    cases e2 : isVoter c t with
    | true => exact decide_eq_true (key.mpr ⟨ne, e2⟩)
    | false => exact decide_eq_false fun z => by have := (key.mp z).2; rw [e2] at this; cases this
theorem voter_mem {c : Config} {t : Nat} (h : isVoter c t = true) : t ∈ everyone c := by
  unfold isVoter at h
  rw [Bool.or_eq_true, List.contains_iff_mem, List.contains_iff_mem] at h
  exact (mem_everyone c t).mpr (h.elim .inl fun z => .inr (.inl z))
theorem mem_ok {g : Group} (h : GOk g) {i : Nat} {n : Node} (hi : g.nodes[i]? = some n) {num : Int} {ns : List Nat} {r : Group × Seen} (hm : MemIs g n num ns r) (hc : 0 ≤ r.2.code) : Wf g.config r (pot g + 34920) := by
  have nok := h.nodes n (List.mem_of_getElem? hi)
  rcases hm with ⟨_, _, t1, t40, rfl⟩ | ⟨_, _, rfl⟩ | ⟨_, _, rfl⟩ | ⟨_, _, rfl⟩ | ⟨_, _, rfl⟩ | ⟨_, _, rfl⟩
  · cases al : n.alive with
    | true =>
      have z := (ticks_ok h hi al (ns.getD 1 0)).wf
      exact ⟨z.ok, z.cfg, Nat.le_trans z.pot (by omega)⟩
    | false =>
      obtain ⟨t, e⟩ : ∃ t, ns.getD 1 0 = t + 1 := ⟨ns.getD 1 0 - 1, by omega⟩
      rw [e] at hc ⊢
      have := (dead_ticks h hi al t).1
      rw [this] at hc
      exact absurd hc (by decide)
  · show Wf g.config (onNode g n.id _) _
    rw [step_on h hi]
    cases al : n.alive with
    | true => exact placed_ok h hi (sync_out h.h9 nok al _) (by decide)
    | false =>
      have e : sync g.config (ns.getD 1 0) n = refuse n stoppedCode := by unfold sync; rw [if_neg (by rw [al]; exact Bool.false_ne_true)]
      rw [e]
      exact placed_ok h hi (refuse_ok nok _) (by decide)
  · show Wf g.config (onNode g n.id _) _
    rw [step_on h hi]
    cases al : n.alive with
    | true => exact placed_ok h hi (crash_out nok al _) (by decide)
    | false =>
      have e : crash (ns.getD 1 0) n = refuse n stoppedCode := by unfold crash; rw [if_neg (by rw [al]; exact Bool.false_ne_true)]
      rw [e]
      exact placed_ok h hi (refuse_ok nok _) (by decide)
  · show Wf g.config (onNode g n.id _) _
    rw [step_on h hi]
    cases al : n.alive with
    | false => exact placed_ok h hi (restart_out nok al) (by decide)
    | true =>
      have e : restart n = refuse n invalidCode := by unfold restart; rw [if_pos al]
      rw [e]
      exact placed_ok h hi (refuse_ok nok _) (by decide)
  · show Wf g.config (onNode g n.id _) _
    rw [step_on h hi]
    unfold position
    by_cases al : n.alive = true
    · rw [if_pos al]
      by_cases e : (isUpToDate n (ns.getD 1 0) (ns.getD 2 0) && decide (ns.getD 2 0 ≤ n.stored.term)) = true
      · rw [if_pos e]; exact placed_ok h hi (position_out nok al _ _) (by decide)
      · rw [if_neg e]; exact placed_ok h hi (refuse_ok nok _) (by decide)
    · rw [if_neg al]; exact placed_ok h hi (refuse_ok nok _) (by decide)
  · show Wf g.config (onNode g n.id _) _
    rw [step_on h hi]
    unfold handOver
    by_cases al : n.alive = true
    · rw [if_pos al]
      by_cases e1 : (!isLeader n) = true
      · rw [if_pos e1]; exact placed_ok h hi (refuse_ok nok _) (by decide)
      · rw [if_neg e1]
        by_cases e2 : (!(otherVoters g.config n.id).contains (ns.getD 1 0)) = true
        · rw [if_pos e2]; exact placed_ok h hi (refuse_ok nok _) (by decide)
        · rw [if_neg e2]
          have e3 : (otherVoters g.config n.id).contains (ns.getD 1 0) = true := by simpa using e2
          rw [target_iff, Bool.and_eq_true] at e3
          exact placed_ok h hi (handOver_out nok al _ (voter_mem e3.2)) (by decide)
    · rw [if_neg al]; exact placed_ok h hi (refuse_ok nok _) (by decide)
end Lp
/-! Part R: rules that the layer lacks. -/
namespace Lp
open PySem PySem.Spec PyProof.Rows L2
/-! ### t >= u of two tuples of ints -/
def rGeT (K : PySem.W.Frag) : R2 := fun x y H Q => ∃ (a b : Addr) (ns ms : List Int), x = .ref a ∧ y = .ref b ∧ SqT K H a (ns.map V.int) ∧ SqT K H b (ms.map V.int) ∧
  Q (.bl (Ob.lexAt (fun j => decide (ns.getD j 0 = ms.getD j 0)) (fun j => decide (ms.getD j 0 ≤ ns.getD j 0)) (decide (ns.length ≥ ms.length)) 0 (min ns.length ms.length))) H
theorem op_geT {X : Cx} (hu : X.A.units < cLine) : OpR X (compareOp .GtE) (rGeT X.K) := by
  intro pins s σ H x y v u Q I rx ry h
  obtain ⟨a, b, ns, ms, rfl, rfl, ha, hb, q⟩ := h
  cases rx; cases ry
  obtain ⟨us, r1, t1, _⟩ := I.tuple ha
  obtain ⟨ws, r2, t2, _⟩ := I.tuple hb
  have i1 : IntsAre us ns := Vals.ints r1
  have i2 : IntsAre ws ms := Vals.ints r2
  have z1 : us.toArray.size = ns.length := by rw [List.size_toArray]; exact i1.length
  have z2 : ws.toArray.size = ms.length := by rw [List.size_toArray]; exact i2.length
  have g1 : ∀ j (h : j < us.toArray.size), ∃ t, us.toArray[j] = .int (ns.getD j 0) t := fun j h => PyProof.Rows.IntsAre.int_at i1 _ _ (by simp at h; simp [h])
  have g2 : ∀ j (h : j < ws.toArray.size), ∃ t, ws.toArray[j] = .int (ms.getD j 0) t := fun j h => PyProof.Rows.IntsAre.int_at i2 _ _ (by simp at h; simp [h])
  have R := Ob.RcOp.tuples_ge (A := X.A) (s := s) (e := fun j => decide (ns.getD j 0 = ms.getD j 0)) (r := fun j => decide (ms.getD j 0 ≤ ns.getD j 0)) t1 t2 hu
    (fun j h1 h2 => by
      obtain ⟨t, e⟩ := g1 j h1
      obtain ⟨t', e'⟩ := g2 j h2
      rw [e, e', show decide (ns.getD j 0 = ms.getD j 0) = (ns.getD j 0 == ms.getD j 0) by
        by_cases q : ns.getD j 0 = ms.getD j 0
        · rw [decide_eq_true q, beq_iff_eq.mpr q]
        · rw [decide_eq_false q, beq_eq_false_iff_ne.mpr q]]
      exact SeqAt.EqAt.int_int _ _ _ _)
    (fun j h1 h2 _ => by
      obtain ⟨t, e⟩ := g1 j h1
      obtain ⟨t', e'⟩ := g2 j h2
      rw [e, e']
      exact Ob.RcOp.ge_int _ _ _ _)
  rw [z1, z2] at R
  exact R X.prog X.w X.xe (EP X pins σ Q) ⟨.bl _, H, I, rfl, q⟩
/-! ### d.pop(k), k a tuple that is there -/
def rPopT1 : V → List V → Hp → VK → Prop := fun x xs H Q => ∃ (a : Addr) (kvs : List (List L2.Key × V)) (k : List L2.Key) (b : Addr) (v : V), x = .ref a ∧ xs = [.ref b] ∧ H a = some (.dT kvs) ∧ H b = some (.tup (k.map kV)) ∧ valV kvs k = some v ∧ Q v (upd H a (.dT (dropK kvs k)))
theorem mt_popT1 {X : Cx} (hu : X.A.units + 1 < cLine) : MtR X "dict.pop" rPopT1 := by
  intro pins s σ H x xs v us Q I rx rxs h
  obtain ⟨a, kvs, k, b, w, rfl, rfl, ha, hb, hv, q⟩ := h
  cases rx
  obtain ⟨u1, rfl, r1⟩ := vals1 rxs
  cases r1
  obtain ⟨z, hd, ys, rel, dd⟩ := dt_of I.hok ha
  have hz : ys.length ≤ sizeLine := by rw [← Paired.length rel]; exact z
  obtain ⟨w', hw, rw'⟩ := RelO.some_of (v := w) (o := (atKey ys k).map (·.2)) (by rw [← hv]; exact rel.val k)
  obtain ⟨p, hp, e⟩ := Option.map_eq_some_iff.mp hw
  refine call_pop_heap (more := []) (.inl rfl) (PySem.F.args_dict_pop_2 _ _) (tupleKind_room_in1 hu) (key_of I.hok hb) hd dd hp (fun h' dd' hs => ?_) hz
  obtain ⟨o, es, ep, hq, h2, h3, h4, _, h5⟩ := dd'
  have I2 : Inv X pins σ (upd H a (.dT (dropK kvs k))) { s with heap := h', toks := s.toks + (tupleKind (mixKind X.prog X.w)).draws k } :=
    d_write I (by rw [ha]; exact True.intro) hs ⟨o, hq⟩ ⟨Nat.le_trans (dropK_le kvs k) z, hd, _, (L2.DX.KT_drop k rel).keeps (fun c zs ec => (by rw [upd_ne (ne_of ec ha (fun z => nomatch z))]; exact ec)), o, es, ep, hq, h2, h3, h4, h5⟩
  exact ⟨w, _, I2, by rw [e]; exact rw', q⟩
/-! ### o.f as a target -/
def gFld (K : PySem.W.Frag) (ta : TE) (f : Str) : TG := fun y σ H Q => ta σ H fun x H2 => ∃ a C dx fs, x = .ref a ∧ H2 a = some (.ins C dx fs) ∧ Cls K C ∧ NoAttr K C f ∧ fs.length < 1000 ∧ Q σ (upd H2 a (.ins C dx (putF f y fs)))
theorem pg_fld {X : Cx} {o : Expr} {ta : TE} {f : Str} {pos : Pos} (ha : PE X o ta) : PG X (.Attribute o f pos) (gFld X.K ta f) := by
  refine ⟨fun pins s σ H y u Q I ry h => ?_⟩
  refine PySem.W.kas_attr (thn (ha.run pins s σ H _ I h) fun ov s1 ⟨x, H1, I1, rx, a, C, dx, fs, ex, ea, c, n, l, q⟩ => ?_)
  subst ex
  obtain rfl : ov = Value.ref a := rx
  exact setattr_ok I1 ea c n l ry fun s3 I3 => ⟨σ, _, I3, q⟩
end Lp
/-! Part R2: the program's own error, Refusal(Exception) with a field (turned from the skeleton of an own error over ValueError). -/
namespace PySem
namespace RefX
abbrev exTail : List Value := [.type "Exception", .type "BaseException", .type "object"]
open PySem.W PySem.Calls PyProof.Rows PySem.HandSPX
/-! ### the text of __init__ -/
def iA (p1 p2 : Pos) : Arguments := { posonlyargs := [], args := [{ arg := "self", annotation := none, pos := p1 }, { arg := "code", annotation := none, pos := p2 }], vararg := none, kwonlyargs := [], kw_defaults := [], kwarg := none, defaults := [] }
def iB (q1 q2 q3 q4 : Pos) : List Stmt := [.Assign [.Attribute (.Name "self" q1) "code" q2] (.Name "code" q3) q4]
def iS : Scope := { kind := .function, names := [(PySem.Str.ofString "self", .local), (PySem.Str.ofString "code", .local)], isGenerator := false, isCoroutine := false, more := [] }
/-- what the written part says of Low, at C, and of its __init__, at fI -/
structure RefTxt (K : Frag) (mg : Str → Option Value) (C fI : Addr) : Prop where
  gC : mg "Refusal" = some (.ref C)
  cls : ∃ nm q N bs bm sn sub ab col dd k0 k1 k2 k3 k5, K.lookup C = some (excClassObj nm q C N bs bm true sn sub ab col dd k0 k1 k2 k3 k5 "Exception.__new__") ∧ bm = exTail
  sa : findIn K (.ref C) "__setattr__" = some (some (.builtin "object.__setattr__"))
  ga : findIn K (.ref C) "__getattribute__" = some (some (.builtin "BaseException.__getattribute__"))
  gg : findIn K (.ref C) "__getattr__" = some none
  noN : findIn K (.ref C) "code" = some none
  iC : findIn K (.ref C) "__init__" = some (some (.ref fI))
  tC : typeIn K (.ref fI) = some (.type "function")
  kC : keepIn K (.ref C) = true
  exC : subIn K (.ref C) (.type "BaseException") = some true
  tyC : typeIn K (.ref C) = some (.type "type")
  hdC : hasDictIn K C = true
  te : exmOne K (.ref C) (.ref C) = some true
  fn : ∃ (oc : Value) (od : Option Addr) (doc pm : Value) (an : Option Addr) (cdv ct : Value) (osl : Array (Option Value)) (p1 p2 q1 q2 q3 q4 : Pos),
    K.lookup fI = some ⟨oc, od, .func (fnOf "__init__" "Refusal.__init__" (iA p1 p2) (iB q1 q2 q3 q4) iS .none .none doc pm an cdv ct), osl⟩ ∧ codeIn K cdv "Refusal.__init__" = true
theorem one_size (v : Value) : [v].length ≤ sizeLine := by
  rw [sizeLine_eq]
  exact (by decide : 1 ≤ 16777216)
theorem kept_but {K : Frag} {h h' : Heap} {x : Addr} (X : K.In h) (hx : K.lookup x = none) (k : ∀ b o, b ≠ x → h.get? b = some o → h'.get? b = some o) : K.In h' := fun a o e =>
  k a o (fun z => by rw [z, hx] at e; cases e) (X a o e)
theorem ldC {M : Model} {s : Shared} {name : Str} {scope : Scope} {L a : Addr} {cd : Value} {m : Str → Option Value} {x : Str} {pos : Pos} {v : Value} {Q : Value → Shared → Prop} {A : Around} {E : Value → Shared → Prop} (hn : s.heap.Ns L m) (hv : m x = some v) (h : Q v s)
    (hk : scope.kind = .function := by rfl) (hl : (envOfC name scope L a cd).kindOf x = some .local := by rfl) (hd : (x == ("__debug__" : Str)) = false := by decide) :
    wpAny M A (eval (.Name x pos) (envOfC name scope L a cd)) Q E s := wpAny_Name (wpAny_loadName_local hk hl hn hv h) hd
section
variable {prog : Program} {w : World} {A : Around} {R : Result → Shared → Prop} {hp : Heap} {g : Array GenState} {d : Drawn} {t : Nat} {os : OsState}
/-- the first store to an exception of an own class straight over Exception -/
theorem exc_osaE {K : Frag} {name : Str} {tk : Tok} {v : Value} {x C : Addr} {fv : Array Value} {cd : ClassData}
    (X : K.In hp) (hx : hp.get? x = some { cls := .ref C, data := .fields fv }) (hcd : clsIn K C = some cd) (hm : cd.mro = .ref C :: exTail) (hh : cd.hasDict = true) (ha : findIn K (.ref C) name = some none)
    (hq : ∀ h' tk' dx, (∀ b o, b ≠ x → hp.get? b = some o → h'.get? b = some o) → hp.objs.size ≤ dx → dx ≠ x → h'.get? x = some { cls := .ref C, dict := some dx, data := .fields fv } →
      h'.Ns1 dx (fun y => if y = name then some v else none) → R (.ok (.ret .none)) ⟨h', g, d, tk', os⟩) :
    codeAny (model prog w) A (.call (.builtin "object.__setattr__") ⟨[.ref x, .str name tk, v], []⟩) R ⟨hp, g, d, t, os⟩ := by
  have hxs : x ≠ hp.objs.size := Nat.ne_of_lt (Heap.lt_size hx)
  have over : excOver K C exTail = true := by
    unfold excOver
    rw [hcd]
    show (match cd.mro with | .ref C' :: bm => C' == C && excTail exTail bm | _ => false) = true
    rw [hm]
    show (C == C && excTail exTail exTail) = true
    rw [beq_self_eq_true, Bool.true_and]
    decide +kernel
  have taker : takerIn K C name = some none := by unfold takerIn; rw [ha]; rfl
  have hcls : Looks (model prog w) hp (classData C) cd := looks_clsIn X hcd
  refine osa_openX (s := ⟨hp, g, d, t, os⟩) (od := none) (r := none) F.store_Exception X ⟨hx, rfl, rfl, trivial⟩ over taker fun b => ?_
  show wpAny _ _ (Builtin.ObjectAttr.storeInOwnDict (.ref x) (.ref C) (.str name tk) name v b) _ _ _
  obtain ⟨nm, bs, mro, ns, qn, hd, sn, sb, ab, col, del⟩ := cd
  dsimp only at hh
  subst hh
  unfold Builtin.ObjectAttr.storeInOwnDict Builtin.ObjectAttr.ownDictForStores
  repeat (first | with_reducible refine store_in_new ?_ ?_ | with_reducible refine wpAny_loadPart_at hx ?_ | with_reducible refine hcls.at ?_ | wp_step)
  · exact ⟨_, #[], _, (Heap.get?_update_ne _ _ _ _ hxs.symm).trans (Heap.get?_push_at rfl rfl), rfl, fun e he => absurd he (by simp), fun _ => rfl⟩
  · intro h' tk' hn' hs
    have hx₁ : (hp.push { cls := .type "dict", data := .dict #[] }).get? x = some { cls := .ref C, data := .fields fv } := Heap.get?_push_of_some _ hx
    refine hq h' tk' hp.objs.size (fun c o hb ho => ?_) (Nat.le_refl _) hxs.symm ?_ hn'
    · exact (hs.2 c (Nat.ne_of_lt (Heap.lt_size ho))).trans ((Heap.get?_update_ne _ _ _ _ hb).trans (Heap.get?_push_of_some _ ho))
    · exact (hs.2 x hxs).trans (Heap.get?_update_self _ hx₁ rfl)
end
/-- what __init__ leaves of a fresh exception at x -/
structure InitEnd (h h' : Heap) (x C dx t1 : Addr) (v : Value) : Prop where
  keep : ∀ b o, b ≠ x → h.get? b = some o → h'.get? b = some o
  obj : h'.get? x = some { cls := .ref C, dict := some dx, data := .fields #[.ref t1, .none, .none, .none, .bool false, .none] }
  dbig : h.objs.size ≤ dx
  dne : dx ≠ x
  ns : h'.Ns1 dx (fun y => if y = "code" then some v else none)
/-- a made Low -/
structure OwnMade (h h' : Heap) (e C d : Addr) (v : Value) : Prop where
  keep : ∀ b o, h.get? b = some o → h'.get? b = some o
  new : h.objs.size ≤ e
  obj : ∃ oe vs, h'.get? e = some oe ∧ oe.cls = .ref C ∧ oe.dict = some d ∧ oe.data = .fields vs ∧ vs[1]? = some .none
  dbig : h.objs.size ≤ d
  dne : d ≠ e
  ns : h'.Ns1 d (fun y => if y = "code" then some v else none)
section
variable {prog : Program} {w : World} {A : Around} {E : Value → Shared → Prop} {R : Result → Shared → Prop} {s : Shared} {K : Frag} {mg : Str → Option Value} {C fI : Addr}
theorem ref_init (T : RefTxt K mg C fI) {x t0 : Addr} {v : Value} (X : K.In s.heap) (hlim : s.heap.NoLimit) (hx : s.heap.get? x = some (excO C t0)) (hnx : K.lookup x = none) (hroom : A.depth < recursionLimit)
    (hq : ∀ h' tk dx, InitEnd s.heap h' x C dx t0 v → R (.ok (.ret .none)) { s with heap := h', toks := tk }) :
    codeAny (model prog w) A (.call (.ref fI) ⟨[.ref x, v], []⟩) R s := by
  obtain ⟨oc, od, doc, pm, an, cdv, ct, osl, p1, p2, q1, q2, q3, q4, ho, hcd⟩ := T.fn
  obtain ⟨nm, q, N, bs, bm, sn, sub, ab, col, dd, k0, k1, k2, k3, k5, hC, hbm⟩ := T.cls
  have hcl : clsIn K C = some { name := nm, bases := bs, mro := .ref C :: bm, ns := N, qualname := q, hasDict := true, slotNames := sn, subclasses := sub, abstract := ab, collection := col, hasDel := false } := by unfold clsIn; rw [hC] <;> rfl
  refine Att.call_fn (binds := [("self", .ref x), ("code", v)]) X hlim ho hcd hroom (BindsTo.of_eq (by first | rfl | with_unfolding_all rfl)) (by first | rfl | decide | with_unfolding_all rfl) (fun s₁ IC => ?_) rfl rfl rfl
  obtain ⟨h₁, tk₁, rfl⟩ := IC.toInCall.same
  have k : ∀ b o, s.heap.get? b = some o → h₁.get? b = some o := IC.toInCall.keep
  have hn := IC.toInCall.ns
  have hxL : s.heap.objs.size ≠ x := Nat.ne_of_gt (Heap.lt_size hx)
  have X₁ : K.In h₁ := X.keeps k
  have hx₁ := k _ _ hx
  -- self.by = by
  show wpAny _ _ (execs _ _) _ _ _
  refine wpAny_execs_cons (plainObj_wpAny_Assign_Attribute ?_)
  refine ldC (v := v) hn (by first | rfl | with_unfolding_all rfl | kernel_rfl) (ldC (v := .ref x) hn (by first | rfl | with_unfolding_all rfl | kernel_rfl) ?_)
  refine set_plain X₁ (ox := excO C t0) (od := none) ⟨hx₁, rfl, rfl, trivial⟩ T.sa ?_
  refine exc_osaE X₁ hx₁ hcl (by rw [hbm]) rfl T.noN (fun h₃ tk₃ dx k₃ dn dne hx₃ hn₃ => ?_)
  show wpAny _ _ (execs _ _) _ _ _
  have z : s.heap.objs.size < h₁.objs.size := hn.lt
  exact wpAny_execs_nil (hq h₃ tk₃ dx ⟨fun b o hb e => k₃ b o hb (k b o e), hx₃, Nat.le_of_lt (Nat.lt_of_lt_of_le z dn), dne, hn₃⟩)
theorem ref_made (T : RefTxt K mg C fI) {v : Value} (X : K.In s.heap) (hlim : s.heap.NoLimit) (hroom : A.depth + 1 < recursionLimit)
    (hq : ∀ h' tk e d, OwnMade s.heap h' e C d v → R (.ok (.ret (.ref e))) { s with heap := h', toks := tk }) :
    codeAny (model prog w) A (.call (.ref C) ⟨[v], []⟩) R s := by
  obtain ⟨nm, q, N, bs, bm, sn, sub, ab, col, dd, k0, k1, k2, k3, k5, hC, hbm⟩ := T.cls
  obtain ⟨hp, g, dr, tk, os⟩ := s
  have k : ∀ b o, hp.get? b = some o → ((hp.push (kdv_tup [v])).push (excO C hp.objs.size)).get? b = some o := fun b o e => Heap.get?_push_of_some _ (Heap.get?_push_of_some _ e)
  have hget : ((hp.push (kdv_tup [v])).push (excO C hp.objs.size)).get? (hp.objs.size + 1) = some (excO C hp.objs.size) := by heap_get
  have hnx : K.lookup (hp.objs.size + 1) = none := by
    cases e : K.lookup (hp.objs.size + 1) with
    | none => rfl
    | some o =>
      have z : hp.get? (hp.objs.size + 1) = some o := X _ _ e
      exact absurd (Nat.lt_of_succ_lt (Heap.lt_size z)) (Nat.lt_irrefl _)
  refine call_own F.excBase_Exception (fun X => by rw [hbm]) (X _ _ hC) (looks_findIn X T.iC) (fun self => bind_fn X self T.tC) (one_size v) ?_
  refine ref_init (s := ⟨(hp.push (kdv_tup [v])).push (excO C hp.objs.size), g, dr, tk, os⟩) T (X.keeps k) (hlim.keeps k) hget hnx ?_ fun h' tk' dx ⟨k', hx, dn, dne, hns⟩ => ?_
  · show A.depth + 1 < recursionLimit
    exact hroom
  · have old : ∀ b o, hp.get? b = some o → h'.get? b = some o := fun b o e => k' b o (Nat.ne_of_lt (Nat.lt_succ_of_lt (Heap.lt_size e))) (k b o e)
    have z : hp.objs.size + 1 + 1 ≤ dx := by
      first
        | (simpa only [Heap.size_push] using dn)
        | exact dn
        | (have q := dn; rw [Heap.size_push, Heap.size_push] at q; exact q)
    exact ⟨rfl, hq h' tk' (hp.objs.size + 1) dx ⟨old, Nat.le_succ _, ⟨_, _, hx, rfl, rfl, rfl, rfl⟩, Nat.le_trans (Nat.le_trans (Nat.le_succ _) (Nat.le_succ _)) z, dne, hns⟩⟩
end
end RefX
end PySem
namespace L2
open PySem PySem.Spec PyProof.Rows
theorem relO_ref {v : V} {v' : Value} (r : RelV v v') (f : Str) : RelO (List.lookup f [(("code" : Str), v)]) (if f = "code" then some v' else none) := by
  by_cases hw : f = "code"
  · subst hw
    rw [if_pos rfl]
    have q : List.lookup ("code" : Str) [(("code" : Str), v)] = some v := by simp [List.lookup]
    rw [q]
    exact r
  · rw [if_neg hw]
    have qw : (f == ("code" : Str)) = false := by simpa using hw
    have q2 : List.lookup f [(("code" : Str), v)] = none := by simp [List.lookup, qw]
    rw [q2]
    trivial
section
variable {X : Cx} {C fI : Addr}
/-- Low(e) -/
def tMkRef (C : Addr) (ta : TA) : St → Hp → XK → Prop := fun σ H Q => ta σ H fun vs H1 => ∃ v, vs = [v] ∧ ∀ d, H1 d = none → Q (.ref C) (some d) (upd H1 d (.xd [(("code" : Str), v)]))
theorem pmk_ref {a : Expr} {ta : TA} {p pos : Pos} {k : Nat} (T : PySem.RefX.RefTxt X.K X.mg C fI) (hr : Room k X.A) (ha : PA X [a] ta) (hg : Gl X "Refusal" := by rfl)
    (he : starEach (a :: []) X.env = (false, eval a X.env) :: starEach [] X.env := by rfl) (hpl : (backTo pos (starEach [] X.env)).any (·.1) = false := by rfl) :
    PMk X (.Call (.Name "Refusal" p) [a] [] pos) (tMkRef C ta) := by
  intro pins s σ H Q I h
  refine wpAny_Call_Name_kw (ld_glob I hg T.gC ?_)
  refine PySem.W.callWith_K (h₀ := X.base) I.ok.mod.kin T.kC (thn (ha.run pos pins s σ H _ I h) fun us s1 hh => ?_) he hpl
  obtain ⟨vs, H1, I1, r1, v, ev, q1⟩ := hh
  subst ev
  refine ⟨I1.kIn, ?_⟩
  cases r1 with
  | cons rv rn =>
    rename_i v' us'
    cases rn
    show wpAny _ _ (call (.ref C) [v']) _ _ _
    have hlim := I1.nolimit
    obtain ⟨hp, g, dr, tk, os⟩ := s1
    refine wpAny_call (PySem.RefX.ref_made T I1.kIn hlim (by have := hr.dp; omega) fun h' tk' e d M => ?_)
    show MkP X pins σ Q (.ref e) ⟨h', g, dr, tk', os⟩
    obtain ⟨oe, fv, hoe, hc, hd, hdat, h1⟩ := M.obj
    have hns := M.ns
    obtain ⟨G', g1, g2⟩ := restrict h' fun b => decide (b ≠ e)
    have gk : ∀ b, b ≠ e → G'.get? b = h'.get? b := fun b hb => g1 b (decide_eq_true hb)
    have ge : G'.get? e = none := g2 e (by simp)
    have old : ∀ b o, hp.get? b = some o → G'.get? b = some o := fun b o q => (gk b (Nat.ne_of_lt (Nat.lt_of_lt_of_le (Heap.lt_size q) M.new))).trans (M.keep b o q)
    have ob : ObjOk X.prog X.w (upd H1 d (.xd [(("code" : Str), v)])) G' d (.xd [(("code" : Str), v)]) :=
      ⟨_, hns.at (fun o q => (gk d M.dne).trans q), fun f => relO_ref rv f⟩
    have J : Inv X pins σ (upd H1 d (.xd [(("code" : Str), v)])) ⟨G', g, dr, tk', os⟩ := I1.laid (t' := tk') old M.dbig ob
    refine ⟨e, oe, fv, ⟨G', g, dr, tk', os⟩, _, .ref C, some d, rfl, J, fun b o q => ?_, ge, hoe, ⟨hc, hd⟩, hdat, h1, ?_, rfl, I1.bare, raises_own T.exC T.tyC, q1 d (I1.hok.fresh M.dbig)⟩
    · by_cases hb : b = e
      · have q' : G'.get? b = some o := q
        rw [hb, ge] at q'; cases q'
      · exact (gk b hb).symm.trans q
    · rw [upd_ne (Ne.symm M.dne)]
      exact I1.hok.fresh M.new
/-- raise Low(e) -/
def tRaiseRef (C : Addr) (W : WX) (ta : TA) : TS := fun _ σ H => tMkRef C ta σ H fun cls d H' => W cls d σ H'
theorem ps_raiseRef {a : Expr} {ta : TA} {W : WX} {p pos pos2 : Pos} {k : Nat} (hc : X.calm = true) (T : PySem.RefX.RefTxt X.K X.mg C fI) (hr : Room k X.A) (tk : Takes X W) (ha : PA X [a] ta) (hg : Gl X "Refusal" := by rfl)
    (he : starEach (a :: []) X.env = (false, eval a X.env) :: starEach [] X.env := by rfl) (hpl : (backTo pos (starEach [] X.env)).any (·.1) = false := by rfl) :
    PS X (.Raise (some (.Call (.Name "Refusal" p) [a] [] pos)) none pos2) (tRaiseRef C W ta) := ps_raise hc tk (pmk_ref T hr ha hg he hpl)
/-- low.by, low the exception that the suite holds (at a; its class cls, its dict d) -/
def tCodeOf (C : Addr) (a : Addr) (cls : Value) (d : Option Addr) (te : TE) : TE := fun σ H Q => te σ H fun x H1 => x = .ref a ∧ cls = .ref C ∧ ∃ (dd : Addr) (v : V), d = some dd ∧ H1 dd = some (.xd [(("code" : Str), v)]) ∧ Q v H1
theorem pe_codeOf {a : Addr} {oe : Obj} {cls : Value} {d : Option Addr} {pn : List (Addr × Obj)} {e : Expr} {te : TE} {pos : Pos} (T : PySem.RefX.RefTxt X.K X.mg C fI) (hz : Zc cls d oe) (hf : ∃ vs, oe.data = .fields vs) (he : PE (X.suite a ((a, oe) :: pn)) e te)
    (hb : attributeBase e "code" X.env (eval e X.env) = eval e X.env := by rfl) :
    PE (X.suite a ((a, oe) :: pn)) (.Attribute e "code" pos) (tCodeOf C a cls d te) := by
  refine ⟨fun pins s σ H Q I h => ?_⟩
  refine attr_of hb (thn (he.run pins s σ H _ I h) fun u s1 hh => ?_)
  obtain ⟨x, H1, I1, rx, ex, ec, dd, v, ed, ea, q⟩ := hh
  subst ex
  obtain rfl : u = Value.ref a := rx
  subst ec
  subst ed
  obtain ⟨ha, _⟩ := I1.pin (a, oe) (List.mem_append_left _ List.mem_cons_self)
  obtain ⟨vs, hd⟩ := hf
  have hx : ObjOk X.prog X.w H1 s1.heap dd (.xd [(("code" : Str), v)]) := I1.hok dd _ ea
  obtain ⟨mA, hns, hr⟩ := hx
  obtain ⟨od, ho, hl⟩ := lookIn_ns hns
  have l : List.lookup ("code" : Str) [(("code" : Str), v)] = some v := by simp [List.lookup]
  obtain ⟨u, hu, ru⟩ := RelO.some_of (v := v) (o := mA "code") (by rw [← l]; exact hr "code")
  have J : PySem.W.InstAt s1.heap a oe C (some od) := ⟨ha, hz.1, by unfold PySem.W.notCls; rw [hd] <;> rfl, by rw [hz.2]; exact ho⟩
  exact HandSPX.exc_get I1.kIn J T.ga T.gg T.exC (PySem.W.findObj_own T.hdC T.noN rfl (by rw [hl, hu])) (handed_of ru) ⟨v, H1, I1.tok _, ru, q⟩
end
end L2
/-! Part R3: set(xs) of a list of ints (after the library's set of a tuple). -/
namespace Lp
open PySem PySem.Spec PyProof.Rows L2
def newSet (w : World) : Obj := { cls := .type "set", dict := none, data := .set #[] 0 (.fresh 0 0 (!w.params.followText "set-order")) }
theorem isList_push {h : Heap} {l : Addr} {items : Array Value} (x : h.IsList l items) (o : Obj) : (h.push o).IsList l items := let ⟨u, e, r⟩ := x; ⟨u, Heap.get?_push_of_some _ e, r⟩
section
variable {P : Program} {w : World} {A : Around} {E : Value → Shared → Prop} {s : Shared}
theorem call_set_listI {l : Addr} {items : Array Value} (ns : List Int) {Q : Value → Shared → Prop} (hh : A.handled = none) (hl : s.heap.IsList l items) (hit : IntsAre items.toList ns) (hb : ns.length + 1 < scanBound)
    (h : ∀ (h' : Heap) (tk c : Nat), SetR w h' s.heap.objs.size (fun j => decide (j ∈ ns)) c → c ≤ ns.length → (∀ b o, s.heap.get? b = some o → h'.get? b = some o) → Q (.ref s.heap.objs.size) { s with heap := h', toks := tk }) :
    wpAny (model P w) A (call (.type "set") [.ref l]) Q E s := by
  have hisz : items.size = ns.length := by
    have q := IntsAre.length hit
    rw [Array.length_toList] at q
    exact q
  obtain ⟨c, tl, hmro⟩ := F.called_set.mro
  have hmade := F.called_set.made
  have hsub := F.called_set.sub
  refine wpAny_call (codeAny_of_tree ?_)
  show wpAny _ _ (callAny (.type "set") _) _ _ _
  refine wpAny_pure ⟨Code.quiet_builtin _ (by decide +kernel), codeAny_builtin F.entry_type_call ?_⟩
  rw [Around.under_plain (weight_type_call_type "set" [.ref l] []) rfl]
  have h1 := F.called_set.notType
  have h2 := F.called_set.canCreate
  have hct := F.typeCall_set_1 (.ref l)
  repeat (any_goals (first | assumption | wp_step))

  refine codeAny_mono (code_set_led1 (.ref l) (E := E) (Q₁ := fun obj s₁ => obj = .ref s.heap.objs.size ∧ s₁ = { s with heap := s.heap.push (newSet w) }) ⟨rfl, rfl⟩) fun r s₁ hr => ?_
  cases r with
  | error e => exact hr
  | ok fl =>
    cases fl with
    | ret obj =>
      obtain ⟨rfl, rfl⟩ := hr
      have hS : (s.heap.push (newSet w)).get? s.heap.objs.size = some (newSet w) := Heap.get?_push_size _ rfl
      have hT : Shared.TypeIs { s with heap := s.heap.push (newSet w) } (.ref s.heap.objs.size) "set" := ⟨_, hS, rfl⟩
      have hli := F.called_set.init.lookup
      have hbi := F.called_set.init.bind (.ref s.heap.objs.size)
      repeat (any_goals (first | assumption | wp_step))

      refine codeAny_mono (codeAny_call_builtin (R := wants (fun r s₂ => r = .none ∧ ∃ h' tk c, s₂ = { s with heap := h', toks := tk } ∧ SetR w h' s.heap.objs.size (fun j => decide (j ∈ ns)) c ∧ c ≤ ns.length ∧
          (∀ b o, s.heap.get? b = some o → h'.get? b = some o)) E) F.called_set.init.plain F.entry_set_init (check_set_init_1 hT ?_)) fun r₂ s₂ hr₂ => ?_
      · obtain ⟨ol, hol, hcl, nl, hdl⟩ := hl
        obtain ⟨ocls, odict, odata, oslots⟩ := ol
        simp only at hcl hdl
        subst hcl; subst hdl
        have hol' : (s.heap.push (newSet w)).get? l = some { cls := .type "list", dict := odict, data := .seq items nl, slots := oslots } := Heap.get?_push_of_some _ hol
        have hsls := F.sub_list_set
        have hslf := F.sub_list_frozenset
        have hne : (Value.type "list" == Value.type "dict") = false := by decide
        have hl1 : (s.heap.push (newSet w)).IsList l items := ⟨_, hol', rfl, nl, rfl⟩
        unfold Builtin.«set.__init__» noKeywords Builtin.Frozenset.updateFrom
        generalize hPI : pyIter = PI
        wp_walk
        subst hPI

        refine wpAny_pyIter_list hl1 ?_
        refine wpAny_bind (wpAny_runValue ?_)
        have hlS : l < s.heap.objs.size := Heap.lt_size hol
        have hh3 : A.in1.in1.in1.handled = none := by simp [hh]
        have hz1 : (s.heap.push (newSet w)).objs.size = s.heap.objs.size + 1 := Heap.size_push ..
        have hneI : l ≠ (s.heap.push (newSet w)).objs.size := by
          rw [Heap.size_push]; exact Nat.ne_of_lt (Nat.lt_succ_of_lt hlS)
        have hSf : s.heap.objs.size ∉ [(s.heap.push (newSet w)).objs.size, l] := by
          rw [Heap.size_push]; simp only [List.mem_cons, List.mem_singleton, List.not_mem_nil, or_false, not_or]
          exact ⟨Nat.ne_of_lt (Nat.lt_succ_self _), Nat.ne_of_gt hlS⟩
        have hval : ∀ (i : Nat) (v : Value), items[i]? = some v → ∃ k t, ns[i]? = some k ∧ v = .int k t := fun i v hv => by
          have hi : i < ns.length := by rw [← hisz]; exact (Array.getElem?_eq_some_iff.mp hv).1
          obtain ⟨t, e⟩ := PyProof.Rows.IntsAre.int_at hit i v (by rw [Array.getElem?_toList]; exact hv)
          refine ⟨ns[i], t, List.getElem?_eq_getElem hi, ?_⟩
          rw [e, List.getD_eq_getElem?_getD, List.getElem?_eq_getElem hi] <;> rfl
        refine set_update_ints ((Walks.list hh3 _ l hneI items).toS) s.heap.objs.size
          hSf ns hisz hb hval (items.size - 0) 0 _ (by omega) (Nat.zero_le _)
          ⟨⟨_, Heap.get?_push_size _ rfl, rfl, rfl⟩, (isList_push hl1 _)⟩ ?hS0 ?hR
        case hS0 =>
          have hget : ((s.heap.push (newSet w)).push { cls := .type "list_iterator", data := .fields #[.ref l, .int 0 0] }).get? s.heap.objs.size
              = some (newSet w) := Heap.get?_push_of_some _ hS
          exact ⟨0, Nat.le_refl 0, setR_new_at hget⟩
        case hR =>
          intro s' c' hm hc' hS'
          obtain ⟨h', g2, d', tk', os'⟩ := s'
          have eg : g2 = s.gens := hm.gens
          have ed : d' = s.drawn := hm.drawn
          have eo : os' = s.os := hm.os
          subst eg; subst ed; subst eo
          show wpAny _ _ _ _ _ _
          refine wpAny_pure ?_
          show wpAny _ _ (ret Value.none) _ _ _
          rw [hisz] at hc'
          refine wpAny_pure ⟨rfl, h', tk', c', rfl, hS', hc', fun b o e => ?_⟩
          have hb0 : b < s.heap.objs.size := Heap.lt_size e
          have hb1 : b ≠ s.heap.objs.size := Nat.ne_of_lt hb0
          have hb2 : b ≠ (s.heap.push (newSet w)).objs.size := by
            rw [Heap.size_push]; exact Nat.ne_of_lt (Nat.lt_succ_of_lt hb0)
          exact hm.heap b o (by simp only [List.mem_cons, List.mem_singleton, List.not_mem_nil, or_false, not_or]; exact ⟨hb1, hb2⟩) (Heap.get?_push_of_some _ (Heap.get?_push_of_some _ e))

      · cases r₂ with
        | error e => exact hr₂
        | ok fl₂ =>
          cases fl₂ with
          | ret r =>
            obtain ⟨rfl, h', tk, c', rfl, hS', hc', hk'⟩ := hr₂
            repeat (any_goals (first | assumption | wp_step))
            exact h _ _ _ hS' hc' hk'
          | _ => exact hr₂.elim
    | _ => exact hr.elim



end
section
variable {X : Cx}
/-- set(xs), a list of ints -/
def rSetL (K : PySem.W.Frag) (w : World) : List V → Hp → VK → Prop := fun xs H Q => ∃ (a : Addr) (ns : List Int), xs = [.ref a] ∧ SqL K H a (ns.map V.int) ∧ ns.length + 1 < scanBound ∧
  ∀ (p : Addr) (n : Nat), n ≤ ns.length → H p = none → Q (.ref p) (upd H p (SetO w p (fun j => decide (j ∈ ns)) n))
theorem cr_setL (hc : X.calm = true) : CallR X (.type "set") (rSetL X.K X.w) := by
  intro pins s σ H xs us Q I r h
  obtain ⟨a, ns, rfl, hs, hb, q⟩ := h
  obtain ⟨u, rfl, ru⟩ := vals1 r
  cases ru
  obtain ⟨its, rv, pl, _⟩ := I.list hs
  have hi : IntsAre its ns := Vals.ints rv
  refine call_set_listI ns (I.ok.hd hc) pl.isList (by simpa using hi) hb fun h' tk c R hcn k => ?_
  exact ⟨.ref _, _, I.laid (a := s.heap.objs.size) (o := SetO X.w s.heap.objs.size (fun j => decide (j ∈ ns)) c) (t' := tk) k (Nat.le_refl _) (setO_new R), rfl, q _ c hcn (I.hok.fresh (Nat.le_refl _))⟩
end
end Lp
/-! Part T: how a member lies in the heap. Every mutable address bears a tag (its owner's number, its field): own : Ow. -/
namespace Lp
open PySem PySem.Spec PyProof.Rows L2
/-! ### lists of related things -/
theorem pr_append {α β : Type} {F : α → β → Prop} : ∀ {a b : List α} {c d : List β}, Paired F a c → Paired F b d → Paired F (a ++ b) (c ++ d)
  | _, _, _, _, .nil, h => h
  | _, _, _, _, .cons x t, h => .cons x (pr_append t h)
theorem pr_take {α β : Type} {F : α → β → Prop} : ∀ {a : List α} {c : List β} (n : Nat), Paired F a c → Paired F (a.take n) (c.take n)
  | _, _, 0, _ => .nil
  | _, _, _ + 1, .nil => .nil
  | _, _, n + 1, .cons x t => .cons x (pr_take n t)
theorem pr_drop {α β : Type} {F : α → β → Prop} : ∀ {a : List α} {c : List β} (n : Nat), Paired F a c → Paired F (a.drop n) (c.drop n)
  | _, _, 0, h => h
  | _, _, _ + 1, .nil => .nil
  | _, _, n + 1, .cons _ t => pr_drop n t
theorem pr_get {α β : Type} {F : α → β → Prop} : ∀ {a : List α} {c : List β} {i : Nat} {x : α}, Paired F a c → a[i]? = some x → ∃ y, c[i]? = some y ∧ F x y
  | _, _, _, _, .nil, h => by simp at h
  | _, _, 0, _, .cons x t, h => ⟨_, rfl, by cases h; exact x⟩
  | _, _, i + 1, _, .cons x t, h => by
    obtain ⟨y, h1, h2⟩ := pr_get (i := i) t (by simpa using h)
    exact ⟨y, by simpa using h1, h2⟩
theorem pr_get' {α β : Type} {F : α → β → Prop} : ∀ {a : List α} {c : List β} {i : Nat} {y : β}, Paired F a c → c[i]? = some y → ∃ x, a[i]? = some x ∧ F x y
  | _, _, _, _, .nil, h => by simp at h
  | _, _, 0, _, .cons x t, h => ⟨_, rfl, by cases h; exact x⟩
  | _, _, i + 1, _, .cons x t, h => by
    obtain ⟨y, h1, h2⟩ := pr_get' (i := i) t (by simpa using h)
    exact ⟨y, by simpa using h1, h2⟩
theorem pr_eraseIdx {α β : Type} {F : α → β → Prop} : ∀ {a : List α} {c : List β} (i : Nat), Paired F a c → Paired F (a.eraseIdx i) (c.eraseIdx i)
  | _, _, _, .nil => by simpa using Paired.nil
  | _, _, 0, .cons _ t => t
  | _, _, i + 1, .cons x t => .cons x (pr_eraseIdx i t)
theorem pr_ints : ∀ {vs : List V} {ns : List Int}, Paired (fun v n => v = V.int n) vs ns → vs = ns.map V.int
  | _, _, .nil => rfl
  | _, _, .cons x t => by rw [x, pr_ints t]; rfl
theorem pr_of_ints : ∀ ns : List Int, Paired (fun v n => v = V.int n) (ns.map V.int) ns
  | [] => .nil
  | _ :: r => .cons rfl (pr_of_ints r)

/-! ### what stays of a heap -/
abbrev Ow := Addr → Option (Int × Nat)
def tag (w : Ow) (q : Addr) (t : Int × Nat) : Ow := fun b => if b = q then some t else w b
theorem tag_same {w : Ow} {q : Addr} {t : Int × Nat} : tag w q t q = some t := if_pos rfl
theorem tag_ne {w : Ow} {q b : Addr} {t : Int × Nat} (h : b ≠ q) : tag w q t b = w b := if_neg h
/-- the tuples stay -/
def TK (H H' : Hp) : Prop := ∀ b xs, H b = some (.tup xs) → H' b = some (.tup xs)
theorem TK.trans {H H1 H2 : Hp} (a : TK H H1) (b : TK H1 H2) : TK H H2 := fun c xs e => b c xs (a c xs e)
theorem tk_upd {H : Hp} {a : Addr} {o u : HO} (h : H a = some u) (d : ∀ xs, u ≠ .tup xs) : TK H (upd H a o) := fun b xs e => by
  rw [upd_ne (ne_of e h (fun z => d xs z.symm))]; exact e
theorem same_upd {H : Hp} {q : Addr} {o : HO} (h : H q = none) : Same H (upd H q o) := fun b u e => by rw [upd_ne (ne_of_none e h)]; exact e
theorem same_tk {H H' : Hp} (s : Same H H') : TK H H' := fun b xs e => s b _ e
/-- how a thing lies as a value -/
abbrev Rp (α : Type) := Hp → V → α → Prop
def rInt : Rp Int := fun _ v n => v = .int n
def rRow : Rp (List Int) := fun H v r => ∃ t, v = .ref t ∧ H t = some (.tup (r.map V.int))
def rPr : Rp (Int × Int) := fun H v x => ∃ t, v = .ref t ∧ H t = some (.tup [.int x.1, .int x.2])
def rBal : Rp (Int × Bool) := fun H v x => ∃ t, v = .ref t ∧ H t = some (.tup [.int x.1, .bl x.2])
def rHeld : Rp (Int × List Int) := fun H v x => ∃ t t', v = .ref t ∧ H t = some (.tup [.int x.1, .ref t']) ∧ H t' = some (.tup (x.2.map V.int))
/-- it stays where the tuples stay -/
class Stays {α : Type} (R : Rp α) : Prop where
  keep : ∀ {H H' : Hp} {v : V} {x : α}, TK H H' → R H v x → R H' v x
instance : Stays rInt := ⟨fun _ h => h⟩
instance : Stays rRow := ⟨fun k ⟨t, e, h⟩ => ⟨t, e, k t _ h⟩⟩
instance : Stays rPr := ⟨fun k ⟨t, e, h⟩ => ⟨t, e, k t _ h⟩⟩
instance : Stays rBal := ⟨fun k ⟨t, e, h⟩ => ⟨t, e, k t _ h⟩⟩
instance : Stays rHeld := ⟨fun k ⟨t, t', e, h, h'⟩ => ⟨t, t', e, k t _ h, k t' _ h'⟩⟩
theorem pr_keep {α : Type} {R : Rp α} [Stays R] {H H' : Hp} {vs : List V} {xs : List α} (k : TK H H') (h : Paired (R H) vs xs) : Paired (R H') vs xs := Paired.mapP h fun _ _ z => Stays.keep k z
/-- a list of the owner n in its field k -/
def LF {α : Type} (H : Hp) (w : Ow) (n : Int) (k : Nat) (R : Rp α) (a : Addr) (xs : List α) : Prop := w a = some (n, k) ∧ ∃ vs, H a = some (.lst vs) ∧ Paired (R H) vs xs
section
variable {α : Type} {H H' : Hp} {w w' : Ow} {n : Int} {k : Nat} {R : Rp α} [Stays R] {a b : Addr} {xs : List α} {o u : HO}
/-- it stands where it isn't changed -/
theorem LF.move (h : LF H w n k R a xs) (tk : TK H H') (e : H' a = H a) (ew : w' a = w a) : LF H' w' n k R a xs := by
  obtain ⟨h1, vs, h2, h3⟩ := h
  exact ⟨ew.trans h1, vs, e.trans h2, pr_keep tk h3⟩
theorem LF.same (h : LF H w n k R a xs) (s : Same H H') : LF H' w n k R a xs := by
  obtain ⟨h1, vs, h2, h3⟩ := h
  exact ⟨h1, vs, s _ _ h2, pr_keep (same_tk s) h3⟩
theorem LF.upd_other (h : LF H w n k R a xs) (hb : H b = some u) (d : ∀ xs, u ≠ .tup xs) (hw : w b ≠ some (n, k)) : LF (upd H b o) w n k R a xs :=
  h.move (tk_upd hb d) (upd_ne fun z => hw (z ▸ h.1)) rfl
theorem LF.tag_other (h : LF H w n k R a xs) {t : Int × Nat} (hb : w b = none) : LF H (tag w b t) n k R a xs :=
  h.move (fun _ _ e => e) rfl (tag_ne fun z => by have q := h.1; rw [z, hb] at q; exact nomatch q)
theorem LF.lst (h : LF H w n k R a xs) : ∃ vs, H a = some (.lst vs) ∧ Paired (R H) vs xs := h.2
end
/-- which owners' objects may have changed: S -/
structure Fr (S : Int → Prop) (H : Hp) (w : Ow) (H' : Hp) (w' : Ow) : Prop where
  keep : ∀ b o, H b = some o → (∀ i k, w b = some (i, k) → ¬ S i) → H' b = some o
  own : ∀ b, H b ≠ none → w' b = w b
  there : ∀ b, H b ≠ none → H' b ≠ none
theorem Fr.refl (S : Int → Prop) (H : Hp) (w : Ow) : Fr S H w H w := ⟨fun _ _ e _ => e, fun _ _ => rfl, fun _ e => e⟩
theorem some_ne {H : Hp} {b : Addr} {o : HO} (h : H b = some o) : H b ≠ none := by rw [h]; exact fun z => nomatch z
theorem Fr.trans {S : Int → Prop} {H H1 H2 : Hp} {w w1 w2 : Ow} (a : Fr S H w H1 w1) (b : Fr S H1 w1 H2 w2) : Fr S H w H2 w2 :=
  ⟨fun c o e h => b.keep c o (a.keep c o e h) fun i k z => h i k (by rw [← a.own c (some_ne e)]; exact z),
   fun c e => (b.own c (a.there c e)).trans (a.own c e), fun c e => b.there c (a.there c e)⟩
theorem Fr.mono {S S' : Int → Prop} {H H1 : Hp} {w w1 : Ow} (a : Fr S H w H1 w1) (h : ∀ i, S i → S' i) : Fr S' H w H1 w1 :=
  ⟨fun c o e q => a.keep c o e fun i k z s => q i k z (h i s), a.own, a.there⟩
theorem Fr.tk {S : Int → Prop} {H H' : Hp} {w w' : Ow} (a : Fr S H w H' w') (h : ∀ b xs i k, H b = some (.tup xs) → w b = some (i, k) → False) : TK H H' :=
  fun b xs e => a.keep b _ e fun i k z => (h b xs i k e z).elim
/-- what bears a tag is there, and is no tuple -/
structure OwnOk (H : Hp) (w : Ow) : Prop where
  there : ∀ b, w b ≠ none → H b ≠ none
  notup : ∀ b xs, H b = some (.tup xs) → w b = none
theorem OwnOk.free {H : Hp} {w : Ow} (o : OwnOk H w) {q : Addr} (h : H q = none) : w q = none := by
  cases e : w q with
  | none => rfl
  | some t => exact absurd h (o.there q (by rw [e]; exact fun z => nomatch z))
theorem OwnOk.same {H H' : Hp} {w : Ow} (o : OwnOk H w) (s : Same H H') : OwnOk H' w :=
  ⟨fun b e => by
    cases q : H b with
    | none => exact absurd q (o.there b e)
    | some u => exact some_ne (s b u q),
   fun b xs e => by
    cases q : H b with
    | none => exact o.free q
    | some u =>
      have e2 := s b u q
      rw [e] at e2
      exact o.notup b xs (by rw [q]; exact e2.symm)⟩
/-- a tagged object is changed -/
theorem OwnOk.write {H : Hp} {w : Ow} (o : OwnOk H w) {a : Addr} {u v : HO} (h : H a = some u) (d : ∀ xs, v ≠ .tup xs) : OwnOk (upd H a v) w :=
  ⟨fun b e => by
    by_cases q : b = a
    · subst q; rw [upd_same]; exact fun z => nomatch z
    · rw [upd_ne q]; exact o.there b e,
   fun b xs e => by
    by_cases q : b = a
    · subst q; rw [upd_same] at e; exact absurd (Option.some.inj e) (d xs)
    · rw [upd_ne q] at e; exact o.notup b xs e⟩
theorem OwnOk.tag {H : Hp} {w : Ow} (o : OwnOk H w) {q : Addr} {u : HO} (h : H q = some u) (d : ∀ xs, u ≠ .tup xs) (t : Int × Nat) : OwnOk H (tag w q t) :=
  ⟨fun b e => by
    by_cases z : b = q
    · subst z; exact some_ne h
    · rw [tag_ne z] at e; exact o.there b e,
   fun b xs e => by
    have z : b ≠ q := fun z => by rw [z, h] at e; exact d xs (Option.some.inj e)
    rw [tag_ne z]; exact o.notup b xs e⟩
end Lp
/-! Part U: a member and a configuration in the heap, and how one goes on within a method. -/
namespace Lp
open PySem PySem.Spec PyProof.Rows L2
/-! ### attributes by their places -/
theorem lk_zip : ∀ (ns : List Str) (vs : List V) (i : Nat) {f : Str} {v : V}, ns[i]? = some f → vs[i]? = some v → ((ns.take i).all fun g => !(f == g)) = true → (ns.zip vs).lookup f = some v
  | [], _, _, _, _, h, _, _ => by simp at h
  | _ :: _, [], _, _, _, _, h, _ => by simp at h
  | g :: ns, x :: vs, 0, f, v, h1, h2, _ => by
    have e1 : g = f := by simpa using h1
    have e2 : x = v := by simpa using h2
    subst e1 e2
    show (match g == g with | true => some x | false => _) = some x
    rw [beq_self_eq_true]
  | g :: ns, x :: vs, i + 1, f, v, h1, h2, h3 => by
    rw [List.take_succ_cons, List.all_cons, Bool.and_eq_true] at h3
    have e : (f == g) = false := by simpa using h3.1
    show (match f == g with | true => some x | false => (ns.zip vs).lookup f) = some v
    rw [e]
    exact lk_zip ns vs i (by simpa using h1) (by simpa using h2) h3.2
theorem no_zip : ∀ (ns : List Str) (vs : List V) {f : Str}, (ns.all fun g => !(f == g)) = true → (ns.zip vs).lookup f = none
  | [], _, _, _ => rfl
  | _ :: _, [], _, _ => rfl
  | g :: ns, x :: vs, f, h => by
    rw [List.all_cons, Bool.and_eq_true] at h
    have e : (f == g) = false := by simpa using h.1
    show (match f == g with | true => some x | false => (ns.zip vs).lookup f) = none
    rw [e]
    exact no_zip ns vs h.2
theorem put_zip : ∀ (ns : List Str) (vs : List V) (i : Nat) {f : Str} {y : V}, ns[i]? = some f → i < vs.length → ((ns.take i).all fun g => !(f == g)) = true → putF f y (ns.zip vs) = ns.zip (vs.set i y)
  | [], _, _, _, _, h, _, _ => by simp at h
  | _ :: _, [], _, _, _, _, h, _ => by simp at h
  | g :: ns, x :: vs, 0, f, y, h1, _, _ => by
    have e1 : g = f := by simpa using h1
    subst e1
    exact if_pos rfl
  | g :: ns, x :: vs, i + 1, f, y, h1, h2, h3 => by
    rw [List.take_succ_cons, List.all_cons, Bool.and_eq_true] at h3
    have e : ¬ g = f := fun z => by have := h3.1; rw [z] at this; simp at this
    show (if g = f then (g, y) :: ns.zip vs else (g, x) :: putF f y (ns.zip vs)) = _
    rw [if_neg e, put_zip ns vs i (by simpa using h1) (by simpa using h2) h3.2]
    rfl
/-- a new attribute is put behind -/
theorem put_new : ∀ (ns : List Str) (vs : List V) {f : Str} {y : V}, ns.length = vs.length → (ns.all fun g => !(f == g)) = true → putF f y (ns.zip vs) = (ns ++ [f]).zip (vs ++ [y])
  | [], [], _, _, _, _ => rfl
  | [], _ :: _, _, _, h, _ => by simp at h
  | _ :: _, [], _, _, h, _ => by simp at h
  | g :: ns, x :: vs, f, y, h1, h2 => by
    rw [List.all_cons, Bool.and_eq_true] at h2
    have e : ¬ g = f := fun z => by have := h2.1; rw [z] at this; simp at this
    show (if g = f then (g, y) :: ns.zip vs else (g, x) :: putF f y (ns.zip vs)) = _
    rw [if_neg e, put_new ns vs (by simpa using h1) h2.2]
    rfl
/-! ### a member -/
def mNames : List Str := ["number", "configuration", "position", "stored", "said", "leaving", "elections", "runs", "term", "vote", "role", "leader", "elapsed", "beat", "ballot", "active", "pending", "held", "issued", "carried"]
/-- where its parts lie -/
structure MA where
  dx : Addr
  pos : Addr
  sto : Addr
  sai : Addr
  lea : Addr
  ele : Addr
  bal : Addr
  act : Addr
  pen : Addr
  hel : Addr
def mVals (cf : Addr) (m : M) (A : MA) : List V :=
  [.int m.number, .ref cf, .ref A.pos, .ref A.sto, .ref A.sai, .ref A.lea, .ref A.ele, .bl m.runs, .int m.term, .int m.vote, .int m.role, .int m.leader, .int m.elapsed, .int m.beat, .ref A.bal, .ref A.act, .ref A.pen, .ref A.hel, .int m.issued, .int m.carried]
def mF (cf : Addr) (m : M) (A : MA) : List (Str × V) := mNames.zip (mVals cf m A)
def Parts (H : Hp) (w : Ow) (n : Int) (m : M) (A : MA) : Prop :=
  H A.pos = some (.tup [.int m.position.1, .int m.position.2]) ∧ H A.sto = some (.tup [.int m.stored.1, .int m.stored.2]) ∧
  LF H w n 1 rRow A.sai m.said ∧ LF H w n 2 rRow A.lea m.leaving ∧ LF H w n 3 rPr A.ele m.elections ∧ LF H w n 4 rBal A.bal m.ballot ∧ LF H w n 5 rInt A.act m.active ∧ LF H w n 6 rPr A.pen m.pending ∧ LF H w n 7 rHeld A.hel m.held
structure Mb (CM : Addr) (H : Hp) (w : Ow) (p cf : Addr) (m : M) (A : MA) : Prop where
  obj : H p = some (.ins CM A.dx (mF cf m A))
  own : w p = some (m.number, 0)
  parts : Parts H w m.number m A
/-! ### a configuration -/
def cNames : List Str := ["voters", "outgoing", "everyone"]
structure Cf (CC : Addr) (H : Hp) (w : Ow) (cf : Addr) (c : Cfg) : Prop where
  ex : ∃ dx v o e, H cf = some (.ins CC dx (cNames.zip [.ref v, .ref o, .ref e])) ∧ w cf = some (0, 9) ∧ w v = some (0, 9) ∧ w o = some (0, 9) ∧ w e = some (0, 9) ∧
    H v = some (.lst (c.voters.map V.int)) ∧ H o = some (.lst (c.outgoing.map V.int)) ∧ H e = some (.lst (c.everyone.map V.int))
theorem Cf.move {CC : Addr} {H H' : Hp} {w w' : Ow} {cf : Addr} {c : Cfg} (h : Cf CC H w cf c) (k : ∀ b o, H b = some o → w b = some (0, 9) → H' b = some o ∧ w' b = some (0, 9)) : Cf CC H' w' cf c := by
  obtain ⟨dx, v, o, e, h1, w1, w2, w3, w4, h2, h3, h4⟩ := h.ex
  exact ⟨dx, v, o, e, (k _ _ h1 w1).1, (k _ _ h1 w1).2, (k _ _ h2 w2).2, (k _ _ h3 w3).2, (k _ _ h4 w4).2, (k _ _ h2 w2).1, (k _ _ h3 w3).1, (k _ _ h4 w4).1⟩
section
variable {H H' : Hp} {w w' : Ow} {n : Int} {m : M} {A : MA} {b q : Addr} {o u : HO}
theorem Parts.same (h : Parts H w n m A) (s : Same H H') : Parts H' w n m A :=
  let ⟨h1, h2, h3, h4, h5, h6, h7, h8, h9⟩ := h
  ⟨s _ _ h1, s _ _ h2, h3.same s, h4.same s, h5.same s, h6.same s, h7.same s, h8.same s, h9.same s⟩
/-- another object is changed -/
theorem Parts.upd_other (h : Parts H w n m A) (hb : H b = some u) (d : ∀ xs, u ≠ .tup xs) (hw : ∀ k, 1 ≤ k → k ≤ 7 → w b ≠ some (n, k)) : Parts (upd H b o) w n m A :=
  let ⟨h1, h2, h3, h4, h5, h6, h7, h8, h9⟩ := h
  have t := tk_upd (o := o) hb d
  ⟨t _ _ h1, t _ _ h2, h3.upd_other hb d (hw 1 (by decide) (by decide)), h4.upd_other hb d (hw 2 (by decide) (by decide)), h5.upd_other hb d (hw 3 (by decide) (by decide)), h6.upd_other hb d (hw 4 (by decide) (by decide)),
    h7.upd_other hb d (hw 5 (by decide) (by decide)), h8.upd_other hb d (hw 6 (by decide) (by decide)), h9.upd_other hb d (hw 7 (by decide) (by decide))⟩
theorem Parts.tag_other (h : Parts H w n m A) {t : Int × Nat} (hb : w b = none) : Parts H (tag w b t) n m A :=
  let ⟨h1, h2, h3, h4, h5, h6, h7, h8, h9⟩ := h
  ⟨h1, h2, h3.tag_other hb, h4.tag_other hb, h5.tag_other hb, h6.tag_other hb, h7.tag_other hb, h8.tag_other hb, h9.tag_other hb⟩
/-- through what other owners do -/
theorem LF.fr {α : Type} {k : Nat} {R : Rp α} [Stays R] {a : Addr} {xs : List α} {S : Int → Prop} (h : LF H w n k R a xs) (f : Fr S H w H' w') (ok : OwnOk H w) (hS : ¬ S n) : LF H' w' n k R a xs := by
  obtain ⟨h1, vs, h2, h3⟩ := h
  exact ⟨(f.own a (some_ne h2)).trans h1, vs, f.keep a _ h2 fun i j z => by rw [h1] at z; cases z; exact hS, pr_keep (f.tk fun b xs i k e z => by rw [ok.notup b xs e] at z; cases z) h3⟩
theorem Parts.fr {S : Int → Prop} (h : Parts H w n m A) (f : Fr S H w H' w') (ok : OwnOk H w) (hS : ¬ S n) : Parts H' w' n m A :=
  let ⟨h1, h2, h3, h4, h5, h6, h7, h8, h9⟩ := h
  have t : TK H H' := f.tk fun b xs i k e z => by rw [ok.notup b xs e] at z; cases z
  ⟨t _ _ h1, t _ _ h2, h3.fr f ok hS, h4.fr f ok hS, h5.fr f ok hS, h6.fr f ok hS, h7.fr f ok hS, h8.fr f ok hS, h9.fr f ok hS⟩
theorem Mb.fr {CM p cf : Addr} {S : Int → Prop} (h : Mb CM H w p cf m A) (f : Fr S H w H' w') (ok : OwnOk H w) (hS : ¬ S m.number) : Mb CM H' w' p cf m A :=
  ⟨f.keep p _ h.obj fun i j z => by rw [h.own] at z; cases z; exact hS, (f.own p (some_ne h.obj)).trans h.own, h.parts.fr f ok hS⟩
theorem Cf.fr {CC cf : Addr} {c : Cfg} {S : Int → Prop} (h : Cf CC H w cf c) (f : Fr S H w H' w') (hS : ¬ S 0) : Cf CC H' w' cf c :=
  h.move fun b o e z => ⟨f.keep b o e fun i j q => by rw [z] at q; cases q; exact hS, (f.own b (some_ne e)).trans z⟩
end
/-! ### within a method -/
/-- the classes' addresses -/
structure Cl where
  c : Addr
  m : Addr
  g : Addr
  r : Addr
/-- H₀, w₀: the entry; now H, w; the member p is m, its parts at A; X: new objects of the method's own -/
structure At (C : Cl) (n : Int) (H0 : Hp) (w0 : Ow) (H : Hp) (w : Ow) (p cf : Addr) (c : Cfg) (m : M) (A : MA) (X : List (Addr × HO)) : Prop where
  mb : Mb C.m H w p cf m A
  nm : m.number = n
  cf : Cf C.c H w cf c
  ok : OwnOk H w
  fr : Fr (fun i => i = n) H0 w0 H w
  loc : ∀ q ∈ X, H q.1 = some q.2 ∧ w q.1 = none ∧ H0 q.1 = none
  nd : (X.map (·.1)).Nodup
section
variable {C : Cl} {n : Int} {H0 H H' : Hp} {w0 w w' : Ow} {p cf q : Addr} {c : Cfg} {m m' : M} {A A' : MA} {X X' : List (Addr × HO)} {o u : HO}
/-- anew from here -/
theorem At.here (h : At C n H0 w0 H w p cf c m A X) : At C n H w H w p cf c m A [] := ⟨h.mb, h.nm, h.cf, h.ok, Fr.refl _ _ _, (fun _ z => nomatch z), List.nodup_nil⟩
/-- behind a call -/
theorem At.then (h : At C n H0 w0 H w p cf c m A X) (k : At C n H w H' w' p cf c m' A' []) : At C n H0 w0 H' w' p cf c m' A' X :=
  ⟨k.mb, k.nm, k.cf, k.ok, h.fr.trans k.fr, fun q hq => by
    obtain ⟨a, b, d⟩ := h.loc q hq
    exact ⟨k.fr.keep q.1 q.2 a (fun i j z => by rw [b] at z; cases z), (k.fr.own q.1 (some_ne a)).trans b, d⟩, h.nd⟩
/-- new objects that nobody asks for -/
theorem At.same (h : At C n H0 w0 H w p cf c m A X) (s : Same H H') : At C n H0 w0 H' w p cf c m A X :=
  ⟨⟨s _ _ h.mb.obj, h.mb.own, h.mb.parts.same s⟩, h.nm, h.cf.move fun b o e z => ⟨s b o e, z⟩, h.ok.same s,
    ⟨fun b o e z => s b o (h.fr.keep b o e z), h.fr.own, fun b e => by
      have := h.fr.there b e
      cases q : H b with
      | none => exact absurd q this
      | some u => exact some_ne (s b u q)⟩,
    fun q hq => let ⟨a, b, d⟩ := h.loc q hq; ⟨s _ _ a, b, d⟩, h.nd⟩
theorem At.old (h : At C n H0 w0 H w p cf c m A X) (hq : H q = none) : H0 q = none := by
  cases e : H0 q with
  | none => rfl
  | some u => exact absurd hq (h.fr.there q (some_ne e))
/-- a new object of its own, by a heap in which it stands -/
theorem At.got (h : At C n H0 w0 H w p cf c m A X) (s : Same H H') (hq : H q = none) (e : H' q = some o) : At C n H0 w0 H' w p cf c m A ((q, o) :: X) := by
  have h' := h.same s
  refine ⟨h'.mb, h'.nm, h'.cf, h'.ok, h'.fr, fun x hx => ?_, ?_⟩
  · rcases List.mem_cons.mp hx with z | z
    · subst z
      exact ⟨e, h.ok.free hq, h.old hq⟩
    · exact h'.loc x z
  · rw [List.map_cons, List.nodup_cons]
    refine ⟨fun z => ?_, h.nd⟩
    obtain ⟨x, hx, ex⟩ := List.mem_map.mp z
    have := (h.loc x hx).1
    rw [show x.1 = q from ex, hq] at this
    cases this
theorem At.alloc (h : At C n H0 w0 H w p cf c m A X) (hq : H q = none) : At C n H0 w0 (upd H q o) w p cf c m A ((q, o) :: X) := h.got (same_upd hq) hq upd_same
theorem At.head (h : At C n H0 w0 H w p cf c m A ((q, o) :: X)) : H q = some o := (h.loc _ (List.mem_cons_self ..)).1
theorem At.tail {x : Addr × HO} (h : At C n H0 w0 H w p cf c m A (x :: X)) : At C n H0 w0 H w p cf c m A X :=
  ⟨h.mb, h.nm, h.cf, h.ok, h.fr, fun y hy => h.loc y (List.mem_cons_of_mem _ hy), (List.nodup_cons.mp (by have := h.nd; rwa [List.map_cons] at this)).2⟩
/-- what the caller has and bears no tag stands -/
theorem At.arg (h : At C n H0 w0 H w p cf c m A X) {b : Addr} {u : HO} (e : H0 b = some u) (z : w0 b = none) : H b = some u := h.fr.keep b u e fun i k y => by rw [z] at y; cases y
/-- an own list (of its own) is changed -/
theorem At.setX (h : At C n H0 w0 H w p cf c m A ((q, o) :: X)) (ho : ∀ xs, o ≠ .tup xs) (hu : ∀ xs, u ≠ .tup xs) : At C n H0 w0 (upd H q u) w p cf c m A ((q, u) :: X) := by
  obtain ⟨a, b, d⟩ := h.loc _ (List.mem_cons_self ..)
  have nd := h.nd
  rw [List.map_cons, List.nodup_cons] at nd
  have ne : ∀ {x : Addr} {t : Int × Nat}, w x = some t → x ≠ q := fun e z => by rw [z, b] at e; cases e
  refine ⟨⟨by rw [upd_ne (ne h.mb.own)]; exact h.mb.obj, h.mb.own, h.mb.parts.upd_other a ho fun k _ _ z => by rw [b] at z; cases z⟩, h.nm, h.cf.move fun x y e z => ⟨by rw [upd_ne (ne z)]; exact e, z⟩, h.ok.write a hu, ?_, fun x hx => ?_, h.nd⟩
  · refine ⟨fun x y e z => ?_, h.fr.own, fun x e => ?_⟩
    · rw [upd_ne (fun z' => by rw [z', d] at e; cases e)]; exact h.fr.keep x y e z
    · by_cases z : x = q
      · rw [z, upd_same]; exact fun z => nomatch z
      · rw [upd_ne z]; exact h.fr.there x e
  · rcases List.mem_cons.mp hx with z | z
    · subst z; exact ⟨upd_same, b, d⟩
    · have n2 : x.1 ≠ q := fun e => nd.1 (List.mem_map.mpr ⟨x, z, e⟩)
      rw [upd_ne n2]
      exact h.loc x (List.mem_cons_of_mem _ z)
/-- the member's own object p, or one of its lists, is changed: what is to be shown of it -/
theorem At.write {b : Addr} {k : Nat} (h : At C n H0 w0 H w p cf c m A X) (hb : H b = some u) (hw : w b = some (n, k)) (k9 : k ≠ 9) (du : ∀ xs, u ≠ .tup xs) (dv : ∀ xs, o ≠ .tup xs)
    (mb : Mb C.m (upd H b o) w p cf m' A') (nm : m'.number = n) : At C n H0 w0 (upd H b o) w p cf c m' A' X := by
  refine ⟨mb, nm, h.cf.move fun x y e z => ⟨?_, z⟩, h.ok.write hb dv, ⟨fun x y e z => ?_, h.fr.own, fun x e => ?_⟩, fun x hx => ?_, h.nd⟩
  · rw [upd_ne (fun q => by rw [q, hw] at z; cases z; exact k9 rfl)]; exact e
  · have e2 := h.fr.keep x y e z
    refine (upd_ne fun q => ?_).trans e2
    subst q
    have e3 := h.fr.own x (some_ne e)
    rw [hw] at e3
    exact z n k e3.symm rfl
  · by_cases z : x = b
    · rw [z, upd_same]; exact fun z => nomatch z
    · rw [upd_ne z]; exact h.fr.there x e
  · obtain ⟨a, d, e⟩ := h.loc x hx
    rw [upd_ne (fun z => by rw [z, hw] at d; cases d)]
    exact ⟨a, d, e⟩
/-- a store to an attribute of the member -/
theorem At.put {i : Nat} {f : Str} {v : V} (h : At C n H0 w0 H w p cf c m A X) (hi : mNames[i]? = some f) (hf : ((mNames.take i).all fun g => !(f == g)) = true) (hl : i < 20) (e : (mVals cf m A).set i v = mVals cf m' A') (hd : A'.dx = A.dx)
    (hp : Parts H w n m' A') (nm : m'.number = n) : At C n H0 w0 (upd H p (.ins C.m A.dx (putF f v (mF cf m A)))) w p cf c m' A' X := by
  have hw : w p = some (n, 0) := by rw [← h.nm]; exact h.mb.own
  have ep : putF f v (mF cf m A) = mF cf m' A' := by
    unfold mF
    rw [put_zip mNames (mVals cf m A) i hi (by exact hl) hf, e]
  refine h.write h.mb.obj hw (by decide) (fun _ z => by cases z) (fun _ z => by cases z) ⟨?_, by rw [nm]; exact hw, ?_⟩ nm
  · rw [upd_same, ep, hd]
  · rw [nm]
    exact hp.upd_other h.mb.obj (fun _ z => by cases z) fun k h1 _ z => by rw [hw] at z; cases z; exact absurd h1 (by decide)
/-- an object of its own is handed to the member: it bears a tag from now on -/
theorem At.give {k : Nat} (h : At C n H0 w0 H w p cf c m A ((q, o) :: X)) (ho : ∀ xs, o ≠ .tup xs) (k9 : k ≠ 9) : At C n H0 w0 H (tag w q (n, k)) p cf c m A X := by
  obtain ⟨a, b, d⟩ := h.loc _ (List.mem_cons_self ..)
  have nd := h.nd
  rw [List.map_cons, List.nodup_cons] at nd
  have ne : ∀ {x : Addr} {t : Int × Nat}, w x = some t → x ≠ q := fun e z => by rw [z, b] at e; cases e
  refine ⟨⟨h.mb.obj, (tag_ne (ne h.mb.own)).trans h.mb.own, h.mb.parts.tag_other b⟩, h.nm, h.cf.move fun x y e z => ⟨e, (tag_ne (ne z)).trans z⟩, h.ok.tag a ho _, ⟨h.fr.keep, fun x e => ?_, h.fr.there⟩, fun x hx => ?_, nd.2⟩
  · rw [tag_ne (fun z => by rw [z] at e; exact e d)]; exact h.fr.own x e
  · have n2 : x.1 ≠ q := fun e => nd.1 (List.mem_map.mpr ⟨x, hx, e⟩)
    obtain ⟨a2, b2, d2⟩ := h.loc x (List.mem_cons_of_mem _ hx)
    exact ⟨a2, (tag_ne n2).trans b2, d2⟩
/-- the value of an attribute -/
theorem At.look {i : Nat} {f : Str} {v : V} (_ : At C n H0 w0 H w p cf c m A X) (hi : mNames[i]? = some f) (hf : ((mNames.take i).all fun g => !(f == g)) = true) (e : (mVals cf m A)[i]? = some v) : (mF cf m A).lookup f = some v :=
  lk_zip mNames (mVals cf m A) i hi e hf
theorem At.noat {f : Str} (_ : At C n H0 w0 H w p cf c m A X) (hf : (mNames.all fun g => !(f == g)) = true) : (mF cf m A).lookup f = none := no_zip mNames _ hf
end
end Lp
/-! Part V: what the top has written (Txt), calls in short, the readings of a member's attributes. -/
namespace Lp
open PySem PySem.Spec PyProof.Rows L2
def gNames : List Str := ["configuration", "members", "way", "blocked", "record", "sent"]
structure Txt (K : PySem.W.Frag) (mg : Str → Option Value) (C : Cl) : Prop where
  cl_c : Cls K C.c
  cl_m : Cls K C.m
  cl_g : Cls K C.g
  na_c : ∀ f ∈ cNames, NoAttr K C.c f
  na_m : ∀ f ∈ mNames, NoAttr K C.m f
  na_g : ∀ f ∈ gNames, NoAttr K C.g f
  g_Configuration : mg "Configuration" = some (.ref C.c)
  g_Member : mg "Member" = some (.ref C.m)
  g_Group : mg "Group" = some (.ref C.g)
  b_len : mg "len" = none
  b_all : mg "all" = none
  b_any : mg "any" = none
  b_sorted : mg "sorted" = none
  b_set : mg "set" = none
  b_dict : mg "dict" = none
  b_list : mg "list" = none
  b_int : mg "int" = none
  b_range : mg "range" = none
  b_zip : mg "zip" = none
  b_min : mg "min" = none
  b_max : mg "max" = none
  k_GREATEST_configurations : ∃ t, mg "GREATEST_configurations" = some (.int 9 t)
  k_FOLLOWER : ∃ t, mg "FOLLOWER" = some (.int 0 t)
  k_ASKING : ∃ t, mg "ASKING" = some (.int 1 t)
  k_CANDIDATE : ∃ t, mg "CANDIDATE" = some (.int 2 t)
  k_LEADER : ∃ t, mg "LEADER" = some (.int 3 t)
  k_ELECTION_TICKS : ∃ t, mg "ELECTION_TICKS" = some (.int 10 t)
  k_HEARTBEAT_TICKS : ∃ t, mg "HEARTBEAT_TICKS" = some (.int 3 t)
  k_PRE_VOTE : ∃ t, mg "PRE_VOTE" = some (.int 1 t)
  k_PRE_VOTE_REPLY : ∃ t, mg "PRE_VOTE_REPLY" = some (.int 2 t)
  k_VOTE : ∃ t, mg "VOTE" = some (.int 3 t)
  k_VOTE_REPLY : ∃ t, mg "VOTE_REPLY" = some (.int 4 t)
  k_HEARTBEAT : ∃ t, mg "HEARTBEAT" = some (.int 5 t)
  k_HEARTBEAT_REPLY : ∃ t, mg "HEARTBEAT_REPLY" = some (.int 6 t)
  k_CAMPAIGN_NOW : ∃ t, mg "CAMPAIGN_NOW" = some (.int 9 t)
  k_ROUNDS : ∃ t, mg "ROUNDS" = some (.int 6 t)
  k_GREATEST_hall : ∃ t, mg "GREATEST_hall" = some (.int 1000000000 t)
  k_MOST_TICKS : ∃ t, mg "MOST_TICKS" = some (.int 40 t)
  k_MOST_ROUNDS : ∃ t, mg "MOST_ROUNDS" = some (.int 8 t)
  k_MOST_HELD : ∃ t, mg "MOST_HELD" = some (.int 100 t)
  k_MOST_SHOWN : ∃ t, mg "MOST_SHOWN" = some (.int 200 t)
section
variable {X : Cx}
theorem pe_const {x : Str} {k : Int} {pos : Pos} (hg : Gl X x) (hm : ∃ t, X.mg x = some (.int k t)) (hd : (x == ("__debug__" : Str)) = false := by decide) : PE X (.Name x pos) (tC (.int k)) := by
  obtain ⟨t, e⟩ := hm
  exact pe_glob hg e ⟨t, rfl⟩ hd
end
/-- a def of the top that lets nothing out, with how it is called -/
def DfG (P : Program) (w : World) (K : PySem.W.Frag) (mg : Str → Option Value) (base : Heap) (CX : CXT) (k : Nat) (x : Str) (ps : List Str) (sp : Sp) : Prop :=
  ∃ f fd, FnOk P w K mg base CX k f fd ps sp ∧ mg x = some (.ref f) ∧ PySem.W.keepIn K (.ref f) = true ∧ Binds K fd ps []
/-- a method -/
def DfM (P : Program) (w : World) (K : PySem.W.Frag) (mg : Str → Option Value) (base : Heap) (CX : CXT) (k : Nat) (C : Addr) (x : Str) (ps : List Str) (sp : Sp) : Prop :=
  ∃ f fd, FnOk P w K mg base CX k f fd ps sp ∧ Meth K C x f ∧ Binds K fd ps []
/-- a class, by its __init__ -/
def DfC (P : Program) (w : World) (K : PySem.W.Frag) (mg : Str → Option Value) (base : Heap) (CX : CXT) (k : Nat) (C : Addr) (ps : List Str) (sp : Sp) : Prop :=
  ∃ f fd, FnOk P w K mg base CX k f fd ps sp ∧ Mk K C f ∧ Binds K fd ps []
section
variable {X : Cx} {k : Nat} {C : Addr} {ps : List Str} {sp : Sp} {x m : Str} {p pos apos : Pos} {e o : Expr} {es : List Expr} {ta : TE} {t : TA}
theorem pe_cal (D : DfG X.prog X.w X.K X.mg X.base CX0 k x ps sp) (hr : Room k X.A) (hg : Gl X x) (ha : PA X (e :: es) t) (hdb : (x == ("__debug__" : Str)) = false := by decide)
    (he : starEach (e :: es) X.env = (false, eval e X.env) :: starEach es X.env := by rfl) (hpl : (backTo pos (starEach es X.env)).any (·.1) = false := by rfl) : PE X (.Call (.Name x p) (e :: es) [] pos) (tCall sp [] E0 t) := by
  obtain ⟨f, fd, F, g, kp, b⟩ := D
  exact pe_call F hr hg g kp b .nil pass0 ha hdb he hpl
theorem pe_mth {pl : Sem Bool} (he : PE X o ta) (c : Cls X.K C) (D : DfM X.prog X.w X.K X.mg X.base CX0 k C m ps sp) (hr : Room k X.A) (ha : PA X (e :: es) t)
    (hst : starEach (e :: es) X.env = (false, eval e X.env) :: starEach es X.env := by rfl) (hpl : (backTo pos (starEach es X.env)).any (·.1) = false := by rfl)
    (ht : eval (.Call (.Attribute o m apos) (e :: es) [] pos) X.env = (do
      let ov ← eval o X.env
      standAt apos.atName
      let (f, first) ← holding [ov] (getMethod ov m pl)
      callWith pos f first (backTo pos (starEach (e :: es) X.env)) (backToKw pos (keywordEach [] X.env))) := by rfl) :
    PE X (.Call (.Attribute o m apos) (e :: es) [] pos) (tMeth C m sp [] E0 ta t) := by
  obtain ⟨f, fd, F, g, b⟩ := D
  exact pe_meth he c g F hr b .nil pass0 ha hst hpl ht
theorem pe_mth0 {pl : Sem Bool} (he : PE X o ta) (c : Cls X.K C) (D : DfM X.prog X.w X.K X.mg X.base CX0 k C m ps sp) (hr : Room k X.A)
    (ht : eval (.Call (.Attribute o m apos) [] [] pos) X.env = (do
      let ov ← eval o X.env
      standAt apos.atName
      let (f, first) ← holding [ov] (getMethod ov m pl)
      callWith pos f first (backTo pos (starEach [] X.env)) (backToKw pos (keywordEach [] X.env))) := by rfl) :
    PE X (.Call (.Attribute o m apos) [] [] pos) (tMeth C m sp [] E0 ta tNil) := by
  obtain ⟨f, fd, F, g, b⟩ := D
  exact pe_meth0 he c g F hr b .nil pass0 ht
theorem pe_mak (D : DfC X.prog X.w X.K X.mg X.base CX0 k C ps sp) (hr : Room (k + 1) X.A) (hg : Gl X x) (hm : X.mg x = some (.ref C)) (ha : PA X (e :: es) t) (hdb : (x == ("__debug__" : Str)) = false := by decide)
    (he : starEach (e :: es) X.env = (false, eval e X.env) :: starEach es X.env := by rfl) (hpl : (backTo pos (starEach es X.env)).any (·.1) = false := by rfl) : PE X (.Call (.Name x p) (e :: es) [] pos) (tMake C sp [] E0 t) := by
  obtain ⟨f, fd, F, g, b⟩ := D
  exact pe_make g F hr hg hm b .nil pass0 ha hdb he hpl
end
section
variable {C : Cl} {n : Int} {H0 H H' : Hp} {w0 w w' : Ow} {p cf q : Addr} {c : Cfg} {m m' : M} {A A' : MA} {X : List (Addr × HO)} {K : PySem.W.Frag} {mg : Str → Option Value} {σ : L2.St} {D : Ends}
theorem mNames_len : mNames.length = 20 := rfl
theorem mNames_nd {i : Nat} {f : Str} (h : mNames[i]? = some f) : ((mNames.take i).all fun g => !(f == g)) = true := by
  have nd : mNames.Nodup := by decide +kernel
  rw [List.all_eq_true]
  intro g hg
  by_cases e : f = g
  · subst e
    obtain ⟨j, hj, e2⟩ := List.getElem_of_mem hg
    rw [List.length_take] at hj
    have e3 : mNames[j]? = some f := by rw [List.getElem_take] at e2; rw [List.getElem?_eq_getElem (by omega), e2]
    have := nd_ix nd e3 h
    omega
  · simpa using e
/-- behind the receiver: what o.f asks -/
def FldAt (K : PySem.W.Frag) (x : V) (f : Str) (H : Hp) (Q : V → Prop) : Prop := ∃ a C dx fs v, x = .ref a ∧ H a = some (.ins C dx fs) ∧ Cls K C ∧ NoAttr K C f ∧ fs.lookup f = some v ∧ Q v
/-- .. what o.f = y asks -/
def StAt (K : PySem.W.Frag) (x : V) (f : Str) (y : V) (H : Hp) (Q : Hp → Prop) : Prop := ∃ a CM dx fs, x = .ref a ∧ H a = some (.ins CM dx fs) ∧ Cls K CM ∧ NoAttr K CM f ∧ fs.length < 1000 ∧ Q (upd H a (.ins CM dx (putF f y fs)))
theorem mF_lt : (mF cf m A).length < 1000 := by unfold mF; rw [List.length_zip]; exact Nat.lt_of_le_of_lt (Nat.min_le_left _ _) (by decide)
theorem At.rd (h : At C n H0 w0 H w p cf c m A X) (T : Txt K mg C) {i : Nat} {f : Str} {v : V} {Q : V → Prop} (hi : mNames[i]? = some f) (e : (mVals cf m A)[i]? = some v) (q : Q v) : FldAt K (.ref p) f H Q :=
  ⟨p, C.m, A.dx, mF cf m A, v, rfl, h.mb.obj, T.cl_m, T.na_m f (List.mem_of_getElem? hi), h.look hi (mNames_nd hi) e, q⟩
theorem At.wr (h : At C n H0 w0 H w p cf c m A X) (T : Txt K mg C) {i : Nat} {f : Str} {v : V} {Q : Hp → Prop} (hi : mNames[i]? = some f) (q : Q (upd H p (.ins C.m A.dx (putF f v (mF cf m A))))) : StAt K (.ref p) f v H Q :=
  ⟨p, C.m, A.dx, mF cf m A, rfl, h.mb.obj, T.cl_m, T.na_m f (List.mem_of_getElem? hi), (by unfold mF; rw [List.length_zip]; exact Nat.lt_of_le_of_lt (Nat.min_le_left _ _) (by decide)), q⟩
/-- a number, a truth value, a tuple is stored -/
theorem At.st (h : At C n H0 w0 H w p cf c m A X) (T : Txt K mg C) {i : Nat} {f : Str} {v : V} {Q : Hp → Prop} (m' : M) (hi : mNames[i]? = some f) (e : (mVals cf m A).set i v = mVals cf m' A) (hp : Parts H w n m' A) (nm : m'.number = n)
    (k : ∀ H', At C n H0 w0 H' w p cf c m' A X → Q H') : StAt K (.ref p) f v H Q :=
  h.wr T hi (k _ (h.put hi (mNames_nd hi) (by rw [← mNames_len]; exact (List.getElem?_eq_some_iff.mp hi).1) e rfl hp nm))
/-- .. by an operator -/
theorem At.aug (h : At C n H0 w0 H w p cf c m A X) (T : Txt K mg C) {i : Nat} {f : Str} {v z : V} {Q : Hp → Prop} {B : V → (V → Hp → Prop) → Prop} (m' : M) (hi : mNames[i]? = some f) (el : (mVals cf m A)[i]? = some v) (e : (mVals cf m A).set i z = mVals cf m' A) (hp : Parts H w n m' A) (nm : m'.number = n)
    (b : ∀ R : V → Hp → Prop, R z H → B v R) (k : ∀ H', At C n H0 w0 H' w p cf c m' A X → Q H') :
    ∃ a C dx fs v, V.ref p = .ref a ∧ H a = some (.ins C dx fs) ∧ Cls K C ∧ NoAttr K C f ∧ fs.lookup f = some v ∧ B v fun z H3 => ∃ dx' fs', H3 a = some (.ins C dx' fs') ∧ fs'.length < 1000 ∧ Q (upd H3 a (.ins C dx' (putF f z fs'))) :=
  ⟨p, C.m, A.dx, mF cf m A, v, rfl, h.mb.obj, T.cl_m, T.na_m f (List.mem_of_getElem? hi), h.look hi (mNames_nd hi) el, b _ ⟨A.dx, mF cf m A, h.mb.obj, (by unfold mF; rw [List.length_zip]; exact Nat.lt_of_le_of_lt (Nat.min_le_left _ _) (by decide)),
    k _ (h.put hi (mNames_nd hi) (by rw [← mNames_len]; exact (List.getElem?_eq_some_iff.mp hi).1) e rfl hp nm)⟩⟩
theorem At.parts (h : At C n H0 w0 H w p cf c m A X) : Parts H w n m A := by rw [← h.nm]; exact h.mb.parts
/-- o.m(..): the method's name is no attribute -/
theorem At.md (h : At C n H0 w0 H w p cf c m A X) {f : Str} {Q : Prop} (hf : (mNames.all fun g => !(f == g)) = true) (q : Q) :
    ∃ a dx fs, V.ref p = .ref a ∧ H a = some (.ins C.m dx fs) ∧ fs.lookup f = none ∧ Q := ⟨p, A.dx, mF cf m A, rfl, h.mb.obj, h.noat hf, q⟩

/-- the list said -/
theorem At.sai_l (h : At C n H0 w0 H w p cf c m A X) : LF H w n 1 rRow A.sai m.said := let ⟨h1, h2, h3, h4, h5, h6, h7, h8, h9⟩ := h.parts; h3
theorem At.sai_st {vs : List V} (h : At C n H0 w0 H w p cf c m A ((q, .lst vs) :: X)) (T : Txt K mg C) {Q : Hp → Prop} {xs : List _} (hv : Paired (rRow H) vs xs)
    (k : ∀ H' w', At C n H0 w0 H' w' p cf c { m with said := xs } { A with sai := q } X → Q H') :
    StAt K (.ref p) "said" (.ref q) H Q := by
  have h' := h.give (k := 1) (fun _ z => by cases z) (by decide)
  obtain ⟨h1, h2, h3, h4, h5, h6, h7, h8, h9⟩ := h'.parts
  exact h'.wr T (i := 4) rfl (k _ _ (h'.put (i := 4) (m' := { m with said := xs }) (A' := { A with sai := q }) rfl (by decide +kernel) (by decide) rfl rfl ⟨h1, h2, ⟨tag_same, vs, h.head, hv⟩, h4, h5, h6, h7, h8, h9⟩ h.nm))
theorem At.sai_mu (h : At C n H0 w0 H w p cf c m A X) {vs vs' : List V} {xs : List _} (hb : H A.sai = some (.lst vs)) (hv : Paired (rRow H) vs' xs) : At C n H0 w0 (upd H A.sai (.lst vs')) w p cf c { m with said := xs } A X := by
  obtain ⟨h1, h2, h3, h4, h5, h6, h7, h8, h9⟩ := h.parts
  have ho : w A.sai = some (n, 1) := h3.1
  have hp : w p = some (n, 0) := by rw [← h.nm]; exact h.mb.own
  have t := tk_upd (o := .lst vs') hb (fun _ z => by cases z)
  refine h.write (m' := { m with said := xs }) (A' := A) hb ho (by decide) (fun _ z => by cases z) (fun _ z => by cases z) ⟨?_, by rw [show ({ m with said := xs } : M).number = n from h.nm]; exact hp, ?_⟩ h.nm
  · rw [upd_ne (fun z => by rw [z, ho] at hp; cases hp)]; exact h.mb.obj
  · rw [show ({ m with said := xs } : M).number = n from h.nm]
    exact ⟨t _ _ h1, t _ _ h2, ⟨ho, vs', upd_same, pr_keep (tk_upd hb (fun _ z => by cases z)) hv⟩, h4.upd_other hb (fun _ z => by cases z) (by rw [ho]; exact fun z => by cases z), h5.upd_other hb (fun _ z => by cases z) (by rw [ho]; exact fun z => by cases z), h6.upd_other hb (fun _ z => by cases z) (by rw [ho]; exact fun z => by cases z), h7.upd_other hb (fun _ z => by cases z) (by rw [ho]; exact fun z => by cases z), h8.upd_other hb (fun _ z => by cases z) (by rw [ho]; exact fun z => by cases z), h9.upd_other hb (fun _ z => by cases z) (by rw [ho]; exact fun z => by cases z)⟩
/-- the list leaving -/
theorem At.lea_l (h : At C n H0 w0 H w p cf c m A X) : LF H w n 2 rRow A.lea m.leaving := let ⟨h1, h2, h3, h4, h5, h6, h7, h8, h9⟩ := h.parts; h4
theorem At.lea_st {vs : List V} (h : At C n H0 w0 H w p cf c m A ((q, .lst vs) :: X)) (T : Txt K mg C) {Q : Hp → Prop} {xs : List _} (hv : Paired (rRow H) vs xs)
    (k : ∀ H' w', At C n H0 w0 H' w' p cf c { m with leaving := xs } { A with lea := q } X → Q H') :
    StAt K (.ref p) "leaving" (.ref q) H Q := by
  have h' := h.give (k := 2) (fun _ z => by cases z) (by decide)
  obtain ⟨h1, h2, h3, h4, h5, h6, h7, h8, h9⟩ := h'.parts
  exact h'.wr T (i := 5) rfl (k _ _ (h'.put (i := 5) (m' := { m with leaving := xs }) (A' := { A with lea := q }) rfl (by decide +kernel) (by decide) rfl rfl ⟨h1, h2, h3, ⟨tag_same, vs, h.head, hv⟩, h5, h6, h7, h8, h9⟩ h.nm))
theorem At.lea_mu (h : At C n H0 w0 H w p cf c m A X) {vs vs' : List V} {xs : List _} (hb : H A.lea = some (.lst vs)) (hv : Paired (rRow H) vs' xs) : At C n H0 w0 (upd H A.lea (.lst vs')) w p cf c { m with leaving := xs } A X := by
  obtain ⟨h1, h2, h3, h4, h5, h6, h7, h8, h9⟩ := h.parts
  have ho : w A.lea = some (n, 2) := h4.1
  have hp : w p = some (n, 0) := by rw [← h.nm]; exact h.mb.own
  have t := tk_upd (o := .lst vs') hb (fun _ z => by cases z)
  refine h.write (m' := { m with leaving := xs }) (A' := A) hb ho (by decide) (fun _ z => by cases z) (fun _ z => by cases z) ⟨?_, by rw [show ({ m with leaving := xs } : M).number = n from h.nm]; exact hp, ?_⟩ h.nm
  · rw [upd_ne (fun z => by rw [z, ho] at hp; cases hp)]; exact h.mb.obj
  · rw [show ({ m with leaving := xs } : M).number = n from h.nm]
    exact ⟨t _ _ h1, t _ _ h2, h3.upd_other hb (fun _ z => by cases z) (by rw [ho]; exact fun z => by cases z), ⟨ho, vs', upd_same, pr_keep (tk_upd hb (fun _ z => by cases z)) hv⟩, h5.upd_other hb (fun _ z => by cases z) (by rw [ho]; exact fun z => by cases z), h6.upd_other hb (fun _ z => by cases z) (by rw [ho]; exact fun z => by cases z), h7.upd_other hb (fun _ z => by cases z) (by rw [ho]; exact fun z => by cases z), h8.upd_other hb (fun _ z => by cases z) (by rw [ho]; exact fun z => by cases z), h9.upd_other hb (fun _ z => by cases z) (by rw [ho]; exact fun z => by cases z)⟩
/-- the list elections -/
theorem At.ele_l (h : At C n H0 w0 H w p cf c m A X) : LF H w n 3 rPr A.ele m.elections := let ⟨h1, h2, h3, h4, h5, h6, h7, h8, h9⟩ := h.parts; h5
theorem At.ele_st {vs : List V} (h : At C n H0 w0 H w p cf c m A ((q, .lst vs) :: X)) (T : Txt K mg C) {Q : Hp → Prop} {xs : List _} (hv : Paired (rPr H) vs xs)
    (k : ∀ H' w', At C n H0 w0 H' w' p cf c { m with elections := xs } { A with ele := q } X → Q H') :
    StAt K (.ref p) "elections" (.ref q) H Q := by
  have h' := h.give (k := 3) (fun _ z => by cases z) (by decide)
  obtain ⟨h1, h2, h3, h4, h5, h6, h7, h8, h9⟩ := h'.parts
  exact h'.wr T (i := 6) rfl (k _ _ (h'.put (i := 6) (m' := { m with elections := xs }) (A' := { A with ele := q }) rfl (by decide +kernel) (by decide) rfl rfl ⟨h1, h2, h3, h4, ⟨tag_same, vs, h.head, hv⟩, h6, h7, h8, h9⟩ h.nm))
theorem At.ele_mu (h : At C n H0 w0 H w p cf c m A X) {vs vs' : List V} {xs : List _} (hb : H A.ele = some (.lst vs)) (hv : Paired (rPr H) vs' xs) : At C n H0 w0 (upd H A.ele (.lst vs')) w p cf c { m with elections := xs } A X := by
  obtain ⟨h1, h2, h3, h4, h5, h6, h7, h8, h9⟩ := h.parts
  have ho : w A.ele = some (n, 3) := h5.1
  have hp : w p = some (n, 0) := by rw [← h.nm]; exact h.mb.own
  have t := tk_upd (o := .lst vs') hb (fun _ z => by cases z)
  refine h.write (m' := { m with elections := xs }) (A' := A) hb ho (by decide) (fun _ z => by cases z) (fun _ z => by cases z) ⟨?_, by rw [show ({ m with elections := xs } : M).number = n from h.nm]; exact hp, ?_⟩ h.nm
  · rw [upd_ne (fun z => by rw [z, ho] at hp; cases hp)]; exact h.mb.obj
  · rw [show ({ m with elections := xs } : M).number = n from h.nm]
    exact ⟨t _ _ h1, t _ _ h2, h3.upd_other hb (fun _ z => by cases z) (by rw [ho]; exact fun z => by cases z), h4.upd_other hb (fun _ z => by cases z) (by rw [ho]; exact fun z => by cases z), ⟨ho, vs', upd_same, pr_keep (tk_upd hb (fun _ z => by cases z)) hv⟩, h6.upd_other hb (fun _ z => by cases z) (by rw [ho]; exact fun z => by cases z), h7.upd_other hb (fun _ z => by cases z) (by rw [ho]; exact fun z => by cases z), h8.upd_other hb (fun _ z => by cases z) (by rw [ho]; exact fun z => by cases z), h9.upd_other hb (fun _ z => by cases z) (by rw [ho]; exact fun z => by cases z)⟩
/-- the list ballot -/
theorem At.bal_l (h : At C n H0 w0 H w p cf c m A X) : LF H w n 4 rBal A.bal m.ballot := let ⟨h1, h2, h3, h4, h5, h6, h7, h8, h9⟩ := h.parts; h6
theorem At.bal_st {vs : List V} (h : At C n H0 w0 H w p cf c m A ((q, .lst vs) :: X)) (T : Txt K mg C) {Q : Hp → Prop} {xs : List _} (hv : Paired (rBal H) vs xs)
    (k : ∀ H' w', At C n H0 w0 H' w' p cf c { m with ballot := xs } { A with bal := q } X → Q H') :
    StAt K (.ref p) "ballot" (.ref q) H Q := by
  have h' := h.give (k := 4) (fun _ z => by cases z) (by decide)
  obtain ⟨h1, h2, h3, h4, h5, h6, h7, h8, h9⟩ := h'.parts
  exact h'.wr T (i := 14) rfl (k _ _ (h'.put (i := 14) (m' := { m with ballot := xs }) (A' := { A with bal := q }) rfl (by decide +kernel) (by decide) rfl rfl ⟨h1, h2, h3, h4, h5, ⟨tag_same, vs, h.head, hv⟩, h7, h8, h9⟩ h.nm))
theorem At.bal_mu (h : At C n H0 w0 H w p cf c m A X) {vs vs' : List V} {xs : List _} (hb : H A.bal = some (.lst vs)) (hv : Paired (rBal H) vs' xs) : At C n H0 w0 (upd H A.bal (.lst vs')) w p cf c { m with ballot := xs } A X := by
  obtain ⟨h1, h2, h3, h4, h5, h6, h7, h8, h9⟩ := h.parts
  have ho : w A.bal = some (n, 4) := h6.1
  have hp : w p = some (n, 0) := by rw [← h.nm]; exact h.mb.own
  have t := tk_upd (o := .lst vs') hb (fun _ z => by cases z)
  refine h.write (m' := { m with ballot := xs }) (A' := A) hb ho (by decide) (fun _ z => by cases z) (fun _ z => by cases z) ⟨?_, by rw [show ({ m with ballot := xs } : M).number = n from h.nm]; exact hp, ?_⟩ h.nm
  · rw [upd_ne (fun z => by rw [z, ho] at hp; cases hp)]; exact h.mb.obj
  · rw [show ({ m with ballot := xs } : M).number = n from h.nm]
    exact ⟨t _ _ h1, t _ _ h2, h3.upd_other hb (fun _ z => by cases z) (by rw [ho]; exact fun z => by cases z), h4.upd_other hb (fun _ z => by cases z) (by rw [ho]; exact fun z => by cases z), h5.upd_other hb (fun _ z => by cases z) (by rw [ho]; exact fun z => by cases z), ⟨ho, vs', upd_same, pr_keep (tk_upd hb (fun _ z => by cases z)) hv⟩, h7.upd_other hb (fun _ z => by cases z) (by rw [ho]; exact fun z => by cases z), h8.upd_other hb (fun _ z => by cases z) (by rw [ho]; exact fun z => by cases z), h9.upd_other hb (fun _ z => by cases z) (by rw [ho]; exact fun z => by cases z)⟩
/-- the list active -/
theorem At.act_l (h : At C n H0 w0 H w p cf c m A X) : LF H w n 5 rInt A.act m.active := let ⟨h1, h2, h3, h4, h5, h6, h7, h8, h9⟩ := h.parts; h7
theorem At.act_st {vs : List V} (h : At C n H0 w0 H w p cf c m A ((q, .lst vs) :: X)) (T : Txt K mg C) {Q : Hp → Prop} {xs : List _} (hv : Paired (rInt H) vs xs)
    (k : ∀ H' w', At C n H0 w0 H' w' p cf c { m with active := xs } { A with act := q } X → Q H') :
    StAt K (.ref p) "active" (.ref q) H Q := by
  have h' := h.give (k := 5) (fun _ z => by cases z) (by decide)
  obtain ⟨h1, h2, h3, h4, h5, h6, h7, h8, h9⟩ := h'.parts
  exact h'.wr T (i := 15) rfl (k _ _ (h'.put (i := 15) (m' := { m with active := xs }) (A' := { A with act := q }) rfl (by decide +kernel) (by decide) rfl rfl ⟨h1, h2, h3, h4, h5, h6, ⟨tag_same, vs, h.head, hv⟩, h8, h9⟩ h.nm))
theorem At.act_mu (h : At C n H0 w0 H w p cf c m A X) {vs vs' : List V} {xs : List _} (hb : H A.act = some (.lst vs)) (hv : Paired (rInt H) vs' xs) : At C n H0 w0 (upd H A.act (.lst vs')) w p cf c { m with active := xs } A X := by
  obtain ⟨h1, h2, h3, h4, h5, h6, h7, h8, h9⟩ := h.parts
  have ho : w A.act = some (n, 5) := h7.1
  have hp : w p = some (n, 0) := by rw [← h.nm]; exact h.mb.own
  have t := tk_upd (o := .lst vs') hb (fun _ z => by cases z)
  refine h.write (m' := { m with active := xs }) (A' := A) hb ho (by decide) (fun _ z => by cases z) (fun _ z => by cases z) ⟨?_, by rw [show ({ m with active := xs } : M).number = n from h.nm]; exact hp, ?_⟩ h.nm
  · rw [upd_ne (fun z => by rw [z, ho] at hp; cases hp)]; exact h.mb.obj
  · rw [show ({ m with active := xs } : M).number = n from h.nm]
    exact ⟨t _ _ h1, t _ _ h2, h3.upd_other hb (fun _ z => by cases z) (by rw [ho]; exact fun z => by cases z), h4.upd_other hb (fun _ z => by cases z) (by rw [ho]; exact fun z => by cases z), h5.upd_other hb (fun _ z => by cases z) (by rw [ho]; exact fun z => by cases z), h6.upd_other hb (fun _ z => by cases z) (by rw [ho]; exact fun z => by cases z), ⟨ho, vs', upd_same, pr_keep (tk_upd hb (fun _ z => by cases z)) hv⟩, h8.upd_other hb (fun _ z => by cases z) (by rw [ho]; exact fun z => by cases z), h9.upd_other hb (fun _ z => by cases z) (by rw [ho]; exact fun z => by cases z)⟩
/-- the list pending -/
theorem At.pen_l (h : At C n H0 w0 H w p cf c m A X) : LF H w n 6 rPr A.pen m.pending := let ⟨h1, h2, h3, h4, h5, h6, h7, h8, h9⟩ := h.parts; h8
theorem At.pen_st {vs : List V} (h : At C n H0 w0 H w p cf c m A ((q, .lst vs) :: X)) (T : Txt K mg C) {Q : Hp → Prop} {xs : List _} (hv : Paired (rPr H) vs xs)
    (k : ∀ H' w', At C n H0 w0 H' w' p cf c { m with pending := xs } { A with pen := q } X → Q H') :
    StAt K (.ref p) "pending" (.ref q) H Q := by
  have h' := h.give (k := 6) (fun _ z => by cases z) (by decide)
  obtain ⟨h1, h2, h3, h4, h5, h6, h7, h8, h9⟩ := h'.parts
  exact h'.wr T (i := 16) rfl (k _ _ (h'.put (i := 16) (m' := { m with pending := xs }) (A' := { A with pen := q }) rfl (by decide +kernel) (by decide) rfl rfl ⟨h1, h2, h3, h4, h5, h6, h7, ⟨tag_same, vs, h.head, hv⟩, h9⟩ h.nm))
theorem At.pen_mu (h : At C n H0 w0 H w p cf c m A X) {vs vs' : List V} {xs : List _} (hb : H A.pen = some (.lst vs)) (hv : Paired (rPr H) vs' xs) : At C n H0 w0 (upd H A.pen (.lst vs')) w p cf c { m with pending := xs } A X := by
  obtain ⟨h1, h2, h3, h4, h5, h6, h7, h8, h9⟩ := h.parts
  have ho : w A.pen = some (n, 6) := h8.1
  have hp : w p = some (n, 0) := by rw [← h.nm]; exact h.mb.own
  have t := tk_upd (o := .lst vs') hb (fun _ z => by cases z)
  refine h.write (m' := { m with pending := xs }) (A' := A) hb ho (by decide) (fun _ z => by cases z) (fun _ z => by cases z) ⟨?_, by rw [show ({ m with pending := xs } : M).number = n from h.nm]; exact hp, ?_⟩ h.nm
  · rw [upd_ne (fun z => by rw [z, ho] at hp; cases hp)]; exact h.mb.obj
  · rw [show ({ m with pending := xs } : M).number = n from h.nm]
    exact ⟨t _ _ h1, t _ _ h2, h3.upd_other hb (fun _ z => by cases z) (by rw [ho]; exact fun z => by cases z), h4.upd_other hb (fun _ z => by cases z) (by rw [ho]; exact fun z => by cases z), h5.upd_other hb (fun _ z => by cases z) (by rw [ho]; exact fun z => by cases z), h6.upd_other hb (fun _ z => by cases z) (by rw [ho]; exact fun z => by cases z), h7.upd_other hb (fun _ z => by cases z) (by rw [ho]; exact fun z => by cases z), ⟨ho, vs', upd_same, pr_keep (tk_upd hb (fun _ z => by cases z)) hv⟩, h9.upd_other hb (fun _ z => by cases z) (by rw [ho]; exact fun z => by cases z)⟩
/-- the list held -/
theorem At.hel_l (h : At C n H0 w0 H w p cf c m A X) : LF H w n 7 rHeld A.hel m.held := let ⟨h1, h2, h3, h4, h5, h6, h7, h8, h9⟩ := h.parts; h9
theorem At.hel_st {vs : List V} (h : At C n H0 w0 H w p cf c m A ((q, .lst vs) :: X)) (T : Txt K mg C) {Q : Hp → Prop} {xs : List _} (hv : Paired (rHeld H) vs xs)
    (k : ∀ H' w', At C n H0 w0 H' w' p cf c { m with held := xs } { A with hel := q } X → Q H') :
    StAt K (.ref p) "held" (.ref q) H Q := by
  have h' := h.give (k := 7) (fun _ z => by cases z) (by decide)
  obtain ⟨h1, h2, h3, h4, h5, h6, h7, h8, h9⟩ := h'.parts
  exact h'.wr T (i := 17) rfl (k _ _ (h'.put (i := 17) (m' := { m with held := xs }) (A' := { A with hel := q }) rfl (by decide +kernel) (by decide) rfl rfl ⟨h1, h2, h3, h4, h5, h6, h7, h8, ⟨tag_same, vs, h.head, hv⟩⟩ h.nm))
theorem At.hel_mu (h : At C n H0 w0 H w p cf c m A X) {vs vs' : List V} {xs : List _} (hb : H A.hel = some (.lst vs)) (hv : Paired (rHeld H) vs' xs) : At C n H0 w0 (upd H A.hel (.lst vs')) w p cf c { m with held := xs } A X := by
  obtain ⟨h1, h2, h3, h4, h5, h6, h7, h8, h9⟩ := h.parts
  have ho : w A.hel = some (n, 7) := h9.1
  have hp : w p = some (n, 0) := by rw [← h.nm]; exact h.mb.own
  have t := tk_upd (o := .lst vs') hb (fun _ z => by cases z)
  refine h.write (m' := { m with held := xs }) (A' := A) hb ho (by decide) (fun _ z => by cases z) (fun _ z => by cases z) ⟨?_, by rw [show ({ m with held := xs } : M).number = n from h.nm]; exact hp, ?_⟩ h.nm
  · rw [upd_ne (fun z => by rw [z, ho] at hp; cases hp)]; exact h.mb.obj
  · rw [show ({ m with held := xs } : M).number = n from h.nm]
    exact ⟨t _ _ h1, t _ _ h2, h3.upd_other hb (fun _ z => by cases z) (by rw [ho]; exact fun z => by cases z), h4.upd_other hb (fun _ z => by cases z) (by rw [ho]; exact fun z => by cases z), h5.upd_other hb (fun _ z => by cases z) (by rw [ho]; exact fun z => by cases z), h6.upd_other hb (fun _ z => by cases z) (by rw [ho]; exact fun z => by cases z), h7.upd_other hb (fun _ z => by cases z) (by rw [ho]; exact fun z => by cases z), h8.upd_other hb (fun _ z => by cases z) (by rw [ho]; exact fun z => by cases z), ⟨ho, vs', upd_same, pr_keep (tk_upd hb (fun _ z => by cases z)) hv⟩⟩
end
end Lp
/-! Part W: comprehensions that only read; the text's places. -/
namespace Lp
open PySem PySem.Spec PyProof.Rows L2
def top (i : Nat) : Stmt := PySem.Challenge.pw_leadpoll_s01_answers.main.body.getD i (.Pass ⟨0, 0, 0, 0⟩)
theorem same_refl (H : Hp) : Same H H := fun _ _ e => e
theorem same_trans {H H1 H2 : Hp} (a : Same H H1) (b : Same H1 H2) : Same H H2 := fun c o e => b c o (a c o e)
theorem same_free {H H1 : Hp} (s : Same H H1) {q : Addr} (h : H1 q = none) : H q = none := by
  cases e : H q with
  | none => rfl
  | some u => rw [s q u e] at h; cases h
section
variable {X : Cx} {e : Expr} {ta : TE} {f : Str} {pos : Pos}
theorem pe_fldK (K : PySem.W.Frag) (hK : X.K = K) (he : PE X e ta) (hb : attributeBase e f X.env (eval e X.env) = eval e X.env) : PE X (.Attribute e f pos) (tFld K ta f) := hK ▸ pe_fld he hb
theorem op_in_seqK (K : PySem.W.Frag) (hK : X.K = K) : OpR X (compareOp .In) (rIn K false) := hK ▸ op_in_seq
theorem op_notIn_seqK (K : PySem.W.Frag) (hK : X.K = K) : OpR X (compareOp .NotIn) (rIn K true) := hK ▸ op_notIn_seq
theorem ix_tupK (K : PySem.W.Frag) (hK : X.K = K) : IxR X (rIxT K) := hK ▸ ix_tup
theorem ix_listK (K : PySem.W.Frag) (hK : X.K = K) : IxR X (rIxL K) := hK ▸ ix_list
end
/-- in a comprehension that makes ys at D from over H1 -/
def LcInv {β : Type} (R : Rp β) (H1 : Hp) (D : Addr) (ys : List β) (H : Hp) : Prop := Same H1 H ∧ ∃ acc, H D = some (.lst acc) ∧ Paired (R H) acc ys
section
variable {β : Type} {R : Rp β} [Stays R] {H1 H H' : Hp} {D : Addr} {ys : List β} {y : V} {z : β}
theorem LcInv.zero (hD : H1 D = none) : LcInv R H1 D [] (upd H1 D (.lst [])) := ⟨same_upd hD, [], upd_same, .nil⟩
theorem LcInv.skip (h : LcInv R H1 D ys H) (s : Same H H') : LcInv R H1 D ys H' :=
  let ⟨a, acc, b, c⟩ := h
  ⟨same_trans a s, acc, s _ _ b, pr_keep (same_tk s) c⟩
theorem LcInv.add (h : LcInv R H1 D ys H) (hD : H1 D = none) (s : Same H H') (l : ys.length < sizeLine) (r : R H' y z) : ∃ acc, H' D = some (.lst acc) ∧ acc.length < sizeLine ∧ LcInv R H1 D (ys ++ [z]) (upd H' D (.lst (acc ++ [y]))) := by
  obtain ⟨a, acc, b, c⟩ := h
  have b' := s _ _ b
  have t : TK H' (upd H' D (.lst (acc ++ [y]))) := tk_upd b' fun _ z => by cases z
  refine ⟨acc, b', by rw [c.length]; exact l, fun q o e => ?_, acc ++ [y], upd_same, pr_append (pr_keep (TK.trans (same_tk s) t) c) (.cons (Stays.keep t r) .nil)⟩
  rw [upd_ne (ne_of_none e hD)]
  exact s _ _ (a q o e)
theorem LcInv.src (h : LcInv R H1 D ys H) {K : PySem.W.Frag} {a : Addr} {xs : List V} (e : H1 a = some (.lst xs)) : SqL K H a xs := .of (h.1 _ _ e)
theorem LcInv.srcL (h : LcInv R H1 D ys H) {K : PySem.W.Frag} {a : Addr} {xs : List V} (e : SqL K H1 a xs) : SqL K H a xs := L2.Same.seq h.1 e
end
theorem take_more {α : Type} : ∀ {l : List α} {i : Nat} {x : α}, l[i]? = some x → l.take (i + 1) = l.take i ++ [x]
  | [], i, x, h => by simp at h
  | a :: l, 0, x, h => by
    have e : a = x := Option.some.inj h
    subst e
    rfl
  | a :: l, i + 1, x, h => by
    rw [List.take_succ_cons, List.take_succ_cons, take_more (l := l) (i := i) (x := x) h]
    rfl
/-- what such a comprehension has made of the first i -/
def outF {α β : Type} (p : α → Bool) (f : α → β) (l : List α) (i : Nat) : List β := ((l.take i).filter p).map f
section
variable {α β : Type} {p : α → Bool} {f : α → β} {l : List α} {i : Nat} {x : α}
theorem outF_yes (h : l[i]? = some x) (hp : p x = true) : outF p f l (i + 1) = outF p f l i ++ [f x] := by
  unfold outF
  rw [take_more h, List.filter_append, List.map_append, List.filter_cons_of_pos hp]
  rfl
theorem outF_no (h : l[i]? = some x) (hp : p x = false) : outF p f l (i + 1) = outF p f l i := by
  unfold outF
  rw [take_more h, List.filter_append, List.map_append, List.filter_cons_of_neg (by rw [hp]; exact Bool.false_ne_true)]
  exact List.append_nil _
theorem outF_all : outF p f l l.length = (l.filter p).map f := by unfold outF; rw [List.take_length]
theorem outF_lt (h : l[i]? = some x) : (outF p f l i).length < l.length := by
  have hi : i < l.length := (List.getElem?_eq_some_iff.mp h).1
  unfold outF
  rw [List.length_map]
  refine Nat.lt_of_le_of_lt (List.length_filter_le _ _) ?_
  rw [List.length_take]
  omega
end
theorem map_id_int (l : List Int) : l.map (fun n => n) = l := by induction l with | nil => rfl | cons a r ih => rw [List.map_cons, ih]
theorem int_at {ns : List Int} {i : Nat} {x : V} (h : (ns.map V.int)[i]? = some x) : ∃ z, ns[i]? = some z ∧ x = V.int z := by
  rw [List.getElem?_map] at h
  cases e : ns[i]? with
  | none => rw [e] at h; cases h
  | some z => rw [e] at h; exact ⟨z, rfl, (Option.some.inj h).symm⟩
theorem inV_int (n : Int) : ∀ ns : List Int, inV (.int n) (ns.map V.int) = ns.contains n
  | [] => rfl
  | a :: r => by
    have ih := inV_int n r
    unfold inV at ih ⊢
    rw [List.map_cons, List.any_cons, ih, List.contains_cons]
    congr 1
    show (a == n) = (n == a)
    by_cases e : a = n
    · subst e; rfl
    · rw [beq_eq_false_iff_ne.mpr e, beq_eq_false_iff_ne.mpr (Ne.symm e)]
theorem flat_ints (ns : List Int) : (ns.map V.int).all flatV = true := by
  rw [List.all_eq_true]
  intro v hv
  obtain ⟨n, _, rfl⟩ := List.mem_map.mp hv
  rfl
/-- x in xs, x not in xs over ints -/
theorem in_ints {K : PySem.W.Frag} {H : Hp} {Q : VK} {n : Int} {a : Addr} {ns : List Int} (h : SqL K H a (ns.map V.int)) (q : Q (.bl (ns.contains n)) H) : rIn K false (.int n) (.ref a) H Q :=
  ⟨a, _, rfl, .inl h, rfl, flat_ints ns, by rw [inV_int]; exact q⟩
theorem notin_ints {K : PySem.W.Frag} {H : Hp} {Q : VK} {n : Int} {a : Addr} {ns : List Int} (h : SqL K H a (ns.map V.int)) (q : Q (.bl (!ns.contains n)) H) : rIn K true (.int n) (.ref a) H Q :=
  ⟨a, _, rfl, .inl h, rfl, flat_ints ns, by rw [inV_int]; exact q⟩
theorem sizeLine_is : sizeLine = 16777216 := sizeLine_eq
theorem ifT {c : Bool} {A B : Prop} (hc : c = true) (h : A) : if c = true then A else B := by rw [if_pos hc]; exact h
theorem ifF {c : Bool} {A B : Prop} (hc : c = false) (h : B) : if c = true then A else B := by rw [hc, if_neg Bool.false_ne_true]; exact h
/-! ### slices, places, comparisons by values -/
theorem cutV_take (xs : List V) {k : Int} (h : 0 ≤ k) : cutV xs none (some k) = xs.take k.toNat := by
  obtain ⟨j, rfl⟩ : ∃ j : Nat, k = (j : Int) := ⟨k.toNat, by omega⟩
  unfold cutV
  rw [HT.sIx_none, HT.sIx_nat, List.drop_zero, Nat.sub_zero, Int.toNat_natCast]
  by_cases q : j ≤ xs.length
  · rw [Nat.min_eq_left q]
  · rw [Nat.min_eq_right (by omega), List.take_of_length_le (Nat.le_refl _), List.take_of_length_le (by omega)]
theorem cutV_drop (xs : List V) {k : Int} (h : 0 ≤ k) : cutV xs (some k) none = xs.drop k.toNat := by
  obtain ⟨j, rfl⟩ : ∃ j : Nat, k = (j : Int) := ⟨k.toNat, by omega⟩
  unfold cutV
  rw [HT.sIx_none, HT.sIx_nat, Int.toNat_natCast]
  by_cases q : j ≤ xs.length
  · rw [Nat.min_eq_left q, List.take_of_length_le (by rw [List.length_drop]; exact Nat.le_refl _)]
  · rw [Nat.min_eq_right (by omega), Nat.sub_self, List.take_zero, List.drop_eq_nil_of_le (by omega)]
theorem cutV_mid (xs : List V) {i j : Int} (h : 0 ≤ i) (hj : 0 ≤ j) : cutV xs (some i) (some j) = (xs.drop i.toNat).take (j.toNat - i.toNat) := by
  obtain ⟨a, rfl⟩ : ∃ a : Nat, i = (a : Int) := ⟨i.toNat, by omega⟩
  obtain ⟨b, rfl⟩ : ∃ b : Nat, j = (b : Int) := ⟨j.toNat, by omega⟩
  unfold cutV
  rw [HT.sIx_nat, HT.sIx_nat, Int.toNat_natCast, Int.toNat_natCast]
  by_cases q : a ≤ xs.length
  · rw [Nat.min_eq_left q]
    by_cases r : b ≤ xs.length
    · rw [Nat.min_eq_left r]
    · rw [Nat.min_eq_right (by omega), List.take_of_length_le (by rw [List.length_drop]; exact Nat.le_refl _), List.take_of_length_le (by rw [List.length_drop]; omega)]
  · have e : min a xs.length = xs.length := Nat.min_eq_right (by omega)
    have e2 : xs.drop a = [] := List.drop_eq_nil_of_le (by omega)
    rw [e, List.drop_length, e2, List.take_nil, List.take_nil]
theorem atI_getLast {α : Type} {xs : List α} {v : α} (h : xs.getLast? = some v) : atI xs (-1) = some v := by
  obtain ⟨ys, e⟩ := List.getLast?_eq_some_iff.mp h
  rw [e]
  exact atI_last ys v
theorem vint_eq (a b : Int) : decide (V.int a = V.int b) = decide (a = b) := decide_eq_decide.mpr ⟨V.int.inj, congrArg V.int⟩
theorem ge_two (t i a b : Int) : Ob.lexAt (fun j => decide (([t, i] : List Int).getD j 0 = ([a, b] : List Int).getD j 0)) (fun j => decide (([a, b] : List Int).getD j 0 ≤ ([t, i] : List Int).getD j 0)) (decide (([t, i] : List Int).length ≥ ([a, b] : List Int).length)) 0 (min ([t, i] : List Int).length ([a, b] : List Int).length) = (decide (a < t) || (decide (a = t) && decide (b ≤ i))) := by
  show (if decide (t = a) = true then (if decide (i = b) = true then true else decide (b ≤ i)) else decide (a ≤ t)) = _
  by_cases e : t = a
  · subst e
    rw [decide_eq_true rfl, if_pos rfl, decide_eq_false (Int.lt_irrefl _), Bool.false_or, Bool.true_and]
    by_cases q : i = b
    · subst q
      rw [decide_eq_true rfl, if_pos rfl, decide_eq_true (Int.le_refl _)]
    · rw [decide_eq_false q, if_neg Bool.false_ne_true]
  · rw [decide_eq_false e, if_neg Bool.false_ne_true, decide_eq_false (Ne.symm e), Bool.false_and, Bool.or_false]
    exact decide_eq_decide.mpr (by omega)
theorem eqv_two (a b c d : Int) : PyData.eqv (.tuple [.int a, .int b]) (.tuple [.int c, .int d]) = decide ((a, b) = (c, d)) := by
  show (a == c && (b == d && true)) = _
  rw [Bool.and_true]
  by_cases e : a = c
  · subst e
    rw [beq_self_eq_true, Bool.true_and]
    by_cases q : b = d
    · subst q; rw [beq_self_eq_true, decide_eq_true rfl]
    · rw [beq_eq_false_iff_ne.mpr q, decide_eq_false (fun z => q (Prod.mk.inj z).2)]
  · rw [beq_eq_false_iff_ne.mpr e, Bool.false_and, decide_eq_false (fun z => e (Prod.mk.inj z).1)]
/-- t != u over two pairs of ints -/
theorem ne_pairs {K : PySem.W.Frag} {H : Hp} {Q : VK} {p q : Addr} {x y : Int × Int} (hp : SqT K H p [.int x.1, .int x.2]) (hq : SqT K H q [.int y.1, .int y.2]) (k : Q (.bl (!decide (x = y))) H) : rNeD K (.ref p) (.ref q) H Q :=
  ⟨.tuple [.int x.1, .int x.2], .tuple [.int y.1, .int y.2], .tup hp (.cons (.int _) (.cons (.int _) .nil)), .tup hq (.cons (.int _) (.cons (.int _) .nil)), rfl, rfl, by rw [eqv_two]; exact k⟩
/-- a method of a member that hands back None -/
def spMt (C : Cl) (R : List V → Hp → Cfg → M → M → Prop) : Sp := fun vs H Q _ => ∃ n w p cf c m A xs m', vs = .ref p :: xs ∧ At C n H w H w p cf c m A [] ∧ R xs H c m m' ∧ ∀ H' w' A', At C n H w H' w' p cf c m' A' [] → Q .non H'
/-- a method of a member that hands back a truth value and changes nothing -/
def spMb (C : Cl) (R : List V → M → Bool → Prop) : Sp := fun vs H Q _ => ∃ n w p cf c m A xs b, vs = .ref p :: xs ∧ At C n H w H w p cf c m A [] ∧ R xs m b ∧ ∀ H', Same H H' → Q (.bl b) H'
/-- sizes: nothing that the member holds is too great for k more -/
structure Sm (k : Nat) (m : M) : Prop where
  said : m.said.length ≤ k
  elections : m.elections.length ≤ k
  leaving : m.leaving.length ≤ 6000000 + k
  ballot : m.ballot.length ≤ 3000000 + k
  active : m.active.length ≤ 3000000 + k
  pending : m.pending.length ≤ 3000000 + k
  held : m.held.length ≤ 3000000 + k
structure CfgOk (c : Cfg) : Prop where
  all : c.everyone.length ≤ 9
  voters : c.voters.length ≤ 9
  outgoing : c.outgoing.length ≤ 9
theorem Sm.mono {k l : Nat} {m : M} (h : Sm k m) (q : k ≤ l) : Sm l m := ⟨Nat.le_trans h.said q, Nat.le_trans h.elections q, Nat.le_trans h.leaving (by omega), Nat.le_trans h.ballot (by omega), Nat.le_trans h.active (by omega), Nat.le_trans h.pending (by omega), Nat.le_trans h.held (by omega)⟩
/-- a def that hands back a truth value and changes nothing -/
def spBl (R : List V → Hp → Bool → Prop) : Sp := fun vs H Q _ => ∃ b, R vs H b ∧ ∀ H', Same H H' → Q (.bl b) H'
/-- a def that hands back a new list of ints and changes nothing else -/
def spIs (R : List V → Hp → List Int → Prop) : Sp := fun vs H Q _ => ∃ ns, R vs H ns ∧ ∀ H' q, Same H H' → H q = none → H' q = some (.lst (ns.map V.int)) → Q (.ref q) H'
/-! ### a configuration's attributes -/
section
variable {CC : Addr} {H : Hp} {w : Ow} {cf : Addr} {c : Cfg} {K : PySem.W.Frag} {mg : Str → Option Value} {C : Cl} {σ : L2.St} {Q : V → Prop}
theorem Cf.voters (h : Cf C.c H w cf c) (T : Txt K mg C) (k : ∀ a, H a = some (.lst (c.voters.map V.int)) → Q (.ref a)) : FldAt K (.ref cf) "voters" H Q := by
  obtain ⟨dx, v, o, e, h1, _, _, _, _, h2, h3, h4⟩ := h.ex
  exact ⟨cf, C.c, dx, _, .ref v, rfl, h1, T.cl_c, T.na_c _ (by decide +kernel), lk_zip cNames _ 0 rfl rfl (by decide +kernel), k v h2⟩
theorem Cf.outgoing (h : Cf C.c H w cf c) (T : Txt K mg C) (k : ∀ a, H a = some (.lst (c.outgoing.map V.int)) → Q (.ref a)) : FldAt K (.ref cf) "outgoing" H Q := by
  obtain ⟨dx, v, o, e, h1, _, _, _, _, h2, h3, h4⟩ := h.ex
  exact ⟨cf, C.c, dx, _, .ref o, rfl, h1, T.cl_c, T.na_c _ (by decide +kernel), lk_zip cNames _ 1 rfl rfl (by decide +kernel), k o h3⟩
theorem Cf.everyone (h : Cf C.c H w cf c) (T : Txt K mg C) (k : ∀ a, H a = some (.lst (c.everyone.map V.int)) → Q (.ref a)) : FldAt K (.ref cf) "everyone" H Q := by
  obtain ⟨dx, v, o, e, h1, _, _, _, _, h2, h3, h4⟩ := h.ex
  exact ⟨cf, C.c, dx, _, .ref e, rfl, h1, T.cl_c, T.na_c _ (by decide +kernel), lk_zip cNames _ 2 rfl rfl (by decide +kernel), k e h4⟩
theorem Cf.md {f : Str} {Q : Prop} (h : Cf C.c H w cf c) (hf : (cNames.all fun g => !(f == g)) = true) (q : Q) : ∃ a dx fs, V.ref cf = .ref a ∧ H a = some (.ins C.c dx fs) ∧ fs.lookup f = none ∧ Q := by
  obtain ⟨dx, v, o, e, h1, _, _, _, _, h2, h3, h4⟩ := h.ex
  exact ⟨cf, dx, _, rfl, h1, no_zip cNames _ hf, q⟩
theorem Cf.same {H' : Hp} (h : Cf C.c H w cf c) (s : Same H H') : Cf C.c H' w cf c := h.move fun b o e z => ⟨s b o e, z⟩
end
end Lp
/-! Part K: how much a member's lists grow in one input. -/
namespace Lp
/-- nothing that a member holds is too great -/
structure Bd (m : M) : Prop where
  said : m.said.length ≤ 3000
  elections : m.elections.length ≤ 3000
  leaving : m.leaving.length ≤ 4000000
  ballot : m.ballot.length ≤ 4000000
  active : m.active.length ≤ 4000000
  pending : m.pending.length ≤ 4000000
  held : m.held.length ≤ 4000000
/-- from m to v: at most k more are said -/
structure Kp (k : Nat) (m v : M) : Prop where
  pending : v.pending = m.pending
  held : v.held = m.held
  leaving : v.leaving = m.leaving
  said : v.said.length ≤ m.said.length + k
  elections : v.elections.length ≤ m.elections.length + k
theorem others_le {c : Cfg} (h : CfgOk c) (n : Int) : (c.others n).length ≤ 9 := Nat.le_trans (List.length_filter_le _ _) h.all
theorem otherVoters_le {c : Cfg} (h : CfgOk c) (n : Int) : (c.otherVoters n).length ≤ 9 := Nat.le_trans (List.length_filter_le _ _) (others_le h n)
theorem sayAll_nil (m : M) (k : Int) (fs : List Int) (t : Int) : m.sayAll [] k fs t = m := by
  unfold M.sayAll
  simp
theorem sayAll_snoc (m : M) (l : List Int) (r k : Int) (fs : List Int) (t : Int) : (m.sayAll l k fs t).say r k fs t = m.sayAll (l ++ [r]) k fs t := by
  unfold M.sayAll M.say
  simp
theorem sayAll_len (m : M) (l : List Int) (k : Int) (fs : List Int) (t : Int) : (m.sayAll l k fs t).said.length = m.said.length + l.length := by
  unfold M.sayAll
  simp
section
variable {m v u : M} {k l : Nat} {c : Cfg}
theorem Kp.refl (k : Nat) (m : M) : Kp k m m := ⟨rfl, rfl, rfl, Nat.le_add_right _ _, Nat.le_add_right _ _⟩
theorem Kp.trans (a : Kp k m v) (b : Kp l v u) : Kp (k + l) m u :=
  ⟨b.1.trans a.1, b.2.trans a.2, b.3.trans a.3, by have := a.4; have := b.4; omega, by have := a.5; have := b.5; omega⟩
theorem Kp.mono (a : Kp k m v) (h : k ≤ l) : Kp l m v := ⟨a.1, a.2, a.3, by have := a.4; omega, by have := a.5; omega⟩
/-- the other fields count for nothing -/
theorem Kp.of (h1 : v.pending = m.pending := by rfl) (h2 : v.held = m.held := by rfl) (h3 : v.leaving = m.leaving := by rfl) (h4 : v.said = m.said := by rfl) (h5 : v.elections = m.elections := by rfl) : Kp 0 m v :=
  ⟨h1, h2, h3, by rw [h4]; exact Nat.le_refl _, by rw [h5]; exact Nat.le_refl _⟩
theorem kp_say (m : M) (r q : Int) (fs : List Int) (t : Int) : Kp 1 m (m.say r q fs t) := ⟨rfl, rfl, rfl, by simp [M.say], Nat.le_add_right _ _⟩
theorem kp_sayAll (m : M) {ls : List Int} (h : ls.length ≤ k) (q : Int) (fs : List Int) (t : Int) : Kp k m (m.sayAll ls q fs t) := ⟨rfl, rfl, rfl, by rw [sayAll_len]; omega, Nat.le_add_right _ _⟩
theorem kp_follow (m : M) (l : Int) : Kp 0 m (m.follow l) := .of
theorem kp_join (m : M) (t l : Int) : Kp 0 m (m.join t l) := .of
theorem kp_beats' (h : CfgOk c) (m : M) : Kp 9 m (m.sayHeartbeats c) := kp_sayAll m (others_le h _) _ _ _
theorem kp_beginVote (h : CfgOk c) (m : M) (d : Int) : Kp 9 m (m.beginVote c d) := Kp.trans (k := 0) (v := ({ m.follow 0 with term := m.term + 1, vote := m.number, role := 2 } : M)) .of (kp_sayAll _ (otherVoters_le h _) _ _ _)
theorem kp_beginLead (h : CfgOk c) (m : M) : Kp 10 m (m.beginLead c) :=
  Kp.trans (k := 1) (m := m) (v := ({ m.follow m.number with role := 3, elections := m.elections ++ [(m.term, m.number)] } : M)) ⟨rfl, rfl, rfl, Nat.le_add_right _ _, by show (m.elections ++ [(m.term, m.number)]).length ≤ m.elections.length + 1; rw [List.length_append]; exact Nat.le_refl _⟩ (kp_beats' h _)
theorem kp_decide (h : CfgOk c) (m : M) : Kp 10 m (m.decide c) := by
  unfold M.decide
  by_cases a : c.isQuorum ((m.ballot.filter fun b => b.2).map (·.1)) = true
  · rw [if_pos a]
    by_cases b : m.role = 1
    · rw [if_pos b]; exact (kp_beginVote h m 0).mono (by decide)
    · rw [if_neg b]; exact kp_beginLead h m
  · rw [if_neg a]
    by_cases b : c.isQuorum (c.everyone.filter fun o => !((m.ballot.filter fun b => !b.2).map (·.1)).contains o) = true
    · rw [if_pos b]; exact Kp.refl _ _
    · rw [if_neg b]; exact (kp_follow m 0).mono (Nat.zero_le _)
theorem kp_added (m : M) (n : Int) (y : Bool) : Kp 0 m (m.added n y) := by
  unfold M.added
  by_cases a : (m.ballot.map (·.1)).contains n = true
  · rw [if_pos a]; exact .refl _ _
  · rw [if_neg a]; exact .of
theorem kp_count (h : CfgOk c) (m : M) (n : Int) (y : Bool) : Kp 10 m (m.count c n y) := (kp_added m n y).trans (kp_decide h _)
theorem kp_beginQuestion (h : CfgOk c) (m : M) : Kp 19 m (m.beginQuestion c) :=
  Kp.trans (k := 9) (Kp.trans (k := 0) (v := ({ m.follow 0 with role := 1, ballot := [(m.number, true)] } : M)) .of (kp_sayAll _ (otherVoters_le h _) _ _ _)) (kp_decide h _)
theorem kp_beats (h : CfgOk c) (m : M) : Kp 9 m (m.beats c) := by
  unfold M.beats
  by_cases a : 3 ≤ m.beat
  · rw [if_pos a]; exact Kp.trans (k := 0) (v := ({ m with beat := 0 } : M)) .of (kp_beats' h _)
  · rw [if_neg a]; exact .refl _ _
theorem kp_tickOn (h : CfgOk c) (m : M) : Kp 9 m (m.tickOn c) := by
  unfold M.tickOn
  by_cases a : 10 ≤ m.elapsed
  · rw [if_pos a]
    by_cases b : c.isQuorum (m.number :: m.active) = true
    · rw [if_pos b]; exact Kp.trans (k := 0) (v := ({ m with elapsed := 0, active := [] } : M)) .of (kp_beats h _)
    · rw [if_neg b]; exact (kp_follow m 0).mono (Nat.zero_le _)
  · rw [if_neg a]; exact kp_beats h m
theorem kp_ticked (h : CfgOk c) (m : M) : Kp 19 m (m.ticked c) := by
  unfold M.ticked
  by_cases a : m.role = 3
  · rw [if_pos a]
    exact (Kp.trans (k := 0) (v := ({ m with elapsed := m.elapsed + 1, beat := m.beat + 1 } : M)) .of (kp_tickOn h _)).mono (by decide)
  · rw [if_neg a]
    by_cases b : m.elapsed + 1 < 10 + (7 * m.number + 3 * m.term) % 10
    · rw [if_pos b]; exact Kp.mono (k := 0) .of (Nat.zero_le _)
    · rw [if_neg b]
      by_cases d : c.votes m.number = true
      · rw [if_pos d]; exact Kp.trans (k := 0) (v := ({ m with elapsed := 0 } : M)) .of (kp_beginQuestion h _)
      · rw [if_neg d]; exact Kp.mono (k := 0) .of (Nat.zero_le _)
theorem kp_hearQuestion (m : M) (s t i l : Int) : Kp 1 m (m.hearQuestion s t i l) := by
  unfold M.hearQuestion
  split
  · exact .refl _ _
  · split <;> exact kp_say _ _ _ _ _
theorem kp_hearAnswer (h : CfgOk c) (m : M) (s t g : Int) : Kp 10 m (m.hearAnswer c s t g) := by
  unfold M.hearAnswer
  split
  · split
    · exact kp_count h _ _ _
    · exact .refl _ _
  · split
    · exact (kp_join m t 0).mono (Nat.zero_le _)
    · split
      · exact kp_count h _ _ _
      · exact .refl _ _
theorem kp_grant (m : M) (s t i l : Int) : Kp 1 m (m.grant s t i l) := by
  unfold M.grant
  split
  · split
    · exact Kp.trans (k := 0) (v := (({ m with vote := s } : M).follow m.leader)) .of (kp_say _ _ _ _ _)
    · exact kp_say _ _ _ _ _
  · exact kp_say _ _ _ _ _
theorem kp_hearVote (m : M) (s t i l d : Int) : Kp 1 m (m.hearVote s t i l d) := by
  unfold M.hearVote
  split
  · split
    · exact .refl _ _
    · exact Kp.trans (kp_join m t 0) (kp_grant _ _ _ _ _)
  · exact kp_grant _ _ _ _ _
theorem kp_activate (m : M) (s : Int) : Kp 0 m (m.activate s) := by
  unfold M.activate
  split
  · exact .of
  · exact .refl _ _
theorem kp_hearCurrent (h : CfgOk c) (m : M) (s : Int) (b : M.B) : Kp 10 m (m.hearCurrent c s b) := by
  unfold M.hearCurrent
  split
  · exact (kp_say _ _ _ _ _).mono (by decide)
  · exact (kp_beginVote h _ _).mono (by decide)
  · exact (kp_activate _ _).mono (by decide)
  · split
    · exact kp_count h _ _ _
    · exact .refl _ _
  · exact .refl _ _
theorem kp_hearOther (h : CfgOk c) (m : M) (s t : Int) (b : M.B) : Kp 10 m (m.hearOther c s t b) := by
  unfold M.hearOther
  split
  · split
    · exact (kp_say _ _ _ _ _).mono (by decide)
    · exact .refl _ _
  · split
    · exact Kp.trans (k := 0) (kp_join m t s) (kp_hearCurrent h _ _ _)
    · split
      · exact Kp.trans (k := 0) (kp_join m t 0) (kp_hearCurrent h _ _ _)
      · exact kp_hearCurrent h _ _ _
theorem kp_heard (h : CfgOk c) (m : M) (s t : Int) (b : M.B) : Kp 10 m (m.heard c s t b) := by
  unfold M.heard
  split
  · exact (kp_hearQuestion _ _ _ _ _).mono (by decide)
  · exact kp_hearAnswer h _ _ _ _
  · exact (kp_hearVote _ _ _ _ _ _).mono (by decide)
  · exact kp_hearOther h _ _ _ _
end
end Lp
/-! Part M0: configurations. -/
namespace Lp
open PySem PySem.Spec PyProof.Rows L2
section
variable {P : Program} {w : World} {K : PySem.W.Frag} {mg : Str → Option Value} {base : Heap} {C : Cl}
/-! ### is_majority -/
abbrev s_is_majority : Stmt := top 4
theorem sc_is_majority : FnScope ["members", "row", "number"] ["members", "row"] (defScope s_is_majority) := ⟨rfl, rfl, rfl, by decide +kernel, rfl, by decide +kernel, by decide +kernel⟩
def R_majority (K : PySem.W.Frag) : List V → Hp → Bool → Prop := fun vs H b => ∃ (a r : Addr) (ms row : List Int), vs = [.ref a, .ref r] ∧ SqL K H a (ms.map V.int) ∧ SqL K H r (row.map V.int) ∧ row.length ≤ 1000 ∧ b = isMajority ms row
theorem ok_is_majority {f : Addr} {fd : FuncData} (T : Txt K mg C) (F : Fun K "is_majority" "is_majority" s_is_majority f fd) : FnOk P w K mg base CX0 1 f fd ["members", "row"] (spBl (R_majority K)) := by
  refine F.ok sc_is_majority (fun vs H Q E h => ?_) (fun cdv A outer s H vs Q E hr h => ?_)
  · obtain ⟨_, ⟨_, _, _, _, rfl, _⟩, _⟩ := h
    rfl
  · refine ⟨_, (pss_one (ps_ret (pe_cmpR op_gt (pe_op op_mul pe_int (pe_callB call_len_seq (by rfl) T.b_len PySem.boot_len (pa_cons (pe_lc (own := [("number", 2)]) (g := gName 2) rfl sc_is_majority.nd (pi_list (pv 1)) (blkOk_by (N := ["members", "row", "number"]) (sc := defScope s_is_majority) (by decide +kernel)) (fun _ _ _ _ _ => pg_name (i := 2) sc_is_majority.nd rfl (Or.inl rfl)) (fun _ _ _ _ _ => pts_one (pt_cmpR (op_in_seqK K rfl) (pv 2) (pv 0) (by rfl))) (fun _ _ _ _ _ => (pv 2))) pa_nil))) (pe_callB call_len_seq (by rfl) T.b_len PySem.boot_len (pa_cons (pv 1) pa_nil)) (nomark _)))), ?_⟩
    obtain ⟨_, ⟨a, r, ms, row, rfl, ha, hrow, hl, rfl⟩, k⟩ := h
    refine ⟨_, rfl, r, rfl, ⟨_, hrow⟩, fun D hD => lc_list (K := K) (a := r) (xs := row.map V.int) (fun i H' => LcInv rInt H D (outF (fun n => ms.contains n) (fun n => n) row i) H') (LcInv.zero hD) (fun i H' _ h => h.srcL hrow) (fun i x H' hx h => ?_) (fun H' h => ?_)⟩
    · obtain ⟨z, hz, rfl⟩ := int_at hx
      refine ⟨rfl, _, rfl, _, rfl, in_ints (h.srcL ha) ⟨_, rfl, ?_⟩⟩
      cases e : ms.contains z with
      | true =>
        rw [if_pos rfl, outF_yes hz e]
        exact ⟨_, rfl, h.add hD (same_refl _) (by have := outF_lt (p := fun n => ms.contains n) (f := fun n => n) hz; rw [sizeLine_is]; omega) rfl⟩
      | false =>
        rw [if_neg Bool.false_ne_true, outF_no hz e]
        exact h
    · rw [List.length_map, outF_all, map_id_int] at h
      obtain ⟨s1, acc, hacc, hp⟩ := h
      have e := pr_ints hp
      subst e
      refine ⟨D, _, rfl, .inl (SqL.of hacc), _, _, rfl, rfl, .inl ⟨by decide, by decide⟩, ?_⟩
      refine ⟨_, rfl, r, _, rfl, .inl (L2.Same.seq s1 hrow), _, _, rfl, rfl, ?_⟩
      rw [List.length_map, List.length_map]
      exact k _ s1
end
end Lp
namespace Lp
open PySem PySem.Spec PyProof.Rows L2
section
variable {P : Program} {w : World} {K : PySem.W.Frag} {mg : Str → Option Value} {base : Heap} {C : Cl}
/-! ### votes -/
abbrev s_Configuration_votes : Stmt := inClass (top 5) 1
theorem sc_Configuration_votes : FnScope ["self", "number"] ["self", "number"] (defScope s_Configuration_votes) := ⟨rfl, rfl, rfl, by decide +kernel, rfl, by decide +kernel, by decide +kernel⟩
def R_votes (C : Cl) : List V → Hp → Bool → Prop := fun vs H b => ∃ w cf c n, vs = [.ref cf, .int n] ∧ Cf C.c H w cf c ∧ b = c.votes n
theorem ok_Configuration_votes {f : Addr} {fd : FuncData} (T : Txt K mg C) (F : Fun K "votes" "Configuration.votes" s_Configuration_votes f fd) : FnOk P w K mg base CX0 1 f fd ["self", "number"] (spBl (R_votes C)) := by
  refine F.ok sc_Configuration_votes (fun vs H Q E h => ?_) (fun cdv A outer s H vs Q E hr h => ?_)
  · obtain ⟨_, ⟨_, _, _, _, rfl, _⟩, _⟩ := h
    rfl
  · refine ⟨_, (pss_one (ps_ret (pe_or (pe_cmpR op_in_seq (pv 1) (pe_fld (pv 0) rfl) (by rfl)) (pe_one (pe_cmpR op_in_seq (pv 1) (pe_fld (pv 0) rfl) (by rfl)))))), ?_⟩
    obtain ⟨_, ⟨w, cf, c, n, rfl, h, rfl⟩, k⟩ := h
    refine ⟨_, rfl, _, rfl, h.voters T fun a ha => in_ints (SqL.of ha) ⟨_, rfl, ?_⟩⟩
    have e : c.votes n = (c.voters.contains n || c.outgoing.contains n) := rfl
    rw [e] at k
    cases q : c.voters.contains n with
    | true =>
      rw [if_pos rfl]
      rw [q] at k
      exact k _ (same_refl _)
    | false =>
      rw [if_neg Bool.false_ne_true]
      rw [q] at k
      exact ⟨_, rfl, _, rfl, h.outgoing T fun a ha => in_ints (SqL.of ha) (k _ (same_refl _))⟩
/-! ### is_quorum -/
abbrev s_Configuration_is_quorum : Stmt := inClass (top 5) 2
theorem sc_Configuration_is_quorum : FnScope ["self", "members"] ["self", "members"] (defScope s_Configuration_is_quorum) := ⟨rfl, rfl, rfl, by decide +kernel, rfl, by decide +kernel, by decide +kernel⟩
def R_quorum (K : PySem.W.Frag) (C : Cl) : List V → Hp → Bool → Prop := fun vs H b => ∃ w cf c a ms, vs = [.ref cf, .ref a] ∧ Cf C.c H w cf c ∧ SqL K H a (ms.map V.int) ∧ c.everyone.length ≤ 9 ∧ c.voters.length ≤ 9 ∧ c.outgoing.length ≤ 9 ∧ b = c.isQuorum ms
theorem ok_Configuration_is_quorum {f : Addr} {fd : FuncData} (T : Txt K mg C) (F : Fun K "is_quorum" "Configuration.is_quorum" s_Configuration_is_quorum f fd) (D_is_majority : DfG P w K mg base CX0 1 "is_majority" ["members", "row"] (spBl (R_majority K))) :
    FnOk P w K mg base CX0 2 f fd ["self", "members"] (spBl (R_quorum K C)) := by
  refine F.ok sc_Configuration_is_quorum (fun vs H Q E h => ?_) (fun cdv A outer s H vs Q E hr h => ?_)
  · obtain ⟨_, ⟨_, _, _, _, _, rfl, _⟩, _⟩ := h
    rfl
  · refine ⟨_, (pss_cons (ps_if (pt_not (pt_val (pe_cal D_is_majority (hr.mono (by decide)) rfl (pa_cons (pv 1) (pa_cons (pe_fld (pv 0) rfl) pa_nil)))))
        (pss_one (ps_ret pe_bl))
        pss_nil)
      (pss_one (ps_ret (pe_or (pe_notT (pe_fld (pv 0) rfl)) (pe_one (pe_cal D_is_majority (hr.mono (by decide)) rfl (pa_cons (pv 1) (pa_cons (pe_fld (pv 0) rfl) pa_nil)))))))), ?_⟩
    obtain ⟨_, ⟨w, cf, c, a, ms, rfl, h, ha, l1, l2, l3, rfl⟩, k⟩ := h
    have e : c.isQuorum ms = (isMajority ms c.voters && (c.outgoing.isEmpty || isMajority ms c.outgoing)) := rfl
    rw [e] at k
    refine ⟨_, rfl, _, rfl, h.voters T fun v hv => ⟨_, ⟨a, v, ms, c.voters, rfl, ha, .of hv, by omega, rfl⟩, fun H1 s1 => ⟨_, rfl, ?_⟩⟩⟩
    have h1 := h.same s1
    have ha1 := L2.Same.seq s1 ha
    cases q : isMajority ms c.voters with
    | false =>
      rw [q] at k
      exact k _ s1
    | true =>
      rw [q] at k
      refine ⟨_, rfl, h1.outgoing T fun o ho => ⟨_, .inl ⟨_, .of ho, rfl⟩, ?_⟩⟩
      cases q2 : c.outgoing with
      | nil =>
        rw [q2] at k
        exact ⟨_, rfl, k _ s1⟩
      | cons z zs =>
        rw [q2] at k
        refine ⟨_, rfl, ?_⟩
        refine ⟨_, rfl, _, rfl, h1.outgoing T fun o ho => ?_⟩
        rw [q2] at ho
        exact ⟨_, ⟨a, o, ms, z :: zs, rfl, ha1, .of ho, by rw [← q2]; omega, rfl⟩, fun H2 s2 => k _ (same_trans s1 s2)⟩
/-! ### others, other_voters -/
abbrev s_Configuration_others : Stmt := inClass (top 5) 3
theorem sc_Configuration_others : FnScope ["self", "number", "one"] ["self", "number"] (defScope s_Configuration_others) := ⟨rfl, rfl, rfl, by decide +kernel, rfl, by decide +kernel, by decide +kernel⟩
def R_others (C : Cl) : List V → Hp → List Int → Prop := fun vs H ns => ∃ w cf c n, vs = [.ref cf, .int n] ∧ Cf C.c H w cf c ∧ c.everyone.length ≤ 9 ∧ ns = c.others n
theorem ok_Configuration_others {f : Addr} {fd : FuncData} (T : Txt K mg C) (F : Fun K "others" "Configuration.others" s_Configuration_others f fd) : FnOk P w K mg base CX0 1 f fd ["self", "number"] (spIs (R_others C)) := by
  refine F.ok sc_Configuration_others (fun vs H Q E h => ?_) (fun cdv A outer s H vs Q E hr h => ?_)
  · obtain ⟨_, ⟨_, _, _, _, rfl, _⟩, _⟩ := h
    rfl
  · refine ⟨_, (pss_one (ps_ret (pe_lc (own := [("one", 2)]) (g := gName 2) rfl sc_Configuration_others.nd (pi_list (pe_fld (pv 0) rfl)) (blkOk_by (N := ["self", "number", "one"]) (sc := defScope s_Configuration_others) (by decide +kernel)) (fun _ _ _ _ _ => pg_name (i := 2) sc_Configuration_others.nd rfl (Or.inl rfl)) (fun _ _ _ _ _ => pts_one (pt_cmpR op_ne (pv 2) (pv 1) (nomark _))) (fun _ _ _ _ _ => (pv 2))))), ?_⟩
    obtain ⟨_, ⟨w, cf, c, n, rfl, h, l9, rfl⟩, k⟩ := h
    refine ⟨_, rfl, h.everyone T fun a ha => ⟨a, rfl, ⟨_, .of ha⟩, fun D hD => lc_list (K := K) (a := a) (xs := c.everyone.map V.int) (fun i H' => LcInv rInt H D (outF (fun m => !decide (m = n)) (fun n => n) c.everyone i) H') (LcInv.zero hD) (fun i H' _ h => h.src ha) (fun i x H' hx h => ?_) (fun H' h => ?_)⟩⟩
    · obtain ⟨z, hz, rfl⟩ := int_at hx
      refine ⟨rfl, _, rfl, _, rfl, rfl, _, rfl, ?_⟩
      by_cases e : z = n
      · rw [decide_eq_true (congrArg V.int e), outF_no hz (by rw [decide_eq_true e]; rfl)]
        exact h
      · rw [decide_eq_false (fun q => e (V.int.inj q)), outF_yes hz (by rw [decide_eq_false e]; rfl)]
        refine ⟨_, rfl, h.add hD (same_refl _) ?_ rfl⟩
        have := outF_lt (p := fun m => !decide (m = n)) (f := fun n => n) hz
        rw [sizeLine_is]
        omega
    · rw [List.length_map, outF_all, map_id_int] at h
      obtain ⟨s1, acc, hacc, hp⟩ := h
      exact k _ D s1 hD (by rw [hacc, pr_ints hp]; rfl)
abbrev s_Configuration_other_voters : Stmt := inClass (top 5) 4
theorem sc_Configuration_other_voters : FnScope ["self", "number", "one"] ["self", "number"] (defScope s_Configuration_other_voters) := ⟨rfl, rfl, rfl, by decide +kernel, rfl, by decide +kernel, by decide +kernel⟩
def R_otherVoters (C : Cl) : List V → Hp → List Int → Prop := fun vs H ns => ∃ w cf c n, vs = [.ref cf, .int n] ∧ Cf C.c H w cf c ∧ c.everyone.length ≤ 9 ∧ ns = c.otherVoters n
theorem ok_Configuration_other_voters {f : Addr} {fd : FuncData} (T : Txt K mg C) (F : Fun K "other_voters" "Configuration.other_voters" s_Configuration_other_voters f fd)
    (D_Configuration_others : DfM P w K mg base CX0 1 C.c "others" ["self", "number"] (spIs (R_others C))) (D_Configuration_votes : DfM P w K mg base CX0 1 C.c "votes" ["self", "number"] (spBl (R_votes C))) :
    FnOk P w K mg base CX0 2 f fd ["self", "number"] (spIs (R_otherVoters C)) := by
  refine F.ok sc_Configuration_other_voters (fun vs H Q E h => ?_) (fun cdv A outer s H vs Q E hr h => ?_)
  · obtain ⟨_, ⟨_, _, _, _, rfl, _⟩, _⟩ := h
    rfl
  · refine ⟨_, (pss_one (ps_ret (pe_lc (own := [("one", 2)]) (g := gName 2) rfl sc_Configuration_other_voters.nd (pi_list (pe_mth (pv 0) T.cl_c D_Configuration_others (hr.mono (by decide)) (pa_cons (pv 1) pa_nil))) (blkOk_by (N := ["self", "number", "one"]) (sc := defScope s_Configuration_other_voters) (by decide +kernel)) (fun _ _ _ _ _ => pg_name (i := 2) sc_Configuration_other_voters.nd rfl (Or.inl rfl)) (fun _ _ _ _ _ => pts_one (pt_val (pe_mth (pv 0) T.cl_c D_Configuration_votes (hr.mono (by decide)) (pa_cons (pv 2) pa_nil)))) (fun _ _ _ _ _ => (pv 2))))), ?_⟩
    obtain ⟨_, ⟨w, cf, c, n, rfl, h, l9, rfl⟩, k⟩ := h
    refine ⟨_, rfl, h.md (by decide +kernel) ⟨_, rfl, c.others n, ⟨w, cf, c, n, rfl, h, l9, rfl⟩, fun H1 a s1 _ ha => ?_⟩⟩
    have h1 := h.same s1
    have lo : (c.others n).length ≤ 9 := Nat.le_trans (List.length_filter_le _ _) l9
    refine ⟨a, rfl, ⟨_, .of ha⟩, fun D hD => lc_list (K := K) (a := a) (xs := (c.others n).map V.int) (fun i H' => LcInv rInt H1 D (outF c.votes (fun n => n) (c.others n) i) H') (LcInv.zero hD) (fun i H' _ h => h.src ha) (fun i x H' hx h => ?_) (fun H' h => ?_)⟩
    · obtain ⟨z, hz, rfl⟩ := int_at hx
      have h2 := h1.same h.1
      refine ⟨rfl, _, rfl, h2.md (by decide +kernel) ⟨_, rfl, c.votes z, ⟨w, cf, c, z, rfl, h2, rfl⟩, fun H3 s3 => ⟨_, rfl, ?_⟩⟩⟩
      cases e : c.votes z with
      | true =>
        rw [if_pos rfl, outF_yes hz e]
        refine ⟨_, rfl, h.add hD s3 ?_ rfl⟩
        have := outF_lt (p := c.votes) (f := fun n => n) hz
        rw [sizeLine_is]
        omega
      | false =>
        rw [if_neg Bool.false_ne_true, outF_no hz e]
        exact h.skip s3
    · rw [List.length_map, outF_all, map_id_int] at h
      obtain ⟨s2, acc, hacc, hp⟩ := h
      exact k _ D (same_trans s1 s2) (same_free s1 hD) (by rw [hacc, pr_ints hp]; rfl)
end
end Lp
/-! Part M1: the member's methods: their text, promise, proof. -/
namespace Lp
open PySem PySem.Spec PyProof.Rows L2
section
variable {P : Program} {w : World} {K : PySem.W.Frag} {mg : Str → Option Value} {base : Heap} {C : Cl}
/-! ### follow -/
abbrev s_Member_follow : Stmt := inClass (top 20) 8
theorem sc_Member_follow : FnScope ["self", "leader"] ["self", "leader"] (defScope s_Member_follow) := ⟨rfl, rfl, rfl, by decide +kernel, rfl, by decide +kernel, by decide +kernel⟩
def R_follow : List V → Hp → Cfg → M → M → Prop := fun xs _ _ m m' => ∃ l : Int, xs = [.int l] ∧ m' = m.follow l
theorem ok_Member_follow {f : Addr} {fd : FuncData} (T : Txt K mg C) (F : Fun K "follow" "Member.follow" s_Member_follow f fd) : FnOk P w K mg base CX0 1 f fd ["self", "leader"] (spMt C R_follow) := by
  refine F.ok sc_Member_follow (fun vs H Q E h => ?_) (fun cdv A outer s H vs Q E hr h => ?_)
  · obtain ⟨_, _, _, _, _, _, _, _, _, rfl, _, ⟨l, rfl, _⟩, _⟩ := h
    rfl
  · refine ⟨_, (pss_cons (ps_fld (pv 0) (pe_const rfl T.k_FOLLOWER) rfl)
      (pss_cons (ps_fld (pv 0) (pv 1) rfl)
      (pss_cons (ps_fld (pv 0) pe_int rfl)
      (pss_cons (ps_fld (pv 0) pe_int rfl)
      (pss_cons (ps_fld (pv 0) (pe_lst pa_nil) rfl)
      (pss_one (ps_fld (pv 0) (pe_lst pa_nil) rfl))))))), ?_⟩
    obtain ⟨n, w, p, cf, c, m, A, _, _, rfl, h, ⟨l, rfl, rfl⟩, k⟩ := h
    refine ⟨_, rfl, h.st T { m with role := 0 } (i := 10) rfl rfl h.parts h.nm fun H h => ?_⟩
    refine ⟨_, rfl, ?_⟩
    refine ⟨_, rfl, h.st T { m with role := 0, leader := l } (i := 11) rfl rfl h.parts h.nm fun H h => ?_⟩
    refine ⟨_, rfl, h.st T { m with role := 0, leader := l, elapsed := 0 } (i := 12) rfl rfl h.parts h.nm fun H h => ?_⟩
    refine ⟨_, rfl, h.st T { m with role := 0, leader := l, elapsed := 0, beat := 0 } (i := 13) rfl rfl h.parts h.nm fun H h => ?_⟩
    refine ⟨Nat.zero_le _, fun q hq => ?_⟩
    refine ⟨_, rfl, (h.alloc hq).bal_st T .nil fun H w h => ?_⟩
    refine ⟨Nat.zero_le _, fun q hq => ?_⟩
    refine ⟨_, rfl, (h.alloc hq).act_st T .nil fun H w h => ?_⟩
    exact k _ _ _ h
/-! ### clear, start, stop -/
abbrev s_Member_clear : Stmt := inClass (top 20) 1
theorem sc_Member_clear : FnScope ["self"] ["self"] (defScope s_Member_clear) := ⟨rfl, rfl, rfl, by decide +kernel, rfl, by decide +kernel, by decide +kernel⟩
def R_clear : List V → Hp → Cfg → M → M → Prop := fun xs _ _ m m' => xs = [] ∧ m' = m.clear
theorem ok_Member_clear {f : Addr} {fd : FuncData} (T : Txt K mg C) (F : Fun K "clear" "Member.clear" s_Member_clear f fd) : FnOk P w K mg base CX0 1 f fd ["self"] (spMt C R_clear) := by
  refine F.ok sc_Member_clear (fun vs H Q E h => ?_) (fun cdv A outer s H vs Q E hr h => ?_)
  · obtain ⟨_, _, _, _, _, _, _, _, _, rfl, _, ⟨rfl, _⟩, _⟩ := h
    rfl
  · refine ⟨_, (pss_cons (ps_fld (pv 0) pe_int rfl)
      (pss_cons (ps_fld (pv 0) pe_int rfl)
      (pss_cons (ps_fld (pv 0) (pe_const rfl T.k_FOLLOWER) rfl)
      (pss_cons (ps_fld (pv 0) pe_int rfl)
      (pss_cons (ps_fld (pv 0) pe_int rfl)
      (pss_cons (ps_fld (pv 0) pe_int rfl)
      (pss_cons (ps_fld (pv 0) (pe_lst pa_nil) rfl)
      (pss_cons (ps_fld (pv 0) (pe_lst pa_nil) rfl)
      (pss_cons (ps_fld (pv 0) (pe_lst pa_nil) rfl)
      (pss_cons (ps_fld (pv 0) (pe_lst pa_nil) rfl)
      (pss_cons (ps_fld (pv 0) pe_int rfl)
      (pss_one (ps_fld (pv 0) pe_int rfl))))))))))))), ?_⟩
    obtain ⟨n, w, p, cf, c, m, A, _, _, rfl, h, ⟨rfl, rfl⟩, k⟩ := h
    refine ⟨_, rfl, h.st T { m with term := 0 } (i := 8) rfl rfl h.parts h.nm fun H h => ?_⟩
    refine ⟨_, rfl, h.st T { m with term := 0, vote := 0 } (i := 9) rfl rfl h.parts h.nm fun H h => ?_⟩
    refine ⟨_, rfl, h.st T { m with term := 0, vote := 0, role := 0 } (i := 10) rfl rfl h.parts h.nm fun H h => ?_⟩
    refine ⟨_, rfl, h.st T { m with term := 0, vote := 0, role := 0, leader := 0 } (i := 11) rfl rfl h.parts h.nm fun H h => ?_⟩
    refine ⟨_, rfl, h.st T { m with term := 0, vote := 0, role := 0, leader := 0, elapsed := 0 } (i := 12) rfl rfl h.parts h.nm fun H h => ?_⟩
    refine ⟨_, rfl, h.st T { m with term := 0, vote := 0, role := 0, leader := 0, elapsed := 0, beat := 0 } (i := 13) rfl rfl h.parts h.nm fun H h => ?_⟩
    refine ⟨Nat.zero_le _, fun q hq => ⟨_, rfl, (h.alloc hq).bal_st T .nil fun H w h => ?_⟩⟩
    refine ⟨Nat.zero_le _, fun q hq => ⟨_, rfl, (h.alloc hq).act_st T .nil fun H w h => ?_⟩⟩
    refine ⟨Nat.zero_le _, fun q hq => ⟨_, rfl, (h.alloc hq).pen_st T .nil fun H w h => ?_⟩⟩
    refine ⟨Nat.zero_le _, fun q hq => ⟨_, rfl, (h.alloc hq).hel_st T .nil fun H w h => ?_⟩⟩
    refine ⟨_, rfl, h.st T { m with term := 0, vote := 0, role := 0, leader := 0, elapsed := 0, beat := 0, ballot := [], active := [], pending := [], held := [], issued := 0 } (i := 18) rfl rfl h.parts h.nm fun H h => ?_⟩
    refine ⟨_, rfl, h.st T m.clear (i := 19) rfl rfl h.parts h.nm fun H h => ?_⟩
    exact k _ _ _ h
abbrev s_Member_start : Stmt := inClass (top 20) 2
theorem sc_Member_start : FnScope ["self"] ["self"] (defScope s_Member_start) := ⟨rfl, rfl, rfl, by decide +kernel, rfl, by decide +kernel, by decide +kernel⟩
def R_start : List V → Hp → Cfg → M → M → Prop := fun xs _ _ m m' => xs = [] ∧ m' = m.start
theorem ok_Member_start {f : Addr} {fd : FuncData} (T : Txt K mg C) (F : Fun K "start" "Member.start" s_Member_start f fd) (D_Member_clear : DfM P w K mg base CX0 1 C.m "clear" ["self"] (spMt C R_clear)) :
    FnOk P w K mg base CX0 2 f fd ["self"] (spMt C R_start) := by
  refine F.ok sc_Member_start (fun vs H Q E h => ?_) (fun cdv A outer s H vs Q E hr h => ?_)
  · obtain ⟨_, _, _, _, _, _, _, _, _, rfl, _, ⟨rfl, _⟩, _⟩ := h
    rfl
  · refine ⟨_, (pss_cons (ps_expr (pe_mth0 (pv 0) T.cl_m D_Member_clear (hr.mono (by decide))))
      (pss_cons (ps_fld (pv 0) pe_bl rfl)
      (pss_one (ps_asg (pe_fld (pv 0) rfl) (pg_tup rfl (pgs_cons (pg_fld (pv 0)) (pgs_cons (pg_fld (pv 0)) pgs_nil))))))), ?_⟩
    obtain ⟨n, w, p, cf, c, m, A, _, _, rfl, h, ⟨rfl, rfl⟩, k⟩ := h
    refine ⟨_, rfl, h.md (by decide +kernel) ⟨n, w, p, cf, c, m, A, [], m.clear, rfl, h, ⟨rfl, rfl⟩, fun H w A h => ?_⟩⟩
    refine ⟨_, rfl, h.st T { m.clear with runs := true } (i := 7) rfl rfl h.parts h.nm fun H h => ?_⟩
    refine ⟨_, rfl, h.rd T (i := 3) rfl rfl ⟨A.sto, _, rfl, .of h.parts.2.1, rfl, _, _, rfl, ?_⟩⟩
    refine ⟨_, rfl, p, C.m, A.dx, _, rfl, h.mb.obj, T.cl_m, T.na_m _ (by decide +kernel), mF_lt, ?_⟩
    have h := h.put (i := 8) (m' := { m.clear with runs := true, term := m.stored.1 }) (A' := A) rfl (by decide +kernel) (by decide) rfl rfl h.parts h.nm
    refine ⟨_, _, rfl, ?_⟩
    refine ⟨_, rfl, p, C.m, A.dx, _, rfl, h.mb.obj, T.cl_m, T.na_m _ (by decide +kernel), mF_lt, ?_⟩
    have h := h.put (i := 9) (m' := m.start) (A' := A) rfl (by decide +kernel) (by decide) rfl rfl h.parts h.nm
    exact ⟨rfl, k _ _ _ h⟩
/-! ### say -/
abbrev s_Member_say : Stmt := inClass (top 20) 6
theorem sc_Member_say : FnScope ["self", "receiver", "kind", "fields", "term"] ["self", "receiver", "kind", "fields", "term"] (defScope s_Member_say) := ⟨rfl, rfl, rfl, by decide +kernel, rfl, by decide +kernel, by decide +kernel⟩
def R_say : List V → Hp → Cfg → M → M → Prop := fun xs H _ m m' => ∃ (r k t : Int) (f : Addr) (fs : List Int), xs = [.int r, .int k, .ref f, .int t] ∧ H f = some (.tup (fs.map V.int)) ∧ fs.length ≤ 100 ∧ m.said.length ≤ 10000 ∧ m' = m.say r k fs t
theorem ok_Member_say {f : Addr} {fd : FuncData} (T : Txt K mg C) (F : Fun K "say" "Member.say" s_Member_say f fd) : FnOk P w K mg base CX0 1 f fd ["self", "receiver", "kind", "fields", "term"] (spMt C R_say) := by
  refine F.ok sc_Member_say (fun vs H Q E h => ?_) (fun cdv A outer s H vs Q E hr h => ?_)
  · obtain ⟨_, _, _, _, _, _, _, _, _, rfl, _, ⟨_, _, _, _, _, rfl, _⟩, _⟩ := h
    rfl
  · refine ⟨_, (pss_one (ps_expr (pe_bm PySem.F.plainAttrs_list PySem.F.slot_list_append PySem.F.type_list_append mt_append (pe_fld (pv 0) rfl) (pa_cons (pe_op op_catA (pe_tup (pa_cons (pe_fld (pv 0) rfl) (pa_cons (pv 1) (pa_cons (pv 4) (pa_cons (pv 2) pa_nil))))) (pv 3)) pa_nil)))), ?_⟩
    obtain ⟨n, w, p, cf, c, m, A, _, _, rfl, h, ⟨r, k', t, f', fs, rfl, hf, lf, ls, rfl⟩, k⟩ := h
    obtain ⟨vs, hvs, hp⟩ := h.sai_l.lst
    have lv : vs.length ≤ 10000 := by rw [hp.length]; exact ls
    refine ⟨_, rfl, h.rd T (i := 4) rfl rfl ⟨.inl ⟨rfl, _, .of hvs⟩, ?_⟩⟩
    refine ⟨_, rfl, h.rd T (i := 0) rfl rfl ⟨_, rfl, _, rfl, _, rfl, ⟨by show 4 ≤ sizeLine; decide, fun q hq => ?_⟩⟩⟩
    have s1 : Same H (upd H q (.tup [.int m.number, .int r, .int t, .int k'])) := same_upd hq
    have hf1 := s1 _ _ hf
    refine ⟨_, rfl, q, f', _, _, rfl, rfl, .of upd_same, .of hf1, by rw [sizeLine_is, List.length_map]; show 4 + _ ≤ _; omega, (fun z => by cases z), (fun _ z => ?_), fun _ z q2 hq2 => ?_⟩
    · have h1 := h.same s1
      have e : fs = [] := by cases fs with | nil => rfl | cons a b => cases z
      subst e
      refine ⟨A.sai, vs, _, rfl, rfl, s1 _ _ hvs, by rw [sizeLine_is]; omega, ?_⟩
      exact k _ _ _ (h1.sai_mu (s1 _ _ hvs) (pr_append (pr_keep (same_tk s1) hp) (.cons ⟨q, rfl, upd_same⟩ .nil)))
    · have s2 := same_trans s1 (same_upd (o := .tup ([.int m.number, .int r, .int t, .int k'] ++ fs.map V.int)) hq2)
      have h1 := h.same s2
      refine ⟨A.sai, vs, _, rfl, rfl, s2 _ _ hvs, by rw [sizeLine_is]; omega, ?_⟩
      exact k _ _ _ (h1.sai_mu (s2 _ _ hvs) (pr_append (pr_keep (same_tk s2) hp) (.cons ⟨q2, rfl, upd_same⟩ .nil)))
/-! ### join -/
abbrev s_Member_join : Stmt := inClass (top 20) 9
theorem sc_Member_join : FnScope ["self", "term", "leader"] ["self", "term", "leader"] (defScope s_Member_join) := ⟨rfl, rfl, rfl, by decide +kernel, rfl, by decide +kernel, by decide +kernel⟩
def R_join : List V → Hp → Cfg → M → M → Prop := fun xs _ _ m m' => ∃ t l : Int, xs = [.int t, .int l] ∧ m' = m.join t l
theorem ok_Member_join {f : Addr} {fd : FuncData} (T : Txt K mg C) (F : Fun K "join" "Member.join" s_Member_join f fd) (D_Member_follow : DfM P w K mg base CX0 1 C.m "follow" ["self", "leader"] (spMt C R_follow)) :
    FnOk P w K mg base CX0 2 f fd ["self", "term", "leader"] (spMt C R_join) := by
  refine F.ok sc_Member_join (fun vs H Q E h => ?_) (fun cdv A outer s H vs Q E hr h => ?_)
  · obtain ⟨_, _, _, _, _, _, _, _, _, rfl, _, ⟨_, _, rfl, _⟩, _⟩ := h
    rfl
  · refine ⟨_, (pss_cons (ps_if (pt_cmpR op_gt (pv 1) (pe_fld (pv 0) rfl) (nomark _))
        (pss_one (ps_fld (pv 0) pe_int rfl))
        pss_nil)
      (pss_cons (ps_fld (pv 0) (pv 1) rfl)
      (pss_one (ps_expr (pe_mth (pv 0) T.cl_m D_Member_follow (hr.mono (by decide)) (pa_cons (pv 2) pa_nil)))))), ?_⟩
    obtain ⟨n, w, p, cf, c, m, A, _, _, rfl, h, ⟨t, l, rfl, rfl⟩, k⟩ := h
    have last : ∀ {H1 w1 A1} (v : Int), At C n H w H1 w1 p cf c { m with vote := v } A1 [] → (∀ H' w' A', At C n H w H' w' p cf c (({ m with vote := v, term := t } : M).follow l) A' [] → Q .non H') →
        tSeq (sFld K (tVar 0) (tVar 1) "term") (tDrop (tMeth C.m "follow" (spMt C R_follow) [] E0 (tVar 0) (tCons (tVar 2) tNil))) { nx := fun _ H' => Q .non H', rt := Q } [some (.ref p), some (.int t), some (.int l)] H1 := by
      intro H1 w1 A1 v h k
      refine ⟨_, rfl, _, rfl, h.st T { m with vote := v, term := t } (i := 8) rfl rfl h.parts h.nm fun H h => ?_⟩
      refine ⟨_, rfl, h.md (by decide +kernel) ⟨_, rfl, n, _, p, cf, c, _, _, [.int l], _, rfl, h.here, ⟨l, rfl, rfl⟩, fun H' w' A' h' => ?_⟩⟩
      exact k _ _ _ (h.then h')
    refine ⟨_, rfl, _, rfl, h.rd T (i := 8) rfl rfl ⟨_, _, rfl, rfl, _, rfl, ?_⟩⟩
    unfold M.join at k
    by_cases e : m.term < t
    · rw [if_pos e] at k
      refine ifT (decide_eq_true e) ?_
      refine ⟨_, rfl, h.st T { m with vote := 0 } (i := 9) rfl rfl h.parts h.nm fun H h => ?_⟩
      exact last 0 h k
    · rw [if_neg e] at k
      exact ifF (decide_eq_false e) <| last m.vote h k
end
end Lp
/-! Part M2. -/
namespace Lp
open PySem PySem.Spec PyProof.Rows L2
section
variable {P : Program} {w : World} {K : PySem.W.Frag} {mg : Str → Option Value} {base : Heap} {C : Cl}
/-! ### stop -/
abbrev s_Member_stop : Stmt := inClass (top 20) 3
theorem sc_Member_stop : FnScope ["self", "count", "kept"] ["self", "count"] (defScope s_Member_stop) := ⟨rfl, rfl, rfl, by decide +kernel, rfl, by decide +kernel, by decide +kernel⟩
def R_stop : List V → Hp → Cfg → M → M → Prop := fun xs _ _ m m' => ∃ k : Int, xs = [.int k] ∧ 0 ≤ k ∧ m' = m.stop k.toNat
theorem ok_Member_stop {f : Addr} {fd : FuncData} (T : Txt K mg C) (F : Fun K "stop" "Member.stop" s_Member_stop f fd) (D_Member_clear : DfM P w K mg base CX0 1 C.m "clear" ["self"] (spMt C R_clear)) :
    FnOk P w K mg base CX0 2 f fd ["self", "count"] (spMt C R_stop) := by
  refine F.ok sc_Member_stop (fun vs H Q E h => ?_) (fun cdv A outer s H vs Q E hr h => ?_)
  · obtain ⟨_, _, _, _, _, _, _, _, _, rfl, _, ⟨_, rfl, _⟩, _⟩ := h
    rfl
  · refine ⟨_, (pss_cons (ps_set (i := 2) sc_Member_stop.nd rfl (Or.inl rfl) (pe_slice sl_list (pe_fld (pv 0) rfl) po_none (po_some (pv 1))))
      (pss_cons (ps_if (pt_truth (pv 2) (by intro _; rfl))
        (pss_one (ps_fld (pv 0) (pe_ix ix_list (pv 2) (pe_un un_neg pe_int) (fun _ _ => rfl)) rfl))
        pss_nil)
      (pss_cons (ps_expr (pe_mth0 (pv 0) T.cl_m D_Member_clear (hr.mono (by decide))))
      (pss_one (ps_fld (pv 0) pe_bl rfl))))), ?_⟩
    obtain ⟨n, w, p, cf, c, m, A, _, _, rfl, h, ⟨z, rfl, hz, rfl⟩, k⟩ := h
    obtain ⟨vs, hvs, hp⟩ := h.pen_l.lst
    refine ⟨_, rfl, h.rd T (i := 16) rfl rfl ⟨_, rfl, _, rfl, A.pen, vs, rfl, .of hvs, fun q hq => ?_⟩⟩
    rw [cutV_take vs hz]
    have h := h.alloc (o := .lst (vs.take z.toNat)) hq
    have hp := pr_take z.toNat (pr_keep (same_tk (same_upd (o := .lst (vs.take z.toNat)) hq)) hp)
    have last : ∀ {H1} (v : Int × Int), At C n H w H1 w p cf c { m with stored := v } A [(q, .lst (vs.take z.toNat))] ∨ (∃ A', At C n H w H1 w p cf c { m with stored := v } A' [(q, .lst (vs.take z.toNat))]) → v = (m.pending.take z.toNat).getLast?.getD m.stored →
        tSeq (tDrop (tMeth C.m "clear" (spMt C R_clear) [] E0 (tVar 0) tNil)) (sFld K (tVar 0) (tC (.bl false)) "runs") { nx := fun _ H' => Q .non H', rt := Q } [some (.ref p), some (.int z), some (.ref q)] H1 := by
      intro H1 v hh e
      obtain ⟨A1, h⟩ : ∃ A', At C n H w H1 w p cf c { m with stored := v } A' [(q, .lst (vs.take z.toNat))] := hh.elim (fun z => ⟨_, z⟩) id
      refine ⟨_, rfl, h.md (by decide +kernel) ⟨n, w, p, cf, c, _, A1, [], _, rfl, h.here, ⟨rfl, rfl⟩, fun H w A h2 => ?_⟩⟩
      have h := h.then h2
      refine ⟨_, rfl, h.st T { ({ m with stored := v } : M).clear with runs := false } (i := 7) rfl rfl h.parts h.nm fun H h => ?_⟩
      have e2 : m.stop z.toNat = { ({ m with stored := v } : M).clear with runs := false } := by rw [e]; rfl
      rw [e2] at k
      exact k _ _ _ h.tail
    refine ⟨_, rfl, _, .inl ⟨_, .of h.head, rfl⟩, ?_⟩
    cases e : (m.pending.take z.toNat).getLast? with
    | none =>
      have e1 : m.pending.take z.toNat = [] := List.getLast?_eq_none_iff.mp e
      have e2 : vs.take z.toNat = [] := by
        have := hp.length
        rw [e1] at this
        exact List.length_eq_zero_iff.mp this
      refine ifF (by rw [e2]; rfl) (last m.stored (.inl h) (by rw [e]; rfl))
    | some y =>
      obtain ⟨ys, ey⟩ := List.getLast?_eq_some_iff.mp e
      obtain ⟨x, hx, r⟩ := pr_get' (i := ys.length) (y := y) hp (by rw [ey]; simp)
      have lx : (vs.take z.toNat).getLast? = some x := by
        rw [List.getLast?_eq_getElem?, hp.length, ey]
        simpa using hx
      have ne : (!(vs.take z.toNat).isEmpty) = true := by
        cases q : vs.take z.toNat with
        | nil => rw [q] at lx; cases lx
        | cons _ _ => rfl
      refine ifT ne ?_
      obtain ⟨t, rfl, ht⟩ := r
      refine ⟨_, rfl, _, rfl, q, _, _, _, rfl, rfl, .of h.head, atI_getLast lx, ?_⟩
      refine ⟨_, rfl, h.wr T (i := 3) rfl ?_⟩
      have hp2 := h.parts
      have h := h.put (i := 3) (m' := { m with stored := y }) (A' := { A with sto := t }) rfl (by decide +kernel) (by decide) rfl rfl ⟨hp2.1, ht, hp2.2.2⟩ h.nm
      exact last y (.inr ⟨_, h⟩) (by rw [e]; rfl)
/-! ### is_reached_by, is_sheltered -/
abbrev s_Member_is_reached_by : Stmt := inClass (top 20) 4
theorem sc_Member_is_reached_by : FnScope ["self", "index", "term"] ["self", "index", "term"] (defScope s_Member_is_reached_by) := ⟨rfl, rfl, rfl, by decide +kernel, rfl, by decide +kernel, by decide +kernel⟩
def R_reached : List V → M → Bool → Prop := fun xs m b => ∃ i t : Int, xs = [.int i, .int t] ∧ b = m.reached i t
theorem ok_Member_is_reached_by {f : Addr} {fd : FuncData} (T : Txt K mg C) (F : Fun K "is_reached_by" "Member.is_reached_by" s_Member_is_reached_by f fd) : FnOk P w K mg base CX0 1 f fd ["self", "index", "term"] (spMb C R_reached) := by
  refine F.ok sc_Member_is_reached_by (fun vs H Q E h => ?_) (fun cdv A outer s H vs Q E hr h => ?_)
  · obtain ⟨_, _, _, _, _, _, _, _, _, rfl, _, ⟨_, _, rfl, _⟩, _⟩ := h
    rfl
  · refine ⟨_, (pss_one (ps_ret (pe_cmpR (op_geT hr.units0) (pe_tup (pa_cons (pv 2) (pa_cons (pv 1) pa_nil))) (pe_tup (pa_cons (pe_ix ix_tup (pe_fld (pv 0) rfl) pe_int (fun _ _ => rfl)) (pa_cons (pe_ix ix_tup (pe_fld (pv 0) rfl) pe_int (fun _ _ => rfl)) pa_nil))) (nomark _)))), ?_⟩
    obtain ⟨n, w, p, cf, c, m, A, _, _, rfl, h, ⟨i, t, rfl, rfl⟩, k⟩ := h
    refine ⟨_, rfl, _, rfl, by show 2 ≤ sizeLine; decide, fun q hq => ?_⟩
    have s1 : Same H (upd H q (.tup [.int t, .int i])) := same_upd hq
    have h1 := h.same s1
    refine ⟨_, rfl, h1.rd T (i := 2) rfl rfl ⟨A.pos, _, _, _, rfl, rfl, .of h1.parts.1, rfl, ?_⟩⟩
    refine ⟨_, rfl, h1.rd T (i := 2) rfl rfl ⟨A.pos, _, _, _, rfl, rfl, .of h1.parts.1, rfl, ?_⟩⟩
    refine ⟨by show 2 ≤ sizeLine; decide, fun q2 hq2 => ?_⟩
    have s2 := same_upd (o := .tup [.int m.position.2, .int m.position.1]) hq2
    refine ⟨q, q2, [t, i], [m.position.2, m.position.1], rfl, rfl, .of (s2 _ _ upd_same), .of upd_same, ?_⟩
    rw [ge_two]
    exact k _ (same_trans s1 s2)
abbrev s_Member_is_sheltered : Stmt := inClass (top 20) 5
theorem sc_Member_is_sheltered : FnScope ["self"] ["self"] (defScope s_Member_is_sheltered) := ⟨rfl, rfl, rfl, by decide +kernel, rfl, by decide +kernel, by decide +kernel⟩
def R_sheltered : List V → M → Bool → Prop := fun xs m b => xs = [] ∧ b = m.sheltered
theorem ok_Member_is_sheltered {f : Addr} {fd : FuncData} (T : Txt K mg C) (F : Fun K "is_sheltered" "Member.is_sheltered" s_Member_is_sheltered f fd) : FnOk P w K mg base CX0 1 f fd ["self"] (spMb C R_sheltered) := by
  refine F.ok sc_Member_is_sheltered (fun vs H Q E h => ?_) (fun cdv A outer s H vs Q E hr h => ?_)
  · obtain ⟨_, _, _, _, _, _, _, _, _, rfl, _, ⟨rfl, _⟩, _⟩ := h
    rfl
  · refine ⟨_, (pss_one (ps_ret (pe_and (pe_cmpR op_ne (pe_fld (pv 0) rfl) pe_int (nomark _)) (pe_one (pe_cmpR op_lt (pe_fld (pv 0) rfl) (pe_const rfl T.k_ELECTION_TICKS) (nomark _)))))), ?_⟩
    obtain ⟨n, w, p, cf, c, m, A, _, _, rfl, h, ⟨rfl, rfl⟩, k⟩ := h
    refine ⟨_, rfl, h.rd T (i := 11) rfl rfl ⟨rfl, _, rfl, ?_⟩⟩
    have k := k H (same_refl _)
    unfold M.sheltered at k
    rw [vint_eq]
    cases e : decide (m.leader = 0) with
    | true =>
      rw [e] at k
      exact k
    | false =>
      rw [e] at k
      exact ⟨_, rfl, h.rd T (i := 12) rfl rfl ⟨_, _, rfl, rfl, k⟩⟩
/-! ### end_input -/
abbrev s_Member_end_input : Stmt := inClass (top 20) 7
theorem sc_Member_end_input : FnScope ["self", "before", "message"] ["self", "before"] (defScope s_Member_end_input) := ⟨rfl, rfl, rfl, by decide +kernel, rfl, by decide +kernel, by decide +kernel⟩
def R_endInput : List V → Hp → Cfg → M → M → Prop := fun xs H _ m m' => ∃ (b : Addr) (y : Int × Int), xs = [.ref b] ∧ H b = some (.tup [.int y.1, .int y.2]) ∧ m.pending.length ≤ 10000000 ∧ m.held.length + m.said.length ≤ 16000000 ∧ m.leaving.length + m.said.length ≤ 16000000 ∧ m' = m.endInput y
theorem ok_Member_end_input {f : Addr} {fd : FuncData} (T : Txt K mg C) (F : Fun K "end_input" "Member.end_input" s_Member_end_input f fd) : FnOk P w K mg base CX0 1 f fd ["self", "before"] (spMt C R_endInput) := by
  refine F.ok sc_Member_end_input (fun vs H Q E h => ?_) (fun cdv A outer s H vs Q E hr h => ?_)
  · obtain ⟨_, _, _, _, _, _, _, _, _, rfl, _, ⟨_, _, rfl, _⟩, _⟩ := h
    rfl
  · refine ⟨_, (pss_cons (ps_if (pt_cmpR (op_neD hr.units) (pe_tup (pa_cons (pe_fld (pv 0) rfl) (pa_cons (pe_fld (pv 0) rfl) pa_nil))) (pv 1) (nomark _))
        (pss_cons (ps_expr (pe_bm PySem.F.plainAttrs_list PySem.F.slot_list_append PySem.F.type_list_append mt_append (pe_fld (pv 0) rfl) (pa_cons (pe_tup (pa_cons (pe_fld (pv 0) rfl) (pa_cons (pe_fld (pv 0) rfl) pa_nil))) pa_nil)))
      (pss_one (ps_fldaug (pv 0) pe_int in_add)))
        pss_nil)
      (pss_cons (ps_if (pt_truth (pe_fld (pv 0) rfl) (by intro _; rfl))
        (pss_one (ps_expr (pe_bm PySem.F.plainAttrs_list PySem.F.slot_list_extend PySem.F.type_list_extend mt_extend (pe_fld (pv 0) rfl) (pa_cons (pe_lc (own := [("message", 2)]) (g := gName 2) rfl sc_Member_end_input.nd (pi_list (pe_fld (pv 0) rfl)) (blkOk_by (N := ["self", "before", "message"]) (sc := defScope s_Member_end_input) (by decide +kernel)) (fun _ _ _ _ _ => pg_name (i := 2) sc_Member_end_input.nd rfl (Or.inl rfl)) (fun _ _ _ _ _ => pts_nil) (fun _ _ _ _ _ => (pe_tup (pa_cons (pe_fldK K rfl (pv 0) rfl) (pa_cons (pv 2) pa_nil))))) pa_nil))))
        (pss_one (ps_expr (pe_bm PySem.F.plainAttrs_list PySem.F.slot_list_extend PySem.F.type_list_extend mt_extend (pe_fld (pv 0) rfl) (pa_cons (pe_fld (pv 0) rfl) pa_nil)))))
      (pss_one (ps_fld (pv 0) (pe_lst pa_nil) rfl)))), ?_⟩
    obtain ⟨n, w, p, cf, c, m, A, _, _, rfl, h, ⟨b, y, rfl, hb, lp, lh, ll, rfl⟩, k⟩ := h
    -- the second half, from any record v
    have half : ∀ {H1 w1 A1} (v : M), At C n H w H1 w1 p cf c v A1 [] → v.held.length + v.said.length ≤ 16000000 → v.leaving.length + v.said.length ≤ 16000000 → (∀ H' w' A', At C n H w H' w' p cf c { v.given with said := [] } A' [] → Q .non H') → ∀ t : TS, (∀ D σ H, t D σ H = tSeq (tIfS (fun σ H Q => tFld K (tVar 0) "pending" σ H fun x H' => ∃ k, TruV K x H' k ∧ Q k H')
          (tDrop (tBM K "list" rExtend (tFld K (tVar 0) "held") (tCons (tLc (iList K (tFld K (tVar 0) "said")) (gName 2) tYes (tTup (tCons (tFld K (tVar 0) "issued") (tCons (tVar 2) tNil))) [2]) tNil)))
          (tDrop (tBM K "list" rExtend (tFld K (tVar 0) "leaving") (tCons (tFld K (tVar 0) "said") tNil)))) (sFld K (tVar 0) (tLst tNil) "said") D σ H) →
        t { nx := fun _ H' => Q .non H', rt := Q } [some (.ref p), some (.ref b), none] H1 := by
      intro H1 w1 A1 v h lh ll k t ht
      rw [ht]
      obtain ⟨ps, hps, rps⟩ := h.pen_l.lst
      obtain ⟨ss, hss, rss⟩ := h.sai_l.lst
      have fin : ∀ {H2 w2 A2} (u : M), At C n H w H2 w2 p cf c u A2 [] → ({ u with said := [] } : M) = { v.given with said := [] } → sFld K (tVar 0) (tLst tNil) "said" { nx := fun _ H' => Q .non H', rt := Q } [some (.ref p), some (.ref b), none] H2 := by
        intro H2 w2 A2 u h e
        refine ⟨Nat.zero_le _, fun q hq => ⟨_, rfl, (h.alloc hq).sai_st T .nil fun H w h => ?_⟩⟩
        rw [e] at h
        exact k _ _ _ h
      refine ⟨_, rfl, h.rd T (i := 16) rfl rfl ⟨_, .inl ⟨_, .of hps, rfl⟩, ?_⟩⟩
      unfold M.given at fin
      have en : ps.isEmpty = v.pending.isEmpty := by
        have := rps.length
        cases ps <;> cases q : v.pending <;> first | rfl | (rw [q] at this; cases this)
      rw [en]
      cases e : v.pending.isEmpty with
      | true =>
        rw [e, if_pos rfl] at fin
        refine ifF rfl ?_
        obtain ⟨ls, hls, rls⟩ := h.lea_l.lst
        refine ⟨_, rfl, h.rd T (i := 5) rfl rfl ⟨.inl ⟨rfl, _, .of hls⟩, ?_⟩⟩
        refine ⟨_, rfl, h.rd T (i := 4) rfl rfl ⟨A1.lea, A1.sai, ls, ss, rfl, rfl, hls, hss, by rw [rls.length, rss.length, sizeLine_is]; omega, ?_⟩⟩
        exact fin _ (h.lea_mu hls (pr_append rls rss)) rfl
      | false =>
        rw [e, if_neg Bool.false_ne_true] at fin
        refine ifT rfl ?_
        obtain ⟨hs, hhs, rhs⟩ := h.hel_l.lst
        refine ⟨_, rfl, h.rd T (i := 17) rfl rfl ⟨.inl ⟨rfl, _, .of hhs⟩, ?_⟩⟩
        refine ⟨_, rfl, h.rd T (i := 4) rfl rfl ⟨A1.sai, rfl, ⟨_, .of hss⟩, fun D hD => lc_list (K := K) (a := A1.sai) (xs := ss) (fun i H' => LcInv rHeld H1 D (outF (fun _ => true) (fun r => (v.issued, r)) v.said i) H') (LcInv.zero hD) (fun i H' _ h => h.src hss) (fun i x H' hx hi => ?_) (fun H' hi => ?_)⟩⟩
        · obtain ⟨r, hr, t, rfl, ht⟩ := pr_get rss hx
          have h2 := h.same hi.1
          refine ⟨rfl, ⟨_, rfl, h2.rd T (i := 18) rfl rfl ⟨_, rfl, by show 2 ≤ sizeLine; decide, fun q hq => ?_⟩⟩⟩
          rw [outF_yes hr rfl]
          exact hi.add hD (same_upd hq) (by have := outF_lt (p := fun _ => true) (f := fun r => (v.issued, r)) hr; rw [sizeLine_is]; omega) ⟨q, t, rfl, upd_same, same_upd hq _ _ (hi.1 _ _ ht)⟩
        · rw [rss.length, outF_all] at hi
          obtain ⟨s1, acc, hacc, racc⟩ := hi
          have e3 : (v.said.filter fun _ => true) = v.said := List.filter_eq_self.mpr fun _ _ => rfl
          rw [e3] at racc
          have h2 := h.same s1
          refine ⟨A1.hel, D, hs, acc, rfl, rfl, s1 _ _ hhs, hacc, by rw [rhs.length, racc.length, List.length_map, sizeLine_is]; omega, ?_⟩
          exact fin _ (h2.hel_mu (s1 _ _ hhs) (pr_append (pr_keep (same_tk s1) rhs) racc)) rfl
    -- the first half
    refine ⟨_, rfl, h.rd T (i := 8) rfl rfl ⟨_, rfl, h.rd T (i := 9) rfl rfl ⟨by show 2 ≤ sizeLine; decide, fun q hq => ?_⟩⟩⟩
    have s1 : Same H (upd H q (.tup [.int m.term, .int m.vote])) := same_upd hq
    have h1 := h.same s1
    refine ⟨_, rfl, ne_pairs (x := (m.term, m.vote)) (y := y) (.of upd_same) (.of (s1 _ _ hb)) ⟨_, rfl, ?_⟩⟩
    unfold M.endInput M.noted at k
    by_cases e : (m.term, m.vote) = y
    · rw [if_pos e] at k
      rw [decide_eq_true e]
      refine ifF rfl ?_
      exact half m h1 lh ll k _ (fun _ _ _ => rfl)
    · rw [if_neg e] at k
      rw [decide_eq_false e]
      refine ifT rfl ?_
      obtain ⟨ps, hps, rps⟩ := h1.pen_l.lst
      refine ⟨_, rfl, h1.rd T (i := 16) rfl rfl ⟨.inl ⟨rfl, _, .of hps⟩, ?_⟩⟩
      refine ⟨_, rfl, h1.rd T (i := 8) rfl rfl ⟨_, rfl, h1.rd T (i := 9) rfl rfl ⟨by show 2 ≤ sizeLine; decide, fun q2 hq2 => ?_⟩⟩⟩
      have s2 : Same (upd H q (.tup [.int m.term, .int m.vote])) (upd (upd H q (.tup [.int m.term, .int m.vote])) q2 (.tup [.int m.term, .int m.vote])) := same_upd hq2
      have h2 := h1.same s2
      refine ⟨A.pen, ps, _, rfl, rfl, s2 _ _ hps, by rw [rps.length, sizeLine_is]; omega, ?_⟩
      have h3 := h2.pen_mu (xs := m.pending ++ [(m.term, m.vote)]) (s2 _ _ hps) (pr_append (pr_keep (same_tk s2) rps) (.cons ⟨q2, rfl, upd_same⟩ .nil))
      refine ⟨_, rfl, h3.aug T { m with pending := m.pending ++ [(m.term, m.vote)], issued := m.issued + 1 } (i := 18) rfl rfl rfl h3.parts h3.nm (fun R r => ⟨_, _, rfl, rfl, r⟩) fun H' h4 => ?_⟩
      exact half _ h4 lh ll k _ (fun _ _ _ => rfl)
end
end Lp
/-! Part M3: campaigns. -/
namespace Lp
open PySem PySem.Spec PyProof.Rows L2
section
variable {P : Program} {w : World} {K : PySem.W.Frag} {mg : Str → Option Value} {base : Heap} {C : Cl}
/-! ### say_heartbeats -/
abbrev s_Member_say_heartbeats : Stmt := inClass (top 20) 10
theorem sc_Member_say_heartbeats : FnScope ["self", "other"] ["self"] (defScope s_Member_say_heartbeats) := ⟨rfl, rfl, rfl, by decide +kernel, rfl, by decide +kernel, by decide +kernel⟩
def R_heartbeats : List V → Hp → Cfg → M → M → Prop := fun xs _ c m m' => xs = [] ∧ CfgOk c ∧ m.said.length ≤ 5000 ∧ m' = m.sayHeartbeats c
theorem ok_Member_say_heartbeats {f : Addr} {fd : FuncData} (T : Txt K mg C) (F : Fun K "say_heartbeats" "Member.say_heartbeats" s_Member_say_heartbeats f fd)
    (D_Member_say : DfM P w K mg base CX0 1 C.m "say" ["self", "receiver", "kind", "fields", "term"] (spMt C R_say)) (D_Configuration_others : DfM P w K mg base CX0 1 C.c "others" ["self", "number"] (spIs (R_others C))) :
    FnOk P w K mg base CX0 2 f fd ["self"] (spMt C R_heartbeats) := by
  refine F.ok sc_Member_say_heartbeats (fun vs H Q E h => ?_) (fun cdv A outer s H vs Q E hr h => ?_)
  · obtain ⟨_, _, _, _, _, _, _, _, _, rfl, _, ⟨rfl, _⟩, _⟩ := h
    rfl
  · refine ⟨_, (pss_one (ps_for PassesOwn.never rfl (pi_list (pe_mth (pe_fld (pv 0) rfl) T.cl_c D_Configuration_others (hr.mono (by decide)) (pa_cons (pe_fld (pv 0) rfl) pa_nil))) (pg_name (i := 1) sc_Member_say_heartbeats.nd rfl (Or.inl rfl))
        (pss_one (ps_expr (pe_mth (pv 0) T.cl_m D_Member_say (hr.mono (by decide)) (pa_cons (pv 1) (pa_cons (pe_const rfl T.k_HEARTBEAT) (pa_cons (pe_tup pa_nil) (pa_cons (pe_fld (pv 0) rfl) pa_nil))))))))), ?_⟩
    obtain ⟨n, w, p, cf, c, m, A, _, _, rfl, h, ⟨rfl, hc, ls, rfl⟩, k⟩ := h
    have lo := others_le hc m.number
    refine ⟨_, rfl, h.rd T (i := 1) rfl rfl (h.cf.md (by decide +kernel) ?_)⟩
    refine ⟨_, rfl, h.rd T (i := 0) rfl rfl ⟨c.others m.number, ⟨w, cf, c, _, rfl, h.cf, hc.all, rfl⟩, fun H1 q s1 hq hq1 => ?_⟩⟩
    have h1 := h.got s1 hq hq1
    refine ⟨q, rfl, ⟨_, .of hq1⟩, for_list (K := K) (a := q) (xs := (c.others m.number).map V.int) (fun i σ H' => ∃ v w' A', σ = [some (.ref p), v] ∧ At C n H w H' w' p cf c (m.sayAll ((c.others m.number).take i) 5 [] m.term) A' [(q, .lst ((c.others m.number).map V.int))])
      ⟨none, _, _, rfl, by rw [List.take_zero, sayAll_nil]; exact h1⟩ (fun i σ H' _ ⟨_, _, _, _, h⟩ => .of h.head) ?_ ?_⟩
    · rintro i x σ H' hx ⟨v, w', A', rfl, h⟩
      obtain ⟨z, hz, rfl⟩ := int_at hx
      refine ⟨_, rfl, h.md (by decide +kernel) ⟨_, rfl, by show 0 ≤ sizeLine; decide, fun e he => ?_⟩⟩
      have h := h.same (same_upd (o := .tup []) he)
      refine ⟨_, rfl, h.rd T (i := 8) rfl rfl ⟨n, w', p, cf, c, _, A', _, _, rfl, h.here, ⟨z, 5, m.term, e, [], rfl, upd_same, by decide, ?_, rfl⟩, fun H2 w2 A2 h2 => ?_⟩⟩
      · rw [sayAll_len, List.length_take]; omega
      · have h3 := h.then h2
        rw [sayAll_snoc, ← take_more hz] at h3
        exact ⟨_, _, _, rfl, h3⟩
    · rintro σ H' ⟨v, w', A', rfl, h⟩
      rw [List.length_map, List.take_length] at h
      exact k _ _ _ h.tail
/-! ### begin_vote -/
abbrev s_Member_begin_vote : Stmt := inClass (top 20) 12
theorem sc_Member_begin_vote : FnScope ["self", "handover", "other"] ["self", "handover"] (defScope s_Member_begin_vote) := ⟨rfl, rfl, rfl, by decide +kernel, rfl, by decide +kernel, by decide +kernel⟩
def R_beginVote : List V → Hp → Cfg → M → M → Prop := fun xs _ c m m' => ∃ hd : Int, xs = [.int hd] ∧ CfgOk c ∧ m.said.length ≤ 5000 ∧ m' = m.beginVote c hd
theorem ok_Member_begin_vote {f : Addr} {fd : FuncData} (T : Txt K mg C) (F : Fun K "begin_vote" "Member.begin_vote" s_Member_begin_vote f fd)
    (D_Member_say : DfM P w K mg base CX0 1 C.m "say" ["self", "receiver", "kind", "fields", "term"] (spMt C R_say)) (D_Member_follow : DfM P w K mg base CX0 1 C.m "follow" ["self", "leader"] (spMt C R_follow))
    (D_Configuration_other_voters : DfM P w K mg base CX0 2 C.c "other_voters" ["self", "number"] (spIs (R_otherVoters C))) :
    FnOk P w K mg base CX0 3 f fd ["self", "handover"] (spMt C R_beginVote) := by
  refine F.ok sc_Member_begin_vote (fun vs H Q E h => ?_) (fun cdv A outer s H vs Q E hr h => ?_)
  · obtain ⟨_, _, _, _, _, _, _, _, _, rfl, _, ⟨_, rfl, _⟩, _⟩ := h
    rfl
  · refine ⟨_, (pss_cons (ps_expr (pe_mth (pv 0) T.cl_m D_Member_follow (hr.mono (by decide)) (pa_cons pe_int pa_nil)))
      (pss_cons (ps_fldaug (pv 0) pe_int in_add)
      (pss_cons (ps_fld (pv 0) (pe_fld (pv 0) rfl) rfl)
      (pss_cons (ps_fld (pv 0) (pe_const rfl T.k_CANDIDATE) rfl)
      (pss_one (ps_for PassesOwn.never rfl (pi_list (pe_mth (pe_fld (pv 0) rfl) T.cl_c D_Configuration_other_voters (hr.mono (by decide)) (pa_cons (pe_fld (pv 0) rfl) pa_nil))) (pg_name (i := 2) sc_Member_begin_vote.nd rfl (Or.inl rfl))
        (pss_one (ps_expr (pe_mth (pv 0) T.cl_m D_Member_say (hr.mono (by decide)) (pa_cons (pv 2) (pa_cons (pe_const rfl T.k_VOTE) (pa_cons (pe_op op_catA (pe_fld (pv 0) rfl) (pe_tup (pa_cons (pv 1) pa_nil))) (pa_cons (pe_fld (pv 0) rfl) pa_nil))))))))))))), ?_⟩
    obtain ⟨n, w, p, cf, c, m, A, _, _, rfl, h, ⟨hd, rfl, hc, ls, rfl⟩, k⟩ := h
    refine ⟨_, rfl, h.md (by decide +kernel) ⟨n, w, p, cf, c, m, A, _, _, rfl, h, ⟨0, rfl, rfl⟩, fun H1 w1 A1 h => ?_⟩⟩
    refine ⟨_, rfl, h.aug T { m.follow 0 with term := m.term + 1 } (i := 8) rfl rfl rfl h.parts h.nm (fun R r => ⟨_, _, rfl, rfl, r⟩) fun H2 h => ?_⟩
    refine ⟨_, rfl, h.rd T (i := 0) rfl rfl ⟨_, rfl, h.st T { m.follow 0 with term := m.term + 1, vote := m.number } (i := 9) rfl rfl h.parts h.nm fun H3 h => ?_⟩⟩
    refine ⟨_, rfl, h.st T { m.follow 0 with term := m.term + 1, vote := m.number, role := 2 } (i := 10) rfl rfl h.parts h.nm fun H4 h => ?_⟩
    have k : ∀ H' w' A', At C n H w H' w' p cf c (({ m.follow 0 with term := m.term + 1, vote := m.number, role := 2 } : M).askVotes c hd) A' [] → Q .non H' := k
    have ls : ({ m.follow 0 with term := m.term + 1, vote := m.number, role := 2 } : M).said.length ≤ 5000 := ls
    revert k ls h
    generalize ({ m.follow 0 with term := m.term + 1, vote := m.number, role := 2 } : M) = v
    intro h k ls
    have lo := otherVoters_le hc v.number
    refine ⟨_, rfl, h.rd T (i := 1) rfl rfl (h.cf.md (by decide +kernel) ?_)⟩
    refine ⟨_, rfl, h.rd T (i := 0) rfl rfl ⟨c.otherVoters v.number, ⟨_, cf, c, _, rfl, h.cf, hc.all, rfl⟩, fun H5 q s1 hq hq1 => ?_⟩⟩
    have h1 := h.got s1 hq hq1
    refine ⟨q, rfl, ⟨_, .of hq1⟩, for_list (K := K) (a := q) (xs := (c.otherVoters v.number).map V.int) (fun i σ H' => ∃ x w' A', σ = [some (.ref p), some (.int hd), x] ∧ At C n H w H' w' p cf c (v.sayAll ((c.otherVoters v.number).take i) 3 [v.position.1, v.position.2, hd] v.term) A' [(q, .lst ((c.otherVoters v.number).map V.int))])
      ⟨none, _, _, rfl, by rw [List.take_zero, sayAll_nil]; exact h1⟩ (fun i σ H' _ ⟨_, _, _, _, h⟩ => .of h.head) ?_ ?_⟩
    · rintro i x σ H' hx ⟨x0, w', A', rfl, h⟩
      obtain ⟨z, hz, rfl⟩ := int_at hx
      refine ⟨_, rfl, h.md (by decide +kernel) ⟨_, rfl, ⟨_, rfl, h.rd T (i := 2) rfl rfl ⟨_, rfl, by show 1 ≤ sizeLine; decide, fun e he => ?_⟩⟩⟩⟩
      have se := same_upd (o := .tup [.int hd]) he
      have h := h.same se
      refine ⟨A'.pos, e, _, _, rfl, rfl, .of h.parts.1, .of upd_same, by show 3 ≤ sizeLine; decide, (fun z => by cases z), (fun _ z => by cases z), fun _ _ e2 he2 => ?_⟩
      have h := h.same (same_upd (o := .tup ([.int v.position.1, .int v.position.2] ++ [.int hd])) he2)
      refine ⟨_, rfl, h.rd T (i := 8) rfl rfl ⟨n, w', p, cf, c, _, A', _, _, rfl, h.here, ⟨z, 3, v.term, e2, [v.position.1, v.position.2, hd], rfl, upd_same, by show 3 ≤ 100; decide, ?_, rfl⟩, fun H2 w2 A2 h2 => ?_⟩⟩
      · rw [sayAll_len, List.length_take]; omega
      · have h3 := h.then h2
        rw [sayAll_snoc, ← take_more hz] at h3
        exact ⟨_, _, _, rfl, h3⟩
    · rintro σ H' ⟨x, w', A', rfl, h⟩
      rw [List.length_map, List.take_length] at h
      exact k _ _ _ h.tail
/-! ### begin_lead -/
abbrev s_Member_begin_lead : Stmt := inClass (top 20) 13
theorem sc_Member_begin_lead : FnScope ["self"] ["self"] (defScope s_Member_begin_lead) := ⟨rfl, rfl, rfl, by decide +kernel, rfl, by decide +kernel, by decide +kernel⟩
def R_beginLead : List V → Hp → Cfg → M → M → Prop := fun xs _ c m m' => xs = [] ∧ CfgOk c ∧ m.said.length ≤ 5000 ∧ m.elections.length ≤ 5000 ∧ m' = m.beginLead c
theorem ok_Member_begin_lead {f : Addr} {fd : FuncData} (T : Txt K mg C) (F : Fun K "begin_lead" "Member.begin_lead" s_Member_begin_lead f fd)
    (D_Member_follow : DfM P w K mg base CX0 1 C.m "follow" ["self", "leader"] (spMt C R_follow)) (D_Member_say_heartbeats : DfM P w K mg base CX0 2 C.m "say_heartbeats" ["self"] (spMt C R_heartbeats)) :
    FnOk P w K mg base CX0 3 f fd ["self"] (spMt C R_beginLead) := by
  refine F.ok sc_Member_begin_lead (fun vs H Q E h => ?_) (fun cdv A outer s H vs Q E hr h => ?_)
  · obtain ⟨_, _, _, _, _, _, _, _, _, rfl, _, ⟨rfl, _⟩, _⟩ := h
    rfl
  · refine ⟨_, (pss_cons (ps_expr (pe_mth (pv 0) T.cl_m D_Member_follow (hr.mono (by decide)) (pa_cons (pe_fld (pv 0) rfl) pa_nil)))
      (pss_cons (ps_fld (pv 0) (pe_const rfl T.k_LEADER) rfl)
      (pss_cons (ps_expr (pe_bm PySem.F.plainAttrs_list PySem.F.slot_list_append PySem.F.type_list_append mt_append (pe_fld (pv 0) rfl) (pa_cons (pe_tup (pa_cons (pe_fld (pv 0) rfl) (pa_cons (pe_fld (pv 0) rfl) pa_nil))) pa_nil)))
      (pss_one (ps_expr (pe_mth0 (pv 0) T.cl_m D_Member_say_heartbeats (hr.mono (by decide)))))))), ?_⟩
    obtain ⟨n, w, p, cf, c, m, A, _, _, rfl, h, ⟨rfl, hc, ls, le, rfl⟩, k⟩ := h
    refine ⟨_, rfl, h.md (by decide +kernel) ⟨_, rfl, h.rd T (i := 0) rfl rfl ⟨n, w, p, cf, c, m, A, _, _, rfl, h, ⟨m.number, rfl, rfl⟩, fun H1 w1 A1 h => ?_⟩⟩⟩
    refine ⟨_, rfl, h.st T { m.follow m.number with role := 3 } (i := 10) rfl rfl h.parts h.nm fun H2 h => ?_⟩
    obtain ⟨es, hes, res⟩ := h.ele_l.lst
    refine ⟨_, rfl, h.rd T (i := 6) rfl rfl ⟨.inl ⟨rfl, _, .of hes⟩, ?_⟩⟩
    refine ⟨_, rfl, h.rd T (i := 8) rfl rfl ⟨_, rfl, h.rd T (i := 0) rfl rfl ⟨by show 2 ≤ sizeLine; decide, fun q hq => ?_⟩⟩⟩
    have s1 := same_upd (o := .tup [.int m.term, .int m.number]) hq
    have h1 := h.same s1
    refine ⟨A1.ele, es, _, rfl, rfl, s1 _ _ hes, by rw [res.length, sizeLine_is]; show m.elections.length < _; omega, ?_⟩
    have h2 := h1.ele_mu (xs := m.elections ++ [(m.term, m.number)]) (s1 _ _ hes) (pr_append (pr_keep (same_tk s1) res) (.cons ⟨q, rfl, upd_same⟩ .nil))
    refine ⟨_, rfl, h2.md (by decide +kernel) ⟨n, _, p, cf, c, _, A1, _, _, rfl, h2.here, ⟨rfl, hc, ls, rfl⟩, fun H3 w3 A3 h3 => ?_⟩⟩
    exact k _ _ _ (h2.then h3)
/-! ### decide -/
abbrev s_Member_decide : Stmt := inClass (top 20) 15
theorem sc_Member_decide : FnScope ["self", "noes", "number", "is_yes", "one"] ["self"] (defScope s_Member_decide) := ⟨rfl, rfl, rfl, by decide +kernel, rfl, by decide +kernel, by decide +kernel⟩
def R_decide : List V → Hp → Cfg → M → M → Prop := fun xs _ c m m' => xs = [] ∧ CfgOk c ∧ m.said.length ≤ 4000 ∧ m.elections.length ≤ 4000 ∧ m.ballot.length ≤ 10000000 ∧ m' = m.decide c
theorem ok_Member_decide {f : Addr} {fd : FuncData} (T : Txt K mg C) (F : Fun K "decide" "Member.decide" s_Member_decide f fd)
    (D_Member_follow : DfM P w K mg base CX0 1 C.m "follow" ["self", "leader"] (spMt C R_follow)) (D_Member_begin_lead : DfM P w K mg base CX0 3 C.m "begin_lead" ["self"] (spMt C R_beginLead))
    (D_Member_begin_vote : DfM P w K mg base CX0 3 C.m "begin_vote" ["self", "handover"] (spMt C R_beginVote)) (D_Configuration_is_quorum : DfM P w K mg base CX0 2 C.c "is_quorum" ["self", "members"] (spBl (R_quorum K C))) :
    FnOk P w K mg base CX0 4 f fd ["self"] (spMt C R_decide) := by
  refine F.ok sc_Member_decide (fun vs H Q E h => ?_) (fun cdv A outer s H vs Q E hr h => ?_)
  · obtain ⟨_, _, _, _, _, _, _, _, _, rfl, _, ⟨rfl, _⟩, _⟩ := h
    rfl
  · refine ⟨_, (pss_cons (ps_set (i := 1) sc_Member_decide.nd rfl (Or.inr rfl) (pe_lc (own := [("number", 2), ("is_yes", 3)]) (g := gTup K 2 (gCons (gName 2) (gCons (gName 3) gNil))) rfl sc_Member_decide.nd (pi_list (pe_fld (pv 0) rfl)) (blkOk_by (N := ["self", "noes", "number", "is_yes", "one"]) (sc := defScope s_Member_decide) (by decide +kernel)) (fun _ _ _ _ _ => pg_tup rfl (pgs_cons (pg_name (i := 2) sc_Member_decide.nd rfl (Or.inl rfl)) (pgs_cons (pg_name (i := 3) sc_Member_decide.nd rfl (Or.inl rfl)) pgs_nil))) (fun _ _ _ _ _ => pts_one (pt_not (pt_val (pv 3)))) (fun _ _ _ _ _ => (pv 2))))
      (pss_one (ps_if (pt_val (pe_mth (pe_fld (pv 0) rfl) T.cl_c D_Configuration_is_quorum (hr.mono (by decide)) (pa_cons (pe_lc (own := [("number", 2), ("is_yes", 3)]) (g := gTup K 2 (gCons (gName 2) (gCons (gName 3) gNil))) rfl sc_Member_decide.nd (pi_list (pe_fld (pv 0) rfl)) (blkOk_by (N := ["self", "noes", "number", "is_yes", "one"]) (sc := defScope s_Member_decide) (by decide +kernel)) (fun _ _ _ _ _ => pg_tup rfl (pgs_cons (pg_name (i := 2) sc_Member_decide.nd rfl (Or.inl rfl)) (pgs_cons (pg_name (i := 3) sc_Member_decide.nd rfl (Or.inl rfl)) pgs_nil))) (fun _ _ _ _ _ => pts_one (pt_val (pv 3))) (fun _ _ _ _ _ => (pv 2))) pa_nil)))
        (pss_one (ps_if (pt_cmpR op_eq (pe_fld (pv 0) rfl) (pe_const rfl T.k_ASKING) (nomark _))
        (pss_one (ps_expr (pe_mth (pv 0) T.cl_m D_Member_begin_vote (hr.mono (by decide)) (pa_cons pe_int pa_nil))))
        (pss_one (ps_expr (pe_mth0 (pv 0) T.cl_m D_Member_begin_lead (hr.mono (by decide)))))))
        (pss_one (ps_if (pt_not (pt_val (pe_mth (pe_fld (pv 0) rfl) T.cl_c D_Configuration_is_quorum (hr.mono (by decide)) (pa_cons (pe_lc (own := [("one", 4)]) (g := gName 4) rfl sc_Member_decide.nd (pi_list (pe_fld (pe_fld (pv 0) rfl) rfl)) (blkOk_by (N := ["self", "noes", "number", "is_yes", "one"]) (sc := defScope s_Member_decide) (by decide +kernel)) (fun _ _ _ _ _ => pg_name (i := 4) sc_Member_decide.nd rfl (Or.inl rfl)) (fun _ _ _ _ _ => pts_one (pt_cmpR (op_notIn_seqK K rfl) (pv 4) (pv 1) (by rfl))) (fun _ _ _ _ _ => (pv 4))) pa_nil))))
        (pss_one (ps_expr (pe_mth (pv 0) T.cl_m D_Member_follow (hr.mono (by decide)) (pa_cons pe_int pa_nil))))
        pss_nil))))), ?_⟩
    obtain ⟨n, w, p, cf, c, m, A, _, _, rfl, h, ⟨rfl, hc, ls, le, lb, rfl⟩, k⟩ := h
    obtain ⟨bs, hbs, rbs⟩ := h.bal_l.lst
    -- noes = [number for number, is_yes in self.ballot if not is_yes]
    refine ⟨_, rfl, h.rd T (i := 14) rfl rfl ⟨A.bal, rfl, ⟨_, .of hbs⟩, fun D hD => lc_list (K := K) (a := A.bal) (xs := bs) (fun i H' => LcInv rInt H D (outF (fun b => !b.2) (fun b => b.1) m.ballot i) H') (LcInv.zero hD) (fun i H' _ h => h.src hbs) (fun i x H' hx hi => ?_) (fun H1 hi => ?_)⟩⟩
    · obtain ⟨b, hb, t, rfl, ht⟩ := pr_get rbs hx
      refine ⟨t, _, rfl, .of (hi.1 _ _ ht), rfl, _, _, rfl, _, _, rfl, rfl, rfl, _, rfl, _, rfl, ?_⟩
      cases e : b.2 with
      | true =>
        rw [outF_no hb (by rw [e]; rfl)]
        exact ifF rfl hi
      | false =>
        rw [outF_yes hb (by rw [e]; rfl)]
        exact ifT rfl ⟨_, rfl, hi.add hD (same_refl _) (by have := outF_lt (p := fun b : Int × Bool => !b.2) (f := fun b => b.1) hb; rw [sizeLine_is]; omega) rfl⟩
    rw [rbs.length, outF_all] at hi
    obtain ⟨s1, acc, hacc, racc⟩ := hi
    have eacc := pr_ints racc
    subst eacc
    have h1 := h.got s1 hD hacc
    have hbs1 := s1 _ _ hbs
    have rbs1 := pr_keep (same_tk s1) rbs
    -- the yes ones
    refine ⟨_, rfl, h1.rd T (i := 1) rfl rfl (h1.cf.md (by decide +kernel) ?_)⟩
    refine ⟨_, rfl, h1.rd T (i := 14) rfl rfl ⟨A.bal, rfl, ⟨_, .of hbs1⟩, fun D2 hD2 => lc_list (K := K) (a := A.bal) (xs := bs) (fun i H' => LcInv rInt H1 D2 (outF (fun b => b.2) (fun b => b.1) m.ballot i) H') (LcInv.zero hD2) (fun i H' _ h => h.src hbs1) (fun i x H' hx hi => ?_) (fun H2 hi => ?_)⟩⟩
    · obtain ⟨b, hb, t, rfl, ht⟩ := pr_get rbs1 hx
      refine ⟨t, _, rfl, .of (hi.1 _ _ ht), rfl, _, _, rfl, _, _, rfl, rfl, rfl, _, rfl, _, rfl, ?_⟩
      cases e : b.2 with
      | false =>
        rw [outF_no hb e]
        exact ifF rfl hi
      | true =>
        rw [outF_yes hb e]
        exact ifT rfl ⟨_, rfl, hi.add hD2 (same_refl _) (by have := outF_lt (p := fun b : Int × Bool => b.2) (f := fun b => b.1) hb; rw [sizeLine_is]; omega) rfl⟩
    rw [rbs.length, outF_all] at hi
    obtain ⟨s2, acc2, hacc2, racc2⟩ := hi
    have eacc2 := pr_ints racc2
    subst eacc2
    have h2 := h1.same s2
    refine ⟨_, ⟨_, cf, c, D2, _, rfl, h2.cf, .of hacc2, hc.all, hc.voters, hc.outgoing, rfl⟩, fun H3 s3 => ⟨_, rfl, ?_⟩⟩
    have h3 := h2.same s3
    unfold M.decide at k
    cases q : c.isQuorum ((m.ballot.filter fun b => b.2).map fun b => b.1) with
    | true =>
      rw [q, if_pos rfl] at k
      refine ifT rfl ?_
      refine ⟨_, rfl, h3.rd T (i := 10) rfl rfl ⟨rfl, _, rfl, ?_⟩⟩
      rw [vint_eq]
      by_cases e : m.role = 1
      · rw [if_pos e] at k
        refine ifT (decide_eq_true e) ?_
        refine ⟨_, rfl, h3.md (by decide +kernel) ⟨n, _, p, cf, c, _, A, _, _, rfl, h3.here, ⟨0, rfl, hc, by omega, rfl⟩, fun H4 w4 A4 h4 => ?_⟩⟩
        exact k _ _ _ (h3.then h4).tail
      · rw [if_neg e] at k
        refine ifF (decide_eq_false e) ?_
        refine ⟨_, rfl, h3.md (by decide +kernel) ⟨n, _, p, cf, c, _, A, _, _, rfl, h3.here, ⟨rfl, hc, by omega, by omega, rfl⟩, fun H4 w4 A4 h4 => ?_⟩⟩
        exact k _ _ _ (h3.then h4).tail
    | false =>
      rw [q, if_neg Bool.false_ne_true] at k
      refine ifF rfl ?_
      -- those that haven't said no
      refine ⟨_, rfl, h3.rd T (i := 1) rfl rfl (h3.cf.md (by decide +kernel) ?_)⟩
      refine ⟨_, rfl, h3.rd T (i := 1) rfl rfl (h3.cf.everyone T fun ev hev => ⟨ev, rfl, ⟨_, .of hev⟩, fun D3 hD3 => lc_list (K := K) (a := ev) (xs := c.everyone.map V.int) (fun i H' => LcInv rInt H3 D3 (outF (fun o => !((m.ballot.filter fun b => !b.2).map fun b => b.1).contains o) (fun o => o) c.everyone i) H') (LcInv.zero hD3) (fun i H' _ h => h.src hev) (fun i x H' hx hi => ?_) (fun H4 hi => ?_)⟩)⟩
      · obtain ⟨z, hz, rfl⟩ := int_at hx
        have hd := hi.1 _ _ h3.head
        refine ⟨rfl, _, rfl, _, rfl, notin_ints (.of hd) ⟨_, rfl, ?_⟩⟩
        cases e : ((m.ballot.filter fun b => !b.2).map fun b => b.1).contains z with
        | true =>
          rw [outF_no hz (by rw [e]; rfl)]
          exact ifF rfl hi
        | false =>
          rw [outF_yes hz (by rw [e]; rfl)]
          exact ifT rfl ⟨_, rfl, hi.add hD3 (same_refl _) (by have := outF_lt (p := fun o => !((m.ballot.filter fun b => !b.2).map fun b => b.1).contains o) (f := fun o => o) hz; have := hc.all; rw [sizeLine_is]; omega) rfl⟩
      rw [List.length_map, outF_all, map_id_int] at hi
      obtain ⟨s4, acc4, hacc4, racc4⟩ := hi
      have eacc4 := pr_ints racc4
      subst eacc4
      have h4 := h3.same s4
      refine ⟨_, ⟨_, cf, c, D3, _, rfl, h4.cf, .of hacc4, hc.all, hc.voters, hc.outgoing, rfl⟩, fun H5 s5 => ⟨_, rfl, ?_⟩⟩
      have h5 := h4.same s5
      cases q2 : c.isQuorum (c.everyone.filter fun o => !((m.ballot.filter fun b => !b.2).map fun b => b.1).contains o) with
      | true =>
        rw [q2, if_pos rfl] at k
        refine ifF rfl ?_
        exact k _ _ _ h5.tail
      | false =>
        rw [q2, if_neg Bool.false_ne_true] at k
        refine ifT rfl ?_
        refine ⟨_, rfl, h5.md (by decide +kernel) ⟨n, _, p, cf, c, _, A, _, _, rfl, h5.here, ⟨0, rfl, rfl⟩, fun H4 w4 A4 h4 => ?_⟩⟩
        exact k _ _ _ (h5.then h4).tail
end
end Lp
/-! Part M4: counting, ticks. -/
namespace Lp
open PySem PySem.Spec PyProof.Rows L2
section
variable {P : Program} {w : World} {K : PySem.W.Frag} {mg : Str → Option Value} {base : Heap} {C : Cl}
theorem seq_via {a b : TS} {D : Ends} {σ : L2.St} {H : Hp} (Mid : L2.St → Hp → Prop) (hb : ∀ σ' H', Mid σ' H' → b D σ' H') (ha : (∀ σ' H', Mid σ' H' → b D σ' H') → tSeq a b D σ H) : tSeq a b D σ H := ha hb
/-! ### count -/
abbrev s_Member_count : Stmt := inClass (top 20) 14
theorem sc_Member_count : FnScope ["self", "number", "is_yes", "one", "answer"] ["self", "number", "is_yes"] (defScope s_Member_count) := ⟨rfl, rfl, rfl, by decide +kernel, rfl, by decide +kernel, by decide +kernel⟩
def R_count : List V → Hp → Cfg → M → M → Prop := fun xs _ c m m' => ∃ (z : Int) (y : Bool), xs = [.int z, .bl y] ∧ CfgOk c ∧ m.said.length ≤ 4000 ∧ m.elections.length ≤ 4000 ∧ m.ballot.length < 10000000 ∧ m' = m.count c z y
theorem ok_Member_count {f : Addr} {fd : FuncData} (T : Txt K mg C) (F : Fun K "count" "Member.count" s_Member_count f fd)
    (D_Member_decide : DfM P w K mg base CX0 4 C.m "decide" ["self"] (spMt C R_decide)) :
    FnOk P w K mg base CX0 5 f fd ["self", "number", "is_yes"] (spMt C R_count) := by
  refine F.ok sc_Member_count (fun vs H Q E h => ?_) (fun cdv A outer s H vs Q E hr h => ?_)
  · obtain ⟨_, _, _, _, _, _, _, _, _, rfl, _, ⟨_, _, rfl, _⟩, _⟩ := h
    rfl
  · refine ⟨_, (pss_cons (ps_if (pt_cmpR op_notIn_seq (pv 1) (pe_lc (own := [("one", 3), ("answer", 4)]) (g := gTup K 2 (gCons (gName 3) (gCons (gName 4) gNil))) rfl sc_Member_count.nd (pi_list (pe_fld (pv 0) rfl)) (blkOk_by (N := ["self", "number", "is_yes", "one", "answer"]) (sc := defScope s_Member_count) (by decide +kernel)) (fun _ _ _ _ _ => pg_tup rfl (pgs_cons (pg_name (i := 3) sc_Member_count.nd rfl (Or.inl rfl)) (pgs_cons (pg_name (i := 4) sc_Member_count.nd rfl (Or.inl rfl)) pgs_nil))) (fun _ _ _ _ _ => pts_nil) (fun _ _ _ _ _ => (pv 3))) (by rfl))
        (pss_one (ps_expr (pe_bm PySem.F.plainAttrs_list PySem.F.slot_list_append PySem.F.type_list_append mt_append (pe_fld (pv 0) rfl) (pa_cons (pe_tup (pa_cons (pv 1) (pa_cons (pv 2) pa_nil))) pa_nil))))
        pss_nil)
      (pss_one (ps_expr (pe_mth0 (pv 0) T.cl_m D_Member_decide (hr.mono (by decide)))))), ?_⟩
    obtain ⟨n, w, p, cf, c, m, A, _, _, rfl, h, ⟨z, y, rfl, hc, ls, le, lb, rfl⟩, k⟩ := h
    obtain ⟨bs, hbs, rbs⟩ := h.bal_l.lst
    refine ⟨_, rfl, _, rfl, h.rd T (i := 14) rfl rfl ⟨A.bal, rfl, ⟨_, .of hbs⟩, fun D hD => lc_list (K := K) (a := A.bal) (xs := bs) (fun i H' => LcInv rInt H D (outF (fun _ => true) (fun b => b.1) m.ballot i) H') (LcInv.zero hD) (fun i H' _ h => h.src hbs) (fun i x H' hx hi => ?_) (fun H1 hi => ?_)⟩⟩
    · obtain ⟨b, hb, t, rfl, ht⟩ := pr_get rbs hx
      refine ⟨t, _, rfl, .of (hi.1 _ _ ht), rfl, _, _, rfl, _, _, rfl, rfl, rfl, _, rfl, ?_⟩
      rw [outF_yes hb rfl]
      exact hi.add hD (same_refl _) (by have := outF_lt (p := fun _ => true) (f := fun b : Int × Bool => b.1) hb; rw [sizeLine_is]; omega) rfl
    rw [rbs.length, outF_all] at hi
    obtain ⟨s1, acc, hacc, racc⟩ := hi
    have eacc := pr_ints racc
    subst eacc
    rw [show (m.ballot.filter fun _ => true) = m.ballot from List.filter_eq_self.mpr fun _ _ => rfl] at hacc
    have h1 := h.same s1
    refine notin_ints (.of hacc) ⟨_, rfl, ?_⟩
    unfold M.count M.added at k
    cases e : (m.ballot.map fun b => b.1).contains z with
    | true =>
      rw [e, if_pos rfl] at k
      refine ifF rfl ?_
      refine ⟨_, rfl, h1.md (by decide +kernel) ⟨n, w, p, cf, c, m, A, _, _, rfl, h1.here, ⟨rfl, hc, ls, le, by omega, rfl⟩, fun H2 w2 A2 h2 => ?_⟩⟩
      exact k _ _ _ (h1.then h2)
    | false =>
      rw [e, if_neg Bool.false_ne_true] at k
      refine ifT rfl ?_
      have hbs1 := s1 _ _ hbs
      refine ⟨_, rfl, h1.rd T (i := 14) rfl rfl ⟨.inl ⟨rfl, _, .of hbs1⟩, ?_⟩⟩
      refine ⟨_, rfl, _, rfl, by show 2 ≤ sizeLine; decide, fun q hq => ?_⟩
      have s2 := same_upd (o := .tup [.int z, .bl y]) hq
      refine ⟨A.bal, bs, _, rfl, rfl, s2 _ _ hbs1, by rw [rbs.length, sizeLine_is]; omega, ?_⟩
      have h2 := (h1.same s2).bal_mu (xs := m.ballot ++ [(z, y)]) (s2 _ _ hbs1) (pr_append (pr_keep (same_tk s2) (pr_keep (same_tk s1) rbs)) (.cons ⟨q, rfl, upd_same⟩ .nil))
      refine ⟨_, rfl, h2.md (by decide +kernel) ⟨n, w, p, cf, c, _, A, _, _, rfl, h2.here, ⟨rfl, hc, ls, le, by show (m.ballot ++ [(z, y)]).length ≤ _; rw [List.length_append]; exact lb, rfl⟩, fun H2 w2 A2 h3 => ?_⟩⟩
      exact k _ _ _ (h2.then h3)
/-! ### begin_question -/
abbrev s_Member_begin_question : Stmt := inClass (top 20) 11
theorem sc_Member_begin_question : FnScope ["self", "other"] ["self"] (defScope s_Member_begin_question) := ⟨rfl, rfl, rfl, by decide +kernel, rfl, by decide +kernel, by decide +kernel⟩
def R_beginQuestion : List V → Hp → Cfg → M → M → Prop := fun xs _ c m m' => xs = [] ∧ CfgOk c ∧ m.said.length ≤ 3900 ∧ m.elections.length ≤ 4000 ∧ m' = m.beginQuestion c
theorem ok_Member_begin_question {f : Addr} {fd : FuncData} (T : Txt K mg C) (F : Fun K "begin_question" "Member.begin_question" s_Member_begin_question f fd)
    (D_Member_say : DfM P w K mg base CX0 1 C.m "say" ["self", "receiver", "kind", "fields", "term"] (spMt C R_say)) (D_Member_follow : DfM P w K mg base CX0 1 C.m "follow" ["self", "leader"] (spMt C R_follow))
    (D_Configuration_other_voters : DfM P w K mg base CX0 2 C.c "other_voters" ["self", "number"] (spIs (R_otherVoters C)))
    (D_Member_decide : DfM P w K mg base CX0 4 C.m "decide" ["self"] (spMt C R_decide)) :
    FnOk P w K mg base CX0 5 f fd ["self"] (spMt C R_beginQuestion) := by
  refine F.ok sc_Member_begin_question (fun vs H Q E h => ?_) (fun cdv A outer s H vs Q E hr h => ?_)
  · obtain ⟨_, _, _, _, _, _, _, _, _, rfl, _, ⟨rfl, _⟩, _⟩ := h
    rfl
  · refine ⟨_, (pss_cons (ps_expr (pe_mth (pv 0) T.cl_m D_Member_follow (hr.mono (by decide)) (pa_cons pe_int pa_nil)))
      (pss_cons (ps_fld (pv 0) (pe_const rfl T.k_ASKING) rfl)
      (pss_cons (ps_fld (pv 0) (pe_lst (pa_cons (pe_tup (pa_cons (pe_fld (pv 0) rfl) (pa_cons pe_bl pa_nil))) pa_nil)) rfl)
      (pss_cons (ps_for PassesOwn.never rfl (pi_list (pe_mth (pe_fld (pv 0) rfl) T.cl_c D_Configuration_other_voters (hr.mono (by decide)) (pa_cons (pe_fld (pv 0) rfl) pa_nil))) (pg_name (i := 1) sc_Member_begin_question.nd rfl (Or.inl rfl))
        (pss_one (ps_expr (pe_mth (pv 0) T.cl_m D_Member_say (hr.mono (by decide)) (pa_cons (pv 1) (pa_cons (pe_const rfl T.k_PRE_VOTE) (pa_cons (pe_fld (pv 0) rfl) (pa_cons (pe_op op_add (pe_fld (pv 0) rfl) pe_int) pa_nil))))))))
      (pss_one (ps_expr (pe_mth0 (pv 0) T.cl_m D_Member_decide (hr.mono (by decide))))))))), ?_⟩
    obtain ⟨n, w, p, cf, c, m, A, _, _, rfl, h, ⟨rfl, hc, ls, le, rfl⟩, k⟩ := h
    refine ⟨_, rfl, h.md (by decide +kernel) ⟨n, w, p, cf, c, m, A, _, _, rfl, h, ⟨0, rfl, rfl⟩, fun H1 w1 A1 h => ?_⟩⟩
    refine ⟨_, rfl, h.st T { m.follow 0 with role := 1 } (i := 10) rfl rfl h.parts h.nm fun H2 h => ?_⟩
    refine ⟨_, rfl, h.rd T (i := 0) rfl rfl ⟨by show 2 ≤ sizeLine; decide, fun t ht => ⟨by show 1 ≤ sizeLine; decide, fun q hq => ?_⟩⟩⟩
    have s0 := same_upd (o := .tup [.int (({ m.follow 0 with role := 1 } : M).number), .bl true]) ht
    refine ⟨_, rfl, ((h.same s0).alloc hq).bal_st T (xs := [(m.number, true)]) (.cons ⟨t, rfl, by rw [upd_ne (ne_of_none upd_same hq)]; exact upd_same⟩ .nil) fun H3 w3 h => ?_⟩
    have k : ∀ H' w' A', At C n H w H' w' p cf c (({ m.follow 0 with role := 1, ballot := [(m.number, true)] } : M).askFirst c) A' [] → Q .non H' := k
    have ls : ({ m.follow 0 with role := 1, ballot := [(m.number, true)] } : M).said.length ≤ 3900 := ls
    have le : ({ m.follow 0 with role := 1, ballot := [(m.number, true)] } : M).elections.length ≤ 4000 := le
    have lb : ({ m.follow 0 with role := 1, ballot := [(m.number, true)] } : M).ballot.length ≤ 10 := by show 1 ≤ 10; decide
    revert k ls le lb h
    generalize ({ m.follow 0 with role := 1, ballot := [(m.number, true)] } : M) = v
    intro h k ls le lb
    have lo := otherVoters_le hc v.number
    unfold M.askFirst at k
    refine ⟨_, rfl, h.rd T (i := 1) rfl rfl (h.cf.md (by decide +kernel) ?_)⟩
    refine ⟨_, rfl, h.rd T (i := 0) rfl rfl ⟨c.otherVoters v.number, ⟨_, cf, c, _, rfl, h.cf, hc.all, rfl⟩, fun H5 q s1 hq hq1 => ?_⟩⟩
    have h1 := h.got s1 hq hq1
    refine ⟨q, rfl, ⟨_, .of hq1⟩, for_list (K := K) (a := q) (xs := (c.otherVoters v.number).map V.int) (fun i σ H' => ∃ x w' A', σ = [some (.ref p), x] ∧ At C n H w H' w' p cf c (v.sayAll ((c.otherVoters v.number).take i) 1 [v.position.1, v.position.2] (v.term + 1)) A' [(q, .lst ((c.otherVoters v.number).map V.int))])
      ⟨none, _, _, rfl, by rw [List.take_zero, sayAll_nil]; exact h1⟩ (fun i σ H' _ ⟨_, _, _, _, h⟩ => .of h.head) ?_ ?_⟩
    · rintro i x σ H' hx ⟨x0, w', A', rfl, h⟩
      obtain ⟨z, hz, rfl⟩ := int_at hx
      refine ⟨_, rfl, h.md (by decide +kernel) ⟨_, rfl, ⟨_, rfl, h.rd T (i := 2) rfl rfl ⟨_, rfl, h.rd T (i := 8) rfl rfl ⟨_, _, rfl, rfl, ?_⟩⟩⟩⟩⟩
      refine ⟨n, w', p, cf, c, _, A', _, _, rfl, h.here, ⟨z, 1, v.term + 1, _, [v.position.1, v.position.2], rfl, h.parts.1, by show 2 ≤ 100; decide, ?_, rfl⟩, fun H2 w2 A2 h2 => ?_⟩
      · rw [sayAll_len, List.length_take]; omega
      · have h3 := h.then h2
        rw [sayAll_snoc, ← take_more hz] at h3
        exact ⟨_, _, _, rfl, h3⟩
    · rintro σ H' ⟨x, w', A', rfl, h⟩
      rw [List.length_map, List.take_length] at h
      refine ⟨_, rfl, h.md (by decide +kernel) ⟨n, w', p, cf, c, _, A', _, _, rfl, h.here, ⟨rfl, hc, by rw [sayAll_len]; omega, le, Nat.le_trans lb (by decide), rfl⟩, fun H2 w2 A2 h2 => ?_⟩⟩
      exact k _ _ _ (h.then h2).tail
/-! ### tick_leader -/
abbrev s_Member_tick_leader : Stmt := inClass (top 20) 17
theorem sc_Member_tick_leader : FnScope ["self"] ["self"] (defScope s_Member_tick_leader) := ⟨rfl, rfl, rfl, by decide +kernel, rfl, by decide +kernel, by decide +kernel⟩
def R_tickLeader : List V → Hp → Cfg → M → M → Prop := fun xs _ c m m' => xs = [] ∧ CfgOk c ∧ m.said.length ≤ 4000 ∧ m.active.length ≤ 10000000 ∧ m' = m.tickLeader c
theorem ok_Member_tick_leader {f : Addr} {fd : FuncData} (T : Txt K mg C) (F : Fun K "tick_leader" "Member.tick_leader" s_Member_tick_leader f fd)
    (D_Member_follow : DfM P w K mg base CX0 1 C.m "follow" ["self", "leader"] (spMt C R_follow)) (D_Member_say_heartbeats : DfM P w K mg base CX0 2 C.m "say_heartbeats" ["self"] (spMt C R_heartbeats))
    (D_Configuration_is_quorum : DfM P w K mg base CX0 2 C.c "is_quorum" ["self", "members"] (spBl (R_quorum K C))) :
    FnOk P w K mg base CX0 3 f fd ["self"] (spMt C R_tickLeader) := by
  refine F.ok sc_Member_tick_leader (fun vs H Q E h => ?_) (fun cdv A outer s H vs Q E hr h => ?_)
  · obtain ⟨_, _, _, _, _, _, _, _, _, rfl, _, ⟨rfl, _⟩, _⟩ := h
    rfl
  · refine ⟨_, (pss_cons (ps_fldaug (pv 0) pe_int in_add)
      (pss_cons (ps_fldaug (pv 0) pe_int in_add)
      (pss_cons (ps_if (pt_cmpR op_ge (pe_fld (pv 0) rfl) (pe_const rfl T.k_ELECTION_TICKS) (nomark _))
        (pss_cons (ps_if (pt_not (pt_val (pe_mth (pe_fld (pv 0) rfl) T.cl_c D_Configuration_is_quorum (hr.mono (by decide)) (pa_cons (pe_op op_cat (pe_lst (pa_cons (pe_fld (pv 0) rfl) pa_nil)) (pe_fld (pv 0) rfl)) pa_nil))))
        (pss_cons (ps_expr (pe_mth (pv 0) T.cl_m D_Member_follow (hr.mono (by decide)) (pa_cons pe_int pa_nil)))
      (pss_one ps_retN))
        pss_nil)
      (pss_cons (ps_fld (pv 0) pe_int rfl)
      (pss_one (ps_fld (pv 0) (pe_lst pa_nil) rfl))))
        pss_nil)
      (pss_one (ps_if (pt_cmpR op_ge (pe_fld (pv 0) rfl) (pe_const rfl T.k_HEARTBEAT_TICKS) (nomark _))
        (pss_cons (ps_fld (pv 0) pe_int rfl)
      (pss_one (ps_expr (pe_mth0 (pv 0) T.cl_m D_Member_say_heartbeats (hr.mono (by decide))))))
        pss_nil))))), ?_⟩
    obtain ⟨n, w, p, cf, c, m, A, _, _, rfl, h, ⟨rfl, hc, ls, la, rfl⟩, k⟩ := h
    refine ⟨_, rfl, h.aug T { m with elapsed := m.elapsed + 1 } (i := 12) rfl rfl rfl h.parts h.nm (fun R r => ⟨_, _, rfl, rfl, r⟩) fun H2 h => ?_⟩
    refine ⟨_, rfl, h.aug T { m with elapsed := m.elapsed + 1, beat := m.beat + 1 } (i := 13) rfl rfl rfl h.parts h.nm (fun R r => ⟨_, _, rfl, rfl, r⟩) fun H3 h => ?_⟩
    have k : ∀ H' w' A', At C n H w H' w' p cf c (({ m with elapsed := m.elapsed + 1, beat := m.beat + 1 } : M).tickOn c) A' [] → Q .non H' := k
    have ls : ({ m with elapsed := m.elapsed + 1, beat := m.beat + 1 } : M).said.length ≤ 4000 := ls
    have la : ({ m with elapsed := m.elapsed + 1, beat := m.beat + 1 } : M).active.length ≤ 10000000 := la
    revert k ls la h
    generalize ({ m with elapsed := m.elapsed + 1, beat := m.beat + 1 } : M) = v
    intro h k ls la
    unfold M.tickOn at k
    dsimp only
    refine seq_via (fun σ' H' => ∃ w' A' u, σ' = [some (.ref p)] ∧ At C n H w H' w' p cf c u A' [] ∧ u.said.length ≤ 4000 ∧ (∀ H' w' A', At C n H w H' w' p cf c (u.beats c) A' [] → Q .non H')) ?_ fun go => ?_
    · rintro σ' H4 ⟨w4, A4, u, rfl, h, ls, k⟩
      unfold M.beats at k
      refine ⟨_, rfl, h.rd T (i := 13) rfl rfl ⟨_, _, rfl, rfl, _, rfl, ?_⟩⟩
      by_cases e : 3 ≤ u.beat
      · rw [if_pos e] at k
        refine ifT (decide_eq_true e) ?_
        refine ⟨_, rfl, h.st T { u with beat := 0 } (i := 13) rfl rfl h.parts h.nm fun H5 h => ?_⟩
        refine ⟨_, rfl, h.md (by decide +kernel) ⟨n, _, p, cf, c, _, _, _, _, rfl, h.here, ⟨rfl, hc, Nat.le_trans ls (by decide), rfl⟩, fun H2 w2 A2 h2 => ?_⟩⟩
        exact k _ _ _ (h.then h2)
      · rw [if_neg e] at k
        exact ifF (decide_eq_false e) (k _ _ _ h)
    · refine ⟨_, rfl, h.rd T (i := 12) rfl rfl ⟨_, _, rfl, rfl, _, rfl, ?_⟩⟩
      by_cases e : 10 ≤ v.elapsed
      · rw [if_pos e] at k
        refine ifT (decide_eq_true e) ?_
        obtain ⟨as, has, ras⟩ := h.act_l.lst
        have eas := pr_ints ras
        subst eas
        refine ⟨_, rfl, h.rd T (i := 1) rfl rfl (h.cf.md (by decide +kernel) ?_)⟩
        refine ⟨_, rfl, h.rd T (i := 0) rfl rfl ⟨by show 1 ≤ sizeLine; decide, fun q hq => ?_⟩⟩
        have s1 := same_upd (o := .lst [.int v.number]) hq
        have h1 := h.same s1
        refine ⟨_, rfl, h1.rd T (i := 15) rfl rfl ⟨q, _, _, _, rfl, rfl, upd_same, s1 _ _ has, by rw [List.length_map, sizeLine_is]; show 1 + _ ≤ _; omega, fun q2 hq2 => ?_⟩⟩
        have s2 := same_upd (o := .lst ([.int v.number] ++ v.active.map V.int)) hq2
        have h2 := h1.same s2
        refine ⟨_, ⟨_, cf, c, q2, v.number :: v.active, rfl, h2.cf, .of upd_same, hc.all, hc.voters, hc.outgoing, rfl⟩, fun H3 s3 => ⟨_, rfl, ?_⟩⟩
        have h3 := h2.same s3
        cases e2 : c.isQuorum (v.number :: v.active) with
        | false =>
          rw [e2, if_neg Bool.false_ne_true] at k
          refine ifT rfl ?_
          refine ⟨_, rfl, h3.md (by decide +kernel) ⟨n, _, p, cf, c, _, _, _, _, rfl, h3.here, ⟨0, rfl, rfl⟩, fun H2 w2 A2 h4 => ?_⟩⟩
          exact k _ _ _ (h3.then h4)
        | true =>
          rw [e2, if_pos rfl] at k
          refine ifF rfl ?_
          refine ⟨_, rfl, h3.st T { v with elapsed := 0 } (i := 12) rfl rfl h3.parts h3.nm fun H5 h => ?_⟩
          refine ⟨Nat.zero_le _, fun q hq => ⟨_, rfl, (h.alloc hq).act_st T .nil fun H w h => ?_⟩⟩
          exact go _ _ ⟨_, _, _, rfl, h, ls, k⟩
      · rw [if_neg e] at k
        exact ifF (decide_eq_false e) (go _ _ ⟨_, _, _, rfl, h, ls, k⟩)
/-! ### tick -/
abbrev s_Member_tick : Stmt := inClass (top 20) 16
theorem sc_Member_tick : FnScope ["self", "before"] ["self"] (defScope s_Member_tick) := ⟨rfl, rfl, rfl, by decide +kernel, rfl, by decide +kernel, by decide +kernel⟩
def R_tick : List V → Hp → Cfg → M → M → Prop := fun xs _ c m m' => xs = [] ∧ CfgOk c ∧ Bd m ∧ m' = m.tick c
theorem ok_Member_tick {f : Addr} {fd : FuncData} (T : Txt K mg C) (F : Fun K "tick" "Member.tick" s_Member_tick f fd)
    (D_Member_tick_leader : DfM P w K mg base CX0 3 C.m "tick_leader" ["self"] (spMt C R_tickLeader)) (D_Member_begin_question : DfM P w K mg base CX0 5 C.m "begin_question" ["self"] (spMt C R_beginQuestion))
    (D_Member_end_input : DfM P w K mg base CX0 1 C.m "end_input" ["self", "before"] (spMt C R_endInput))
    (D_Configuration_votes : DfM P w K mg base CX0 1 C.c "votes" ["self", "number"] (spBl (R_votes C))) :
    FnOk P w K mg base CX0 6 f fd ["self"] (spMt C R_tick) := by
  refine F.ok sc_Member_tick (fun vs H Q E h => ?_) (fun cdv A outer s H vs Q E hr h => ?_)
  · obtain ⟨_, _, _, _, _, _, _, _, _, rfl, _, ⟨rfl, _⟩, _⟩ := h
    rfl
  · refine ⟨_, (pss_cons (ps_set (i := 1) sc_Member_tick.nd rfl (Or.inl rfl) (pe_tup (pa_cons (pe_fld (pv 0) rfl) (pa_cons (pe_fld (pv 0) rfl) pa_nil))))
      (pss_cons (ps_if (pt_cmpR op_eq (pe_fld (pv 0) rfl) (pe_const rfl T.k_LEADER) (nomark _))
        (pss_one (ps_expr (pe_mth0 (pv 0) T.cl_m D_Member_tick_leader (hr.mono (by decide)))))
        (pss_one (ps_if (pt_cmpR op_lt (pe_op op_add (pe_fld (pv 0) rfl) pe_int) (pe_op op_add (pe_const rfl T.k_ELECTION_TICKS) (pe_op op_mod (pe_op op_add (pe_op op_mul pe_int (pe_fld (pv 0) rfl)) (pe_op op_mul pe_int (pe_fld (pv 0) rfl))) pe_int)) (nomark _))
        (pss_one (ps_fldaug (pv 0) pe_int in_add))
        (pss_cons (ps_fld (pv 0) pe_int rfl)
      (pss_one (ps_if (pt_val (pe_mth (pe_fld (pv 0) rfl) T.cl_c D_Configuration_votes (hr.mono (by decide)) (pa_cons (pe_fld (pv 0) rfl) pa_nil)))
        (pss_one (ps_expr (pe_mth0 (pv 0) T.cl_m D_Member_begin_question (hr.mono (by decide)))))
        (pss_one (ps_fld (pv 0) pe_int rfl))))))))
      (pss_one (ps_expr (pe_mth (pv 0) T.cl_m D_Member_end_input (hr.mono (by decide)) (pa_cons (pv 1) pa_nil)))))), ?_⟩
    obtain ⟨n, w, p, cf, c, m, A, _, _, rfl, h, ⟨rfl, hc, hb, rfl⟩, k⟩ := h
    unfold M.tick at k
    have kp := kp_ticked hc m
    refine ⟨_, rfl, h.rd T (i := 8) rfl rfl ⟨_, rfl, h.rd T (i := 9) rfl rfl ⟨by show 2 ≤ sizeLine; decide, fun b hb1 => ?_⟩⟩⟩
    have s1 := same_upd (o := .tup [.int m.term, .int m.vote]) hb1
    have hX := h.got s1 hb1 upd_same
    dsimp only
    refine seq_via (fun σ' H' => ∃ w' A', σ' = [some (.ref p), some (.ref b)] ∧ At C n H w H' w' p cf c (m.ticked c) A' [(b, .tup [.int m.term, .int m.vote])]) ?_ fun go => ?_
    · rintro σ' H4 ⟨w4, A4, rfl, h⟩
      refine ⟨_, rfl, h.md (by decide +kernel) ⟨_, rfl, ?_⟩⟩
      have p1 := hb.pending; have p2 := hb.held; have p3 := hb.leaving; have p4 := hb.said
      refine ⟨n, _, p, cf, c, _, _, _, _, rfl, h.here, ⟨b, (m.term, m.vote), rfl, h.head, by rw [kp.pending]; omega, by rw [kp.held]; have := kp.said; omega, by rw [kp.leaving]; have := kp.said; omega, rfl⟩, fun H2 w2 A2 h2 => ?_⟩
      exact k _ _ _ (h.then h2).tail
    · unfold M.ticked at go
      refine ⟨_, rfl, hX.rd T (i := 10) rfl rfl ⟨rfl, _, rfl, ?_⟩⟩
      rw [vint_eq]
      by_cases e : m.role = 3
      · rw [if_pos e] at go
        refine ifT (decide_eq_true e) ?_
        refine ⟨_, rfl, hX.md (by decide +kernel) ⟨n, _, p, cf, c, _, _, _, _, rfl, hX.here, ⟨rfl, hc, Nat.le_trans hb.said (by decide), Nat.le_trans hb.active (by decide), rfl⟩, fun H2 w2 A2 h2 => ?_⟩⟩
        exact go _ _ ⟨_, _, rfl, hX.then h2⟩
      · rw [if_neg e] at go
        refine ifF (decide_eq_false e) ?_
        refine ⟨_, rfl, hX.rd T (i := 12) rfl rfl ⟨_, _, rfl, rfl, _, rfl, hX.rd T (i := 0) rfl rfl ⟨_, _, rfl, rfl, .inl ⟨by decide, by decide⟩, ?_⟩⟩⟩
        refine ⟨_, rfl, hX.rd T (i := 8) rfl rfl ⟨_, _, rfl, rfl, .inl ⟨by decide, by decide⟩, _, _, rfl, rfl, _, _, rfl, rfl, by show (0:Int) < 10; decide, _, _, rfl, rfl, _, _, rfl, rfl, _, rfl, ?_⟩⟩
        by_cases e2 : m.elapsed + 1 < 10 + (7 * m.number + 3 * m.term) % 10
        · rw [if_pos e2] at go
          refine ifT (decide_eq_true e2) ?_
          refine ⟨_, rfl, hX.aug T { m with elapsed := m.elapsed + 1 } (i := 12) rfl rfl rfl hX.parts hX.nm (fun R r => ⟨_, _, rfl, rfl, r⟩) fun H2 h => ?_⟩
          exact go _ _ ⟨_, _, rfl, h⟩
        · rw [if_neg e2] at go
          refine ifF (decide_eq_false e2) ?_
          refine ⟨_, rfl, hX.st T { m with elapsed := 0 } (i := 12) rfl rfl hX.parts hX.nm fun H5 h => ?_⟩
          refine ⟨_, rfl, h.rd T (i := 1) rfl rfl (h.cf.md (by decide +kernel) ?_)⟩
          refine ⟨_, rfl, h.rd T (i := 0) rfl rfl ⟨_, ⟨_, cf, c, _, rfl, h.cf, rfl⟩, fun H6 s6 => ⟨_, rfl, ?_⟩⟩⟩
          have h6 := h.same s6
          cases e3 : c.votes m.number with
          | true =>
            rw [e3, if_pos rfl] at go
            refine ifT rfl ?_
            refine ⟨_, rfl, h6.md (by decide +kernel) ⟨n, _, p, cf, c, _, _, _, _, rfl, h6.here, ⟨rfl, hc, Nat.le_trans hb.said (by decide), Nat.le_trans hb.elections (by decide), rfl⟩, fun H2 w2 A2 h2 => ?_⟩⟩
            exact go _ _ ⟨_, _, rfl, h6.then h2⟩
          | false =>
            rw [e3, if_neg Bool.false_ne_true] at go
            refine ifF rfl ?_
            refine ⟨_, rfl, h6.st T { m with elapsed := 0, leader := 0 } (i := 11) rfl rfl h6.parts h6.nm fun H5 h => ?_⟩
            exact go _ _ ⟨_, _, rfl, h⟩
/-! ### hand_over -/
abbrev s_Member_hand_over : Stmt := inClass (top 20) 18
theorem sc_Member_hand_over : FnScope ["self", "target"] ["self", "target"] (defScope s_Member_hand_over) := ⟨rfl, rfl, rfl, by decide +kernel, rfl, by decide +kernel, by decide +kernel⟩
def R_handOver : List V → Hp → Cfg → M → M → Prop := fun xs _ c m m' => ∃ t : Int, xs = [.int t] ∧ CfgOk c ∧ Bd m ∧ m' = m.handOver t
theorem ok_Member_hand_over {f : Addr} {fd : FuncData} (T : Txt K mg C) (F : Fun K "hand_over" "Member.hand_over" s_Member_hand_over f fd)
    (D_Member_say : DfM P w K mg base CX0 1 C.m "say" ["self", "receiver", "kind", "fields", "term"] (spMt C R_say))
    (D_Member_end_input : DfM P w K mg base CX0 1 C.m "end_input" ["self", "before"] (spMt C R_endInput)) :
    FnOk P w K mg base CX0 2 f fd ["self", "target"] (spMt C R_handOver) := by
  refine F.ok sc_Member_hand_over (fun vs H Q E h => ?_) (fun cdv A outer s H vs Q E hr h => ?_)
  · obtain ⟨_, _, _, _, _, _, _, _, _, rfl, _, ⟨_, rfl, _⟩, _⟩ := h
    rfl
  · refine ⟨_, (pss_cons (ps_expr (pe_mth (pv 0) T.cl_m D_Member_say (hr.mono (by decide)) (pa_cons (pv 1) (pa_cons (pe_const rfl T.k_CAMPAIGN_NOW) (pa_cons (pe_tup pa_nil) (pa_cons (pe_fld (pv 0) rfl) pa_nil))))))
      (pss_one (ps_expr (pe_mth (pv 0) T.cl_m D_Member_end_input (hr.mono (by decide)) (pa_cons (pe_tup (pa_cons (pe_fld (pv 0) rfl) (pa_cons (pe_fld (pv 0) rfl) pa_nil))) pa_nil))))), ?_⟩
    obtain ⟨n, w, p, cf, c, m, A, _, _, rfl, h, ⟨t, rfl, hc, hb, rfl⟩, k⟩ := h
    unfold M.handOver at k
    have kp := kp_say m t 9 [] m.term
    have p1 := hb.pending; have p2 := hb.held; have p3 := hb.leaving; have p4 := hb.said
    refine ⟨_, rfl, h.md (by decide +kernel) ⟨_, rfl, by show 0 ≤ sizeLine; decide, fun e he => ?_⟩⟩
    have h := h.same (same_upd (o := .tup []) he)
    refine ⟨_, rfl, h.rd T (i := 8) rfl rfl ⟨n, _, p, cf, c, _, _, _, _, rfl, h.here, ⟨t, 9, m.term, e, [], rfl, upd_same, by decide, by omega, rfl⟩, fun H2 w2 A2 h2 => ?_⟩⟩
    have h := h.then h2
    refine ⟨_, rfl, h.md (by decide +kernel) ⟨_, rfl, h.rd T (i := 8) rfl rfl ⟨_, rfl, h.rd T (i := 9) rfl rfl ⟨by show 2 ≤ sizeLine; decide, fun b hb1 => ?_⟩⟩⟩⟩
    have h := h.same (same_upd (o := .tup [.int m.term, .int m.vote]) hb1)
    refine ⟨n, _, p, cf, c, _, _, _, _, rfl, h.here, ⟨b, (m.term, m.vote), rfl, upd_same, by rw [kp.pending]; omega, by rw [kp.held]; have := kp.said; omega, by rw [kp.leaving]; have := kp.said; omega, rfl⟩, fun H2 w2 A2 h2 => ?_⟩
    exact k _ _ _ (h.then h2)
end
end Lp
/-! Part M5: messages that arrive. -/
namespace Lp
open PySem PySem.Spec PyProof.Rows L2
theorem if_via {c : TT} {t u : TS} {D : Ends} {σ : L2.St} {H : Hp} (b : Bool) (hq : if b = true then t D σ H else u D σ H) (hc : (if b = true then t D σ H else u D σ H) → tIfS c t u D σ H) : tIfS c t u D σ H := hc hq
theorem insertI_asc {s : Int} : ∀ {l : List Int}, l.Pairwise (· < ·) → (M.insertI s l).Pairwise (· < ·) ∧ ∀ x ∈ M.insertI s l, x = s ∨ x ∈ l
  | [], _ => ⟨List.pairwise_singleton _ _, fun x hx => Or.inl (List.mem_singleton.mp hx)⟩
  | a :: l, h => by
    obtain ⟨h1, h2⟩ := List.pairwise_cons.mp h
    have ⟨i1, i2⟩ := insertI_asc (s := s) h2
    unfold M.insertI
    by_cases e : s < a
    · rw [if_pos e]
      refine ⟨List.pairwise_cons.mpr ⟨fun x hx => ?_, h⟩, fun x hx => ?_⟩
      · rcases List.mem_cons.mp hx with z | z
        · rw [z]; exact e
        · exact Int.lt_trans e (h1 x z)
      · rcases List.mem_cons.mp hx with z | z
        · exact .inl z
        · exact .inr z
    · rw [if_neg e]
      by_cases e2 : s = a
      · rw [if_pos e2]; exact ⟨h, fun x hx => .inr hx⟩
      · rw [if_neg e2]
        refine ⟨List.pairwise_cons.mpr ⟨fun x hx => ?_, i1⟩, fun x hx => ?_⟩
        · rcases i2 x hx with z | z
          · rw [z]; omega
          · exact h1 x z
        · rcases List.mem_cons.mp hx with z | z
          · rw [z]; exact .inr (List.mem_cons_self ..)
          · rcases i2 x z with z | z
            · exact .inl z
            · exact .inr (List.mem_cons_of_mem _ z)
theorem insertI_perm {s : Int} : ∀ {l : List Int}, s ∉ l → (M.insertI s l).Perm (l ++ [s])
  | [], _ => .refl _
  | a :: l, h => by
    unfold M.insertI
    by_cases e : s < a
    · rw [if_pos e]; exact (List.perm_append_comm (l₁ := [s]) (l₂ := a :: l))
    · rw [if_neg e, if_neg fun z : s = a => h (z ▸ List.mem_cons_self ..)]
      exact (insertI_perm fun z => h (List.mem_cons_of_mem _ z)).cons a
theorem insertI_has {s : Int} : ∀ {l : List Int}, l.Pairwise (· < ·) → s ∈ l → M.insertI s l = l
  | a :: l, h, hs => by
    obtain ⟨h1, h2⟩ := List.pairwise_cons.mp h
    unfold M.insertI
    rcases List.mem_cons.mp hs with z | z
    · rw [z, if_neg (Int.lt_irrefl _), if_pos rfl]
    · have := h1 s z
      rw [if_neg (by omega), if_neg (by omega), insertI_has h2 z]
theorem insertI_sorted {s : Int} {l ns : List Int} (h : l.Pairwise (· < ·)) (hs : s ∉ l) (p : ns.Perm (l ++ [s])) (o : ns.Pairwise (· ≤ ·)) : ns = M.insertI s l :=
  List.Perm.eq_of_pairwise (fun a b _ _ x y => Int.le_antisymm x y) o ((insertI_asc h).1.imp fun x => Int.le_of_lt x) (p.trans (insertI_perm hs).symm)
section
variable {P : Program} {w : World} {K : PySem.W.Frag} {mg : Str → Option Value} {base : Heap} {C : Cl}
/-! ### receive_question -/
abbrev s_Member_receive_question : Stmt := inClass (top 20) 20
theorem sc_Member_receive_question : FnScope ["self", "message"] ["self", "message"] (defScope s_Member_receive_question) := ⟨rfl, rfl, rfl, by decide +kernel, rfl, by decide +kernel, by decide +kernel⟩
def R_question : List V → Hp → Cfg → M → M → Prop := fun xs H c m m' => ∃ (g : Addr) (s r t i l : Int), xs = [.ref g] ∧ H g = some (.tup ((M.row s r t (.question i l)).map V.int)) ∧ m.said.length ≤ 10000 ∧ m' = m.hearQuestion s t i l
theorem ok_Member_receive_question {f : Addr} {fd : FuncData} (T : Txt K mg C) (F : Fun K "receive_question" "Member.receive_question" s_Member_receive_question f fd)
    (D_Member_is_sheltered : DfM P w K mg base CX0 1 C.m "is_sheltered" ["self"] (spMb C R_sheltered))
    (D_Member_is_reached_by : DfM P w K mg base CX0 1 C.m "is_reached_by" ["self", "index", "term"] (spMb C R_reached))
    (D_Member_say : DfM P w K mg base CX0 1 C.m "say" ["self", "receiver", "kind", "fields", "term"] (spMt C R_say)) :
    FnOk P w K mg base CX0 2 f fd ["self", "message"] (spMt C R_question) := by
  refine F.ok sc_Member_receive_question (fun vs H Q E h => ?_) (fun cdv A outer s H vs Q E hr h => ?_)
  · obtain ⟨_, _, _, _, _, _, _, _, _, rfl, _, ⟨_, _, _, _, _, _, rfl, _⟩, _⟩ := h
    rfl
  · refine ⟨_, (pss_cons (ps_if (pt_val (pe_mth0 (pv 0) T.cl_m D_Member_is_sheltered (hr.mono (by decide))))
        (pss_one ps_retN)
        pss_nil)
      (pss_one (ps_if (PW.pt (pw_and (pt_cmpR op_gt (pe_ix ix_tup (pv 1) pe_int (fun _ _ => rfl)) (pe_fld (pv 0) rfl) (nomark _)) (pw_and1 (pt_val (pe_mth (pv 0) T.cl_m D_Member_is_reached_by (hr.mono (by decide)) (pa_cons (pe_ix ix_tup (pv 1) pe_int (fun _ _ => rfl)) (pa_cons (pe_ix ix_tup (pv 1) pe_int (fun _ _ => rfl)) pa_nil)))))))
        (pss_one (ps_expr (pe_mth (pv 0) T.cl_m D_Member_say (hr.mono (by decide)) (pa_cons (pe_ix ix_tup (pv 1) pe_int (fun _ _ => rfl)) (pa_cons (pe_const rfl T.k_PRE_VOTE_REPLY) (pa_cons (pe_tup (pa_cons pe_int pa_nil)) (pa_cons (pe_ix ix_tup (pv 1) pe_int (fun _ _ => rfl)) pa_nil)))))))
        (pss_one (ps_expr (pe_mth (pv 0) T.cl_m D_Member_say (hr.mono (by decide)) (pa_cons (pe_ix ix_tup (pv 1) pe_int (fun _ _ => rfl)) (pa_cons (pe_const rfl T.k_PRE_VOTE_REPLY) (pa_cons (pe_tup (pa_cons pe_int pa_nil)) (pa_cons (pe_fld (pv 0) rfl) pa_nil)))))))))), ?_⟩
    obtain ⟨n, w, p, cf, c, m, A, _, _, rfl, h, ⟨g, s, r, t, i, l, rfl, hg, ls, rfl⟩, k⟩ := h
    refine ⟨_, rfl, h.md (by decide +kernel) ⟨n, w, p, cf, c, m, A, _, _, rfl, h, ⟨rfl, rfl⟩, fun H1 s1 => ⟨_, rfl, ?_⟩⟩⟩
    unfold M.hearQuestion at k
    have h := h.same s1
    have hg := s1 _ _ hg
    cases e : m.sheltered with
    | true =>
      rw [e, if_pos rfl] at k
      exact ifT rfl (k _ _ _ h)
    | false =>
      rw [e, if_neg Bool.false_ne_true] at k
      refine ifF rfl ?_
      have no : ∀ {H'}, At C n H w H' w p cf c m A [] → H' g = some (.tup ((M.row s r t (.question i l)).map V.int)) → ¬ (m.term < t ∧ m.reached i l = true) → (tDrop (tMeth C.m "say" (spMt C R_say) [] E0 (tVar 0) (tCons (tOp (rIxT K) (tVar 1) (tC (.int 0))) (tCons (tC (.int 2)) (tCons (tTup (tCons (tC (.int 0)) tNil)) (tCons (tFld K (tVar 0) "term") tNil)))))) { nx := fun _ H' => Q .non H', rt := Q } [some (.ref p), some (.ref g)] H' := by
        intro H' h hg e
        rw [if_neg e] at k
        refine ⟨_, rfl, h.md (by decide +kernel) ⟨_, rfl, g, _, _, _, rfl, rfl, .of hg, rfl, by show 1 ≤ sizeLine; decide, fun q hq => ?_⟩⟩
        have h := h.same (same_upd (o := .tup [.int 0]) hq)
        refine ⟨_, rfl, h.rd T (i := 8) rfl rfl ⟨n, _, p, cf, c, _, A, _, _, rfl, h.here, ⟨s, 2, m.term, q, [0], rfl, upd_same, by show 1 ≤ 100; decide, ls, rfl⟩, fun H2 w2 A2 h2 => ?_⟩⟩
        exact k _ _ _ (h.then h2)
      refine ⟨_, rfl, g, _, _, _, rfl, rfl, .of hg, rfl, _, rfl, h.rd T (i := 8) rfl rfl ⟨_, _, rfl, rfl, _, rfl, ?_⟩⟩
      by_cases e1 : m.term < t
      · refine ifT (decide_eq_true e1) ?_
        refine ⟨_, rfl, h.md (by decide +kernel) ⟨_, rfl, g, _, _, _, rfl, rfl, .of hg, rfl, _, rfl, g, _, _, _, rfl, rfl, .of hg, rfl, ?_⟩⟩
        refine ⟨n, w, p, cf, c, m, A, _, _, rfl, h.here, ⟨i, l, rfl, rfl⟩, fun H2 s2 => ⟨_, rfl, ?_⟩⟩
        have h := h.same s2
        have hg := s2 _ _ hg
        cases e2 : m.reached i l with
        | true =>
          rw [e2, if_pos ⟨e1, rfl⟩] at k
          refine ifT rfl ?_
          refine ⟨_, rfl, h.md (by decide +kernel) ⟨_, rfl, g, _, _, _, rfl, rfl, .of hg, rfl, by show 1 ≤ sizeLine; decide, fun q hq => ?_⟩⟩
          have s3 := same_upd (o := .tup [.int 1]) hq
          have h := h.same s3
          have hg := s3 _ _ hg
          refine ⟨_, rfl, g, _, _, _, rfl, rfl, .of hg, rfl, ?_⟩
          refine ⟨n, _, p, cf, c, _, A, _, _, rfl, h.here, ⟨s, 2, t, q, [1], rfl, upd_same, by show 1 ≤ 100; decide, ls, rfl⟩, fun H2 w2 A2 h2 => ?_⟩
          exact k _ _ _ (h.then h2)
        | false =>
          exact ifF rfl (no h hg fun z => by rw [e2] at z; exact Bool.false_ne_true z.2)
      · exact ifF (decide_eq_false e1) (no h hg fun z => e1 z.1)
/-! ### receive_question_reply -/
abbrev s_Member_receive_question_reply : Stmt := inClass (top 20) 21
theorem sc_Member_receive_question_reply : FnScope ["self", "message"] ["self", "message"] (defScope s_Member_receive_question_reply) := ⟨rfl, rfl, rfl, by decide +kernel, rfl, by decide +kernel, by decide +kernel⟩
def R_answer : List V → Hp → Cfg → M → M → Prop := fun xs H c m m' => ∃ (g : Addr) (s r t y : Int), xs = [.ref g] ∧ H g = some (.tup ((M.row s r t (.answer y)).map V.int)) ∧ CfgOk c ∧ Bd m ∧ m' = m.hearAnswer c s t y
theorem ok_Member_receive_question_reply {f : Addr} {fd : FuncData} (T : Txt K mg C) (F : Fun K "receive_question_reply" "Member.receive_question_reply" s_Member_receive_question_reply f fd)
    (D_Member_count : DfM P w K mg base CX0 5 C.m "count" ["self", "number", "is_yes"] (spMt C R_count))
    (D_Member_join : DfM P w K mg base CX0 2 C.m "join" ["self", "term", "leader"] (spMt C R_join)) :
    FnOk P w K mg base CX0 6 f fd ["self", "message"] (spMt C R_answer) := by
  refine F.ok sc_Member_receive_question_reply (fun vs H Q E h => ?_) (fun cdv A outer s H vs Q E hr h => ?_)
  · obtain ⟨_, _, _, _, _, _, _, _, _, rfl, _, ⟨_, _, _, _, _, rfl, _⟩, _⟩ := h
    rfl
  · refine ⟨_, (pss_one (ps_if (pt_cmpR op_eq (pe_ix ix_tup (pv 1) pe_int (fun _ _ => rfl)) pe_int (nomark _))
        (pss_one (ps_if (PW.pt (pw_and (pt_cmpR op_eq (pe_fld (pv 0) rfl) (pe_const rfl T.k_ASKING) (nomark _)) (pw_and1 (pt_cmpR op_eq (pe_ix ix_tup (pv 1) pe_int (fun _ _ => rfl)) (pe_op op_add (pe_fld (pv 0) rfl) pe_int) (nomark _)))))
        (pss_one (ps_expr (pe_mth (pv 0) T.cl_m D_Member_count (hr.mono (by decide)) (pa_cons (pe_ix ix_tup (pv 1) pe_int (fun _ _ => rfl)) (pa_cons pe_bl pa_nil)))))
        pss_nil))
        (pss_one (ps_if (pt_cmpR op_gt (pe_ix ix_tup (pv 1) pe_int (fun _ _ => rfl)) (pe_fld (pv 0) rfl) (nomark _))
        (pss_one (ps_expr (pe_mth (pv 0) T.cl_m D_Member_join (hr.mono (by decide)) (pa_cons (pe_ix ix_tup (pv 1) pe_int (fun _ _ => rfl)) (pa_cons pe_int pa_nil)))))
        (pss_one (ps_if (pt_cmpR op_eq (pe_fld (pv 0) rfl) (pe_const rfl T.k_ASKING) (nomark _))
        (pss_one (ps_expr (pe_mth (pv 0) T.cl_m D_Member_count (hr.mono (by decide)) (pa_cons (pe_ix ix_tup (pv 1) pe_int (fun _ _ => rfl)) (pa_cons pe_bl pa_nil)))))
        pss_nil)))))), ?_⟩
    obtain ⟨n, w, p, cf, c, m, A, _, _, rfl, h, ⟨g, s, r, t, y, rfl, hg, hc, hb, rfl⟩, k⟩ := h
    have p1 := hb.said; have p2 := hb.elections; have p3 := hb.ballot
    unfold M.hearAnswer at k
    refine ⟨_, rfl, g, _, _, _, rfl, rfl, .of hg, rfl, rfl, _, rfl, ?_⟩
    rw [vint_eq]
    by_cases e : y = 1
    · rw [if_pos e] at k
      refine ifT (decide_eq_true e) ?_
      refine ⟨_, rfl, h.rd T (i := 10) rfl rfl ⟨rfl, _, rfl, ?_⟩⟩
      rw [vint_eq]
      by_cases e1 : m.role = 1
      · refine ifT (decide_eq_true e1) ?_
        refine ⟨_, rfl, g, _, _, _, rfl, rfl, .of hg, rfl, _, rfl, h.rd T (i := 8) rfl rfl ⟨_, _, rfl, rfl, rfl, _, rfl, ?_⟩⟩
        rw [vint_eq]
        by_cases e2 : t = m.term + 1
        · rw [if_pos ⟨e1, e2⟩] at k
          refine ifT (decide_eq_true e2) ?_
          refine ⟨_, rfl, h.md (by decide +kernel) ⟨_, rfl, g, _, _, _, rfl, rfl, .of hg, rfl, ?_⟩⟩
          refine ⟨n, _, p, cf, c, _, A, _, _, rfl, h.here, ⟨s, true, rfl, hc, by omega, by omega, by omega, rfl⟩, fun H2 w2 A2 h2 => ?_⟩
          exact k _ _ _ (h.then h2)
        · rw [if_neg fun z => e2 z.2] at k
          exact ifF (decide_eq_false e2) (k _ _ _ h)
      · rw [if_neg fun z => e1 z.1] at k
        exact ifF (decide_eq_false e1) (k _ _ _ h)
    · rw [if_neg e] at k
      refine ifF (decide_eq_false e) ?_
      refine ⟨_, rfl, g, _, _, _, rfl, rfl, .of hg, rfl, _, rfl, h.rd T (i := 8) rfl rfl ⟨_, _, rfl, rfl, _, rfl, ?_⟩⟩
      by_cases e1 : m.term < t
      · rw [if_pos e1] at k
        refine ifT (decide_eq_true e1) ?_
        refine ⟨_, rfl, h.md (by decide +kernel) ⟨_, rfl, g, _, _, _, rfl, rfl, .of hg, rfl, ?_⟩⟩
        refine ⟨n, _, p, cf, c, _, A, _, _, rfl, h.here, ⟨t, 0, rfl, rfl⟩, fun H2 w2 A2 h2 => ?_⟩
        exact k _ _ _ (h.then h2)
      · rw [if_neg e1] at k
        refine ifF (decide_eq_false e1) ?_
        refine ⟨_, rfl, h.rd T (i := 10) rfl rfl ⟨rfl, _, rfl, ?_⟩⟩
        rw [vint_eq]
        by_cases e2 : m.role = 1
        · rw [if_pos e2] at k
          refine ifT (decide_eq_true e2) ?_
          refine ⟨_, rfl, h.md (by decide +kernel) ⟨_, rfl, g, _, _, _, rfl, rfl, .of hg, rfl, ?_⟩⟩
          refine ⟨n, _, p, cf, c, _, A, _, _, rfl, h.here, ⟨s, false, rfl, hc, by omega, by omega, by omega, rfl⟩, fun H2 w2 A2 h2 => ?_⟩
          exact k _ _ _ (h.then h2)
        · rw [if_neg e2] at k
          exact ifF (decide_eq_false e2) (k _ _ _ h)
/-! ### receive_vote -/
abbrev s_Member_receive_vote : Stmt := inClass (top 20) 22
theorem sc_Member_receive_vote : FnScope ["self", "message", "sender", "receiver", "term", "kind", "index", "last", "handover", "granted"] ["self", "message"] (defScope s_Member_receive_vote) := ⟨rfl, rfl, rfl, by decide +kernel, rfl, by decide +kernel, by decide +kernel⟩
def R_vote : List V → Hp → Cfg → M → M → Prop := fun xs H c m m' => ∃ (g : Addr) (s r t i l d : Int), xs = [.ref g] ∧ H g = some (.tup ((M.row s r t (.vote i l d)).map V.int)) ∧ m.said.length ≤ 10000 ∧ m' = m.hearVote s t i l d
theorem ok_Member_receive_vote {f : Addr} {fd : FuncData} (T : Txt K mg C) (F : Fun K "receive_vote" "Member.receive_vote" s_Member_receive_vote f fd)
    (D_Member_is_sheltered : DfM P w K mg base CX0 1 C.m "is_sheltered" ["self"] (spMb C R_sheltered))
    (D_Member_is_reached_by : DfM P w K mg base CX0 1 C.m "is_reached_by" ["self", "index", "term"] (spMb C R_reached))
    (D_Member_join : DfM P w K mg base CX0 2 C.m "join" ["self", "term", "leader"] (spMt C R_join))
    (D_Member_follow : DfM P w K mg base CX0 1 C.m "follow" ["self", "leader"] (spMt C R_follow))
    (D_Member_say : DfM P w K mg base CX0 1 C.m "say" ["self", "receiver", "kind", "fields", "term"] (spMt C R_say)) :
    FnOk P w K mg base CX0 3 f fd ["self", "message"] (spMt C R_vote) := by
  refine F.ok sc_Member_receive_vote (fun vs H Q E h => ?_) (fun cdv A outer s H vs Q E hr h => ?_)
  · obtain ⟨_, _, _, _, _, _, _, _, _, rfl, _, ⟨_, _, _, _, _, _, _, rfl, _⟩, _⟩ := h
    rfl
  · refine ⟨_, (pss_cons (ps_asg (pv 1) (pg_tup rfl (pgs_cons (pg_name (i := 2) sc_Member_receive_vote.nd rfl (Or.inl rfl)) (pgs_cons (pg_name (i := 3) sc_Member_receive_vote.nd rfl (Or.inl rfl)) (pgs_cons (pg_name (i := 4) sc_Member_receive_vote.nd rfl (Or.inl rfl)) (pgs_cons (pg_name (i := 5) sc_Member_receive_vote.nd rfl (Or.inl rfl)) (pgs_cons (pg_name (i := 6) sc_Member_receive_vote.nd rfl (Or.inl rfl)) (pgs_cons (pg_name (i := 7) sc_Member_receive_vote.nd rfl (Or.inl rfl)) (pgs_cons (pg_name (i := 8) sc_Member_receive_vote.nd rfl (Or.inl rfl)) pgs_nil)))))))))
      (pss_cons (ps_if (pt_cmpR op_gt (pv 4) (pe_fld (pv 0) rfl) (nomark _))
        (pss_cons (ps_if (PW.pt (pw_and (pt_cmpR op_eq (pv 8) pe_int (nomark _)) (pw_and1 (pt_val (pe_mth0 (pv 0) T.cl_m D_Member_is_sheltered (hr.mono (by decide)))))))
        (pss_one ps_retN)
        pss_nil)
      (pss_one (ps_expr (pe_mth (pv 0) T.cl_m D_Member_join (hr.mono (by decide)) (pa_cons (pv 4) (pa_cons pe_int pa_nil))))))
        pss_nil)
      (pss_cons (ps_set (i := 9) sc_Member_receive_vote.nd rfl (Or.inl rfl) pe_int)
      (pss_cons (ps_if (PW.pt (pw_and (pt_cmpR op_eq (pv 4) (pe_fld (pv 0) rfl) (nomark _)) (pw_and1 (pt_val (pe_mth (pv 0) T.cl_m D_Member_is_reached_by (hr.mono (by decide)) (pa_cons (pv 6) (pa_cons (pv 7) pa_nil)))))))
        (pss_one (ps_if (PW.pt (pw_or (pt_cmpR op_eq (pe_fld (pv 0) rfl) (pv 2) (nomark _)) (pw_or1 (PW.pt (pw_and (pt_cmpR op_eq (pe_fld (pv 0) rfl) pe_int (nomark _)) (pw_and1 (pt_cmpR op_eq (pe_fld (pv 0) rfl) pe_int (nomark _))))))))
        (pss_cons (ps_set (i := 9) sc_Member_receive_vote.nd rfl (Or.inl rfl) pe_int)
      (pss_cons (ps_fld (pv 0) (pv 2) rfl)
      (pss_one (ps_expr (pe_mth (pv 0) T.cl_m D_Member_follow (hr.mono (by decide)) (pa_cons (pe_fld (pv 0) rfl) pa_nil))))))
        pss_nil))
        pss_nil)
      (pss_one (ps_expr (pe_mth (pv 0) T.cl_m D_Member_say (hr.mono (by decide)) (pa_cons (pv 2) (pa_cons (pe_const rfl T.k_VOTE_REPLY) (pa_cons (pe_tup (pa_cons (pv 9) pa_nil)) (pa_cons (pe_fld (pv 0) rfl) pa_nil))))))))))), ?_⟩
    obtain ⟨n, w, p, cf, c, m, A, _, _, rfl, h, ⟨g, s, r, t, i, l, d, rfl, hg, ls, rfl⟩, k⟩ := h
    refine ⟨_, rfl, g, _, rfl, .of hg, rfl, _, _, rfl, _, _, rfl, _, _, rfl, _, _, rfl, _, _, rfl, _, _, rfl, _, _, rfl, rfl, ?_⟩
    dsimp only
    refine seq_via (fun σ' H' => ∃ w' A' u, σ' = [some (.ref p), some (.ref g), some (.int s), some (.int r), some (.int t), some (.int 3), some (.int i), some (.int l), some (.int d), none] ∧ At C n H w H' w' p cf c u A' [] ∧ u.said.length ≤ 10000 ∧ (∀ H' w' A', At C n H w H' w' p cf c (u.grant s t i l) A' [] → Q .non H')) ?_ fun go => ?_
    · rintro σ' H4 ⟨w4, A4, u, rfl, h, ls, k⟩
      unfold M.grant at k
      dsimp only [tSeq, tAsg]
      show tSeq _ _ _ _ _
      refine seq_via (fun σ' H' => ∃ w' A' v y, σ' = [some (.ref p), some (.ref g), some (.int s), some (.int r), some (.int t), some (.int 3), some (.int i), some (.int l), some (.int d), some (.int y)] ∧ At C n H w H' w' p cf c v A' [] ∧ v.said.length ≤ 10000 ∧ (∀ H' w' A', At C n H w H' w' p cf c (v.say s 4 [y] v.term) A' [] → Q .non H')) ?_ fun go => ?_
      · rintro σ' H5 ⟨w5, A5, v, y, rfl, h, ls, k⟩
        refine ⟨_, rfl, h.md (by decide +kernel) ⟨_, rfl, _, rfl, by show 1 ≤ sizeLine; decide, fun q hq => ?_⟩⟩
        have h := h.same (same_upd (o := .tup [.int y]) hq)
        refine ⟨_, rfl, h.rd T (i := 8) rfl rfl ⟨n, _, p, cf, c, _, A5, _, _, rfl, h.here, ⟨s, 4, v.term, q, [y], rfl, upd_same, by show 1 ≤ 100; decide, ls, rfl⟩, fun H2 w2 A2 h2 => ?_⟩⟩
        exact k _ _ _ (h.then h2)
      · refine ⟨_, rfl, _, rfl, h.rd T (i := 8) rfl rfl ⟨rfl, _, rfl, ?_⟩⟩
        rw [vint_eq]
        by_cases e1 : t = u.term
        · refine ifT (decide_eq_true e1) ?_
          refine ⟨_, rfl, h.md (by decide +kernel) ⟨_, rfl, _, rfl, ?_⟩⟩
          refine ⟨n, _, p, cf, c, u, _, _, _, rfl, h.here, ⟨i, l, rfl, rfl⟩, fun H2 s2 => ⟨_, rfl, ?_⟩⟩
          have h := h.same s2
          cases e2 : u.reached i l with
          | true =>
            rw [e2, if_pos ⟨e1, rfl⟩] at k
            refine ifT rfl ?_
            refine if_via (decide (u.vote = s ∨ (u.vote = 0 ∧ u.leader = 0))) ?_ fun fin => ?_
            · by_cases e3 : u.vote = s ∨ (u.vote = 0 ∧ u.leader = 0)
              · rw [if_pos e3] at k
                refine ifT (decide_eq_true e3) ?_
                refine ⟨_, rfl, _, rfl, h.st T { u with vote := s } (i := 9) rfl rfl h.parts h.nm fun H3 h => ?_⟩
                refine ⟨_, rfl, h.md (by decide +kernel) ⟨_, rfl, h.rd T (i := 11) rfl rfl ⟨n, _, p, cf, c, _, _, _, _, rfl, h.here, ⟨_, rfl, rfl⟩, fun H2 w2 A2 h2 => ?_⟩⟩⟩
                exact go _ _ ⟨_, _, _, _, rfl, h.then h2, ls, k⟩
              · rw [if_neg e3] at k
                exact ifF (decide_eq_false e3) (go _ _ ⟨_, _, _, _, rfl, h, ls, k⟩)
            · refine ⟨_, rfl, h.rd T (i := 9) rfl rfl ⟨_, rfl, rfl, _, rfl, ?_⟩⟩
              rw [vint_eq]
              by_cases e3 : u.vote = s
              · rw [decide_eq_true (Or.inl e3)] at fin
                exact ifT (decide_eq_true e3) fin
              · refine ifF (decide_eq_false e3) ?_
                refine ⟨_, rfl, h.rd T (i := 9) rfl rfl ⟨rfl, _, rfl, ?_⟩⟩
                rw [vint_eq]
                by_cases e4 : u.vote = 0
                · refine ifT (decide_eq_true e4) ?_
                  refine ⟨_, rfl, h.rd T (i := 11) rfl rfl ⟨rfl, _, rfl, ?_⟩⟩
                  rw [vint_eq]
                  rw [show decide (u.vote = s ∨ (u.vote = 0 ∧ u.leader = 0)) = decide (u.leader = 0) from decide_eq_decide.mpr ⟨fun z => z.elim (fun z => absurd z e3) fun z => z.2, fun z => .inr ⟨e4, z⟩⟩] at fin
                  exact fin
                · rw [decide_eq_false fun z : u.vote = s ∨ (u.vote = 0 ∧ u.leader = 0) => z.elim e3 fun z => e4 z.1] at fin
                  exact ifF (decide_eq_false e4) fin
          | false =>
            rw [e2, if_neg fun z => Bool.false_ne_true z.2] at k
            exact ifF rfl (go _ _ ⟨_, _, _, _, rfl, h, ls, k⟩)
        · rw [if_neg fun z => e1 z.1] at k
          exact ifF (decide_eq_false e1) (go _ _ ⟨_, _, _, _, rfl, h, ls, k⟩)
    · unfold M.hearVote at k
      refine ⟨_, rfl, _, rfl, h.rd T (i := 8) rfl rfl ⟨_, _, rfl, rfl, _, rfl, ?_⟩⟩
      by_cases e : m.term < t
      · rw [if_pos e] at k
        refine ifT (decide_eq_true e) ?_
        have join : ∀ {H'} {Q' : Hp → Prop}, At C n H w H' w p cf c m A [] → ¬ (d = 0 ∧ m.sheltered = true) → (∀ H' w' A', At C n H w H' w' p cf c (m.join t 0) A' [] → Q' H') → tMeth C.m "join" (spMt C R_join) [] E0 (tVar 0) (tCons (tVar 4) (tCons (tC (.int 0)) tNil)) [some (.ref p), some (.ref g), some (.int s), some (.int r), some (.int t), some (.int 3), some (.int i), some (.int l), some (.int d), none] H' (fun _ H' => Q' H') := by
          intro H' Q' h e go
          refine ⟨_, rfl, h.md (by decide +kernel) ⟨_, rfl, n, _, p, cf, c, _, _, _, _, rfl, h.here, ⟨t, 0, rfl, rfl⟩, fun H2 w2 A2 h2 => ?_⟩⟩
          exact go _ _ _ (h.then h2)
        have goj : ∀ {H1 w1 A1}, At C n H w H1 w1 p cf c (m.join t 0) A1 [] → ¬ (d = 0 ∧ m.sheltered = true) → _ := fun {H1 w1 A1} h e => go _ H1 ⟨w1, A1, _, rfl, h, ls, by rw [if_neg e] at k; exact k⟩
        refine ⟨_, rfl, rfl, _, rfl, ?_⟩
        rw [vint_eq]
        by_cases e1 : d = 0
        · refine ifT (decide_eq_true e1) ?_
          refine ⟨_, rfl, h.md (by decide +kernel) ⟨n, w, p, cf, c, m, A, _, _, rfl, h.here, ⟨rfl, rfl⟩, fun H1 s1 => ⟨_, rfl, ?_⟩⟩⟩
          have h := h.same s1
          cases e2 : m.sheltered with
          | true =>
            rw [e2, if_pos ⟨e1, rfl⟩] at k
            exact ifT rfl (k _ _ _ h)
          | false =>
            have ne : ¬ (d = 0 ∧ m.sheltered = true) := fun z => by rw [e2] at z; exact Bool.false_ne_true z.2
            exact ifF rfl (join h ne fun _ _ _ h => goj h ne)
        · have ne : ¬ (d = 0 ∧ m.sheltered = true) := fun z => e1 z.1
          exact ifF (decide_eq_false e1) (join h ne fun _ _ _ h => goj h ne)
      · rw [if_neg e] at k
        exact ifF (decide_eq_false e) (go _ _ ⟨_, _, _, rfl, h, ls, k⟩)
end
end Lp
/-! Part M6: messages that arrive, all of them. -/
namespace Lp
open PySem PySem.Spec PyProof.Rows L2
theorem kind_one {b : M.B} (h : b.kind = 1) : ∃ i l, b = .question i l := by
  cases b with
  | question i l => exact ⟨i, l, rfl⟩
  | _ => simp [M.B.kind] at h
theorem kind_two {b : M.B} (h : b.kind = 2) : ∃ g, b = .answer g := by
  cases b with
  | answer g => exact ⟨g, rfl⟩
  | _ => simp [M.B.kind] at h
theorem kind_three {b : M.B} (h : b.kind = 3) : ∃ i l d, b = .vote i l d := by
  cases b with
  | vote i l d => exact ⟨i, l, d, rfl⟩
  | _ => simp [M.B.kind] at h
theorem kind_rest {b : M.B} (h1 : ¬ b.kind = 1) (h2 : ¬ b.kind = 2) (h3 : ¬ b.kind = 3) (c : Cfg) (m : M) (s t : Int) : b.kind ∈ [(4 : Int), 5, 6, 9] ∧ m.heard c s t b = m.hearOther c s t b := by
  cases b with
  | question i l => exact absurd rfl h1
  | answer g => exact absurd rfl h2
  | vote i l d => exact absurd rfl h3
  | reply g => exact ⟨(by decide : (4 : Int) ∈ _), rfl⟩
  | beat => exact ⟨(by decide : (5 : Int) ∈ _), rfl⟩
  | beatReply a => exact ⟨(by decide : (6 : Int) ∈ _), rfl⟩
  | now => exact ⟨(by decide : (9 : Int) ∈ _), rfl⟩
theorem row_s (s r t : Int) (b : M.B) : atI ((M.row s r t b).map V.int) 0 = some (.int s) := atI_nat (j := 0) rfl
theorem row_r (s r t : Int) (b : M.B) : atI ((M.row s r t b).map V.int) 1 = some (.int r) := atI_nat (j := 1) rfl
theorem row_t (s r t : Int) (b : M.B) : atI ((M.row s r t b).map V.int) 2 = some (.int t) := atI_nat (j := 2) rfl
theorem row_k (s r t : Int) (b : M.B) : atI ((M.row s r t b).map V.int) 3 = some (.int b.kind) := atI_nat (j := 3) rfl
section
variable {P : Program} {w : World} {K : PySem.W.Frag} {mg : Str → Option Value} {base : Heap} {C : Cl}
/-! ### receive_other -/
abbrev s_Member_receive_other : Stmt := inClass (top 20) 23
theorem sc_Member_receive_other : FnScope ["self", "message", "sender", "term", "kind"] ["self", "message"] (defScope s_Member_receive_other) := ⟨rfl, rfl, rfl, by decide +kernel, rfl, by decide +kernel, by decide +kernel⟩
def R_other : List V → Hp → Cfg → M → M → Prop := fun xs H c m m' => ∃ (g : Addr) (s r t : Int) (b : M.B), xs = [.ref g] ∧ H g = some (.tup ((M.row s r t b).map V.int)) ∧ b.kind ∈ [(4 : Int), 5, 6, 9] ∧ CfgOk c ∧ Bd m ∧ m.active.Pairwise (· < ·) ∧ m' = m.hearOther c s t b
theorem ok_Member_receive_other {f : Addr} {fd : FuncData} (T : Txt K mg C) (F : Fun K "receive_other" "Member.receive_other" s_Member_receive_other f fd)
    (D_Member_begin_vote : DfM P w K mg base CX0 3 C.m "begin_vote" ["self", "handover"] (spMt C R_beginVote))
    (D_Member_count : DfM P w K mg base CX0 5 C.m "count" ["self", "number", "is_yes"] (spMt C R_count))
    (D_Member_join : DfM P w K mg base CX0 2 C.m "join" ["self", "term", "leader"] (spMt C R_join))
    (D_Member_say : DfM P w K mg base CX0 1 C.m "say" ["self", "receiver", "kind", "fields", "term"] (spMt C R_say)) :
    FnOk P w K mg base CX0 6 f fd ["self", "message"] (spMt C R_other) := by
  refine F.ok sc_Member_receive_other (fun vs H Q E h => ?_) (fun cdv A outer s H vs Q E hr h => ?_)
  · obtain ⟨_, _, _, _, _, _, _, _, _, rfl, _, ⟨_, _, _, _, _, rfl, _⟩, _⟩ := h
    rfl
  · refine ⟨_, (pss_cons (ps_par3 (i := 2) (j := 3) (l := 4) (by rfl) sc_Member_receive_other.nd rfl rfl rfl (by decide) (by decide) (by decide) rfl rfl rfl (pa_cons (pe_ix ix_tup (pv 1) pe_int (fun _ _ => rfl)) (pa_cons (pe_ix ix_tup (pv 1) pe_int (fun _ _ => rfl)) (pa_cons (pe_ix ix_tup (pv 1) pe_int (fun _ _ => rfl)) pa_nil))) (by rfl))
      (pss_cons (ps_if (pt_cmpR op_lt (pv 3) (pe_fld (pv 0) rfl) (nomark _))
        (pss_cons (ps_if (pt_cmpR op_eq (pv 4) (pe_const rfl T.k_HEARTBEAT) (nomark _))
        (pss_one (ps_expr (pe_mth (pv 0) T.cl_m D_Member_say (hr.mono (by decide)) (pa_cons (pv 2) (pa_cons (pe_const rfl T.k_HEARTBEAT_REPLY) (pa_cons (pe_tup (pa_cons pe_int pa_nil)) (pa_cons (pe_fld (pv 0) rfl) pa_nil)))))))
        pss_nil)
      (pss_one ps_retN))
        pss_nil)
      (pss_cons (ps_if (pt_cmpR op_in_seq (pv 4) (pe_tup (pa_cons (pe_const rfl T.k_HEARTBEAT) (pa_cons (pe_const rfl T.k_CAMPAIGN_NOW) pa_nil))) (by rfl))
        (pss_one (ps_expr (pe_mth (pv 0) T.cl_m D_Member_join (hr.mono (by decide)) (pa_cons (pv 3) (pa_cons (pv 2) pa_nil)))))
        (pss_one (ps_if (pt_cmpR op_gt (pv 3) (pe_fld (pv 0) rfl) (nomark _))
        (pss_one (ps_expr (pe_mth (pv 0) T.cl_m D_Member_join (hr.mono (by decide)) (pa_cons (pv 3) (pa_cons pe_int pa_nil)))))
        pss_nil)))
      (pss_one (ps_if (pt_cmpR op_eq (pv 4) (pe_const rfl T.k_HEARTBEAT) (nomark _))
        (pss_one (ps_expr (pe_mth (pv 0) T.cl_m D_Member_say (hr.mono (by decide)) (pa_cons (pv 2) (pa_cons (pe_const rfl T.k_HEARTBEAT_REPLY) (pa_cons (pe_tup (pa_cons pe_int pa_nil)) (pa_cons (pe_fld (pv 0) rfl) pa_nil)))))))
        (pss_one (ps_if (pt_cmpR op_eq (pv 4) (pe_const rfl T.k_CAMPAIGN_NOW) (nomark _))
        (pss_one (ps_expr (pe_mth (pv 0) T.cl_m D_Member_begin_vote (hr.mono (by decide)) (pa_cons pe_int pa_nil))))
        (pss_one (ps_if (pt_cmpR op_eq (pv 4) (pe_const rfl T.k_HEARTBEAT_REPLY) (nomark _))
        (pss_one (ps_if (PW.pt (pw_and (pt_cmpR op_eq (pe_fld (pv 0) rfl) (pe_const rfl T.k_LEADER) (nomark _)) (pw_and1 (pt_cmpR op_notIn_seq (pv 2) (pe_fld (pv 0) rfl) (by rfl)))))
        (pss_one (ps_fld (pv 0) (pe_callB cr_sortedI (by rfl) T.b_sorted boot_sorted (pa_cons (pe_op op_cat (pe_fld (pv 0) rfl) (pe_lst (pa_cons (pv 2) pa_nil))) pa_nil)) rfl))
        pss_nil))
        (pss_one (ps_if (pt_cmpR op_eq (pe_fld (pv 0) rfl) (pe_const rfl T.k_CANDIDATE) (nomark _))
        (pss_one (ps_expr (pe_mth (pv 0) T.cl_m D_Member_count (hr.mono (by decide)) (pa_cons (pv 2) (pa_cons (pe_cmpR op_eq (pe_ix ix_tup (pv 1) pe_int (fun _ _ => rfl)) pe_int (nomark _)) pa_nil)))))
        pss_nil))))))))))), ?_⟩
    obtain ⟨n, w, p, cf, c, m, A, _, _, rfl, h, ⟨g, s, r, t, b, rfl, hg0, hk, hc, hb, asc, rfl⟩, k⟩ := h
    have hw0 : w g = none := h.ok.notup _ _ hg0
    refine ⟨_, rfl, g, _, _, _, rfl, rfl, .of hg0, row_s .., _, rfl, g, _, _, _, rfl, rfl, .of hg0, row_t .., _, rfl, g, _, _, _, rfl, rfl, .of hg0, row_k .., _, _, _, rfl, ?_⟩
    unfold M.hearOther at k
    refine ⟨_, rfl, _, rfl, h.rd T (i := 8) rfl rfl ⟨_, _, rfl, rfl, _, rfl, ?_⟩⟩
    by_cases e : t < m.term
    · rw [if_pos e] at k
      refine ifT (decide_eq_true e) ?_
      refine ⟨_, rfl, rfl, _, rfl, ?_⟩
      rw [vint_eq]
      by_cases e1 : b.kind = 5
      · rw [if_pos e1] at k
        refine ifT (decide_eq_true e1) ?_
        refine ⟨_, rfl, h.md (by decide +kernel) ⟨_, rfl, by show 1 ≤ sizeLine; decide, fun q hq => ?_⟩⟩
        have h := h.same (same_upd (o := .tup [.int 0]) hq)
        refine ⟨_, rfl, h.rd T (i := 8) rfl rfl ⟨n, _, p, cf, c, _, A, _, _, rfl, h.here, ⟨s, 6, m.term, q, [0], rfl, upd_same, by show 1 ≤ 100; decide, Nat.le_trans hb.said (by decide), rfl⟩, fun H2 w2 A2 h2 => ?_⟩⟩
        exact k _ _ _ (h.then h2)
      · rw [if_neg e1] at k
        exact ifF (decide_eq_false e1) (k _ _ _ h)
    · rw [if_neg e] at k
      refine ifF (decide_eq_false e) ?_
      dsimp only [tNext]
      refine seq_via (fun σ' H' => ∃ w' A' u, σ' = [some (.ref p), some (.ref g), some (.int s), some (.int t), some (.int b.kind)] ∧ At C n H w H' w' p cf c u A' [] ∧ u.said.length ≤ 3000 ∧ u.elections.length ≤ 3000 ∧ u.ballot.length ≤ 4000000 ∧ u.active.length ≤ 4000000 ∧ u.active.Pairwise (· < ·) ∧ (∀ H' w' A', At C n H w H' w' p cf c (u.hearCurrent c s b) A' [] → Q .non H')) ?_ fun go => ?_
      · rintro σ' H4 ⟨w4, A4, u, rfl, h, ls, le, lb, la, asc, k⟩
        have hg := h.arg hg0 hw0
        refine ⟨_, rfl, rfl, _, rfl, ?_⟩
        rw [vint_eq]
        by_cases e5 : b.kind = 5
        · refine ifT (decide_eq_true e5) ?_
          refine ⟨_, rfl, h.md (by decide +kernel) ⟨_, rfl, by show 1 ≤ sizeLine; decide, fun q hq => ?_⟩⟩
          have h := h.same (same_upd (o := .tup [.int 1]) hq)
          refine ⟨_, rfl, h.rd T (i := 8) rfl rfl ⟨n, _, p, cf, c, _, _, _, _, rfl, h.here, ⟨s, 6, u.term, q, [1], rfl, upd_same, by show 1 ≤ 100; decide, Nat.le_trans ls (by decide), rfl⟩, fun H2 w2 A2 h2 => ?_⟩⟩
          refine k _ w2 A2 ?_
          have e6 : u.hearCurrent c s b = u.say s 6 [1] u.term := by
            cases b with
            | beat => rfl
            | _ => simp [M.B.kind] at e5
          rw [e6]
          exact h.then h2
        refine ifF (decide_eq_false e5) ?_
        refine ⟨_, rfl, rfl, _, rfl, ?_⟩
        rw [vint_eq]
        by_cases e9 : b.kind = 9
        · refine ifT (decide_eq_true e9) ?_
          refine ⟨_, rfl, h.md (by decide +kernel) ⟨n, _, p, cf, c, _, _, _, _, rfl, h.here, ⟨1, rfl, hc, Nat.le_trans ls (by decide), rfl⟩, fun H2 w2 A2 h2 => ?_⟩⟩
          refine k _ w2 A2 ?_
          have e6 : u.hearCurrent c s b = u.beginVote c 1 := by
            cases b with
            | now => rfl
            | _ => simp [M.B.kind] at e9
          rw [e6]
          exact h.then h2
        refine ifF (decide_eq_false e9) ?_
        refine ⟨_, rfl, rfl, _, rfl, ?_⟩
        rw [vint_eq]
        by_cases e7 : b.kind = 6
        · refine ifT (decide_eq_true e7) ?_
          have e6 : u.hearCurrent c s b = u.activate s := by
            cases b with
            | beatReply a => rfl
            | _ => simp [M.B.kind] at e7
          rw [e6] at k
          unfold M.activate at k
          refine ⟨_, rfl, h.rd T (i := 10) rfl rfl ⟨rfl, _, rfl, ?_⟩⟩
          rw [vint_eq]
          by_cases e3 : u.role = 3
          · rw [if_pos e3] at k
            refine ifT (decide_eq_true e3) ?_
            obtain ⟨as, has, ras⟩ := h.act_l.lst
            have eas := pr_ints ras
            subst eas
            refine ⟨_, rfl, _, rfl, h.rd T (i := 15) rfl rfl (notin_ints (.of has) ⟨_, rfl, ?_⟩)⟩
            cases e8 : u.active.contains s with
            | true =>
              rw [insertI_has asc (List.contains_iff_mem.mp e8)] at k
              exact ifF rfl (k _ _ _ h)
            | false =>
              have ns : s ∉ u.active := fun z => by rw [List.contains_iff_mem.mpr z] at e8; cases e8
              refine ifT rfl ?_
              refine ⟨_, rfl, h.rd T (i := 15) rfl rfl ⟨_, rfl, by show 1 ≤ sizeLine; decide, fun q hq => ?_⟩⟩
              have h1 := h.alloc (o := .lst [.int s]) hq
              have s1 := same_upd (o := .lst [.int s]) hq
              refine ⟨A4.act, q, _, _, rfl, rfl, s1 _ _ has, upd_same, by rw [List.length_map, sizeLine_is]; show _ + 1 ≤ _; omega, fun q2 hq2 => ?_⟩
              have h2 := h1.alloc (o := .lst (u.active.map V.int ++ [.int s])) hq2
              refine ⟨q2, u.active ++ [s], rfl, .of (by rw [upd_same, List.map_append]; rfl), fun ns' q3 pe po hq3 => ?_⟩
              have h3 := h2.alloc (o := .lst (ns'.map V.int)) hq3
              refine ⟨_, rfl, h3.act_st T (xs := ns') (pr_of_ints ns') fun H5 w5 h5 => ?_⟩
              rw [insertI_sorted asc ns pe po] at h5
              exact k _ _ _ h5.tail.tail
          · rw [if_neg e3] at k
            exact ifF (decide_eq_false e3) (k _ _ _ h)
        refine ifF (decide_eq_false e7) ?_
        have e4 : ∃ y, b = .reply y := by
          cases b with
          | reply y => exact ⟨y, rfl⟩
          | beat => exact absurd rfl e5
          | now => exact absurd rfl e9
          | beatReply a => exact absurd rfl e7
          | question i l => exact absurd hk (by show ¬ (1 : Int) ∈ _; decide)
          | answer g => exact absurd hk (by show ¬ (2 : Int) ∈ _; decide)
          | vote i l d => exact absurd hk (by show ¬ (3 : Int) ∈ _; decide)
        obtain ⟨y, rfl⟩ := e4
        refine ⟨_, rfl, h.rd T (i := 10) rfl rfl ⟨rfl, _, rfl, ?_⟩⟩
        rw [vint_eq]
        by_cases e3 : u.role = 2
        · refine ifT (decide_eq_true e3) ?_
          refine ⟨_, rfl, h.md (by decide +kernel) ⟨_, rfl, _, rfl, g, _, _, _, rfl, rfl, .of hg, rfl, rfl, ?_⟩⟩
          rw [vint_eq]
          refine ⟨n, _, p, cf, c, _, _, _, _, rfl, h.here, ⟨s, _, rfl, hc, by omega, by omega, by omega, rfl⟩, fun H2 w2 A2 h2 => ?_⟩
          refine k _ w2 A2 ?_
          rw [show u.hearCurrent c s (.reply y) = u.count c s (decide (y = 1)) from if_pos e3]
          exact h.then h2
        · rw [show u.hearCurrent c s (.reply y) = u from if_neg e3] at k
          exact ifF (decide_eq_false e3) (k _ _ _ h)
      · have p1 := hb.said; have p2 := hb.elections; have p3 := hb.ballot; have p4 := hb.active
        refine ⟨_, rfl, by show 2 ≤ sizeLine; decide, fun q hq => ?_⟩
        have s1 := same_upd (o := .tup [.int 5, .int 9]) hq
        have h1 := h.same s1
        refine ⟨q, _, rfl, .inr (.of upd_same), rfl, rfl, _, rfl, ?_⟩
        rw [show [V.int 5, V.int 9] = ([5, 9] : List Int).map V.int from rfl, inV_int]
        have e59 : ([5, 9] : List Int).contains b.kind = decide (b.kind = 5 ∨ b.kind = 9) := by
          rw [List.contains_eq_mem]
          exact decide_eq_decide.mpr (by simp)
        rw [e59]
        by_cases e1 : b.kind = 5 ∨ b.kind = 9
        · rw [if_pos e1] at k
          refine ifT (decide_eq_true e1) ?_
          refine ⟨_, rfl, h1.md (by decide +kernel) ⟨_, rfl, _, rfl, n, _, p, cf, c, _, _, _, _, rfl, h1.here, ⟨t, s, rfl, rfl⟩, fun H2 w2 A2 h2 => ?_⟩⟩
          exact go _ _ ⟨_, _, _, rfl, h1.then h2, p1, p2, Nat.zero_le _, Nat.zero_le _, List.Pairwise.nil, k⟩
        · rw [if_neg e1] at k
          refine ifF (decide_eq_false e1) ?_
          refine ⟨_, rfl, _, rfl, h1.rd T (i := 8) rfl rfl ⟨_, _, rfl, rfl, _, rfl, ?_⟩⟩
          by_cases e2 : m.term < t
          · rw [if_pos e2] at k
            refine ifT (decide_eq_true e2) ?_
            refine ⟨_, rfl, h1.md (by decide +kernel) ⟨_, rfl, n, _, p, cf, c, _, _, _, _, rfl, h1.here, ⟨t, 0, rfl, rfl⟩, fun H2 w2 A2 h2 => ?_⟩⟩
            exact go _ _ ⟨_, _, _, rfl, h1.then h2, p1, p2, Nat.zero_le _, Nat.zero_le _, List.Pairwise.nil, k⟩
          · rw [if_neg e2] at k
            exact ifF (decide_eq_false e2) (go _ _ ⟨_, _, _, rfl, h1, p1, p2, p3, p4, asc, k⟩)
/-! ### receive -/
abbrev s_Member_receive : Stmt := inClass (top 20) 19
theorem sc_Member_receive : FnScope ["self", "message", "before"] ["self", "message"] (defScope s_Member_receive) := ⟨rfl, rfl, rfl, by decide +kernel, rfl, by decide +kernel, by decide +kernel⟩
def R_receive : List V → Hp → Cfg → M → M → Prop := fun xs H c m m' => ∃ (g : Addr) (s r t : Int) (b : M.B), xs = [.ref g] ∧ H g = some (.tup ((M.row s r t b).map V.int)) ∧ CfgOk c ∧ Bd m ∧ m.active.Pairwise (· < ·) ∧ m' = m.receive c s t b
theorem ok_Member_receive {f : Addr} {fd : FuncData} (T : Txt K mg C) (F : Fun K "receive" "Member.receive" s_Member_receive f fd)
    (D_Member_receive_question : DfM P w K mg base CX0 2 C.m "receive_question" ["self", "message"] (spMt C R_question))
    (D_Member_receive_question_reply : DfM P w K mg base CX0 6 C.m "receive_question_reply" ["self", "message"] (spMt C R_answer))
    (D_Member_receive_vote : DfM P w K mg base CX0 3 C.m "receive_vote" ["self", "message"] (spMt C R_vote))
    (D_Member_receive_other : DfM P w K mg base CX0 6 C.m "receive_other" ["self", "message"] (spMt C R_other))
    (D_Member_end_input : DfM P w K mg base CX0 1 C.m "end_input" ["self", "before"] (spMt C R_endInput)) :
    FnOk P w K mg base CX0 7 f fd ["self", "message"] (spMt C R_receive) := by
  refine F.ok sc_Member_receive (fun vs H Q E h => ?_) (fun cdv A outer s H vs Q E hr h => ?_)
  · obtain ⟨_, _, _, _, _, _, _, _, _, rfl, _, ⟨_, _, _, _, _, rfl, _⟩, _⟩ := h
    rfl
  · refine ⟨_, (pss_cons (ps_set (i := 2) sc_Member_receive.nd rfl (Or.inl rfl) (pe_tup (pa_cons (pe_fld (pv 0) rfl) (pa_cons (pe_fld (pv 0) rfl) pa_nil))))
      (pss_cons (ps_if (pt_cmpR op_eq (pe_ix ix_tup (pv 1) pe_int (fun _ _ => rfl)) (pe_const rfl T.k_PRE_VOTE) (nomark _))
        (pss_one (ps_expr (pe_mth (pv 0) T.cl_m D_Member_receive_question (hr.mono (by decide)) (pa_cons (pv 1) pa_nil))))
        (pss_one (ps_if (pt_cmpR op_eq (pe_ix ix_tup (pv 1) pe_int (fun _ _ => rfl)) (pe_const rfl T.k_PRE_VOTE_REPLY) (nomark _))
        (pss_one (ps_expr (pe_mth (pv 0) T.cl_m D_Member_receive_question_reply (hr.mono (by decide)) (pa_cons (pv 1) pa_nil))))
        (pss_one (ps_if (pt_cmpR op_eq (pe_ix ix_tup (pv 1) pe_int (fun _ _ => rfl)) (pe_const rfl T.k_VOTE) (nomark _))
        (pss_one (ps_expr (pe_mth (pv 0) T.cl_m D_Member_receive_vote (hr.mono (by decide)) (pa_cons (pv 1) pa_nil))))
        (pss_one (ps_expr (pe_mth (pv 0) T.cl_m D_Member_receive_other (hr.mono (by decide)) (pa_cons (pv 1) pa_nil)))))))))
      (pss_one (ps_expr (pe_mth (pv 0) T.cl_m D_Member_end_input (hr.mono (by decide)) (pa_cons (pv 2) pa_nil)))))), ?_⟩
    obtain ⟨n, w, p, cf, c, m, A, _, _, rfl, h, ⟨g, s, r, t, b, rfl, hg0, hc, hb, asc, rfl⟩, k⟩ := h
    have kp := kp_heard hc m s t b
    unfold M.receive at k
    refine ⟨_, rfl, h.rd T (i := 8) rfl rfl ⟨_, rfl, h.rd T (i := 9) rfl rfl ⟨by show 2 ≤ sizeLine; decide, fun a ha => ?_⟩⟩⟩
    have hX := h.got (same_upd ha) ha (upd_same (o := .tup [.int m.term, .int m.vote]))
    have hg := same_upd (o := .tup [.int m.term, .int m.vote]) ha _ _ hg0
    dsimp only
    refine seq_via (fun σ' H' => ∃ w' A', σ' = [some (.ref p), some (.ref g), some (.ref a)] ∧ At C n H w H' w' p cf c (m.heard c s t b) A' [(a, .tup [.int m.term, .int m.vote])]) ?_ fun go => ?_
    · rintro σ' H4 ⟨w4, A4, rfl, h⟩
      refine ⟨_, rfl, h.md (by decide +kernel) ⟨_, rfl, ?_⟩⟩
      have p1 := hb.pending; have p2 := hb.held; have p3 := hb.leaving; have p4 := hb.said
      refine ⟨n, _, p, cf, c, _, _, _, _, rfl, h.here, ⟨a, (m.term, m.vote), rfl, h.head, by rw [kp.pending]; omega, by rw [kp.held]; have := kp.said; omega, by rw [kp.leaving]; have := kp.said; omega, rfl⟩, fun H2 w2 A2 h2 => ?_⟩
      exact k _ _ _ (h.then h2).tail
    · refine ⟨_, rfl, g, _, _, _, rfl, rfl, .of hg, row_k .., rfl, _, rfl, ?_⟩
      rw [vint_eq]
      by_cases e1 : b.kind = 1
      · refine ifT (decide_eq_true e1) ?_
        obtain ⟨i, l, rfl⟩ := kind_one e1
        refine ⟨_, rfl, hX.md (by decide +kernel) ⟨_, rfl, n, _, p, cf, c, _, _, _, _, rfl, hX.here, ⟨g, s, r, t, i, l, rfl, hg, Nat.le_trans hb.said (by decide), rfl⟩, fun H2 w2 A2 h2 => ?_⟩⟩
        exact go _ _ ⟨_, _, rfl, hX.then h2⟩
      refine ifF (decide_eq_false e1) ?_
      refine ⟨_, rfl, g, _, _, _, rfl, rfl, .of hg, row_k .., rfl, _, rfl, ?_⟩
      rw [vint_eq]
      by_cases e2 : b.kind = 2
      · refine ifT (decide_eq_true e2) ?_
        obtain ⟨y, rfl⟩ := kind_two e2
        refine ⟨_, rfl, hX.md (by decide +kernel) ⟨_, rfl, n, _, p, cf, c, _, _, _, _, rfl, hX.here, ⟨g, s, r, t, y, rfl, hg, hc, hb, rfl⟩, fun H2 w2 A2 h2 => ?_⟩⟩
        exact go _ _ ⟨_, _, rfl, hX.then h2⟩
      refine ifF (decide_eq_false e2) ?_
      refine ⟨_, rfl, g, _, _, _, rfl, rfl, .of hg, row_k .., rfl, _, rfl, ?_⟩
      rw [vint_eq]
      by_cases e3 : b.kind = 3
      · refine ifT (decide_eq_true e3) ?_
        obtain ⟨i, l, d, rfl⟩ := kind_three e3
        refine ⟨_, rfl, hX.md (by decide +kernel) ⟨_, rfl, n, _, p, cf, c, _, _, _, _, rfl, hX.here, ⟨g, s, r, t, i, l, d, rfl, hg, Nat.le_trans hb.said (by decide), rfl⟩, fun H2 w2 A2 h2 => ?_⟩⟩
        exact go _ _ ⟨_, _, rfl, hX.then h2⟩
      refine ifF (decide_eq_false e3) ?_
      obtain ⟨hk, eh⟩ := kind_rest e1 e2 e3 c m s t
      rw [eh] at go
      refine ⟨_, rfl, hX.md (by decide +kernel) ⟨_, rfl, n, _, p, cf, c, _, _, _, _, rfl, hX.here, ⟨g, s, r, t, b, rfl, hg, hk, hc, hb, asc, rfl⟩, fun H2 w2 A2 h2 => ?_⟩⟩
      exact go _ _ ⟨_, _, rfl, hX.then h2⟩
end
end Lp
/-! Part M7: a disk carries out writes; a new member. -/
namespace Lp
open PySem PySem.Spec PyProof.Rows L2
section
variable {P : Program} {w : World} {K : PySem.W.Frag} {mg : Str → Option Value} {base : Heap} {C : Cl}
/-! ### carry_out -/
abbrev s_Member_carry_out : Stmt := inClass (top 20) 24
theorem sc_Member_carry_out : FnScope ["self", "count", "done", "before", "write", "message", "row"] ["self", "count"] (defScope s_Member_carry_out) := ⟨rfl, rfl, rfl, by decide +kernel, rfl, by decide +kernel, by decide +kernel⟩
def R_carryOut : List V → Hp → Cfg → M → M → Prop := fun xs _ c m m' => ∃ k : Int, xs = [.int k] ∧ 0 ≤ k ∧ CfgOk c ∧ Bd m ∧ m' = m.carryOut c k.toNat
theorem ok_Member_carry_out {f : Addr} {fd : FuncData} (T : Txt K mg C) (F : Fun K "carry_out" "Member.carry_out" s_Member_carry_out f fd)
    (D_Member_count : DfM P w K mg base CX0 5 C.m "count" ["self", "number", "is_yes"] (spMt C R_count))
    (D_Member_end_input : DfM P w K mg base CX0 1 C.m "end_input" ["self", "before"] (spMt C R_endInput)) :
    FnOk P w K mg base CX0 6 f fd ["self", "count"] (spMt C R_carryOut) := by
  refine F.ok sc_Member_carry_out (fun vs H Q E h => ?_) (fun cdv A outer s H vs Q E hr h => ?_)
  · obtain ⟨_, _, _, _, _, _, _, _, _, rfl, _, ⟨_, rfl, _⟩, _⟩ := h
    rfl
  · refine ⟨_, (pss_cons (ps_set (i := 2) sc_Member_carry_out.nd rfl (Or.inl rfl) (pe_slice sl_list (pe_fld (pv 0) rfl) po_none (po_some (pv 1))))
      (pss_cons (ps_fld (pv 0) (pe_slice sl_list (pe_fld (pv 0) rfl) (po_some (pv 1)) po_none) rfl)
      (pss_cons (ps_if (pt_truth (pv 2) (by intro _; rfl))
        (pss_one (ps_fld (pv 0) (pe_ix ix_list (pv 2) (pe_un un_neg pe_int) (fun _ _ => rfl)) rfl))
        pss_nil)
      (pss_cons (ps_fldaug (pv 0) (pe_callB call_len_seq (by rfl) T.b_len PySem.boot_len (pa_cons (pv 2) pa_nil)) in_add)
      (pss_cons (ps_expr (pe_bm PySem.F.plainAttrs_list PySem.F.slot_list_extend PySem.F.type_list_extend mt_extend (pe_fld (pv 0) rfl) (pa_cons (pe_lc (own := [("write", 4), ("message", 5)]) (g := gTup K 2 (gCons (gName 4) (gCons (gName 5) gNil))) rfl sc_Member_carry_out.nd (pi_list (pe_fld (pv 0) rfl)) (blkOk_by (N := ["self", "count", "done", "before", "write", "message", "row"]) (sc := defScope s_Member_carry_out) (by decide +kernel)) (fun _ _ _ _ _ => pg_tup rfl (pgs_cons (pg_name (i := 4) sc_Member_carry_out.nd rfl (Or.inl rfl)) (pgs_cons (pg_name (i := 5) sc_Member_carry_out.nd rfl (Or.inl rfl)) pgs_nil))) (fun _ _ _ _ _ => pts_one (pt_cmpR op_le (pv 4) (pe_fldK K rfl (pv 0) rfl) (nomark _))) (fun _ _ _ _ _ => (pv 5))) pa_nil)))
      (pss_cons (ps_fld (pv 0) (pe_lc (own := [("row", 6)]) (g := gName 6) rfl sc_Member_carry_out.nd (pi_list (pe_fld (pv 0) rfl)) (blkOk_by (N := ["self", "count", "done", "before", "write", "message", "row"]) (sc := defScope s_Member_carry_out) (by decide +kernel)) (fun _ _ _ _ _ => pg_name (i := 6) sc_Member_carry_out.nd rfl (Or.inl rfl)) (fun _ _ _ _ _ => pts_one (pt_cmpR op_gt (pe_ix (ix_tupK K rfl) (pv 6) pe_int (fun _ _ => rfl)) (pe_fldK K rfl (pv 0) rfl) (nomark _))) (fun _ _ _ _ _ => (pv 6))) rfl)
      (pss_one (ps_if (PW.pt (pw_and (pt_cmpR op_eq (pe_fld (pv 0) rfl) (pe_const rfl T.k_CANDIDATE) (nomark _)) (pw_and1 (pt_not (pt_truth (pe_fld (pv 0) rfl) (by intro _; rfl))))))
        (pss_cons (ps_set (i := 3) sc_Member_carry_out.nd rfl (Or.inl rfl) (pe_tup (pa_cons (pe_fld (pv 0) rfl) (pa_cons (pe_fld (pv 0) rfl) pa_nil))))
      (pss_cons (ps_expr (pe_mth (pv 0) T.cl_m D_Member_count (hr.mono (by decide)) (pa_cons (pe_fld (pv 0) rfl) (pa_cons pe_bl pa_nil))))
      (pss_one (ps_expr (pe_mth (pv 0) T.cl_m D_Member_end_input (hr.mono (by decide)) (pa_cons (pv 3) pa_nil))))))
        pss_nil)))))))), ?_⟩
    obtain ⟨n, w, p, cf, c, m, A, _, _, rfl, h, ⟨z, rfl, hz, hc, hb, rfl⟩, k⟩ := h
    obtain ⟨vs, hvs, hp⟩ := h.pen_l.lst
    have h0 := h
    have b1 := hb.said; have b2 := hb.elections; have b3 := hb.leaving; have b4 := hb.ballot; have b5 := hb.pending; have b6 := hb.held
    unfold M.carryOut at k
    have ww : m.written z.toNat = { m with pending := m.pending.drop z.toNat, stored := (m.pending.take z.toNat).getLast?.getD m.stored, carried := m.carried + ((m.pending.take z.toNat).length : Int), leaving := m.leaving ++ (m.held.filter fun h => decide (h.1 ≤ m.carried + ((m.pending.take z.toNat).length : Int))).map (·.2), held := m.held.filter fun h => decide (m.carried + ((m.pending.take z.toNat).length : Int) < h.1) } := rfl
    rw [ww] at k
    clear ww
    refine ⟨_, rfl, h.rd T (i := 16) rfl rfl ⟨_, rfl, _, rfl, A.pen, vs, rfl, .of hvs, fun q hq => ?_⟩⟩
    rw [cutV_take vs hz]
    have s1 := same_upd (o := .lst (vs.take z.toNat)) hq
    have h := h.alloc (o := .lst (vs.take z.toNat)) hq
    have hp1 := pr_take z.toNat (pr_keep (same_tk s1) hp)
    have hp2 := pr_drop z.toNat (pr_keep (same_tk s1) hp)
    refine ⟨_, rfl, h.rd T (i := 16) rfl rfl ⟨_, rfl, _, rfl, A.pen, vs, rfl, .of (s1 _ _ hvs), fun q2 hq2 => ?_⟩⟩
    rw [cutV_drop vs hz]
    have s2 := same_upd (o := .lst (vs.drop z.toNat)) hq2
    have h := h.alloc (o := .lst (vs.drop z.toNat)) hq2
    refine ⟨_, rfl, h.pen_st T (xs := m.pending.drop z.toNat) (pr_keep (same_tk s2) hp2) fun H1 w1 h1 => ?_⟩
    have hp1 : Paired (rPr H1) (vs.take z.toNat) (m.pending.take z.toNat) := pr_take z.toNat (pr_keep (h1.fr.tk fun b xs i k e z => by rw [h0.ok.notup b xs e] at z; cases z) hp)
    generalize hks : m.pending.take z.toNat = ks at hp1 k
    generalize hkv : vs.take z.toNat = kv at hp1 h1
    clear h
    dsimp only
    refine seq_via (fun σ' H' => ∃ w' A', σ' = [some (.ref p), some (.int z), some (.ref q), none, none, none, none] ∧ At C n H w H' w' p cf c { m with pending := m.pending.drop z.toNat, stored := ks.getLast?.getD m.stored } A' [(q, .lst kv)]) ?_ fun go => ?_
    · rintro σ' H2 ⟨w2, A2, rfl, h⟩
      refine ⟨_, rfl, p, C.m, A2.dx, _, .int m.carried, rfl, h.mb.obj, T.cl_m, T.na_m _ (by decide +kernel), h.look (i := 19) rfl (mNames_nd rfl) rfl, ?_⟩
      refine ⟨_, rfl, q, _, rfl, .inl (SqL.of h.head), _, _, rfl, rfl, A2.dx, _, h.mb.obj, mF_lt, ?_⟩
      have h := h.put (i := 19) (v := .int (m.carried + (kv.length : Int))) (m' := { m with pending := m.pending.drop z.toNat, stored := ks.getLast?.getD m.stored, carried := m.carried + (kv.length : Int) }) (A' := A2) rfl (by decide +kernel) (by decide) rfl rfl h.parts h.nm
      rw [← hp1.length] at k
      generalize m.carried + (kv.length : Int) = N at h k
      obtain ⟨hs, hhs, rhs⟩ := h.hel_l.lst
      obtain ⟨ls, hls, rls⟩ := h.lea_l.lst
      -- what leaves
      refine ⟨_, rfl, h.rd T (i := 5) rfl rfl ⟨.inl ⟨rfl, _, .of hls⟩, ?_⟩⟩
      refine ⟨_, rfl, h.rd T (i := 17) rfl rfl ⟨A2.hel, rfl, ⟨_, .of hhs⟩, fun D hD => lc_list (K := K) (a := A2.hel) (xs := hs) (fun i H' => LcInv rRow _ D (outF (fun x => decide (x.1 ≤ N)) (fun x => x.2) m.held i) H') (LcInv.zero hD) (fun i H' _ h => h.src hhs) (fun i x H' hx hi => ?_) (fun H' hi => ?_)⟩⟩
      · obtain ⟨x1, hx1, t, t', rfl, ht, ht'⟩ := pr_get rhs hx
        have hx1 : m.held[i]? = some x1 := hx1
        have h2 := h.same hi.1
        refine ⟨t, _, rfl, .of (hi.1 _ _ ht), rfl, _, _, rfl, _, _, rfl, rfl, rfl, _, rfl, _, rfl, h2.rd T (i := 19) rfl rfl ⟨_, _, rfl, rfl, _, rfl, ?_⟩⟩
        cases e : decide (x1.1 ≤ N) with
        | false =>
          rw [outF_no hx1 e]
          exact ifF rfl hi
        | true =>
          rw [outF_yes hx1 e]
          exact ifT rfl ⟨_, rfl, hi.add hD (same_refl _) (by have := outF_lt (p := fun x : Int × List Int => decide (x.1 ≤ N)) (f := fun x => x.2) hx1; rw [sizeLine_is]; omega) ⟨t', rfl, hi.1 _ _ ht'⟩⟩
      · rw [rhs.length, outF_all] at hi
        obtain ⟨s3, acc, hacc, racc⟩ := hi
        have h2 := h.same s3
        have la := racc.length
        rw [List.length_map] at la
        have lf := List.length_filter_le (fun x : Int × List Int => decide (x.1 ≤ N)) m.held
        refine ⟨A2.lea, D, ls, acc, rfl, rfl, s3 _ _ hls, hacc, by rw [rls.length, sizeLine_is]; show m.leaving.length + _ ≤ _; omega, ?_⟩
        have h3 := h2.lea_mu (xs := m.leaving ++ (m.held.filter fun x => decide (x.1 ≤ N)).map (·.2)) (s3 _ _ hls) (pr_append (pr_keep (same_tk s3) rls) racc)
        clear h2 hhs rhs hls rls
        obtain ⟨hs, hhs, rhs⟩ := h3.hel_l.lst
        refine ⟨_, rfl, h3.rd T (i := 17) rfl rfl ⟨A2.hel, rfl, ⟨_, .of hhs⟩, fun D2 hD2 => lc_list (K := K) (a := A2.hel) (xs := hs) (fun i H' => LcInv rHeld _ D2 (outF (fun x => decide (N < x.1)) (fun x => x) m.held i) H') (LcInv.zero hD2) (fun i H' _ h => h.src hhs) (fun i x H' hx hi => ?_) (fun H' hi => ?_)⟩⟩
        · obtain ⟨x1, hx1, t, t', rfl, ht, ht'⟩ := pr_get rhs hx
          have hx1 : m.held[i]? = some x1 := hx1
          have h4 := h3.same hi.1
          refine ⟨rfl, _, rfl, t, _, _, _, rfl, rfl, .of (hi.1 _ _ ht), rfl, _, rfl, h4.rd T (i := 19) rfl rfl ⟨_, _, rfl, rfl, _, rfl, ?_⟩⟩
          cases e : decide (N < x1.1) with
          | false =>
            rw [outF_no hx1 e]
            exact ifF rfl hi
          | true =>
            rw [outF_yes hx1 e]
            exact ifT rfl ⟨_, rfl, hi.add hD2 (same_refl _) (by have := outF_lt (p := fun x : Int × List Int => decide (N < x.1)) (f := fun x => x) hx1; rw [sizeLine_is]; omega) ⟨t, t', rfl, hi.1 _ _ ht, hi.1 _ _ ht'⟩⟩
        · rw [rhs.length, outF_all] at hi
          obtain ⟨s4, acc2, hacc2, racc2⟩ := hi
          have h5 := h3.got s4 hD2 hacc2
          refine ⟨_, rfl, h5.hel_st T (xs := (m.held.filter fun x => decide (N < x.1)).map fun x => x) racc2 fun H6 w6 h6 => ?_⟩
          rw [List.map_id'] at h6
          have lv : (m.leaving ++ (m.held.filter fun x => decide (x.1 ≤ N)).map (·.2)).length ≤ 8000000 := by rw [List.length_append, List.length_map]; omega
          have lh := List.length_filter_le (fun x : Int × List Int => decide (N < x.1)) m.held
          have lp : (m.pending.drop z.toNat).length ≤ 4000000 := by rw [List.length_drop]; omega
          revert h6 k lv lh lp
          generalize (m.held.filter fun x => decide (N < x.1)) = hd
          generalize (m.leaving ++ (m.held.filter fun x => decide (x.1 ≤ N)).map (·.2)) = lg
          generalize m.pending.drop z.toNat = pd
          intro k h6 lv lh lp
          have p1 : ({ m with pending := pd, stored := ks.getLast?.getD m.stored, carried := N, leaving := lg, held := hd } : M).said.length ≤ 3000 := b1
          have p2 : ({ m with pending := pd, stored := ks.getLast?.getD m.stored, carried := N, leaving := lg, held := hd } : M).elections.length ≤ 3000 := b2
          have p3 : ({ m with pending := pd, stored := ks.getLast?.getD m.stored, carried := N, leaving := lg, held := hd } : M).leaving.length ≤ 8000000 := lv
          have p4 : ({ m with pending := pd, stored := ks.getLast?.getD m.stored, carried := N, leaving := lg, held := hd } : M).ballot.length ≤ 4000000 := b4
          have p5 : ({ m with pending := pd, stored := ks.getLast?.getD m.stored, carried := N, leaving := lg, held := hd } : M).pending.length ≤ 4000000 := lp
          have p6 : ({ m with pending := pd, stored := ks.getLast?.getD m.stored, carried := N, leaving := lg, held := hd } : M).held.length ≤ 4000000 := Nat.le_trans lh b6
          have h6 : At C n H w H6 w6 p cf c { m with pending := pd, stored := ks.getLast?.getD m.stored, carried := N, leaving := lg, held := hd } { A2 with hel := D2 } [(q, .lst kv)] := h6
          revert h6 k p1 p2 p3 p4 p5 p6
          generalize ({ m with pending := pd, stored := ks.getLast?.getD m.stored, carried := N, leaving := lg, held := hd } : M) = v
          intro k p1 p2 p3 p4 p5 p6 h6
          unfold M.afterWrites at k
          obtain ⟨ps, hps, rps⟩ := h6.pen_l.lst
          have en : ps.isEmpty = v.pending.isEmpty := by
            have := rps.length
            cases ps <;> cases q : v.pending <;> first | rfl | (rw [q] at this; cases this)
          refine ⟨_, rfl, h6.rd T (i := 10) rfl rfl ⟨rfl, _, rfl, ?_⟩⟩
          rw [vint_eq]
          by_cases e1 : v.role = 2
          · refine ifT (decide_eq_true e1) ?_
            refine ⟨_, rfl, h6.rd T (i := 16) rfl rfl ⟨_, .inl ⟨_, .of hps, rfl⟩, ?_⟩⟩
            rw [en]
            cases e2 : v.pending.isEmpty with
            | false =>
              rw [e2, if_neg fun z => Bool.false_ne_true z.2] at k
              exact ifF rfl (k _ _ _ h6.tail)
            | true =>
              rw [e2, if_pos ⟨e1, rfl⟩] at k
              refine ifT rfl ?_
              have kp := kp_count hc v v.number true
              refine ⟨_, rfl, h6.rd T (i := 8) rfl rfl ⟨_, rfl, h6.rd T (i := 9) rfl rfl ⟨by show 2 ≤ sizeLine; decide, fun a ha => ?_⟩⟩⟩
              have h7 := h6.got (same_upd ha) ha (upd_same (o := .tup [.int v.term, .int v.vote]))
              refine ⟨_, rfl, h7.md (by decide +kernel) ⟨_, rfl, h7.rd T (i := 0) rfl rfl ?_⟩⟩
              refine ⟨n, _, p, cf, c, _, _, _, _, rfl, h7.here, ⟨v.number, true, rfl, hc, by omega, by omega, by omega, rfl⟩, fun H8 w8 A8 h8 => ?_⟩
              have h9 := h7.then h8
              refine ⟨_, rfl, h9.md (by decide +kernel) ⟨_, rfl, ?_⟩⟩
              refine ⟨n, _, p, cf, c, _, _, _, _, rfl, h9.here, ⟨a, (v.term, v.vote), rfl, h9.head, by rw [kp.pending]; omega, by rw [kp.held]; have := kp.said; omega, by rw [kp.leaving]; have := kp.said; omega, rfl⟩, fun H2 w2 A2 h2 => ?_⟩
              exact k _ _ _ (h9.then h2).tail.tail
          · rw [if_neg fun z => e1 z.1] at k
            exact ifF (decide_eq_false e1) (k _ _ _ h6.tail)
    · refine ⟨_, rfl, _, .inl ⟨_, .of h1.head, rfl⟩, ?_⟩
      cases e : ks.getLast? with
      | none =>
        have e1 : ks = [] := List.getLast?_eq_none_iff.mp e
        have e2 : kv = [] := by
          have := hp1.length
          rw [e1] at this
          exact List.length_eq_zero_iff.mp this
        refine ifF (by rw [e2]; rfl) (go _ _ ⟨_, _, rfl, by rw [e]; exact h1⟩)
      | some y =>
        obtain ⟨ys, ey⟩ := List.getLast?_eq_some_iff.mp e
        obtain ⟨x, hx, r⟩ := pr_get' (i := ys.length) (y := y) hp1 (by rw [ey]; simp)
        have lx : kv.getLast? = some x := by
          rw [List.getLast?_eq_getElem?, hp1.length, ey]
          simpa using hx
        have ne : (!kv.isEmpty) = true := by
          cases q : kv with
          | nil => rw [q] at lx; cases lx
          | cons _ _ => rfl
        refine ifT ne ?_
        obtain ⟨t, rfl, ht⟩ := r
        refine ⟨_, rfl, _, rfl, q, _, _, _, rfl, rfl, .of h1.head, atI_getLast lx, ?_⟩
        refine ⟨_, rfl, h1.wr T (i := 3) rfl ?_⟩
        have hp2 := h1.parts
        have h := h1.put (i := 3) (v := .ref t) (m' := { m with pending := m.pending.drop z.toNat, stored := y }) (A' := { A with pen := q2, sto := t }) rfl (by decide +kernel) (by decide) rfl rfl ⟨hp2.1, ht, hp2.2.2⟩ h1.nm
        exact go _ _ ⟨_, _, rfl, by rw [e]; exact h⟩
end
end Lp
/-! Part M8: a new member. -/
namespace Lp
open PySem PySem.Spec PyProof.Rows L2
/-- a new member p that bears its first i attributes; L: new objects of its own -/
structure Nw (CM : Addr) (H0 H : Hp) (p dx : Addr) (i : Nat) (vs : List V) (L : List (Addr × HO)) : Prop where
  obj : H p = some (.ins CM dx ((mNames.take i).zip vs))
  len : vs.length = i
  old : ∀ b o, H0 b = some o → b ≠ p → H b = some o
  was : H0 p ≠ none
  loc : ∀ q ∈ L, H q.1 = some q.2 ∧ H0 q.1 = none
  nd : (L.map (·.1)).Nodup
section
variable {CM : Addr} {H0 H H' : Hp} {p dx q : Addr} {i : Nat} {vs : List V} {L : List (Addr × HO)} {o : HO} {v : V}
theorem Nw.alloc (h : Nw CM H0 H p dx i vs L) (hq : H q = none) : Nw CM H0 (upd H q o) p dx i vs ((q, o) :: L) := by
  have hp : p ≠ q := ne_of_none h.obj hq
  have q0 : H0 q = none := by
    cases e : H0 q with
    | none => rfl
    | some u => have := h.old q u e (Ne.symm hp); rw [hq] at this; cases this
  refine ⟨by rw [upd_ne hp]; exact h.obj, h.len, fun b u e n => by rw [upd_ne (ne_of_none e q0)]; exact h.old b u e n, h.was, fun x hx => ?_, ?_⟩
  · rcases List.mem_cons.mp hx with z | z
    · subst z; exact ⟨upd_same, q0⟩
    · obtain ⟨a, b⟩ := h.loc x z
      exact ⟨by rw [upd_ne (ne_of_none a hq)]; exact a, b⟩
  · rw [List.map_cons, List.nodup_cons]
    refine ⟨fun z => ?_, h.nd⟩
    obtain ⟨x, hx, ex⟩ := List.mem_map.mp z
    have := (h.loc x hx).1
    rw [show x.1 = q from ex, hq] at this
    cases this
theorem Nw.put {f : Str} (h : Nw CM H0 H p dx i vs L) (hi : mNames[i]? = some f) : Nw CM H0 (upd H p (.ins CM dx (putF f v ((mNames.take i).zip vs)))) p dx (i + 1) (vs ++ [v]) L := by
  have li : i < mNames.length := (List.getElem?_eq_some_iff.mp hi).1
  have ep : putF f v ((mNames.take i).zip vs) = (mNames.take (i + 1)).zip (vs ++ [v]) := by
    rw [put_new _ _ (by rw [List.length_take, h.len]; omega) (mNames_nd hi), take_more hi]
  rw [ep]
  refine ⟨upd_same, by rw [List.length_append, h.len]; rfl, fun b u e n => by rw [upd_ne n]; exact h.old b u e n, h.was, fun x hx => ?_, h.nd⟩
  obtain ⟨a, b⟩ := h.loc x hx
  exact ⟨by rw [upd_ne fun z => by rw [z] at b; exact h.was b]; exact a, b⟩
theorem Nw.then {i' : Nat} {vs' : List V} {L' : List (Addr × HO)} (h : Nw CM H0 H p dx i vs L) (k : Nw CM H H' p dx i' vs' L') : Nw CM H0 H' p dx i' vs' (L' ++ L) := by
  have far : ∀ x ∈ L, x.1 ≠ p := fun x hx z => h.was (by rw [← z]; exact (h.loc x hx).2)
  refine ⟨k.obj, k.len, fun b u e n => k.old b u (h.old b u e n) n, h.was, fun x hx => ?_, ?_⟩
  · rcases List.mem_append.mp hx with z | z
    · obtain ⟨a, b⟩ := k.loc x z
      refine ⟨a, ?_⟩
      cases e : H0 x.1 with
      | none => rfl
      | some u =>
        have n : x.1 ≠ p := fun z => by have := h.obj; rw [← z, b] at this; cases this
        have := h.old _ u e n
        rw [b] at this
        cases this
    · obtain ⟨a, b⟩ := h.loc x z
      exact ⟨k.old _ _ a (far x z), b⟩
  · rw [List.map_append, List.nodup_append]
    refine ⟨k.nd, h.nd, fun a ha b hb e => ?_⟩
    obtain ⟨x, hx, ex⟩ := List.mem_map.mp ha
    obtain ⟨y, hy, ey⟩ := List.mem_map.mp hb
    have h1 := (k.loc x hx).2
    have h2 := (h.loc y hy).1
    rw [ex, e, ← ey, h2] at h1
    cases h1
variable {K : PySem.W.Frag} {mg : Str → Option Value} {C : Cl}
theorem Nw.st {f : Str} {Q : Hp → Prop} (h : Nw C.m H0 H p dx i vs L) (T : Txt K mg C) (hi : mNames[i]? = some f) (k : ∀ H', Nw C.m H0 H' p dx (i + 1) (vs ++ [v]) L → Q H') : StAt K (.ref p) f v H Q :=
  ⟨p, C.m, dx, _, rfl, h.obj, T.cl_m, T.na_m f (List.mem_of_getElem? hi), (by rw [List.length_zip, List.length_take, h.len]; have : i < 20 := (List.getElem?_eq_some_iff.mp hi).1; omega), k _ (h.put hi)⟩
theorem Nw.md {f : Str} {Q : Prop} (h : Nw C.m H0 H p dx i vs L) (hf : (mNames.all fun g => !(f == g)) = true) (q : Q) : ∃ a dx fs, V.ref p = .ref a ∧ H a = some (.ins C.m dx fs) ∧ fs.lookup f = none ∧ Q :=
  ⟨p, dx, _, rfl, h.obj, no_zip _ _ (by
    rw [List.all_eq_true] at hf ⊢
    exact fun g hg => hf g (List.mem_of_mem_take hg)), q⟩
end
section
variable {P : Program} {w : World} {K : PySem.W.Frag} {mg : Str → Option Value} {base : Heap} {C : Cl}
/-! ### clear, of a new member -/
def zeroVs (bal act pen hel : Addr) : List V := [.int 0, .int 0, .int 0, .int 0, .int 0, .int 0, .ref bal, .ref act, .ref pen, .ref hel, .int 0, .int 0]
def spFirst (C : Cl) : Sp := fun vs H Q _ => ∃ p dx us, vs = [.ref p] ∧ us.length = 8 ∧ H p = some (.ins C.m dx ((mNames.take 8).zip us)) ∧
  ∀ H' bal act pen hel, Nw C.m H H' p dx 20 (us ++ zeroVs bal act pen hel) [(hel, .lst []), (pen, .lst []), (act, .lst []), (bal, .lst [])] → Q .non H'
theorem ok_Member_clear_first {f : Addr} {fd : FuncData} (T : Txt K mg C) (F : Fun K "clear" "Member.clear" s_Member_clear f fd) : FnOk P w K mg base CX0 1 f fd ["self"] (spFirst C) := by
  refine F.ok sc_Member_clear (fun vs H Q E h => ?_) (fun cdv A outer s H vs Q E hr h => ?_)
  · obtain ⟨_, _, _, rfl, _⟩ := h
    rfl
  · refine ⟨_, (pss_cons (ps_fld (pv 0) pe_int rfl)
      (pss_cons (ps_fld (pv 0) pe_int rfl)
      (pss_cons (ps_fld (pv 0) (pe_const rfl T.k_FOLLOWER) rfl)
      (pss_cons (ps_fld (pv 0) pe_int rfl)
      (pss_cons (ps_fld (pv 0) pe_int rfl)
      (pss_cons (ps_fld (pv 0) pe_int rfl)
      (pss_cons (ps_fld (pv 0) (pe_lst pa_nil) rfl)
      (pss_cons (ps_fld (pv 0) (pe_lst pa_nil) rfl)
      (pss_cons (ps_fld (pv 0) (pe_lst pa_nil) rfl)
      (pss_cons (ps_fld (pv 0) (pe_lst pa_nil) rfl)
      (pss_cons (ps_fld (pv 0) pe_int rfl)
      (pss_one (ps_fld (pv 0) pe_int rfl))))))))))))), ?_⟩
    obtain ⟨p, dx, us, rfl, lu, hp, k⟩ := h
    have h : Nw C.m H H p dx 8 us [] := ⟨hp, lu, fun _ _ e _ => e, some_ne hp, (fun _ z => nomatch z), List.nodup_nil⟩
    refine ⟨_, rfl, h.st T rfl fun H h => ?_⟩
    refine ⟨_, rfl, h.st T rfl fun H h => ?_⟩
    refine ⟨_, rfl, h.st T rfl fun H h => ?_⟩
    refine ⟨_, rfl, h.st T rfl fun H h => ?_⟩
    refine ⟨_, rfl, h.st T rfl fun H h => ?_⟩
    refine ⟨_, rfl, h.st T rfl fun H h => ?_⟩
    refine ⟨Nat.zero_le _, fun q1 hq => ⟨_, rfl, (h.alloc hq).st T rfl fun H h => ?_⟩⟩
    refine ⟨Nat.zero_le _, fun q2 hq => ⟨_, rfl, (h.alloc hq).st T rfl fun H h => ?_⟩⟩
    refine ⟨Nat.zero_le _, fun q3 hq => ⟨_, rfl, (h.alloc hq).st T rfl fun H h => ?_⟩⟩
    refine ⟨Nat.zero_le _, fun q4 hq => ⟨_, rfl, (h.alloc hq).st T rfl fun H h => ?_⟩⟩
    refine ⟨_, rfl, h.st T rfl fun H h => ?_⟩
    refine ⟨_, rfl, h.st T rfl fun H h => ?_⟩
    refine k _ q1 q2 q3 q4 ?_
    simp only [List.append_assoc] at h
    exact h
end
/-! ### tags given -/
def tags (w : Ow) (l : List (Addr × (Int × Nat))) : Ow := fun b => match l.lookup b with
  | some t => some t
  | none => w b
theorem lookup_mem {α β : Type} [BEq α] [LawfulBEq α] : ∀ {l : List (α × β)} {a : α} {t : β}, l.lookup a = some t → (a, t) ∈ l
  | [], _, _, h => nomatch h
  | (b, u) :: l, a, t, h => by
    rw [List.lookup_cons] at h
    by_cases e : a = b
    · subst e
      rw [beq_self_eq_true] at h
      cases Option.some.inj h
      exact List.mem_cons_self ..
    · rw [beq_eq_false_iff_ne.mpr e] at h
      exact List.mem_cons_of_mem _ (lookup_mem h)
theorem lookup_nd {α β : Type} [BEq α] [LawfulBEq α] : ∀ {l : List (α × β)} {a : α} {t : β}, (l.map (·.1)).Nodup → (a, t) ∈ l → l.lookup a = some t
  | [], _, _, _, h => nomatch h
  | (b, u) :: l, a, t, nd, h => by
    rw [List.map_cons, List.nodup_cons] at nd
    rw [List.lookup_cons]
    rcases List.mem_cons.mp h with z | z
    · cases z
      rw [beq_self_eq_true]
    · have ne : a ≠ b := fun e => nd.1 (List.mem_map.mpr ⟨_, z, e⟩)
      rw [beq_eq_false_iff_ne.mpr ne]
      exact lookup_nd nd.2 z
theorem tags_in {w : Ow} {l : List (Addr × (Int × Nat))} {a : Addr} {t : Int × Nat} (nd : (l.map (·.1)).Nodup) (h : (a, t) ∈ l) : tags w l a = some t := by
  unfold tags
  rw [lookup_nd nd h]
theorem tags_out {w : Ow} {l : List (Addr × (Int × Nat))} {a : Addr} (h : ∀ t, (a, t) ∉ l) : tags w l a = w a := by
  unfold tags
  cases e : l.lookup a with
  | none => rfl
  | some t => exact absurd (lookup_mem e) (h t)
section
variable {H1 H : Hp} {w : Ow} {l : List (Addr × (Int × Nat))}
theorem OwnOk.tags (o : OwnOk H1 w) (s : ∀ b u, H1 b = some u → H b = some u) (hl : ∀ q ∈ l, H1 q.1 = none ∧ ∃ u, H q.1 = some u ∧ ∀ xs, u ≠ .tup xs) : OwnOk H (tags w l) := by
  refine ⟨fun b hb => ?_, fun b xs hb => ?_⟩
  · unfold Lp.tags at hb
    cases e : l.lookup b with
    | some t => obtain ⟨_, u, hu, _⟩ := hl _ (lookup_mem e); exact some_ne hu
    | none =>
      rw [e] at hb
      cases q : H1 b with
      | none => exact absurd q (o.there b hb)
      | some u => exact some_ne (s b u q)
  · unfold Lp.tags
    cases e : l.lookup b with
    | some t => obtain ⟨_, u, hu, d⟩ := hl _ (lookup_mem e); rw [hb] at hu; exact absurd (Option.some.inj hu).symm (d xs)
    | none =>
      cases q : H1 b with
      | none => exact o.free q
      | some u =>
        have := s b u q
        rw [hb] at this
        cases this
        exact o.notup b xs q
theorem tags_old (hl : ∀ q ∈ l, H1 q.1 = none) {b : Addr} (h : H1 b ≠ none) : tags w l b = w b := tags_out fun t z => h (hl _ z)
end
/-- what the owner n's being born leaves -/
structure Born (H1 : Hp) (w1 : Ow) (n : Int) (H' : Hp) (w' : Ow) : Prop where
  fr : Fr (fun _ => False) H1 w1 H' w'
  ok : OwnOk H' w'
  tags : ∀ b i k, w' b = some (i, k) → w1 b = some (i, k) ∨ i = n
/-- the tags of n alone, over what was there -/
def only (H1 : Hp) (w1 : Ow) (n : Int) (w : Ow) : Ow := fun b => if (H1 b).isSome = true then w1 b else match w b with
  | some (i, k) => if i = n then some (i, k) else none
  | none => none
theorem only_old {H1 : Hp} {w1 w : Ow} {n : Int} {b : Addr} (h : H1 b ≠ none) : only H1 w1 n w b = w1 b := by
  unfold only
  rw [if_pos (Option.isSome_iff_ne_none.mpr h)]
theorem only_new {H1 : Hp} {w1 w : Ow} {n : Int} {b : Addr} {k : Nat} (h : H1 b = none) (e : w b = some (n, k)) : only H1 w1 n w b = some (n, k) := by
  unfold only
  rw [h, if_neg (by decide), e]
  exact if_pos rfl
theorem born_of {H1 Hm H' : Hp} {w1 wm w' : Ow} {n : Int} (o1 : OwnOk H1 w1) (s : ∀ b u, H1 b = some u → Hm b = some u) (ew : ∀ b, H1 b ≠ none → wm b = w1 b) (no : ∀ b k, w1 b ≠ some (n, k)) (f : Fr (fun i => i = n) Hm wm H' w') (o : OwnOk H' w') :
    Born H1 w1 n H' (only H1 w1 n w') ∧ ∀ b k, w' b = some (n, k) → only H1 w1 n w' b = some (n, k) := by
  have ee : ∀ b, H1 b ≠ none → w' b = w1 b := fun b hb => by
    cases q : H1 b with
    | none => exact absurd q hb
    | some u => rw [f.own b (some_ne (s b u q)), ew b hb]
  have th : ∀ b, H1 b ≠ none → H' b ≠ none := fun b hb => by
    cases q : H1 b with
    | none => exact absurd q hb
    | some u => exact f.there b (some_ne (s b u q))
  refine ⟨⟨⟨fun b u hb _ => ?_, fun b hb => only_old hb, th⟩, ⟨fun b hb => ?_, fun b xs hb => ?_⟩, fun b i k hb => ?_⟩, fun b k hb => ?_⟩
  · refine f.keep b u (s b u hb) fun i k z e => ?_
    rw [ew b (some_ne hb), e] at z
    exact no b k z
  · cases q : H1 b with
    | some u => exact th b (some_ne q)
    | none =>
      refine o.there b fun z => hb ?_
      unfold only
      rw [q, if_neg (by decide), z]
  · have z := o.notup b xs hb
    unfold only
    cases q : H1 b with
    | some u =>
      rw [if_pos (show (some u).isSome = true from rfl), ← ee b (some_ne q)]
      exact z
    | none => rw [if_neg (by decide), z]
  · unfold only at hb
    cases q : H1 b with
    | some u => rw [q, if_pos (show (some u).isSome = true from rfl)] at hb; exact .inl hb
    | none =>
      rw [q, if_neg (by decide)] at hb
      cases e : w' b with
      | none => rw [e] at hb; cases hb
      | some t =>
        obtain ⟨i', k'⟩ := t
        rw [e] at hb
        by_cases z : i' = n
        · have hb : (if i' = n then some (i', k') else none) = some (i, k) := hb
          rw [if_pos z] at hb
          cases hb
          exact .inr z
        · have hb : (if i' = n then some (i', k') else none) = some (i, k) := hb
          rw [if_neg z] at hb
          cases hb
  · refine only_new ?_ hb
    cases q : H1 b with
    | none => rfl
    | some u =>
      rw [ee b (some_ne q)] at hb
      exact absurd hb (no b k)
section
variable {P : Program} {w : World} {K : PySem.W.Frag} {mg : Str → Option Value} {base : Heap} {C : Cl}
/-! ### __init__ -/
abbrev s_Member___init__ : Stmt := inClass (top 20) 0
theorem sc_Member___init__ : FnScope ["self", "number", "configuration"] ["self", "number", "configuration"] (defScope s_Member___init__) := ⟨rfl, rfl, rfl, by decide +kernel, rfl, by decide +kernel, by decide +kernel⟩
def spMember (C : Cl) : Sp := fun vs H Q _ => ∃ H1 w1 x dx n cf c, vs = [.ref x, .int n, .ref cf] ∧ H = upd (upd H1 dx (.own x)) x (.ins C.m dx []) ∧ H1 x = none ∧ H1 dx = none ∧ dx ≠ x ∧ OwnOk H1 w1 ∧ Cf C.c H1 w1 cf c ∧ n ≠ 0 ∧ (∀ b k, w1 b ≠ some (n, k)) ∧
  ∀ H' w' A', Born H1 w1 n H' w' → Mb C.m H' w' x cf (M.fresh n) A' → Q .non H'
theorem ok_Member___init__ {f : Addr} {fd : FuncData} (T : Txt K mg C) (F : Fun K "__init__" "Member.__init__" s_Member___init__ f fd)
    (D_Member_clear : DfM P w K mg base CX0 1 C.m "clear" ["self"] (spFirst C))
    (D_Member_start : DfM P w K mg base CX0 2 C.m "start" ["self"] (spMt C R_start)) : FnOk P w K mg base CX0 3 f fd ["self", "number", "configuration"] (spMember C) := by
  refine F.ok sc_Member___init__ (fun vs H Q E h => ?_) (fun cdv A outer s H vs Q E hr h => ?_)
  · obtain ⟨_, _, _, _, _, _, _, rfl, _⟩ := h
    rfl
  · refine ⟨_, (pss_cons (ps_fld (pv 0) (pv 1) rfl)
      (pss_cons (ps_fld (pv 0) (pv 2) rfl)
      (pss_cons (ps_fld (pv 0) (pe_tup (pa_cons pe_int (pa_cons pe_int pa_nil))) rfl)
      (pss_cons (ps_fld (pv 0) (pe_tup (pa_cons pe_int (pa_cons pe_int pa_nil))) rfl)
      (pss_cons (ps_fld (pv 0) (pe_lst pa_nil) rfl)
      (pss_cons (ps_fld (pv 0) (pe_lst pa_nil) rfl)
      (pss_cons (ps_fld (pv 0) (pe_lst pa_nil) rfl)
      (pss_cons (ps_fld (pv 0) pe_bl rfl)
      (pss_cons (ps_expr (pe_mth0 (pv 0) T.cl_m D_Member_clear (hr.mono (by decide))))
      (pss_one (ps_expr (pe_mth0 (pv 0) T.cl_m D_Member_start (hr.mono (by decide)))))))))))))), ?_⟩
    obtain ⟨H1, w1, x, dx, n, cf, c, rfl, rfl, hx, hdx, nx, o1, hcf, n0, no, k⟩ := h
    have s0 : ∀ b u, H1 b = some u → upd (upd H1 dx (.own x)) x (.ins C.m dx []) b = some u ∧ b ≠ x := fun b u e => by
      have e1 := ne_of_none e hx
      exact ⟨by rw [upd_ne e1, upd_ne (ne_of_none e hdx)]; exact e, e1⟩
    generalize hH : upd (upd H1 dx (.own x)) x (.ins C.m dx []) = H at s0 ⊢
    have h : Nw C.m H H x dx 0 [] [] := ⟨by rw [← hH]; exact upd_same, rfl, fun _ _ e _ => e, by rw [← hH]; exact some_ne upd_same, (fun _ z => nomatch z), List.nodup_nil⟩
    refine ⟨_, rfl, _, rfl, h.st T rfl fun H h => ?_⟩
    refine ⟨_, rfl, _, rfl, h.st T rfl fun H h => ?_⟩
    refine ⟨by show 2 ≤ sizeLine; decide, fun q1 hq => ⟨_, rfl, (h.alloc hq).st T rfl fun H h => ?_⟩⟩
    refine ⟨by show 2 ≤ sizeLine; decide, fun q2 hq => ⟨_, rfl, (h.alloc hq).st T rfl fun H h => ?_⟩⟩
    refine ⟨Nat.zero_le _, fun q3 hq => ⟨_, rfl, (h.alloc hq).st T rfl fun H h => ?_⟩⟩
    refine ⟨Nat.zero_le _, fun q4 hq => ⟨_, rfl, (h.alloc hq).st T rfl fun H h => ?_⟩⟩
    refine ⟨Nat.zero_le _, fun q5 hq => ⟨_, rfl, (h.alloc hq).st T rfl fun H h => ?_⟩⟩
    refine ⟨_, rfl, h.st T rfl fun H h => ?_⟩
    refine ⟨_, rfl, h.md (by decide +kernel) ⟨x, dx, _, rfl, rfl, h.obj, fun Hm q6 q7 q8 q9 h' => ?_⟩⟩
    have h := h.then h'
    have sm : ∀ b u, H1 b = some u → Hm b = some u := fun b u e => h.old b u (s0 b u e).1 (s0 b u e).2
    have far : ∀ q ∈ [q9, q8, q7, q6, q5, q4, q3, q2, q1], q ≠ x := fun q hq z => by
      obtain ⟨y, hy, e⟩ := List.mem_map.mp (show q ∈ ([(q9, HO.lst []), (q8, .lst []), (q7, .lst []), (q6, .lst []), (q5, .lst []), (q4, .lst []), (q3, .lst []), (q2, .tup [.int 0, .int 0]), (q1, .tup [.int 0, .int 0])] : List (Addr × HO)).map (·.1) from hq)
      have := (h.loc y hy).2
      rw [e, z] at this
      exact h.was this
    have loc1 : ∀ q ∈ [q9, q8, q7, q6, q5, q4, q3, q2, q1], H1 q = none := fun q hq => by
      obtain ⟨y, hy, e⟩ := List.mem_map.mp (show q ∈ ([(q9, HO.lst []), (q8, .lst []), (q7, .lst []), (q6, .lst []), (q5, .lst []), (q4, .lst []), (q3, .lst []), (q2, .tup [.int 0, .int 0]), (q1, .tup [.int 0, .int 0])] : List (Addr × HO)).map (·.1) from hq)
      have := (h.loc y hy).2
      rw [e] at this
      cases z : H1 q with
      | none => rfl
      | some u => rw [(s0 q u z).1] at this; cases this
    have nd9 : [q9, q8, q7, q6, q5, q4, q3, q2, q1].Nodup := h.nd
    have nd7 : [q9, q8, q7, q6, q5, q4, q3].Nodup := (List.nodup_append.mp (show ([q9, q8, q7, q6, q5, q4, q3] ++ [q2, q1]).Nodup from nd9)).1
    have at_ : ∀ q ∈ ([(q9, HO.lst []), (q8, .lst []), (q7, .lst []), (q6, .lst []), (q5, .lst []), (q4, .lst []), (q3, .lst []), (q2, .tup [.int 0, .int 0]), (q1, .tup [.int 0, .int 0])] : List (Addr × HO)), Hm q.1 = some q.2 := fun q hq => (h.loc q hq).1
    generalize hl : ([(x, (n, 0)), (q9, (n, 7)), (q8, (n, 6)), (q7, (n, 5)), (q6, (n, 4)), (q5, (n, 3)), (q4, (n, 2)), (q3, (n, 1))] : List (Addr × (Int × Nat))) = l
    have el : l.map (·.1) = x :: [q9, q8, q7, q6, q5, q4, q3] := by rw [← hl]; rfl
    have ndl : (l.map (·.1)).Nodup := by
      rw [el, List.nodup_cons]
      exact ⟨fun z => far x (List.mem_append_left [q2, q1] z) rfl, nd7⟩
    have l1 : ∀ q ∈ l, H1 q.1 = none := fun q hq => by
      have : q.1 ∈ x :: [q9, q8, q7, q6, q5, q4, q3] := by rw [← el]; exact List.mem_map.mpr ⟨q, hq, rfl⟩
      rcases List.mem_cons.mp this with z | z
      · rw [z]; exact hx
      · exact loc1 _ (List.mem_append_left [q2, q1] z)
    have om : OwnOk Hm (tags w1 l) := OwnOk.tags o1 sm fun q hq => ⟨l1 q hq, by
      rw [← hl] at hq
      rcases List.mem_cons.mp hq with z | z
      · rw [z]; exact ⟨_, h.obj, fun _ z => by cases z⟩
      · refine ⟨.lst [], ?_, fun _ z => by cases z⟩
        have : (q.1, HO.lst []) ∈ ([(q9, HO.lst []), (q8, .lst []), (q7, .lst []), (q6, .lst []), (q5, .lst []), (q4, .lst []), (q3, .lst []), (q2, .tup [.int 0, .int 0]), (q1, .tup [.int 0, .int 0])] : List (Addr × HO)) := by
          simp only [List.mem_cons, List.not_mem_nil, or_false] at z
          rcases z with z | z | z | z | z | z | z <;> (rw [z]; simp)
        exact at_ _ this⟩
    have wn : ∀ b, H1 b ≠ none → tags w1 l b = w1 b := fun b hb => tags_old l1 hb
    have tg : ∀ {a : Addr} {k : Nat}, (a, (n, k)) ∈ l → tags w1 l a = some (n, k) := fun hm => tags_in ndl hm
    have a0 : At C n Hm (tags w1 l) Hm (tags w1 l) x cf c { M.fresh n with runs := false } ⟨dx, q1, q2, q3, q4, q5, q6, q7, q8, q9⟩ [] := by
      have lf : ∀ {α : Type} {R : Rp α} {a : Addr} {k : Nat}, (a, (n, k)) ∈ l → Hm a = some (.lst []) → LF Hm (tags w1 l) n k R a [] := fun hm e => ⟨tg hm, [], e, .nil⟩
      refine ⟨⟨h.obj, tg (by rw [← hl]; simp), ⟨at_ (q1, .tup [.int 0, .int 0]) (by simp), at_ (q2, .tup [.int 0, .int 0]) (by simp), ?_⟩⟩, rfl, hcf.move fun b o e z => ⟨sm b o e, by rw [wn b (some_ne e)]; exact z⟩, om, Fr.refl _ _ _, (fun _ z => nomatch z), List.nodup_nil⟩
      exact ⟨lf (by rw [← hl]; simp) (at_ (q3, _) (by simp)), lf (by rw [← hl]; simp) (at_ (q4, _) (by simp)), lf (by rw [← hl]; simp) (at_ (q5, _) (by simp)), lf (by rw [← hl]; simp) (at_ (q6, _) (by simp)), lf (by rw [← hl]; simp) (at_ (q7, _) (by simp)), lf (by rw [← hl]; simp) (at_ (q8, _) (by simp)), lf (by rw [← hl]; simp) (at_ (q9, _) (by simp))⟩
    refine ⟨_, rfl, a0.md (by decide +kernel) ⟨n, _, x, cf, c, _, _, [], M.fresh n, rfl, a0, ⟨rfl, rfl⟩, fun H' w' A' h2 => ?_⟩⟩
    obtain ⟨b1, b2⟩ := born_of o1 sm wn no h2.fr h2.ok
    refine k H' _ A' b1 ⟨h2.mb.obj, b2 _ _ h2.mb.own, ?_⟩
    obtain ⟨p1, p2, p3, p4, p5, p6, p7, p8, p9⟩ := h2.parts
    exact ⟨p1, p2, ⟨b2 _ _ p3.1, p3.2⟩, ⟨b2 _ _ p4.1, p4.2⟩, ⟨b2 _ _ p5.1, p5.2⟩, ⟨b2 _ _ p6.1, p6.2⟩, ⟨b2 _ _ p7.1, p7.2⟩, ⟨b2 _ _ p8.1, p8.2⟩, ⟨b2 _ _ p9.1, p9.2⟩⟩
end
end Lp
/-! Part M9: which lists are a configuration. -/
namespace Lp
open PySem PySem.Spec PyProof.Rows L2
def rBool : Rp Bool := fun _ v b => v = .bl b
instance : Stays rBool := ⟨fun _ h => h⟩
theorem pr_bools : ∀ {vs : List V} {bs : List Bool}, Paired (fun v b => v = V.bl b) vs bs → vs = bs.map V.bl
  | _, _, .nil => rfl
  | _, _, .cons x t => by rw [x, pr_bools t]; rfl
theorem filter_yes {α : Type} (l : List α) : (l.filter fun _ => true) = l := List.filter_eq_self.mpr fun _ _ => rfl
theorem all_id {α : Type} (p : α → Bool) : ∀ l : List α, (l.map p).all id = l.all p
  | [] => rfl
  | a :: l => by rw [List.map_cons, List.all_cons, List.all_cons, all_id p l]; rfl
theorem any_id {α : Type} (p : α → Bool) : ∀ l : List α, (l.map p).any id = l.any p
  | [] => rfl
  | a :: l => by rw [List.map_cons, List.any_cons, List.any_cons, any_id p l]; rfl
/-- what is_list says -/
def isListB (ns : List Int) : Bool := ns.all (fun n => decide (1 ≤ n) && decide (n ≤ 9)) && (ns.zip (ns.drop 1)).all fun x => decide (x.1 < x.2)
/-- what is_valid says -/
def isValidB (vs os ls : List Int) : Bool := isListB vs && (isListB os && (isListB ls && (decide (0 < (vs.length : Int)) && (!decide (vs = os) && !vs.any fun n => ls.contains n))))
theorem eqv_ints : ∀ (a b : List Int), PyData.eqvAll (a.map .int) (b.map .int) = decide (a = b)
  | [], [] => by unfold PyData.eqvAll; rfl
  | [], b :: bs => by unfold PyData.eqvAll; rfl
  | a :: as, [] => by unfold PyData.eqvAll; rfl
  | a :: as, b :: bs => by
    rw [List.map_cons, List.map_cons, PyData.eqvAll, eqv_ints as bs]
    show (a == b && _) = _
    by_cases e : a = b
    · subst e
      rw [beq_self_eq_true, Bool.true_and]
      exact decide_eq_decide.mpr ⟨fun z => by rw [z], fun z => (List.cons.inj z).2⟩
    · rw [beq_eq_false_iff_ne.mpr e, Bool.false_and]
      exact (decide_eq_false fun z => e (List.cons.inj z).1).symm
theorem dp_ints {K : PySem.W.Frag} {H : Hp} : ∀ ns : List Int, DpAll K H (ns.map V.int) (ns.map PyData.int)
  | [] => .nil
  | n :: ns => .cons (.int n) (dp_ints ns)
theorem ints_lay : ∀ ns : List Int, PyData.canLayAll0 (ns.map PyData.int) = true ∧ PyData.depthAll (ns.map PyData.int) ≤ 1
  | [] => ⟨by simp only [List.map_nil, PyData.canLayAll0], by simp only [List.map_nil, PyData.depthAll]; omega⟩
  | n :: ns => by
    obtain ⟨h1, h2⟩ := ints_lay ns
    refine ⟨?_, ?_⟩
    · simp only [List.map_cons, PyData.canLayAll0, PyData.canLay0, h1, Bool.and_true]
    · simp only [List.map_cons, PyData.depthAll, PyData.depth]
      omega
theorem ints_shaped (ns : List Int) : SeqAt.shaped (.list (ns.map PyData.int)) = true := by
  obtain ⟨h1, h3⟩ := ints_lay ns
  have h2 : PyData.depth (.list (ns.map PyData.int)) ≤ 64 := by
    simp only [PyData.depth]
    omega
  show (PyData.canLay0 (.list (ns.map PyData.int)) && decide (PyData.depth (.list (ns.map PyData.int)) ≤ 64)) = true
  rw [Bool.and_eq_true]
  exact ⟨by simp only [PyData.canLay0]; exact h1, decide_eq_true h2⟩
/-- xs != ys over lists of ints -/
theorem ne_lists {K : PySem.W.Frag} {H : Hp} {Q : VK} {p q : Addr} {a b : List Int} (hp : SqL K H p (a.map V.int)) (hq : SqL K H q (b.map V.int)) (k : Q (.bl (!decide (a = b))) H) : rNeD K (.ref p) (.ref q) H Q :=
  ⟨.list (a.map .int), .list (b.map .int), .lst hp (dp_ints a), .lst hq (dp_ints b), ints_shaped a, ints_shaped b, by
    rw [show PyData.eqv (.list (a.map .int)) (.list (b.map .int)) = PyData.eqvAll (a.map .int) (b.map .int) by rw [PyData.eqv], eqv_ints]
    exact k⟩
section
variable {P : Program} {w : World} {K : PySem.W.Frag} {mg : Str → Option Value} {base : Heap} {C : Cl}
/-! ### is_list -/
abbrev s_is_list : Stmt := top 2
theorem sc_is_list : FnScope ["row", "number", "one", "other"] ["row"] (defScope s_is_list) := ⟨rfl, rfl, rfl, by decide +kernel, rfl, by decide +kernel, by decide +kernel⟩
def R_isList (K : PySem.W.Frag) : List V → Hp → Bool → Prop := fun vs H b => ∃ (a : Addr) (ns : List Int), vs = [.ref a] ∧ SqL K H a (ns.map V.int) ∧ ns.length ≤ 1000 ∧ b = isListB ns
theorem ok_is_list {f : Addr} {fd : FuncData} (T : Txt K mg C) (F : Fun K "is_list" "is_list" s_is_list f fd) : FnOk P w K mg base CX0 1 f fd ["row"] (spBl (R_isList K)) := by
  refine F.ok sc_is_list (fun vs H Q E h => ?_) (fun cdv A outer s H vs Q E hr h => ?_)
  · obtain ⟨_, ⟨_, _, rfl, _⟩, _⟩ := h
    rfl
  · refine ⟨_, (pss_cons (ps_if (pt_not (pt_val (pe_callB (cr_all rfl) (by rfl) T.b_all boot_all (pa_cons (pe_lc (own := [("number", 1)]) (g := gName 1) rfl sc_is_list.nd (pi_list (pv 0)) (blkOk_by (N := ["row", "number", "one", "other"]) (sc := defScope s_is_list) (by decide +kernel)) (fun _ _ _ _ _ => pg_name (i := 1) sc_is_list.nd rfl (Or.inl rfl)) (fun _ _ _ _ _ => pts_nil) (fun _ _ _ _ _ => (pe_chain op_le op_le pe_int (pv 1) (pe_const rfl T.k_GREATEST_configurations)))) pa_nil))))
        (pss_one (ps_ret pe_bl))
        pss_nil)
      (pss_one (ps_ret (pe_callB (cr_all rfl) (by rfl) T.b_all boot_all (pa_cons (pe_lc (own := [("one", 2), ("other", 3)]) (g := gTup K 2 (gCons (gName 2) (gCons (gName 3) gNil))) rfl sc_is_list.nd (pi_zip (by rfl) T.b_zip (pa_cons (pv 0) (pa_cons (pe_slice sl_list (pv 0) (po_some pe_int) po_none) pa_nil))) (blkOk_by (N := ["row", "number", "one", "other"]) (sc := defScope s_is_list) (by decide +kernel)) (fun _ _ _ _ _ => pg_tup rfl (pgs_cons (pg_name (i := 2) sc_is_list.nd rfl (Or.inl rfl)) (pgs_cons (pg_name (i := 3) sc_is_list.nd rfl (Or.inl rfl)) pgs_nil))) (fun _ _ _ _ _ => pts_nil) (fun _ _ _ _ _ => (pe_cmpR op_lt (pv 2) (pv 3) (nomark _)))) pa_nil))))), ?_⟩
    obtain ⟨_, ⟨a, ns, rfl, ha, hl, rfl⟩, k⟩ := h
    refine ⟨_, rfl, a, rfl, ⟨_, ha⟩, fun D hD => lc_list (K := K) (a := a) (xs := ns.map V.int) (fun i H' => LcInv rBool H D (outF (fun _ => true) (fun n => decide (1 ≤ n) && decide (n ≤ 9)) ns i) H') (LcInv.zero hD) (fun i H' _ h => h.srcL ha) (fun i x H' hx h => ?_) (fun H1 h => ?_)⟩
    · obtain ⟨z, hz, rfl⟩ := int_at hx
      have le := outF_lt (p := fun _ => true) (f := fun n : Int => decide (1 ≤ n) && decide (n ≤ 9)) hz
      refine ⟨rfl, _, rfl, _, _, rfl, rfl, _, rfl, ?_⟩
      rw [outF_yes hz rfl]
      by_cases e : 1 ≤ z
      · refine ifT (decide_eq_true e) ?_
        refine ⟨_, _, rfl, rfl, h.add hD (same_refl _) (by rw [sizeLine_is]; omega) ?_⟩
        rw [decide_eq_true e, Bool.true_and]
        rfl
      · refine ifF (decide_eq_false e) ?_
        refine h.add hD (same_refl _) (by rw [sizeLine_is]; omega) ?_
        rw [decide_eq_false e, Bool.false_and]
        rfl
    · rw [List.length_map, outF_all, filter_yes] at h
      obtain ⟨s1, acc, hacc, hp⟩ := h
      have ea := pr_bools hp
      subst ea
      refine ⟨D, _, rfl, .of hacc, _, rfl, ?_⟩
      rw [all_id]
      unfold isListB at k
      cases e : ns.all fun n => decide (1 ≤ n) && decide (n ≤ 9) with
      | false =>
        rw [e] at k
        exact ifT rfl (k _ s1)
      | true =>
        rw [e, Bool.true_and] at k
        refine ifF rfl ?_
        have ha1 := L2.Same.seq s1 ha
        refine ⟨_, rfl, _, rfl, _, rfl, a, _, rfl, ha1, fun q hq => ?_⟩
        rw [cutV_drop _ (by decide), ← List.map_drop]
        have s2 := same_upd (o := .lst ((ns.drop (1 : Int).toNat).map V.int)) hq
        refine ⟨a, q, _, _, rfl, L2.Same.seq s2 ha1, .of upd_same, fun D2 hD2 => lc_it (walk_zip (K := K) (n := (ns.zip (ns.drop 1)).length) (by rw [List.length_zip, List.length_map, List.length_map]; rfl)) (fun i H' => LcInv rBool _ D2 (outF (fun _ => true) (fun x => decide (x.1 < x.2)) (ns.zip (ns.drop 1)) i) H') (LcInv.zero hD2) (fun i H' _ h => ⟨h.srcL (L2.Same.seq s2 ha1), h.src upd_same⟩) (fun i x H' H2 hi h y => ?_) (fun H2 h => ?_)⟩
        · obtain ⟨t, x, y, rfl, ht, rfl, hx, hy⟩ := y
          obtain ⟨x, hx', rfl⟩ := int_at hx
          obtain ⟨y, hy', rfl⟩ := int_at hy
          have hz : (ns.zip (ns.drop 1))[i]? = some (x, y) := by
            rw [List.getElem?_zip_eq_some]
            exact ⟨hx', hy'⟩
          have le := outF_lt (p := fun _ => true) (f := fun x : Int × Int => decide (x.1 < x.2)) hz
          have lz : (ns.zip (ns.drop 1)).length ≤ ns.length := by rw [List.length_zip]; omega
          refine ⟨t, _, rfl, .of upd_same, rfl, _, _, rfl, _, _, rfl, rfl, rfl, _, rfl, _, rfl, _, _, rfl, rfl, ?_⟩
          rw [outF_yes hz rfl]
          exact h.add hD2 (same_upd ht) (by rw [sizeLine_is]; omega) rfl
        · rw [outF_all, filter_yes] at h
          obtain ⟨s3, acc, hacc, hp⟩ := h
          have ea := pr_bools hp
          subst ea
          refine ⟨D2, _, rfl, .of hacc, ?_⟩
          rw [all_id]
          exact k _ (same_trans s1 (same_trans s2 s3))
/-! ### is_valid -/
abbrev s_is_valid : Stmt := top 3
theorem sc_is_valid : FnScope ["voters", "outgoing", "learners", "number"] ["voters", "outgoing", "learners"] (defScope s_is_valid) := ⟨rfl, rfl, rfl, by decide +kernel, rfl, by decide +kernel, by decide +kernel⟩
def R_isValid (K : PySem.W.Frag) : List V → Hp → Bool → Prop := fun vs H b => ∃ (v o l : Addr) (vs' os ls : List Int), vs = [.ref v, .ref o, .ref l] ∧ SqL K H v (vs'.map V.int) ∧ SqL K H o (os.map V.int) ∧ SqL K H l (ls.map V.int) ∧ vs'.length ≤ 1000 ∧ os.length ≤ 1000 ∧ ls.length ≤ 1000 ∧ b = isValidB vs' os ls
theorem ok_is_valid {f : Addr} {fd : FuncData} (T : Txt K mg C) (F : Fun K "is_valid" "is_valid" s_is_valid f fd) (D_is_list : DfG P w K mg base CX0 1 "is_list" ["row"] (spBl (R_isList K))) :
    FnOk P w K mg base CX0 2 f fd ["voters", "outgoing", "learners"] (spBl (R_isValid K)) := by
  refine F.ok sc_is_valid (fun vs H Q E h => ?_) (fun cdv A outer s H vs Q E hr h => ?_)
  · obtain ⟨_, ⟨_, _, _, _, _, _, rfl, _⟩, _⟩ := h
    rfl
  · refine ⟨_, (pss_cons (ps_if (PW.pt (pw_or (pt_not (pt_val (pe_cal D_is_list (hr.mono (by decide)) rfl (pa_cons (pv 0) pa_nil)))) (pw_or (pt_not (pt_val (pe_cal D_is_list (hr.mono (by decide)) rfl (pa_cons (pv 1) pa_nil)))) (pw_or1 (pt_not (pt_val (pe_cal D_is_list (hr.mono (by decide)) rfl (pa_cons (pv 2) pa_nil))))))))
        (pss_one (ps_ret pe_bl))
        pss_nil)
      (pss_one (ps_ret (pe_and (pe_cmpR op_gt (pe_callB call_len_seq (by rfl) T.b_len PySem.boot_len (pa_cons (pv 0) pa_nil)) pe_int (nomark _)) (pe_and (pe_cmpR (op_neD hr.units) (pv 0) (pv 1) (nomark _)) (pe_one (pe_not (pe_callB (cr_any rfl) (by rfl) T.b_any boot_any (pa_cons (pe_lc (own := [("number", 3)]) (g := gName 3) rfl sc_is_valid.nd (pi_list (pv 0)) (blkOk_by (N := ["voters", "outgoing", "learners", "number"]) (sc := defScope s_is_valid) (by decide +kernel)) (fun _ _ _ _ _ => pg_name (i := 3) sc_is_valid.nd rfl (Or.inl rfl)) (fun _ _ _ _ _ => pts_nil) (fun _ _ _ _ _ => (pe_cmpR (op_in_seqK K rfl) (pv 3) (pv 2) (by rfl)))) pa_nil))))))))), ?_⟩
    obtain ⟨_, ⟨v, o, l, vs, os, ls, rfl, hv, ho, hl, l1, l2, l3, rfl⟩, k⟩ := h
    unfold isValidB at k
    refine ⟨_, rfl, _, ⟨v, vs, rfl, hv, l1, rfl⟩, fun H1 s1 => ⟨_, rfl, ?_⟩⟩
    cases e1 : isListB vs with
    | false =>
      rw [e1] at k
      exact ifT rfl (k _ s1)
    | true =>
      rw [e1, Bool.true_and] at k
      refine ifF rfl ?_
      refine ⟨_, rfl, _, ⟨o, os, rfl, L2.Same.seq s1 ho, l2, rfl⟩, fun H2 s2 => ⟨_, rfl, ?_⟩⟩
      replace s2 := same_trans s1 s2
      cases e2 : isListB os with
      | false =>
        rw [e2] at k
        exact ifT rfl (k _ s2)
      | true =>
        rw [e2, Bool.true_and] at k
        refine ifF rfl ?_
        refine ⟨_, rfl, _, ⟨l, ls, rfl, L2.Same.seq s2 hl, l3, rfl⟩, fun H3 s3 => ⟨_, rfl, ?_⟩⟩
        replace s3 := same_trans s2 s3
        cases e3 : isListB ls with
        | false =>
          rw [e3] at k
          exact ifT rfl (k _ s3)
        | true =>
          rw [e3, Bool.true_and] at k
          refine ifF rfl ?_
          refine ⟨_, rfl, v, _, rfl, .inl (L2.Same.seq s3 hv), _, _, rfl, rfl, _, rfl, ?_⟩
          rw [List.length_map]
          by_cases e4 : 0 < (vs.length : Int)
          · rw [decide_eq_true e4, Bool.true_and] at k
            refine ifT (decide_eq_true e4) ?_
            refine ⟨_, rfl, _, rfl, ne_lists (L2.Same.seq s3 hv) (L2.Same.seq s3 ho) ⟨_, rfl, ?_⟩⟩
            cases e5 : !decide (vs = os) with
            | false =>
              rw [e5] at k
              exact ifF rfl (k _ s3)
            | true =>
              rw [e5, Bool.true_and] at k
              refine ifT rfl ?_
              have hv3 := L2.Same.seq s3 hv
              refine ⟨_, rfl, v, rfl, ⟨_, hv3⟩, fun D hD => lc_list (K := K) (a := v) (xs := vs.map V.int) (fun i H' => LcInv rBool H3 D (outF (fun _ => true) (fun n => ls.contains n) vs i) H') (LcInv.zero hD) (fun i H' _ h => h.srcL hv3) (fun i x H' hx h => ?_) (fun H4 h => ?_)⟩
              · obtain ⟨z, hz, rfl⟩ := int_at hx
                have le := outF_lt (p := fun _ => true) (f := fun n : Int => ls.contains n) hz
                refine ⟨rfl, _, rfl, _, rfl, in_ints (h.srcL (L2.Same.seq s3 hl)) ?_⟩
                rw [outF_yes hz rfl]
                exact h.add hD (same_refl _) (by rw [sizeLine_is]; omega) rfl
              · rw [List.length_map, outF_all, filter_yes] at h
                obtain ⟨s4, acc, hacc, hp⟩ := h
                have ea := pr_bools hp
                subst ea
                refine ⟨D, _, rfl, .of hacc, _, rfl, ?_⟩
                rw [any_id]
                exact k _ (same_trans s3 s4)
          · rw [decide_eq_false e4] at k
            exact ifF (decide_eq_false e4) (k _ s3)
end
end Lp
/-! Part N1: a new configuration. -/
namespace Lp
open PySem PySem.Spec PyProof.Rows L2
section
variable {P : Program} {w : World} {K : PySem.W.Frag} {mg : Str → Option Value} {base : Heap} {C : Cl}
abbrev s_Configuration___init__ : Stmt := inClass (top 5) 0
theorem sc_Configuration___init__ : FnScope ["self", "voters", "outgoing", "learners"] ["self", "voters", "outgoing", "learners"] (defScope s_Configuration___init__) := ⟨rfl, rfl, rfl, by decide +kernel, rfl, by decide +kernel, by decide +kernel⟩
def spConfig (C : Cl) : Sp := fun us H Q _ => ∃ (H1 : Hp) (x dx v o l : Addr) (vs os ls : List Int), us = [.ref x, .ref v, .ref o, .ref l] ∧ H = upd (upd H1 dx (.own x)) x (.ins C.c dx []) ∧ H1 x = none ∧ H1 dx = none ∧ dx ≠ x ∧
  H1 v = some (.lst (vs.map V.int)) ∧ H1 o = some (.lst (os.map V.int)) ∧ H1 l = some (.lst (ls.map V.int)) ∧ vs.length + os.length + ls.length ≤ 60 ∧
  ∀ (H' : Hp) (e : Addr) (ns : List Int), Same H1 H' → H' x = some (.ins C.c dx (cNames.zip [.ref v, .ref o, .ref e])) → H' e = some (.lst (ns.map V.int)) → H1 e = none → e ≠ x → ns.Pairwise (· < ·) → (∀ k : Int, k ∈ ns ↔ k ∈ vs ++ os ++ ls) → Q .non H'
theorem ok_Configuration___init__ {f : Addr} {fd : FuncData} (T : Txt K mg C) (F : Fun K "__init__" "Configuration.__init__" s_Configuration___init__ f fd) : FnOk P w K mg base CX0 1 f fd ["self", "voters", "outgoing", "learners"] (spConfig C) := by
  refine F.ok sc_Configuration___init__ (fun vs H Q E h => ?_) (fun cdv A outer s H vs Q E hr h => ?_)
  · obtain ⟨_, _, _, _, _, _, _, _, _, rfl, _⟩ := h
    rfl
  · refine ⟨_, (pss_cons (ps_fld (pv 0) (pv 1) rfl)
      (pss_cons (ps_fld (pv 0) (pv 2) rfl)
      (pss_one (ps_fld (pv 0) (pe_callB (cr_sortedSet rfl) (by rfl) T.b_sorted boot_sorted (pa_cons (pe_callTy (cr_setL rfl) (by rfl) T.b_set boot_set (pa_cons (pe_op op_cat (pe_op op_cat (pv 1) (pv 2)) (pv 3)) pa_nil)) pa_nil)) rfl)))), ?_⟩
    obtain ⟨H1, x, dx, v, o, l, vs, os, ls, rfl, rfl, hx, hdx, nx, hv, ho, hl, len, k⟩ := h
    have old : ∀ {H' : Hp} {fs : List (Str × V)}, (∀ b u, H1 b = some u → H' b = some u) → ∀ b u, H1 b = some u → upd H' x (.ins C.c dx fs) b = some u := fun s b u e => by rw [upd_ne (ne_of_none e hx)]; exact s b u e
    have s0 : ∀ b u, H1 b = some u → upd H1 dx (.own x) b = some u := fun b u e => by rw [upd_ne (ne_of_none e hdx)]; exact e
    refine ⟨_, rfl, _, rfl, x, C.c, dx, _, rfl, upd_same, T.cl_c, T.na_c _ (by decide +kernel), by decide, ?_⟩
    refine ⟨_, rfl, _, rfl, x, C.c, dx, _, rfl, upd_same, T.cl_c, T.na_c _ (by decide +kernel), by show 1 < 1000; decide, ?_⟩
    have s3 := old (fs := putF "outgoing" (.ref o) (putF "voters" (.ref v) [])) (old (fs := putF "voters" (.ref v) []) (old (fs := []) s0))
    have hx3 : upd (upd (upd (upd H1 dx (.own x)) x (.ins C.c dx [])) x (.ins C.c dx (putF "voters" (.ref v) []))) x (.ins C.c dx (putF "outgoing" (.ref o) (putF "voters" (.ref v) []))) x = some (.ins C.c dx [("voters", .ref v), ("outgoing", .ref o)]) := upd_same
    revert s3 hx3
    generalize upd (upd (upd (upd H1 dx (.own x)) x (.ins C.c dx [])) x (.ins C.c dx (putF "voters" (.ref v) []))) x (.ins C.c dx (putF "outgoing" (.ref o) (putF "voters" (.ref v) []))) = H3
    intro s3 hx3
    refine ⟨_, rfl, _, rfl, v, o, _, _, rfl, rfl, s3 _ _ hv, s3 _ _ ho, by rw [List.length_map, List.length_map, sizeLine_is]; omega, fun q1 hq1 => ?_⟩
    have t1 := same_upd (o := .lst (vs.map V.int ++ os.map V.int)) hq1
    refine ⟨_, rfl, q1, l, _, _, rfl, rfl, upd_same, t1 _ _ (s3 _ _ hl), by rw [List.length_append, List.length_map, List.length_map, List.length_map, sizeLine_is]; omega, fun q2 hq2 => ?_⟩
    have t2 := same_trans t1 (same_upd (o := .lst (vs.map V.int ++ os.map V.int ++ ls.map V.int)) hq2)
    refine ⟨q2, vs ++ os ++ ls, rfl, .of (by rw [upd_same, List.map_append, List.map_append]), by rw [List.length_append, List.length_append]; show _ < 4096; omega, fun q3 n hn hq3 => ?_⟩
    rw [List.length_append, List.length_append] at hn
    have t3 := same_trans t2 (same_upd (o := SetO w q3 (fun j => decide (j ∈ vs ++ os ++ ls)) n) hq3)
    refine ⟨q3, _, n, rfl, upd_same, by omega, fun ns e h1 h2 _ he => ?_⟩
    have t4 := same_trans t3 (same_upd (o := .lst (ns.map V.int)) he)
    have ex : e ≠ x := fun z => by have e2 := t3 _ _ hx3; rw [← z] at e2; exact nomatch (show (none : Option HO) = some _ from he.symm.trans e2)
    refine ⟨_, rfl, x, C.c, dx, _, rfl, t4 _ _ hx3, T.cl_c, T.na_c _ (by decide +kernel), by show 2 < 1000; decide, ?_⟩
    refine k _ e ns (fun b u z => old (fun b u z => t4 b u (s3 b u z)) b u z) ?_ ?_ ?_ ex h1 fun k => ?_
    · rw [upd_same]; rfl
    · rw [upd_ne ex]; exact upd_same
    · cases z : H1 e with
      | none => rfl
      | some u => exact nomatch (show (none : Option HO) = some _ from he.symm.trans (t3 _ _ (s3 _ _ z)))
    · rw [h2 k]; exact decide_eq_true_iff
end
end Lp
/-! Part N2: a group in the heap. -/
namespace Lp
open PySem PySem.Spec PyProof.Rows L2
theorem hu_of {k : Nat} {A : Around} (h : Room k A) : A.units + 1 < cLine := by have := h.units; omega
/-- a group as the program holds it -/
structure GM where
  c : Cfg
  ms : List M
  way : List (List Int)
  log : List (Int × Int)
  sent : Int
  blocked : List (Int × Int)
/-- where its parts lie -/
structure GA where
  dx : Addr
  cf : Addr
  md : Addr
  way : Addr
  blk : Addr
  log : Addr
def gVals (S : GM) (A : GA) : List V := [.ref A.cf, .ref A.md, .ref A.way, .ref A.blk, .ref A.log, .int S.sent]
def gF (S : GM) (A : GA) : List (Str × V) := gNames.zip (gVals S A)
def mdK (ms : List M) (ps : List Addr) : List (Key × V) := (ms.zip ps).map fun x => (Sum.inl x.1.number, V.ref x.2)
def blkK (bl : List (Int × Int)) : List (List Key × V) := bl.map fun x => ([Sum.inl x.1, Sum.inl x.2], V.bl true)
structure Gp (CG : Addr) (H : Hp) (w : Ow) (g : Addr) (S : GM) (A : GA) (ps : List Addr) : Prop where
  obj : H g = some (.ins CG A.dx (gF S A))
  own : w g = some (0, 0)
  way : LF H w 0 1 rRow A.way S.way
  log : LF H w 0 2 rPr A.log S.log
  blk : w A.blk = some (0, 3) ∧ H A.blk = some (.dT (blkK S.blocked))
  md : w A.md = some (0, 4) ∧ H A.md = some (.dK (mdK S.ms ps))
/-- what bears no tag stays -/
structure Fu (H : Hp) (w : Ow) (H' : Hp) (w' : Ow) : Prop where
  keep : ∀ b o, H b = some o → w b = none → H' b = some o ∧ w' b = none
  there : ∀ b, H b ≠ none → H' b ≠ none
theorem Fu.refl (H : Hp) (w : Ow) : Fu H w H w := ⟨fun _ _ e z => ⟨e, z⟩, fun _ e => e⟩
theorem Fu.trans {H H1 H2 : Hp} {w w1 w2 : Ow} (a : Fu H w H1 w1) (b : Fu H1 w1 H2 w2) : Fu H w H2 w2 :=
  ⟨fun c o e z => b.keep c o (a.keep c o e z).1 (a.keep c o e z).2, fun c e => b.there c (a.there c e)⟩
theorem Fr.fu {T : Int → Prop} {H H1 : Hp} {w w1 : Ow} (a : Fr T H w H1 w1) : Fu H w H1 w1 :=
  ⟨fun c o e z => ⟨a.keep c o e (fun i k y => by rw [z] at y; cases y), (a.own c (some_ne e)).trans z⟩, a.there⟩
/-- as At, of a group -/
structure GAt (C : Cl) (H0 : Hp) (w0 : Ow) (H : Hp) (w : Ow) (g : Addr) (S : GM) (A : GA) (ps : List Addr) (X : List (Addr × HO)) : Prop where
  gp : Gp C.g H w g S A ps
  cf : Cf C.c H w A.cf S.c
  mbs : ∀ (i : Nat) m, S.ms[i]? = some m → ∃ p B, ps[i]? = some p ∧ Mb C.m H w p A.cf m B
  len : ps.length = S.ms.length
  nd : (S.ms.map (·.number)).Nodup
  n0 : ∀ m ∈ S.ms, m.number ≠ 0
  ok : OwnOk H w
  fr : Fu H0 w0 H w
  loc : ∀ q ∈ X, H q.1 = some q.2 ∧ w q.1 = none ∧ H0 q.1 = none
  ndX : (X.map (·.1)).Nodup
section
variable {CG : Addr} {H H' : Hp} {w w' : Ow} {g q b : Addr} {S : GM} {A : GA} {ps : List Addr} {o u : HO}
theorem Gp.same (h : Gp CG H w g S A ps) (s : Same H H') : Gp CG H' w g S A ps :=
  ⟨s _ _ h.obj, h.own, h.way.same s, h.log.same s, ⟨h.blk.1, s _ _ h.blk.2⟩, ⟨h.md.1, s _ _ h.md.2⟩⟩
theorem Gp.fr {T : Int → Prop} (h : Gp CG H w g S A ps) (f : Fr T H w H' w') (ok : OwnOk H w) (hT : ¬ T 0) : Gp CG H' w' g S A ps := by
  have kp : ∀ {b o k}, H b = some o → w b = some (0, k) → H' b = some o ∧ w' b = some (0, k) := fun e z => ⟨f.keep _ _ e fun i k y => by rw [z] at y; cases y; exact hT, (f.own _ (some_ne e)).trans z⟩
  exact ⟨(kp h.obj h.own).1, (kp h.obj h.own).2, h.way.fr f ok hT, h.log.fr f ok hT, ⟨(kp h.blk.2 h.blk.1).2, (kp h.blk.2 h.blk.1).1⟩, ⟨(kp h.md.2 h.md.1).2, (kp h.md.2 h.md.1).1⟩⟩
end
section
variable {C : Cl} {n : Int} {H0 H H' : Hp} {w0 w w' : Ow} {g p q : Addr} {S S' : GM} {A A' : GA} {ps : List Addr} {X : List (Addr × HO)} {o u : HO}
theorem GAt.here (h : GAt C H0 w0 H w g S A ps X) : GAt C H w H w g S A ps [] := ⟨h.gp, h.cf, h.mbs, h.len, h.nd, h.n0, h.ok, Fu.refl _ _, (fun _ z => nomatch z), List.nodup_nil⟩
theorem GAt.then (h : GAt C H0 w0 H w g S A ps X) (k : GAt C H w H' w' g S' A' ps []) : GAt C H0 w0 H' w' g S' A' ps X :=
  ⟨k.gp, k.cf, k.mbs, k.len, k.nd, k.n0, k.ok, h.fr.trans k.fr, fun q hq => by
    obtain ⟨a, b, d⟩ := h.loc q hq
    exact ⟨(k.fr.keep q.1 q.2 a b).1, (k.fr.keep q.1 q.2 a b).2, d⟩, h.ndX⟩
theorem GAt.same (h : GAt C H0 w0 H w g S A ps X) (s : Same H H') : GAt C H0 w0 H' w g S A ps X :=
  ⟨h.gp.same s, h.cf.move fun b o e z => ⟨s b o e, z⟩, fun i m e => by
      obtain ⟨p, B, h1, h2⟩ := h.mbs i m e
      exact ⟨p, B, h1, s _ _ h2.obj, h2.own, h2.parts.same s⟩, h.len, h.nd, h.n0, h.ok.same s,
    ⟨fun b o e z => ⟨s b o (h.fr.keep b o e z).1, (h.fr.keep b o e z).2⟩, fun b e => by
      have := h.fr.there b e
      cases q : H b with
      | none => exact absurd q this
      | some u => exact some_ne (s b u q)⟩,
    fun q hq => let ⟨a, b, d⟩ := h.loc q hq; ⟨s _ _ a, b, d⟩, h.ndX⟩
theorem GAt.old (h : GAt C H0 w0 H w g S A ps X) (hq : H q = none) : H0 q = none := by
  cases e : H0 q with
  | none => rfl
  | some u => exact absurd hq (h.fr.there q (some_ne e))
theorem GAt.got (h : GAt C H0 w0 H w g S A ps X) (s : Same H H') (hq : H q = none) (e : H' q = some o) : GAt C H0 w0 H' w g S A ps ((q, o) :: X) := by
  have h' := h.same s
  refine ⟨h'.gp, h'.cf, h'.mbs, h'.len, h'.nd, h'.n0, h'.ok, h'.fr, fun x hx => ?_, ?_⟩
  · rcases List.mem_cons.mp hx with z | z
    · subst z
      exact ⟨e, h.ok.free hq, h.old hq⟩
    · exact h'.loc x z
  · rw [List.map_cons, List.nodup_cons]
    refine ⟨fun z => ?_, h.ndX⟩
    obtain ⟨x, hx, ex⟩ := List.mem_map.mp z
    have := (h.loc x hx).1
    rw [show x.1 = q from ex, hq] at this
    cases this
theorem GAt.alloc (h : GAt C H0 w0 H w g S A ps X) (hq : H q = none) : GAt C H0 w0 (upd H q o) w g S A ps ((q, o) :: X) := h.got (same_upd hq) hq upd_same
theorem GAt.head (h : GAt C H0 w0 H w g S A ps ((q, o) :: X)) : H q = some o := (h.loc _ (List.mem_cons_self ..)).1
theorem GAt.tail {x : Addr × HO} (h : GAt C H0 w0 H w g S A ps (x :: X)) : GAt C H0 w0 H w g S A ps X :=
  ⟨h.gp, h.cf, h.mbs, h.len, h.nd, h.n0, h.ok, h.fr, fun y hy => h.loc y (List.mem_cons_of_mem _ hy), (List.nodup_cons.mp (by have := h.ndX; rwa [List.map_cons] at this)).2⟩
theorem GAt.arg (h : GAt C H0 w0 H w g S A ps X) {b : Addr} {u : HO} (e : H0 b = some u) (z : w0 b = none) : H b = some u ∧ w b = none := h.fr.keep b u e z
/-- an object of its own is changed -/
theorem GAt.setX (h : GAt C H0 w0 H w g S A ps ((q, o) :: X)) (ho : ∀ xs, o ≠ .tup xs) (hu : ∀ xs, u ≠ .tup xs) : GAt C H0 w0 (upd H q u) w g S A ps ((q, u) :: X) := by
  obtain ⟨a, b, d⟩ := h.loc _ (List.mem_cons_self ..)
  have nd := h.ndX
  rw [List.map_cons, List.nodup_cons] at nd
  have ne : ∀ {x : Addr} {t : Int × Nat}, w x = some t → x ≠ q := fun e z => by rw [z, b] at e; cases e
  have gp := h.gp
  refine ⟨⟨by rw [upd_ne (ne gp.own)]; exact gp.obj, gp.own, gp.way.upd_other a ho (by rw [b]; exact fun z => by cases z), gp.log.upd_other a ho (by rw [b]; exact fun z => by cases z), ⟨gp.blk.1, by rw [upd_ne (ne gp.blk.1)]; exact gp.blk.2⟩, ⟨gp.md.1, by rw [upd_ne (ne gp.md.1)]; exact gp.md.2⟩⟩,
    h.cf.move fun x y e z => ⟨by rw [upd_ne (ne z)]; exact e, z⟩, fun i m e => ?_, h.len, h.nd, h.n0, h.ok.write a hu, ?_, fun x hx => ?_, h.ndX⟩
  · obtain ⟨p, B, h1, h2⟩ := h.mbs i m e
    exact ⟨p, B, h1, by rw [upd_ne (ne h2.own)]; exact h2.obj, h2.own, h2.parts.upd_other a ho fun k _ _ z => by rw [b] at z; cases z⟩
  · refine ⟨fun x y e z => ?_, fun x e => ?_⟩
    · rw [upd_ne (fun z' => by rw [z', d] at e; cases e)]; exact h.fr.keep x y e z
    · by_cases z : x = q
      · rw [z, upd_same]; exact fun z => nomatch z
      · rw [upd_ne z]; exact h.fr.there x e
  · rcases List.mem_cons.mp hx with z | z
    · subst z; exact ⟨upd_same, b, d⟩
    · have n2 : x.1 ≠ q := fun e => nd.1 (List.mem_map.mpr ⟨x, z, e⟩)
      rw [upd_ne n2]
      exact h.loc x (List.mem_cons_of_mem _ z)
/-- the group's own object or one of its lists or dicts is changed -/
theorem GAt.write {b : Addr} {k : Nat} (h : GAt C H0 w0 H w g S A ps X) (hb : H b = some u) (hw : w b = some (0, k)) (k9 : k ≠ 9) (du : ∀ xs, u ≠ .tup xs) (dv : ∀ xs, o ≠ .tup xs)
    (gp : Gp C.g (upd H b o) w g S' A' ps) (ec : S'.c = S.c) (em : S'.ms = S.ms) (ea : A'.cf = A.cf) : GAt C H0 w0 (upd H b o) w g S' A' ps X := by
  refine ⟨gp, ?_, fun i m e => ?_, by rw [em]; exact h.len, by rw [em]; exact h.nd, by rw [em]; exact h.n0, h.ok.write hb dv, ⟨fun x y e z => ?_, fun x e => ?_⟩, fun x hx => ?_, h.ndX⟩
  · rw [ec, ea]
    exact h.cf.move fun x y e z => ⟨by rw [upd_ne (fun q => by rw [q, hw] at z; cases z; exact k9 rfl)]; exact e, z⟩
  · rw [em] at e
    rw [ea]
    obtain ⟨p, B, h1, h2⟩ := h.mbs i m e
    have n := h.n0 m (List.mem_of_getElem? e)
    exact ⟨p, B, h1, by rw [upd_ne (fun z => by have e2 := h2.own; rw [z, hw] at e2; exact n (Prod.mk.inj (Option.some.inj e2)).1.symm)]; exact h2.obj, h2.own, h2.parts.upd_other hb du fun j _ _ z => by rw [hw] at z; exact n (Prod.mk.inj (Option.some.inj z)).1.symm⟩
  · obtain ⟨e2, e3⟩ := h.fr.keep x y e z
    refine ⟨(upd_ne fun q => ?_).trans e2, e3⟩
    rw [q, hw] at e3
    cases e3
  · by_cases z : x = b
    · rw [z, upd_same]; exact fun z => nomatch z
    · rw [upd_ne z]; exact h.fr.there x e
  · obtain ⟨a, d, e⟩ := h.loc x hx
    rw [upd_ne (fun z => by rw [z, hw] at d; cases d)]
    exact ⟨a, d, e⟩
/-- a store to an attribute of the group -/
theorem GAt.put {i : Nat} {f : Str} {v : V} (h : GAt C H0 w0 H w g S A ps X) (hi : gNames[i]? = some f) (hf : ((gNames.take i).all fun y => !(f == y)) = true) (hl : i < 6) (e : (gVals S A).set i v = gVals S' A') (hd : A'.dx = A.dx)
    (h1 : LF H w 0 1 rRow A'.way S'.way) (h2 : LF H w 0 2 rPr A'.log S'.log) (h3 : w A'.blk = some (0, 3) ∧ H A'.blk = some (.dT (blkK S'.blocked))) (h4 : w A'.md = some (0, 4) ∧ H A'.md = some (.dK (mdK S'.ms ps))) (ec : S'.c = S.c) (em : S'.ms = S.ms) (ea : A'.cf = A.cf) :
    GAt C H0 w0 (upd H g (.ins C.g A.dx (putF f v (gF S A)))) w g S' A' ps X := by
  have hw := h.gp.own
  have ep : putF f v (gF S A) = gF S' A' := by
    unfold gF
    rw [put_zip gNames (gVals S A) i hi (by exact hl) hf, e]
  have ne : ∀ {x : Addr} {k : Nat}, w x = some (0, k + 1) → x ≠ g := fun e z => by rw [z, hw] at e; cases e
  refine h.write h.gp.obj hw (by decide) (fun _ z => by cases z) (fun _ z => by cases z) ⟨by rw [upd_same, ep, hd], hw, h1.upd_other h.gp.obj (fun _ z => by cases z) (by rw [hw]; exact fun z => by cases z), h2.upd_other h.gp.obj (fun _ z => by cases z) (by rw [hw]; exact fun z => by cases z), ⟨h3.1, by rw [upd_ne (ne h3.1)]; exact h3.2⟩, ⟨h4.1, by rw [upd_ne (ne h4.1)]; exact h4.2⟩⟩ ec em ea
/-- an object of its own is handed to the group -/
theorem GAt.give {k : Nat} (h : GAt C H0 w0 H w g S A ps ((q, o) :: X)) (ho : ∀ xs, o ≠ .tup xs) : GAt C H0 w0 H (tag w q (0, k)) g S A ps X := by
  obtain ⟨a, b, d⟩ := h.loc _ (List.mem_cons_self ..)
  have nd := h.ndX
  rw [List.map_cons, List.nodup_cons] at nd
  have ne : ∀ {x : Addr} {t : Int × Nat}, w x = some t → x ≠ q := fun e z => by rw [z, b] at e; cases e
  have gp := h.gp
  refine ⟨⟨gp.obj, (tag_ne (ne gp.own)).trans gp.own, gp.way.tag_other b, gp.log.tag_other b, ⟨(tag_ne (ne gp.blk.1)).trans gp.blk.1, gp.blk.2⟩, ⟨(tag_ne (ne gp.md.1)).trans gp.md.1, gp.md.2⟩⟩,
    h.cf.move fun x y e z => ⟨e, (tag_ne (ne z)).trans z⟩, fun i m e => ?_, h.len, h.nd, h.n0, h.ok.tag a ho _, ⟨fun x y e z => ?_, h.fr.there⟩, fun x hx => ?_, nd.2⟩
  · obtain ⟨p, B, h1, h2⟩ := h.mbs i m e
    exact ⟨p, B, h1, h2.obj, (tag_ne (ne h2.own)).trans h2.own, h2.parts.tag_other b⟩
  · rw [tag_ne (fun z => by rw [z, d] at e; cases e)]
    exact h.fr.keep x y e z
  · have n2 : x.1 ≠ q := fun e => nd.1 (List.mem_map.mpr ⟨x, hx, e⟩)
    rw [tag_ne n2]
    exact h.loc x (List.mem_cons_of_mem _ hx)
/-- the i-th member alone -/
theorem GAt.focus {i : Nat} {m : M} (h : GAt C H0 w0 H w g S A ps X) (hi : S.ms[i]? = some m) : ∃ p B, ps[i]? = some p ∧ At C m.number H w H w p A.cf S.c m B [] := by
  obtain ⟨p, B, h1, h2⟩ := h.mbs i m hi
  exact ⟨p, B, h1, h2, rfl, h.cf, h.ok, Fr.refl _ _ _, (fun _ z => nomatch z), List.nodup_nil⟩
/-- a list of the group's that it holds no longer -/
def untag (w : Ow) (a : Addr) : Ow := fun b => if b = a then none else w b
theorem untag_ne {w : Ow} {a b : Addr} (h : b ≠ a) : untag w a b = w b := if_neg h
theorem untag_same {w : Ow} {a : Addr} : untag w a a = none := if_pos rfl
theorem untag_none {w : Ow} {a b : Addr} (h : w b = none) : untag w a b = none := by
  unfold untag
  by_cases e : b = a
  · rw [if_pos e]
  · rw [if_neg e, h]
theorem GAt.untag {a : Addr} (h : GAt C H0 w0 H w g S A ps X) (hw : w a = some (0, 1)) (ne : A.way ≠ a) : GAt C H0 w0 H (untag w a) g S A ps X := by
  have ke : ∀ {b : Addr} {t : Int × Nat}, w b = some t → t ≠ (0, 1) → Lp.untag w a b = some t := fun e z => by
    rw [untag_ne fun y => by rw [y, hw] at e; exact z (Option.some.inj e).symm]; exact e
  have gp := h.gp
  have lf : ∀ {α : Type} {n : Int} {k : Nat} {R : Rp α} {b : Addr} {xs : List α}, LF H w n k R b xs → b ≠ a → LF H (Lp.untag w a) n k R b xs := fun l z => ⟨(untag_ne z).trans l.1, l.2⟩
  have nt : ∀ {b : Addr} {t : Int × Nat}, w b = some t → t ≠ (0, 1) → b ≠ a := fun e z y => by rw [y, hw] at e; exact z (Option.some.inj e).symm
  refine ⟨⟨gp.obj, ke gp.own (by decide), lf gp.way ne, lf gp.log (nt gp.log.1 (by decide)), ⟨ke gp.blk.1 (by decide), gp.blk.2⟩, ⟨ke gp.md.1 (by decide), gp.md.2⟩⟩, h.cf.move fun b o e z => ⟨e, ke z (by decide)⟩, fun i m e => ?_, h.len, h.nd, h.n0, ⟨fun b e => h.ok.there b fun z => e (untag_none z), fun b xs e => untag_none (h.ok.notup b xs e)⟩,
    ⟨fun b o e z => ⟨(h.fr.keep b o e z).1, untag_none (h.fr.keep b o e z).2⟩, h.fr.there⟩, fun q hq => ⟨(h.loc q hq).1, untag_none (h.loc q hq).2.1, (h.loc q hq).2.2⟩, h.ndX⟩
  obtain ⟨p, B, h1, h2⟩ := h.mbs i m e
  have n := h.n0 m (List.mem_of_getElem? e)
  have nn : ∀ k, (m.number, k) ≠ ((0, 1) : Int × Nat) := fun k z => n (Prod.mk.inj z).1
  obtain ⟨p1, p2, p3, p4, p5, p6, p7, p8, p9⟩ := h2.parts
  exact ⟨p, B, h1, h2.obj, ke h2.own (nn 0), p1, p2, lf p3 (nt p3.1 (nn 1)), lf p4 (nt p4.1 (nn 2)), lf p5 (nt p5.1 (nn 3)), lf p6 (nt p6.1 (nn 4)), lf p7 (nt p7.1 (nn 5)), lf p8 (nt p8.1 (nn 6)), lf p9 (nt p9.1 (nn 7))⟩
theorem set_numbers {m m' : M} : ∀ {ms : List M} {i : Nat}, ms[i]? = some m → m'.number = m.number → (ms.set i m').map (·.number) = ms.map (·.number)
  | [], _, h, _ => by simp at h
  | a :: ms, 0, h, e => by
    have : a = m := by simpa using h
    subst this
    show m'.number :: _ = _
    rw [e]
    rfl
  | a :: ms, i + 1, h, e => by
    show a.number :: (ms.set i m').map (·.number) = _
    rw [set_numbers (by simpa using h) e]
    rfl
theorem set_mdK {m m' : M} : ∀ {ms : List M} {i : Nat} (ps : List Addr), ms[i]? = some m → m'.number = m.number → mdK (ms.set i m') ps = mdK ms ps
  | [], _, _, h, _ => by simp at h
  | a :: ms, _, [], h, e => by unfold mdK; simp
  | a :: ms, 0, p :: ps, h, e => by
    have : a = m := by simpa using h
    subst this
    show (Sum.inl m'.number, V.ref p) :: _ = _
    rw [e]
    rfl
  | a :: ms, i + 1, p :: ps, h, e => by
    show (Sum.inl a.number, V.ref p) :: mdK (ms.set i m') ps = _
    rw [set_mdK ps (by simpa using h) e]
    rfl
theorem nums_ne {ms : List M} (nd : (ms.map (·.number)).Nodup) {i j : Nat} {a b : M} (hi : ms[i]? = some a) (hj : ms[j]? = some b) (ne : i ≠ j) : a.number ≠ b.number := fun e => by
  have h1 : (ms.map (·.number))[i]? = some a.number := by rw [List.getElem?_map, hi]; rfl
  have h2 : (ms.map (·.number))[j]? = some a.number := by rw [List.getElem?_map, hj, e]; rfl
  exact ne (nd_ix nd h1 h2)
/-- the i-th member has become m' -/
theorem GAt.unfocus {i : Nat} {m m' : M} {B' : MA} (h : GAt C H0 w0 H w g S A ps X) (hi : S.ms[i]? = some m) (hp : ps[i]? = some p) (k : At C m.number H w H' w' p A.cf S.c m' B' []) : GAt C H0 w0 H' w' g { S with ms := S.ms.set i m' } A ps X := by
  have n := h.n0 m (List.mem_of_getElem? hi)
  have nT : ¬ (fun j => j = m.number) (0 : Int) := fun z => n z.symm
  have gp := h.gp.fr k.fr h.ok nT
  have en := k.nm
  refine ⟨⟨gp.obj, gp.own, gp.way, gp.log, gp.blk, by rw [set_mdK ps hi en]; exact gp.md⟩, k.cf, fun j v e => ?_, by rw [List.length_set]; exact h.len, by rw [set_numbers hi en]; exact h.nd, fun v hv => ?_, k.ok, h.fr.trans k.fr.fu, fun q hq => ?_, h.ndX⟩
  · by_cases z : i = j
    · subst z
      have : v = m' := by
        rw [List.getElem?_set_self (List.getElem?_eq_some_iff.mp hi).1] at e
        exact (Option.some.inj e).symm
      subst this
      exact ⟨p, B', hp, k.mb⟩
    · rw [List.getElem?_set_ne z] at e
      obtain ⟨p2, B, h1, h2⟩ := h.mbs j v e
      exact ⟨p2, B, h1, h2.fr k.fr h.ok fun y => nums_ne h.nd hi e z y.symm⟩
  · have : v.number ∈ (S.ms.set i m').map (·.number) := List.mem_map.mpr ⟨v, hv, rfl⟩
    rw [set_numbers hi en] at this
    obtain ⟨x, hx, ex⟩ := List.mem_map.mp this
    rw [← ex]
    exact h.n0 x hx
  · obtain ⟨a, b, d⟩ := h.loc q hq
    exact ⟨k.fr.keep q.1 q.2 a (fun i j z => by rw [b] at z; cases z), (k.fr.own q.1 (some_ne a)).trans b, d⟩
theorem valV_mdK {m : M} : ∀ {ms : List M} {ps : List Addr} {i : Nat}, (ms.map (·.number)).Nodup → ms[i]? = some m → ps[i]? = some p → valV (mdK ms ps) (Sum.inl m.number) = some (.ref p)
  | [], _, _, _, h, _ => by simp at h
  | a :: ms, [], _, _, _, h => by simp at h
  | a :: ms, r :: ps, 0, _, h1, h2 => by
    have e1 : a = m := by simpa using h1
    have e2 : r = p := by simpa using h2
    subst e1 e2
    exact valV_pos rfl
  | a :: ms, r :: ps, i + 1, nd, h1, h2 => by
    rw [List.map_cons, List.nodup_cons] at nd
    have h1 : ms[i]? = some m := by simpa using h1
    refine (valV_neg (p := (Sum.inl a.number, V.ref r)) fun z => nd.1 ?_).trans (valV_mdK (i := i) nd.2 h1 (by simpa using h2))
    have z : a.number = m.number := Sum.inl.inj z
    rw [z]
    exact List.mem_map.mpr ⟨m, List.mem_of_getElem? h1, rfl⟩
theorem valV_mdK_none {k : Int} : ∀ {ms : List M} {ps : List Addr}, k ∉ ms.map (·.number) → valV (mdK ms ps) (Sum.inl k) = none
  | [], _, _ => rfl
  | a :: ms, [], _ => rfl
  | a :: ms, r :: ps, h => by
    rw [List.map_cons, List.mem_cons, not_or] at h
    exact (valV_neg (p := (Sum.inl a.number, V.ref r)) fun z => h.1 (Sum.inl.inj z).symm).trans (valV_mdK_none h.2)
end
end Lp
/-! Part N3: a group's attributes; gather. -/
namespace Lp
open PySem PySem.Spec PyProof.Rows L2
theorem gNames_nd {i : Nat} {f : Str} (h : gNames[i]? = some f) : ((gNames.take i).all fun g => !(f == g)) = true := by
  have nd : gNames.Nodup := by decide +kernel
  rw [List.all_eq_true]
  intro g hg
  by_cases e : f = g
  · subst e
    obtain ⟨j, hj, e2⟩ := List.getElem_of_mem hg
    rw [List.length_take] at hj
    have e3 : gNames[j]? = some f := by rw [List.getElem_take] at e2; rw [List.getElem?_eq_getElem (by omega), e2]
    have := nd_ix nd e3 h
    omega
  · simp [e]
section
variable {C : Cl} {n : Int} {H0 H H' : Hp} {w0 w w' : Ow} {g p q : Addr} {S S' : GM} {A A' : GA} {ps : List Addr} {X : List (Addr × HO)} {o u : HO} {K : PySem.W.Frag} {mg : Str → Option Value}
theorem gF_lt : (gF S A).length < 1000 := by unfold gF; rw [List.length_zip]; exact Nat.lt_of_le_of_lt (Nat.min_le_left _ _) (by decide)
theorem GAt.look {i : Nat} {f : Str} {v : V} (_ : GAt C H0 w0 H w g S A ps X) (hi : gNames[i]? = some f) (e : (gVals S A)[i]? = some v) : (gF S A).lookup f = some v := lk_zip gNames (gVals S A) i hi e (gNames_nd hi)
theorem GAt.rd (h : GAt C H0 w0 H w g S A ps X) (T : Txt K mg C) {i : Nat} {f : Str} {v : V} {Q : V → Prop} (hi : gNames[i]? = some f) (e : (gVals S A)[i]? = some v) (q : Q v) : FldAt K (.ref g) f H Q :=
  ⟨g, C.g, A.dx, gF S A, v, rfl, h.gp.obj, T.cl_g, T.na_g f (List.mem_of_getElem? hi), h.look hi e, q⟩
theorem GAt.wr (h : GAt C H0 w0 H w g S A ps X) (T : Txt K mg C) {i : Nat} {f : Str} {v : V} {Q : Hp → Prop} (hi : gNames[i]? = some f) (q : Q (upd H g (.ins C.g A.dx (putF f v (gF S A))))) : StAt K (.ref g) f v H Q :=
  ⟨g, C.g, A.dx, gF S A, rfl, h.gp.obj, T.cl_g, T.na_g f (List.mem_of_getElem? hi), gF_lt, q⟩
theorem GAt.meth (h : GAt C H0 w0 H w g S A ps X) {f : Str} {Q : Prop} (hf : (gNames.all fun g => !(f == g)) = true) (q : Q) :
    ∃ a dx fs, V.ref g = .ref a ∧ H a = some (.ins C.g dx fs) ∧ fs.lookup f = none ∧ Q := ⟨g, A.dx, gF S A, rfl, h.gp.obj, no_zip gNames _ hf, q⟩
theorem GAt.way_mu (h : GAt C H0 w0 H w g S A ps X) {vs vs' : List V} {xs : List (List Int)} (hb : H A.way = some (.lst vs)) (hv : Paired (rRow H) vs' xs) : GAt C H0 w0 (upd H A.way (.lst vs')) w g { S with way := xs } A ps X := by
  have hw := h.gp.way.1
  have ne : ∀ {x : Addr} {k : Nat}, w x = some (0, k) → k ≠ 1 → x ≠ A.way := fun e n z => by rw [z, hw] at e; cases e; exact n rfl
  have gp := h.gp
  exact h.write (S' := { S with way := xs }) (A' := A) hb hw (by decide) (fun _ z => by cases z) (fun _ z => by cases z)
    ⟨by rw [upd_ne (ne gp.own (by decide))]; exact gp.obj, gp.own, ⟨hw, vs', upd_same, pr_keep (tk_upd hb (fun _ z => by cases z)) hv⟩, gp.log.upd_other hb (fun _ z => by cases z) (by rw [hw]; exact fun z => by cases z),
      ⟨gp.blk.1, by rw [upd_ne (ne gp.blk.1 (by decide))]; exact gp.blk.2⟩, ⟨gp.md.1, by rw [upd_ne (ne gp.md.1 (by decide))]; exact gp.md.2⟩⟩ rfl rfl rfl
theorem GAt.log_mu (h : GAt C H0 w0 H w g S A ps X) {vs vs' : List V} {xs : List (Int × Int)} (hb : H A.log = some (.lst vs)) (hv : Paired (rPr H) vs' xs) : GAt C H0 w0 (upd H A.log (.lst vs')) w g { S with log := xs } A ps X := by
  have hw := h.gp.log.1
  have ne : ∀ {x : Addr} {k : Nat}, w x = some (0, k) → k ≠ 2 → x ≠ A.log := fun e n z => by rw [z, hw] at e; cases e; exact n rfl
  have gp := h.gp
  exact h.write (S' := { S with log := xs }) (A' := A) hb hw (by decide) (fun _ z => by cases z) (fun _ z => by cases z)
    ⟨by rw [upd_ne (ne gp.own (by decide))]; exact gp.obj, gp.own, gp.way.upd_other hb (fun _ z => by cases z) (by rw [hw]; exact fun z => by cases z), ⟨hw, vs', upd_same, pr_keep (tk_upd hb (fun _ z => by cases z)) hv⟩,
      ⟨gp.blk.1, by rw [upd_ne (ne gp.blk.1 (by decide))]; exact gp.blk.2⟩, ⟨gp.md.1, by rw [upd_ne (ne gp.md.1 (by decide))]; exact gp.md.2⟩⟩ rfl rfl rfl
theorem GAt.blk_mu (h : GAt C H0 w0 H w g S A ps X) {bl : List (Int × Int)} : GAt C H0 w0 (upd H A.blk (.dT (blkK bl))) w g { S with blocked := bl } A ps X := by
  have hw := h.gp.blk.1
  have hb := h.gp.blk.2
  have ne : ∀ {x : Addr} {k : Nat}, w x = some (0, k) → k ≠ 3 → x ≠ A.blk := fun e n z => by rw [z, hw] at e; cases e; exact n rfl
  have gp := h.gp
  exact h.write (S' := { S with blocked := bl }) (A' := A) hb hw (by decide) (fun _ z => by cases z) (fun _ z => by cases z)
    ⟨by rw [upd_ne (ne gp.own (by decide))]; exact gp.obj, gp.own, gp.way.upd_other hb (fun _ z => by cases z) (by rw [hw]; exact fun z => by cases z), gp.log.upd_other hb (fun _ z => by cases z) (by rw [hw]; exact fun z => by cases z),
      ⟨gp.blk.1, upd_same⟩, ⟨gp.md.1, by rw [upd_ne (ne gp.md.1 (by decide))]; exact gp.md.2⟩⟩ rfl rfl rfl
/-- the way is a new list -/
theorem GAt.way_st {vs : List V} (h : GAt C H0 w0 H w g S A ps ((q, .lst vs) :: X)) (T : Txt K mg C) {Q : Hp → Prop} {xs : List (List Int)} (hv : Paired (rRow H) vs xs)
    (k : ∀ H' w', GAt C H0 w0 H' w' g { S with way := xs } { A with way := q } ps X → Q H') : StAt K (.ref g) "way" (.ref q) H Q := by
  have h' := h.give (k := 1) (fun _ z => by cases z)
  have gp := h'.gp
  exact h'.wr T (i := 2) rfl (k _ _ (h'.put (i := 2) (S' := { S with way := xs }) (A' := { A with way := q }) rfl (by decide +kernel) (by decide) rfl rfl ⟨tag_same, vs, h.head, hv⟩ gp.log gp.blk gp.md rfl rfl rfl))
end
section
variable {P : Program} {w : World} {K : PySem.W.Frag} {mg : Str → Option Value} {base : Heap} {C : Cl}
/-! ### gather -/
def gatherM (S : GM) (i : Nat) (m : M) : GM := { S with ms := S.ms.set i { m with leaving := [], elections := [] }, way := S.way ++ m.leaving, log := S.log ++ m.elections, sent := S.sent + (m.leaving.length : Int) }
abbrev s_Group_gather : Stmt := inClass (top 23) 1
theorem sc_Group_gather : FnScope ["self", "member"] ["self", "member"] (defScope s_Group_gather) := ⟨rfl, rfl, rfl, by decide +kernel, rfl, by decide +kernel, by decide +kernel⟩
def spGather (C : Cl) : Sp := fun vs H Q _ => ∃ w g p S A ps i m, vs = [.ref g, .ref p] ∧ GAt C H w H w g S A ps [] ∧ S.ms[i]? = some m ∧ ps[i]? = some p ∧ S.way.length + m.leaving.length ≤ 16000000 ∧ S.log.length + m.elections.length ≤ 16000000 ∧
  ∀ H' w', GAt C H w H' w' g (gatherM S i m) A ps [] → Q .non H'
theorem ok_Group_gather {f : Addr} {fd : FuncData} (T : Txt K mg C) (F : Fun K "gather" "Group.gather" s_Group_gather f fd) : FnOk P w K mg base CX0 1 f fd ["self", "member"] (spGather C) := by
  refine F.ok sc_Group_gather (fun vs H Q E h => ?_) (fun cdv A outer s H vs Q E hr h => ?_)
  · obtain ⟨_, _, _, _, _, _, _, _, rfl, _⟩ := h
    rfl
  · refine ⟨_, (pss_cons (ps_expr (pe_bm PySem.F.plainAttrs_list PySem.F.slot_list_extend PySem.F.type_list_extend mt_extend (pe_fld (pv 0) rfl) (pa_cons (pe_fld (pv 1) rfl) pa_nil)))
      (pss_cons (ps_fldaug (pv 0) (pe_callB call_len_seq (by rfl) T.b_len PySem.boot_len (pa_cons (pe_fld (pv 1) rfl) pa_nil)) in_add)
      (pss_cons (ps_expr (pe_bm PySem.F.plainAttrs_list PySem.F.slot_list_extend PySem.F.type_list_extend mt_extend (pe_fld (pv 0) rfl) (pa_cons (pe_fld (pv 1) rfl) pa_nil)))
      (pss_cons (ps_fld (pv 1) (pe_lst pa_nil) rfl)
      (pss_one (ps_fld (pv 1) (pe_lst pa_nil) rfl)))))), ?_⟩
    obtain ⟨w, g, p, S, A, ps, i, m, rfl, h, hi, hp, lw, ll, k⟩ := h
    unfold gatherM at k
    obtain ⟨ws, hws, rws⟩ := h.gp.way.lst
    obtain ⟨p', B, hp', a⟩ := h.focus hi
    rw [hp] at hp'
    cases Option.some.inj hp'
    obtain ⟨ls, hls, rls⟩ := a.lea_l.lst
    refine ⟨_, rfl, h.rd T (i := 2) rfl rfl ⟨.inl ⟨rfl, _, .of hws⟩, ⟨_, rfl, a.rd T (i := 5) rfl rfl ?_⟩⟩⟩
    refine ⟨A.way, B.lea, ws, ls, rfl, rfl, hws, hls, by rw [rws.length, rls.length, sizeLine_is]; omega, ?_⟩
    have h := h.way_mu hws (pr_append rws rls)
    obtain ⟨p', B, hp', a⟩ := h.focus hi
    rw [hp] at hp'
    cases Option.some.inj hp'
    obtain ⟨ls, hls, rls⟩ := a.lea_l.lst
    refine ⟨_, rfl, g, C.g, A.dx, _, .int S.sent, rfl, h.gp.obj, T.cl_g, T.na_g _ (by decide +kernel), h.look (i := 5) rfl rfl, ?_⟩
    refine ⟨_, rfl, a.rd T (i := 5) rfl rfl ⟨B.lea, _, rfl, .inl (SqL.of hls), _, _, rfl, rfl, A.dx, _, h.gp.obj, gF_lt, ?_⟩⟩
    rw [rls.length]
    have h := h.put (i := 5) (v := .int (S.sent + (m.leaving.length : Int))) (S' := { S with way := S.way ++ m.leaving, sent := S.sent + (m.leaving.length : Int) }) (A' := A) rfl (by decide +kernel) (by decide) rfl rfl h.gp.way h.gp.log h.gp.blk h.gp.md rfl rfl rfl
    obtain ⟨gs, hgs, rgs⟩ := h.gp.log.lst
    obtain ⟨p', B, hp', a⟩ := h.focus hi
    rw [hp] at hp'
    cases Option.some.inj hp'
    obtain ⟨es, hes, res⟩ := a.ele_l.lst
    refine ⟨_, rfl, h.rd T (i := 4) rfl rfl ⟨.inl ⟨rfl, _, .of hgs⟩, ⟨_, rfl, a.rd T (i := 6) rfl rfl ?_⟩⟩⟩
    refine ⟨A.log, B.ele, gs, es, rfl, rfl, hgs, hes, by rw [rgs.length, res.length, sizeLine_is]; show S.log.length + _ ≤ _; omega, ?_⟩
    have h := h.log_mu hgs (pr_append rgs res)
    replace h : GAt C _ _ _ _ g ⟨S.c, S.ms, S.way ++ m.leaving, S.log ++ m.elections, S.sent + (m.leaving.length : Int), S.blocked⟩ A ps [] := h
    obtain ⟨p', B, hp', a⟩ := h.focus hi
    rw [hp] at hp'
    cases Option.some.inj hp'
    refine ⟨Nat.zero_le _, fun q hq => ⟨_, rfl, (a.alloc hq).lea_st T .nil fun H w a => ?_⟩⟩
    have h := h.unfocus hi hp a
    replace h : GAt C _ _ _ _ g ⟨S.c, S.ms.set i { m with leaving := [] }, S.way ++ m.leaving, S.log ++ m.elections, S.sent + (m.leaving.length : Int), S.blocked⟩ A ps [] := h
    have hi2 : (S.ms.set i { m with leaving := [] })[i]? = some { m with leaving := [] } := List.getElem?_set_self (List.getElem?_eq_some_iff.mp hi).1
    obtain ⟨p', B, hp', a⟩ := h.focus hi2
    rw [hp] at hp'
    cases Option.some.inj hp'
    refine ⟨Nat.zero_le _, fun q hq => ⟨_, rfl, (a.alloc hq).ele_st T .nil fun H w a => ?_⟩⟩
    have h := h.unfocus hi2 hp a
    replace h : GAt C _ _ _ _ g ⟨S.c, (S.ms.set i { m with leaving := [] }).set i { m with leaving := [], elections := [] }, S.way ++ m.leaving, S.log ++ m.elections, S.sent + (m.leaving.length : Int), S.blocked⟩ A ps [] := h
    rw [List.set_set] at h
    exact k _ _ h
end
end Lp
/-! Part N4: one member of a group does something. -/
namespace Lp
open PySem PySem.Spec PyProof.Rows L2
open VbrcCore VbrcafPlay in
def toG (S : GS) : GM := ⟨toC S.g.config, S.g.nodes.map toM, S.g.net.map messageRow, S.log.map fun x => ((x.1 : Int), (x.2 : Int)), S.sent, S.bl⟩
section
open VbrcCore VbrcafPlay
theorem len_wts {c : VbrcCore.Config} : ∀ {l : List Message}, (∀ m ∈ l, MsgOk c m) → l.length ≤ wts l
  | [], _ => Nat.zero_le _
  | m :: l, h => by
    have ih := len_wts (c := c) (l := l) fun x hx => h x (List.mem_cons_of_mem _ hx)
    have hm := (h m (List.mem_cons_self ..)).2.2
    have : 1 ≤ wtB m.body := by
      unfold wtB
      revert hm
      cases m.body <;> intro hm <;> first | exact Nat.le_of_ble_eq_true rfl | exact absurd hm id
    show l.length + 1 ≤ wtB m.body + wts l
    omega
theorem len_wtsH {c : VbrcCore.Config} : ∀ {l : List Held}, (∀ h ∈ l, MsgOk c h.message) → l.length ≤ wtsH l := by
  intro l h
  have := len_wts (c := c) (l := l.map (·.message)) fun m hm => by
    obtain ⟨x, hx, rfl⟩ := List.mem_map.mp hm
    exact h x hx
  rw [List.length_map] at this
  exact this
theorem bd_of {c : VbrcCore.Config} {n : Node} (h : NodeOk c n) (hp : Phi n ≤ 4000000) : Bd (toM n) := by
  have hh := len_wtsH (c := c) (l := n.held) fun x hx => (h.held x hx).2
  unfold Phi at hp
  refine ⟨Nat.zero_le _, Nat.zero_le _, Nat.zero_le _, ?_, ?_, ?_, ?_⟩
  · show (n.elector.ballots.map _).length ≤ _; rw [List.length_map]; omega
  · show (iN n.active).length ≤ _; rw [iN_length]; omega
  · show (n.writes.map _).length ≤ _; rw [List.length_map]; omega
  · show (n.held.map _).length ≤ _; rw [List.length_map]; omega
theorem asc_iN {l : List Nat} (h : l.Pairwise (· < ·)) : (iN l).Pairwise (· < ·) := List.pairwise_map.mpr (h.imp fun h => by omega)
theorem toM_at {S : GS} {i : Nat} {n : Node} (hi : S.g.nodes[i]? = some n) : (toG S).ms[i]? = some (toM n) := by
  show (S.g.nodes.map toM)[i]? = _
  rw [List.getElem?_map, hi]
  rfl
theorem gather_eq {S : GS} (ok : GOk S.g) {i : Nat} {n : Node} (hi : S.g.nodes[i]? = some n) {o : VbrcafPlay.Outcome} (e : o.node.id = n.id) :
    gatherM ⟨(toG S).c, (toG S).ms.set i (toO o), (toG S).way, (toG S).log, (toG S).sent, (toG S).blocked⟩ i (toO o) = toG (S.after (place S.g o)) := by
  unfold gatherM GS.after toG
  rw [place_eq ok hi e]
  dsimp only
  rw [List.set_set, List.map_set, List.map_append, List.map_append, List.map_map]
  have e1 : ({ toO o with leaving := [], elections := [] } : M) = toM o.node := rfl
  have e2 : (toO o).elections = o.elected.map ((fun x : Nat × Nat => ((x.1 : Int), (x.2 : Int))) ∘ fun t => (t, n.id)) := by
    show (o.elected.map fun t : Nat => ((t : Int), (o.node.id : Int))) = _
    rw [e]
    rfl
  have e3 : ((o.sent.map messageRow).length : Int) = ((o.sent.length : Nat) : Int) := by rw [List.length_map]
  rw [e1, e2]
  show GM.mk _ _ _ _ ((S.sent : Int) + ((o.sent.map messageRow).length : Int)) _ = _
  rw [e3]
  rfl
theorem quiet_eq {S : GS} (ok : GOk S.g) {i : Nat} {n : Node} (hi : S.g.nodes[i]? = some n) {o : VbrcafPlay.Outcome} (e : o.node.id = n.id) (h1 : o.sent = []) (h2 : o.elected = []) :
    GM.mk (toG S).c ((toG S).ms.set i (toO o)) (toG S).way (toG S).log (toG S).sent (toG S).blocked = toG (S.after (place S.g o)) := by
  unfold GS.after toG
  rw [place_eq ok hi e]
  dsimp only
  have e1 : toO o = toM o.node := by unfold toO; rw [h1, h2]; rfl
  rw [e1, List.map_set, h1, h2]
  simp
theorem pot_node {S : GS} {i : Nat} {n : Node} (hi : S.g.nodes[i]? = some n) : Phi n ≤ S.tot := by
  have := sum_le_of (List.mem_of_getElem? hi)
  unfold GS.tot pot
  omega
theorem net_len {S : GS} (ok : GOk S.g) : S.g.net.length ≤ S.tot := by
  have := len_wts ok.net
  unfold GS.tot pot
  omega
theorem log_len (S : GS) : S.log.length ≤ S.tot := by unfold GS.tot; omega
/-- what gather needs -/
theorem fits {S : GS} (ok : GOk S.g) {i : Nat} {n : Node} (hi : S.g.nodes[i]? = some n) {o : VbrcafPlay.Outcome} {k : Nat} (ho : OutOk S.g.config n o k) (hk : k ≤ 1000) (ht : S.tot ≤ 4000000) :
    (toG S).way.length + (toO o).leaving.length ≤ 16000000 ∧ (toG S).log.length + (toO o).elections.length ≤ 16000000 := by
  have h1 := pot_node hi
  have h2 := net_len ok
  have h3 := log_len S
  have h4 := ho.phi
  have h5 := len_wts ho.sent
  constructor
  · show (S.g.net.map _).length + (o.sent.map _).length ≤ _
    rw [List.length_map, List.length_map]
    omega
  · show (S.log.map _).length + (o.elected.map _).length ≤ _
    rw [List.length_map, List.length_map]
    omega
end
section
variable {P : Program} {w : World} {K : PySem.W.Frag} {mg : Str → Option Value} {base : Heap} {C : Cl}
open VbrcCore VbrcafPlay
/-- behind a member's method: gather -/
theorem gathered {H0 H H1 : Hp} {w0 w w1 : Ow} {g p : Addr} {S : GS} {A : GA} {B : MA} {ps : List Addr} {X : List (Addr × HO)} {i : Nat} {n : Node} {o : VbrcafPlay.Outcome} {k : Nat} (h : GAt C H0 w0 H w g (toG S) A ps X) (ok : GOk S.g) (hi : S.g.nodes[i]? = some n) (hp : ps[i]? = some p)
    (ho : OutOk S.g.config n o k) (hk : k ≤ 1000) (ht : S.tot ≤ 4000000) (a : At C (toM n).number H w H1 w1 p A.cf (toC S.g.config) (toO o) B []) {Q : VK} {E : XK} (q : ∀ H' w', GAt C H0 w0 H' w' g (toG (S.after (place S.g o))) A ps X → Q .non H') : spGather C [.ref g, .ref p] H1 Q E := by
  have h1 := h.unfocus (toM_at hi) hp a
  obtain ⟨f1, f2⟩ := fits ok hi ho hk ht
  refine ⟨w1, g, p, _, A, ps, i, toO o, rfl, h1.here, ?_, hp, f1, f2, fun H' w' h2 => ?_⟩
  · exact List.getElem?_set_self (List.getElem?_eq_some_iff.mp (toM_at hi)).1
  · have h3 := h1.then h2
    have e := gather_eq ok hi ho.id
    exact q H' w' (by rw [← e]; exact h3)
/-! ### tick -/
abbrev s_Group_tick : Stmt := inClass (top 23) 4
theorem sc_Group_tick : FnScope ["self", "member"] ["self", "member"] (defScope s_Group_tick) := ⟨rfl, rfl, rfl, by decide +kernel, rfl, by decide +kernel, by decide +kernel⟩
def spTick (C : Cl) : Sp := fun vs H Q _ => ∃ w g p S A ps, ∃ (i : Nat) (n : VbrcafPlay.Node), vs = [.ref g, .ref p] ∧ GAt C H w H w g (toG S) A ps [] ∧ GOk S.g ∧ CfgOk (toC S.g.config) ∧ S.g.nodes[i]? = some n ∧ ps[i]? = some p ∧ n.alive = true ∧ S.tot ≤ 4000000 ∧
  ∀ H' w', GAt C H w H' w' g (toG (S.after (place S.g (input n (tick S.g.config))))) A ps [] → Q .non H'
theorem ok_Group_tick {f : Addr} {fd : FuncData} (T : Txt K mg C) (F : Fun K "tick" "Group.tick" s_Group_tick f fd)
    (D_Member_tick : DfM P w K mg base CX0 6 C.m "tick" ["self"] (spMt C R_tick)) (D_Group_gather : DfM P w K mg base CX0 1 C.g "gather" ["self", "member"] (spGather C)) :
    FnOk P w K mg base CX0 7 f fd ["self", "member"] (spTick C) := by
  refine F.ok sc_Group_tick (fun vs H Q E h => ?_) (fun cdv A outer s H vs Q E hr h => ?_)
  · obtain ⟨_, _, _, _, _, _, _, _, rfl, _⟩ := h
    rfl
  · refine ⟨_, (pss_cons (ps_expr (pe_mth0 (pv 1) T.cl_m D_Member_tick (hr.mono (by decide))))
      (pss_one (ps_expr (pe_mth (pv 0) T.cl_g D_Group_gather (hr.mono (by decide)) (pa_cons (pv 1) pa_nil))))), ?_⟩
    obtain ⟨w, g, p, S, A, ps, i, n, rfl, h, ok, hc, hi, hp, al, ht, k⟩ := h
    obtain ⟨p', B, hp', a⟩ := h.focus (toM_at hi)
    rw [hp] at hp'
    cases Option.some.inj hp'
    have nok := ok.nodes n (List.mem_of_getElem? hi)
    refine ⟨_, rfl, a.md (by decide +kernel) ⟨_, w, p, A.cf, _, _, B, _, _, rfl, a, ⟨rfl, hc, bd_of nok (Nat.le_trans (pot_node hi) ht), rfl⟩, fun H1 w1 B1 a1 => ?_⟩⟩
    replace a1 : At C (toM n).number H w H1 w1 p A.cf (toC S.g.config) ((toM n).tick (toC S.g.config)) B1 [] := a1
    rw [tick_of nok al] at a1
    have h1 := h.unfocus (toM_at hi) hp a1
    refine ⟨_, rfl, h1.meth (by decide +kernel) ⟨_, rfl, gathered (E := E0) h ok hi hp (tick_out ok.h9 nok al) (by decide) ht a1 k⟩⟩
/-! ### carry_out -/
abbrev s_Group_carry_out : Stmt := inClass (top 23) 5
theorem sc_Group_carry_out : FnScope ["self", "member", "count"] ["self", "member", "count"] (defScope s_Group_carry_out) := ⟨rfl, rfl, rfl, by decide +kernel, rfl, by decide +kernel, by decide +kernel⟩
def spSync (C : Cl) : Sp := fun vs H Q _ => ∃ w g p S A ps, ∃ (i : Nat) (n : VbrcafPlay.Node) (k : Int), vs = [.ref g, .ref p, .int k] ∧ 0 ≤ k ∧ GAt C H w H w g (toG S) A ps [] ∧ GOk S.g ∧ CfgOk (toC S.g.config) ∧ S.g.nodes[i]? = some n ∧ ps[i]? = some p ∧ n.alive = true ∧ S.tot ≤ 4000000 ∧
  ∀ H' w', GAt C H w H' w' g (toG (S.after (place S.g (sync S.g.config k.toNat n)))) A ps [] → Q .non H'
theorem ok_Group_carry_out {f : Addr} {fd : FuncData} (T : Txt K mg C) (F : Fun K "carry_out" "Group.carry_out" s_Group_carry_out f fd)
    (D_Member_carry_out : DfM P w K mg base CX0 6 C.m "carry_out" ["self", "count"] (spMt C R_carryOut)) (D_Group_gather : DfM P w K mg base CX0 1 C.g "gather" ["self", "member"] (spGather C)) :
    FnOk P w K mg base CX0 7 f fd ["self", "member", "count"] (spSync C) := by
  refine F.ok sc_Group_carry_out (fun vs H Q E h => ?_) (fun cdv A outer s H vs Q E hr h => ?_)
  · obtain ⟨_, _, _, _, _, _, _, _, _, rfl, _⟩ := h
    rfl
  · refine ⟨_, (pss_cons (ps_expr (pe_mth (pv 1) T.cl_m D_Member_carry_out (hr.mono (by decide)) (pa_cons (pv 2) pa_nil)))
      (pss_one (ps_expr (pe_mth (pv 0) T.cl_g D_Group_gather (hr.mono (by decide)) (pa_cons (pv 1) pa_nil))))), ?_⟩
    obtain ⟨w, g, p, S, A, ps, i, n, z, rfl, hz, h, ok, hc, hi, hp, al, ht, k⟩ := h
    obtain ⟨p', B, hp', a⟩ := h.focus (toM_at hi)
    rw [hp] at hp'
    cases Option.some.inj hp'
    have nok := ok.nodes n (List.mem_of_getElem? hi)
    refine ⟨_, rfl, a.md (by decide +kernel) ⟨_, rfl, _, w, p, A.cf, _, _, B, _, _, rfl, a, ⟨z, rfl, hz, hc, bd_of nok (Nat.le_trans (pot_node hi) ht), rfl⟩, fun H1 w1 B1 a1 => ?_⟩⟩
    replace a1 : At C (toM n).number H w H1 w1 p A.cf (toC S.g.config) ((toM n).carryOut (toC S.g.config) z.toNat) B1 [] := a1
    rw [sync_of nok al] at a1
    have h1 := h.unfocus (toM_at hi) hp a1
    refine ⟨_, rfl, h1.meth (by decide +kernel) ⟨_, rfl, gathered (E := E0) h ok hi hp (sync_out ok.h9 nok al z.toNat) (by decide) ht a1 k⟩⟩
/-! ### arrive -/
abbrev s_Group_arrive : Stmt := inClass (top 23) 3
theorem sc_Group_arrive : FnScope ["self", "message", "member"] ["self", "message"] (defScope s_Group_arrive) := ⟨rfl, rfl, rfl, by decide +kernel, rfl, by decide +kernel, by decide +kernel⟩
def spArrive (C : Cl) : Sp := fun vs H Q _ => ∃ w g t S A ps m, vs = [.ref g, .ref t] ∧ H t = some (.tup ((messageRow m).map V.int)) ∧ GAt C H w H w g (toG S) A ps [] ∧ GOk S.g ∧ CfgOk (toC S.g.config) ∧ MsgOk S.g.config m ∧ S.tot ≤ 4000000 ∧
  ∀ H' w', GAt C H w H' w' g (toG (S.after (arrive S.g m))) A ps [] → Q .non H'
theorem ok_Group_arrive {f : Addr} {fd : FuncData} (T : Txt K mg C) (F : Fun K "arrive" "Group.arrive" s_Group_arrive f fd)
    (D_Member_receive : DfM P w K mg base CX0 7 C.m "receive" ["self", "message"] (spMt C R_receive)) (D_Group_gather : DfM P w K mg base CX0 1 C.g "gather" ["self", "member"] (spGather C)) :
    FnOk P w K mg base CX0 8 f fd ["self", "message"] (spArrive C) := by
  refine F.ok sc_Group_arrive (fun vs H Q E h => ?_) (fun cdv A outer s H vs Q E hr h => ?_)
  · obtain ⟨_, _, _, _, _, _, _, rfl, _⟩ := h
    rfl
  · refine ⟨_, (pss_cons (ps_set (i := 2) sc_Group_arrive.nd rfl (Or.inl rfl) (pe_dget (hu_of hr) (pe_fld (pv 0) rfl) (pe_ix ix_tup (pv 1) pe_int (fun _ _ => rfl)) (fun _ _ => rfl)))
      (pss_one (ps_if (pt_val (pe_fld (pv 2) rfl))
        (pss_cons (ps_expr (pe_mth (pv 2) T.cl_m D_Member_receive (hr.mono (by decide)) (pa_cons (pv 1) pa_nil)))
      (pss_one (ps_expr (pe_mth (pv 0) T.cl_g D_Group_gather (hr.mono (by decide)) (pa_cons (pv 2) pa_nil)))))
        pss_nil))), ?_⟩
    obtain ⟨w, g, t, S, A, ps, m, rfl, htu, h, ok, hc, hm, ht, k⟩ := h
    have hrow : messageRow m = M.row m.sender m.receiver m.term (bodyB m.body) := row_of m
    rw [hrow] at htu
    obtain ⟨n, i, hi, hid, e⟩ := arrive_eq ok hm
    rw [e] at k
    obtain ⟨p, B, hp, a⟩ := h.focus (toM_at hi)
    have nok := ok.nodes n (List.mem_of_getElem? hi)
    have hv := valV_mdK (m := toM n) h.nd (toM_at hi) hp
    have hv : valV (mdK (toG S).ms ps) (Sum.inl (m.receiver : Int)) = some (.ref p) := by rw [← hid]; exact hv
    refine ⟨_, rfl, h.rd T (i := 1) rfl rfl ⟨_, rfl, t, _, _, _, rfl, rfl, .of htu, row_r .., A.md, .ref p, rfl, .inl ⟨_, _, .inl h.gp.md.2, rfl, hv.symm⟩, ?_⟩⟩
    refine ⟨_, rfl, a.rd T (i := 7) rfl rfl ⟨_, rfl, ?_⟩⟩
    by_cases al : n.alive = true
    · rw [if_pos al] at k
      refine ifT al ?_
      refine ⟨_, rfl, a.md (by decide +kernel) ⟨_, rfl, _, w, p, A.cf, _, _, B, _, _, rfl, a, ⟨t, _, _, _, _, rfl, htu, hc, bd_of nok (Nat.le_trans (pot_node hi) ht), asc_iN nok.asc, rfl⟩, fun H1 w1 B1 a1 => ?_⟩⟩
      replace a1 : At C (toM n).number H w H1 w1 p A.cf (toC S.g.config) ((toM n).receive (toC S.g.config) m.sender m.term (bodyB m.body)) B1 [] := a1
      rw [receive_of nok al m hm] at a1
      have h1 := h.unfocus (toM_at hi) hp a1
      have hw : wtB m.body ≤ 1000 := by cases m.body <;> exact Nat.le_of_ble_eq_true rfl
      refine ⟨_, rfl, h1.meth (by decide +kernel) ⟨_, rfl, gathered (E := E0) h ok hi hp (receive_out ok.h9 nok al m hm) hw ht a1 k⟩⟩
    · rw [if_neg al] at k
      refine ifF (by show n.alive = false; cases e : n.alive with | true => exact absurd e al | false => rfl) ?_
      rw [show (S.g, nothing) = (S.g, nothing) from rfl, GS.after_nothing] at k
      exact k _ _ h
end
end Lp
/-! Part N5: rounds. -/
namespace Lp
open PySem PySem.Spec PyProof.Rows L2
def lk (a b : Int) : Int × Int := (if b < a then b else a, if b > a then b else a)
def rAddr : Rp Addr := fun _ v p => v = .ref p
instance : Stays rAddr := ⟨fun _ h => h⟩
theorem pr_addrs : ∀ {vs : List V} {ps : List Addr}, Paired (fun v p => v = V.ref p) vs ps → vs = ps.map V.ref
  | _, _, .nil => rfl
  | _, _, .cons x t => by rw [x, pr_addrs t]; rfl
def runP (ms : List M) (ps : List Addr) : List Addr := ((ms.zip ps).filter fun x => x.1.runs).map fun x => x.2
section
open VbrcCore VbrcafPlay
theorem runP_cons (n : Node) (ns : List Node) (p : Addr) (ps : List Addr) : runP ((n :: ns).map toM) (p :: ps) = if n.alive = true then p :: runP (ns.map toM) ps else runP (ns.map toM) ps := by
  unfold runP
  rw [List.map_cons, List.zip_cons_cons]
  by_cases e : n.alive = true
  · rw [if_pos e, List.filter_cons_of_pos (by exact e)]
    rfl
  · rw [if_neg e, List.filter_cons_of_neg (by exact e)]
theorem run_at {p : Addr} : ∀ {ns : List Node} {ps : List Addr} {j : Nat}, (runP (ns.map toM) ps)[j]? = some p → ∃ (n : Node) (i : Nat), (ns.filter fun n => n.alive)[j]? = some n ∧ ns[i]? = some n ∧ ps[i]? = some p
  | [], ps, j, h => by simp [runP] at h
  | n :: ns, [], j, h => by simp [runP] at h
  | n :: ns, q :: ps, j, h => by
    rw [runP_cons] at h
    by_cases e : n.alive = true
    · rw [if_pos e] at h
      rw [List.filter_cons_of_pos (by exact e)]
      cases j with
      | zero =>
        have : q = p := by simpa using h
        subst this
        exact ⟨n, 0, rfl, rfl, rfl⟩
      | succ j =>
        obtain ⟨m, i, h1, h2, h3⟩ := run_at (ns := ns) (ps := ps) (j := j) (by simpa using h)
        exact ⟨m, i + 1, by simpa using h1, by simpa using h2, by simpa using h3⟩
    · rw [if_neg e] at h
      rw [List.filter_cons_of_neg (by exact e)]
      obtain ⟨m, i, h1, h2, h3⟩ := run_at (ns := ns) (ps := ps) (j := j) h
      exact ⟨m, i + 1, h1, by simpa using h2, by simpa using h3⟩
theorem run_len : ∀ {ns : List Node} {ps : List Addr}, ps.length = ns.length → (runP (ns.map toM) ps).length = (ns.filter fun n => n.alive).length
  | [], ps, h => by simp [runP]
  | n :: ns, [], h => by simp at h
  | n :: ns, q :: ps, h => by
    rw [runP_cons]
    have ih := run_len (ns := ns) (ps := ps) (by simpa using h)
    by_cases e : n.alive = true
    · rw [if_pos e, List.filter_cons_of_pos (by exact e), List.length_cons, List.length_cons, ih]
    · rw [if_neg e, List.filter_cons_of_neg (by exact e), ih]
/-- which links are blocked -/
def BlOk (bl : List (Int × Int)) (bk : List (Nat × Nat)) : Prop := ∀ a b : Nat, ((a : Int), (b : Int)) ∈ bl ↔ (a, b) ∈ bk
theorem lk_nat (a b : Nat) : lk a b = (((min a b : Nat) : Int), ((max a b : Nat) : Int)) := by
  unfold lk
  by_cases h : (b : Int) < (a : Int)
  · rw [if_pos h, if_neg (by omega), Nat.min_eq_right (by omega), Nat.max_eq_left (by omega)]
  · rw [if_neg h]
    by_cases h2 : (b : Int) > (a : Int)
    · rw [if_pos h2, Nat.min_eq_left (by omega), Nat.max_eq_right (by omega)]
    · rw [if_neg h2, Nat.min_eq_left (by omega), Nat.max_eq_left (by omega)]
end
theorem valV_blkK (x : Int × Int) : ∀ bl : List (Int × Int), (valV (blkK bl) [Sum.inl x.1, Sum.inl x.2]).isSome = decide (x ∈ bl)
  | [] => rfl
  | y :: bl => by
    have ih := valV_blkK x bl
    by_cases e : y = x
    · subst e
      rw [show valV (blkK (y :: bl)) [Sum.inl y.1, Sum.inl y.2] = some (V.bl true) from valV_pos (p := ([Sum.inl y.1, Sum.inl y.2], V.bl true)) rfl]
      exact (decide_eq_true (List.mem_cons_self ..)).symm
    · rw [show valV (blkK (y :: bl)) [Sum.inl x.1, Sum.inl x.2] = valV (blkK bl) [Sum.inl x.1, Sum.inl x.2] from valV_neg (p := ([Sum.inl y.1, Sum.inl y.2], V.bl true)) fun z => e (by
        have h1 := Sum.inl.inj (List.cons.inj z).1
        have h2 := Sum.inl.inj (List.cons.inj (List.cons.inj z).2).1
        exact Prod.ext h1 h2), ih]
      exact decide_eq_decide.mpr ⟨fun z => List.mem_cons_of_mem _ z, fun z => (List.mem_cons.mp z).elim (fun z => absurd z.symm e) id⟩
section
variable {P : Program} {w : World} {K : PySem.W.Frag} {mg : Str → Option Value} {base : Heap} {C : Cl}
open VbrcCore VbrcafPlay
/-! ### link_of -/
abbrev s_link_of : Stmt := top 24
theorem sc_link_of : FnScope ["one", "other"] ["one", "other"] (defScope s_link_of) := ⟨rfl, rfl, rfl, by decide +kernel, rfl, by decide +kernel, by decide +kernel⟩
def spLink : Sp := fun vs H Q _ => ∃ a b : Int, vs = [.int a, .int b] ∧ ∀ H' q, Same H H' → H q = none → H' q = some (.tup [.int (lk a b).1, .int (lk a b).2]) → Q (.ref q) H'
theorem ok_link_of {f : Addr} {fd : FuncData} (T : Txt K mg C) (F : Fun K "link_of" "link_of" s_link_of f fd) : FnOk P w K mg base CX0 1 f fd ["one", "other"] spLink := by
  refine F.ok sc_link_of (fun vs H Q E h => ?_) (fun cdv A outer s H vs Q E hr h => ?_)
  · obtain ⟨_, _, rfl, _⟩ := h
    rfl
  · refine ⟨_, (pss_one (ps_ret (pe_tup (pa_cons (pe_callB (call_min2 rfl) (by rfl) T.b_min boot_min (pa_cons (pv 0) (pa_cons (pv 1) pa_nil))) (pa_cons (pe_callB (call_max2 rfl) (by rfl) T.b_max boot_max (pa_cons (pv 0) (pa_cons (pv 1) pa_nil))) pa_nil))))), ?_⟩
    obtain ⟨a, b, rfl, k⟩ := h
    refine ⟨_, rfl, _, rfl, _, _, rfl, _, rfl, _, rfl, _, _, rfl, by show 2 ≤ sizeLine; decide, fun q hq => ?_⟩
    exact k _ q (same_upd hq) hq upd_same
/-! ### running -/
abbrev s_Group_running : Stmt := inClass (top 23) 2
theorem sc_Group_running : FnScope ["self", "number"] ["self"] (defScope s_Group_running) := ⟨rfl, rfl, rfl, by decide +kernel, rfl, by decide +kernel, by decide +kernel⟩
def spRunning (C : Cl) : Sp := fun vs H Q _ => ∃ w g S A ps, vs = [.ref g] ∧ GAt C H w H w g S A ps [] ∧ S.ms.map (·.number) = S.c.everyone ∧ S.ms.length ≤ 9 ∧
  ∀ H' q, Same H H' → H q = none → H' q = some (.lst ((runP S.ms ps).map V.ref)) → Q (.ref q) H'
theorem ok_Group_running {f : Addr} {fd : FuncData} (T : Txt K mg C) (F : Fun K "running" "Group.running" s_Group_running f fd) : FnOk P w K mg base CX0 1 f fd ["self"] (spRunning C) := by
  refine F.ok sc_Group_running (fun vs H Q E h => ?_) (fun cdv A outer s H vs Q E hr h => ?_)
  · obtain ⟨_, _, _, _, _, rfl, _⟩ := h
    rfl
  · refine ⟨_, (pss_one (ps_ret (pe_lc (own := [("number", 1)]) (g := gName 1) rfl sc_Group_running.nd (pi_list (pe_fld (pe_fld (pv 0) rfl) rfl)) (blkOk_by (N := ["self", "number"]) (sc := defScope s_Group_running) (by decide +kernel)) (fun _ _ _ _ _ => pg_name (i := 1) sc_Group_running.nd rfl (Or.inl rfl)) (fun _ _ _ _ _ => pts_one (pt_val (pe_fldK K rfl (pe_dget (hu_of hr) (pe_fldK K rfl (pv 0) rfl) (pv 1) (fun _ _ => rfl)) rfl))) (fun _ _ _ _ _ => (pe_dget (hu_of hr) (pe_fldK K rfl (pv 0) rfl) (pv 1) (fun _ _ => rfl)))))), ?_⟩
    obtain ⟨w, g, S, A, ps, rfl, h, hn, l9, k⟩ := h
    have lz : (S.ms.zip ps).length = S.ms.length := by rw [List.length_zip, h.len]; exact Nat.min_self _
    have le : S.c.everyone.length = S.ms.length := by rw [← hn, List.length_map]
    refine ⟨_, rfl, h.rd T (i := 0) rfl rfl (h.cf.everyone T fun ev hev => ⟨ev, rfl, ⟨_, .of hev⟩, fun D hD => lc_list (K := K) (a := ev) (xs := S.c.everyone.map V.int) (fun i H' => LcInv rAddr H D (outF (fun x => x.1.runs) (fun x => x.2) (S.ms.zip ps) i) H') (LcInv.zero hD) (fun i H' _ h => h.src hev) (fun i x H' hx hi => ?_) (fun H1 hi => ?_)⟩)⟩
    · obtain ⟨z, hz, rfl⟩ := int_at hx
      rw [← hn, List.getElem?_map] at hz
      cases em : S.ms[i]? with
      | none => rw [em] at hz; cases hz
      | some m =>
        rw [em] at hz
        have ez : m.number = z := by simpa using hz
        subst ez
        have h2 := h.same hi.1
        obtain ⟨p, B, hp, a⟩ := h2.focus em
        have hv := valV_mdK h.nd em hp
        have hzip : (S.ms.zip ps)[i]? = some (m, p) := by rw [List.getElem?_zip_eq_some]; exact ⟨em, hp⟩
        refine ⟨rfl, _, rfl, h2.rd T (i := 1) rfl rfl ⟨_, rfl, A.md, .ref p, rfl, .inl ⟨_, _, .inl h2.gp.md.2, rfl, hv.symm⟩, a.rd T (i := 7) rfl rfl ⟨_, rfl, ?_⟩⟩⟩
        cases e : m.runs with
        | false =>
          rw [outF_no hzip e]
          exact ifF rfl hi
        | true =>
          rw [outF_yes hzip e]
          refine ifT rfl ⟨_, rfl, h2.rd T (i := 1) rfl rfl ⟨_, rfl, A.md, .ref p, rfl, .inl ⟨_, _, .inl h2.gp.md.2, rfl, hv.symm⟩, hi.add hD (same_refl _) ?_ rfl⟩⟩
          have := outF_lt (p := fun x : M × Addr => x.1.runs) (f := fun x => x.2) hzip
          rw [sizeLine_is]
          omega
    · rw [List.length_map, le, ← lz, outF_all] at hi
      obtain ⟨s1, acc, hacc, hp⟩ := hi
      exact k _ D s1 hD (by rw [hacc, pr_addrs hp]; rfl)
end
end Lp
/-! Part N6: rounds, ticks of all. -/
namespace Lp
open PySem PySem.Spec PyProof.Rows L2
section
variable {P : Program} {w : World} {K : PySem.W.Frag} {mg : Str → Option Value} {base : Heap} {C : Cl}
open VbrcCore VbrcafPlay
theorem nums_of {S : GS} (ok : GOk S.g) : (toG S).ms.map (·.number) = (toG S).c.everyone := by
  show (S.g.nodes.map toM).map (·.number) = iN (everyone S.g.config)
  rw [← ok.ids, List.map_map]
  unfold iN
  rw [List.map_map]
  rfl
theorem ms_le {S : GS} (ok : GOk S.g) : (toG S).ms.length ≤ 9 := by
  show (S.g.nodes.map toM).length ≤ 9
  have h := congrArg List.length ok.ids
  rw [List.length_map] at h
  rw [List.length_map, h]
  exact ok.h9
theorem GAt.len' {H0 H : Hp} {w0 w : Ow} {g : Addr} {S : GS} {A : GA} {ps : List Addr} {X : List (Addr × HO)} (h : GAt C H0 w0 H w g (toG S) A ps X) : ps.length = S.g.nodes.length := by
  rw [h.len]
  exact List.length_map _
theorem after_cfg {S : GS} {r : Group × VbrcafPlay.Seen} (e : r.1.config = S.g.config) : (S.after r).g.config = S.g.config := e
theorem addr_at {ps : List Addr} {i : Nat} {x : V} (h : (ps.map V.ref)[i]? = some x) : ∃ p, ps[i]? = some p ∧ x = V.ref p := by
  rw [List.getElem?_map] at h
  cases e : ps[i]? with
  | none => rw [e] at h; cases h
  | some p => rw [e] at h; exact ⟨p, rfl, (Option.some.inj h).symm⟩
/-! ### round -/
abbrev s_Group_round : Stmt := inClass (top 23) 6
theorem sc_Group_round : FnScope ["self", "member", "messages", "message"] ["self"] (defScope s_Group_round) := ⟨rfl, rfl, rfl, by decide +kernel, rfl, by decide +kernel, by decide +kernel⟩
def spRound (C : Cl) : Sp := fun vs H Q _ => ∃ w g S A ps bk, vs = [.ref g] ∧ GAt C H w H w g (toG S) A ps [] ∧ GOk S.g ∧ CfgOk (toC S.g.config) ∧ BlOk S.bl bk ∧ S.tot ≤ 3999000 ∧
  ∀ H' w' A', GAt C H w H' w' g (toG (S.after (VbrcafPlay.round bk S.g))) A' ps [] → Q .non H'
theorem ok_Group_round {f : Addr} {fd : FuncData} (T : Txt K mg C) (F : Fun K "round" "Group.round" s_Group_round f fd)
    (D_Group_running : DfM P w K mg base CX0 1 C.g "running" ["self"] (spRunning C)) (D_Group_carry_out : DfM P w K mg base CX0 7 C.g "carry_out" ["self", "member", "count"] (spSync C))
    (D_Group_arrive : DfM P w K mg base CX0 8 C.g "arrive" ["self", "message"] (spArrive C)) (D_link_of : DfG P w K mg base CX0 1 "link_of" ["one", "other"] spLink) :
    FnOk P w K mg base CX0 9 f fd ["self"] (spRound C) := by
  refine F.ok sc_Group_round (fun vs H Q E h => ?_) (fun cdv A outer s H vs Q E hr h => ?_)
  · obtain ⟨_, _, _, _, _, _, rfl, _⟩ := h
    rfl
  · refine ⟨_, (pss_cons (ps_for PassesOwn.never rfl (pi_list (pe_mth0 (pv 0) T.cl_g D_Group_running (hr.mono (by decide)))) (pg_name (i := 1) sc_Group_round.nd rfl (Or.inl rfl))
        (pss_one (ps_expr (pe_mth (pv 0) T.cl_g D_Group_carry_out (hr.mono (by decide)) (pa_cons (pv 1) (pa_cons (pe_callB call_len_seq (by rfl) T.b_len PySem.boot_len (pa_cons (pe_fld (pv 1) rfl) pa_nil)) pa_nil))))))
      (pss_cons (ps_set (i := 2) sc_Group_round.nd rfl (Or.inl rfl) (pe_fld (pv 0) rfl))
      (pss_cons (ps_fld (pv 0) (pe_lst pa_nil) rfl)
      (pss_one (ps_for PassesOwn.never rfl (pi_list (pv 2)) (pg_name (i := 3) sc_Group_round.nd rfl (Or.inl rfl))
        (pss_one (ps_if (pt_cmp (pc_dnotin (hu_of hr) (pe_cal D_link_of (hr.mono (by decide)) rfl (pa_cons (pe_ix ix_tup (pv 3) pe_int (fun _ _ => rfl)) (pa_cons (pe_ix ix_tup (pv 3) pe_int (fun _ _ => rfl)) pa_nil))) (pe_fld (pv 0) rfl)))
        (pss_one (ps_expr (pe_mth (pv 0) T.cl_g D_Group_arrive (hr.mono (by decide)) (pa_cons (pv 3) pa_nil))))
        pss_nil))))))), ?_⟩
    obtain ⟨w, g, S, A, ps, bk, rfl, h, ok, hc, hbl, ht, k⟩ := h
    have hlen := h.len'
    have sy := synced_all ok
    have l9 := running_le ok
    -- the writes
    refine ⟨_, rfl, h.meth (by decide +kernel) ⟨w, g, _, A, ps, rfl, h, nums_of ok, ms_le ok, fun H1 q s1 hq hq1 => ?_⟩⟩
    have h1 := h.got s1 hq hq1
    have rl : (runP (toG S).ms ps).length = (running S.g).length := run_len hlen
    refine ⟨q, rfl, ⟨_, .of hq1⟩, for_list (K := K) (a := q) (xs := (runP (toG S).ms ps).map V.ref) (fun j σ H' => Sw S.g (upto S.g (fun n => .sync n.id n.writes.length) j) j 2 ∧ ∃ x w', σ = [some (.ref g), x, none, none] ∧ GAt C H w H' w' g (toG (S.after (upto S.g (fun n => .sync n.id n.writes.length) j))) A ps [(q, .lst ((runP (toG S).ms ps).map V.ref))])
      ⟨sw_zero ok _ 2, none, w, rfl, by rw [show upto S.g (fun n => Step.sync n.id n.writes.length) 0 = (S.g, nothing) from rfl, GS.after_nothing]; exact h1⟩ (fun j σ H' _ ⟨_, _, _, _, h⟩ => .of h.head) ?_ ?_⟩
    · rintro j x σ H' hx ⟨sw, x0, w', rfl, h⟩
      obtain ⟨p, hp, rfl⟩ := addr_at hx
      obtain ⟨n, i, hj, hi, hpi⟩ := run_at hp
      have hj : (running S.g)[j]? = some n := hj
      have hi2 := sw.rest i n hi (running_fresh ok hj)
      obtain ⟨al, _⟩ := running_at hj
      have jl : j < (running S.g).length := (List.getElem?_eq_some_iff.mp hj).1
      obtain ⟨p', B, hp', a⟩ := h.focus (toM_at (S := S.after _) hi2)
      rw [hpi] at hp'
      cases Option.some.inj hp'
      obtain ⟨vs, hvs, rvs⟩ := a.pen_l.lst
      have tt : (S.after (upto S.g (fun n => Step.sync n.id n.writes.length) j)).tot ≤ 4000000 := by
        rw [GS.after_tot]
        have := sw.pot
        have : S.tot = pot S.g + S.log.length := rfl
        omega
      refine ⟨_, rfl, h.meth (by decide +kernel) ⟨_, rfl, _, rfl, a.rd T (i := 16) rfl rfl ⟨B.pen, _, rfl, .inl (SqL.of hvs), ?_⟩⟩⟩
      refine ⟨w', g, p, _, A, ps, i, n, _, rfl, Int.natCast_nonneg _, h.here, sw.ok, by rw [after_cfg sw.cfg]; exact hc, hi2, hpi, al, tt, fun H2 w2 h2 => ?_⟩
      have h3 := h.then h2
      have el : vs.length = n.writes.length := by
        rw [rvs.length]
        exact List.length_map _
      have e2 : (S.after (upto S.g (fun n => Step.sync n.id n.writes.length) j)).after (place (upto S.g (fun n => Step.sync n.id n.writes.length) j).1 (sync (upto S.g (fun n => Step.sync n.id n.writes.length) j).1.config ((vs.length : Int)).toNat n)) = S.after (upto S.g (fun n => Step.sync n.id n.writes.length) (j + 1)) := by
        rw [upto_succ hj, GS.after_andThen, step_sync sw.ok hi2, Int.toNat_natCast, el]
      refine ⟨sw_sync ok sw hj, _, w2, rfl, ?_⟩
      rw [← e2]
      exact h3
    · rintro σ σ_H ⟨sw, x0, w', rfl, h⟩
      rw [List.length_map, rl, upto_all] at h
      replace h := h.tail
      clear sw h1 hq1 s1
      generalize hr1 : steps S.g ((running S.g).map fun n => Step.sync n.id n.writes.length) = r at h sy
      have er : VbrcafPlay.round bk S.g = swept bk r.1.net (emptied r) r.1.net.length := by rw [← hr1]; exact round_eq bk S.g
      rw [er] at k
      -- the messages
      obtain ⟨ms, hms, rms⟩ := h.gp.way.lst
      have hwa := h.gp.way.1
      refine ⟨_, rfl, h.rd T (i := 2) rfl rfl ?_⟩
      refine ⟨Nat.zero_le _, fun q2 hq2 => ?_⟩
      have tq : tag w' q2 (0, 1) A.way = some (0, 1) := by rw [tag_ne (ne_of_none hms hq2)]; exact hwa
      have hg := (h.alloc (o := .lst []) hq2).give (k := 1) (fun _ z => by cases z)
      refine ⟨_, rfl, hg.wr T (i := 2) rfl ?_⟩
      have gpg := hg.gp
      have h2 := hg.put (i := 2) (v := .ref q2) (S' := toG (S.after (emptied r))) (A' := { A with way := q2 }) rfl (by decide +kernel) (by decide) rfl rfl ⟨tag_same, [], upd_same, .nil⟩ gpg.log gpg.blk gpg.md rfl rfl rfl
      have nwg : A.way ≠ g := fun z => by have e := hg.gp.own; rw [← z, tq] at e; cases e
      have e2 : upd (upd σ_H q2 (.lst [])) g (.ins C.g A.dx (putF "way" (.ref q2) (gF (toG (S.after r)) A))) A.way = some (.lst ms) := by
        rw [upd_ne nwg, upd_ne (ne_of_none hms hq2)]
        exact hms
      have tk : TK σ_H (upd (upd σ_H q2 (.lst [])) g (.ins C.g A.dx (putF "way" (.ref q2) (gF (toG (S.after r)) A)))) := TK.trans (same_tk (same_upd hq2)) (tk_upd hg.gp.obj fun _ z => by cases z)
      have rms2 := pr_keep tk rms
      have h3 := h2.untag (a := A.way) tq (fun z => ne_of_none hms hq2 z.symm)
      revert e2 h3 rms2
      generalize upd (upd σ_H q2 (.lst [])) g (.ins C.g A.dx (putF "way" (.ref q2) (gF (toG (S.after r)) A))) = H3
      intro e2 rms2 h3
      have u3 : untag (tag w' q2 (0, 1)) A.way A.way = none := untag_same
      revert h3 u3
      generalize untag (tag w' q2 (0, 1)) A.way = w3
      intro h3 u3
      generalize hA3 : ({ A with way := q2 } : GA) = A3 at h3
      have rp : pot r.1 + r.2.elected.length ≤ pot S.g + 18 := by have := sy.pot; omega
      obtain ⟨wf1, wf2⟩ := emptied_ok (g := S.g) sy.ok sy.cfg rp
      have swp := swept_ok (bl := bk) (l := r.1.net) (x := emptied r) (b := pot S.g + 18 - wts r.1.net) (fun m hm => sy.ok.net m hm) (by rw [show (emptied r).1.config = S.g.config from wf1.cfg]; exact wf1)
      have h30 := h3.here
      refine ⟨_, rfl, ⟨A.way, rfl, ⟨_, .of e2⟩, for_list (K := K) (a := A.way) (xs := ms) (fun j σ H' => ∃ x w', σ = [some (.ref g), x0, some (.ref A.way), x] ∧ GAt C H3 w3 H' w' g (toG (S.after (swept bk r.1.net (emptied r) j))) A3 ps [])
        ⟨none, w3, rfl, h30⟩ (fun j σ H' _ ⟨_, _, _, h⟩ => .of (h.arg e2 u3).1) ?_ ?_⟩⟩
      · rintro j x σ H' hx ⟨x1, w1, rfl, h⟩
        obtain ⟨row, hrow, t, rfl, ht0⟩ := pr_get rms2 hx
        obtain ⟨m, hm, erow⟩ : ∃ m, r.1.net[j]? = some m ∧ row = messageRow m := by
          have : (r.1.net.map messageRow)[j]? = some row := hrow
          rw [List.getElem?_map] at this
          cases e : r.1.net[j]? with
          | none => rw [e] at this; cases this
          | some m => rw [e] at this; exact ⟨m, rfl, (Option.some.inj this).symm⟩
        subst erow
        have ht := (h.arg ht0 (h3.ok.notup _ _ ht0)).1
        have htr : H' t = some (.tup ((M.row m.sender m.receiver m.term (bodyB m.body)).map V.int)) := by rw [← row_of m]; exact ht
        have jl : j ≤ r.1.net.length := Nat.le_of_lt (List.getElem?_eq_some_iff.mp hm).1
        have wf := swp j jl
        have hm2 : MsgOk S.g.config m := by rw [← sy.cfg]; exact sy.ok.net m (List.mem_of_getElem? hm)
        have cfg2 : (swept bk r.1.net (emptied r) j).1.config = S.g.config := wf.cfg.trans wf1.cfg
        refine ⟨_, rfl, t, _, _, _, rfl, rfl, .of htr, row_s .., _, rfl, t, _, _, _, rfl, rfl, .of htr, row_r .., ?_⟩
        refine ⟨_, _, rfl, fun H4 q4 s4 hq4 hq5 => ?_⟩
        have h4 := h.same s4
        refine ⟨_, rfl, h4.rd T (i := 3) rfl rfl ⟨_, _, rfl, .inr ⟨_, [Sum.inl (lk m.sender m.receiver).1, Sum.inl (lk m.sender m.receiver).2], q4, .inl h4.gp.blk.2, rfl, hq5, rfl⟩, _, rfl, ?_⟩⟩
        have eb : (valV (blkK S.bl) [Sum.inl (lk m.sender m.receiver).1, Sum.inl (lk m.sender m.receiver).2]).isSome = isBlocked bk m := by
          rw [valV_blkK]
          unfold isBlocked
          rw [lk_nat, List.contains_eq_mem]
          exact decide_eq_decide.mpr (hbl _ _)
        have en := swept_succ (bl := bk) (x := emptied r) hm
        unfold arr at en
        show if (!(valV (blkK S.bl) [Sum.inl (lk m.sender m.receiver).1, Sum.inl (lk m.sender m.receiver).2]).isSome) = true then _ else _
        rw [eb]
        cases e : isBlocked bk m with
        | true =>
          rw [e, if_pos rfl] at en
          refine ifF rfl ⟨_, w1, rfl, ?_⟩
          rw [en]
          exact h4
        | false =>
          rw [e, if_neg Bool.false_ne_true] at en
          refine ifT rfl ?_
          have tt : (S.after (swept bk r.1.net (emptied r) j)).tot ≤ 4000000 := by
            rw [GS.after_tot]
            have := wf.pot
            have := wts_take_le r.1.net j
            have : S.tot = pot S.g + S.log.length := rfl
            omega
          refine ⟨_, rfl, h4.meth (by decide +kernel) ⟨_, rfl, w1, g, t, _, A3, ps, m, rfl, s4 _ _ ht, h4.here, wf.ok, by rw [after_cfg cfg2]; exact hc, by rw [after_cfg cfg2]; exact hm2, tt, fun H5 w5 h5 => ?_⟩⟩
          have h6 := h4.then h5
          refine ⟨_, w5, rfl, ?_⟩
          rw [en, GS.after_andThen]
          exact h6
      · rintro σ H' ⟨x1, w1, rfl, h⟩
        have el : ms.length = r.1.net.length := by rw [rms.length]; exact List.length_map _
        rw [el] at h
        exact k _ _ _ (h3.then h)
end
end Lp
/-! Part N7: ticks of all; a new group. -/
namespace Lp
open PySem PySem.Spec PyProof.Rows L2
section
open VbrcCore VbrcafPlay
theorem after_rounds (S : GS) (bk : List (Nat × Nat)) (r : Group × VbrcafPlay.Seen) (f : Group → Group × VbrcafPlay.Seen) : ∀ k, S.after (rounds bk k (andThen r f)) = (S.after r).after (rounds bk k (f r.1))
  | 0 => GS.after_andThen S r f
  | k + 1 => by
    have ih := after_rounds S bk r f k
    have eg : (rounds bk k (andThen r f)).1 = (rounds bk k (f r.1)).1 := congrArg GS.g ih
    rw [rounds_succ, rounds_succ, GS.after_andThen, GS.after_andThen, ih, eg]
end
section
variable {P : Program} {w : World} {K : PySem.W.Frag} {mg : Str → Option Value} {base : Heap} {C : Cl}
open VbrcCore VbrcafPlay
/-! ### advance -/
abbrev s_Group_advance : Stmt := inClass (top 23) 7
theorem sc_Group_advance : FnScope ["self", "member", "turn"] ["self"] (defScope s_Group_advance) := ⟨rfl, rfl, rfl, by decide +kernel, rfl, by decide +kernel, by decide +kernel⟩
def spAdvance (C : Cl) : Sp := fun vs H Q _ => ∃ w g S A ps bk, vs = [.ref g] ∧ GAt C H w H w g (toG S) A ps [] ∧ GOk S.g ∧ CfgOk (toC S.g.config) ∧ BlOk S.bl bk ∧ S.tot ≤ 3998000 ∧
  ∀ H' w' A', GAt C H w H' w' g (toG (S.after (rounds bk roundsPerTick (ticksOf S.g)))) A' ps [] → Q .non H'
theorem ok_Group_advance {f : Addr} {fd : FuncData} (T : Txt K mg C) (F : Fun K "advance" "Group.advance" s_Group_advance f fd)
    (D_Group_running : DfM P w K mg base CX0 1 C.g "running" ["self"] (spRunning C)) (D_Group_tick : DfM P w K mg base CX0 7 C.g "tick" ["self", "member"] (spTick C))
    (D_Group_round : DfM P w K mg base CX0 9 C.g "round" ["self"] (spRound C)) :
    FnOk P w K mg base CX0 10 f fd ["self"] (spAdvance C) := by
  refine F.ok sc_Group_advance (fun vs H Q E h => ?_) (fun cdv A outer s H vs Q E hr h => ?_)
  · obtain ⟨_, _, _, _, _, _, rfl, _⟩ := h
    rfl
  · refine ⟨_, (pss_cons (ps_for PassesOwn.never rfl (pi_list (pe_mth0 (pv 0) T.cl_g D_Group_running (hr.mono (by decide)))) (pg_name (i := 1) sc_Group_advance.nd rfl (Or.inl rfl))
        (pss_one (ps_expr (pe_mth (pv 0) T.cl_g D_Group_tick (hr.mono (by decide)) (pa_cons (pv 1) pa_nil)))))
      (pss_one (ps_for PassesOwn.never rfl (pi_range1 rfl T.b_range (pa_cons (pe_const rfl T.k_ROUNDS) pa_nil)) (pg_name (i := 2) sc_Group_advance.nd rfl (Or.inl rfl))
        (pss_one (ps_expr (pe_mth0 (pv 0) T.cl_g D_Group_round (hr.mono (by decide)))))))), ?_⟩
    obtain ⟨w, g, S, A, ps, bk, rfl, h, ok, hc, hbl, ht, k⟩ := h
    have hlen := h.len'
    have sy := ticked_all ok
    have l9 := running_le ok
    refine ⟨_, rfl, h.meth (by decide +kernel) ⟨w, g, _, A, ps, rfl, h, nums_of ok, ms_le ok, fun H1 q s1 hq hq1 => ?_⟩⟩
    have h1 := h.got s1 hq hq1
    have rl : (runP (toG S).ms ps).length = (running S.g).length := run_len hlen
    refine ⟨q, rfl, ⟨_, .of hq1⟩, for_list (K := K) (a := q) (xs := (runP (toG S).ms ps).map V.ref) (fun j σ H' => Sw S.g (upto S.g (fun n => .tick n.id) j) j 85 ∧ ∃ x w', σ = [some (.ref g), x, none] ∧ GAt C H w H' w' g (toG (S.after (upto S.g (fun n => .tick n.id) j))) A ps [(q, .lst ((runP (toG S).ms ps).map V.ref))])
      ⟨sw_zero ok _ 85, none, w, rfl, by rw [show upto S.g (fun n => Step.tick n.id) 0 = (S.g, nothing) from rfl, GS.after_nothing]; exact h1⟩ (fun j σ H' _ ⟨_, _, _, _, h⟩ => .of h.head) ?_ ?_⟩
    · rintro j x σ H' hx ⟨sw, x0, w', rfl, h⟩
      obtain ⟨p, hp, rfl⟩ := addr_at hx
      obtain ⟨n, i, hj, hi, hpi⟩ := run_at hp
      have hj : (running S.g)[j]? = some n := hj
      have hi2 := sw.rest i n hi (running_fresh ok hj)
      obtain ⟨al, _⟩ := running_at hj
      have jl : j < (running S.g).length := (List.getElem?_eq_some_iff.mp hj).1
      have tt : (S.after (upto S.g (fun n => Step.tick n.id) j)).tot ≤ 4000000 := by
        rw [GS.after_tot]
        have := sw.pot
        have : S.tot = pot S.g + S.log.length := rfl
        omega
      refine ⟨_, rfl, h.meth (by decide +kernel) ⟨_, rfl, ?_⟩⟩
      refine ⟨w', g, p, _, A, ps, i, n, rfl, h.here, sw.ok, by rw [after_cfg sw.cfg]; exact hc, hi2, hpi, al, tt, fun H2 w2 h2 => ?_⟩
      have h3 := h.then h2
      have e2 : (S.after (upto S.g (fun n => Step.tick n.id) j)).after (place (upto S.g (fun n => Step.tick n.id) j).1 (input n (VbrcafPlay.tick (upto S.g (fun n => Step.tick n.id) j).1.config))) = S.after (upto S.g (fun n => Step.tick n.id) (j + 1)) := by
        rw [upto_succ hj, GS.after_andThen, step_tick sw.ok hi2]
      refine ⟨sw_tick ok sw hj, _, w2, rfl, ?_⟩
      rw [← e2]
      exact h3
    · rintro σ σH ⟨sw, x0, w', rfl, h⟩
      rw [List.length_map, rl, upto_all] at h
      replace h := h.tail
      clear sw h1 hq1 s1
      have wf0 : Wf S.g.config (ticksOf S.g) (pot S.g + 765) := ⟨sy.ok, sy.cfg, by have := sy.pot; unfold ticksOf; omega⟩
      have h : GAt C H w σH w' g (toG (S.after (ticksOf S.g))) A ps [] := h
      refine ⟨6, rfl, by decide, by decide, for_range (lo := 0) (n := 6) (fun j σ H' => ∃ x w' A', σ = [some (.ref g), x0, x] ∧ GAt C H w H' w' g (toG (S.after (rounds bk j (ticksOf S.g)))) A' ps []) ⟨none, w', A, rfl, h⟩ ?_ ?_⟩
      · rintro j σ H' hj ⟨x, w1, A1, rfl, h⟩
        have wf := rounds_ok (bl := bk) wf0 j
        refine ⟨_, rfl, h.meth (by decide +kernel) ⟨w1, g, _, A1, ps, bk, rfl, h.here, wf.ok, by rw [after_cfg wf.cfg]; exact hc, hbl, ?_, fun H2 w2 A2 h2 => ?_⟩⟩
        · rw [GS.after_tot]
          have := wf.pot
          have : S.tot = pot S.g + S.log.length := rfl
          omega
        · refine ⟨_, w2, A2, rfl, ?_⟩
          rw [rounds_succ, GS.after_andThen]
          exact h.then h2
      · rintro σ H' ⟨x, w1, A1, rfl, h⟩
        exact k _ _ _ h
end
end Lp
/-! Part N8: a new group. -/
namespace Lp
open PySem PySem.Spec PyProof.Rows L2
/-- a group x that is being made: its members so far; L: new objects of its own -/
structure Pre (C : Cl) (H1 : Hp) (w1 : Ow) (H : Hp) (w : Ow) (cf : Addr) (x dx : Addr) (fs : List (Str × V)) (ms : List M) (ps : List Addr) (L : List (Addr × HO)) : Prop where
  obj : H x = some (.ins C.g dx fs)
  ox : w x = none
  x1 : H1 x = none
  old : ∀ b o, H1 b = some o → H b = some o ∧ w b = w1 b
  ok : OwnOk H w
  mbs : ∀ (j : Nat) m, ms[j]? = some m → ∃ p B, ps[j]? = some p ∧ Mb C.m H w p cf m B
  len : ps.length = ms.length
  tags : ∀ b i k, w b = some (i, k) → w1 b = some (i, k) ∨ i ∈ ms.map (·.number)
  loc : ∀ q ∈ L, H q.1 = some q.2 ∧ w q.1 = none ∧ H1 q.1 = none ∧ q.1 ≠ x
  nd : (L.map (·.1)).Nodup
def rEnt : Rp (Int × Addr) := fun H v x => ∃ t, v = .ref t ∧ H t = some (.tup [.int x.1, .ref x.2])
instance : Stays rEnt := ⟨fun k ⟨t, e, h⟩ => ⟨t, e, k t _ h⟩⟩
section
variable {C : Cl} {H1 H H' : Hp} {w1 w w' : Ow} {cf x dx q : Addr} {fs fs' : List (Str × V)} {ms : List M} {ps : List Addr} {L : List (Addr × HO)} {o u : HO}
theorem Pre.old1 (h : Pre C H1 w1 H w cf x dx fs ms ps L) (hq : H q = none) : H1 q = none := by
  cases e : H1 q with
  | none => rfl
  | some u => have := (h.old q u e).1; rw [hq] at this; cases this
theorem Pre.same (h : Pre C H1 w1 H w cf x dx fs ms ps L) (s : Same H H') : Pre C H1 w1 H' w cf x dx fs ms ps L :=
  ⟨s _ _ h.obj, h.ox, h.x1, fun b o e => ⟨s b o (h.old b o e).1, (h.old b o e).2⟩, h.ok.same s, fun j m e => by
    obtain ⟨p, B, h1, h2⟩ := h.mbs j m e
    exact ⟨p, B, h1, s _ _ h2.obj, h2.own, h2.parts.same s⟩, h.len, h.tags, fun q hq => let ⟨a, b, d, e⟩ := h.loc q hq; ⟨s _ _ a, b, d, e⟩, h.nd⟩
theorem Pre.got (h : Pre C H1 w1 H w cf x dx fs ms ps L) (s : Same H H') (hq : H q = none) (e : H' q = some o) : Pre C H1 w1 H' w cf x dx fs ms ps ((q, o) :: L) := by
  have h' := h.same s
  refine ⟨h'.obj, h'.ox, h'.x1, h'.old, h'.ok, h'.mbs, h'.len, h'.tags, fun y hy => ?_, ?_⟩
  · rcases List.mem_cons.mp hy with z | z
    · subst z
      exact ⟨e, h.ok.free hq, h.old1 hq, fun z => by have := h.obj; rw [← z, hq] at this; cases this⟩
    · exact h'.loc y z
  · rw [List.map_cons, List.nodup_cons]
    refine ⟨fun z => ?_, h.nd⟩
    obtain ⟨y, hy, ey⟩ := List.mem_map.mp z
    have := (h.loc y hy).1
    rw [show y.1 = q from ey, hq] at this
    cases this
theorem Pre.alloc (h : Pre C H1 w1 H w cf x dx fs ms ps L) (hq : H q = none) : Pre C H1 w1 (upd H q o) w cf x dx fs ms ps ((q, o) :: L) := h.got (same_upd hq) hq upd_same
theorem Pre.head (h : Pre C H1 w1 H w cf x dx fs ms ps ((q, o) :: L)) : H q = some o := (h.loc _ (List.mem_cons_self ..)).1
theorem Pre.tail {y : Addr × HO} (h : Pre C H1 w1 H w cf x dx fs ms ps (y :: L)) : Pre C H1 w1 H w cf x dx fs ms ps L :=
  ⟨h.obj, h.ox, h.x1, h.old, h.ok, h.mbs, h.len, h.tags, fun z hz => h.loc z (List.mem_cons_of_mem _ hz), (List.nodup_cons.mp (by have := h.nd; rwa [List.map_cons] at this)).2⟩
theorem Pre.setX (h : Pre C H1 w1 H w cf x dx fs ms ps ((q, o) :: L)) (ho : ∀ xs, o ≠ .tup xs) (hu : ∀ xs, u ≠ .tup xs) : Pre C H1 w1 (upd H q u) w cf x dx fs ms ps ((q, u) :: L) := by
  obtain ⟨a, b, d, nx⟩ := h.loc _ (List.mem_cons_self ..)
  have nd := h.nd
  rw [List.map_cons, List.nodup_cons] at nd
  have ne : ∀ {y : Addr} {t : Int × Nat}, w y = some t → y ≠ q := fun e z => by rw [z, b] at e; cases e
  refine ⟨by rw [upd_ne nx.symm]; exact h.obj, h.ox, h.x1, fun y v e => ?_, h.ok.write a hu, fun j m e => ?_, h.len, h.tags, fun y hy => ?_, h.nd⟩
  · rw [upd_ne (ne_of_none e d)]; exact h.old y v e
  · obtain ⟨p, B, h1, h2⟩ := h.mbs j m e
    exact ⟨p, B, h1, by rw [upd_ne (ne h2.own)]; exact h2.obj, h2.own, h2.parts.upd_other a ho fun k _ _ z => by rw [b] at z; cases z⟩
  · rcases List.mem_cons.mp hy with z | z
    · subst z; exact ⟨upd_same, b, d, nx⟩
    · have n2 : y.1 ≠ q := fun e => nd.1 (List.mem_map.mpr ⟨y, z, e⟩)
      rw [upd_ne n2]
      exact h.loc y (List.mem_cons_of_mem _ z)
/-- a store to the group -/
theorem Pre.put (h : Pre C H1 w1 H w cf x dx fs ms ps L) : Pre C H1 w1 (upd H x (.ins C.g dx fs')) w cf x dx fs' ms ps L := by
  have ne : ∀ {y : Addr} {t : Int × Nat}, w y = some t → y ≠ x := fun e z => by rw [z, h.ox] at e; cases e
  refine ⟨upd_same, h.ox, h.x1, fun y v e => ?_, h.ok.write h.obj (fun _ z => by cases z), fun j m e => ?_, h.len, h.tags, fun y hy => ?_, h.nd⟩
  · rw [upd_ne (ne_of_none e h.x1)]; exact h.old y v e
  · obtain ⟨p, B, h1, h2⟩ := h.mbs j m e
    exact ⟨p, B, h1, by rw [upd_ne (ne h2.own)]; exact h2.obj, h2.own, h2.parts.upd_other h.obj (fun _ z => by cases z) fun k _ _ z => by rw [h.ox] at z; cases z⟩
  · obtain ⟨a, b, d, nx⟩ := h.loc y hy
    rw [upd_ne nx]
    exact ⟨a, b, d, nx⟩
theorem Mb.keep {CM p cf : Addr} {m : M} {B : MA} (h : Mb CM H w p cf m B) (f : Fr (fun _ => False) H w H' w') : Mb CM H' w' p cf m B := by
  have kp : ∀ {b : Addr} {v : HO}, H b = some v → H' b = some v := fun e => f.keep _ _ e fun _ _ _ z => z
  have ko : ∀ {b : Addr} {v : HO}, H b = some v → w' b = w b := fun e => f.own _ (some_ne e)
  have lf : ∀ {α : Type} {n : Int} {k : Nat} {R : Rp α} {a : Addr} {xs : List α} [Stays R], LF H w n k R a xs → LF H' w' n k R a xs := fun l => by
    obtain ⟨l1, vs, l2, l3⟩ := l
    exact ⟨(ko l2).trans l1, vs, kp l2, pr_keep (fun b xs e => kp e) l3⟩
  obtain ⟨p1, p2, p3, p4, p5, p6, p7, p8, p9⟩ := h.parts
  exact ⟨kp h.obj, (ko h.obj).trans h.own, kp p1, kp p2, lf p3, lf p4, lf p5, lf p6, lf p7, lf p8, lf p9⟩
/-- one more member -/
theorem Pre.born {n : Int} {p : Addr} {B : MA} {m : M} (h : Pre C H1 w1 H w cf x dx fs ms ps L) (b : Born H w n H' w') (e : m.number = n) (mb : Mb C.m H' w' p cf m B) : Pre C H1 w1 H' w' cf x dx fs (ms ++ [m]) (ps ++ [p]) L := by
  have kp : ∀ {b' : Addr} {v : HO}, H b' = some v → H' b' = some v := fun e => b.fr.keep _ _ e fun _ _ _ z => z
  have ko : ∀ {b' : Addr} {v : HO}, H b' = some v → w' b' = w b' := fun e => b.fr.own _ (some_ne e)
  refine ⟨kp h.obj, (ko h.obj).trans h.ox, h.x1, fun y v z => ⟨kp (h.old y v z).1, (ko (h.old y v z).1).trans (h.old y v z).2⟩, b.ok, fun j v hj => ?_, by rw [List.length_append, List.length_append, h.len]; rfl, fun y i k z => ?_, fun y hy => ?_, h.nd⟩
  · by_cases lt : j < ms.length
    · rw [List.getElem?_append_left lt] at hj
      obtain ⟨p2, B2, h1, h2⟩ := h.mbs j v hj
      exact ⟨p2, B2, by rw [List.getElem?_append_left (by rw [h.len]; exact lt)]; exact h1, h2.keep b.fr⟩
    · have le : j = ms.length := by
        have := (List.getElem?_eq_some_iff.mp hj).1
        rw [List.length_append] at this
        have : j < ms.length + 1 := this
        omega
      subst le
      rw [List.getElem?_append_right (Nat.le_refl _), Nat.sub_self] at hj
      cases Option.some.inj hj
      exact ⟨p, B, by rw [← h.len, List.getElem?_append_right (Nat.le_refl _), Nat.sub_self]; rfl, mb⟩
  · rw [List.map_append, List.mem_append]
    rcases b.tags y i k z with z | z
    · rcases h.tags y i k z with z | z
      · exact .inl z
      · exact .inr (.inl z)
    · exact .inr (.inr (by rw [z, ← e]; exact List.mem_singleton.mpr rfl))
  · obtain ⟨a, b', d, nx⟩ := h.loc y hy
    exact ⟨kp a, (ko a).trans b', d, nx⟩
end
theorem mergeK_nd : ∀ (kvs acc : List (Key × V)), ((acc ++ kvs).map (·.1)).Nodup → mergeK acc kvs = acc ++ kvs
  | [], acc, _ => (List.append_nil _).symm
  | kv :: kvs, acc, nd => by
    have hn : (acc.any fun x => decide (x.1 = kv.1)) = false := by
      rw [List.any_eq_false]
      intro y hy z
      rw [List.map_append, List.nodup_append] at nd
      exact nd.2.2 y.1 (List.mem_map.mpr ⟨y, hy, rfl⟩) kv.1 (List.mem_map.mpr ⟨kv, List.mem_cons_self .., rfl⟩) (of_decide_eq_true z)
    have e : putK acc kv.1 kv.2 = acc ++ [kv] := by
      unfold putK
      rw [hn, if_neg Bool.false_ne_true]
    have e2 : acc ++ [kv] ++ kvs = acc ++ kv :: kvs := by rw [List.append_assoc]; rfl
    show mergeK (putK acc kv.1 kv.2) kvs = _
    rw [e, mergeK_nd kvs (acc ++ [kv]) (by rw [e2]; exact nd), e2]
end Lp
/-! Part N9: a new group, its walk. -/
namespace Lp
open PySem PySem.Spec PyProof.Rows L2
section
variable {C : Cl} {H1 H H' : Hp} {w1 w w' : Ow} {cf x dx q : Addr} {vs : List V} {i : Nat} {ms : List M} {ps : List Addr} {L : List (Addr × HO)} {v : V} {K : PySem.W.Frag} {mg : Str → Option Value}
theorem Pre.st {f : Str} {Q : Hp → Prop} (h : Pre C H1 w1 H w cf x dx ((gNames.take i).zip vs) ms ps L) (T : Txt K mg C) (hi : gNames[i]? = some f) (hv : vs.length = i)
    (k : ∀ H', Pre C H1 w1 H' w cf x dx ((gNames.take (i + 1)).zip (vs ++ [v])) ms ps L → Q H') : StAt K (.ref x) f v H Q := by
  have li : i < gNames.length := (List.getElem?_eq_some_iff.mp hi).1
  have ep : putF f v ((gNames.take i).zip vs) = (gNames.take (i + 1)).zip (vs ++ [v]) := by
    rw [put_new _ _ (by rw [List.length_take, hv]; omega) (gNames_nd hi), take_more hi]
  refine ⟨x, C.g, dx, _, rfl, h.obj, T.cl_g, T.na_g f (List.mem_of_getElem? hi), (by rw [List.length_zip, List.length_take, hv]; have : i < 6 := li; omega), k _ ?_⟩
  rw [ep]
  exact h.put
theorem Pre.cfg {c : Cfg} (h : Pre C H1 w1 H w cf x dx ((gNames.take i).zip vs) ms ps L) (hc : Cf C.c H1 w1 cf c) : Cf C.c H w cf c :=
  hc.move fun b o e z => ⟨(h.old b o e).1, (h.old b o e).2.trans z⟩
theorem Mb.retag {CM p : Addr} {m : M} {B : MA} (h : Mb CM H w p cf m B) (k : ∀ b t, w b = some t → w' b = some t) : Mb CM H w' p cf m B := by
  obtain ⟨p1, p2, p3, p4, p5, p6, p7, p8, p9⟩ := h.parts
  exact ⟨h.obj, k _ _ h.own, p1, p2, ⟨k _ _ p3.1, p3.2⟩, ⟨k _ _ p4.1, p4.2⟩, ⟨k _ _ p5.1, p5.2⟩, ⟨k _ _ p6.1, p6.2⟩, ⟨k _ _ p7.1, p7.2⟩, ⟨k _ _ p8.1, p8.2⟩, ⟨k _ _ p9.1, p9.2⟩⟩
theorem OwnOk.more {l : List (Addr × (Int × Nat))} (o : OwnOk H w) (hl : ∀ q ∈ l, ∃ u, H q.1 = some u ∧ ∀ xs, u ≠ .tup xs) : OwnOk H (Lp.tags w l) := by
  refine ⟨fun b hb => ?_, fun b xs hb => ?_⟩
  · unfold Lp.tags at hb
    cases e : l.lookup b with
    | some t => obtain ⟨u, hu, _⟩ := hl _ (lookup_mem e); exact some_ne hu
    | none => rw [e] at hb; exact o.there b hb
  · unfold Lp.tags
    cases e : l.lookup b with
    | some t => obtain ⟨u, hu, d⟩ := hl _ (lookup_mem e); rw [hb] at hu; exact absurd (Option.some.inj hu).symm (d xs)
    | none => exact o.notup b xs hb
theorem ents {K : PySem.W.Frag} : ∀ {acc : List V} {l : List (Int × Addr)}, Paired (rEnt H) acc l → ∃ ts : List Addr, acc = ts.map V.ref ∧ Paired (fun (t : Addr) (kv : Key × V) => SqT K H t [kV kv.1, kv.2]) ts (l.map fun y => (Sum.inl y.1, V.ref y.2))
  | _, _, .nil => ⟨[], rfl, .nil⟩
  | _, _, .cons ⟨t, e, h⟩ r => by
    obtain ⟨ts, e2, h2⟩ := ents (K := K) r
    exact ⟨t :: ts, by rw [e, e2]; rfl, .cons (.of h) h2⟩
theorem mdK_fresh : ∀ (ns : List Int) (ps : List Addr), mdK (ns.map M.fresh) ps = (ns.zip ps).map fun y => (Sum.inl y.1, V.ref y.2)
  | [], ps => by simp [mdK]
  | n :: ns, [] => by simp [mdK]
  | n :: ns, p :: ps => by
    have ih := mdK_fresh ns ps
    show (Sum.inl n, V.ref p) :: mdK (ns.map M.fresh) ps = _
    rw [ih]
    rfl
theorem zip_keys {β : Type} : ∀ {ns : List Int} {ps : List β}, ps.length = ns.length → (ns.zip ps).map (·.1) = ns
  | [], ps, h => by simp
  | n :: ns, [], h => by simp at h
  | n :: ns, p :: ps, h => by
    rw [List.zip_cons_cons, List.map_cons, zip_keys (by simpa using h)]
end
section
variable {P : Program} {w : World} {K : PySem.W.Frag} {mg : Str → Option Value} {base : Heap} {C : Cl}
abbrev s_Group___init__ : Stmt := inClass (top 23) 0
theorem sc_Group___init__ : FnScope ["self", "configuration", "number"] ["self", "configuration"] (defScope s_Group___init__) := ⟨rfl, rfl, rfl, by decide +kernel, rfl, by decide +kernel, by decide +kernel⟩
def spGroup (C : Cl) : Sp := fun vs H Q _ => ∃ (H1 : Hp) (w1 : Ow) (x dx cf : Addr) (c : VbrcCore.Config), vs = [.ref x, .ref cf] ∧ H = upd (upd H1 dx (.own x)) x (.ins C.g dx []) ∧ H1 x = none ∧ H1 dx = none ∧ dx ≠ x ∧ OwnOk H1 w1 ∧ Cf C.c H1 w1 cf (toC c) ∧
  (∀ b t, w1 b = some t → t = (0, 9)) ∧ (VbrcCore.everyone c).Pairwise (· < ·) ∧ (VbrcCore.everyone c).length ≤ 9 ∧ (∀ n ∈ VbrcCore.everyone c, n ≠ 0) ∧
  ∀ H' w' A ps, GAt C H1 w1 H' w' x (toG ⟨VbrcafPlay.begin c, [], 0, []⟩) A ps [] → Q .non H'
theorem ok_Group___init__ {f : Addr} {fd : FuncData} (T : Txt K mg C) (F : Fun K "__init__" "Group.__init__" s_Group___init__ f fd)
    (D_Member : DfC P w K mg base CX0 3 C.m ["self", "number", "configuration"] (spMember C)) : FnOk P w K mg base CX0 5 f fd ["self", "configuration"] (spGroup C) := by
  refine F.ok sc_Group___init__ (fun vs H Q E h => ?_) (fun cdv A outer s H vs Q E hr h => ?_)
  · obtain ⟨_, _, _, _, _, _, rfl, _⟩ := h
    rfl
  · refine ⟨_, (pss_cons (ps_fld (pv 0) (pv 1) rfl)
      (pss_cons (ps_fld (pv 0) (pe_callTy (call_dictP rfl) (by rfl) T.b_dict boot_dict (pa_cons (pe_lc (own := [("number", 2)]) (g := gName 2) rfl sc_Group___init__.nd (pi_list (pe_fld (pv 1) rfl)) (blkOk_by (N := ["self", "configuration", "number"]) (sc := defScope s_Group___init__) (by decide +kernel)) (fun _ _ _ _ _ => pg_name (i := 2) sc_Group___init__.nd rfl (Or.inl rfl)) (fun _ _ _ _ _ => pts_nil) (fun _ _ _ _ _ => (pe_tup (pa_cons (pv 2) (pa_cons (pe_mak D_Member (hr.mono (by decide)) rfl T.g_Member (pa_cons (pv 2) (pa_cons (pv 1) pa_nil))) pa_nil))))) pa_nil)) rfl)
      (pss_cons (ps_fld (pv 0) (pe_lst pa_nil) rfl)
      (pss_cons (ps_fld (pv 0) pe_dnewT rfl)
      (pss_cons (ps_fld (pv 0) (pe_lst pa_nil) rfl)
      (pss_one (ps_fld (pv 0) pe_int rfl))))))), ?_⟩
    obtain ⟨H1, w1, x, dx, cf, c, rfl, rfl, hx, hdx, nx, o1, hcf, t9, asc, l9, n0, k⟩ := h
    have s0 : Same H1 (upd (upd H1 dx (.own x)) x (.ins C.g dx [])) := same_trans (same_upd hdx) (same_upd (by rw [upd_ne nx.symm]; exact hx))
    have h : Pre C H1 w1 (upd (upd H1 dx (.own x)) x (.ins C.g dx [])) w1 cf x dx ((gNames.take 0).zip []) [] [] [] :=
      ⟨upd_same, o1.free hx, hx, fun b o e => ⟨s0 b o e, rfl⟩, o1.same s0, fun j m e => by simp at e, rfl, fun b i k z => .inl z, (fun _ z => nomatch z), List.nodup_nil⟩
    revert h
    generalize upd (upd H1 dx (.own x)) x (.ins C.g dx []) = Ha
    intro h
    refine ⟨_, rfl, _, rfl, h.st T rfl rfl fun Hb h => ?_⟩
    have ascI : (iN (VbrcCore.everyone c)).Pairwise (· < ·) := asc_iN asc
    have ndI : (iN (VbrcCore.everyone c)).Nodup := ascI.imp fun h e => by omega
    have lenI : (iN (VbrcCore.everyone c)).length ≤ 9 := by rw [iN_length]; exact l9
    have posI : ∀ z ∈ iN (VbrcCore.everyone c), z ≠ 0 := fun z hz => by
      obtain ⟨n, hn, rfl⟩ := List.mem_map.mp hz
      have := n0 n hn
      omega
    have eI : (toC c).everyone = iN (VbrcCore.everyone c) := rfl
    generalize hns : iN (VbrcCore.everyone c) = ns at ascI ndI lenI posI eI
    refine ⟨_, rfl, (h.cfg hcf).everyone T fun ev hev => ?_⟩
    rw [eI] at hev
    refine ⟨ev, rfl, ⟨_, .of hev⟩, fun D hD => lc_list (K := K) (a := ev) (xs := ns.map V.int)
      (fun i H' => ∃ w' ps acc, Pre C H1 w1 H' w' cf x dx ((gNames.take (0 + 1)).zip ([] ++ [V.ref cf])) ((ns.take i).map M.fresh) ps [(D, .lst acc)] ∧ Paired (rEnt H') acc ((ns.take i).zip ps) ∧ H' ev = some (.lst (ns.map V.int)))
      ⟨w1, [], [], h.alloc hD, .nil, by rw [upd_ne (ne_of_none hev hD)]; exact hev⟩ (fun i H' _ ⟨_, _, _, _, _, e⟩ => .of e) (fun i y H' hy hi => ?_) (fun Hc hi => ?_)⟩
    · obtain ⟨z, hz, rfl⟩ := int_at hy
      obtain ⟨w', ps, acc, h, pe, ee⟩ := hi
      have il : i < ns.length := (List.getElem?_eq_some_iff.mp hz).1
      refine ⟨rfl, _, rfl, _, rfl, _, rfl, fun x2 dx2 hx2 hdx2 ne2 => ?_⟩
      refine ⟨H', w', x2, dx2, z, cf, toC c, rfl, rfl, hx2, hdx2, ne2, h.ok, h.cfg hcf, posI z (List.mem_of_getElem? hz), fun b k e => ?_, fun H3 w3 B born mb => ?_⟩
      · rcases h.tags b z k e with e | e
        · exact posI z (List.mem_of_getElem? hz) (Prod.mk.inj (t9 b _ e)).1
        · rw [List.map_map] at e
          obtain ⟨y, hm, e2⟩ := List.mem_map.mp e
          have e2 : y = z := e2
          subst e2
          obtain ⟨j, hj, e3⟩ := List.getElem_of_mem hm
          rw [List.length_take] at hj
          have e4 : ns[j]? = some y := by rw [List.getElem_take] at e3; rw [List.getElem?_eq_getElem (by omega), e3]
          have := nd_ix ndI e4 hz
          omega
      · refine ⟨rfl, by show 2 ≤ sizeLine; decide, fun q hq => ?_⟩
        have h3 := (h.born born rfl mb).same (same_upd (o := .tup [.int z, .ref x2]) hq)
        have hd := h3.head
        have tkb : TK H' H3 := fun b xs e => born.fr.keep b _ e fun _ _ _ z => z
        have tk : TK H' (upd (upd H3 q (.tup [.int z, .ref x2])) D (.lst (acc ++ [.ref q]))) := TK.trans tkb (TK.trans (same_tk (same_upd hq)) (tk_upd hd fun _ z => by cases z))
        have lz : ((ns.take i).zip ps).length ≤ 9 := by rw [List.length_zip, List.length_take]; omega
        have evk : H3 ev = some (.lst (ns.map V.int)) := born.fr.keep ev _ ee fun _ _ _ z => z
        have nev : ev ≠ D := ne_of_none hev hD
        have nqd : q ≠ D := (ne_of_none (h.born born rfl mb).head hq).symm
        refine ⟨acc, hd, by rw [pe.length, sizeLine_is]; omega, w3, ps ++ [x2], acc ++ [.ref q], ?_, ?_, ?_⟩
        · have h5 := h3.setX (u := .lst (acc ++ [.ref q])) (fun _ z => by cases z) (fun _ z => by cases z)
          rw [take_more hz, List.map_append]
          exact h5
        · rw [take_more hz, List.zip_append (by have := h.len; rw [List.length_map] at this; exact this.symm)]
          exact pr_append (pr_keep tk pe) (.cons ⟨q, rfl, by rw [upd_ne nqd]; exact upd_same⟩ .nil)
        · rw [upd_ne nev, upd_ne (ne_of_none evk hq)]
          exact evk
    · rw [List.length_map] at hi
      obtain ⟨w', ps, acc, h, pe, _⟩ := hi
      rw [List.take_length] at h pe
      have lp : ps.length = ns.length := by have := h.len; rwa [List.length_map] at this
      obtain ⟨ts, ea, hts⟩ := ents (K := K) pe
      subst ea
      refine ⟨D, ts, _, rfl, .of h.head, hts, fun md hmd => ?_⟩
      have ek : mergeK [] ((ns.zip ps).map fun y => ((Sum.inl y.1 : Key), V.ref y.2)) = mdK (ns.map M.fresh) ps := by
        rw [mdK_fresh, mergeK_nd _ _ ?_]
        · rfl
        · rw [List.nil_append, List.map_map]
          have : (ns.zip ps).map ((fun y : Key × V => y.1) ∘ fun y : Int × Addr => ((Sum.inl y.1 : Key), V.ref y.2)) = ns.map Sum.inl := by
            rw [← zip_keys lp, List.map_map, zip_keys lp]
            rfl
          rw [this]
          exact List.Pairwise.map _ (fun a b ne e => ne (Sum.inl.inj e)) ndI
      rw [ek]
      refine ⟨_, rfl, (h.alloc hmd).st T rfl rfl fun Hd h => ?_⟩
      refine ⟨Nat.zero_le _, fun way hway => ⟨_, rfl, (h.alloc hway).st T rfl rfl fun He h => ?_⟩⟩
      refine fun blk hblk => ⟨_, rfl, (h.alloc hblk).st T rfl rfl fun Hf h => ?_⟩
      refine ⟨Nat.zero_le _, fun log hlog => ⟨_, rfl, (h.alloc hlog).st T rfl rfl fun Hg h => ?_⟩⟩
      refine ⟨_, rfl, h.st T rfl rfl fun Hh h => ?_⟩
      have em : (toG ⟨VbrcafPlay.begin c, [], 0, []⟩).ms = ns.map M.fresh := by
        rw [← hns]
        show ((VbrcCore.everyone c).map _).map toM = ((VbrcCore.everyone c).map _).map M.fresh
        rw [List.map_map, List.map_map]
        rfl
      generalize hl : ([(x, (0, 0)), (log, (0, 2)), (blk, (0, 3)), (way, (0, 1)), (md, (0, 4))] : List (Addr × (Int × Nat))) = l
      have lm : ∀ q ∈ ([(log, HO.lst []), (blk, .dT []), (way, .lst []), (md, .dK (mdK (ns.map M.fresh) ps))] : List (Addr × HO)), Hh q.1 = some q.2 ∧ w' q.1 = none ∧ H1 q.1 = none ∧ q.1 ≠ x := fun q hq => h.loc q (by
        rw [show ([(log, HO.lst []), (blk, .dT []), (way, .lst []), (md, .dK (mdK (ns.map M.fresh) ps)), (D, .lst (ts.map V.ref))] : List (Addr × HO)) = [(log, HO.lst []), (blk, .dT []), (way, .lst []), (md, .dK (mdK (ns.map M.fresh) ps))] ++ [(D, .lst (ts.map V.ref))] from rfl]
        exact List.mem_append_left _ hq)
      have g1 := lm (log, .lst []) (by simp)
      have g2 := lm (blk, .dT []) (by simp)
      have g3 := lm (way, .lst []) (by simp)
      have g4 := lm (md, .dK (mdK (ns.map M.fresh) ps)) (by simp)
      have lw : ∀ q ∈ l, w' q.1 = none ∧ H1 q.1 = none ∧ ∃ u, Hh q.1 = some u ∧ ∀ xs, u ≠ .tup xs := fun q hq => by
        rw [← hl] at hq
        simp only [List.mem_cons, List.not_mem_nil, or_false] at hq
        rcases hq with z | z | z | z | z
        · rw [z]; exact ⟨h.ox, h.x1, _, h.obj, fun _ z => by cases z⟩
        · rw [z]; exact ⟨g1.2.1, g1.2.2.1, _, g1.1, fun _ z => by cases z⟩
        · rw [z]; exact ⟨g2.2.1, g2.2.2.1, _, g2.1, fun _ z => by cases z⟩
        · rw [z]; exact ⟨g3.2.1, g3.2.2.1, _, g3.1, fun _ z => by cases z⟩
        · rw [z]; exact ⟨g4.2.1, g4.2.2.1, _, g4.1, fun _ z => by cases z⟩
      have nd5 : [log, blk, way, md, D].Nodup := h.nd
      have nd4 : [log, blk, way, md].Nodup := (List.nodup_append.mp (show ([log, blk, way, md] ++ [D]).Nodup from nd5)).1
      have ndl : (l.map (·.1)).Nodup := by
        rw [← hl]
        show (x :: [log, blk, way, md]).Nodup
        rw [List.nodup_cons]
        refine ⟨fun z => ?_, nd4⟩
        simp only [List.mem_cons, List.not_mem_nil, or_false] at z
        rcases z with z | z | z | z
        · exact g1.2.2.2 z.symm
        · exact g2.2.2.2 z.symm
        · exact g3.2.2.2 z.symm
        · exact g4.2.2.2 z.symm
      have tg : ∀ {a : Addr} {j : Nat}, (a, ((0 : Int), j)) ∈ l → Lp.tags w' l a = some (0, j) := fun hm => tags_in ndl hm
      have out : ∀ b, w' b ≠ none → Lp.tags w' l b = w' b := fun b hb => tags_out fun t z => hb (lw _ z).1
      have outH : ∀ b, H1 b ≠ none → Lp.tags w' l b = w' b := fun b hb => tags_out fun t z => hb (lw _ z).2.1
      refine k Hh (Lp.tags w' l) ⟨dx, cf, md, way, blk, log⟩ ps ⟨⟨h.obj, tg (by rw [← hl]; simp), ⟨tg (by rw [← hl]; simp), [], g3.1, .nil⟩, ⟨tg (by rw [← hl]; simp), [], g1.1, .nil⟩, ⟨tg (by rw [← hl]; simp), g2.1⟩, ⟨tg (by rw [← hl]; simp), by rw [em]; exact g4.1⟩⟩, ?_, fun j m e => ?_, by rw [em, List.length_map]; exact lp, ?_, fun m hm => ?_, h.ok.more fun q hq => (lw q hq).2.2, ⟨fun b o e z => ⟨(h.old b o e).1, by rw [outH b (some_ne e), (h.old b o e).2]; exact z⟩, fun b e => ?_⟩, (fun _ z => nomatch z), List.nodup_nil⟩
      · exact hcf.move fun b o e z => ⟨(h.old b o e).1, by rw [outH b (some_ne e), (h.old b o e).2]; exact z⟩
      · rw [em] at e
        obtain ⟨p, B, h1, h2⟩ := h.mbs j m e
        exact ⟨p, B, h1, h2.retag fun b t z => by rw [out b (by rw [z]; exact fun z => nomatch z)]; exact z⟩
      · rw [em, List.map_map]
        have : ns.map ((fun m : M => m.number) ∘ M.fresh) = ns := List.map_id' ns
        rw [this]
        exact ndI
      · rw [em] at hm
        obtain ⟨z, hz, rfl⟩ := List.mem_map.mp hm
        exact posI z hz
      · cases q : H1 b with
        | none => exact absurd q e
        | some u => exact some_ne (h.old b u q).1
end
end Lp
/-! Part P1: refusals, ranges. -/
namespace Lp
open PySem PySem.Spec PyProof.Rows L2
/-- .. and what the hall has written: the error's class, the tuples -/
structure TxH (K : PySem.W.Frag) (mg : Str → Option Value) (C : Cl) (fI aN aM aP : Addr) : Prop extends Txt K mg C where
  ref : PySem.RefX.RefTxt K mg C.r fI
  t_NUMBERS : mg "NUMBERS" = some (.ref aN)
  s_NUMBERS : ∀ H, SqT K H aN (([0, 2, 1, 1, 1, 2, 2, 1, 3, 2, 1, 1, 2, 2, 1, 1, 1, 1, 0] : List Int).map V.int)
  t_MEMBER_FIRST : mg "MEMBER_FIRST" = some (.ref aM)
  s_MEMBER_FIRST : ∀ H, SqT K H aM (([1, 5, 6, 7, 8, 9, 14, 15, 16] : List Int).map V.int)
  t_PLACES : mg "PLACES" = some (.ref aP)
  s_PLACES : ∀ H, SqT K H aP (([2, 3, 4] : List Int).map V.int)
/-- a def of the top that may refuse, with how it is called -/
def DfX (P : Program) (w : World) (K : PySem.W.Frag) (mg : Str → Option Value) (base : Heap) (k : Nat) (x : Str) (ps : List Str) (sp : Sp) : Prop :=
  ∃ f fd, FnOk P w K mg base (L2.CX P w) k f fd ps sp ∧ mg x = some (.ref f) ∧ PySem.W.keepIn K (.ref f) = true ∧ Binds K fd ps []
section
variable {X : Cx} {k : Nat} {ps : List Str} {sp : Sp} {E : XK} {x : Str} {p pos : Pos} {e : Expr} {es : List Expr} {t : TA}
theorem pe_calX (D : DfX X.prog X.w X.K X.mg X.base k x ps sp) (hr : Room k X.A) (hg : Gl X x) (ha : PA X (e :: es) t) (tk : Takes X (fun cls d _ H => E cls d H) := by exact takes_of rfl rfl rfl rfl) (hdb : (x == ("__debug__" : Str)) = false := by decide)
    (he : starEach (e :: es) X.env = (false, eval e X.env) :: starEach es X.env := by rfl) (hpl : (backTo pos (starEach es X.env)).any (·.1) = false := by rfl) : PE X (.Call (.Name x p) (e :: es) [] pos) (tCall sp [] E t) := by
  obtain ⟨f, fd, F, g, kp, b⟩ := D
  exact pe_call F hr hg g kp b .nil (passes_call tk fun _ _ _ _ h => h) ha hdb he hpl
end
/-- a refusal with the code k, from the heap H on -/
def Rf (C : Cl) (H : Hp) (E : XK) (k : Int) : Prop := ∀ H' d, Same H H' → H d = none → H' d = some (.xd [(("code" : Str), .int k)]) → E (.ref C.r) (some d) H'
theorem Rf.same {C : Cl} {H H1 : Hp} {E : XK} {k : Int} (h : Rf C H E k) (s : Same H H1) : Rf C H1 E k := fun H' d s' n e => h H' d (same_trans s s') (same_free s n) e
section
variable {P : Program} {w : World} {K : PySem.W.Frag} {mg : Str → Option Value} {base : Heap} {C : Cl} {fI aN aM aP : Addr}
/-! ### need -/
abbrev s_need : Stmt := top 35
theorem sc_need : FnScope ["test", "code"] ["test", "code"] (defScope s_need) := ⟨rfl, rfl, rfl, by decide +kernel, rfl, by decide +kernel, by decide +kernel⟩
def spNeed (C : Cl) : Sp := fun vs H Q E => ∃ (b : Bool) (k : Int), vs = [.bl b, .int k] ∧ (b = false → Rf C H E k) ∧ (b = true → Q .non H)
theorem ok_need {f : Addr} {fd : FuncData} (T : TxH K mg C fI aN aM aP) (F : Fun K "need" "need" s_need f fd) : FnOk P w K mg base (L2.CX P w) 1 f fd ["test", "code"] (spNeed C) := by
  refine F.okX sc_need (fun vs H Q E h => ?_) (fun cdv A outer s H vs Q E hr h => ?_)
  · obtain ⟨_, _, rfl, _⟩ := h
    rfl
  · refine ⟨_, (pss_one (ps_if (pt_not (pt_val (pv 0)))
        (pss_one (ps_raiseRef rfl T.ref hr (takes_of rfl rfl rfl rfl) (by exact (pa_cons (pv 1) pa_nil))))
        pss_nil)), ?_⟩
    obtain ⟨b, k, rfl, k1, k2⟩ := h
    refine ⟨_, rfl, _, rfl, ?_⟩
    cases b with
    | true => exact ifF rfl (k2 rfl)
    | false =>
      refine ifT rfl ?_
      exact ⟨_, rfl, _, rfl, fun d hd => k1 rfl _ d (same_upd hd) hd upd_same⟩
/-! ### are_in_range -/
abbrev s_are_in_range : Stmt := top 36
theorem sc_are_in_range : FnScope ["number", "args", "one"] ["number", "args"] (defScope s_are_in_range) := ⟨rfl, rfl, rfl, by decide +kernel, rfl, by decide +kernel, by decide +kernel⟩
def inRangeB (k : Int) (as : List Int) : Bool := (as.all fun n => decide (0 ≤ n) && decide (n ≤ 1000000000)) &&
  (if k = 1 then decide (1 ≤ as.getD 1 0) && decide (as.getD 1 0 ≤ 40) else if k = 10 ∨ k = 11 then decide (1 ≤ as.getD 0 0) && decide (as.getD 0 0 ≤ if k = 10 then 8 else 40) else true)
def R_inRange (K : PySem.W.Frag) : List V → Hp → Bool → Prop := fun vs H b => ∃ (k : Int) (a : Addr) (as : List Int), vs = [.int k, .ref a] ∧ SqL K H a (as.map V.int) ∧ as.length ≤ 1000 ∧ (k = 1 → 2 ≤ as.length) ∧ (k = 10 ∨ k = 11 → 1 ≤ as.length) ∧ b = inRangeB k as
theorem at_ints {as : List Int} {i : Nat} (h : i < as.length) : atI (as.map V.int) (i : Int) = some (.int (as.getD i 0)) := atI_nat (by rw [List.getElem?_map, List.getElem?_eq_getElem h, List.getD_eq_getElem?_getD, List.getElem?_eq_getElem h]; rfl)
theorem ok_are_in_range {f : Addr} {fd : FuncData} (T : TxH K mg C fI aN aM aP) (F : Fun K "are_in_range" "are_in_range" s_are_in_range f fd) : FnOk P w K mg base CX0 1 f fd ["number", "args"] (spBl (R_inRange K)) := by
  refine F.ok sc_are_in_range (fun vs H Q E h => ?_) (fun cdv A outer s H vs Q E hr h => ?_)
  · obtain ⟨_, ⟨_, _, _, rfl, _⟩, _⟩ := h
    rfl
  · refine ⟨_, (pss_cons (ps_if (pt_not (pt_val (pe_callB (cr_all rfl) (by rfl) T.b_all boot_all (pa_cons (pe_lc (own := [("one", 2)]) (g := gName 2) rfl sc_are_in_range.nd (pi_list (pv 1)) (blkOk_by (N := ["number", "args", "one"]) (sc := defScope s_are_in_range) (by decide +kernel)) (fun _ _ _ _ _ => pg_name (i := 2) sc_are_in_range.nd rfl (Or.inl rfl)) (fun _ _ _ _ _ => pts_nil) (fun _ _ _ _ _ => (pe_chain op_le op_le pe_int (pv 2) (pe_const rfl T.k_GREATEST_hall)))) pa_nil))))
        (pss_one (ps_ret pe_bl))
        pss_nil)
      (pss_cons (ps_if (pt_cmpR op_eq (pv 0) pe_int (nomark _))
        (pss_one (ps_ret (pe_chain op_le op_le pe_int (pe_ix ix_list (pv 1) pe_int (fun _ _ => rfl)) (pe_const rfl T.k_MOST_TICKS))))
        pss_nil)
      (pss_cons (ps_if (pt_cmpR op_in_seq (pv 0) (pe_tup (pa_cons pe_int (pa_cons pe_int pa_nil))) (by rfl))
        (pss_one (ps_ret (pe_chain op_le op_le pe_int (pe_ix ix_list (pv 1) pe_int (fun _ _ => rfl)) (pe_ifExp (pt_cmpR op_eq (pv 0) pe_int (nomark _)) (pe_const rfl T.k_MOST_ROUNDS) (pe_const rfl T.k_MOST_TICKS)))))
        pss_nil)
      (pss_one (ps_ret pe_bl))))), ?_⟩
    obtain ⟨_, ⟨num, a, as, rfl, ha, hl, l1, l10, rfl⟩, k⟩ := h
    refine ⟨_, rfl, a, rfl, ⟨_, ha⟩, fun D hD => lc_list (K := K) (a := a) (xs := as.map V.int) (fun i H' => LcInv rBool H D (outF (fun _ => true) (fun n => decide (0 ≤ n) && decide (n ≤ 1000000000)) as i) H') (LcInv.zero hD) (fun i H' _ h => h.srcL ha) (fun i x H' hx h => ?_) (fun H1 h => ?_)⟩
    · obtain ⟨z, hz, rfl⟩ := int_at hx
      have le := outF_lt (p := fun _ => true) (f := fun n : Int => decide (0 ≤ n) && decide (n ≤ 1000000000)) hz
      refine ⟨rfl, _, rfl, _, _, rfl, rfl, _, rfl, ?_⟩
      rw [outF_yes hz rfl]
      by_cases e : 0 ≤ z
      · refine ifT (decide_eq_true e) ?_
        refine ⟨_, _, rfl, rfl, h.add hD (same_refl _) (by rw [sizeLine_is]; omega) ?_⟩
        rw [decide_eq_true e, Bool.true_and]
        rfl
      · refine ifF (decide_eq_false e) ?_
        refine h.add hD (same_refl _) (by rw [sizeLine_is]; omega) ?_
        rw [decide_eq_false e, Bool.false_and]
        rfl
    · rw [List.length_map, outF_all, filter_yes] at h
      obtain ⟨s1, acc, hacc, hp⟩ := h
      have ea := pr_bools hp
      subst ea
      refine ⟨D, _, rfl, .of hacc, _, rfl, ?_⟩
      rw [all_id]
      unfold inRangeB at k
      have ha1 := L2.Same.seq s1 ha
      cases e : as.all fun n => decide (0 ≤ n) && decide (n ≤ 1000000000) with
      | false =>
        rw [e] at k
        exact ifT rfl (k _ s1)
      | true =>
        rw [e, Bool.true_and] at k
        refine ifF rfl ?_
        refine ⟨_, rfl, rfl, _, rfl, ?_⟩
        rw [vint_eq]
        by_cases e1 : num = 1
        · rw [if_pos e1] at k
          refine ifT (decide_eq_true e1) ?_
          refine ⟨_, rfl, a, _, _, _, rfl, rfl, ha1, at_ints (i := 1) (l1 e1), _, _, rfl, rfl, _, rfl, ?_⟩
          by_cases e2 : 1 ≤ as.getD 1 0
          · rw [decide_eq_true e2, Bool.true_and] at k
            exact ifT (decide_eq_true e2) ⟨_, _, rfl, rfl, k _ s1⟩
          · rw [decide_eq_false e2, Bool.false_and] at k
            exact ifF (decide_eq_false e2) (k _ s1)
        · rw [if_neg e1] at k
          refine ifF (decide_eq_false e1) ?_
          refine ⟨_, rfl, by show 2 ≤ sizeLine; decide, fun q hq => ?_⟩
          have s2 := same_trans s1 (same_upd (o := .tup [.int 10, .int 11]) hq)
          refine ⟨q, _, rfl, .inr (.of upd_same), rfl, rfl, _, rfl, ?_⟩
          rw [show [V.int 10, V.int 11] = ([10, 11] : List Int).map V.int from rfl, inV_int]
          have e12 : ([10, 11] : List Int).contains num = decide (num = 10 ∨ num = 11) := by
            rw [List.contains_eq_mem]
            exact decide_eq_decide.mpr (by simp)
          rw [e12]
          by_cases e3 : num = 10 ∨ num = 11
          · rw [if_pos e3] at k
            refine ifT (decide_eq_true e3) ?_
            refine ⟨_, rfl, a, _, _, _, rfl, rfl, L2.Same.seq s2 ha, at_ints (i := 0) (l10 e3), _, _, rfl, rfl, _, rfl, ?_⟩
            by_cases e2 : 1 ≤ as.getD 0 0
            · rw [decide_eq_true e2, Bool.true_and] at k
              refine ifT (decide_eq_true e2) ?_
              refine ⟨_, rfl, rfl, _, rfl, ?_⟩
              rw [vint_eq]
              by_cases e4 : num = 10
              · rw [if_pos e4] at k
                exact ifT (decide_eq_true e4) ⟨_, _, rfl, rfl, k _ s2⟩
              · rw [if_neg e4] at k
                exact ifF (decide_eq_false e4) ⟨_, _, rfl, rfl, k _ s2⟩
            · rw [decide_eq_false e2, Bool.false_and] at k
              exact ifF (decide_eq_false e2) (k _ s2)
          · rw [if_neg e3] at k
            exact ifF (decide_eq_false e3) (k _ s2)
end
end Lp
/-! Part P2: running_member, acted, messages, elections. -/
namespace Lp
open PySem PySem.Spec PyProof.Rows L2
/-- a new list of numbers is handed back -/
def Ret (C : Cl) (H : Hp) (w : Ow) (g : Addr) (S : GM) (ps : List Addr) (Q : VK) (ns : List Int) : Prop := ∀ H' w' A q, GAt C H w H' w' g S A ps [(q, .lst (ns.map V.int))] → Q (.ref q) H'
def pairs (l : List (Int × Int)) : List Int := l.flatMap fun x => [x.1, x.2]
theorem pairs_snoc (l : List (Int × Int)) (x : Int × Int) : pairs (l ++ [x]) = pairs l ++ [x.1, x.2] := by
  unfold pairs
  rw [List.flatMap_append]
  rfl
theorem pairs_len (l : List (Int × Int)) : (pairs l).length = 2 * l.length := by
  unfold pairs
  induction l with
  | nil => rfl
  | cons a r ih => rw [List.flatMap_cons, List.length_append, ih]; show 2 + 2 * r.length = 2 * (r.length + 1); omega
section
variable {C : Cl} {H0 H H' : Hp} {w0 w w' : Ow} {g q : Addr} {S : GM} {A : GA} {ps : List Addr} {X : List (Addr × HO)} {vs us : List V}
theorem GAt.one {x : Addr × HO} (h : GAt C H0 w0 H w g S A ps (x :: X)) : GAt C H0 w0 H w g S A ps [x] :=
  ⟨h.gp, h.cf, h.mbs, h.len, h.nd, h.n0, h.ok, h.fr, fun y hy => h.loc y (by rw [List.mem_singleton.mp hy]; exact List.mem_cons_self ..), by simp⟩
/-- found.extend(..) of an own list -/
theorem GAt.ext (h : GAt C H0 w0 H w g S A ps ((q, .lst vs) :: X)) (s : Same H H') : GAt C H0 w0 (upd H' q (.lst (vs ++ us))) w g S A ps ((q, .lst (vs ++ us)) :: X) := (h.same s).setX (fun _ z => by cases z) (fun _ z => by cases z)
end
section
variable {P : Program} {w : World} {K : PySem.W.Frag} {mg : Str → Option Value} {base : Heap} {C : Cl} {fI aN aM aP : Addr}
open VbrcCore VbrcafPlay
/-! ### running_member -/
abbrev s_running_member : Stmt := top 38
theorem sc_running_member : FnScope ["group", "number", "member"] ["group", "number"] (defScope s_running_member) := ⟨rfl, rfl, rfl, by decide +kernel, rfl, by decide +kernel, by decide +kernel⟩
def spRunMember (C : Cl) : Sp := fun vs H Q E => ∃ w g S A ps, ∃ (i : Nat) (n : VbrcafPlay.Node) (p : Addr), vs = [.ref g, .int (n.id : Int)] ∧ GAt C H w H w g (toG S) A ps [] ∧ S.g.nodes[i]? = some n ∧ ps[i]? = some p ∧ (n.alive = false → Rf C H E (-1)) ∧ (n.alive = true → Q (.ref p) H)
theorem ok_running_member {f : Addr} {fd : FuncData} (T : TxH K mg C fI aN aM aP) (F : Fun K "running_member" "running_member" s_running_member f fd) (D_need : DfX P w K mg base 1 "need" ["test", "code"] (spNeed C)) :
    FnOk P w K mg base (L2.CX P w) 2 f fd ["group", "number"] (spRunMember C) := by
  refine F.okX sc_running_member (fun vs H Q E h => ?_) (fun cdv A outer s H vs Q E hr h => ?_)
  · obtain ⟨_, _, _, _, _, _, _, _, rfl, _⟩ := h
    rfl
  · refine ⟨_, (pss_cons (ps_set (i := 2) sc_running_member.nd rfl (Or.inl rfl) (pe_dget (hu_of hr) (pe_fld (pv 0) rfl) (pv 1) (fun _ _ => rfl)))
      (pss_cons (ps_expr (pe_calX D_need (hr.mono (by decide)) rfl (pa_cons (pe_fld (pv 2) rfl) (pa_cons (pe_un un_neg pe_int) pa_nil))))
      (pss_one (ps_ret (pv 2))))), ?_⟩
    obtain ⟨w, g, S, A, ps, i, n, p, rfl, h, hi, hp, k1, k2⟩ := h
    obtain ⟨p', B, hp', a⟩ := h.focus (toM_at hi)
    rw [hp] at hp'
    cases Option.some.inj hp'
    have hv := valV_mdK (m := toM n) h.nd (toM_at hi) hp
    refine ⟨_, rfl, h.rd T.toTxt (i := 1) rfl rfl ⟨_, rfl, A.md, .ref p, rfl, .inl ⟨_, _, .inl h.gp.md.2, rfl, hv.symm⟩, ?_⟩⟩
    refine ⟨_, rfl, a.rd T.toTxt (i := 7) rfl rfl ⟨_, rfl, n.alive, _, rfl, k1, fun e => ⟨_, rfl, k2 e⟩⟩⟩
/-! ### acted -/
abbrev s_acted : Stmt := top 37
theorem sc_acted : FnScope ["group", "sent", "elections", "rows", "found", "term", "number"] ["group", "sent", "elections"] (defScope s_acted) := ⟨rfl, rfl, rfl, by decide +kernel, rfl, by decide +kernel, by decide +kernel⟩
def spActed (C : Cl) : Sp := fun vs H Q _ => ∃ w g S A ps, ∃ (s0 n0 : Int), vs = [.ref g, .int s0, .int n0] ∧ GAt C H w H w g S A ps [] ∧ 0 ≤ n0 ∧ S.log.length ≤ 4000000 ∧ Ret C H w g S ps Q ([0, S.sent - s0, ((S.log.drop n0.toNat).length : Int)] ++ pairs (S.log.drop n0.toNat))
theorem ok_acted {f : Addr} {fd : FuncData} (T : TxH K mg C fI aN aM aP) (F : Fun K "acted" "acted" s_acted f fd) : FnOk P w K mg base CX0 1 f fd ["group", "sent", "elections"] (spActed C) := by
  refine F.ok sc_acted (fun vs H Q E h => ?_) (fun cdv A outer s H vs Q E hr h => ?_)
  · obtain ⟨_, _, _, _, _, _, _, rfl, _⟩ := h
    rfl
  · refine ⟨_, (pss_cons (ps_set (i := 3) sc_acted.nd rfl (Or.inl rfl) (pe_slice sl_list (pe_fld (pv 0) rfl) (po_some (pv 2)) po_none))
      (pss_cons (ps_set (i := 4) sc_acted.nd rfl (Or.inl rfl) (pe_lst (pa_cons pe_int (pa_cons (pe_op op_sub (pe_fld (pv 0) rfl) (pv 1)) (pa_cons (pe_callB call_len_seq (by rfl) T.b_len PySem.boot_len (pa_cons (pv 3) pa_nil)) pa_nil)))))
      (pss_cons (ps_for PassesOwn.never rfl (pi_list (pv 3)) (pg_tup rfl (pgs_cons (pg_name (i := 5) sc_acted.nd rfl (Or.inl rfl)) (pgs_cons (pg_name (i := 6) sc_acted.nd rfl (Or.inl rfl)) pgs_nil)))
        (pss_one (ps_expr (pe_bm PySem.F.plainAttrs_list PySem.F.slot_list_extend PySem.F.type_list_extend mt_extend (pv 4) (pa_cons (pe_lst (pa_cons (pv 5) (pa_cons (pv 6) pa_nil))) pa_nil)))))
      (pss_one (ps_ret (pv 4)))))), ?_⟩
    obtain ⟨w, g, S, A, ps, s0, n0, rfl, h, hn, ll, k⟩ := h
    obtain ⟨vs, hvs, rvs⟩ := h.gp.log.lst
    refine ⟨_, rfl, h.rd T.toTxt (i := 4) rfl rfl ⟨_, rfl, _, rfl, A.log, vs, rfl, .of hvs, fun rw hrw => ?_⟩⟩
    rw [cutV_drop vs hn]
    have h1 := h.alloc (o := .lst (vs.drop n0.toNat)) hrw
    have rrs := pr_drop n0.toNat (pr_keep (same_tk (same_upd (o := .lst (vs.drop n0.toNat)) hrw)) rvs)
    generalize hrs : vs.drop n0.toNat = rs at h1 rrs
    have lr : (S.log.drop n0.toNat).length ≤ 4000000 := by rw [List.length_drop]; omega
    generalize S.log.drop n0.toNat = rows at rrs k lr
    refine ⟨_, rfl, h1.rd T.toTxt (i := 5) rfl rfl ⟨_, rfl, _, _, rfl, rfl, _, rfl, rw, _, rfl, .inl (SqL.of h1.head), by show 3 ≤ sizeLine; decide, fun fd hfd => ?_⟩⟩
    rw [rrs.length]
    have h2 := h1.alloc (o := .lst [.int 0, .int (S.sent - s0), .int (rows.length : Int)]) hfd
    have rrs2 := pr_keep (same_tk (same_upd (o := .lst [.int 0, .int (S.sent - s0), .int (rows.length : Int)]) hfd)) rrs
    refine ⟨_, rfl, rw, rfl, ⟨_, .of h2.tail.head⟩, for_list (K := K) (a := rw) (xs := rs) (fun i σ H' => ∃ x y w', σ = [some (.ref g), some (.int s0), some (.int n0), some (.ref rw), some (.ref fd), x, y] ∧ GAt C H w H' w' g S A ps [(fd, .lst (([0, S.sent - s0, (rows.length : Int)] ++ pairs (rows.take i)).map V.int)), (rw, .lst rs)] ∧ Paired (rPr H') rs rows)
      ⟨none, none, w, rfl, h2, rrs2⟩ (fun i σ H' _ ⟨_, _, _, _, h, _⟩ => .of h.tail.head) ?_ ?_⟩
    · rintro i x σ H' hx ⟨x0, y0, w', rfl, h, rr⟩
      obtain ⟨z, hz, t, rfl, ht⟩ := pr_get rr hx
      refine ⟨t, _, rfl, .of ht, rfl, _, _, rfl, _, _, rfl, rfl, ?_⟩
      refine ⟨_, rfl, .inl ⟨rfl, _, .of h.head⟩, _, rfl, _, rfl, by show 2 ≤ sizeLine; decide, fun q hq => ?_⟩
      have s1 := same_upd (o := .lst [.int z.1, .int z.2]) hq
      have lt : ((rows.take i)).length ≤ 4000000 := by rw [List.length_take]; omega
      refine ⟨fd, q, _, _, rfl, rfl, s1 _ _ h.head, upd_same, by rw [List.length_map, List.length_append, pairs_len, sizeLine_is]; show 3 + _ + 2 ≤ _; omega, ?_⟩
      have h3 := h.ext (us := [.int z.1, .int z.2]) s1
      refine ⟨_, _, w', rfl, ?_, pr_keep (TK.trans (same_tk s1) (tk_upd (s1 _ _ h.head) fun _ z => by cases z)) rr⟩
      have e : ([0, S.sent - s0, (rows.length : Int)] ++ pairs (rows.take (i + 1))).map V.int = ([0, S.sent - s0, (rows.length : Int)] ++ pairs (rows.take i)).map V.int ++ [.int z.1, .int z.2] := by
        rw [take_more hz, pairs_snoc, ← List.append_assoc, List.map_append]
        rfl
      rw [e]
      exact h3
    · rintro σ H' ⟨x0, y0, w', rfl, h, rr⟩
      rw [rr.length, List.take_length] at h
      exact ⟨_, rfl, k _ _ _ _ h.one⟩
end
end Lp
/-! Part P3: what is asked of a group. -/
namespace Lp
open PySem PySem.Spec PyProof.Rows L2
theorem flat_snoc (l : List (List Int)) (x : List Int) : (l ++ [x]).flatten = l.flatten ++ x := by
  rw [List.flatten_append]
  simp
theorem flat_len {k : Nat} : ∀ {l : List (List Int)}, (∀ r ∈ l, r.length ≤ k) → l.flatten.length ≤ l.length * k
  | [], _ => Nat.zero_le _
  | a :: l, h => by
    have ih := flat_len (k := k) (l := l) fun r hr => h r (List.mem_cons_of_mem _ hr)
    have := h a (List.mem_cons_self ..)
    rw [List.flatten_cons, List.length_append, List.length_cons, Nat.succ_mul]
    omega
section
variable {P : Program} {w : World} {K : PySem.W.Frag} {mg : Str → Option Value} {base : Heap} {C : Cl} {fI aN aM aP : Addr}
open VbrcCore VbrcafPlay
/-! ### elections -/
abbrev s_elections : Stmt := top 46
theorem sc_elections : FnScope ["group", "found", "term", "number"] ["group"] (defScope s_elections) := ⟨rfl, rfl, rfl, by decide +kernel, rfl, by decide +kernel, by decide +kernel⟩
def spElections (C : Cl) : Sp := fun vs H Q _ => ∃ w g S A ps, vs = [.ref g] ∧ GAt C H w H w g S A ps [] ∧ S.log.length ≤ 4000000 ∧ Ret C H w g S ps Q ([0, (S.log.length : Int)] ++ pairs S.log)
theorem ok_elections {f : Addr} {fd : FuncData} (T : TxH K mg C fI aN aM aP) (F : Fun K "elections" "elections" s_elections f fd) : FnOk P w K mg base CX0 1 f fd ["group"] (spElections C) := by
  refine F.ok sc_elections (fun vs H Q E h => ?_) (fun cdv A outer s H vs Q E hr h => ?_)
  · obtain ⟨_, _, _, _, _, rfl, _⟩ := h
    rfl
  · refine ⟨_, (pss_cons (ps_set (i := 1) sc_elections.nd rfl (Or.inl rfl) (pe_lst (pa_cons pe_int (pa_cons (pe_callB call_len_seq (by rfl) T.b_len PySem.boot_len (pa_cons (pe_fld (pv 0) rfl) pa_nil)) pa_nil))))
      (pss_cons (ps_for PassesOwn.never rfl (pi_list (pe_fld (pv 0) rfl)) (pg_tup rfl (pgs_cons (pg_name (i := 2) sc_elections.nd rfl (Or.inl rfl)) (pgs_cons (pg_name (i := 3) sc_elections.nd rfl (Or.inl rfl)) pgs_nil)))
        (pss_one (ps_expr (pe_bm PySem.F.plainAttrs_list PySem.F.slot_list_extend PySem.F.type_list_extend mt_extend (pv 1) (pa_cons (pe_lst (pa_cons (pv 2) (pa_cons (pv 3) pa_nil))) pa_nil)))))
      (pss_one (ps_ret (pv 1))))), ?_⟩
    obtain ⟨w, g, S, A, ps, rfl, h, ll, k⟩ := h
    obtain ⟨rs, hrs, rrs⟩ := h.gp.log.lst
    refine ⟨_, rfl, h.rd T.toTxt (i := 4) rfl rfl ⟨A.log, _, rfl, .inl (SqL.of hrs), by show 2 ≤ sizeLine; decide, fun fd hfd => ?_⟩⟩
    rw [rrs.length]
    have h2 := h.alloc (o := .lst [.int 0, .int (S.log.length : Int)]) hfd
    refine ⟨_, rfl, h2.rd T.toTxt (i := 4) rfl rfl ?_⟩
    have hrs2 := same_upd (o := .lst [.int 0, .int (S.log.length : Int)]) hfd _ _ hrs
    have rr2 := pr_keep (same_tk (same_upd (o := .lst [.int 0, .int (S.log.length : Int)]) hfd)) rrs
    refine ⟨A.log, rfl, ⟨_, .of hrs2⟩, for_list (K := K) (a := A.log) (xs := rs) (fun i σ H' => ∃ x y w', σ = [some (.ref g), some (.ref fd), x, y] ∧ GAt C H w H' w' g S A ps [(fd, .lst (([0, (S.log.length : Int)] ++ pairs (S.log.take i)).map V.int))] ∧ Paired (rPr H') rs S.log ∧ H' A.log = some (.lst rs) ∧ w' A.log ≠ none)
      ⟨none, none, w, rfl, h2, rr2, hrs2, by rw [h2.gp.log.1]; exact fun z => nomatch z⟩ (fun i σ H' _ ⟨_, _, _, _, _, _, h, _⟩ => .of h) ?_ ?_⟩
    · rintro i x σ H' hx ⟨x0, y0, w', rfl, h, rr, hl, hw⟩
      obtain ⟨z, hz, t, rfl, ht⟩ := pr_get rr hx
      refine ⟨t, _, rfl, .of ht, rfl, _, _, rfl, _, _, rfl, rfl, ?_⟩
      refine ⟨_, rfl, .inl ⟨rfl, _, .of h.head⟩, _, rfl, _, rfl, by show 2 ≤ sizeLine; decide, fun q hq => ?_⟩
      have s1 := same_upd (o := .lst [.int z.1, .int z.2]) hq
      have lt : (S.log.take i).length ≤ 4000000 := by rw [List.length_take]; omega
      have nfd : A.log ≠ fd := fun e => by rw [e] at hw; exact hw (h.loc _ (List.mem_cons_self ..)).2.1
      refine ⟨fd, q, _, _, rfl, rfl, s1 _ _ h.head, upd_same, by rw [List.length_map, List.length_append, pairs_len, sizeLine_is]; show 2 + _ + 2 ≤ _; omega, ?_⟩
      have h3 := h.ext (us := [.int z.1, .int z.2]) s1
      refine ⟨_, _, w', rfl, ?_, pr_keep (TK.trans (same_tk s1) (tk_upd (s1 _ _ h.head) fun _ z => by cases z)) rr, by rw [upd_ne nfd]; exact s1 _ _ hl, hw⟩
      have e : ([0, (S.log.length : Int)] ++ pairs (S.log.take (i + 1))).map V.int = ([0, (S.log.length : Int)] ++ pairs (S.log.take i)).map V.int ++ [.int z.1, .int z.2] := by
        rw [take_more hz, pairs_snoc, ← List.append_assoc, List.map_append]
        rfl
      rw [e]
      exact h3
    · rintro σ H' ⟨x0, y0, w', rfl, h, rr, _⟩
      rw [rr.length, List.take_length] at h
      exact ⟨_, rfl, k _ _ _ _ h⟩
/-! ### messages -/
abbrev s_messages : Stmt := top 45
theorem sc_messages : FnScope ["group", "args", "rows", "found", "message"] ["group", "args"] (defScope s_messages) := ⟨rfl, rfl, rfl, by decide +kernel, rfl, by decide +kernel, by decide +kernel⟩
def spMessages (C : Cl) : Sp := fun vs H Q _ => ∃ w g S A ps, ∃ (a : Addr) (as : List Int), vs = [.ref g, .ref a] ∧ GAt C H w H w g S A ps [] ∧ H a = some (.lst (as.map V.int)) ∧ w a = none ∧ 1 ≤ as.length ∧ 0 ≤ as.getD 0 0 ∧ (∀ r ∈ S.way, r.length ≤ 100) ∧
  Ret C H w g S ps Q ([0, (S.way.length : Int), (((S.way.drop (as.getD 0 0).toNat).take 200).length : Int)] ++ ((S.way.drop (as.getD 0 0).toNat).take 200).flatten)
theorem ok_messages {f : Addr} {fd : FuncData} (T : TxH K mg C fI aN aM aP) (F : Fun K "messages" "messages" s_messages f fd) : FnOk P w K mg base CX0 1 f fd ["group", "args"] (spMessages C) := by
  refine F.ok sc_messages (fun vs H Q E h => ?_) (fun cdv A outer s H vs Q E hr h => ?_)
  · obtain ⟨_, _, _, _, _, _, _, rfl, _⟩ := h
    rfl
  · refine ⟨_, (pss_cons (ps_set (i := 2) sc_messages.nd rfl (Or.inl rfl) (pe_slice sl_list (pe_fld (pv 0) rfl) (po_some (pe_ix ix_list (pv 1) pe_int (fun _ _ => rfl))) (po_some (pe_op op_add (pe_ix ix_list (pv 1) pe_int (fun _ _ => rfl)) (pe_const rfl T.k_MOST_SHOWN)))))
      (pss_cons (ps_set (i := 3) sc_messages.nd rfl (Or.inl rfl) (pe_lst (pa_cons pe_int (pa_cons (pe_callB call_len_seq (by rfl) T.b_len PySem.boot_len (pa_cons (pe_fld (pv 0) rfl) pa_nil)) (pa_cons (pe_callB call_len_seq (by rfl) T.b_len PySem.boot_len (pa_cons (pv 2) pa_nil)) pa_nil)))))
      (pss_cons (ps_for PassesOwn.never rfl (pi_list (pv 2)) (pg_name (i := 4) sc_messages.nd rfl (Or.inl rfl))
        (pss_one (ps_expr (pe_bm PySem.F.plainAttrs_list PySem.F.slot_list_extend PySem.F.type_list_extend mt_extend (pv 3) (pa_cons (pe_callTy call_list_of (by rfl) T.b_list boot_list (pa_cons (pv 4) pa_nil)) pa_nil)))))
      (pss_one (ps_ret (pv 3)))))), ?_⟩
    obtain ⟨w, g, S, A, ps, a, as, rfl, h, ha, hwa, l1, h0, hr', k⟩ := h
    obtain ⟨vs, hvs, rvs⟩ := h.gp.way.lst
    have ei := at_ints (i := 0) l1
    generalize as.getD 0 0 = z at ei h0 k
    refine ⟨_, rfl, h.rd T.toTxt (i := 2) rfl rfl ⟨_, rfl, a, _, _, _, rfl, rfl, .of ha, ei, _, rfl, _, rfl, a, _, _, _, rfl, rfl, .of ha, ei, _, _, rfl, rfl, _, rfl, A.way, vs, rfl, .of hvs, fun rw hrw => ?_⟩⟩
    rw [cutV_mid vs h0 (by omega : (0 : Int) ≤ z + 200), show (z + 200).toNat - z.toNat = 200 by omega]
    have h1 := h.alloc (o := .lst ((vs.drop z.toNat).take 200)) hrw
    have rrs := pr_take 200 (pr_drop z.toNat (pr_keep (same_tk (same_upd (o := .lst ((vs.drop z.toNat).take 200)) hrw)) rvs))
    have hr2 : ∀ r ∈ (S.way.drop z.toNat).take 200, r.length ≤ 100 := fun r hr => hr' r (List.mem_of_mem_drop (List.mem_of_mem_take hr))
    have hvs1 := same_upd (o := .lst ((vs.drop z.toNat).take 200)) hrw _ _ hvs
    have lr : ((S.way.drop z.toNat).take 200).length ≤ 200 := by rw [List.length_take]; omega
    revert h1 rrs hvs1
    generalize (vs.drop z.toNat).take 200 = rs
    intro h1 rrs hvs1
    generalize (S.way.drop z.toNat).take 200 = rows at rrs hr2 lr k
    refine ⟨_, rfl, h1.rd T.toTxt (i := 2) rfl rfl ⟨A.way, _, rfl, .inl (SqL.of hvs1), _, rfl, rw, _, rfl, .inl (SqL.of h1.head), by show 3 ≤ sizeLine; decide, fun fd hfd => ?_⟩⟩
    rw [rrs.length, rvs.length]
    have h2 := h1.alloc (o := .lst [.int 0, .int (S.way.length : Int), .int (rows.length : Int)]) hfd
    have rrs2 := pr_keep (same_tk (same_upd (o := .lst [.int 0, .int (S.way.length : Int), .int (rows.length : Int)]) hfd)) rrs
    refine ⟨_, rfl, rw, rfl, ⟨_, .of h2.tail.head⟩, for_list (K := K) (a := rw) (xs := rs) (fun i σ H' => ∃ x w', σ = [some (.ref g), some (.ref a), some (.ref rw), some (.ref fd), x] ∧ GAt C H w H' w' g S A ps [(fd, .lst (([0, (S.way.length : Int), (rows.length : Int)] ++ (rows.take i).flatten).map V.int)), (rw, .lst rs)] ∧ Paired (rRow H') rs rows)
      ⟨none, w, rfl, h2, rrs2⟩ (fun i σ H' _ ⟨_, _, _, h, _⟩ => .of h.tail.head) ?_ ?_⟩
    · rintro i x σ H' hx ⟨x0, w', rfl, h, rr⟩
      obtain ⟨r, hz, t, rfl, ht⟩ := pr_get rr hx
      refine ⟨_, rfl, .inl ⟨rfl, _, .of h.head⟩, _, rfl, t, _, rfl, .inr (.of ht), fun q hq => ?_⟩
      have s1 := same_upd (o := .lst (r.map V.int)) hq
      have lt : (rows.take i).flatten.length ≤ (rows.take i).length * 100 := flat_len fun r hr => hr2 r (List.mem_of_mem_take hr)
      have lt2 : (rows.take i).length ≤ 200 := by rw [List.length_take]; omega
      have lt3 := hr2 r (List.mem_of_getElem? hz)
      refine ⟨fd, q, _, _, rfl, rfl, s1 _ _ h.head, upd_same, by rw [List.length_map, List.length_append, List.length_map, sizeLine_is]; show 3 + _ + _ ≤ _; omega, ?_⟩
      have h3 := h.ext (us := r.map V.int) s1
      refine ⟨_, w', rfl, ?_, pr_keep (TK.trans (same_tk s1) (tk_upd (s1 _ _ h.head) fun _ z => by cases z)) rr⟩
      have e : ([0, (S.way.length : Int), (rows.length : Int)] ++ (rows.take (i + 1)).flatten).map V.int = ([0, (S.way.length : Int), (rows.length : Int)] ++ (rows.take i).flatten).map V.int ++ r.map V.int := by
        rw [take_more hz, flat_snoc, ← List.append_assoc, List.map_append]
      rw [e]
      exact h3
    · rintro σ H' ⟨x0, w', rfl, h, rr⟩
      rw [rr.length, List.take_length] at h
      exact ⟨_, rfl, k _ _ _ _ h.one⟩
end
end Lp
/-! Part P4: what is asked of a member. -/
namespace Lp
open PySem PySem.Spec PyProof.Rows L2
def bi (b : Bool) : Int := if b then 1 else 0
section
variable {P : Program} {w : World} {K : PySem.W.Frag} {mg : Str → Option Value} {base : Heap} {C : Cl} {fI aN aM aP : Addr}
open VbrcCore VbrcafPlay
/-! ### status -/
abbrev s_status : Stmt := top 42
theorem sc_status : FnScope ["group", "args", "member", "found"] ["group", "args"] (defScope s_status) := ⟨rfl, rfl, rfl, by decide +kernel, rfl, by decide +kernel, by decide +kernel⟩
def statusM (m : M) : List Int := [0, bi m.runs, m.term, m.vote, m.role, m.leader, m.elapsed, m.beat] ++ [m.position.1, m.position.2, m.stored.1, m.stored.2, (m.pending.length : Int), (m.held.length : Int)] ++ [(m.active.length : Int)] ++ m.active
def spStatus (C : Cl) : Sp := fun vs H Q _ => ∃ w g S A ps, ∃ (a : Addr) (as : List Int) (i : Nat) (m : M), vs = [.ref g, .ref a] ∧ GAt C H w H w g S A ps [] ∧ H a = some (.lst (as.map V.int)) ∧ w a = none ∧ 1 ≤ as.length ∧ S.ms[i]? = some m ∧ m.number = as.getD 0 0 ∧ m.active.length ≤ 4000000 ∧
  Ret C H w g S ps Q (statusM m)
theorem ok_status {f : Addr} {fd : FuncData} (T : TxH K mg C fI aN aM aP) (F : Fun K "status" "status" s_status f fd) : FnOk P w K mg base CX0 1 f fd ["group", "args"] (spStatus C) := by
  refine F.ok sc_status (fun vs H Q E h => ?_) (fun cdv A outer s H vs Q E hr h => ?_)
  · obtain ⟨_, _, _, _, _, _, _, _, _, rfl, _⟩ := h
    rfl
  · refine ⟨_, (pss_cons (ps_set (i := 2) sc_status.nd rfl (Or.inl rfl) (pe_dget (hu_of hr) (pe_fld (pv 0) rfl) (pe_ix ix_list (pv 1) pe_int (fun _ _ => rfl)) (fun _ _ => rfl)))
      (pss_cons (ps_set (i := 3) sc_status.nd rfl (Or.inl rfl) (pe_lst (pa_cons pe_int (pa_cons (pe_callTy call_int1 (by rfl) T.b_int boot_int (pa_cons (pe_fld (pv 2) rfl) pa_nil)) (pa_cons (pe_fld (pv 2) rfl) (pa_cons (pe_fld (pv 2) rfl) (pa_cons (pe_fld (pv 2) rfl) (pa_cons (pe_fld (pv 2) rfl) (pa_cons (pe_fld (pv 2) rfl) (pa_cons (pe_fld (pv 2) rfl) pa_nil))))))))))
      (pss_cons (ps_expr (pe_bm PySem.F.plainAttrs_list PySem.F.slot_list_extend PySem.F.type_list_extend mt_extend (pv 3) (pa_cons (pe_op op_cat (pe_op op_cat (pe_callTy call_list_of (by rfl) T.b_list boot_list (pa_cons (pe_fld (pv 2) rfl) pa_nil)) (pe_callTy call_list_of (by rfl) T.b_list boot_list (pa_cons (pe_fld (pv 2) rfl) pa_nil))) (pe_lst (pa_cons (pe_callB call_len_seq (by rfl) T.b_len PySem.boot_len (pa_cons (pe_fld (pv 2) rfl) pa_nil)) (pa_cons (pe_callB call_len_seq (by rfl) T.b_len PySem.boot_len (pa_cons (pe_fld (pv 2) rfl) pa_nil)) pa_nil)))) pa_nil)))
      (pss_one (ps_ret (pe_op op_cat (pe_op op_cat (pv 3) (pe_lst (pa_cons (pe_callB call_len_seq (by rfl) T.b_len PySem.boot_len (pa_cons (pe_fld (pv 2) rfl) pa_nil)) pa_nil))) (pe_fld (pv 2) rfl))))))), ?_⟩
    obtain ⟨w, g, S, A, ps, a, as, i, m, rfl, h, ha, hwa, l1, hi, hm, la, k⟩ := h
    obtain ⟨p, B, hp, b⟩ := h.focus hi
    have hv := valV_mdK (m := m) h.nd hi hp
    have ei := at_ints (i := 0) l1
    rw [← hm] at ei
    obtain ⟨pv, hpv, rpv⟩ := b.pen_l.lst
    obtain ⟨hh, hhv, rhv⟩ := b.hel_l.lst
    obtain ⟨av, hav, rav⟩ := b.act_l.lst
    have eav := pr_ints rav
    have lpv := rpv.length
    have lhv := rhv.length
    subst eav
    refine ⟨_, rfl, h.rd T.toTxt (i := 1) rfl rfl ⟨_, rfl, a, _, _, _, rfl, rfl, .of ha, ei, A.md, .ref p, rfl, .inl ⟨_, _, .inl h.gp.md.2, rfl, hv.symm⟩, ?_⟩⟩
    refine ⟨_, rfl, b.rd T.toTxt (i := 7) rfl rfl (.inr ⟨_, rfl, _, rfl, b.rd T.toTxt (i := 8) rfl rfl ⟨_, rfl, b.rd T.toTxt (i := 9) rfl rfl ⟨_, rfl, b.rd T.toTxt (i := 10) rfl rfl ⟨_, rfl, b.rd T.toTxt (i := 11) rfl rfl ⟨_, rfl, b.rd T.toTxt (i := 12) rfl rfl ⟨_, rfl, b.rd T.toTxt (i := 13) rfl rfl ⟨by show 8 ≤ sizeLine; decide, fun fd hfd => ?_⟩⟩⟩⟩⟩⟩⟩)⟩
    have h1 := h.alloc (o := .lst [.int 0, .int (if m.runs = true then 1 else 0), .int m.term, .int m.vote, .int m.role, .int m.leader, .int m.elapsed, .int m.beat]) hfd
    have t1 := same_upd (o := .lst [.int 0, .int (if m.runs = true then 1 else 0), .int m.term, .int m.vote, .int m.role, .int m.leader, .int m.elapsed, .int m.beat]) hfd
    replace b := b.same t1
    have f1 := h1.head
    refine ⟨_, rfl, .inl ⟨rfl, _, .of f1⟩, _, rfl, b.rd T.toTxt (i := 2) rfl rfl ⟨B.pos, _, rfl, .inr (.of b.parts.1), fun q1 hq1 => ?_⟩⟩
    have t2 := same_upd (o := .lst [.int m.position.1, .int m.position.2]) hq1
    replace b := b.same t2
    refine ⟨_, rfl, b.rd T.toTxt (i := 3) rfl rfl ⟨B.sto, _, rfl, .inr (.of b.parts.2.1), fun q2 hq2 => ?_⟩⟩
    have t3 := same_upd (o := .lst [.int m.stored.1, .int m.stored.2]) hq2
    replace b := b.same t3
    refine ⟨q1, q2, _, _, rfl, rfl, t3 _ _ upd_same, upd_same, by show 4 ≤ sizeLine; decide, fun q3 hq3 => ?_⟩
    have t4 := same_upd (o := .lst ([.int m.position.1, .int m.position.2] ++ [.int m.stored.1, .int m.stored.2])) hq3
    replace b := b.same t4
    have u4 := same_trans t1 (same_trans t2 (same_trans t3 t4))
    refine ⟨_, rfl, b.rd T.toTxt (i := 16) rfl rfl ⟨B.pen, _, rfl, .inl (SqL.of (u4 _ _ hpv)), _, rfl, b.rd T.toTxt (i := 17) rfl rfl ⟨B.hel, _, rfl, .inl (SqL.of (u4 _ _ hhv)), by show 2 ≤ sizeLine; decide, fun q4 hq4 => ?_⟩⟩⟩
    rw [lpv, lhv]
    have t5 := same_upd (o := .lst [.int (m.pending.length : Int), .int (m.held.length : Int)]) hq4
    replace b := b.same t5
    refine ⟨q3, q4, _, _, rfl, rfl, t5 _ _ upd_same, upd_same, by show 6 ≤ sizeLine; decide, fun q5 hq5 => ?_⟩
    have t6 := same_upd (o := .lst ([.int m.position.1, .int m.position.2] ++ [.int m.stored.1, .int m.stored.2] ++ [.int (m.pending.length : Int), .int (m.held.length : Int)])) hq5
    have u6 := same_trans t2 (same_trans t3 (same_trans t4 (same_trans t5 t6)))
    refine ⟨fd, q5, _, _, rfl, rfl, u6 _ _ f1, upd_same, by show 14 ≤ sizeLine; decide, ?_⟩
    have h2 := h1.ext (us := [.int m.position.1, .int m.position.2] ++ [.int m.stored.1, .int m.stored.2] ++ [.int (m.pending.length : Int), .int (m.held.length : Int)]) u6
    obtain ⟨p', B2, hp', b⟩ := h2.focus hi
    rw [hp] at hp'
    cases Option.some.inj hp'
    clear u6 u4 t6 t5 t4 t3 t2 t1 f1 h1 hav hhv hpv hq5 hq4 hq3 hq2 hq1 hfd rpv rhv rav
    obtain ⟨av, hav, rav⟩ := b.act_l.lst
    have eav := pr_ints rav
    subst eav
    revert h2 b hav rav
    generalize upd (upd (upd (upd (upd (upd (upd H fd _) q1 _) q2 _) q3 _) q4 _) q5 _) fd _ = H2
    intro h2 b hav rav
    refine ⟨_, rfl, _, rfl, b.rd T.toTxt (i := 15) rfl rfl ⟨B2.act, _, rfl, .inl (SqL.of hav), by show 1 ≤ sizeLine; decide, fun q6 hq6 => ?_⟩⟩
    rw [List.length_map]
    have t7 := same_upd (o := .lst [.int (m.active.length : Int)]) hq6
    refine ⟨fd, q6, _, _, rfl, rfl, t7 _ _ h2.head, upd_same, by show 15 ≤ sizeLine; decide, fun q7 hq7 => ?_⟩
    have t8 := same_upd (o := .lst ([.int 0, .int (if m.runs = true then 1 else 0), .int m.term, .int m.vote, .int m.role, .int m.leader, .int m.elapsed, .int m.beat] ++ ([.int m.position.1, .int m.position.2] ++ [.int m.stored.1, .int m.stored.2] ++ [.int (m.pending.length : Int), .int (m.held.length : Int)]) ++ [.int (m.active.length : Int)])) hq7
    have b2 := b.same (same_trans t7 t8)
    refine ⟨_, rfl, b2.rd T.toTxt (i := 15) rfl rfl ⟨q7, B2.act, _, _, rfl, rfl, upd_same, same_trans t7 t8 _ _ hav, by rw [List.length_map, sizeLine_is]; show 15 + _ ≤ _; omega, fun q8 hq8 => ?_⟩⟩
    have h3 := (h2.same (same_trans t7 t8)).tail.alloc (o := .lst ((statusM m).map V.int)) hq8
    refine k _ w A q8 ?_
    have e : ([.int 0, .int (if m.runs = true then 1 else 0), .int m.term, .int m.vote, .int m.role, .int m.leader, .int m.elapsed, .int m.beat] ++ ([.int m.position.1, .int m.position.2] ++ [.int m.stored.1, .int m.stored.2] ++ [.int (m.pending.length : Int), .int (m.held.length : Int)]) ++ [.int (m.active.length : Int)] ++ m.active.map V.int : List V) = (statusM m).map V.int := by
      unfold statusM
      rw [List.map_append]
      rfl
    rw [e]
    exact h3
/-! ### ballots -/
abbrev s_ballots : Stmt := top 43
theorem sc_ballots : FnScope ["group", "args", "member", "found", "number", "is_yes"] ["group", "args"] (defScope s_ballots) := ⟨rfl, rfl, rfl, by decide +kernel, rfl, by decide +kernel, by decide +kernel⟩
def ballotsM (m : M) : List Int := [0, (m.ballot.length : Int)] ++ (m.ballot.map fun b => [b.1, bi b.2]).flatten
def spBallots (C : Cl) : Sp := fun vs H Q E => ∃ w g S A ps, ∃ (a : Addr) (as : List Int) (i : Nat) (n : VbrcafPlay.Node), vs = [.ref g, .ref a] ∧ GAt C H w H w g (toG S) A ps [] ∧ H a = some (.lst (as.map V.int)) ∧ w a = none ∧ 1 ≤ as.length ∧ S.g.nodes[i]? = some n ∧ (n.id : Int) = as.getD 0 0 ∧ n.elector.ballots.length ≤ 4000000 ∧
  (n.alive = false → Rf C H E (-1)) ∧ (n.alive = true → Ret C H w g (toG S) ps Q (ballotsM (toM n)))
theorem ok_ballots {f : Addr} {fd : FuncData} (T : TxH K mg C fI aN aM aP) (F : Fun K "ballots" "ballots" s_ballots f fd) (D_running_member : DfX P w K mg base 2 "running_member" ["group", "number"] (spRunMember C)) :
    FnOk P w K mg base (L2.CX P w) 3 f fd ["group", "args"] (spBallots C) := by
  refine F.okX sc_ballots (fun vs H Q E h => ?_) (fun cdv A outer s H vs Q E hr h => ?_)
  · obtain ⟨_, _, _, _, _, _, _, _, _, rfl, _⟩ := h
    rfl
  · refine ⟨_, (pss_cons (ps_set (i := 2) sc_ballots.nd rfl (Or.inl rfl) (pe_calX D_running_member (hr.mono (by decide)) rfl (pa_cons (pv 0) (pa_cons (pe_ix ix_list (pv 1) pe_int (fun _ _ => rfl)) pa_nil))))
      (pss_cons (ps_set (i := 3) sc_ballots.nd rfl (Or.inl rfl) (pe_lst (pa_cons pe_int (pa_cons (pe_callB call_len_seq (by rfl) T.b_len PySem.boot_len (pa_cons (pe_fld (pv 2) rfl) pa_nil)) pa_nil))))
      (pss_cons (ps_for (passes_of rfl) rfl (pi_list (pe_fld (pv 2) rfl)) (pg_tup rfl (pgs_cons (pg_name (i := 4) sc_ballots.nd rfl (Or.inl rfl)) (pgs_cons (pg_name (i := 5) sc_ballots.nd rfl (Or.inl rfl)) pgs_nil)))
        (pss_one (ps_expr (pe_bm PySem.F.plainAttrs_list PySem.F.slot_list_extend PySem.F.type_list_extend mt_extend (pv 3) (pa_cons (pe_lst (pa_cons (pv 4) (pa_cons (pe_callTy call_int1 (by rfl) T.b_int boot_int (pa_cons (pv 5) pa_nil)) pa_nil))) pa_nil)))))
      (pss_one (ps_ret (pv 3)))))), ?_⟩
    obtain ⟨w, g, S, A, ps, a, as, i, n, rfl, h, ha, hwa, l1, hi, hm, la, k1, k2⟩ := h
    obtain ⟨p, B, hp, b⟩ := h.focus (toM_at hi)
    have ei := at_ints (i := 0) l1
    rw [← hm] at ei
    obtain ⟨bs, hbs, rbs⟩ := b.bal_l.lst
    have lb : (toM n).ballot.length ≤ 4000000 := by show (n.elector.ballots.map _).length ≤ _; rw [List.length_map]; exact la
    refine ⟨_, rfl, _, rfl, a, _, _, _, rfl, rfl, .of ha, ei, w, g, S, A, ps, i, n, p, rfl, h, hi, hp, k1, fun al => ?_⟩
    replace k2 := k2 al
    unfold ballotsM at k2
    generalize toM n = m at k2 b rbs lb
    refine ⟨_, rfl, b.rd T.toTxt (i := 14) rfl rfl ⟨B.bal, _, rfl, .inl (SqL.of hbs), by show 2 ≤ sizeLine; decide, fun fd hfd => ?_⟩⟩
    rw [rbs.length]
    have h2 := h.alloc (o := .lst [.int 0, .int (m.ballot.length : Int)]) hfd
    have t1 := same_upd (o := .lst [.int 0, .int (m.ballot.length : Int)]) hfd
    have b2 := b.same t1
    have hbs2 := t1 _ _ hbs
    have hwb : w B.bal ≠ none := by rw [b.bal_l.1]; exact fun z => nomatch z
    refine ⟨_, rfl, b2.rd T.toTxt (i := 14) rfl rfl ?_⟩
    refine ⟨B.bal, rfl, ⟨_, .of hbs2⟩, for_list (K := K) (a := B.bal) (xs := bs) (fun i σ H' => ∃ x y w', σ = [some (.ref g), some (.ref a), some (.ref p), some (.ref fd), x, y] ∧ GAt C H w H' w' g (toG S) A ps [(fd, .lst (([0, (m.ballot.length : Int)] ++ ((m.ballot.take i).map fun b => [b.1, bi b.2]).flatten).map V.int))] ∧ Paired (rBal H') bs m.ballot ∧ H' B.bal = some (.lst bs) ∧ w' B.bal ≠ none)
      ⟨none, none, w, rfl, h2, pr_keep (same_tk t1) rbs, hbs2, hwb⟩ (fun i σ H' _ ⟨_, _, _, _, _, _, h, _⟩ => .of h) ?_ ?_⟩
    · rintro j x σ H' hx ⟨x0, y0, w', rfl, h, rr, hl, hw⟩
      obtain ⟨z, hz, t, rfl, ht⟩ := pr_get rr hx
      refine ⟨t, _, rfl, .of ht, rfl, _, _, rfl, _, _, rfl, rfl, ?_⟩
      refine ⟨_, rfl, .inl ⟨rfl, _, .of h.head⟩, _, rfl, _, rfl, .inr ⟨_, rfl, by show 2 ≤ sizeLine; decide, fun q hq => ?_⟩⟩
      have s1 := same_upd (o := .lst [.int z.1, .int (if z.2 = true then 1 else 0)]) hq
      have lt : ((m.ballot.take j).map fun b => [b.1, bi b.2]).flatten.length ≤ ((m.ballot.take j).map fun b => [b.1, bi b.2]).length * 2 := flat_len fun r hr => by
        obtain ⟨y, _, rfl⟩ := List.mem_map.mp hr
        exact Nat.le_refl _
      have lt2 : ((m.ballot.take j).map fun b => [b.1, bi b.2]).length ≤ 4000000 := by rw [List.length_map, List.length_take]; omega
      have nfd : B.bal ≠ fd := fun e => by rw [e] at hw; exact hw (h.loc _ (List.mem_cons_self ..)).2.1
      refine ⟨fd, q, _, _, rfl, rfl, s1 _ _ h.head, upd_same, by rw [List.length_map, List.length_append, sizeLine_is]; show 2 + _ + 2 ≤ _; omega, ?_⟩
      have h3 := h.ext (us := [.int z.1, .int (if z.2 = true then 1 else 0)]) s1
      refine ⟨_, _, w', rfl, ?_, pr_keep (TK.trans (same_tk s1) (tk_upd (s1 _ _ h.head) fun _ z => by cases z)) rr, by rw [upd_ne nfd]; exact s1 _ _ hl, hw⟩
      have e : ([0, (m.ballot.length : Int)] ++ ((m.ballot.take (j + 1)).map fun b => [b.1, bi b.2]).flatten).map V.int = ([0, (m.ballot.length : Int)] ++ ((m.ballot.take j).map fun b => [b.1, bi b.2]).flatten).map V.int ++ [.int z.1, .int (if z.2 = true then 1 else 0)] := by
        rw [show (m.ballot.take (j + 1)).map (fun b => [b.1, bi b.2]) = (m.ballot.take j).map (fun b => [b.1, bi b.2]) ++ [[z.1, bi z.2]] from by rw [take_more hz, List.map_append]; rfl, flat_snoc, ← List.append_assoc, List.map_append]
        rfl
      rw [e]
      exact h3
    · rintro σ H' ⟨x0, y0, w', rfl, h, rr, _⟩
      rw [rr.length, List.take_length] at h
      exact ⟨_, rfl, k2 _ _ _ _ h⟩
end
end Lp
/-! Part P5: what a member holds; asked. -/
namespace Lp
open PySem PySem.Spec PyProof.Rows L2
section
variable {P : Program} {w : World} {K : PySem.W.Frag} {mg : Str → Option Value} {base : Heap} {C : Cl} {fI aN aM aP : Addr}
open VbrcCore VbrcafPlay
/-! ### held -/
abbrev s_held : Stmt := top 44
theorem sc_held : FnScope ["group", "args", "member", "rows", "found", "write", "message"] ["group", "args"] (defScope s_held) := ⟨rfl, rfl, rfl, by decide +kernel, rfl, by decide +kernel, by decide +kernel⟩
def hRow (m : M) (h : Int × List Int) : List Int := (h.1 - m.carried) :: h.2
def heldM (m : M) : List Int := [0, (m.held.length : Int), ((m.held.take 100).length : Int)] ++ ((m.held.take 100).map (hRow m)).flatten
def spHeld (C : Cl) : Sp := fun vs H Q E => ∃ w g S A ps, ∃ (a : Addr) (as : List Int) (i : Nat) (n : VbrcafPlay.Node), vs = [.ref g, .ref a] ∧ GAt C H w H w g (toG S) A ps [] ∧ H a = some (.lst (as.map V.int)) ∧ w a = none ∧ 1 ≤ as.length ∧ S.g.nodes[i]? = some n ∧ (n.id : Int) = as.getD 0 0 ∧ (∀ h ∈ (toM n).held, h.2.length ≤ 100) ∧
  (n.alive = false → Rf C H E (-1)) ∧ (n.alive = true → Ret C H w g (toG S) ps Q (heldM (toM n)))
theorem ok_held {f : Addr} {fd : FuncData} (T : TxH K mg C fI aN aM aP) (F : Fun K "held" "held" s_held f fd) (D_running_member : DfX P w K mg base 2 "running_member" ["group", "number"] (spRunMember C)) :
    FnOk P w K mg base (L2.CX P w) 3 f fd ["group", "args"] (spHeld C) := by
  refine F.okX sc_held (fun vs H Q E h => ?_) (fun cdv A outer s H vs Q E hr h => ?_)
  · obtain ⟨_, _, _, _, _, _, _, _, _, rfl, _⟩ := h
    rfl
  · refine ⟨_, (pss_cons (ps_set (i := 2) sc_held.nd rfl (Or.inl rfl) (pe_calX D_running_member (hr.mono (by decide)) rfl (pa_cons (pv 0) (pa_cons (pe_ix ix_list (pv 1) pe_int (fun _ _ => rfl)) pa_nil))))
      (pss_cons (ps_set (i := 3) sc_held.nd rfl (Or.inl rfl) (pe_slice sl_list (pe_fld (pv 2) rfl) po_none (po_some (pe_const rfl T.k_MOST_HELD))))
      (pss_cons (ps_set (i := 4) sc_held.nd rfl (Or.inl rfl) (pe_lst (pa_cons pe_int (pa_cons (pe_callB call_len_seq (by rfl) T.b_len PySem.boot_len (pa_cons (pe_fld (pv 2) rfl) pa_nil)) (pa_cons (pe_callB call_len_seq (by rfl) T.b_len PySem.boot_len (pa_cons (pv 3) pa_nil)) pa_nil)))))
      (pss_cons (ps_for (passes_of rfl) rfl (pi_list (pv 3)) (pg_tup rfl (pgs_cons (pg_name (i := 5) sc_held.nd rfl (Or.inl rfl)) (pgs_cons (pg_name (i := 6) sc_held.nd rfl (Or.inl rfl)) pgs_nil)))
        (pss_one (ps_expr (pe_bm PySem.F.plainAttrs_list PySem.F.slot_list_extend PySem.F.type_list_extend mt_extend (pv 4) (pa_cons (pe_op op_cat (pe_lst (pa_cons (pe_op op_sub (pv 5) (pe_fld (pv 2) rfl)) pa_nil)) (pe_callTy call_list_of (by rfl) T.b_list boot_list (pa_cons (pv 6) pa_nil))) pa_nil)))))
      (pss_one (ps_ret (pv 4))))))), ?_⟩
    obtain ⟨w, g, S, A, ps, a, as, i, n, rfl, h, ha, hwa, l1, hi, hm, la, k1, k2⟩ := h
    obtain ⟨p, B, hp, b⟩ := h.focus (toM_at hi)
    have ei := at_ints (i := 0) l1
    rw [← hm] at ei
    obtain ⟨vs, hvs, rvs⟩ := b.hel_l.lst
    refine ⟨_, rfl, _, rfl, a, _, _, _, rfl, rfl, .of ha, ei, w, g, S, A, ps, i, n, p, rfl, h, hi, hp, k1, fun al => ?_⟩
    replace k2 := k2 al
    unfold heldM at k2
    have hmi := toM_at hi
    generalize toM n = m at k2 b rvs la hmi
    refine ⟨_, rfl, b.rd T.toTxt (i := 17) rfl rfl ⟨_, rfl, B.hel, vs, rfl, .of hvs, fun rw hrw => ?_⟩⟩
    rw [cutV_take vs (by decide), show (100 : Int).toNat = 100 from rfl]
    have h1 := h.alloc (o := .lst (vs.take 100)) hrw
    have t1 := same_upd (o := .lst (vs.take 100)) hrw
    have rrs := pr_take 100 (pr_keep (same_tk t1) rvs)
    have b1 := b.same t1
    have hvs1 := t1 _ _ hvs
    have lr : (m.held.take 100).length ≤ 100 := by rw [List.length_take]; omega
    have la2 : ∀ h ∈ m.held.take 100, h.2.length ≤ 100 := fun h hh => la h (List.mem_of_mem_take hh)
    revert h1 rrs hvs1 b1
    generalize vs.take 100 = rs
    intro h1 rrs b1 hvs1
    generalize m.held.take 100 = rows at rrs lr la2 k2
    refine ⟨_, rfl, b1.rd T.toTxt (i := 17) rfl rfl ⟨B.hel, _, rfl, .inl (SqL.of hvs1), _, rfl, rw, _, rfl, .inl (SqL.of h1.head), by show 3 ≤ sizeLine; decide, fun fd hfd => ?_⟩⟩
    rw [rrs.length, rvs.length]
    have h2 := h1.alloc (o := .lst [.int 0, .int (m.held.length : Int), .int (rows.length : Int)]) hfd
    have rrs2 := pr_keep (same_tk (same_upd (o := .lst [.int 0, .int (m.held.length : Int), .int (rows.length : Int)]) hfd)) rrs
    refine ⟨_, rfl, rw, rfl, ⟨_, .of h2.tail.head⟩, for_list (K := K) (a := rw) (xs := rs) (fun i σ H' => ∃ x y w', σ = [some (.ref g), some (.ref a), some (.ref p), some (.ref rw), some (.ref fd), x, y] ∧ GAt C H w H' w' g (toG S) A ps [(fd, .lst (([0, (m.held.length : Int), (rows.length : Int)] ++ ((rows.take i).map (hRow m)).flatten).map V.int)), (rw, .lst rs)] ∧ Paired (rHeld H') rs rows)
      ⟨none, none, w, rfl, h2, rrs2⟩ (fun i σ H' _ ⟨_, _, _, _, h, _⟩ => .of h.tail.head) ?_ ?_⟩
    · rintro j x σ H' hx ⟨x0, y0, w', rfl, h, rr⟩
      obtain ⟨z, hz, t, t', rfl, ht, ht'⟩ := pr_get rr hx
      obtain ⟨p', B', hp', b'⟩ := h.focus hmi
      rw [hp] at hp'
      cases Option.some.inj hp'
      refine ⟨t, _, rfl, .of ht, rfl, _, _, rfl, _, _, rfl, rfl, ?_⟩
      refine ⟨_, rfl, .inl ⟨rfl, _, .of h.head⟩, _, rfl, _, rfl, b'.rd T.toTxt (i := 19) rfl rfl ⟨_, _, rfl, rfl, by show 1 ≤ sizeLine; decide, fun q1 hq1 => ?_⟩⟩
      have s1 := same_upd (o := .lst [.int (z.1 - m.carried)]) hq1
      refine ⟨_, rfl, t', _, rfl, .inr (.of (s1 _ _ ht')), fun q2 hq2 => ?_⟩
      have s2 := same_upd (o := .lst (z.2.map V.int)) hq2
      have lz := la2 z (List.mem_of_getElem? hz)
      refine ⟨q1, q2, _, _, rfl, rfl, s2 _ _ upd_same, upd_same, by rw [List.length_map, sizeLine_is]; show 1 + _ ≤ _; omega, fun q3 hq3 => ?_⟩
      have s3 := same_trans s1 (same_trans s2 (same_upd (o := .lst ([.int (z.1 - m.carried)] ++ z.2.map V.int)) hq3))
      have lt : ((rows.take j).map (hRow m)).flatten.length ≤ ((rows.take j).map (hRow m)).length * 101 := flat_len fun r hr => by
        obtain ⟨y, hy, rfl⟩ := List.mem_map.mp hr
        have := la2 y (List.mem_of_mem_take hy)
        show y.2.length + 1 ≤ _
        omega
      have lt2 : ((rows.take j).map (hRow m)).length ≤ 100 := by rw [List.length_map, List.length_take]; omega
      refine ⟨fd, q3, _, _, rfl, rfl, s3 _ _ h.head, upd_same, by rw [List.length_map, List.length_append, sizeLine_is, List.length_append, List.length_map]; show 3 + _ + (1 + _) ≤ _; omega, ?_⟩
      have h3 := h.ext (us := [.int (z.1 - m.carried)] ++ z.2.map V.int) s3
      refine ⟨_, _, w', rfl, ?_, pr_keep (TK.trans (same_tk s3) (tk_upd (s3 _ _ h.head) fun _ z => by cases z)) rr⟩
      have e : ([0, (m.held.length : Int), (rows.length : Int)] ++ ((rows.take (j + 1)).map (hRow m)).flatten).map V.int = ([0, (m.held.length : Int), (rows.length : Int)] ++ ((rows.take j).map (hRow m)).flatten).map V.int ++ ([.int (z.1 - m.carried)] ++ z.2.map V.int) := by
        rw [show (rows.take (j + 1)).map (hRow m) = (rows.take j).map (hRow m) ++ [hRow m z] from by rw [take_more hz, List.map_append]; rfl, flat_snoc, ← List.append_assoc, List.map_append]
        rfl
      rw [e]
      exact h3
    · rintro σ H' ⟨x0, y0, w', rfl, h, rr⟩
      rw [rr.length, List.take_length] at h
      exact ⟨_, rfl, k2 _ _ _ _ h.one⟩
/-! ### asked -/
abbrev s_asked : Stmt := top 47
theorem sc_asked : FnScope ["group", "number", "args"] ["group", "number", "args"] (defScope s_asked) := ⟨rfl, rfl, rfl, by decide +kernel, rfl, by decide +kernel, by decide +kernel⟩
def messagesM (S : GM) (z : Nat) : List Int := [0, (S.way.length : Int), (((S.way.drop z).take 200).length : Int)] ++ ((S.way.drop z).take 200).flatten
def electionsM (S : GM) : List Int := [0, (S.log.length : Int)] ++ pairs S.log
def spAsked (C : Cl) : Sp := fun vs H Q E => ∃ w g S A ps, ∃ (num : Int) (a : Addr) (as : List Int), vs = [.ref g, .int num, .ref a] ∧ GAt C H w H w g (toG S) A ps [] ∧ H a = some (.lst (as.map V.int)) ∧ w a = none ∧ GOk S.g ∧ S.tot ≤ 4000000 ∧
  ((∃ (i : Nat) (n : VbrcafPlay.Node), 1 ≤ as.length ∧ S.g.nodes[i]? = some n ∧ (n.id : Int) = as.getD 0 0 ∧
     ((num = 14 ∧ Ret C H w g (toG S) ps Q (statusM (toM n))) ∨ (num = 15 ∧ (n.alive = false → Rf C H E (-1)) ∧ (n.alive = true → Ret C H w g (toG S) ps Q (ballotsM (toM n)))) ∨ (num = 16 ∧ (n.alive = false → Rf C H E (-1)) ∧ (n.alive = true → Ret C H w g (toG S) ps Q (heldM (toM n)))))) ∨
   (num = 17 ∧ 1 ≤ as.length ∧ 0 ≤ as.getD 0 0 ∧ Ret C H w g (toG S) ps Q (messagesM (toG S) (as.getD 0 0).toNat)) ∨ (num = 18 ∧ Ret C H w g (toG S) ps Q (electionsM (toG S))))
theorem row_len (m : Message) : (messageRow m).length ≤ 100 := by
  unfold messageRow bodyRow toInts
  cases m.body <;> (simp only [List.length_append, List.length_map, List.length_cons, List.length_nil]; decide)
theorem held_rows {c : VbrcCore.Config} {n : VbrcafPlay.Node} : ∀ h ∈ (toM n).held, h.2.length ≤ 100 := fun h hh => by
  obtain ⟨x, _, rfl⟩ := List.mem_map.mp (show h ∈ n.held.map _ from hh)
  exact row_len x.message
theorem ok_asked {f : Addr} {fd : FuncData} (T : TxH K mg C fI aN aM aP) (F : Fun K "asked" "asked" s_asked f fd) (D_status : DfG P w K mg base CX0 1 "status" ["group", "args"] (spStatus C)) (D_ballots : DfX P w K mg base 3 "ballots" ["group", "args"] (spBallots C))
    (D_held : DfX P w K mg base 3 "held" ["group", "args"] (spHeld C)) (D_messages : DfG P w K mg base CX0 1 "messages" ["group", "args"] (spMessages C)) (D_elections : DfG P w K mg base CX0 1 "elections" ["group"] (spElections C)) :
    FnOk P w K mg base (L2.CX P w) 4 f fd ["group", "number", "args"] (spAsked C) := by
  refine F.okX sc_asked (fun vs H Q E h => ?_) (fun cdv A outer s H vs Q E hr h => ?_)
  · obtain ⟨_, _, _, _, _, _, _, _, rfl, _⟩ := h
    rfl
  · refine ⟨_, (pss_cons (ps_if (pt_cmpR op_eq (pv 1) pe_int (nomark _))
        (pss_one (ps_ret (pe_cal D_status (hr.mono (by decide)) rfl (pa_cons (pv 0) (pa_cons (pv 2) pa_nil)))))
        pss_nil)
      (pss_cons (ps_if (pt_cmpR op_eq (pv 1) pe_int (nomark _))
        (pss_one (ps_ret (pe_calX D_ballots (hr.mono (by decide)) rfl (pa_cons (pv 0) (pa_cons (pv 2) pa_nil)))))
        pss_nil)
      (pss_cons (ps_if (pt_cmpR op_eq (pv 1) pe_int (nomark _))
        (pss_one (ps_ret (pe_calX D_held (hr.mono (by decide)) rfl (pa_cons (pv 0) (pa_cons (pv 2) pa_nil)))))
        pss_nil)
      (pss_one (ps_ret (pe_ifExp (pt_cmpR op_eq (pv 1) pe_int (nomark _)) (pe_cal D_messages (hr.mono (by decide)) rfl (pa_cons (pv 0) (pa_cons (pv 2) pa_nil))) (pe_cal D_elections (hr.mono (by decide)) rfl (pa_cons (pv 0) pa_nil)))))))), ?_⟩
    obtain ⟨w, g, S, A, ps, num, a, as, rfl, h, ha, hwa, ok, ht, k⟩ := h
    refine ⟨_, rfl, rfl, _, rfl, ?_⟩
    rw [vint_eq]
    rcases k with ⟨i, n, l1, hi, hid, k⟩ | k
    · have nb := pot_node hi
      have bd := bd_of (ok.nodes n (List.mem_of_getElem? hi)) (Nat.le_trans nb ht)
      rcases k with ⟨rfl, k⟩ | ⟨rfl, k1, k2⟩ | ⟨rfl, k1, k2⟩
      · refine ifT rfl ?_
        exact ⟨_, rfl, _, rfl, w, g, _, A, ps, a, as, i, toM n, rfl, h, ha, hwa, l1, toM_at hi, hid, bd.active, k⟩
      · refine ifF rfl ?_
        refine ⟨_, rfl, rfl, _, rfl, ?_⟩
        rw [vint_eq]
        refine ifT rfl ?_
        exact ⟨_, rfl, _, rfl, w, g, _, A, ps, a, as, i, n, rfl, h, ha, hwa, l1, hi, hid, by have := bd.ballot; have e : (toM n).ballot.length = n.elector.ballots.length := List.length_map _; rw [e] at this; exact this, k1, k2⟩
      · refine ifF rfl ?_
        refine ⟨_, rfl, rfl, _, rfl, ?_⟩
        rw [vint_eq]
        refine ifF rfl ?_
        refine ⟨_, rfl, rfl, _, rfl, ?_⟩
        rw [vint_eq]
        refine ifT rfl ?_
        exact ⟨_, rfl, _, rfl, w, g, _, A, ps, a, as, i, n, rfl, h, ha, hwa, l1, hi, hid, held_rows (c := S.g.config), k1, k2⟩
    · have e17 : num = 17 ∨ num = 18 := k.elim (fun z => .inl z.1) fun z => .inr z.1
      refine ifF (decide_eq_false (by omega)) ?_
      refine ⟨_, rfl, rfl, _, rfl, ?_⟩
      rw [vint_eq]
      refine ifF (decide_eq_false (by omega)) ?_
      refine ⟨_, rfl, rfl, _, rfl, ?_⟩
      rw [vint_eq]
      refine ifF (decide_eq_false (by omega)) ?_
      refine ⟨_, rfl, rfl, _, rfl, ?_⟩
      rw [vint_eq]
      rcases k with ⟨rfl, l1, h0, k⟩ | ⟨rfl, k⟩
      · refine ifT rfl ?_
        exact ⟨_, rfl, _, rfl, w, g, _, A, ps, a, as, rfl, h, ha, hwa, l1, h0, fun r hr => by
          obtain ⟨m, _, rfl⟩ := List.mem_map.mp (show r ∈ S.g.net.map messageRow from hr)
          exact row_len m, k⟩
      · refine ifF rfl ?_
        exact ⟨_, rfl, w, g, _, A, ps, rfl, h, by have := log_len S; show (S.log.map _).length ≤ _; rw [List.length_map]; omega, k⟩
end
end Lp
/-! Part P6: links; what is done to a group. -/
namespace Lp
open PySem PySem.Spec PyProof.Rows L2
theorem call_via {sp : Sp} {E : XK} {te : TE} {ta : TA} {u : TS} {D : Ends} {σ : L2.St} {H : Hp} (v : V) (hq : ta σ H fun vs H2 => sp ((v :: vs) ++ []) H2 (fun _ H' => u D σ H') E)
    (ht : (ta σ H fun vs H2 => sp ((v :: vs) ++ []) H2 (fun _ H' => u D σ H') E) → tSeq (tDrop (tCall sp [] E (tCons te ta))) u D σ H) : tSeq (tDrop (tCall sp [] E (tCons te ta))) u D σ H := ht hq
def putL (bl : List (Int × Int)) (k : Int × Int) : List (Int × Int) := if k ∈ bl then bl else bl ++ [k]
def keyL (x : Int × Int) : List Key := [Sum.inl x.1, Sum.inl x.2]
theorem keyL_inj {x y : Int × Int} (h : keyL x = keyL y) : x = y :=
  Prod.ext (Sum.inl.inj (List.cons.inj h).1) (Sum.inl.inj (List.cons.inj (List.cons.inj h).2).1)
theorem putK_blk (bl : List (Int × Int)) (k : Int × Int) : putK (blkK bl) (keyL k) (V.bl true) = blkK (putL bl k) := by
  have ha : ((blkK bl).any fun kv => decide (kv.1 = keyL k)) = decide (k ∈ bl) := by
    rw [valV_any]
    exact valV_blkK k bl
  unfold putK putL
  rw [ha]
  by_cases e : k ∈ bl
  · rw [if_pos (decide_eq_true e), if_pos e]
    unfold blkK
    rw [List.map_map]
    apply List.map_congr_left
    intro x _
    show (if [Sum.inl x.1, Sum.inl x.2] = keyL k then ([Sum.inl x.1, Sum.inl x.2], V.bl true) else ([Sum.inl x.1, Sum.inl x.2], V.bl true)) = _
    exact ite_self _
  · rw [if_neg (by rw [decide_eq_false e]; exact Bool.false_ne_true), if_neg e]
    unfold blkK
    rw [List.map_append]
    rfl
theorem dropK_blk (bl : List (Int × Int)) (k : Int × Int) : dropK (blkK bl) (keyL k) = blkK (bl.filter fun x => decide (x ≠ k)) := by
  unfold dropK blkK
  rw [List.filter_map]
  congr 1
  apply List.filter_congr
  intro x _
  show decide (keyL x ≠ keyL k) = decide (x ≠ k)
  exact decide_eq_decide.mpr ⟨fun z e => z (by rw [e]), fun z e => z (keyL_inj e)⟩
section
variable {P : Program} {w : World} {K : PySem.W.Frag} {mg : Str → Option Value} {base : Heap} {C : Cl} {fI aN aM aP : Addr}
open VbrcCore VbrcafPlay
/-! ### link -/
abbrev s_link : Stmt := top 41
theorem sc_link : FnScope ["group", "number", "args", "everyone", "key"] ["group", "number", "args"] (defScope s_link) := ⟨rfl, rfl, rfl, by decide +kernel, rfl, by decide +kernel, by decide +kernel⟩
def spLinkOp (C : Cl) : Sp := fun vs H Q E => ∃ w g S A ps, ∃ (num : Int) (a : Addr) (as : List Int), vs = [.ref g, .int num, .ref a] ∧ GAt C H w H w g S A ps [] ∧ H a = some (.lst (as.map V.int)) ∧ w a = none ∧ 2 ≤ as.length ∧ S.blocked.length ≤ 100000 ∧
  ((S.c.everyone.contains (as.getD 0 0) && (S.c.everyone.contains (as.getD 1 0) && !decide (as.getD 0 0 = as.getD 1 0))) = false → Rf C H E (-13)) ∧
  ((S.c.everyone.contains (as.getD 0 0) && (S.c.everyone.contains (as.getD 1 0) && !decide (as.getD 0 0 = as.getD 1 0))) = true → Ret C H w g { S with blocked := if num = 12 then putL S.blocked (lk (as.getD 0 0) (as.getD 1 0)) else S.blocked.filter fun x => decide (x ≠ lk (as.getD 0 0) (as.getD 1 0)) } ps Q [0])
theorem ok_link {f : Addr} {fd : FuncData} (T : TxH K mg C fI aN aM aP) (F : Fun K "link" "link" s_link f fd) (D_need : DfX P w K mg base 1 "need" ["test", "code"] (spNeed C)) (D_link_of : DfG P w K mg base CX0 1 "link_of" ["one", "other"] spLink) :
    FnOk P w K mg base (L2.CX P w) 2 f fd ["group", "number", "args"] (spLinkOp C) := by
  refine F.okX sc_link (fun vs H Q E h => ?_) (fun cdv A outer s H vs Q E hr h => ?_)
  · obtain ⟨_, _, _, _, _, _, _, _, rfl, _⟩ := h
    rfl
  · refine ⟨_, (pss_cons (ps_set (i := 3) sc_link.nd rfl (Or.inl rfl) (pe_fld (pe_fld (pv 0) rfl) rfl))
      (pss_cons (ps_expr (pe_calX D_need (hr.mono (by decide)) rfl (pa_cons (pe_and (pe_cmpR op_in_seq (pe_ix ix_list (pv 2) pe_int (fun _ _ => rfl)) (pv 3) (by rfl)) (pe_and (pe_cmpR op_in_seq (pe_ix ix_list (pv 2) pe_int (fun _ _ => rfl)) (pv 3) (by rfl)) (pe_one (pe_cmpR op_ne (pe_ix ix_list (pv 2) pe_int (fun _ _ => rfl)) (pe_ix ix_list (pv 2) pe_int (fun _ _ => rfl)) (nomark _))))) (pa_cons (pe_un un_neg pe_int) pa_nil))))
      (pss_cons (ps_set (i := 4) sc_link.nd rfl (Or.inl rfl) (pe_cal D_link_of (hr.mono (by decide)) rfl (pa_cons (pe_ix ix_list (pv 2) pe_int (fun _ _ => rfl)) (pa_cons (pe_ix ix_list (pv 2) pe_int (fun _ _ => rfl)) pa_nil))))
      (pss_cons (ps_if (pt_cmpR op_eq (pv 1) pe_int (nomark _))
        (pss_one (ps_dput (hu_of hr) (pe_fld (pv 0) rfl) (pv 4) pe_bl rfl))
        (pss_one (ps_if (pt_cmp (pc_din (hu_of hr) (pv 4) (pe_fld (pv 0) rfl)))
        (pss_one (ps_expr (pe_bm PySem.F.plainAttrs_dict PySem.F.slot_dict_pop PySem.F.type_dict_pop (mt_popT1 (hu_of hr)) (pe_fld (pv 0) rfl) (pa_cons (pv 4) pa_nil))))
        pss_nil)))
      (pss_one (ps_ret (pe_lst (pa_cons pe_int pa_nil)))))))), ?_⟩
    obtain ⟨w, g, S, A, ps, num, a, as, rfl, h, ha, hwa, l2, lb, k1, k2⟩ := h
    have e0 := at_ints (i := 0) (by omega : 0 < as.length)
    have e1 := at_ints (i := 1) (by omega : 1 < as.length)
    generalize as.getD 0 0 = x at e0 k1 k2
    generalize as.getD 1 0 = y at e1 k1 k2
    refine ⟨_, rfl, h.rd T.toTxt (i := 0) rfl rfl (h.cf.everyone T.toTxt fun ev hev => ?_)⟩
    dsimp only [gName]
    refine call_via (.bl (S.c.everyone.contains x && (S.c.everyone.contains y && !decide (x = y)))) ?_ fun fin => ?_
    · refine ⟨_, rfl, _, _, rfl, k1, fun eb => ?_⟩
      replace k2 := k2 eb
      refine ⟨_, rfl, a, _, _, _, rfl, rfl, .of ha, e0, _, rfl, a, _, _, _, rfl, rfl, .of ha, e1, _, _, rfl, fun H1 q s1 hq hq1 => ?_⟩
      have h1 := h.same s1
      have fin : ∀ {H2} (bl : List (Int × Int)), (num = 12 → bl = putL S.blocked (lk x y)) → (num ≠ 12 → bl = S.blocked.filter fun z => decide (z ≠ lk x y)) → GAt C H w H2 w g { S with blocked := bl } A ps [] → ∀ t : TS, (∀ D σ H, t D σ H = tRet (tLst (tCons (tC (.int 0)) tNil)) D σ H) → t { nx := fun _ H' => Q .non H', rt := Q } [some (.ref g), some (.int num), some (.ref a), some (.ref ev), some (.ref q)] H2 := by
        intro H2 bl b1 b2 h2 t ht
        rw [ht]
        refine ⟨by show 1 ≤ sizeLine; decide, fun r hr => ?_⟩
        have h3 := h2.alloc (o := .lst [.int 0]) hr
        refine k2 _ w A r ?_
        by_cases e : num = 12
        · rw [if_pos e, ← b1 e]; exact h3
        · rw [if_neg e, ← b2 e]; exact h3
      refine ⟨_, rfl, rfl, _, rfl, ?_⟩
      rw [vint_eq]
      by_cases e : num = 12
      · refine ifT (decide_eq_true e) ?_
        refine ⟨_, rfl, h1.rd T.toTxt (i := 3) rfl rfl ⟨_, rfl, A.blk, _, rfl, .inr ⟨_, keyL (lk x y), q, h1.gp.blk.2, rfl, hq1, by show (S.blocked.map _).length < _; rw [List.length_map, sizeLine_is]; omega, rfl⟩, ?_⟩⟩
        have h2 := h1.blk_mu (bl := putL S.blocked (lk x y))
        rw [← putK_blk] at h2
        exact fin _ (fun _ => rfl) (fun z => absurd e z) h2 _ (fun _ _ _ => rfl)
      · refine ifF (decide_eq_false e) ?_
        refine ⟨_, rfl, _, rfl, h1.rd T.toTxt (i := 3) rfl rfl ⟨A.blk, _, rfl, .inr ⟨_, keyL (lk x y), q, .inl h1.gp.blk.2, rfl, hq1, rfl⟩, _, rfl, ?_⟩⟩
        cases ev2 : valV (blkK S.blocked) (keyL (lk x y)) with
        | none =>
          refine ifF rfl (fin S.blocked (fun z => absurd z e) (fun _ => ?_) h1 _ (fun _ _ _ => rfl))
          have := valV_blkK (lk x y) S.blocked
          rw [show [Sum.inl (lk x y).1, Sum.inl (lk x y).2] = keyL (lk x y) from rfl, ev2] at this
          have nm : lk x y ∉ S.blocked := of_decide_eq_false this.symm
          exact (List.filter_eq_self.mpr fun z hz => decide_eq_true (show z ≠ lk x y from fun y2 => nm (y2 ▸ hz))).symm
        | some v =>
          refine ifT rfl ?_
          refine ⟨_, rfl, h1.rd T.toTxt (i := 3) rfl rfl ⟨.inr (.inr (.inl ⟨rfl, .inr ⟨_, h1.gp.blk.2⟩⟩)), _, rfl, A.blk, _, keyL (lk x y), q, v, rfl, rfl, h1.gp.blk.2, hq1, ev2, ?_⟩⟩
          have h2 := h1.blk_mu (bl := S.blocked.filter fun z => decide (z ≠ lk x y))
          rw [← dropK_blk] at h2
          exact fin _ (fun z => absurd z e) (fun _ => rfl) h2 _ (fun _ _ _ => rfl)
    · refine ⟨_, rfl, a, _, _, _, rfl, rfl, .of ha, e0, _, rfl, in_ints (.of hev) ⟨_, rfl, ?_⟩⟩
      cases c1 : S.c.everyone.contains x with
      | false => rw [c1] at fin; exact ifF rfl fin
      | true =>
        rw [c1, Bool.true_and] at fin
        refine ifT rfl ⟨_, rfl, a, _, _, _, rfl, rfl, .of ha, e1, _, rfl, in_ints (.of hev) ⟨_, rfl, ?_⟩⟩
        cases c2 : S.c.everyone.contains y with
        | false => rw [c2] at fin; exact ifF rfl fin
        | true =>
          rw [c2, Bool.true_and] at fin
          refine ifT rfl ⟨_, rfl, a, _, _, _, rfl, rfl, .of ha, e0, _, rfl, a, _, _, _, rfl, rfl, .of ha, e1, rfl, ?_⟩
          rw [vint_eq]
          exact fin
end
end Lp
/-! Part P7: what is done to a group: act. -/
namespace Lp
open PySem PySem.Spec PyProof.Rows L2
section
open VbrcCore VbrcafPlay
theorem map_erase {α β : Type} (f : α → β) : ∀ (l : List α) (k : Nat), (l.map f).eraseIdx k = (l.eraseIdx k).map f
  | [], _ => rfl
  | a :: l, 0 => rfl
  | a :: l, k + 1 => by
    show f a :: (l.map f).eraseIdx k = f a :: (l.eraseIdx k).map f
    rw [map_erase f l k]
theorem wts_erase : ∀ (l : List Message) (k : Nat), wts (l.eraseIdx k) ≤ wts l
  | [], _ => Nat.le_refl _
  | a :: l, 0 => by show wts l ≤ wtB a.body + wts l; omega
  | a :: l, k + 1 => by
    have := wts_erase l k
    show wtB a.body + wts (l.eraseIdx k) ≤ wtB a.body + wts l
    omega
def erased (g : Group) (k : Nat) : Group := ⟨g.config, g.nodes, g.net.eraseIdx k⟩
theorem erased_ok {g : Group} (h : GOk g) (k : Nat) : GOk (erased g k) := ⟨h.ids, h.asc, h.h9, h.pos, h.nodes, fun m hm => h.net m (List.mem_of_mem_eraseIdx hm)⟩
theorem erased_pot (g : Group) (k : Nat) : pot (erased g k) ≤ pot g := by
  have := wts_erase g.net k
  show sumPhi g.nodes + wts (g.net.eraseIdx k) ≤ sumPhi g.nodes + wts g.net
  omega
/-- what an operation of the group does: r, by its number and its first argument -/
def ActIs (bk : List (Nat × Nat)) (g : Group) (num : Int) (z : Nat) (r : Group × VbrcafPlay.Seen) : Prop :=
  (num = 2 ∧ ∃ m, g.net[z]? = some m ∧ r = arrive (erased g z) m) ∨ (num = 3 ∧ ∃ m, g.net[z]? = some m ∧ r = arrive g m) ∨ (num = 4 ∧ z < g.net.length ∧ r = (erased g z, nothing)) ∨
  (num = 10 ∧ z ≤ 8 ∧ r = rounds bk z (g, nothing)) ∨ (num = 11 ∧ z ≤ 40 ∧ r = advance bk z (g, nothing))
theorem act_ok {bk : List (Nat × Nat)} {g : Group} {num : Int} {z : Nat} {r : Group × VbrcafPlay.Seen} (ok : GOk g) (h : ActIs bk g num z r) : Wf g.config r (pot g + 34920) := by
  have w0 : Wf g.config (g, nothing) (pot g) := ⟨ok, rfl, Nat.le_refl _⟩
  rcases h with ⟨_, m, hm, rfl⟩ | ⟨_, m, hm, rfl⟩ | ⟨_, _, rfl⟩ | ⟨_, h8, rfl⟩ | ⟨_, h8, rfl⟩
  · have mo := ok.net m (List.mem_of_getElem? hm)
    obtain ⟨p1, p2, p3⟩ := arrive_ok (erased_ok ok z) (m := m) mo
    refine ⟨p1, p2, ?_⟩
    have := erased_pot g z
    have : wtB m.body ≤ 1000 := by cases m.body <;> exact Nat.le_of_ble_eq_true rfl
    omega
  · have mo := ok.net m (List.mem_of_getElem? hm)
    obtain ⟨p1, p2, p3⟩ := arrive_ok ok mo
    refine ⟨p1, p2, ?_⟩
    have : wtB m.body ≤ 1000 := by cases m.body <;> exact Nat.le_of_ble_eq_true rfl
    omega
  · exact ⟨erased_ok ok z, rfl, by have := erased_pot g z; show pot (erased g z) + 0 ≤ _; omega⟩
  · have z1 := rounds_ok (bl := bk) w0 z
    exact ⟨z1.ok, z1.cfg, Nat.le_trans z1.pot (by omega)⟩
  · have z1 := advance_ok (bl := bk) w0 z
    exact ⟨z1.ok, z1.cfg, Nat.le_trans z1.pot (by omega)⟩
end
section
variable {P : Program} {w : World} {K : PySem.W.Frag} {mg : Str → Option Value} {base : Heap} {C : Cl} {fI aN aM aP : Addr}
open VbrcCore VbrcafPlay
abbrev s_act : Stmt := top 39
theorem sc_act : FnScope ["group", "number", "args", "turn"] ["group", "number", "args"] (defScope s_act) := ⟨rfl, rfl, rfl, by decide +kernel, rfl, by decide +kernel, by decide +kernel⟩
def spAct (C : Cl) : Sp := fun vs H Q E => ∃ w g S A ps bk, ∃ (num : Int) (a : Addr) (as : List Int) (z : Nat) (r : Group × VbrcafPlay.Seen), vs = [.ref g, .int num, .ref a] ∧ GAt C H w H w g (toG S) A ps [] ∧ H a = some (.lst (as.map V.int)) ∧ w a = none ∧ 1 ≤ as.length ∧ as.getD 0 0 = (z : Int) ∧
  GOk S.g ∧ CfgOk (toC S.g.config) ∧ BlOk S.bl bk ∧ S.tot ≤ 3900000 ∧ z ≤ 1000000000 ∧ ActIs bk S.g num z r ∧ ∀ H' w' A', GAt C H w H' w' g (toG (S.after r)) A' ps [] → Q .non H'
theorem ok_act {f : Addr} {fd : FuncData} (T : TxH K mg C fI aN aM aP) (F : Fun K "act" "act" s_act f fd) (D_Group_arrive : DfM P w K mg base CX0 8 C.g "arrive" ["self", "message"] (spArrive C))
    (D_Group_round : DfM P w K mg base CX0 9 C.g "round" ["self"] (spRound C)) (D_Group_advance : DfM P w K mg base CX0 10 C.g "advance" ["self"] (spAdvance C)) :
    FnOk P w K mg base CX0 11 f fd ["group", "number", "args"] (spAct C) := by
  refine F.ok sc_act (fun vs H Q E h => ?_) (fun cdv A outer s H vs Q E hr h => ?_)
  · obtain ⟨_, _, _, _, _, _, _, _, _, _, _, rfl, _⟩ := h
    rfl
  · refine ⟨_, (pss_one (ps_if (pt_cmpR op_eq (pv 1) pe_int (nomark _))
        (pss_one (ps_expr (pe_mth (pv 0) T.cl_g D_Group_arrive (hr.mono (by decide)) (pa_cons (pe_bm PySem.F.plainAttrs_list PySem.F.slot_list_pop PySem.F.type_list_pop mt_popAt (pe_fld (pv 0) rfl) (pa_cons (pe_ix ix_list (pv 2) pe_int (fun _ _ => rfl)) pa_nil)) pa_nil))))
        (pss_one (ps_if (pt_cmpR op_eq (pv 1) pe_int (nomark _))
        (pss_one (ps_expr (pe_mth (pv 0) T.cl_g D_Group_arrive (hr.mono (by decide)) (pa_cons (pe_ix ix_list (pe_fld (pv 0) rfl) (pe_ix ix_list (pv 2) pe_int (fun _ _ => rfl)) (fun _ _ => rfl)) pa_nil))))
        (pss_one (ps_if (pt_cmpR op_eq (pv 1) pe_int (nomark _))
        (pss_one (ps_expr (pe_bm PySem.F.plainAttrs_list PySem.F.slot_list_pop PySem.F.type_list_pop mt_popAt (pe_fld (pv 0) rfl) (pa_cons (pe_ix ix_list (pv 2) pe_int (fun _ _ => rfl)) pa_nil))))
        (pss_one (ps_if (pt_cmpR op_eq (pv 1) pe_int (nomark _))
        (pss_one (ps_for PassesOwn.never rfl (pi_range1 rfl T.b_range (pa_cons (pe_ix ix_list (pv 2) pe_int (fun _ _ => rfl)) pa_nil)) (pg_name (i := 3) sc_act.nd rfl (Or.inl rfl))
        (pss_one (ps_expr (pe_mth0 (pv 0) T.cl_g D_Group_round (hr.mono (by decide)))))))
        (pss_one (ps_for PassesOwn.never rfl (pi_range1 rfl T.b_range (pa_cons (pe_ix ix_list (pv 2) pe_int (fun _ _ => rfl)) pa_nil)) (pg_name (i := 3) sc_act.nd rfl (Or.inl rfl))
        (pss_one (ps_expr (pe_mth0 (pv 0) T.cl_g D_Group_advance (hr.mono (by decide))))))))))))))), ?_⟩
    obtain ⟨w, g, S, A, ps, bk, num, a, as, z, r, rfl, h, ha, hwa, l1, ez, ok, hc, hbl, ht, hz, hact, k⟩ := h
    have ei := at_ints (i := 0) l1
    rw [ez] at ei
    obtain ⟨vs, hvs, rvs⟩ := h.gp.way.lst
    have wf0 : Wf S.g.config (S.g, nothing) (pot S.g) := ⟨ok, rfl, Nat.le_refl _⟩
    have tot0 : S.tot = pot S.g + S.log.length := rfl
    -- a message at the place z
    have place : ∀ m, S.g.net[z]? = some m → ∃ (t : Addr) (j : Nat), vs[z]? = some (.ref t) ∧ H t = some (.tup ((messageRow m).map V.int)) ∧ seqIndex? (z : Int) vs.length = some z ∧ atI vs (z : Int) = some (.ref t) := fun m hm => by
      obtain ⟨x, hx, t, rfl, htu⟩ := pr_get' (i := z) (y := messageRow m) rvs (by show (S.g.net.map messageRow)[z]? = _; rw [List.getElem?_map, hm]; rfl)
      have e1 := atI_nat (j := z) hx
      obtain ⟨j, h1, h2, h3, _, _⟩ := atI_get e1
      have lt : z < vs.length := (List.getElem?_eq_some_iff.mp hx).1
      have : j = z := by
        have e3 : seqIndex? (z : Int) vs.length = some z := by
          have := (ixN_seq (n := vs.length) (i := (z : Int)) (j := z) (by unfold ixN; rw [if_pos (Int.natCast_nonneg z), if_pos (by omega), Int.toNat_natCast])).1
          exact this
        rw [e3] at h1
        exact (Option.some.inj h1).symm
      subst this
      exact ⟨t, 0, hx, htu, h1, e1⟩
    rcases hact with ⟨rfl, m, hm, rfl⟩ | ⟨rfl, m, hm, rfl⟩ | ⟨rfl, lz, rfl⟩ | ⟨rfl, h8, rfl⟩ | ⟨rfl, h8, rfl⟩
    · obtain ⟨t, _, hx, htu, h1, e1⟩ := place m hm
      refine ⟨_, rfl, rfl, _, rfl, ifT rfl ?_⟩
      refine ⟨_, rfl, h.meth (by decide +kernel) ⟨_, rfl, h.rd T.toTxt (i := 2) rfl rfl ⟨.inl ⟨rfl, _, .of hvs⟩, _, rfl, a, _, _, _, rfl, rfl, .of ha, ei, A.way, vs, _, z, _, rfl, rfl, hvs, by omega, by omega, h1, hx, ?_⟩⟩⟩
      have h2 := h.way_mu (xs := (S.g.net.map messageRow).eraseIdx z) hvs (pr_eraseIdx z rvs)
      rw [map_erase] at h2
      have h2 : GAt C H w _ w g (toG ⟨erased S.g z, S.log, S.sent, S.bl⟩) A ps [] := h2
      have mo := ok.net m (List.mem_of_getElem? hm)
      refine ⟨w, g, t, _, A, ps, m, rfl, (tk_upd hvs fun _ z => by cases z) _ _ htu, h2.here, erased_ok ok z, hc, mo, ?_, fun H3 w3 h3 => ?_⟩
      · have := erased_pot S.g z
        show pot (erased S.g z) + S.log.length ≤ _
        omega
      · exact k _ _ _ (h2.then h3)
    · obtain ⟨t, _, hx, htu, h1, e1⟩ := place m hm
      refine ⟨_, rfl, rfl, _, rfl, ifF rfl ?_⟩
      refine ⟨_, rfl, rfl, _, rfl, ifT rfl ?_⟩
      refine ⟨_, rfl, h.meth (by decide +kernel) ⟨_, rfl, h.rd T.toTxt (i := 2) rfl rfl ⟨_, rfl, a, _, _, _, rfl, rfl, .of ha, ei, A.way, vs, _, _, rfl, rfl, .of hvs, e1, ?_⟩⟩⟩
      have mo := ok.net m (List.mem_of_getElem? hm)
      exact ⟨w, g, t, _, A, ps, m, rfl, htu, h, ok, hc, mo, by omega, fun H3 w3 h3 => k _ _ _ h3⟩
    · obtain ⟨m, hm⟩ : ∃ m, S.g.net[z]? = some m := ⟨_, List.getElem?_eq_getElem lz⟩
      obtain ⟨t, _, hx, htu, h1, e1⟩ := place m hm
      refine ⟨_, rfl, rfl, _, rfl, ifF rfl ?_⟩
      refine ⟨_, rfl, rfl, _, rfl, ifF rfl ?_⟩
      refine ⟨_, rfl, rfl, _, rfl, ifT rfl ?_⟩
      refine ⟨_, rfl, h.rd T.toTxt (i := 2) rfl rfl ⟨.inl ⟨rfl, _, .of hvs⟩, _, rfl, a, _, _, _, rfl, rfl, .of ha, ei, A.way, vs, _, z, _, rfl, rfl, hvs, by omega, by omega, h1, hx, ?_⟩⟩
      have h2 := h.way_mu (xs := (S.g.net.map messageRow).eraseIdx z) hvs (pr_eraseIdx z rvs)
      rw [map_erase] at h2
      refine k _ w A ?_
      have e : S.after (erased S.g z, nothing) = ⟨erased S.g z, S.log, S.sent, S.bl⟩ := by unfold GS.after nothing; simp
      rw [e]
      exact h2
    · refine ⟨_, rfl, rfl, _, rfl, ifF rfl ?_⟩
      refine ⟨_, rfl, rfl, _, rfl, ifF rfl ?_⟩
      refine ⟨_, rfl, rfl, _, rfl, ifF rfl ?_⟩
      refine ⟨_, rfl, rfl, _, rfl, ifT rfl ?_⟩
      refine ⟨_, rfl, a, _, _, _, rfl, rfl, .of ha, ei, (z : Int), rfl, by omega, by omega, for_range (lo := 0) (n := ((z : Int)).toNat) (fun j σ H' => ∃ x w' A', σ = [some (.ref g), some (.int 10), some (.ref a), x] ∧ GAt C H w H' w' g (toG (S.after (rounds bk j (S.g, nothing)))) A' ps []) ⟨none, w, A, rfl, by rw [show rounds bk 0 (S.g, nothing) = (S.g, nothing) from rfl, GS.after_nothing]; exact h⟩ ?_ ?_⟩
      · rintro j σ H' hj ⟨x, w1, A1, rfl, h⟩
        rw [Int.toNat_natCast] at hj
        have wf := rounds_ok (bl := bk) wf0 j
        refine ⟨_, rfl, h.meth (by decide +kernel) ⟨w1, g, _, A1, ps, bk, rfl, h.here, wf.ok, by rw [after_cfg wf.cfg]; exact hc, hbl, ?_, fun H2 w2 A2 h2 => ?_⟩⟩
        · rw [GS.after_tot]
          have := wf.pot
          omega
        · refine ⟨_, w2, A2, rfl, ?_⟩
          rw [rounds_succ, GS.after_andThen]
          exact h.then h2
      · rintro σ H' ⟨x, w1, A1, rfl, h⟩
        rw [Int.toNat_natCast] at h
        exact k _ _ _ h
    · refine ⟨_, rfl, rfl, _, rfl, ifF rfl ?_⟩
      refine ⟨_, rfl, rfl, _, rfl, ifF rfl ?_⟩
      refine ⟨_, rfl, rfl, _, rfl, ifF rfl ?_⟩
      refine ⟨_, rfl, rfl, _, rfl, ifF rfl ?_⟩
      refine ⟨_, rfl, a, _, _, _, rfl, rfl, .of ha, ei, (z : Int), rfl, by omega, by omega, for_range (lo := 0) (n := ((z : Int)).toNat) (fun j σ H' => ∃ x w' A', σ = [some (.ref g), some (.int 11), some (.ref a), x] ∧ GAt C H w H' w' g (toG (S.after (advance bk j (S.g, nothing)))) A' ps []) ⟨none, w, A, rfl, by rw [show advance bk 0 (S.g, nothing) = (S.g, nothing) from rfl, GS.after_nothing]; exact h⟩ ?_ ?_⟩
      · rintro j σ H' hj ⟨x, w1, A1, rfl, h⟩
        rw [Int.toNat_natCast] at hj
        have wf := advance_ok (bl := bk) wf0 j
        refine ⟨_, rfl, h.meth (by decide +kernel) ⟨w1, g, _, A1, ps, bk, rfl, h.here, wf.ok, by rw [after_cfg wf.cfg]; exact hc, hbl, ?_, fun H2 w2 A2 h2 => ?_⟩⟩
        · rw [GS.after_tot]
          have := wf.pot
          omega
        · refine ⟨_, w2, A2, rfl, ?_⟩
          rw [advance_succ]
          unfold advanced
          rw [after_rounds]
          exact h.then h2
      · rintro σ H' ⟨x, w1, A1, rfl, h⟩
        rw [Int.toNat_natCast] at h
        exact k _ _ _ h
end
end Lp
/-! Part P8: what is done to a member: act_member. -/
namespace Lp
open PySem PySem.Spec PyProof.Rows L2
theorem call_viaS {sp : Sp} {E : XK} {te : TE} {ta : TA} {u : TS} {D : Ends} {σ : L2.St} {H : Hp} (v : V) (hq : ∀ H2, Same H H2 → ta σ H2 fun vs H3 => sp ((v :: vs) ++ []) H3 (fun _ H' => u D σ H') E)
    (ht : (∀ H2, Same H H2 → ta σ H2 fun vs H3 => sp ((v :: vs) ++ []) H3 (fun _ H' => u D σ H') E) → tSeq (tDrop (tCall sp [] E (tCons te ta))) u D σ H) : tSeq (tDrop (tCall sp [] E (tCons te ta))) u D σ H := ht hq
theorem iN_getD (ns : List Nat) (i : Nat) : (iN ns).getD i 0 = ((ns.getD i 0 : Nat) : Int) := by
  unfold iN
  rw [List.getD_eq_getElem?_getD, List.getD_eq_getElem?_getD, List.getElem?_map]
  cases ns[i]? <;> rfl
section
variable {P : Program} {w : World} {K : PySem.W.Frag} {mg : Str → Option Value} {base : Heap} {C : Cl} {fI aN aM aP : Addr}
open VbrcCore VbrcafPlay
abbrev s_act_member : Stmt := top 40
theorem sc_act_member : FnScope ["group", "number", "args", "member", "turn"] ["group", "number", "args"] (defScope s_act_member) := ⟨rfl, rfl, rfl, by decide +kernel, rfl, by decide +kernel, by decide +kernel⟩
def spActMember (C : Cl) : Sp := fun vs H Q E => ∃ w g S A ps, ∃ (num : Int) (a : Addr) (ns : List Nat) (i : Nat) (n : VbrcafPlay.Node) (r : Group × VbrcafPlay.Seen), vs = [.ref g, .int num, .ref a] ∧ GAt C H w H w g (toG S) A ps [] ∧ H a = some (.lst ((iN ns).map V.int)) ∧ w a = none ∧
  GOk S.g ∧ CfgOk (toC S.g.config) ∧ S.tot ≤ 3900000 ∧ S.g.nodes[i]? = some n ∧ ns.getD 0 0 = n.id ∧ MemIs S.g n num ns r ∧ (r.2.code < 0 → Rf C H E r.2.code) ∧ (¬ r.2.code < 0 → ∀ H' w' A', GAt C H w H' w' g (toG (S.after r)) A' ps [] → Q .non H')
theorem ok_act_member {f : Addr} {fd : FuncData} (T : TxH K mg C fI aN aM aP) (F : Fun K "act_member" "act_member" s_act_member f fd) (D_need : DfX P w K mg base 1 "need" ["test", "code"] (spNeed C)) (D_running_member : DfX P w K mg base 2 "running_member" ["group", "number"] (spRunMember C))
    (D_Member_start : DfM P w K mg base CX0 2 C.m "start" ["self"] (spMt C R_start)) (D_Member_stop : DfM P w K mg base CX0 2 C.m "stop" ["self", "count"] (spMt C R_stop))
    (D_Member_is_reached_by : DfM P w K mg base CX0 1 C.m "is_reached_by" ["self", "index", "term"] (spMb C R_reached)) (D_Member_hand_over : DfM P w K mg base CX0 2 C.m "hand_over" ["self", "target"] (spMt C R_handOver))
    (D_Configuration_votes : DfM P w K mg base CX0 1 C.c "votes" ["self", "number"] (spBl (R_votes C)))
    (D_Group_tick : DfM P w K mg base CX0 7 C.g "tick" ["self", "member"] (spTick C)) (D_Group_carry_out : DfM P w K mg base CX0 7 C.g "carry_out" ["self", "member", "count"] (spSync C)) (D_Group_gather : DfM P w K mg base CX0 1 C.g "gather" ["self", "member"] (spGather C)) :
    FnOk P w K mg base (L2.CX P w) 8 f fd ["group", "number", "args"] (spActMember C) := by
  refine F.okX sc_act_member (fun vs H Q E h => ?_) (fun cdv A outer s H vs Q E hr h => ?_)
  · obtain ⟨_, _, _, _, _, _, _, _, _, _, _, rfl, _⟩ := h
    rfl
  · refine ⟨_, (pss_cons (ps_if (pt_cmpR op_eq (pv 1) pe_int (nomark _))
        (pss_cons (ps_set (i := 3) sc_act_member.nd rfl (Or.inl rfl) (pe_dget (hu_of hr) (pe_fld (pv 0) rfl) (pe_ix ix_list (pv 2) pe_int (fun _ _ => rfl)) (fun _ _ => rfl)))
      (pss_cons (ps_expr (pe_calX D_need (hr.mono (by decide)) rfl (pa_cons (pe_not (pe_fld (pv 3) rfl)) (pa_cons (pe_un un_neg pe_int) pa_nil))))
      (pss_cons (ps_expr (pe_mth0 (pv 3) T.cl_m D_Member_start (hr.mono (by decide))))
      (pss_one ps_retN))))
        pss_nil)
      (pss_cons (ps_set (i := 3) sc_act_member.nd rfl (Or.inl rfl) (pe_calX D_running_member (hr.mono (by decide)) rfl (pa_cons (pv 0) (pa_cons (pe_ix ix_list (pv 2) pe_int (fun _ _ => rfl)) pa_nil))))
      (pss_one (ps_if (pt_cmpR op_eq (pv 1) pe_int (nomark _))
        (pss_one (ps_for (passes_of rfl) rfl (pi_range1 rfl T.b_range (pa_cons (pe_ix ix_list (pv 2) pe_int (fun _ _ => rfl)) pa_nil)) (pg_name (i := 4) sc_act_member.nd rfl (Or.inl rfl))
        (pss_one (ps_expr (pe_mth (pv 0) T.cl_g D_Group_tick (hr.mono (by decide)) (pa_cons (pv 3) pa_nil))))))
        (pss_one (ps_if (pt_cmpR op_eq (pv 1) pe_int (nomark _))
        (pss_one (ps_expr (pe_mth (pv 0) T.cl_g D_Group_carry_out (hr.mono (by decide)) (pa_cons (pv 3) (pa_cons (pe_ix ix_list (pv 2) pe_int (fun _ _ => rfl)) pa_nil)))))
        (pss_one (ps_if (pt_cmpR op_eq (pv 1) pe_int (nomark _))
        (pss_one (ps_expr (pe_mth (pv 3) T.cl_m D_Member_stop (hr.mono (by decide)) (pa_cons (pe_ix ix_list (pv 2) pe_int (fun _ _ => rfl)) pa_nil))))
        (pss_one (ps_if (pt_cmpR op_eq (pv 1) pe_int (nomark _))
        (pss_cons (ps_expr (pe_calX D_need (hr.mono (by decide)) rfl (pa_cons (pe_and (pe_mth (pv 3) T.cl_m D_Member_is_reached_by (hr.mono (by decide)) (pa_cons (pe_ix ix_list (pv 2) pe_int (fun _ _ => rfl)) (pa_cons (pe_ix ix_list (pv 2) pe_int (fun _ _ => rfl)) pa_nil))) (pe_one (pe_cmpR op_le (pe_ix ix_list (pv 2) pe_int (fun _ _ => rfl)) (pe_ix ix_tup (pe_fld (pv 3) rfl) pe_int (fun _ _ => rfl)) (nomark _)))) (pa_cons (pe_un un_neg pe_int) pa_nil))))
      (pss_one (ps_fld (pv 3) (pe_tup (pa_cons (pe_ix ix_list (pv 2) pe_int (fun _ _ => rfl)) (pa_cons (pe_ix ix_list (pv 2) pe_int (fun _ _ => rfl)) pa_nil))) rfl)))
        (pss_cons (ps_expr (pe_calX D_need (hr.mono (by decide)) rfl (pa_cons (pe_cmpR op_eq (pe_fld (pv 3) rfl) (pe_const rfl T.k_LEADER) (nomark _)) (pa_cons (pe_un un_neg pe_int) pa_nil))))
      (pss_cons (ps_expr (pe_calX D_need (hr.mono (by decide)) rfl (pa_cons (pe_and (pe_cmpR op_ne (pe_ix ix_list (pv 2) pe_int (fun _ _ => rfl)) (pe_ix ix_list (pv 2) pe_int (fun _ _ => rfl)) (nomark _)) (pe_one (pe_mth (pe_fld (pv 0) rfl) T.cl_c D_Configuration_votes (hr.mono (by decide)) (pa_cons (pe_ix ix_list (pv 2) pe_int (fun _ _ => rfl)) pa_nil)))) (pa_cons (pe_un un_neg pe_int) pa_nil))))
      (pss_cons (ps_expr (pe_mth (pv 3) T.cl_m D_Member_hand_over (hr.mono (by decide)) (pa_cons (pe_ix ix_list (pv 2) pe_int (fun _ _ => rfl)) pa_nil)))
      (pss_one (ps_expr (pe_mth (pv 0) T.cl_g D_Group_gather (hr.mono (by decide)) (pa_cons (pv 3) pa_nil))))))))))))))))), ?_⟩
    obtain ⟨w, g, S, A, ps, num, a, ns, i, n, r, rfl, h, ha, hwa, ok, hc, ht, hi, hid, hmem, k1, k2⟩ := h
    obtain ⟨p, B, hp, b⟩ := h.focus (toM_at hi)
    have nok := ok.nodes n (List.mem_of_getElem? hi)
    have ht4 : S.tot ≤ 4000000 := by omega
    have bd := bd_of nok (Nat.le_trans (pot_node hi) ht4)
    have hv := valV_mdK (m := toM n) h.nd (toM_at hi) hp
    have l1 : 1 ≤ ns.length := by
      rcases hmem with ⟨_, l, _⟩ | ⟨_, l, _⟩ | ⟨_, l, _⟩ | ⟨_, l, _⟩ | ⟨_, l, _⟩ | ⟨_, l, _⟩ <;> omega
    have at_ : ∀ j, j < ns.length → atI ((iN ns).map V.int) (j : Int) = some (.int ((ns.getD j 0 : Nat) : Int)) := fun j hj => by
      have := at_ints (as := iN ns) (i := j) (by rw [iN_length]; exact hj)
      rw [iN_getD] at this
      exact this
    have e0 := at_ 0 l1
    rw [hid] at e0
    refine ⟨_, rfl, rfl, _, rfl, ?_⟩
    rw [vint_eq]
    by_cases e7 : num = 7
    · refine ifT (decide_eq_true e7) ?_
      have er : r = place S.g (restart n) := by
        rcases hmem with ⟨e, _⟩ | ⟨e, _⟩ | ⟨e, _⟩ | ⟨_, _, e⟩ | ⟨e, _⟩ | ⟨e, _⟩
        · omega
        · omega
        · omega
        · rw [e]; exact step_on ok hi _
        · omega
        · omega
      refine ⟨_, rfl, h.rd T.toTxt (i := 1) rfl rfl ⟨_, rfl, a, _, _, _, rfl, rfl, .of ha, e0, A.md, .ref p, rfl, .inl ⟨_, _, .inl h.gp.md.2, rfl, hv.symm⟩, ?_⟩⟩
      refine ⟨_, rfl, b.rd T.toTxt (i := 7) rfl rfl ⟨_, rfl, _, rfl, !n.alive, _, rfl, fun e => ?_, fun e => ?_⟩⟩
      · have al : n.alive = true := by cases q : n.alive with | true => rfl | false => rw [q] at e; cases e
        have e2 : restart n = refuse n invalidCode := by unfold restart; rw [if_pos al]
        rw [er, e2, place_same ok hi] at k1
        exact k1 (by show (-5 : Int) < 0; decide)
      · have al : n.alive = false := by cases q : n.alive with | false => rfl | true => rw [q] at e; cases e
        have e2 : restart n = ⟨{ n with alive := true, elector := ⟨n.stored.term, n.stored.vote, .follower, 0, 0, []⟩ }, [], [], 0⟩ := by unfold restart; rw [if_neg (by rw [al]; exact Bool.false_ne_true)]
        refine ⟨_, rfl, b.md (by decide +kernel) ⟨_, w, p, A.cf, _, _, B, [], _, rfl, b, ⟨rfl, rfl⟩, fun H1 w1 B1 b1 => ?_⟩⟩
        rw [restart_of nok al] at b1
        have h1 := h.unfocus (toM_at hi) hp b1
        have q := quiet_eq ok hi (o := restart n) (restart_out nok al).id (by rw [e2]) (by rw [e2])
        refine k2 ?_ H1 w1 A ?_
        · rw [er, place_eq ok hi (restart_out nok al).id, e2]
          show ¬ (0 : Int) < 0
          decide
        · rw [er, ← q]
          exact h1
    · refine ifF (decide_eq_false e7) ?_
      refine ⟨_, rfl, _, rfl, a, _, _, _, rfl, rfl, .of ha, e0, w, g, S, A, ps, i, n, p, rfl, h, hi, hp, fun al => ?_, fun al => ?_⟩
      · have ec : r.2.code = -1 := by
          have nt : ¬ n.alive = true := by rw [al]; exact Bool.false_ne_true
          rcases hmem with ⟨_, _, t1, _, rfl⟩ | ⟨_, _, rfl⟩ | ⟨_, _, rfl⟩ | ⟨e, _⟩ | ⟨_, _, rfl⟩ | ⟨_, _, rfl⟩
          · obtain ⟨t, e⟩ : ∃ t, ns.getD 1 0 = t + 1 := ⟨ns.getD 1 0 - 1, by omega⟩
            rw [e]
            exact (dead_ticks ok hi al t).1
          · show (onNode S.g n.id _).2.code = -1
            rw [step_on ok hi]
            unfold VbrcafPlay.sync
            rw [if_neg nt, place_same ok hi]
            rfl
          · show (onNode S.g n.id _).2.code = -1
            rw [step_on ok hi]
            unfold crash
            rw [if_neg nt, place_same ok hi]
            rfl
          · exact absurd e e7
          · show (onNode S.g n.id _).2.code = -1
            rw [step_on ok hi]
            unfold position
            rw [if_neg nt, place_same ok hi]
            rfl
          · show (onNode S.g n.id _).2.code = -1
            rw [step_on ok hi]
            unfold handOver
            rw [if_neg nt, place_same ok hi]
            rfl
        rw [ec] at k1
        exact k1 (by decide)
      · rcases hmem with ⟨rfl, l2, t1, t40, er⟩ | ⟨rfl, l2, er⟩ | ⟨rfl, l2, er⟩ | ⟨e, _⟩ | ⟨rfl, l3, er⟩ | ⟨rfl, l2, er⟩
        · -- ticks
          refine ⟨_, rfl, rfl, _, rfl, ifT rfl ?_⟩
          have e1 := at_ 1 (by omega)
          generalize ns.getD 1 0 = t at e1 er t1 t40
          refine ⟨_, rfl, a, _, _, _, rfl, rfl, .of ha, e1, (t : Int), rfl, by omega, by omega, for_range (lo := 0) (n := ((t : Int)).toNat) (fun j σ H' => ∃ x w', σ = [some (.ref g), some (.int 1), some (.ref a), some (.ref p), x] ∧ GAt C H w H' w' g (toG (S.after (steps S.g (List.replicate j (.tick n.id))))) A ps []) ⟨none, w, rfl, by rw [show steps S.g (List.replicate 0 (Step.tick n.id)) = (S.g, nothing) from rfl, GS.after_nothing]; exact h⟩ ?_ ?_⟩
          · rintro j σ H' hj ⟨x, w1, rfl, h⟩
            rw [Int.toNat_natCast] at hj
            obtain ⟨⟨okj, cfgj, pj⟩, ⟨m, hm, hmid, alm⟩, _⟩ := ticks_ok ok hi al j
            refine ⟨_, rfl, h.meth (by decide +kernel) ⟨_, rfl, w1, g, p, _, A, ps, i, m, rfl, h.here, okj, by rw [after_cfg cfgj]; exact hc, hm, hp, alm, ?_, fun H2 w2 h2 => ?_⟩⟩
            · rw [GS.after_tot]
              have : S.tot = pot S.g + S.log.length := rfl
              omega
            · refine ⟨_, w2, rfl, ?_⟩
              have st := step_tick okj hm
              rw [hmid] at st
              rw [steps_succ, GS.after_andThen, st]
              exact h.then h2
          · rintro σ H' ⟨x, w1, rfl, h⟩
            rw [Int.toNat_natCast] at h
            refine k2 ?_ _ _ _ (by rw [er]; exact h)
            rw [er, (ticks_ok ok hi al t).code]
            show ¬ (0 : Int) < 0
            decide
        · -- writes
          refine ⟨_, rfl, rfl, _, rfl, ifF rfl ?_⟩
          refine ⟨_, rfl, rfl, _, rfl, ifT rfl ?_⟩
          have e1 := at_ 1 (by omega)
          have er2 : r = place S.g (VbrcafPlay.sync S.g.config (ns.getD 1 0) n) := er.trans (step_on ok hi _)
          refine ⟨_, rfl, h.meth (by decide +kernel) ⟨_, rfl, _, rfl, a, _, _, _, rfl, rfl, .of ha, e1, w, g, p, S, A, ps, i, n, _, rfl, Int.natCast_nonneg _, h, ok, hc, hi, hp, al, ht4, fun H2 w2 h2 => ?_⟩⟩
          rw [Int.toNat_natCast] at h2
          refine k2 ?_ _ _ _ (by rw [er2]; exact h2)
          rw [er2, place_eq ok hi (sync_out ok.h9 nok al _).id, sync_code al]
          show ¬ (0 : Int) < 0
          decide
        · -- stops
          refine ⟨_, rfl, rfl, _, rfl, ifF rfl ?_⟩
          refine ⟨_, rfl, rfl, _, rfl, ifF rfl ?_⟩
          refine ⟨_, rfl, rfl, _, rfl, ifT rfl ?_⟩
          have e1 := at_ 1 (by omega)
          have er2 : r = place S.g (crash (ns.getD 1 0) n) := er.trans (step_on ok hi _)
          refine ⟨_, rfl, b.md (by decide +kernel) ⟨_, rfl, a, _, _, _, rfl, rfl, .of ha, e1, _, w, p, A.cf, _, _, B, _, _, rfl, b, ⟨_, rfl, Int.natCast_nonneg _, rfl⟩, fun H1 w1 B1 b1 => ?_⟩⟩
          rw [Int.toNat_natCast, crash_of al] at b1
          have h1 := h.unfocus (toM_at hi) hp b1
          have e2 : (crash (ns.getD 1 0) n).sent = [] ∧ (crash (ns.getD 1 0) n).elected = [] ∧ (crash (ns.getD 1 0) n).code = 0 := by unfold crash; rw [if_pos al]; exact ⟨rfl, rfl, rfl⟩
          have q := quiet_eq ok hi (o := crash (ns.getD 1 0) n) (crash_out nok al _).id e2.1 e2.2.1
          refine k2 ?_ H1 w1 A (by rw [er2, ← q]; exact h1)
          rw [er2, place_eq ok hi (crash_out nok al _).id, e2.2.2]
          show ¬ (0 : Int) < 0
          decide
        · exact absurd e e7
        · -- its position
          refine ⟨_, rfl, rfl, _, rfl, ifF rfl ?_⟩
          refine ⟨_, rfl, rfl, _, rfl, ifF rfl ?_⟩
          refine ⟨_, rfl, rfl, _, rfl, ifF rfl ?_⟩
          refine ⟨_, rfl, rfl, _, rfl, ifT rfl ?_⟩
          have e1 := at_ 1 (by omega)
          have e2 := at_ 2 (by omega)
          have er2 : r = place S.g (position (ns.getD 1 0) (ns.getD 2 0) n) := er.trans (step_on ok hi _)
          generalize ns.getD 1 0 = x at e1 er2
          generalize ns.getD 2 0 = y at e2 er2
          have rch : (toM n).reached (x : Int) (y : Int) = isUpToDate n x y := reached_of [] (workOf n) x y
          have ple : decide ((y : Int) ≤ (n.stored.term : Int)) = decide (y ≤ n.stored.term) := decide_eq_decide.mpr (by omega)
          refine call_viaS (.bl (isUpToDate n x y && decide (y ≤ n.stored.term))) (fun H2 s2 => ?_) fun fin => ?_
          · refine ⟨_, rfl, _, _, rfl, fun eb => ?_, fun eb => ?_⟩
            · have ep : position x y n = refuse n invalidCode := by unfold position; rw [if_pos al, eb]; rfl
              rw [er2, ep, place_same ok hi] at k1
              exact (k1 (by show (-5 : Int) < 0; decide)).same s2
            · have ep : position x y n = ⟨{ n with index := x, indexTerm := y }, [], [], 0⟩ := by unfold position; rw [if_pos al, if_pos eb]
              have ha2 := s2 _ _ ha
              refine ⟨_, rfl, a, _, _, _, rfl, rfl, .of ha2, e1, _, rfl, a, _, _, _, rfl, rfl, .of ha2, e2, by show 2 ≤ sizeLine; decide, fun q hq => ?_⟩
              have b2 := (b.same s2).same (same_upd (o := .tup [.int (x : Int), .int (y : Int)]) hq)
              refine ⟨_, rfl, b2.wr T.toTxt (i := 2) rfl ?_⟩
              have bp := b2.parts
              have b3 := b2.put (i := 2) (v := .ref q) (m' := { toM n with position := ((x : Int), (y : Int)) }) (A' := { B with pos := q }) rfl (by decide +kernel) (by decide) rfl rfl ⟨upd_same, bp.2⟩ b2.nm
              have h1 := h.unfocus (toM_at hi) hp b3
              have q := quiet_eq ok hi (o := position x y n) (by rw [ep]) (by rw [ep]) (by rw [ep])
              refine k2 ?_ _ w A ?_
              · rw [er2, place_eq ok hi (by rw [ep]), ep]
                show ¬ (0 : Int) < 0
                decide
              · rw [er2, ← q, ep]
                exact h1
          · refine ⟨_, rfl, b.md (by decide +kernel) ⟨_, rfl, a, _, _, _, rfl, rfl, .of ha, e1, _, rfl, a, _, _, _, rfl, rfl, .of ha, e2, _, w, p, A.cf, _, _, B, _, _, rfl, b, ⟨_, _, rfl, rfl⟩, fun H2 s2 => ⟨_, rfl, ?_⟩⟩⟩
            rw [rch]
            cases c1 : isUpToDate n x y with
            | false => rw [c1] at fin; exact ifF rfl (fin H2 s2)
            | true =>
              rw [c1, Bool.true_and] at fin
              have b2 := b.same s2
              refine ifT rfl ⟨_, rfl, a, _, _, _, rfl, rfl, .of (s2 _ _ ha), e2, _, rfl, b2.rd T.toTxt (i := 3) rfl rfl ⟨B.sto, _, _, _, rfl, rfl, .of b2.parts.2.1, rfl, _, _, rfl, rfl, ?_⟩⟩
              have fin := fin H2 s2
              rw [← ple] at fin
              exact fin
        · -- handing over
          refine ⟨_, rfl, rfl, _, rfl, ifF rfl ?_⟩
          refine ⟨_, rfl, rfl, _, rfl, ifF rfl ?_⟩
          refine ⟨_, rfl, rfl, _, rfl, ifF rfl ?_⟩
          refine ⟨_, rfl, rfl, _, rfl, ifF rfl ?_⟩
          have e1 := at_ 1 (by omega)
          have er2 : r = place S.g (handOver S.g.config (ns.getD 1 0) n) := er.trans (step_on ok hi _)
          generalize ns.getD 1 0 = x at e1 er2
          have eld : decide ((toM n).role = 3) = isLeader n := by unfold isLeader; exact decide_eq_decide.mpr (role_leader n.elector.role)
          unfold handOver at er2
          rw [if_pos al] at er2
          refine ⟨_, rfl, b.rd T.toTxt (i := 10) rfl rfl ⟨rfl, ?_⟩⟩
          rw [vint_eq, eld]
          refine ⟨_, rfl, _, _, rfl, fun e => ?_, fun e => ?_⟩
          · rw [e, if_pos (show (!false) = true from rfl)] at er2
            rw [er2, place_same ok hi] at k1
            exact k1 (by show (-2 : Int) < 0; decide)
          · rw [e, if_neg (by decide)] at er2
            have ev : (otherVoters S.g.config n.id).contains x = (!decide (x = n.id) && isVoter S.g.config x) := target_iff _ _ _
            rw [ev] at er2
            dsimp only
            refine call_viaS (.bl (!decide (x = n.id) && isVoter S.g.config x)) (fun H2 s2 => ?_) fun fin => ?_
            · refine ⟨_, rfl, _, _, rfl, fun eb => ?_, fun eb => ?_⟩
              · rw [eb, if_pos (show (!false) = true from rfl)] at er2
                rw [er2, place_same ok hi] at k1
                exact (k1 (by show (-5 : Int) < 0; decide)).same s2
              · rw [eb, if_neg (by decide)] at er2
                have xm : x ∈ VbrcCore.everyone S.g.config := voter_mem (Bool.and_eq_true _ _ ▸ eb).2
                have b2 := b.same s2
                have h2 := h.same s2
                refine ⟨_, rfl, b2.md (by decide +kernel) ⟨_, rfl, a, _, _, _, rfl, rfl, .of (s2 _ _ ha), e1, _, _, p, A.cf, _, _, B, _, _, rfl, b2.here, ⟨_, rfl, hc, bd, rfl⟩, fun H1 w1 B1 b1 => ?_⟩⟩
                rw [handOver_of nok al x xm] at b1
                have h3 := h2.unfocus (toM_at hi) hp b1
                have hout := handOver_out nok al x xm
                refine ⟨_, rfl, h3.meth (by decide +kernel) ⟨_, rfl, gathered (E := E0) h2 ok hi hp hout (by decide) ht4 b1 fun H' w' h4 => ?_⟩⟩
                refine k2 ?_ _ _ _ (by rw [er2]; exact h4)
                rw [er2, place_eq ok hi hout.id]
                unfold input
                rw [if_pos al, (finish_alive _ _).2]
                show ¬ (0 : Int) < 0
                decide
            · refine ⟨_, rfl, a, _, _, _, rfl, rfl, .of ha, e1, _, rfl, a, _, _, _, rfl, rfl, .of ha, e0, rfl, ?_⟩
              rw [vint_eq]
              have en : decide ((x : Int) = (n.id : Int)) = decide (x = n.id) := decide_eq_decide.mpr (by omega)
              rw [en]
              refine ⟨_, rfl, ?_⟩
              cases c1 : decide (x = n.id) with
              | true => rw [c1] at fin; exact ifF rfl (fin H (same_refl _))
              | false =>
                rw [c1] at fin
                refine ifT rfl ⟨_, rfl, h.rd T.toTxt (i := 0) rfl rfl (h.cf.md (by decide +kernel) ?_)⟩
                refine ⟨_, rfl, a, _, _, _, rfl, rfl, .of ha, e1, _, ⟨w, A.cf, _, _, rfl, h.cf, rfl⟩, fun H2 s2 => ?_⟩
                have fin := fin H2 s2
                rw [Bool.not_false, Bool.true_and] at fin
                rw [show (toG S).c.votes (x : Int) = isVoter S.g.config x from votes_of _ _]
                exact fin
end
end Lp
/-! Part P9: done. -/
namespace Lp
open PySem PySem.Spec PyProof.Rows L2
theorem pe_gref {X : Cx} {x : Str} {a : Addr} {pos : Pos} (hg : Gl X x) (hm : X.mg x = some (.ref a)) (hd : (x == ("__debug__" : Str)) = false := by decide) : PE X (.Name x pos) (tC (.ref a)) := pe_glob (v := .ref a) hg hm rfl hd
theorem GAt.then_ {C : Cl} {H0 H H' : Hp} {w0 w w' : Ow} {g : Addr} {S S' : GM} {A A' : GA} {ps : List Addr} {X : List (Addr × HO)} (h : GAt C H0 w0 H w g S A ps []) (k : GAt C H w H' w' g S' A' ps X) : GAt C H0 w0 H' w' g S' A' ps X :=
  ⟨k.gp, k.cf, k.mbs, k.len, k.nd, k.n0, k.ok, h.fr.trans k.fr, fun q hq => ⟨(k.loc q hq).1, (k.loc q hq).2.1, h.old (k.loc q hq).2.2⟩, k.ndX⟩
theorem notin_tup {K : PySem.W.Frag} {H : Hp} {Q : VK} {n : Int} {a : Addr} {ns : List Int} (h : SqT K H a (ns.map V.int)) (q : Q (.bl (!ns.contains n)) H) : rIn K true (.int n) (.ref a) H Q :=
  ⟨a, _, rfl, .inr h, rfl, flat_ints ns, by rw [inV_int]; exact q⟩
theorem in_tup {K : PySem.W.Frag} {H : Hp} {Q : VK} {n : Int} {a : Addr} {ns : List Int} (h : SqT K H a (ns.map V.int)) (q : Q (.bl (ns.contains n)) H) : rIn K false (.int n) (.ref a) H Q :=
  ⟨a, _, rfl, .inr h, rfl, flat_ints ns, by rw [inV_int]; exact q⟩
theorem isSome_mdK {z : Int} : ∀ {ms : List M} {ps : List Addr}, ps.length = ms.length → (valV (mdK ms ps) (Sum.inl z)).isSome = (ms.map (·.number)).contains z
  | [], _, _ => rfl
  | m :: ms, [], h => by simp at h
  | m :: ms, p :: ps, h => by
    have ih := isSome_mdK (z := z) (ms := ms) (ps := ps) (by simpa using h)
    rw [List.map_cons, List.contains_cons]
    by_cases e : m.number = z
    · rw [show valV (mdK (m :: ms) (p :: ps)) (Sum.inl z) = some (V.ref p) from valV_pos (p := (Sum.inl m.number, V.ref p)) (by rw [e]), e, beq_self_eq_true]
      rfl
    · rw [show valV (mdK (m :: ms) (p :: ps)) (Sum.inl z) = valV (mdK ms ps) (Sum.inl z) from valV_neg (p := (Sum.inl m.number, V.ref p)) fun y => e (Sum.inl.inj y), ih, beq_eq_false_iff_ne.mpr (Ne.symm e), Bool.false_or]
def nums : List Int := [0, 2, 1, 1, 1, 2, 2, 1, 3, 2, 1, 1, 2, 2, 1, 1, 1, 1, 0]
def argc (num : Int) : Nat := (nums.getD num.toNat 0).toNat
def mFirst : List Int := [1, 5, 6, 7, 8, 9, 14, 15, 16]
def places : List Int := [2, 3, 4]
section
open VbrcCore VbrcafPlay
def rowOf (r : Group × VbrcafPlay.Seen) : List Int := [0, ((r.2.sent.length : Nat) : Int), ((r.2.elected.length : Nat) : Int)] ++ pairs (r.2.elected.map fun x => ((x.1 : Int), (x.2 : Int)))
def linkB (c : VbrcCore.Config) (x y : Int) : Bool := (iN (everyone c)).contains x && ((iN (everyone c)).contains y && !decide (x = y))
/-- what is to be shown of an operation: R of a refusal, T of the group and the numbers -/
structure DoneK (S : GS) (bk : List (Nat × Nat)) (num : Int) (as : List Int) (R : Int → Prop) (T : GS → List Int → Prop) : Prop where
  range : inRangeB num as = false → R (-13)
  member : ∀ ns : List Nat, as = iN ns → inRangeB num as = true → num ∈ mFirst → ns.getD 0 0 ∉ everyone S.g.config → R (-11)
  place : ∀ ns : List Nat, as = iN ns → inRangeB num as = true → num ∈ places → ¬ ns.getD 0 0 < S.g.net.length → R (-12)
  nolink : inRangeB num as = true → (num = 12 ∨ num = 13) → linkB S.g.config (as.getD 0 0) (as.getD 1 0) = false → R (-13)
  link : inRangeB num as = true → (num = 12 ∨ num = 13) → linkB S.g.config (as.getD 0 0) (as.getD 1 0) = true → T { S with bl := if num = 12 then putL S.bl (lk (as.getD 0 0) (as.getD 1 0)) else S.bl.filter fun x => decide (x ≠ lk (as.getD 0 0) (as.getD 1 0)) } [0]
  status : ∀ ns : List Nat, as = iN ns → inRangeB num as = true → ∀ (i : Nat) (n : Node), S.g.nodes[i]? = some n → n.id = ns.getD 0 0 → num = 14 → T S (statusM (toM n))
  ballots : ∀ ns : List Nat, as = iN ns → inRangeB num as = true → ∀ (i : Nat) (n : Node), S.g.nodes[i]? = some n → n.id = ns.getD 0 0 → num = 15 → (n.alive = false → R (-1)) ∧ (n.alive = true → T S (ballotsM (toM n)))
  held : ∀ ns : List Nat, as = iN ns → inRangeB num as = true → ∀ (i : Nat) (n : Node), S.g.nodes[i]? = some n → n.id = ns.getD 0 0 → num = 16 → (n.alive = false → R (-1)) ∧ (n.alive = true → T S (heldM (toM n)))
  messages : ∀ ns : List Nat, as = iN ns → inRangeB num as = true → num = 17 → T S (messagesM (toG S) (ns.getD 0 0))
  elections : inRangeB num as = true → num = 18 → T S (electionsM (toG S))
  mem : ∀ ns : List Nat, as = iN ns → inRangeB num as = true → ∀ (i : Nat) (n : Node) (r : Group × VbrcafPlay.Seen), S.g.nodes[i]? = some n → n.id = ns.getD 0 0 → MemIs S.g n num ns r → (r.2.code < 0 → R r.2.code) ∧ (¬ r.2.code < 0 → T (S.after r) (rowOf r))
  act : ∀ ns : List Nat, as = iN ns → inRangeB num as = true → ∀ (r : Group × VbrcafPlay.Seen), ActIs bk S.g num (ns.getD 0 0) r → T (S.after r) (rowOf r)
theorem nats_of {as : List Int} {num : Int} (h : inRangeB num as = true) : ∃ ns : List Nat, as = iN ns ∧ ∀ n ∈ ns, n ≤ 1000000000 := by
  unfold inRangeB at h
  rw [Bool.and_eq_true] at h
  have h1 := List.all_eq_true.mp h.1
  refine ⟨as.map Int.toNat, ?_, fun n hn => ?_⟩
  · unfold iN
    rw [List.map_map]
    refine (List.map_id' as).symm.trans (List.map_congr_left fun x hx => ?_)
    have := h1 x hx
    rw [Bool.and_eq_true] at this
    have := of_decide_eq_true this.1
    show x = ((x.toNat : Nat) : Int)
    omega
  · obtain ⟨x, hx, rfl⟩ := List.mem_map.mp hn
    have := h1 x hx
    rw [Bool.and_eq_true] at this
    have h2 := of_decide_eq_true this.1
    have h3 := of_decide_eq_true this.2
    omega
theorem getD_le {ns : List Nat} (h : ∀ n ∈ ns, n ≤ 1000000000) (i : Nat) : ns.getD i 0 ≤ 1000000000 := by
  rw [List.getD_eq_getElem?_getD]
  cases e : ns[i]? with
  | none => exact Nat.zero_le _
  | some x => exact h x (List.mem_of_getElem? e)
theorem acted_eq (S : GS) (r : Group × VbrcafPlay.Seen) : ([0, (toG (S.after r)).sent - (S.sent : Int), (((toG (S.after r)).log.drop (S.log.length : Int).toNat).length : Int)] ++ pairs ((toG (S.after r)).log.drop (S.log.length : Int).toNat)) = rowOf r := by
  have e1 : (toG (S.after r)).log.drop (S.log.length : Int).toNat = r.2.elected.map fun x => ((x.1 : Int), (x.2 : Int)) := by
    show ((S.log ++ r.2.elected).map _).drop _ = _
    rw [Int.toNat_natCast, List.map_append, List.drop_append_of_le_length (by rw [List.length_map]; exact Nat.le_refl _), List.drop_of_length_le (by rw [List.length_map]; exact Nat.le_refl _)]
    rfl
  have e2 : (toG (S.after r)).sent - (S.sent : Int) = ((r.2.sent.length : Nat) : Int) := by
    show (((S.sent + r.2.sent.length : Nat)) : Int) - (S.sent : Int) = _
    omega
  rw [e1, e2, List.length_map]
  rfl
end
section
variable {P : Program} {w : World} {K : PySem.W.Frag} {mg : Str → Option Value} {base : Heap} {C : Cl} {fI aN aM aP : Addr}
open VbrcCore VbrcafPlay
abbrev s_done : Stmt := top 48
theorem sc_done : FnScope ["group", "number", "args", "sent", "many"] ["group", "number", "args"] (defScope s_done) := ⟨rfl, rfl, rfl, by decide +kernel, rfl, by decide +kernel, by decide +kernel⟩
def spDone (C : Cl) : Sp := fun vs H Q E => ∃ (num : Int) (a : Addr) (as : List Int), 1 ≤ num ∧ num ≤ 18 ∧ as.length = argc num ∧ H a = some (.lst (as.map V.int)) ∧
  ((vs = [.non, .int num, .ref a] ∧ Rf C H E (-10)) ∨
   (∃ w g S A ps bk, vs = [.ref g, .int num, .ref a] ∧ GAt C H w H w g (toG S) A ps [] ∧ w a = none ∧ GOk S.g ∧ CfgOk (toC S.g.config) ∧ BlOk S.bl bk ∧ S.tot ≤ 3800000 ∧ S.bl.length ≤ 100000 ∧
      DoneK S bk num as (fun k => Rf C H E k) (fun S' ns => Ret C H w g (toG S') ps Q ns)))
theorem ok_done {f : Addr} {fd : FuncData} (T : TxH K mg C fI aN aM aP) (F : Fun K "done" "done" s_done f fd) (D_need : DfX P w K mg base 1 "need" ["test", "code"] (spNeed C)) (D_are_in_range : DfG P w K mg base CX0 1 "are_in_range" ["number", "args"] (spBl (R_inRange K)))
    (D_link : DfX P w K mg base 2 "link" ["group", "number", "args"] (spLinkOp C)) (D_asked : DfX P w K mg base 4 "asked" ["group", "number", "args"] (spAsked C)) (D_act_member : DfX P w K mg base 8 "act_member" ["group", "number", "args"] (spActMember C))
    (D_act : DfG P w K mg base CX0 11 "act" ["group", "number", "args"] (spAct C)) (D_acted : DfG P w K mg base CX0 1 "acted" ["group", "sent", "elections"] (spActed C)) :
    FnOk P w K mg base (L2.CX P w) 12 f fd ["group", "number", "args"] (spDone C) := by
  refine F.okX sc_done (fun vs H Q E h => ?_) (fun cdv A outer s H vs Q E hr h => ?_)
  · obtain ⟨_, _, _, _, _, _, _, h⟩ := h
    rcases h with ⟨rfl, _⟩ | ⟨_, _, _, _, _, _, rfl, _⟩ <;> rfl
  · refine ⟨_, (pss_cons (ps_expr (pe_calX D_need (hr.mono (by decide)) rfl (pa_cons (pe_cmpR op_notN (pv 0) pe_non (nomark _)) (pa_cons (pe_un un_neg pe_int) pa_nil))))
      (pss_cons (ps_expr (pe_calX D_need (hr.mono (by decide)) rfl (pa_cons (pe_cal D_are_in_range (hr.mono (by decide)) rfl (pa_cons (pv 1) (pa_cons (pv 2) pa_nil))) (pa_cons (pe_un un_neg pe_int) pa_nil))))
      (pss_cons (ps_expr (pe_calX D_need (hr.mono (by decide)) rfl (pa_cons (pe_or (pe_cmpR op_notIn_seq (pv 1) (pe_gref rfl T.t_MEMBER_FIRST) (by rfl)) (pe_one (pe_cmp (pc_din (hu_of hr) (pe_ix ix_list (pv 2) pe_int (fun _ _ => rfl)) (pe_fld (pv 0) rfl))))) (pa_cons (pe_un un_neg pe_int) pa_nil))))
      (pss_cons (ps_expr (pe_calX D_need (hr.mono (by decide)) rfl (pa_cons (pe_or (pe_cmpR op_notIn_seq (pv 1) (pe_gref rfl T.t_PLACES) (by rfl)) (pe_one (pe_cmpR op_lt (pe_ix ix_list (pv 2) pe_int (fun _ _ => rfl)) (pe_callB call_len_seq (by rfl) T.b_len PySem.boot_len (pa_cons (pe_fld (pv 0) rfl) pa_nil)) (nomark _)))) (pa_cons (pe_un un_neg pe_int) pa_nil))))
      (pss_cons (ps_if (pt_cmpR op_in_seq (pv 1) (pe_tup (pa_cons pe_int (pa_cons pe_int pa_nil))) (by rfl))
        (pss_one (ps_ret (pe_calX D_link (hr.mono (by decide)) rfl (pa_cons (pv 0) (pa_cons (pv 1) (pa_cons (pv 2) pa_nil))))))
        pss_nil)
      (pss_cons (ps_if (pt_cmpR op_gt (pv 1) pe_int (nomark _))
        (pss_one (ps_ret (pe_calX D_asked (hr.mono (by decide)) rfl (pa_cons (pv 0) (pa_cons (pv 1) (pa_cons (pv 2) pa_nil))))))
        pss_nil)
      (pss_cons (ps_par (i := 3) (j := 4) (by rfl) sc_done.nd rfl rfl (by decide) rfl rfl (pa_cons (pe_fld (pv 0) rfl) (pa_cons (pe_callB call_len_seq (by rfl) T.b_len PySem.boot_len (pa_cons (pe_fld (pv 0) rfl) pa_nil)) pa_nil)) (by rfl))
      (pss_cons (ps_if (pt_cmpR op_in_seq (pv 1) (pe_gref rfl T.t_MEMBER_FIRST) (by rfl))
        (pss_one (ps_expr (pe_calX D_act_member (hr.mono (by decide)) rfl (pa_cons (pv 0) (pa_cons (pv 1) (pa_cons (pv 2) pa_nil))))))
        (pss_one (ps_expr (pe_cal D_act (hr.mono (by decide)) rfl (pa_cons (pv 0) (pa_cons (pv 1) (pa_cons (pv 2) pa_nil)))))))
      (pss_one (ps_ret (pe_cal D_acted (hr.mono (by decide)) rfl (pa_cons (pv 0) (pa_cons (pv 3) (pa_cons (pv 4) pa_nil)))))))))))))), ?_⟩
    obtain ⟨num, a, as, n1, n18, hlen, ha, h⟩ := h
    rcases h with ⟨rfl, k⟩ | ⟨w, g, S, A, ps, bk, rfl, h, hwa, ok, hc, hbl, ht, lbl, k⟩
    · refine ⟨_, rfl, rfl, _, rfl, false, _, rfl, fun _ => k, fun e => by cases e⟩
    · refine ⟨_, rfl, rfl, _, rfl, true, _, rfl, (fun e => by cases e), fun _ => ?_⟩
      have hnum : ∃ j : Nat, num = (j : Int) ∧ 1 ≤ j ∧ j ≤ 18 := ⟨num.toNat, by omega, by omega, by omega⟩
      have l1000 : as.length ≤ 1000 := by
        rw [hlen]
        obtain ⟨j, rfl, h1, h2⟩ := hnum
        unfold argc nums
        rw [Int.toNat_natCast]
        have : ∀ j : Nat, j ≤ 18 → ((([0, 2, 1, 1, 1, 2, 2, 1, 3, 2, 1, 1, 2, 2, 1, 1, 1, 1, 0] : List Int).getD j 0).toNat ≤ 1000) := by decide
        exact this j h2
      refine ⟨_, rfl, _, rfl, _, ⟨num, a, as, rfl, .of ha, l1000, fun e => by rw [hlen, e]; decide, fun e => by rw [hlen]; rcases e with e | e <;> (rw [e]; decide), rfl⟩, fun H1 s1 => ⟨_, rfl, _, _, rfl, fun e => (k.range e).same s1, fun hin => ?_⟩⟩
      obtain ⟨ns, ens, hns⟩ := nats_of hin
      have h1 := h.same s1
      have ha1 := s1 _ _ ha
      have kR : ∀ {z : Int}, Rf C H E z → Rf C H1 E z := fun r => r.same s1
      have kT : ∀ {H2 : Hp} {w2 : Ow} {S1 : GM} {A1 : GA} {S' : GS} {zs : List Int}, GAt C H w H2 w2 g S1 A1 ps [] → Ret C H w g (toG S') ps Q zs → Ret C H2 w2 g (toG S') ps Q zs := fun h2 r H' w' A' q hq => r H' w' A' q (h2.then_ hq)
      have emf : (mFirst.contains num = true) ↔ num ∈ mFirst := List.contains_iff_mem
      have epl : (places.contains num = true) ↔ num ∈ places := List.contains_iff_mem
      have ez : as.getD 0 0 = ((ns.getD 0 0 : Nat) : Int) := by rw [ens]; exact iN_getD ns 0
      have lens : ns.length = argc num := by rw [← hlen, ens, iN_length]
      have zle : ns.getD 0 0 ≤ 1000000000 := getD_le hns 0
      have argmf : num ∈ mFirst → 1 ≤ as.length := fun hm => by
        rw [hlen]
        simp only [mFirst, List.mem_cons, List.not_mem_nil, or_false] at hm
        rcases hm with e | e | e | e | e | e | e | e | e <;> (rw [e]; decide)
      have argpl : num ∈ places → 1 ≤ as.length := fun hm => by
        rw [hlen]
        simp only [places, List.mem_cons, List.not_mem_nil, or_false] at hm
        rcases hm with e | e | e <;> (rw [e]; decide)
      have hct : ∀ z : Nat, (iN (VbrcCore.everyone S.g.config)).contains (z : Int) = true ↔ z ∈ VbrcCore.everyone S.g.config := fun z => by rw [iN_contains]; exact List.contains_iff_mem
      obtain ⟨wv, hwv, rwv⟩ := h1.gp.way.lst
      have lwv : wv.length = S.g.net.length := by rw [rwv.length]; exact List.length_map _
      -- the member
      dsimp only
      refine call_via (.bl (!mFirst.contains num || (iN (VbrcCore.everyone S.g.config)).contains (as.getD 0 0))) ?_ fun fin => ?_
      rotate_left
      · refine ⟨_, rfl, ?_⟩
        dsimp only [tC]
        show rIn K true (.int num) (.ref aM) H1 _
        refine notin_tup (T.s_MEMBER_FIRST _) ⟨_, rfl, ?_⟩
        show if (!mFirst.contains num) = true then _ else _
        cases c1 : mFirst.contains num with
        | false => rw [c1] at fin; exact ifT rfl fin
        | true =>
          rw [c1, Bool.not_true, Bool.false_or] at fin
          refine ifF rfl ?_
          have l1 := argmf (emf.mp c1)
          refine ⟨_, rfl, a, _, _, _, rfl, rfl, .of ha1, at_ints (i := 0) l1, _, rfl, h1.rd T.toTxt (i := 1) rfl rfl ⟨A.md, _, rfl, .inl ⟨_, Sum.inl (as.getD 0 0), .inl h1.gp.md.2, rfl, rfl⟩, ?_⟩⟩
          rw [isSome_mdK h1.len, nums_of ok]
          exact fin
      refine ⟨_, rfl, _, _, rfl, fun e => ?_, fun b3 => ?_⟩
      · cases c1 : mFirst.contains num with
        | false => rw [c1] at e; cases e
        | true =>
          rw [c1, Bool.not_true, Bool.false_or, ez] at e
          exact kR (k.member ns ens hin (emf.mp c1) fun z => by rw [(hct _).mpr z] at e; cases e)
      have known : num ∈ mFirst → ∃ (n : VbrcafPlay.Node) (i : Nat), S.g.nodes[i]? = some n ∧ n.id = ns.getD 0 0 := fun hm => by
        rw [emf.mpr hm, Bool.not_true, Bool.false_or, ez] at b3
        obtain ⟨n, i, _, e, hi⟩ := nodeOf_mem ok ((hct _).mp b3)
        exact ⟨n, i, hi, e⟩
      -- the place
      dsimp only
      refine call_via (.bl (!places.contains num || decide (as.getD 0 0 < (S.g.net.length : Int)))) ?_ fun fin => ?_
      rotate_left
      · refine ⟨_, rfl, ?_⟩
        dsimp only [tC]
        show rIn K true (.int num) (.ref aP) H1 _
        refine notin_tup (T.s_PLACES _) ⟨_, rfl, ?_⟩
        show if (!places.contains num) = true then _ else _
        cases c1 : places.contains num with
        | false => rw [c1] at fin; exact ifT rfl fin
        | true =>
          rw [c1, Bool.not_true, Bool.false_or] at fin
          refine ifF rfl ?_
          have l1 := argpl (epl.mp c1)
          refine ⟨_, rfl, a, _, _, _, rfl, rfl, .of ha1, at_ints (i := 0) l1, _, rfl, h1.rd T.toTxt (i := 2) rfl rfl ⟨A.way, _, rfl, .inl (SqL.of hwv), _, _, rfl, rfl, ?_⟩⟩
          rw [lwv]
          exact fin
      refine ⟨_, rfl, _, _, rfl, fun e => ?_, fun b4 => ?_⟩
      · cases c1 : places.contains num with
        | false => rw [c1] at e; cases e
        | true =>
          rw [c1, Bool.not_true, Bool.false_or, ez] at e
          exact kR (k.place ns ens hin (epl.mp c1) fun z => by have := of_decide_eq_false e; omega)
      have placed : num ∈ places → ns.getD 0 0 < S.g.net.length := fun hm => by
        rw [epl.mpr hm, Bool.not_true, Bool.false_or, ez] at b4
        have := of_decide_eq_true b4
        omega
      -- a link
      refine ⟨_, rfl, by show 2 ≤ sizeLine; decide, fun q hq => ?_⟩
      have s2 := same_upd (o := .tup [.int 12, .int 13]) hq
      refine in_tup (ns := [12, 13]) (.of upd_same) ⟨_, rfl, ?_⟩
      have h2 := h1.same s2
      have ha2 := s2 _ _ ha1
      have hwv2 := s2 _ _ hwv
      have kR2 : ∀ {z : Int}, Rf C H E z → Rf C (upd H1 q (.tup [.int 12, .int 13])) E z := fun r => (kR r).same s2
      clear hwv rwv
      revert h2 ha2 hwv2 kR2
      generalize upd H1 q (.tup [.int 12, .int 13]) = H2
      intro h2 ha2 hwv2 kR2
      have e12 : ([12, 13] : List Int).contains num = decide (num = 12 ∨ num = 13) := by
        rw [List.contains_eq_mem]
        exact decide_eq_decide.mpr (by simp)
      rw [e12]
      by_cases c12 : num = 12 ∨ num = 13
      · refine ifT (decide_eq_true c12) ?_
        have l2 : 2 ≤ as.length := by rw [hlen]; rcases c12 with e | e <;> (rw [e]; decide)
        exact ⟨_, rfl, _, rfl, _, rfl, w, g, toG S, A, ps, num, a, as, rfl, h2.here, ha2, hwa, l2, lbl, fun e => kR2 (k.nolink hin c12 e), fun e => kT h2 (k.link hin c12 e)⟩
      refine ifF (decide_eq_false c12) ?_
      -- what is asked
      refine ⟨_, rfl, _, _, rfl, rfl, _, rfl, ?_⟩
      by_cases c13 : 13 < num
      · refine ifT (decide_eq_true c13) ?_
        refine ⟨_, rfl, _, rfl, _, rfl, w, g, S, A, ps, num, a, as, rfl, h2.here, ha2, hwa, ok, by omega, ?_⟩
        by_cases c17 : num = 17
        · refine .inr (.inl ⟨c17, by rw [hlen, c17]; decide, by rw [ez]; exact Int.natCast_nonneg _, ?_⟩)
          rw [ez, Int.toNat_natCast]
          exact kT h2 (k.messages ns ens hin c17)
        · by_cases c18 : num = 18
          · exact .inr (.inr ⟨c18, kT h2 (k.elections hin c18)⟩)
          · have hm : num ∈ mFirst := by
              have : num = 14 ∨ num = 15 ∨ num = 16 := by omega
              rcases this with e | e | e <;> (rw [e]; decide)
            obtain ⟨n, i, hi, hid⟩ := known hm
            refine .inl ⟨i, n, argmf hm, hi, by rw [ez, hid], ?_⟩
            by_cases c14 : num = 14
            · exact .inl ⟨c14, kT h2 (k.status ns ens hin i n hi hid c14)⟩
            · by_cases c15 : num = 15
              · obtain ⟨k1, k2⟩ := k.ballots ns ens hin i n hi hid c15
                exact .inr (.inl ⟨c15, fun e => kR2 (k1 e), fun e => kT h2 (k2 e)⟩)
              · have c16 : num = 16 := by omega
                obtain ⟨k1, k2⟩ := k.held ns ens hin i n hi hid c16
                exact .inr (.inr ⟨c16, fun e => kR2 (k1 e), fun e => kT h2 (k2 e)⟩)
      refine ifF (decide_eq_false c13) ?_
      -- what is done
      obtain ⟨lv, hlv, rlv⟩ := h2.gp.log.lst
      have llv : lv.length = S.log.length := by rw [rlv.length]; exact List.length_map _
      refine ⟨_, rfl, h2.rd T.toTxt (i := 5) rfl rfl ⟨_, rfl, h2.rd T.toTxt (i := 4) rfl rfl ⟨A.log, _, rfl, .inl (SqL.of hlv), _, _, rfl, ?_⟩⟩⟩
      rw [llv]
      dsimp only
      refine seq_via (fun σ' H' => ∃ w' A' r, σ' = [some (.ref g), some (.int num), some (.ref a), some (.int (S.sent : Int)), some (.int (S.log.length : Int))] ∧ GAt C H w H' w' g (toG (S.after r)) A' ps [] ∧ Wf S.g.config r (pot S.g + 34920) ∧ Ret C H w g (toG (S.after r)) ps Q (rowOf r)) ?_ fun go => ?_
      · rintro σ' H3 ⟨w3, A3, r, rfl, h3, wf, rt⟩
        refine ⟨_, rfl, _, rfl, _, rfl, w3, g, _, A3, ps, _, _, rfl, h3.here, Int.natCast_nonneg _, ?_, ?_⟩
        · show ((S.log ++ r.2.elected).map _).length ≤ _
          rw [List.length_map, List.length_append]
          have := wf.pot
          have : S.tot = pot S.g + S.log.length := rfl
          omega
        · rw [acted_eq S r]
          exact kT h3 rt
      · refine ⟨_, rfl, ?_⟩
        dsimp only [tC]
        show rIn K false (.int num) (.ref aM) H2 _
        refine in_tup (T.s_MEMBER_FIRST _) ⟨_, rfl, ?_⟩
        show if mFirst.contains num = true then _ else _
        have hr1 : ∀ z, inRangeB num as = true → num = z → inRangeB z as = true := fun z h e => e ▸ h
        cases c1 : mFirst.contains num with
        | true =>
          refine ifT rfl ?_
          have hm := emf.mp c1
          obtain ⟨n, i, hi, hid⟩ := known hm
          obtain ⟨r, hr⟩ : ∃ r, MemIs S.g n num ns r := by
            simp only [mFirst, List.mem_cons, List.not_mem_nil, or_false] at hm
            have n14 : num ≠ 14 ∧ num ≠ 15 ∧ num ≠ 16 := ⟨by omega, by omega, by omega⟩
            rcases hm with e | e | e | e | e | e | e | e | e
            · have lt := hr1 1 hin e
              unfold inRangeB at lt
              rw [Bool.and_eq_true, if_pos rfl, Bool.and_eq_true] at lt
              have t1 := of_decide_eq_true lt.2.1
              have t2 := of_decide_eq_true lt.2.2
              rw [show as.getD 1 0 = ((ns.getD 1 0 : Nat) : Int) by rw [ens]; exact iN_getD ns 1] at t1 t2
              exact ⟨_, (.inl ⟨e, by rw [lens, e]; decide, by omega, by omega, rfl⟩)⟩
            · exact ⟨_, (.inr (.inl ⟨e, by rw [lens, e]; decide, rfl⟩))⟩
            · exact ⟨_, (.inr (.inr (.inl ⟨e, by rw [lens, e]; decide, rfl⟩)))⟩
            · exact ⟨_, (.inr (.inr (.inr (.inl ⟨e, by rw [lens, e]; decide, rfl⟩))))⟩
            · exact ⟨_, (.inr (.inr (.inr (.inr (.inl ⟨e, by rw [lens, e]; decide, rfl⟩)))))⟩
            · exact ⟨_, (.inr (.inr (.inr (.inr (.inr ⟨e, by rw [lens, e]; decide, rfl⟩)))))⟩
            · exact absurd e n14.1
            · exact absurd e n14.2.1
            · exact absurd e n14.2.2
          obtain ⟨k1, k2⟩ := k.mem ns ens hin i n r hi hid hr
          refine ⟨_, rfl, _, rfl, _, rfl, w, g, S, A, ps, num, a, ns, i, n, r, rfl, h2.here, by rw [← ens]; exact ha2, hwa, ok, hc, by omega, hi, hid.symm, hr, fun e => kR2 (k1 e), fun e H3 w3 A3 h3 => ?_⟩
          exact go _ _ ⟨w3, A3, r, rfl, h2.then_ h3, mem_ok ok hi hr (by omega), k2 e⟩
        | false =>
          refine ifF rfl ?_
          have nm : num ∉ mFirst := fun z => by rw [emf.mpr z] at c1; cases c1
          have cases5 : num = 2 ∨ num = 3 ∨ num = 4 ∨ num = 10 ∨ num = 11 := by
            have m1 : num ≠ 1 := fun e => nm (by rw [e]; decide)
            have m5 : num ≠ 5 := fun e => nm (by rw [e]; decide)
            have m6 : num ≠ 6 := fun e => nm (by rw [e]; decide)
            have m7 : num ≠ 7 := fun e => nm (by rw [e]; decide)
            have m8 : num ≠ 8 := fun e => nm (by rw [e]; decide)
            have m9 : num ≠ 9 := fun e => nm (by rw [e]; decide)
            omega
          obtain ⟨r, hr⟩ : ∃ r, ActIs bk S.g num (ns.getD 0 0) r := by
            rcases cases5 with e | e | e | e | e
            · have lt := placed (by rw [e]; decide)
              exact ⟨_, (.inl ⟨e, _, List.getElem?_eq_getElem lt, rfl⟩)⟩
            · have lt := placed (by rw [e]; decide)
              exact ⟨_, (.inr (.inl ⟨e, _, List.getElem?_eq_getElem lt, rfl⟩))⟩
            · have lt := placed (by rw [e]; decide)
              exact ⟨_, (.inr (.inr (.inl ⟨e, lt, rfl⟩)))⟩
            · have lt := hr1 10 hin e
              unfold inRangeB at lt
              rw [Bool.and_eq_true, if_neg (by decide), if_pos (.inl rfl), if_pos rfl, Bool.and_eq_true] at lt
              have t2 := of_decide_eq_true lt.2.2
              rw [ez] at t2
              exact ⟨_, (.inr (.inr (.inr (.inl ⟨e, by omega, rfl⟩))))⟩
            · have lt := hr1 11 hin e
              unfold inRangeB at lt
              rw [Bool.and_eq_true, if_neg (by decide), if_pos (.inr rfl), if_neg (by decide), Bool.and_eq_true] at lt
              have t2 := of_decide_eq_true lt.2.2
              rw [ez] at t2
              exact ⟨_, (.inr (.inr (.inr (.inr ⟨e, by omega, rfl⟩))))⟩
          have k1 := k.act ns ens hin r hr
          have l1 : 1 ≤ as.length := by
            rw [hlen]
            rcases cases5 with e | e | e | e | e <;> (rw [e]; decide)
          refine ⟨_, rfl, _, rfl, _, rfl, w, g, S, A, ps, bk, num, a, as, ns.getD 0 0, r, rfl, h2.here, ha2, hwa, l1, ez, ok, hc, hbl, by omega, zle, hr, fun H3 w3 A3 h3 => ?_⟩
          exact go _ _ ⟨w3, A3, r, rfl, h2.then_ h3, act_ok ok hr, k1⟩
end
end Lp
/-! Part P10: answer. -/
namespace Lp
open PySem PySem.Spec PyProof.Rows L2
section
variable {X : Cx} {k : Nat} {ps : List Str} {sp : Sp} {E : L2.St → XK} {x : Str} {p pos : Pos} {e : Expr} {es : List Expr} {t : TA}
theorem pe_calS (D : DfX X.prog X.w X.K X.mg X.base k x ps sp) (hr : Room k X.A) (hg : Gl X x) (ha : PA X (e :: es) t) (hx : ∀ σ, PassesAt (L2.CX X.prog X.w) X σ (E σ)) (hdb : (x == ("__debug__" : Str)) = false := by decide)
    (he : starEach (e :: es) X.env = (false, eval e X.env) :: starEach es X.env := by rfl) (hpl : (backTo pos (starEach es X.env)).any (·.1) = false := by rfl) : PE X (.Call (.Name x p) (e :: es) [] pos) (tCallS sp E t) := by
  obtain ⟨f, fd, F, g, kp, b⟩ := D
  exact pe_callS F hr hg g kp b hx ha hdb he hpl
end
section
variable {P : Program} {w : World} {K : PySem.W.Frag} {mg : Str → Option Value} {base : Heap} {C : Cl} {fI aN aM aP : Addr}
open VbrcCore VbrcafPlay
abbrev s_answer : Stmt := top 49
theorem sc_answer : FnScope ["group", "number", "args", "refusal"] ["group", "number", "args"] (defScope s_answer) := ⟨rfl, rfl, rfl, by decide +kernel, rfl, by decide +kernel, by decide +kernel⟩
def OneNew (H : Hp) (Q : VK) (k : Int) : Prop := ∀ H' q, Same H H' → H q = none → H' q = some (.lst [.int k]) → Q (.ref q) H'
def spAnswer (C : Cl) : Sp := fun vs H Q E => ∃ (num : Int) (a : Addr) (as : List Int), 1 ≤ num ∧ num ≤ 18 ∧ as.length = argc num ∧ H a = some (.lst (as.map V.int)) ∧
  ((vs = [.non, .int num, .ref a] ∧ OneNew H Q (-10)) ∨
   (∃ w g S A ps bk, vs = [.ref g, .int num, .ref a] ∧ GAt C H w H w g (toG S) A ps [] ∧ w a = none ∧ GOk S.g ∧ CfgOk (toC S.g.config) ∧ BlOk S.bl bk ∧ S.tot ≤ 3800000 ∧ S.bl.length ≤ 100000 ∧
      DoneK S bk num as (fun k => OneNew H Q k) (fun S' ns => Ret C H w g (toG S') ps Q ns)))
theorem DoneK.mono {S : GS} {bk : List (Nat × Nat)} {num : Int} {as : List Int} {R R' : Int → Prop} {T T' : GS → List Int → Prop} (h : DoneK S bk num as R T) (r : ∀ k, R k → R' k) (t : ∀ S ns, T S ns → T' S ns) : DoneK S bk num as R' T' :=
  ⟨fun a => r _ (h.range a), fun ns a b c d => r _ (h.member ns a b c d), fun ns a b c d => r _ (h.place ns a b c d), fun a b c => r _ (h.nolink a b c), fun a b c => t _ _ (h.link a b c), fun ns a b i n c d e => t _ _ (h.status ns a b i n c d e),
    fun ns a b i n c d e => ⟨fun z => r _ ((h.ballots ns a b i n c d e).1 z), fun z => t _ _ ((h.ballots ns a b i n c d e).2 z)⟩, fun ns a b i n c d e => ⟨fun z => r _ ((h.held ns a b i n c d e).1 z), fun z => t _ _ ((h.held ns a b i n c d e).2 z)⟩,
    fun ns a b c => t _ _ (h.messages ns a b c), fun a b => t _ _ (h.elections a b), fun ns a b i n x c d e => ⟨fun z => r _ ((h.mem ns a b i n x c d e).1 z), fun z => t _ _ ((h.mem ns a b i n x c d e).2 z)⟩, fun ns a b x c => t _ _ (h.act ns a b x c)⟩
def t_suite (C : Cl) : Addr → Value → Option Addr → TS := fun a cls d => tRet (tLst (tCons (tCodeOf C.r a cls d (tVar 3)) tNil))
theorem ok_answer {f : Addr} {fd : FuncData} (T : TxH K mg C fI aN aM aP) (F : Fun K "answer" "answer" s_answer f fd) (D_done : DfX P w K mg base 12 "done" ["group", "number", "args"] (spDone C)) :
    FnOk P w K mg base CX0 13 f fd ["group", "number", "args"] (spAnswer C) := by
  refine F.ok sc_answer (fun vs H Q E h => ?_) (fun cdv A outer s H vs Q E hr h => ?_)
  · obtain ⟨_, _, _, _, _, _, _, h⟩ := h
    rcases h with ⟨rfl, _⟩ | ⟨_, _, _, _, _, _, rfl, _⟩ <;> rfl
  · have hr1 : Room 12 _ := hr.mono (by decide)
    refine ⟨_, (pss_one (ps_try_as (i := 3) (tb := fun W => tRet (tCallS (spDone C) (WE W) (tCons (tVar 0) (tCons (tVar 1) (tCons (tVar 2) tNil))))) (ts := t_suite C) (Wout := fun _ _ _ _ => False) rfl rfl sc_answer.nd rfl rfl ⟨rfl, by decide, Or.inl T.ref.gC⟩ takes0
          (fun W pn xe tk _ => pss_one (ps_ret (by exact (pe_calS D_done hr1 rfl (by exact (pa_cons (pv 0) (pa_cons (pv 1) (pa_cons (pv 2) pa_nil)))) (fun σ => passAt tk σ)))))
          (fun a oe cls d pn hz hf => pss_one (ps_ret (by exact (pe_lst (pa_cons (pe_codeOf T.ref hz hf (pv 3)) pa_nil))))))), ?_⟩
    obtain ⟨num, a, as, n1, n18, hlen, ha, h⟩ := h
    have rf : ∀ {σ : L2.St} {D : Ends} {k : Int}, D.rt = Q → σ.length = 4 → OneNew H Q k → Rf C H (WE (wAs K (.ref C.r) 3 (t_suite C) (fun _ _ _ _ => False) D) σ) k := by
      intro σ D k hD hσ one H' d s' hd hd'
      refine ⟨true, T.ref.te, fun _ a0 _ => ?_, fun q => Bool.noConfusion q⟩
      refine ⟨_, List.getElem?_set_self (by omega), rfl, rfl, d, _, rfl, hd', by show 1 ≤ sizeLine; decide, fun q hq => ?_⟩
      show D.rt _ _
      rw [hD]
      exact one _ q (same_trans s' (same_upd hq)) (same_free s' hq) upd_same
    rcases h with ⟨rfl, k⟩ | ⟨w, g, S, A, ps, bk, rfl, h, hwa, ok, hc, hbl, ht, lbl, k⟩
    · exact ⟨_, rfl, _, rfl, _, rfl, num, a, as, n1, n18, hlen, ha, .inl ⟨rfl, rf rfl rfl k⟩⟩
    · exact ⟨_, rfl, _, rfl, _, rfl, num, a, as, n1, n18, hlen, ha, .inr ⟨w, g, S, A, ps, bk, rfl, h, hwa, ok, hc, hbl, ht, lbl, k.mono (fun z one => rf rfl rfl one) fun _ _ z => z⟩⟩
end
end Lp
/-! Part P11: what the specification says of a call. -/
namespace Lp
open VbrcCore VbrcafPlay
theorem len0 {as : List Int} (h : as.length = 0) : as = [] := List.length_eq_zero_iff.mp h
theorem len1 {as : List Int} (h : as.length = 1) : ∃ x, as = [x] := List.length_eq_one_iff.mp h
theorem len2 {as : List Int} (h : as.length = 2) : ∃ x y, as = [x, y] := by
  match as, h with
  | [x, y], _ => exact ⟨x, y, rfl⟩
theorem len3 {as : List Int} (h : as.length = 3) : ∃ x y z, as = [x, y, z] := by
  match as, h with
  | [x, y, z], _ => exact ⟨x, y, z, rfl⟩
/-- the call of a number and its arguments -/
def callI (num : Int) (as : List Int) : Option Call := callOf [num :: as]
theorem isNumber_eq (z : Int) : isNumber z = (decide (0 ≤ z) && decide (z ≤ 1000000000)) := rfl
theorem inRange_eq (a b z : Int) : VbrcafPlay.inRange a b z = (decide (a ≤ z) && decide (z ≤ b)) := rfl
section
variable {x y z : Int}
theorem ir1 : inRangeB 1 [x, y] = (isNumber x && VbrcafPlay.inRange 1 40 y) := by
  rw [isNumber_eq, inRange_eq]
  unfold inRangeB
  rw [if_pos rfl]
  simp only [List.all_cons, List.all_nil, Bool.and_true, List.getD_cons_succ, List.getD_cons_zero]
  rw [Bool.eq_iff_iff]
  simp only [Bool.and_eq_true, decide_eq_true_eq]
  omega
theorem ir10 : inRangeB 10 [x] = VbrcafPlay.inRange 1 8 x := by
  rw [inRange_eq]
  unfold inRangeB
  rw [if_neg (by decide), if_pos (.inl rfl), if_pos rfl]
  simp only [List.all_cons, List.all_nil, Bool.and_true, List.getD_cons_zero]
  rw [Bool.eq_iff_iff]
  simp only [Bool.and_eq_true, decide_eq_true_eq]
  omega
theorem ir11 : inRangeB 11 [x] = VbrcafPlay.inRange 1 40 x := by
  rw [inRange_eq]
  unfold inRangeB
  rw [if_neg (by decide), if_pos (.inr rfl), if_neg (by decide)]
  simp only [List.all_cons, List.all_nil, Bool.and_true, List.getD_cons_zero]
  rw [Bool.eq_iff_iff]
  simp only [Bool.and_eq_true, decide_eq_true_eq]
  omega
theorem irN {num : Int} {as : List Int} (h1 : ¬ num = 1) (h2 : ¬ (num = 10 ∨ num = 11)) : inRangeB num as = as.all isNumber := by
  unfold inRangeB
  rw [if_neg h1, if_neg h2, Bool.and_true]
  rfl
end
/-! ### what an operation hands back -/
theorem pairNumbers_eq (l : List (Nat × Nat)) : pairNumbers l = pairs (l.map fun x => ((x.1 : Int), (x.2 : Int))) := by
  unfold pairNumbers pairs
  rw [List.flatMap_map]
  rfl
theorem rowOf_eq (r : Group × Seen) : (0 :: toInts [r.2.sent.length, r.2.elected.length] ++ pairNumbers r.2.elected) = rowOf r := by
  unfold rowOf
  rw [pairNumbers_eq]
  rfl
/-- the state of the specification and the group of the program -/
structure Hl (s : State) (S : GS) (bk : List (Nat × Nat)) : Prop where
  group : s.group = some S.g
  blocked : s.blocked = bk
  elections : s.elections = S.log
  ok : GOk S.g
  bl : BlOk S.bl bk
/-- the next state, the numbers answered -/
structure Nx (s : State) (S : GS) (res : State × List Int) (S' : GS) (ns : List Int) : Prop where
  row : res.2 = ns
  hl : ∃ bk', Hl res.1 S' bk'
  cfg : S'.g.config = S.g.config
  tot : S'.tot ≤ S.tot + 34920
  bls : S'.bl.length ≤ S.bl.length + 1
section
variable {s : State} {S : GS} {bk : List (Nat × Nat)}
theorem Hl.same (h : Hl s S bk) {ns : List Int} : Nx s S (s, ns) S ns := ⟨rfl, ⟨bk, h⟩, rfl, by omega, by omega⟩
/-- an operation that acts: refused -/
theorem act_out (h : Hl s S bk) {v : Bool} (hv : v = false) (f : Group → Group × Seen) : VbrcafPlay.act s v f = (s, [-13]) := by
  unfold VbrcafPlay.act
  rw [h.group, hv]
  rfl
theorem act_code (h : Hl s S bk) {v : Bool} (hv : v = true) {f : Group → Group × Seen} {k : Int} (hf : (f S.g).2.code = k) (hk : k < 0) : VbrcafPlay.act s v f = (s, [k]) := by
  unfold VbrcafPlay.act
  rw [h.group, hv]
  dsimp only
  rw [hf, if_neg (by decide), if_pos hk]
theorem act_done (h : Hl s S bk) {v : Bool} (hv : v = true) {f : Group → Group × Seen} {r : Group × Seen} (h1 : (f S.g).1 = r.1) (h2 : (f S.g).2.sent = r.2.sent) (h3 : (f S.g).2.elected = r.2.elected) (hk : ¬ (f S.g).2.code < 0) (wf : Wf S.g.config r (pot S.g + 34920)) : Nx s S (VbrcafPlay.act s v f) (S.after r) (rowOf r) := by
  have e : VbrcafPlay.act s v f = ({ s with group := some r.1, elections := s.elections ++ r.2.elected }, rowOf r) := by
    unfold VbrcafPlay.act
    rw [h.group, hv]
    dsimp only
    rw [if_neg (by decide), if_neg hk, h1, h3, h2, rowOf_eq]
  rw [e]
  refine ⟨rfl, ⟨bk, rfl, h.blocked, by rw [h.elections]; rfl, wf.ok, h.bl⟩, wf.cfg, ?_, Nat.le_succ _⟩
  rw [GS.after_tot]
  have := wf.pot
  have : S.tot = pot S.g + S.log.length := rfl
  omega
theorem tell_out (h : Hl s S bk) {v : Bool} (hv : v = false) (f : Group → List Int) : tell s v f = (s, [-13]) := by
  unfold tell
  rw [h.group, hv]
  rfl
theorem tell_in (h : Hl s S bk) {v : Bool} (hv : v = true) (f : Group → List Int) : tell s v f = (s, f S.g) := by
  unfold tell
  rw [h.group, hv]
  rfl
end
theorem arrive_code {g : Group} {m : Message} : (arrive g m).2.code = 0 := by
  unfold arrive
  cases nodeOf g m.receiver with
  | none => rfl
  | some n =>
    dsimp only
    by_cases e : n.alive = true
    · rw [if_pos e]
      show (input n (receive g.config m)).code = 0
      unfold input
      rw [if_pos e]
      exact (finish_alive _ _).2
    · rw [if_neg e]
      rfl
theorem none_ticks {g : Group} {id : Nat} (h : nodeOf g id = none) : ∀ t, (steps g (List.replicate (t + 1) (.tick id))).2.code = -11 ∧ (steps g (List.replicate t (.tick id))).1 = g := by
  have st : step g (.tick id) = (g, ⟨[], [], memberCode⟩) := by
    show onNode g id _ = _
    unfold onNode
    rw [h]
  intro t
  have e1 : ∀ t, (steps g (List.replicate t (.tick id))).1 = g := by
    intro t
    induction t with
    | zero => rfl
    | succ t ih =>
      rw [steps_succ]
      unfold andThen
      dsimp only
      rw [ih, st]
  refine ⟨?_, e1 t⟩
  rw [steps_succ]
  unfold andThen joinSeen
  dsimp only
  rw [e1, st]
  rfl
end Lp
/-! Part P12: each operation, by the specification. -/
namespace Lp
open VbrcCore VbrcafPlay
section
variable {s : State} {S : GS} {bk : List (Nat × Nat)} {num : Int} {as : List Int}
abbrev Rr (s : State) (num : Int) (as : List Int) : Int → Prop := fun k => stepRows s [num :: as] = (s, [k])
abbrev Tt (s : State) (S : GS) (num : Int) (as : List Int) : GS → List Int → Prop := fun S' ns => Nx s S (stepRows s [num :: as]) S' ns
theorem none_of (h : Hl s S bk) {id : Nat} (hn : id ∉ everyone S.g.config) : nodeOf S.g id = none := by
  cases e : nodeOf S.g id with
  | none => rfl
  | some n =>
    obtain ⟨h1, i, h2⟩ := nodeOf_has e
    have := (h.ok.nodes n (List.mem_of_getElem? h2)).memb
    rw [h1] at this
    exact absurd this hn
theorem fam_mem (h : Hl s S bk) (hnum : num ∈ [(1 : Int), 5, 6, 7, 8, 9]) {v : Bool} {f : Group → Group × Seen} (e : stepRows s [num :: as] = VbrcafPlay.act s v f) (hv : v = inRangeB num as)
    (hnone : ∀ ns : List Nat, as = iN ns → inRangeB num as = true → nodeOf S.g (ns.getD 0 0) = none → (f S.g).2.code = -11)
    (hr : ∀ ns : List Nat, as = iN ns → ∀ (i : Nat) (n : Node) (r : Group × Seen), S.g.nodes[i]? = some n → n.id = ns.getD 0 0 → MemIs S.g n num ns r → f S.g = r) : DoneK S bk num as (Rr s num as) (Tt s S num as) := by
  have hn : num = 1 ∨ num = 5 ∨ num = 6 ∨ num = 7 ∨ num = 8 ∨ num = 9 := by simpa using hnum
  have npl : num ∉ places := by
    intro z
    have : num = 2 ∨ num = 3 ∨ num = 4 := by simpa [places] using z
    omega
  refine ⟨fun a => e.trans (act_out h (hv.trans a) f), fun ns a b c d => e.trans (act_code h (hv.trans b) (hnone ns a b (none_of h d)) (by decide)), fun ns a b c d => absurd c npl, fun a b c => by omega, fun a b c => by omega, fun ns a b i n c d g => by omega, fun ns a b i n c d g => by omega, fun ns a b i n c d g => by omega, fun ns a b c => by omega, fun a b => by omega, fun ns a b i n r c d m => ?_, fun ns a b r m => ?_⟩
  · have er := hr ns a i n r c d m
    refine ⟨fun z => e.trans (act_code h (hv.trans b) (by rw [er]) z), fun z => ?_⟩
    show Nx s S (stepRows s [num :: as]) _ _
    rw [e]
    exact act_done h (hv.trans b) (by rw [er]) (by rw [er]) (by rw [er]) (by rw [er]; exact z) (mem_ok h.ok c m (by omega))
  · rcases m with ⟨z, _⟩ | ⟨z, _⟩ | ⟨z, _⟩ | ⟨z, _⟩ | ⟨z, _⟩ <;> omega
theorem fam_act (h : Hl s S bk) (hnum : num ∈ [(2 : Int), 3, 4, 10, 11]) {v : Bool} {f : Group → Group × Seen} (e : stepRows s [num :: as] = VbrcafPlay.act s v f) (hv : v = inRangeB num as)
    (hpl : ∀ ns : List Nat, as = iN ns → num ∈ places → ¬ ns.getD 0 0 < S.g.net.length → (f S.g).2.code = -12)
    (hr : ∀ ns : List Nat, as = iN ns → ∀ r : Group × Seen, ActIs bk S.g num (ns.getD 0 0) r → (f S.g).1 = r.1 ∧ (f S.g).2.sent = r.2.sent ∧ (f S.g).2.elected = r.2.elected ∧ ¬ (f S.g).2.code < 0) : DoneK S bk num as (Rr s num as) (Tt s S num as) := by
  have hn : num = 2 ∨ num = 3 ∨ num = 4 ∨ num = 10 ∨ num = 11 := by simpa using hnum
  have nmf : num ∉ mFirst := by
    intro z
    have : num = 1 ∨ num = 5 ∨ num = 6 ∨ num = 7 ∨ num = 8 ∨ num = 9 ∨ num = 14 ∨ num = 15 ∨ num = 16 := by simpa [mFirst] using z
    omega
  refine ⟨fun a => e.trans (act_out h (hv.trans a) f), fun ns a b c d => absurd c nmf, fun ns a b c d => e.trans (act_code h (hv.trans b) (hpl ns a c d) (by decide)), fun a b c => by omega, fun a b c => by omega, fun ns a b i n c d g => by omega, fun ns a b i n c d g => by omega, fun ns a b i n c d g => by omega, fun ns a b c => by omega, fun a b => by omega, fun ns a b i n r c d m => ?_, fun ns a b r m => ?_⟩
  · rcases m with ⟨z, _⟩ | ⟨z, _⟩ | ⟨z, _⟩ | ⟨z, _⟩ | ⟨z, _⟩ | ⟨z, _⟩ <;> omega
  · obtain ⟨h1, h2, h3, h4⟩ := hr ns a r m
    show Nx s S (stepRows s [num :: as]) _ _
    rw [e]
    exact act_done h (hv.trans b) h1 h2 h3 h4 (act_ok h.ok m)
end
section
variable {s : State} {S : GS} {bk : List (Nat × Nat)} {x y z : Int}
theorem toNat_iN {ns : List Nat} {i : Nat} {a : Int} (h : (iN ns).getD i 0 = a) : a.toNat = ns.getD i 0 := by rw [← h, iN_getD, Int.toNat_natCast]
theorem on_none {g : Group} {id : Nat} (h : nodeOf g id = none) (f : Node → Outcome) : onNode g id f = (g, ⟨[], [], memberCode⟩) := by
  unfold onNode
  rw [h]
theorem donek1 (h : Hl s S bk) : DoneK S bk 1 [x, y] (Rr s 1 [x, y]) (Tt s S 1 [x, y]) := by
  refine fam_mem h (by decide) (v := isNumber x && VbrcafPlay.inRange 1 40 y) (f := fun g => steps g (List.replicate y.toNat (.tick x.toNat))) rfl ir1.symm (fun ns a b c => ?_) (fun ns a i n r c d m => ?_)
  · rw [toNat_iN (i := 0) (a := x) (by rw [← a]; rfl), toNat_iN (i := 1) (a := y) (by rw [← a]; rfl)]
    rw [ir1, inRange_eq, Bool.and_eq_true, Bool.and_eq_true] at b
    have h1 := of_decide_eq_true b.2.1
    have e2 : y.toNat = ns.getD 1 0 := toNat_iN (i := 1) (a := y) (by rw [← a]; rfl)
    obtain ⟨t, e⟩ : ∃ t, ns.getD 1 0 = t + 1 := ⟨ns.getD 1 0 - 1, by omega⟩
    rw [e]
    exact (none_ticks c t).1
  · rcases m with ⟨_, _, _, _, rfl⟩ | ⟨q, _⟩ | ⟨q, _⟩ | ⟨q, _⟩ | ⟨q, _⟩ | ⟨q, _⟩ <;> first | exact absurd q (by decide) | skip
    rw [toNat_iN (i := 0) (a := x) (by rw [← a]; rfl), toNat_iN (i := 1) (a := y) (by rw [← a]; rfl), d]
theorem donek5 (h : Hl s S bk) : DoneK S bk 5 [x, y] (Rr s 5 [x, y]) (Tt s S 5 [x, y]) := by
  refine fam_mem h (by decide) (v := isNumber x && isNumber y) (f := fun g => step g (.sync x.toNat y.toNat)) rfl (by rw [irN (by decide) (by decide)]; simp) (fun ns a b c => ?_) (fun ns a i n r c d m => ?_)
  · show (onNode S.g x.toNat _).2.code = -11
    rw [toNat_iN (i := 0) (a := x) (by rw [← a]; rfl), on_none c]
    rfl
  · rcases m with ⟨q, _⟩ | ⟨_, _, rfl⟩ | ⟨q, _⟩ | ⟨q, _⟩ | ⟨q, _⟩ | ⟨q, _⟩ <;> first | exact absurd q (by decide) | skip
    rw [toNat_iN (i := 0) (a := x) (by rw [← a]; rfl), toNat_iN (i := 1) (a := y) (by rw [← a]; rfl), d]
theorem donek6 (h : Hl s S bk) : DoneK S bk 6 [x, y] (Rr s 6 [x, y]) (Tt s S 6 [x, y]) := by
  refine fam_mem h (by decide) (v := isNumber x && isNumber y) (f := fun g => step g (.crash x.toNat y.toNat)) rfl (by rw [irN (by decide) (by decide)]; simp) (fun ns a b c => ?_) (fun ns a i n r c d m => ?_)
  · show (onNode S.g x.toNat _).2.code = -11
    rw [toNat_iN (i := 0) (a := x) (by rw [← a]; rfl), on_none c]
    rfl
  · rcases m with ⟨q, _⟩ | ⟨q, _⟩ | ⟨_, _, rfl⟩ | ⟨q, _⟩ | ⟨q, _⟩ | ⟨q, _⟩ <;> first | exact absurd q (by decide) | skip
    rw [toNat_iN (i := 0) (a := x) (by rw [← a]; rfl), toNat_iN (i := 1) (a := y) (by rw [← a]; rfl), d]
theorem donek7 (h : Hl s S bk) : DoneK S bk 7 [x] (Rr s 7 [x]) (Tt s S 7 [x]) := by
  refine fam_mem h (by decide) (v := isNumber x) (f := fun g => step g (.restart x.toNat)) rfl (by rw [irN (by decide) (by decide)]; simp) (fun ns a b c => ?_) (fun ns a i n r c d m => ?_)
  · show (onNode S.g x.toNat _).2.code = -11
    rw [toNat_iN (i := 0) (a := x) (by rw [← a]; rfl), on_none c]
    rfl
  · rcases m with ⟨q, _⟩ | ⟨q, _⟩ | ⟨q, _⟩ | ⟨_, _, rfl⟩ | ⟨q, _⟩ | ⟨q, _⟩ <;> first | exact absurd q (by decide) | skip
    rw [toNat_iN (i := 0) (a := x) (by rw [← a]; rfl), d]
theorem donek8 (h : Hl s S bk) : DoneK S bk 8 [x, y, z] (Rr s 8 [x, y, z]) (Tt s S 8 [x, y, z]) := by
  refine fam_mem h (by decide) (v := isNumber x && (isNumber y && isNumber z)) (f := fun g => step g (.position x.toNat y.toNat z.toNat)) rfl (by rw [irN (by decide) (by decide)]; simp) (fun ns a b c => ?_) (fun ns a i n r c d m => ?_)
  · show (onNode S.g x.toNat _).2.code = -11
    rw [toNat_iN (i := 0) (a := x) (by rw [← a]; rfl), on_none c]
    rfl
  · rcases m with ⟨q, _⟩ | ⟨q, _⟩ | ⟨q, _⟩ | ⟨q, _⟩ | ⟨_, _, rfl⟩ | ⟨q, _⟩ <;> first | exact absurd q (by decide) | skip
    rw [toNat_iN (i := 0) (a := x) (by rw [← a]; rfl), toNat_iN (i := 1) (a := y) (by rw [← a]; rfl), toNat_iN (i := 2) (a := z) (by rw [← a]; rfl), d]
theorem donek9 (h : Hl s S bk) : DoneK S bk 9 [x, y] (Rr s 9 [x, y]) (Tt s S 9 [x, y]) := by
  refine fam_mem h (by decide) (v := isNumber x && isNumber y) (f := fun g => step g (.handOver x.toNat y.toNat)) rfl (by rw [irN (by decide) (by decide)]; simp) (fun ns a b c => ?_) (fun ns a i n r c d m => ?_)
  · show (onNode S.g x.toNat _).2.code = -11
    rw [toNat_iN (i := 0) (a := x) (by rw [← a]; rfl), on_none c]
    rfl
  · rcases m with ⟨q, _⟩ | ⟨q, _⟩ | ⟨q, _⟩ | ⟨q, _⟩ | ⟨q, _⟩ | ⟨_, _, rfl⟩ <;> first | exact absurd q (by decide) | skip
    rw [toNat_iN (i := 0) (a := x) (by rw [← a]; rfl), toNat_iN (i := 1) (a := y) (by rw [← a]; rfl), d]
theorem deliver_some {g : Group} {k : Nat} {m : Message} (h : g.net[k]? = some m) : step g (.deliver k) = arrive (erased g k) m := by
  unfold step
  dsimp only
  rw [h]
  rfl
theorem double_some {g : Group} {k : Nat} {m : Message} (h : g.net[k]? = some m) : step g (.double k) = arrive g m := by
  unfold step
  dsimp only
  rw [h]
theorem drop_some {g : Group} {k : Nat} {m : Message} (h : g.net[k]? = some m) : step g (.drop k) = (erased g k, nothing) := by
  unfold step
  dsimp only
  rw [h]
  rfl
theorem donek2 (h : Hl s S bk) : DoneK S bk 2 [x] (Rr s 2 [x]) (Tt s S 2 [x]) := by
  refine fam_act h (by decide) (v := isNumber x) (f := fun g => step g (.deliver x.toNat)) rfl (by rw [irN (by decide) (by decide)]; simp) (fun ns a b c => ?_) (fun ns a r m => ?_)
  · rw [toNat_iN (i := 0) (a := x) (by rw [← a]; rfl)]
    have : S.g.net[ns.getD 0 0]? = none := List.getElem?_eq_none_iff.mpr (by omega)
    unfold step
    dsimp only
    rw [this]
    rfl
  · rcases m with ⟨_, m, hm, rfl⟩ | ⟨q, _⟩ | ⟨q, _⟩ | ⟨q, _⟩ | ⟨q, _⟩ <;> first | exact absurd q (by decide) | skip
    rw [toNat_iN (i := 0) (a := x) (by rw [← a]; rfl), deliver_some hm]
    exact ⟨rfl, rfl, rfl, by rw [arrive_code]; decide⟩
theorem donek3 (h : Hl s S bk) : DoneK S bk 3 [x] (Rr s 3 [x]) (Tt s S 3 [x]) := by
  refine fam_act h (by decide) (v := isNumber x) (f := fun g => step g (.double x.toNat)) rfl (by rw [irN (by decide) (by decide)]; simp) (fun ns a b c => ?_) (fun ns a r m => ?_)
  · rw [toNat_iN (i := 0) (a := x) (by rw [← a]; rfl)]
    have : S.g.net[ns.getD 0 0]? = none := List.getElem?_eq_none_iff.mpr (by omega)
    unfold step
    dsimp only
    rw [this]
    rfl
  · rcases m with ⟨q, _⟩ | ⟨_, m, hm, rfl⟩ | ⟨q, _⟩ | ⟨q, _⟩ | ⟨q, _⟩ <;> first | exact absurd q (by decide) | skip
    rw [toNat_iN (i := 0) (a := x) (by rw [← a]; rfl), double_some hm]
    exact ⟨rfl, rfl, rfl, by rw [arrive_code]; decide⟩
theorem donek4 (h : Hl s S bk) : DoneK S bk 4 [x] (Rr s 4 [x]) (Tt s S 4 [x]) := by
  refine fam_act h (by decide) (v := isNumber x) (f := fun g => step g (.drop x.toNat)) rfl (by rw [irN (by decide) (by decide)]; simp) (fun ns a b c => ?_) (fun ns a r m => ?_)
  · rw [toNat_iN (i := 0) (a := x) (by rw [← a]; rfl)]
    have : S.g.net[ns.getD 0 0]? = none := List.getElem?_eq_none_iff.mpr (by omega)
    unfold step
    dsimp only
    rw [this]
    rfl
  · rcases m with ⟨q, _⟩ | ⟨q, _⟩ | ⟨_, lt, rfl⟩ | ⟨q, _⟩ | ⟨q, _⟩ <;> first | exact absurd q (by decide) | skip
    rw [toNat_iN (i := 0) (a := x) (by rw [← a]; rfl), drop_some (List.getElem?_eq_getElem lt)]
    exact ⟨rfl, rfl, rfl, by show ¬ (0 : Int) < 0; decide⟩
theorem donek10 (h : Hl s S bk) : DoneK S bk 10 [x] (Rr s 10 [x]) (Tt s S 10 [x]) := by
  refine fam_act h (by decide) (v := VbrcafPlay.inRange 1 8 x) (f := fun g => VbrcafPlay.done (rounds s.blocked x.toNat (g, nothing))) rfl ir10.symm (fun ns a b c => absurd b (by decide)) (fun ns a r m => ?_)
  rcases m with ⟨q, _⟩ | ⟨q, _⟩ | ⟨q, _⟩ | ⟨_, _, rfl⟩ | ⟨q, _⟩ <;> first | exact absurd q (by decide) | skip
  rw [toNat_iN (i := 0) (a := x) (by rw [← a]; rfl), h.blocked]
  exact ⟨rfl, rfl, rfl, by show ¬ (0 : Int) < 0; decide⟩
theorem donek11 (h : Hl s S bk) : DoneK S bk 11 [x] (Rr s 11 [x]) (Tt s S 11 [x]) := by
  refine fam_act h (by decide) (v := VbrcafPlay.inRange 1 40 x) (f := fun g => VbrcafPlay.done (advance s.blocked x.toNat (g, nothing))) rfl ir11.symm (fun ns a b c => absurd b (by decide)) (fun ns a r m => ?_)
  rcases m with ⟨q, _⟩ | ⟨q, _⟩ | ⟨q, _⟩ | ⟨q, _⟩ | ⟨_, _, rfl⟩ <;> first | exact absurd q (by decide) | skip
  rw [toNat_iN (i := 0) (a := x) (by rw [← a]; rfl), h.blocked]
  exact ⟨rfl, rfl, rfl, by show ¬ (0 : Int) < 0; decide⟩
end
end Lp
/-! Part P13: what is asked, links, by the specification; all operations. -/
namespace Lp
open VbrcCore VbrcafPlay
theorem bi_eq (b : Bool) : bi b = ofBool b := rfl
theorem status_eq (n : Node) : statusM (toM n) = 0 :: statusRow n := by
  unfold statusM statusRow toInts
  have e1 : (toM n).pending.length = n.writes.length := List.length_map _
  have e2 : (toM n).held.length = n.held.length := List.length_map _
  have e3 : (toM n).active.length = n.active.length := List.length_map _
  rw [e1, e2, e3]
  rfl
theorem ballots_eq (n : Node) : ballotsM (toM n) = 0 :: Int.ofNat n.elector.ballots.length :: n.elector.ballots.flatMap fun b => [Int.ofNat b.1, ofBool b.2] := by
  unfold ballotsM
  have e1 : (toM n).ballot.length = n.elector.ballots.length := List.length_map _
  have e2 : ((toM n).ballot.map fun b => [b.1, bi b.2]).flatten = n.elector.ballots.flatMap fun b => [Int.ofNat b.1, ofBool b.2] := by
    show ((n.elector.ballots.map _).map _).flatten = _
    rw [List.map_map, List.flatMap_def]
    rfl
  rw [e1, e2]
  rfl
theorem held_eq {c : Config} {n : Node} (h : NodeOk c n) : heldM (toM n) = 0 :: heldNumbers n := by
  unfold heldM heldNumbers
  have e0 : (toM n).held.take 100 = (n.held.take 100).map fun h => ((h.need : Int), messageRow h.message) := by
    show (n.held.map _).take 100 = _
    rw [List.map_take]
  have e1 : (toM n).held.length = n.held.length := List.length_map _
  have e2 : (((n.held.take 100).map fun h => ((h.need : Int), messageRow h.message)).map (hRow (toM n))).flatten = (n.held.take 100).flatMap fun h => Int.ofNat (h.need - n.done) :: messageRow h.message := by
    rw [List.map_map, List.flatMap_def]
    congr 1
    apply List.map_congr_left
    intro x hx
    have := (h.held x (List.mem_of_mem_take hx)).1
    show ((x.need : Int) - (n.done : Int)) :: messageRow x.message = Int.ofNat (x.need - n.done) :: messageRow x.message
    congr 1
    show (x.need : Int) - (n.done : Int) = ((x.need - n.done : Nat) : Int)
    omega
  rw [e0, e1, e2, List.length_map]
  rfl
theorem messages_eq (S : GS) (k : Nat) : messagesM (toG S) k = 0 :: messageNumbers S.g k := by
  unfold messagesM messageNumbers
  have e0 : ((toG S).way.drop k).take 200 = ((S.g.net.drop k).take 200).map messageRow := by
    show ((S.g.net.map messageRow).drop k).take 200 = _
    rw [List.map_take, List.map_drop]
  have e1 : (toG S).way.length = S.g.net.length := List.length_map _
  rw [e0, e1, List.length_map, ← List.flatMap_def]
  rfl
theorem elections_eq (S : GS) : electionsM (toG S) = 0 :: Int.ofNat S.log.length :: pairNumbers S.log := by
  unfold electionsM
  have e1 : (toG S).log.length = S.log.length := List.length_map _
  rw [e1, pairNumbers_eq]
  rfl
section
variable {s : State} {S : GS} {bk : List (Nat × Nat)} {num : Int} {as : List Int} {x y : Int}
theorem Hl.told (h : Hl s S bk) {res : State × List Int} {ns : List Int} (e : res = (s, ns)) : Nx s S res S ns := by rw [e]; exact h.same
theorem donek14 (h : Hl s S bk) : DoneK S bk 14 [x] (Rr s 14 [x]) (Tt s S 14 [x]) := by
  have hv : isNumber x = inRangeB 14 [x] := by rw [irN (by decide) (by decide)]; simp
  have e : stepRows s [[14, x]] = tellNode s x false statusRow := rfl
  refine ⟨fun a => e.trans (tell_out h (hv.trans a) _), fun ns a b c d => e.trans ((tell_in h (hv.trans b) _).trans ?_), fun ns a b c d => absurd c (by decide), fun a b c => absurd b (by decide), fun a b c => absurd b (by decide), fun ns a b i n c d _ => h.told (e.trans ((tell_in h (hv.trans b) _).trans ?_)), fun ns a b i n c d q => absurd q (by decide), fun ns a b i n c d q => absurd q (by decide), fun ns a b c => absurd c (by decide), fun a b => absurd b (by decide), fun ns a b i n r c d m => ?_, fun ns a b r m => ?_⟩
  · try dsimp only
    rw [toNat_iN (i := 0) (a := x) (by rw [← a]; rfl), none_of h d]
    rfl
  · try dsimp only
    rw [toNat_iN (i := 0) (a := x) (by rw [← a]; rfl), ← d, nodeOf_at h.ok c]
    try dsimp only
    rw [Bool.false_and, if_neg Bool.false_ne_true, status_eq]
  · rcases m with ⟨z, _⟩ | ⟨z, _⟩ | ⟨z, _⟩ | ⟨z, _⟩ | ⟨z, _⟩ | ⟨z, _⟩ <;> exact absurd z (by decide)
  · rcases m with ⟨z, _⟩ | ⟨z, _⟩ | ⟨z, _⟩ | ⟨z, _⟩ | ⟨z, _⟩ <;> exact absurd z (by decide)
theorem donek15 (h : Hl s S bk) : DoneK S bk 15 [x] (Rr s 15 [x]) (Tt s S 15 [x]) := by
  have hv : isNumber x = inRangeB 15 [x] := by rw [irN (by decide) (by decide)]; simp
  have e : stepRows s [[15, x]] = tellNode s x true (fun n => Int.ofNat n.elector.ballots.length :: n.elector.ballots.flatMap fun b => [Int.ofNat b.1, ofBool b.2]) := rfl
  refine ⟨fun a => e.trans (tell_out h (hv.trans a) _), fun ns a b c d => e.trans ((tell_in h (hv.trans b) _).trans ?_), fun ns a b c d => absurd c (by decide), fun a b c => absurd b (by decide), fun a b c => absurd b (by decide), fun ns a b i n c d q => absurd q (by decide), fun ns a b i n c d _ => ⟨fun al => e.trans ((tell_in h (hv.trans b) _).trans ?_), fun al => h.told (e.trans ((tell_in h (hv.trans b) _).trans ?_))⟩, fun ns a b i n c d q => absurd q (by decide), fun ns a b c => absurd c (by decide), fun a b => absurd b (by decide), fun ns a b i n r c d m => ?_, fun ns a b r m => ?_⟩
  · try dsimp only
    rw [toNat_iN (i := 0) (a := x) (by rw [← a]; rfl), none_of h d]
    rfl
  · try dsimp only
    rw [toNat_iN (i := 0) (a := x) (by rw [← a]; rfl), ← d, nodeOf_at h.ok c]
    try dsimp only
    rw [al]
    rfl
  · try dsimp only
    rw [toNat_iN (i := 0) (a := x) (by rw [← a]; rfl), ← d, nodeOf_at h.ok c]
    try dsimp only
    rw [al, ballots_eq]
    rfl
  · rcases m with ⟨z, _⟩ | ⟨z, _⟩ | ⟨z, _⟩ | ⟨z, _⟩ | ⟨z, _⟩ | ⟨z, _⟩ <;> exact absurd z (by decide)
  · rcases m with ⟨z, _⟩ | ⟨z, _⟩ | ⟨z, _⟩ | ⟨z, _⟩ | ⟨z, _⟩ <;> exact absurd z (by decide)
theorem donek16 (h : Hl s S bk) : DoneK S bk 16 [x] (Rr s 16 [x]) (Tt s S 16 [x]) := by
  have hv : isNumber x = inRangeB 16 [x] := by rw [irN (by decide) (by decide)]; simp
  have e : stepRows s [[16, x]] = tellNode s x true heldNumbers := rfl
  refine ⟨fun a => e.trans (tell_out h (hv.trans a) _), fun ns a b c d => e.trans ((tell_in h (hv.trans b) _).trans ?_), fun ns a b c d => absurd c (by decide), fun a b c => absurd b (by decide), fun a b c => absurd b (by decide), fun ns a b i n c d q => absurd q (by decide), fun ns a b i n c d q => absurd q (by decide), fun ns a b i n c d _ => ⟨fun al => e.trans ((tell_in h (hv.trans b) _).trans ?_), fun al => h.told (e.trans ((tell_in h (hv.trans b) _).trans ?_))⟩, fun ns a b c => absurd c (by decide), fun a b => absurd b (by decide), fun ns a b i n r c d m => ?_, fun ns a b r m => ?_⟩
  · try dsimp only
    rw [toNat_iN (i := 0) (a := x) (by rw [← a]; rfl), none_of h d]
    rfl
  · try dsimp only
    rw [toNat_iN (i := 0) (a := x) (by rw [← a]; rfl), ← d, nodeOf_at h.ok c]
    try dsimp only
    rw [al]
    rfl
  · try dsimp only
    rw [toNat_iN (i := 0) (a := x) (by rw [← a]; rfl), ← d, nodeOf_at h.ok c]
    try dsimp only
    rw [al, held_eq (h.ok.nodes n (List.mem_of_getElem? c))]
    rfl
  · rcases m with ⟨z, _⟩ | ⟨z, _⟩ | ⟨z, _⟩ | ⟨z, _⟩ | ⟨z, _⟩ | ⟨z, _⟩ <;> exact absurd z (by decide)
  · rcases m with ⟨z, _⟩ | ⟨z, _⟩ | ⟨z, _⟩ | ⟨z, _⟩ | ⟨z, _⟩ <;> exact absurd z (by decide)
theorem donek17 (h : Hl s S bk) : DoneK S bk 17 [x] (Rr s 17 [x]) (Tt s S 17 [x]) := by
  have hv : isNumber x = inRangeB 17 [x] := by rw [irN (by decide) (by decide)]; simp
  have e : stepRows s [[17, x]] = tell s (isNumber x) (fun g => 0 :: messageNumbers g x.toNat) := rfl
  refine ⟨fun a => e.trans (tell_out h (hv.trans a) _), fun ns a b c d => absurd c (by decide), fun ns a b c d => absurd c (by decide), fun a b c => absurd b (by decide), fun a b c => absurd b (by decide), fun ns a b i n c d q => absurd q (by decide), fun ns a b i n c d q => absurd q (by decide), fun ns a b i n c d q => absurd q (by decide), fun ns a b c => h.told (e.trans ((tell_in h (hv.trans b) _).trans ?_)), fun a b => absurd b (by decide), fun ns a b i n r c d m => ?_, fun ns a b r m => ?_⟩
  · rw [toNat_iN (i := 0) (a := x) (by rw [← a]; rfl), messages_eq]
  · rcases m with ⟨z, _⟩ | ⟨z, _⟩ | ⟨z, _⟩ | ⟨z, _⟩ | ⟨z, _⟩ | ⟨z, _⟩ <;> exact absurd z (by decide)
  · rcases m with ⟨z, _⟩ | ⟨z, _⟩ | ⟨z, _⟩ | ⟨z, _⟩ | ⟨z, _⟩ <;> exact absurd z (by decide)
theorem donek18 (h : Hl s S bk) : DoneK S bk 18 [] (Rr s 18 []) (Tt s S 18 []) := by
  have e : stepRows s [[18]] = tell s true (fun _ => 0 :: Int.ofNat s.elections.length :: pairNumbers s.elections) := rfl
  refine ⟨fun a => absurd a (by decide), fun ns a b c d => absurd c (by decide), fun ns a b c d => absurd c (by decide), fun a b c => absurd b (by decide), fun a b c => absurd b (by decide), fun ns a b i n c d q => absurd q (by decide), fun ns a b i n c d q => absurd q (by decide), fun ns a b i n c d q => absurd q (by decide), fun ns a b c => absurd c (by decide), fun a b => h.told (e.trans ((tell_in h rfl _).trans ?_)), fun ns a b i n r c d m => ?_, fun ns a b r m => ?_⟩
  · rw [h.elections, elections_eq]
  · rcases m with ⟨z, _⟩ | ⟨z, _⟩ | ⟨z, _⟩ | ⟨z, _⟩ | ⟨z, _⟩ | ⟨z, _⟩ <;> exact absurd z (by decide)
  · rcases m with ⟨z, _⟩ | ⟨z, _⟩ | ⟨z, _⟩ | ⟨z, _⟩ | ⟨z, _⟩ <;> exact absurd z (by decide)
/-! ### links -/
theorem link_cond (h : Hl s S bk) : ((isNumber x && (everyone S.g.config).contains x.toNat) && ((isNumber y && (everyone S.g.config).contains y.toNat) && decide (x ≠ y))) = ((isNumber x && isNumber y) && linkB S.g.config x y) := by
  have key : ∀ z : Int, isNumber z = true → (everyone S.g.config).contains z.toNat = (iN (everyone S.g.config)).contains z := fun z hz => by
    rw [isNumber_eq, Bool.and_eq_true] at hz
    have h0 := of_decide_eq_true hz.1
    have : z = ((z.toNat : Nat) : Int) := by omega
    rw [this, iN_contains, Int.toNat_natCast]
  unfold linkB
  have ne : decide (x ≠ y) = !decide (x = y) := by
    by_cases e : x = y
    · rw [decide_eq_true e, decide_eq_false (fun z => z e)]; rfl
    · rw [decide_eq_false e, decide_eq_true e]; rfl
  rw [ne]
  cases a : isNumber x with
  | false => rfl
  | true =>
    cases b : isNumber y with
    | false => simp
    | true =>
      rw [key x a, key y b]
      simp only [Bool.true_and]
theorem lk_pair (hx : isNumber x = true) (hy : isNumber y = true) : lk x y = (((min x.toNat y.toNat : Nat) : Int), ((max x.toNat y.toNat : Nat) : Int)) := by
  rw [isNumber_eq, Bool.and_eq_true] at hx hy
  have h0 := of_decide_eq_true hx.1
  have h1 := of_decide_eq_true hy.1
  have e1 : x = ((x.toNat : Nat) : Int) := by omega
  have e2 : y = ((y.toNat : Nat) : Int) := by omega
  have := lk_nat x.toNat y.toNat
  rw [← e1, ← e2] at this
  exact this
theorem mem_putL {bl : List (Int × Int)} {k z : Int × Int} : z ∈ putL bl k ↔ z ∈ bl ∨ z = k := by
  unfold putL
  by_cases e : k ∈ bl
  · rw [if_pos e]
    exact ⟨.inl, fun h => h.elim id fun h => h ▸ e⟩
  · rw [if_neg e, List.mem_append, List.mem_singleton]
theorem setLink_eq (h : Hl s S bk) (blocks : Bool) : setLink s blocks x y = if ((isNumber x && isNumber y) && linkB S.g.config x y) = true then ({ s with blocked := if blocks then (s.blocked.filter fun l => decide (l ≠ (min x.toNat y.toNat, max x.toNat y.toNat))) ++ [(min x.toNat y.toNat, max x.toNat y.toNat)] else s.blocked.filter fun l => decide (l ≠ (min x.toNat y.toNat, max x.toNat y.toNat)) }, [0]) else (s, [-13]) := by
  unfold setLink
  rw [h.group]
  dsimp only
  rw [← link_cond h]
  rfl
theorem putL_le (bl : List (Int × Int)) (k : Int × Int) : (putL bl k).length ≤ bl.length + 1 := by
  unfold putL
  by_cases e : k ∈ bl
  · rw [if_pos e]; exact Nat.le_succ _
  · rw [if_neg e, List.length_append]; exact Nat.le_refl _
theorem donekL (h : Hl s S bk) (blocks : Bool) (hnum : num = if blocks then 12 else 13) (e : stepRows s [[num, x, y]] = setLink s blocks x y) : DoneK S bk num [x, y] (Rr s num [x, y]) (Tt s S num [x, y]) := by
  have hn : num = 12 ∨ num = 13 := by cases blocks <;> simp at hnum <;> omega
  have hv : inRangeB num [x, y] = (isNumber x && isNumber y) := by rw [irN (by omega) (by omega)]; simp
  have hb : decide (num = 12) = blocks := by cases blocks <;> simp at hnum <;> (rw [hnum]; decide)
  have nmf : num ∉ mFirst := by
    intro z
    have : num = 1 ∨ num = 5 ∨ num = 6 ∨ num = 7 ∨ num = 8 ∨ num = 9 ∨ num = 14 ∨ num = 15 ∨ num = 16 := by simpa [mFirst] using z
    omega
  have npl : num ∉ places := by
    intro z
    have : num = 2 ∨ num = 3 ∨ num = 4 := by simpa [places] using z
    omega
  refine ⟨fun a => ?_, fun ns a b c d => absurd c nmf, fun ns a b c d => absurd c npl, fun a b c => ?_, fun a b c => ?_, fun ns a b i n c d q => by omega, fun ns a b i n c d q => by omega, fun ns a b i n c d q => by omega, fun ns a b c => by omega, fun a b => by omega, fun ns a b i n r c d m => ?_, fun ns a b r m => ?_⟩
  · show stepRows s [[num, x, y]] = _
    rw [e, setLink_eq h, ← hv, a, Bool.false_and, if_neg Bool.false_ne_true]
  · show stepRows s [[num, x, y]] = _
    have c : linkB S.g.config x y = false := c
    rw [e, setLink_eq h, ← hv, a, Bool.true_and, c, if_neg Bool.false_ne_true]
  · have c : linkB S.g.config x y = true := c
    rw [hv, Bool.and_eq_true] at a
    have lp := lk_pair a.1 a.2
    show Nx s S (stepRows s [[num, x, y]]) { S with bl := if num = 12 then putL S.bl (lk x y) else S.bl.filter fun z => decide (z ≠ lk x y) } [0]
    rw [e, setLink_eq h, a.1, a.2, c]
    rw [if_pos (show ((true && true) && true) = true from rfl)]
    generalize min x.toNat y.toNat = p at lp
    generalize max x.toNat y.toNat = q at lp
    refine ⟨rfl, ⟨_, h.group, rfl, h.elections, h.ok, ?_⟩, rfl, Nat.le_add_right _ _, ?_⟩
    · intro u v
      have ek : (((u : Int), (v : Int)) = lk x y) ↔ (u, v) = (p, q) := by
        rw [lp]
        constructor
        · intro z
          have z1 := (Prod.mk.inj z).1
          have z2 := (Prod.mk.inj z).2
          rw [show u = p by omega, show v = q by omega]
        · intro z
          rw [(Prod.mk.inj z).1, (Prod.mk.inj z).2]
      have eb := h.bl u v
      rw [← h.blocked] at eb
      cases blocks with
      | true =>
        have n12 : num = 12 := of_decide_eq_true hb
        dsimp only
        rw [if_pos n12, mem_putL, eb, ek, if_pos rfl, List.mem_append, List.mem_filter, List.mem_singleton]
        constructor
        · rintro (z | z)
          · by_cases w : (u, v) = (p, q)
            · exact .inr w
            · exact .inl ⟨z, decide_eq_true w⟩
          · exact .inr z
        · rintro (z | z)
          · exact .inl z.1
          · exact .inr z
      | false =>
        have n12 : ¬ num = 12 := of_decide_eq_false hb
        dsimp only
        rw [if_neg n12, if_neg Bool.false_ne_true, List.mem_filter, List.mem_filter, eb]
        constructor
        · rintro ⟨z1, z2⟩
          exact ⟨z1, decide_eq_true fun w => (of_decide_eq_true z2) (ek.mpr w)⟩
        · rintro ⟨z1, z2⟩
          exact ⟨z1, decide_eq_true fun w => (of_decide_eq_true z2) (ek.mp w)⟩
    · dsimp only
      split
      · exact putL_le _ _
      · exact Nat.le_trans (List.length_filter_le _ _) (Nat.le_succ _)
  · rcases m with ⟨z, _⟩ | ⟨z, _⟩ | ⟨z, _⟩ | ⟨z, _⟩ | ⟨z, _⟩ | ⟨z, _⟩ <;> omega
  · rcases m with ⟨z, _⟩ | ⟨z, _⟩ | ⟨z, _⟩ | ⟨z, _⟩ | ⟨z, _⟩ <;> omega
/-- every operation -/
theorem donek (h : Hl s S bk) (n1 : 1 ≤ num) (n18 : num ≤ 18) (hl : as.length = argc num) : DoneK S bk num as (Rr s num as) (Tt s S num as) := by
  have hc : num = 1 ∨ num = 2 ∨ num = 3 ∨ num = 4 ∨ num = 5 ∨ num = 6 ∨ num = 7 ∨ num = 8 ∨ num = 9 ∨ num = 10 ∨ num = 11 ∨ num = 12 ∨ num = 13 ∨ num = 14 ∨ num = 15 ∨ num = 16 ∨ num = 17 ∨ num = 18 := by omega
  rcases hc with e | e | e | e | e | e | e | e | e | e | e | e | e | e | e | e | e | e <;> subst e
  · obtain ⟨x, y, rfl⟩ := len2 hl; exact donek1 h
  · obtain ⟨x, rfl⟩ := len1 hl; exact donek2 h
  · obtain ⟨x, rfl⟩ := len1 hl; exact donek3 h
  · obtain ⟨x, rfl⟩ := len1 hl; exact donek4 h
  · obtain ⟨x, y, rfl⟩ := len2 hl; exact donek5 h
  · obtain ⟨x, y, rfl⟩ := len2 hl; exact donek6 h
  · obtain ⟨x, rfl⟩ := len1 hl; exact donek7 h
  · obtain ⟨x, y, z, rfl⟩ := len3 hl; exact donek8 h
  · obtain ⟨x, y, rfl⟩ := len2 hl; exact donek9 h
  · obtain ⟨x, rfl⟩ := len1 hl; exact donek10 h
  · obtain ⟨x, rfl⟩ := len1 hl; exact donek11 h
  · obtain ⟨x, y, rfl⟩ := len2 hl; exact donekL h true rfl rfl
  · obtain ⟨x, y, rfl⟩ := len2 hl; exact donekL h false rfl rfl
  · obtain ⟨x, rfl⟩ := len1 hl; exact donek14 h
  · obtain ⟨x, rfl⟩ := len1 hl; exact donek15 h
  · obtain ⟨x, rfl⟩ := len1 hl; exact donek16 h
  · obtain ⟨x, rfl⟩ := len1 hl; exact donek17 h
  · cases len0 hl; exact donek18 h
/-- before the first group -/
theorem nothing_yet (h : s.group = none) (n1 : 1 ≤ num) (n18 : num ≤ 18) (hl : as.length = argc num) : stepRows s [num :: as] = (s, [-10]) := by
  have ha : ∀ v f, VbrcafPlay.act s v f = (s, [-10]) := fun v f => by unfold VbrcafPlay.act; rw [h]; rfl
  have ht : ∀ v f, tell s v f = (s, [-10]) := fun v f => by unfold tell; rw [h]; rfl
  have hL : ∀ b x y, setLink s b x y = (s, [-10]) := fun b x y => by unfold setLink; rw [h]; rfl
  have hc : num = 1 ∨ num = 2 ∨ num = 3 ∨ num = 4 ∨ num = 5 ∨ num = 6 ∨ num = 7 ∨ num = 8 ∨ num = 9 ∨ num = 10 ∨ num = 11 ∨ num = 12 ∨ num = 13 ∨ num = 14 ∨ num = 15 ∨ num = 16 ∨ num = 17 ∨ num = 18 := by omega
  rcases hc with e | e | e | e | e | e | e | e | e | e | e | e | e | e | e | e | e | e <;> subst e
  · obtain ⟨x, y, rfl⟩ := len2 hl; exact ha _ _
  · obtain ⟨x, rfl⟩ := len1 hl; exact ha _ _
  · obtain ⟨x, rfl⟩ := len1 hl; exact ha _ _
  · obtain ⟨x, rfl⟩ := len1 hl; exact ha _ _
  · obtain ⟨x, y, rfl⟩ := len2 hl; exact ha _ _
  · obtain ⟨x, y, rfl⟩ := len2 hl; exact ha _ _
  · obtain ⟨x, rfl⟩ := len1 hl; exact ha _ _
  · obtain ⟨x, y, z, rfl⟩ := len3 hl; exact ha _ _
  · obtain ⟨x, y, rfl⟩ := len2 hl; exact ha _ _
  · obtain ⟨x, rfl⟩ := len1 hl; exact ha _ _
  · obtain ⟨x, rfl⟩ := len1 hl; exact ha _ _
  · obtain ⟨x, y, rfl⟩ := len2 hl; exact hL _ _ _
  · obtain ⟨x, y, rfl⟩ := len2 hl; exact hL _ _ _
  · obtain ⟨x, rfl⟩ := len1 hl; exact ht _ _
  · obtain ⟨x, rfl⟩ := len1 hl; exact ht _ _
  · obtain ⟨x, rfl⟩ := len1 hl; exact ht _ _
  · obtain ⟨x, rfl⟩ := len1 hl; exact ht _ _
  · cases len0 hl; exact ht _ _
end
end Lp
/-! Part P14: a group's beginning. -/
namespace Lp
open VbrcCore VbrcafPlay
theorem asc_iff : ∀ l : List Nat, Vbrcaa.isAscending l = true ↔ l.Pairwise (· < ·)
  | [] => ⟨fun _ => .nil, fun _ => rfl⟩
  | [a] => ⟨fun _ => List.pairwise_singleton _ _, fun _ => rfl⟩
  | a :: b :: r => by
    show (decide (a < b) && Vbrcaa.isAscending (b :: r)) = true ↔ _
    rw [Bool.and_eq_true, asc_iff (b :: r), decide_eq_true_eq]
    constructor
    · rintro ⟨h1, h2⟩
      refine List.pairwise_cons.mpr ⟨fun x hx => ?_, h2⟩
      rcases List.mem_cons.mp hx with z | z
      · rw [z]; exact h1
      · exact Nat.lt_trans h1 ((List.pairwise_cons.mp h2).1 x z)
    · intro h
      obtain ⟨h1, h2⟩ := List.pairwise_cons.mp h
      exact ⟨h1 b (List.mem_cons_self ..), h2⟩
theorem zip_asc : ∀ l : List Nat, (((iN l).zip ((iN l).drop 1)).all fun x => decide (x.1 < x.2)) = Vbrcaa.isAscending l
  | [] => rfl
  | [a] => rfl
  | a :: b :: r => by
    have ih := zip_asc (b :: r)
    show (decide ((a : Int) < (b : Int)) && (((iN (b :: r)).zip ((iN (b :: r)).drop 1)).all fun x => decide (x.1 < x.2))) = (decide (a < b) && Vbrcaa.isAscending (b :: r))
    rw [ih]
    congr 1
    exact decide_eq_decide.mpr (by omega)
theorem listB_nat (l : List Nat) : isListB (iN l) = Vbrcaa.isMemberList l := by
  unfold isListB Vbrcaa.isMemberList
  rw [zip_asc, Bool.and_comm]
  congr 1
  unfold iN
  rw [List.all_map]
  congr 1
  funext n
  show (decide (1 ≤ (n : Int)) && decide ((n : Int) ≤ 9)) = (decide (1 ≤ n) && decide (n ≤ memberLimit))
  congr 1
  · exact decide_eq_decide.mpr (by omega)
  · exact decide_eq_decide.mpr (by unfold memberLimit; omega)
theorem listB_number {ns : List Int} (h : isListB ns = true) : ns.all isNumber = true := by
  unfold isListB at h
  rw [Bool.and_eq_true] at h
  rw [List.all_eq_true]
  intro x hx
  have := List.all_eq_true.mp h.1 x hx
  rw [Bool.and_eq_true] at this
  have h1 := of_decide_eq_true this.1
  have h2 := of_decide_eq_true this.2
  rw [isNumber_eq, decide_eq_true (by omega : 0 ≤ x), decide_eq_true (by omega : x ≤ 1000000000)]
  rfl
theorem number_nat {ns : List Int} (h : ns.all isNumber = true) : ns = iN (toNats ns) := by
  unfold iN toNats
  rw [List.map_map]
  refine (List.map_id' ns).symm.trans (List.map_congr_left fun x hx => ?_)
  have := List.all_eq_true.mp h x hx
  rw [isNumber_eq, Bool.and_eq_true] at this
  have := of_decide_eq_true this.1
  show x = ((x.toNat : Nat) : Int)
  omega
theorem iN_toNat (a : List Nat) : (iN a).map Int.toNat = a := by
  unfold iN
  rw [List.map_map]
  exact List.map_id' a
theorem valid_nat (a b c : List Nat) : isValidB (iN a) (iN b) (iN c) = Vbrcaa.isConfig ⟨a, b, c⟩ := by
  unfold isValidB Vbrcaa.isConfig
  rw [listB_nat, listB_nat, listB_nat]
  dsimp only
  have e1 : decide (0 < ((iN a).length : Int)) = !a.isEmpty := by
    rw [iN_length]
    cases a with
    | nil => rfl
    | cons x r => exact decide_eq_true (by show (0 : Int) < ((r.length + 1 : Nat) : Int); omega)
  have e2 : (!decide (iN a = iN b)) = decide (a ≠ b) := by
    by_cases e : a = b
    · rw [e, decide_eq_true rfl, decide_eq_false (fun z => z rfl)]; rfl
    · rw [decide_eq_true e, decide_eq_false]
      · rfl
      · intro z
        apply e
        have := congrArg (fun l => l.map Int.toNat) z
        exact (iN_toNat a).symm.trans (this.trans (iN_toNat b))
  have e3 : (!(iN a).any fun n => (iN c).contains n) = a.all fun v => !c.contains v := by
    unfold iN
    rw [List.any_map, List.not_any_eq_all_not]
    congr 1
    funext n
    show (!(iN c).contains (n : Int)) = !c.contains n
    rw [iN_contains]
  rw [e1, e2, e3]
  congr 1
  congr 1
  congr 1
  congr 1
  exact Bool.and_comm _ _
theorem valid_eq (v o l : List Int) : isValidB v o l = (v.all isNumber && (o.all isNumber && (l.all isNumber && Vbrcaa.isConfig ⟨toNats v, toNats o, toNats l⟩))) := by
  have no : ∀ ns : List Int, ns.all isNumber = false → isListB ns = false := fun ns h => by
    cases e : isListB ns with
    | false => rfl
    | true => rw [listB_number e] at h; cases h
  cases a : v.all isNumber with
  | false => unfold isValidB; rw [no v a]; rfl
  | true =>
    cases b : o.all isNumber with
    | false => unfold isValidB; rw [no o b]; simp
    | true =>
      cases c : l.all isNumber with
      | false => unfold isValidB; rw [no l c]; simp
      | true =>
        have := valid_nat (toNats v) (toNats o) (toNats l)
        rw [← number_nat a, ← number_nat b, ← number_nat c] at this
        rw [this]
        rfl
theorem insert_asc (n : Nat) : ∀ {l : List Nat}, l.Pairwise (· < ·) → (insertNumber n l).Pairwise (· < ·)
  | [], _ => List.pairwise_singleton _ _
  | a :: l, h => by
    obtain ⟨h1, h2⟩ := List.pairwise_cons.mp h
    unfold insertNumber
    by_cases e : n < a
    · rw [if_pos e]
      refine List.pairwise_cons.mpr ⟨fun x hx => ?_, h⟩
      rcases List.mem_cons.mp hx with z | z
      · rw [z]; exact e
      · exact Nat.lt_trans e (h1 x z)
    · rw [if_neg e]
      by_cases e2 : n = a
      · rw [if_pos e2]; exact h
      · rw [if_neg e2]
        refine List.pairwise_cons.mpr ⟨fun x hx => ?_, insert_asc n h2⟩
        rcases (mem_insertNumber n l x).mp hx with z | z
        · omega
        · exact h1 x z
theorem fold_asc : ∀ (l acc : List Nat), acc.Pairwise (· < ·) → (l.foldl (fun l n => insertNumber n l) acc).Pairwise (· < ·)
  | [], _, h => h
  | n :: l, acc, h => fold_asc l (insertNumber n acc) (insert_asc n h)
theorem asc_short : ∀ {l : List Nat} {a : Nat}, l.Pairwise (· < ·) → (∀ x ∈ l, a ≤ x ∧ x ≤ 9) → a ≤ 10 → l.length + a ≤ 10
  | [], a, _, _, h => by simpa using h
  | x :: l, a, h, hb, _ => by
    obtain ⟨h1, h2⟩ := List.pairwise_cons.mp h
    have hx := hb x (List.mem_cons_self ..)
    have := asc_short (l := l) (a := x + 1) h2 (fun y hy => ⟨h1 y hy, (hb y (List.mem_cons_of_mem _ hy)).2⟩) (by omega)
    show l.length + 1 + a ≤ 10
    omega
theorem member_list {l : List Nat} (h : Vbrcaa.isMemberList l = true) : l.Pairwise (· < ·) ∧ (∀ x ∈ l, 1 ≤ x ∧ x ≤ 9) ∧ l.length ≤ 9 := by
  unfold Vbrcaa.isMemberList at h
  rw [Bool.and_eq_true] at h
  have h1 := (asc_iff l).mp h.1
  have h2 : ∀ x ∈ l, 1 ≤ x ∧ x ≤ 9 := fun x hx => by
    have := List.all_eq_true.mp h.2 x hx
    rw [Bool.and_eq_true] at this
    exact ⟨of_decide_eq_true this.1, of_decide_eq_true this.2⟩
  exact ⟨h1, h2, by have := asc_short h1 h2 (by decide); omega⟩
/-- what a valid configuration has -/
structure CfOk (c : Config) : Prop where
  asc : (everyone c).Pairwise (· < ·)
  h9 : (everyone c).length ≤ 9
  pos : ∀ x ∈ everyone c, x ≠ 0
  cfg : CfgOk (toC c)
  sum : c.voters.length + c.outgoing.length + c.learners.length ≤ 27
theorem config_ok {c : Config} (h : Vbrcaa.isConfig c = true) : CfOk c := by
  unfold Vbrcaa.isConfig at h
  rw [Bool.and_eq_true, Bool.and_eq_true, Bool.and_eq_true] at h
  obtain ⟨v1, v2, v3⟩ := member_list h.1
  obtain ⟨o1, o2, o3⟩ := member_list h.2.1
  obtain ⟨l1, l2, l3⟩ := member_list h.2.2.1
  have a : (everyone c).Pairwise (· < ·) := fold_asc _ _ v1
  have b : ∀ x ∈ everyone c, 1 ≤ x ∧ x ≤ 9 := fun x hx => by
    rcases (mem_everyone c x).mp hx with z | z | z
    · exact v2 x z
    · exact o2 x z
    · exact l2 x z
  have n9 : (everyone c).length ≤ 9 := by have := asc_short a b (by decide); omega
  exact ⟨a, n9, fun x hx => by have := (b x hx).1; omega, ⟨by show (iN (everyone c)).length ≤ 9; rw [iN_length]; exact n9, by show (iN c.voters).length ≤ 9; rw [iN_length]; exact v3, by show (iN c.outgoing).length ≤ 9; rw [iN_length]; exact o3⟩, by omega⟩
theorem begin_ok {c : Config} (h : CfOk c) : GOk (begin c) := by
  refine ⟨?_, h.asc, h.h9, h.pos, fun n hn => ?_, fun m hm => by cases hm⟩
  · show ((everyone c).map _).map _ = _
    rw [List.map_map]
    exact List.map_id' _
  · obtain ⟨x, hx, rfl⟩ := List.mem_map.mp (show n ∈ (everyone c).map _ from hn)
    exact ⟨hx, fun _ => ⟨rfl, rfl⟩, List.Pairwise.nil, rfl, (fun y hy => by cases hy), fun z => by cases z⟩
theorem begin_tot (c : Config) : GS.tot ⟨begin c, [], 0, []⟩ = 0 := by
  show sumPhi (begin c).nodes + 0 + 0 = 0
  have : ∀ l : List Nat, sumPhi (l.map fun m => { stopped m ⟨0, 0⟩ 0 0 with alive := true }) = 0 := by
    intro l
    unfold sumPhi
    induction l with
    | nil => rfl
    | cons a r ih => rw [List.map_cons, List.map_cons, List.sum_cons, ih]; rfl
  exact this _
theorem asc_ext : ∀ {a b : List Int}, a.Pairwise (· < ·) → b.Pairwise (· < ·) → (∀ x, x ∈ a ↔ x ∈ b) → a = b
  | [], [], _, _, _ => rfl
  | [], y :: b, _, _, h => absurd ((h y).mpr (List.mem_cons_self ..)) (by simp)
  | x :: a, [], _, _, h => absurd ((h x).mp (List.mem_cons_self ..)) (by simp)
  | x :: a, y :: b, ha, hb, h => by
    obtain ⟨a1, a2⟩ := List.pairwise_cons.mp ha
    obtain ⟨b1, b2⟩ := List.pairwise_cons.mp hb
    have e : x = y := by
      rcases List.mem_cons.mp ((h x).mp (List.mem_cons_self ..)) with z | z
      · exact z
      · rcases List.mem_cons.mp ((h y).mpr (List.mem_cons_self ..)) with w | w
        · exact w.symm
        · have := a1 y w
          have := b1 x z
          omega
    subst e
    rw [asc_ext a2 b2 fun z => ?_]
    constructor
    · intro hz
      rcases List.mem_cons.mp ((h z).mp (List.mem_cons_of_mem _ hz)) with w | w
      · have := a1 z hz; omega
      · exact w
    · intro hz
      rcases List.mem_cons.mp ((h z).mpr (List.mem_cons_of_mem _ hz)) with w | w
      · have := b1 z hz; omega
      · exact w
theorem everyone_is {c : Config} (h : CfOk c) {ns : List Int} (h1 : ns.Pairwise (· < ·)) (h2 : ∀ k : Int, k ∈ ns ↔ k ∈ iN c.voters ++ iN c.outgoing ++ iN c.learners) : ns = iN (everyone c) := by
  refine asc_ext h1 (asc_iN h.asc) fun x => ?_
  rw [h2 x, List.mem_append, List.mem_append]
  have key : ∀ l : List Nat, x ∈ iN l ↔ ∃ n ∈ l, (n : Int) = x := fun l => List.mem_map
  rw [key, key, key, key]
  constructor
  · rintro ((⟨n, hn, e⟩ | ⟨n, hn, e⟩) | ⟨n, hn, e⟩)
    · exact ⟨n, (mem_everyone c n).mpr (.inl hn), e⟩
    · exact ⟨n, (mem_everyone c n).mpr (.inr (.inl hn)), e⟩
    · exact ⟨n, (mem_everyone c n).mpr (.inr (.inr hn)), e⟩
  · rintro ⟨n, hn, e⟩
    rcases (mem_everyone c n).mp hn with z | z | z
    · exact .inl (.inl ⟨n, z, e⟩)
    · exact .inl (.inr ⟨n, z, e⟩)
    · exact .inr ⟨n, z, e⟩
theorem begin_row (s : State) (v o l : List Int) : stepRows s [[0], v, o, l] = if isValidB v o l = true then (⟨some (begin ⟨toNats v, toNats o, toNats l⟩), [], []⟩, [0, Int.ofNat (everyone ⟨toNats v, toNats o, toNats l⟩).length]) else (s, [-13]) := by
  rw [valid_eq]
  rfl
end Lp
/-! Part P15: the hall's state between the calls; the calls in one list. -/
namespace Lp
open PySem PySem.Spec PyProof.Rows L2
/-- before the first group -/
structure Bs (Hi H : Hp) (X : List (Addr × HO)) : Prop where
  keep : ∀ b o, Hi b = some o → H b = some o
  loc : ∀ q ∈ X, H q.1 = some q.2 ∧ Hi q.1 = none
  nd : (X.map (·.1)).Nodup
def now : Ow := fun _ => none
/-- gv: the variable group; s: the specification's state; n: how many calls are behind -/
def Sit (C : Cl) (Hi H : Hp) (gv : V) (s : VbrcafPlay.State) (n : Nat) (X : List (Addr × HO)) : Prop :=
  (gv = .non ∧ s.group = none ∧ Bs Hi H X) ∨
  (∃ w g S A ps bk, gv = .ref g ∧ GAt C Hi now H w g (toG S) A ps X ∧ Hl s S bk ∧ CfgOk (toC S.g.config) ∧ S.tot ≤ 34920 * n ∧ S.bl.length ≤ n)
section
variable {C : Cl} {Hi H H' : Hp} {gv : V} {s : VbrcafPlay.State} {n : Nat} {X : List (Addr × HO)} {q : Addr} {o u : HO} {x y : Addr × HO}
theorem Bs.free (h : Bs Hi H X) (hq : H q = none) : Hi q = none := by
  cases e : Hi q with
  | none => rfl
  | some u => have := h.keep q u e; rw [hq] at this; cases this
theorem Bs.got (h : Bs Hi H X) (s : Same H H') (hq : H q = none) (e : H' q = some o) : Bs Hi H' ((q, o) :: X) := by
  refine ⟨fun b u z => s b u (h.keep b u z), fun y hy => ?_, ?_⟩
  · rcases List.mem_cons.mp hy with z | z
    · subst z; exact ⟨e, h.free hq⟩
    · exact ⟨s _ _ (h.loc y z).1, (h.loc y z).2⟩
  · rw [List.map_cons, List.nodup_cons]
    refine ⟨fun z => ?_, h.nd⟩
    obtain ⟨y, hy, ey⟩ := List.mem_map.mp z
    have := (h.loc y hy).1
    rw [show y.1 = q from ey, hq] at this
    cases this
theorem Bs.setX (h : Bs Hi H ((q, o) :: X)) : Bs Hi (upd H q u) ((q, u) :: X) := by
  have nd := h.nd
  rw [List.map_cons, List.nodup_cons] at nd
  have l := h.loc _ (List.mem_cons_self ..)
  refine ⟨fun b v z => by rw [upd_ne (ne_of_none z l.2)]; exact h.keep b v z, fun y hy => ?_, h.nd⟩
  rcases List.mem_cons.mp hy with z | z
  · subst z; exact ⟨upd_same, l.2⟩
  · rw [upd_ne fun e => nd.1 (List.mem_map.mpr ⟨y, z, e⟩)]
    exact h.loc y (List.mem_cons_of_mem _ z)
theorem nd_swap (h : ((x :: y :: X).map (·.1)).Nodup) : ((y :: x :: X).map (·.1)).Nodup := by
  simp only [List.map_cons, List.nodup_cons, List.mem_cons, not_or] at h ⊢
  exact ⟨⟨fun z => h.1.1 z.symm, h.2.1⟩, h.1.2, h.2.2⟩
theorem mem_swap {z : Addr × HO} (h : z ∈ y :: x :: X) : z ∈ x :: y :: X := by
  simp only [List.mem_cons] at h ⊢
  rcases h with h | h | h
  · exact .inr (.inl h)
  · exact .inl h
  · exact .inr (.inr h)
theorem GAt.swap {H0 : Hp} {w0 w : Ow} {g : Addr} {S : GM} {A : GA} {ps : List Addr} (h : GAt C H0 w0 H w g S A ps (x :: y :: X)) : GAt C H0 w0 H w g S A ps (y :: x :: X) :=
  ⟨h.gp, h.cf, h.mbs, h.len, h.nd, h.n0, h.ok, h.fr, fun z hz => h.loc z (mem_swap hz), nd_swap h.ndX⟩
theorem GAt.thenX {H0 : Hp} {w0 w w' : Ow} {g : Addr} {S S' : GM} {A A' : GA} {ps : List Addr} (h : GAt C H0 w0 H w g S A ps X) (k : GAt C H w H' w' g S' A' ps [(q, o)]) : GAt C H0 w0 H' w' g S' A' ps ((q, o) :: X) := by
  have l := k.loc _ (List.mem_cons_self ..)
  refine ⟨k.gp, k.cf, k.mbs, k.len, k.nd, k.n0, k.ok, h.fr.trans k.fr, fun z hz => ?_, ?_⟩
  · rcases List.mem_cons.mp hz with e | e
    · subst e; exact ⟨l.1, l.2.1, h.old l.2.2⟩
    · obtain ⟨a, b, d⟩ := h.loc z e
      exact ⟨(k.fr.keep z.1 z.2 a b).1, (k.fr.keep z.1 z.2 a b).2, d⟩
  · rw [List.map_cons, List.nodup_cons]
    refine ⟨fun z => ?_, h.ndX⟩
    obtain ⟨y, hy, ey⟩ := List.mem_map.mp z
    have := (h.loc y hy).1
    rw [show y.1 = q from ey, l.2.2] at this
    cases this
theorem Sit.got (h : Sit C Hi H gv s n X) (sm : Same H H') (hq : H q = none) (e : H' q = some o) : Sit C Hi H' gv s n ((q, o) :: X) := by
  rcases h with ⟨a, b, c⟩ | ⟨w, g, S, A, ps, bk, a, b, c⟩
  · exact .inl ⟨a, b, c.got sm hq e⟩
  · exact .inr ⟨w, g, S, A, ps, bk, a, b.got sm hq e, c⟩
theorem Sit.alloc (h : Sit C Hi H gv s n X) (hq : H q = none) : Sit C Hi (upd H q o) gv s n ((q, o) :: X) := h.got (same_upd hq) hq upd_same
theorem Sit.tail (h : Sit C Hi H gv s n (x :: X)) : Sit C Hi H gv s n X := by
  rcases h with ⟨a, b, c⟩ | ⟨w, g, S, A, ps, bk, a, b, c⟩
  · exact .inl ⟨a, b, c.keep, fun y hy => c.loc y (List.mem_cons_of_mem _ hy), (List.nodup_cons.mp (by have := c.nd; rwa [List.map_cons] at this)).2⟩
  · exact .inr ⟨w, g, S, A, ps, bk, a, b.tail, c⟩
theorem Sit.setX (h : Sit C Hi H gv s n ((q, o) :: X)) (ho : ∀ xs, o ≠ .tup xs) (hu : ∀ xs, u ≠ .tup xs) : Sit C Hi (upd H q u) gv s n ((q, u) :: X) := by
  rcases h with ⟨a, b, c⟩ | ⟨w, g, S, A, ps, bk, a, b, c⟩
  · exact .inl ⟨a, b, c.setX⟩
  · exact .inr ⟨w, g, S, A, ps, bk, a, b.setX ho hu, c⟩
theorem Sit.swap (h : Sit C Hi H gv s n (x :: y :: X)) : Sit C Hi H gv s n (y :: x :: X) := by
  rcases h with ⟨a, b, c⟩ | ⟨w, g, S, A, ps, bk, a, b, c⟩
  · exact .inl ⟨a, b, c.keep, fun z hz => c.loc z (mem_swap hz), nd_swap c.nd⟩
  · exact .inr ⟨w, g, S, A, ps, bk, a, b.swap, c⟩
theorem Sit.bs (h : Sit C Hi H gv s n X) : Bs Hi H X := by
  rcases h with ⟨a, b, c⟩ | ⟨w, g, S, A, ps, bk, a, b, c⟩
  · exact c
  · exact ⟨fun z o e => (b.fr.keep z o e rfl).1, fun z hz => ⟨(b.loc z hz).1, (b.loc z hz).2.2⟩, b.ndX⟩
theorem Sit.at (h : Sit C Hi H gv s n X) (hx : x ∈ X) : H x.1 = some x.2 := (h.bs.loc x hx).1
theorem Sit.head (h : Sit C Hi H gv s n ((q, o) :: X)) : H q = some o := h.at (List.mem_cons_self ..)
theorem Sit.seq (h : Sit C Hi H gv s n X) {K : PySem.W.Frag} {a : Addr} {xs : List V} (e : SqL K Hi a xs) : SqL K H a xs := L2.Same.seq h.bs.keep e
theorem Sit.mono {m : Nat} (h : Sit C Hi H gv s n X) (l : n ≤ m) : Sit C Hi H gv s m X := by
  rcases h with ⟨a, b, c⟩ | ⟨w, g, S, A, ps, bk, a, b, c, d, e, f⟩
  · exact .inl ⟨a, b, c⟩
  · exact .inr ⟨w, g, S, A, ps, bk, a, b, c, d, Nat.le_trans e (Nat.mul_le_mul_left _ l), Nat.le_trans f l⟩
end
/-! ### the calls in one list -/
theorem shape_is {p : Int} {n k : Nat} (h : PyVbrcaf.shape p = some (n, k)) : (p = 0 ∧ n = 0 ∧ k = 3) ∨ (1 ≤ p ∧ p ≤ 18 ∧ n = argc p ∧ k = 0) := by
  by_cases e : p = 0
  · subst e
    have h : some ((0, 3) : Nat × Nat) = some (n, k) := h
    have h := Option.some.inj h
    exact .inl ⟨rfl, (Prod.mk.inj h).1.symm, (Prod.mk.inj h).2.symm⟩
  · refine .inr ?_
    by_cases r : 1 ≤ p ∧ p ≤ 18
    · have hc : p = 1 ∨ p = 2 ∨ p = 3 ∨ p = 4 ∨ p = 5 ∨ p = 6 ∨ p = 7 ∨ p = 8 ∨ p = 9 ∨ p = 10 ∨ p = 11 ∨ p = 12 ∨ p = 13 ∨ p = 14 ∨ p = 15 ∨ p = 16 ∨ p = 17 ∨ p = 18 := by omega
      have key : PyVbrcaf.shape p = some (argc p, 0) := by rcases hc with e | e | e | e | e | e | e | e | e | e | e | e | e | e | e | e | e | e <;> subst e <;> rfl
      have h := Option.some.inj (key.symm.trans h)
      exact ⟨r.1, r.2, (Prod.mk.inj h).1.symm, (Prod.mk.inj h).2.symm⟩
    · unfold PyVbrcaf.shape at h
      rw [if_neg e, if_neg (by omega : ¬ p = 1), if_neg (by omega : ¬ p = 2), if_neg (by omega : ¬ p = 3), if_neg (by omega : ¬ p = 4), if_neg (by omega : ¬ p = 5), if_neg (by omega : ¬ p = 6), if_neg (by omega : ¬ p = 7), if_neg (by omega : ¬ p = 8), if_neg (by omega : ¬ p = 9), if_neg (by omega : ¬ p = 10), if_neg (by omega : ¬ p = 11), if_neg (by omega : ¬ p = 12), if_neg (by omega : ¬ p = 13), if_neg (by omega : ¬ p = 14), if_neg (by omega : ¬ p = 15), if_neg (by omega : ¬ p = 16), if_neg (by omega : ¬ p = 17), if_neg (by omega : ¬ p = 18)] at h
      cases h
theorem whole_is {p : Int} {xs : List Int} (h1 : 1 ≤ p) (h2 : p ≤ 18) (hl : xs.length = argc p) : PyVbrcaf.whole [p :: xs] = [p :: xs] := by
  have hc : p = 1 ∨ p = 2 ∨ p = 3 ∨ p = 4 ∨ p = 5 ∨ p = 6 ∨ p = 7 ∨ p = 8 ∨ p = 9 ∨ p = 10 ∨ p = 11 ∨ p = 12 ∨ p = 13 ∨ p = 14 ∨ p = 15 ∨ p = 16 ∨ p = 17 ∨ p = 18 := by omega
  rcases hc with e | e | e | e | e | e | e | e | e | e | e | e | e | e | e | e | e | e <;> subst e
  · obtain ⟨x, y, rfl⟩ := len2 hl; rfl
  · obtain ⟨x, rfl⟩ := len1 hl; rfl
  · obtain ⟨x, rfl⟩ := len1 hl; rfl
  · obtain ⟨x, rfl⟩ := len1 hl; rfl
  · obtain ⟨x, y, rfl⟩ := len2 hl; rfl
  · obtain ⟨x, y, rfl⟩ := len2 hl; rfl
  · obtain ⟨x, rfl⟩ := len1 hl; rfl
  · obtain ⟨x, y, z, rfl⟩ := len3 hl; rfl
  · obtain ⟨x, y, rfl⟩ := len2 hl; rfl
  · obtain ⟨x, rfl⟩ := len1 hl; rfl
  · obtain ⟨x, rfl⟩ := len1 hl; rfl
  · obtain ⟨x, y, rfl⟩ := len2 hl; rfl
  · obtain ⟨x, y, rfl⟩ := len2 hl; rfl
  · obtain ⟨x, rfl⟩ := len1 hl; rfl
  · obtain ⟨x, rfl⟩ := len1 hl; rfl
  · obtain ⟨x, rfl⟩ := len1 hl; rfl
  · obtain ⟨x, rfl⟩ := len1 hl; rfl
  · cases len0 hl; rfl
/-- what is left to be told, from a state -/
def left (s : VbrcafPlay.State) (todo : List (List (List Int))) : List Int := PyFlat.told (PyFlat.played VbrcafNeutral.step s (todo.map PyVbrcaf.whole))
theorem left_cons (s : VbrcafPlay.State) (c : List (List Int)) (cs : List (List (List Int))) : left s (c :: cs) = ((VbrcafPlay.stepRows s (PyVbrcaf.whole c)).2.length : Int) :: (VbrcafPlay.stepRows s (PyVbrcaf.whole c)).2 ++ left (VbrcafPlay.stepRows s (PyVbrcaf.whole c)).1 cs := rfl
/-- from the place i on the calls todo stand in l -/
def Todo (l : List Int) (i : Nat) (todo : List (List (List Int))) : Prop := ∃ f, PyFlat.calls PyVbrcaf.shape f (l.drop i) = some todo
theorem todo_end {l : List Int} {i : Nat} {todo : List (List (List Int))} (h : Todo l i todo) (hi : l.length ≤ i) : todo = [] := by
  obtain ⟨f, h⟩ := h
  rw [List.drop_of_length_le hi] at h
  cases f <;> exact (Option.some.inj h).symm
theorem todo_next {l : List Int} {i : Nat} {todo : List (List (List Int))} (h : Todo l i todo) (hi : i < l.length) : ∃ p c cs t, l[i]? = some p ∧ todo = c :: cs ∧
    ((1 ≤ p ∧ p ≤ 18 ∧ c = [p :: (l.drop (i + 1)).take (argc p)] ∧ ((l.drop (i + 1)).take (argc p)).length = argc p ∧ Todo l (i + 1 + argc p) cs) ∨
     (p = 0 ∧ ∃ xs, c = [0] :: xs ∧ PyFlat.rows 3 (l.drop (i + 1)) = some (xs, t) ∧ ∃ f, PyFlat.calls PyVbrcaf.shape f t = some cs)) := by
  obtain ⟨f, h⟩ := h
  have ed : l.drop i = l[i] :: l.drop (i + 1) := List.drop_eq_getElem_cons hi
  rw [ed] at h
  cases f with
  | zero => cases h
  | succ f =>
    have h : (match PyFlat.call PyVbrcaf.shape (l[i] :: l.drop (i + 1)) with
      | none => none
      | some (c, t) => match PyFlat.calls PyVbrcaf.shape f t with
        | none => none
        | some cs => some (c :: cs)) = some todo := h
    cases e1 : PyFlat.call PyVbrcaf.shape (l[i] :: l.drop (i + 1)) with
    | none => rw [e1] at h; cases h
    | some ct =>
      obtain ⟨c, t⟩ := ct
      rw [e1] at h
      dsimp only at h
      cases e2 : PyFlat.calls PyVbrcaf.shape f t with
      | none => rw [e2] at h; cases h
      | some cs =>
        rw [e2] at h
        have et : todo = c :: cs := (Option.some.inj h).symm
        have e1 : (match PyVbrcaf.shape l[i] with
          | none => none
          | some (n, k) => if (l.drop (i + 1)).length < n then none else match PyFlat.rows k ((l.drop (i + 1)).drop n) with
            | none => none
            | some (xs, t) => some ((l[i] :: (l.drop (i + 1)).take n) :: xs, t)) = some (c, t) := e1
        refine ⟨l[i], c, cs, t, List.getElem?_eq_getElem hi, et, ?_⟩
        cases e3 : PyVbrcaf.shape l[i] with
        | none => rw [e3] at e1; cases e1
        | some nk =>
          obtain ⟨n, k⟩ := nk
          rw [e3] at e1
          dsimp only at e1
          by_cases lt : (l.drop (i + 1)).length < n
          · rw [if_pos lt] at e1; cases e1
          · rw [if_neg lt] at e1
            rcases shape_is e3 with ⟨p0, rfl, rfl⟩ | ⟨p1, p18, rfl, rfl⟩
            · refine .inr ⟨p0, ?_⟩
              rw [List.drop_zero] at e1
              cases e4 : PyFlat.rows 3 (l.drop (i + 1)) with
              | none => rw [e4] at e1; cases e1
              | some xt =>
                obtain ⟨xs, t'⟩ := xt
                rw [e4] at e1
                have := Option.some.inj e1
                have ec := (Prod.mk.inj this).1
                have ett := (Prod.mk.inj this).2
                subst ett
                exact ⟨xs, by rw [← ec, p0]; rfl, rfl, f, e2⟩
            · have := Option.some.inj e1
              have ec := (Prod.mk.inj this).1
              have ett := (Prod.mk.inj this).2
              refine .inl ⟨p1, p18, ec.symm, by rw [List.length_take]; omega, f, ?_⟩
              rw [← List.drop_drop, ett]
              exact e2
theorem row_next {l : List Int} {i k : Nat} {xs : List (List Int)} {t : List Int} (h : PyFlat.rows (k + 1) (l.drop i) = some (xs, t)) : ∃ n x ys, l[i]? = some n ∧ 0 ≤ n ∧ n.toNat + (i + 1) ≤ l.length ∧ xs = x :: ys ∧ x = (l.drop (i + 1)).take n.toNat ∧ x.length = n.toNat ∧ PyFlat.rows k (l.drop (i + 1 + n.toNat)) = some (ys, t) := by
  by_cases hi : i < l.length
  · have ed : l.drop i = l[i] :: l.drop (i + 1) := List.drop_eq_getElem_cons hi
    rw [ed] at h
    have h : (match (if 0 ≤ l[i] ∧ l[i].toNat ≤ (l.drop (i + 1)).length then some ((l.drop (i + 1)).take l[i].toNat, (l.drop (i + 1)).drop l[i].toNat) else none) with
      | none => none
      | some (x, s) => match PyFlat.rows k s with
        | none => none
        | some (xs, t) => some (x :: xs, t)) = some (xs, t) := h
    by_cases c : 0 ≤ l[i] ∧ l[i].toNat ≤ (l.drop (i + 1)).length
    · rw [if_pos c] at h
      dsimp only at h
      cases e : PyFlat.rows k ((l.drop (i + 1)).drop l[i].toNat) with
      | none => rw [e] at h; cases h
      | some yt =>
        obtain ⟨ys, t'⟩ := yt
        rw [e] at h
        have := Option.some.inj h
        have e1 := (Prod.mk.inj this).1
        have e2 := (Prod.mk.inj this).2
        have cl := c.2
        rw [List.length_drop] at cl
        refine ⟨l[i], _, ys, List.getElem?_eq_getElem hi, c.1, by omega, e1.symm, rfl, by rw [List.length_take, List.length_drop]; omega, ?_⟩
        rw [← List.drop_drop, e, e2]
    · rw [if_neg c] at h; cases h
  · rw [List.drop_of_length_le (by omega)] at h
    cases h
end Lp
/-! Part P16: answers. -/
namespace Lp
open PySem PySem.Spec PyProof.Rows L2
theorem nums_at {p : Int} (h1 : 0 ≤ p) (h2 : p ≤ 18) : atI (([0, 2, 1, 1, 1, 2, 2, 1, 3, 2, 1, 1, 2, 2, 1, 1, 1, 1, 0] : List Int).map V.int) p = some (.int (argc p : Int)) := by
  have hc : p = 0 ∨ p = 1 ∨ p = 2 ∨ p = 3 ∨ p = 4 ∨ p = 5 ∨ p = 6 ∨ p = 7 ∨ p = 8 ∨ p = 9 ∨ p = 10 ∨ p = 11 ∨ p = 12 ∨ p = 13 ∨ p = 14 ∨ p = 15 ∨ p = 16 ∨ p = 17 ∨ p = 18 := by omega
  rcases hc with e | e | e | e | e | e | e | e | e | e | e | e | e | e | e | e | e | e | e <;> subst e <;> rfl
theorem argc_le {p : Int} (h1 : 0 ≤ p) (h2 : p ≤ 18) : argc p ≤ 3 := by
  have hc : p = 0 ∨ p = 1 ∨ p = 2 ∨ p = 3 ∨ p = 4 ∨ p = 5 ∨ p = 6 ∨ p = 7 ∨ p = 8 ∨ p = 9 ∨ p = 10 ∨ p = 11 ∨ p = 12 ∨ p = 13 ∨ p = 14 ∨ p = 15 ∨ p = 16 ∨ p = 17 ∨ p = 18 := by omega
  rcases hc with e | e | e | e | e | e | e | e | e | e | e | e | e | e | e | e | e | e | e <;> subst e <;> decide
theorem inside_rows {r0 r1 r2 : List Int} (h : PyInside.call PyVbrcaf.bound [[0], r0, r1, r2] = true) : r0.length ≤ 100 ∧ r1.length ≤ 100 ∧ r2.length ≤ 100 := by
  have h : (PyInside.each [] [] && PyInside.lists [(-1000000000000000000, 1000000000000000000, 0, 100), (-1000000000000000000, 1000000000000000000, 0, 100), (-1000000000000000000, 1000000000000000000, 0, 100)] [r0, r1, r2]) = true := h
  simp only [PyInside.each, PyInside.lists, Bool.and_eq_true, decide_eq_true_eq] at h
  omega
theorem Bs.same {Hi H H' : Hp} {X : List (Addr × HO)} (h : Bs Hi H X) (s : Same H H') : Bs Hi H' X := ⟨fun b u z => s b u (h.keep b u z), fun y hy => ⟨s _ _ (h.loc y hy).1, (h.loc y hy).2⟩, h.nd⟩
theorem Sit.same {C : Cl} {Hi H H' : Hp} {gv : V} {s : VbrcafPlay.State} {n : Nat} {X : List (Addr × HO)} (h : Sit C Hi H gv s n X) (sm : Same H H') : Sit C Hi H' gv s n X := by
  rcases h with ⟨a, b, c⟩ | ⟨w, g, S, A, ps, bk, a, b, c⟩
  · exact .inl ⟨a, b, c.same sm⟩
  · exact .inr ⟨w, g, S, A, ps, bk, a, b.same sm, c⟩
def three (x v o e : Addr) : Ow := fun b => if b = x ∨ b = v ∨ b = o ∨ b = e then some (0, 9) else none
section
variable {P : Program} {w : World} {K : PySem.W.Frag} {mg : Str → Option Value} {base : Heap} {C : Cl} {fI aN aM aP : Addr}
open VbrcCore VbrcafPlay
/-- a group of a valid configuration begins -/
theorem sit_begin {Hi H2 H3 : Hp} {w3 : Ow} {X : List (Addr × HO)} {x v o e x2 : Addr} {c : VbrcCore.Config} {A : GA} {ps : List Addr} {n : Nat} (hb : Bs Hi H2 X) (hc : CfOk c)
    (hn : ∀ q ∈ X, q.1 ≠ x ∧ q.1 ≠ v ∧ q.1 ≠ o ∧ q.1 ≠ e) (fx : Hi x = none) (fv : Hi v = none) (fo : Hi o = none) (fe : Hi e = none)
    (hG : GAt C H2 (three x v o e) H3 w3 x2 (toG ⟨VbrcafPlay.begin c, [], 0, []⟩) A ps []) : Sit C Hi H3 (.ref x2) ⟨some (VbrcafPlay.begin c), [], []⟩ n X := by
  have t0 : ∀ b, Hi b ≠ none → three x v o e b = none := fun b hb => by
    unfold three
    rw [if_neg]
    rintro (z | z | z | z) <;> (rw [z] at hb; contradiction)
  refine .inr ⟨w3, x2, _, A, ps, [], rfl, ⟨hG.gp, hG.cf, hG.mbs, hG.len, hG.nd, hG.n0, hG.ok, ⟨fun b u z _ => hG.fr.keep b u (hb.keep b u z) (t0 b (some_ne z)), fun b z => ?_⟩, fun q hq => ?_, hb.nd⟩, ⟨rfl, rfl, rfl, begin_ok hc, fun a b => by simp⟩, hc.cfg, by rw [begin_tot]; exact Nat.zero_le _, Nat.zero_le _⟩
  · cases q : Hi b with
    | none => exact absurd q z
    | some u => exact hG.fr.there b (some_ne (hb.keep b u q))
  · obtain ⟨n1, n2, n3, n4⟩ := hn q hq
    obtain ⟨l1, l2⟩ := hb.loc q hq
    have := hG.fr.keep q.1 q.2 l1 (by unfold three; rw [if_neg]; rintro (z | z | z | z) <;> contradiction)
    exact ⟨this.1, this.2, l2⟩
abbrev s_answers : Stmt := top 50
theorem sc_answers : FnScope ["calls", "group", "found", "at", "number", "args", "row", "rows", "turn"] ["calls"] (defScope s_answers) := ⟨rfl, rfl, rfl, by decide +kernel, rfl, by decide +kernel, by decide +kernel⟩
def spAnswers (K : PySem.W.Frag) : Sp := fun vs H Q _ => ∃ (a : Addr) (ns : List Int), vs = [.ref a] ∧ SqL K H a (ns.map V.int) ∧ ns.length ≤ 1000000 ∧ PyVbrcaf.answers_asked ns = true ∧ ∀ H' p, H' p = some (.lst ((PyVbrcaf.answers ns).map V.int)) → Q (.ref p) H'
theorem asked_parts {ns : List Int} (h : PyVbrcaf.answers_asked ns = true) : ∃ raw, Todo ns 0 raw ∧ raw.length ≤ 60 ∧ PyInside.calls PyVbrcaf.bound raw = true ∧ (PyVbrcaf.answers ns).length ≤ 10000000 ∧ PyVbrcaf.answers ns = left VbrcafPlay.start raw := by
  unfold PyVbrcaf.answers_asked at h
  cases e : PyFlat.calls PyVbrcaf.shape ns.length ns with
  | none => rw [e] at h; cases h
  | some raw =>
    rw [e] at h
    simp only [Bool.and_eq_true] at h
    refine ⟨raw, ⟨ns.length, by rw [List.drop_zero]; exact e⟩, of_decide_eq_true h.1.1.1.2, h.1.1.2, of_decide_eq_true h.2, ?_⟩
    unfold PyVbrcaf.answers PyVbrcaf.calls
    rw [e]
    rfl
theorem ok_answers {f : Addr} {fd : FuncData} (T : TxH K mg C fI aN aM aP) (F : Fun K "answers" "answers" s_answers f fd) (D_answer : DfG P w K mg base CX0 13 "answer" ["group", "number", "args"] (spAnswer C)) (D_is_valid : DfG P w K mg base CX0 2 "is_valid" ["voters", "outgoing", "learners"] (spBl (R_isValid K)))
    (D_Group : DfC P w K mg base CX0 5 C.g ["self", "configuration"] (spGroup C)) (D_Configuration : DfC P w K mg base CX0 1 C.c ["self", "voters", "outgoing", "learners"] (spConfig C)) :
    FnOk P w K mg base CX0 14 f fd ["calls"] (spAnswers K) := by
  refine F.ok sc_answers (fun vs H Q E h => ?_) (fun cdv A outer s H vs Q E hr h => ?_)
  · obtain ⟨_, _, rfl, _⟩ := h
    rfl
  · refine ⟨_, (pss_cons (ps_set (i := 1) sc_answers.nd rfl (Or.inl rfl) pe_non)
      (pss_cons (ps_set (i := 2) sc_answers.nd rfl (Or.inl rfl) (pe_lst pa_nil))
      (pss_cons (ps_set (i := 3) sc_answers.nd rfl (Or.inl rfl) pe_int)
      (pss_cons (ps_while PassesOwn.never (pt_cmpR op_lt (pv 3) (pe_callB call_len_seq (by rfl) T.b_len PySem.boot_len (pa_cons (pv 0) pa_nil)) (nomark _))
        (pss_cons (ps_set (i := 4) sc_answers.nd rfl (Or.inl rfl) (pe_ix ix_list (pv 0) (pv 3) (fun _ _ => rfl)))
      (pss_cons (ps_set (i := 5) sc_answers.nd rfl (Or.inl rfl) (pe_callTy call_list_of (by rfl) T.b_list boot_list (pa_cons (pe_slice sl_list (pv 0) (po_some (pe_op op_add (pv 3) pe_int)) (po_some (pe_op op_add (pe_op op_add (pv 3) pe_int) (pe_ix ix_tup (pe_gref rfl T.t_NUMBERS) (pv 4) (fun _ _ => rfl))))) pa_nil)))
      (pss_cons (ps_aug (i := 3) sc_answers.nd rfl (Or.inl rfl) (pe_op op_add pe_int (pe_ix ix_tup (pe_gref rfl T.t_NUMBERS) (pv 4) (fun _ _ => rfl))) ip_add)
      (pss_cons (ps_if (pt_cmpR op_gt (pv 4) pe_int (nomark _))
        (pss_one (ps_set (i := 6) sc_answers.nd rfl (Or.inl rfl) (pe_cal D_answer (hr.mono (by decide)) rfl (pa_cons (pv 1) (pa_cons (pv 4) (pa_cons (pv 5) pa_nil))))))
        (pss_cons (ps_set (i := 7) sc_answers.nd rfl (Or.inl rfl) (pe_lst pa_nil))
      (pss_cons (ps_for PassesOwn.never rfl (pi_range1 rfl T.b_range (pa_cons pe_int pa_nil)) (pg_name (i := 8) sc_answers.nd rfl (Or.inl rfl))
        (pss_cons (ps_expr (pe_bm PySem.F.plainAttrs_list PySem.F.slot_list_append PySem.F.type_list_append mt_append (pv 7) (pa_cons (pe_callTy call_list_of (by rfl) T.b_list boot_list (pa_cons (pe_slice sl_list (pv 0) (po_some (pe_op op_add (pv 3) pe_int)) (po_some (pe_op op_add (pe_op op_add (pv 3) pe_int) (pe_ix ix_list (pv 0) (pv 3) (fun _ _ => rfl))))) pa_nil)) pa_nil)))
      (pss_one (ps_aug (i := 3) sc_answers.nd rfl (Or.inl rfl) (pe_op op_add pe_int (pe_callB call_len_seq (by rfl) T.b_len PySem.boot_len (pa_cons (pe_ix ix_list (pv 7) (pe_un un_neg pe_int) (fun _ _ => rfl)) pa_nil))) ip_add))))
      (pss_cons (ps_set (i := 6) sc_answers.nd rfl (Or.inl rfl) (pe_lst (pa_cons (pe_un un_neg pe_int) pa_nil)))
      (pss_one (ps_if (pt_val (pe_cal D_is_valid (hr.mono (by decide)) rfl (pa_cons (pe_ix ix_list (pv 7) pe_int (fun _ _ => rfl)) (pa_cons (pe_ix ix_list (pv 7) pe_int (fun _ _ => rfl)) (pa_cons (pe_ix ix_list (pv 7) pe_int (fun _ _ => rfl)) pa_nil)))))
        (pss_cons (ps_set (i := 1) sc_answers.nd rfl (Or.inl rfl) (pe_mak D_Group (hr.mono (by decide)) rfl T.g_Group (pa_cons (pe_mak D_Configuration (hr.mono (by decide)) rfl T.g_Configuration (pa_cons (pe_ix ix_list (pv 7) pe_int (fun _ _ => rfl)) (pa_cons (pe_ix ix_list (pv 7) pe_int (fun _ _ => rfl)) (pa_cons (pe_ix ix_list (pv 7) pe_int (fun _ _ => rfl)) pa_nil)))) pa_nil)))
      (pss_one (ps_set (i := 6) sc_answers.nd rfl (Or.inl rfl) (pe_lst (pa_cons pe_int (pa_cons (pe_callB call_lenD (by rfl) T.b_len PySem.boot_len (pa_cons (pe_fld (pv 1) rfl) pa_nil)) pa_nil))))))
        pss_nil))))))
      (pss_cons (ps_expr (pe_bm PySem.F.plainAttrs_list PySem.F.slot_list_append PySem.F.type_list_append mt_append (pv 2) (pa_cons (pe_callB call_len_seq (by rfl) T.b_len PySem.boot_len (pa_cons (pv 6) pa_nil)) pa_nil)))
      (pss_one (ps_expr (pe_bm PySem.F.plainAttrs_list PySem.F.slot_list_extend PySem.F.type_list_extend mt_extend (pv 2) (pa_cons (pv 6) pa_nil))))))))))
      (pss_one (ps_ret (pv 2))))))), ?_⟩
    obtain ⟨a, ns, rfl, hs, hl, hask, k⟩ := h
    obtain ⟨raw, htd, hraw, hin, hsz, hans⟩ := asked_parts hask
    refine ⟨Nat.zero_le _, fun fd hfd => ?_⟩
    have h0 : Sit C H (upd H fd (.lst [])) .non VbrcafPlay.start 0 [(fd, .lst [])] := .inl ⟨rfl, rfl, ⟨fun b o e => by rw [upd_ne (ne_of_none e hfd)]; exact e, fun q hq => by rw [List.mem_singleton.mp hq]; exact ⟨upd_same, hfd⟩, by simp⟩⟩
    refine while_by (fun σ H' => ∃ gv st i found todo nd x4 x5 x6 x7 x8, σ = [some (.ref a), some gv, some (.ref fd), some (.int ((i : Nat) : Int)), x4, x5, x6, x7, x8] ∧ i ≤ ns.length ∧ Sit C H H' gv st nd [(fd, .lst (found.map V.int))] ∧ Todo ns i todo ∧ nd + todo.length ≤ 60 ∧ PyInside.calls PyVbrcaf.bound todo = true ∧ found ++ left st todo = PyVbrcaf.answers ns)
      (fun (σ : L2.St) H' => match σ[3]? with
        | some (some (V.int j)) => ns.length - j.toNat
        | _ => 0) ⟨.non, VbrcafPlay.start, 0, [], raw, 0, _, _, _, _, _, rfl, Nat.zero_le _, h0, htd, by omega, hin, by rw [hans]; rfl⟩ ?_ ?_
    · rintro σ H1 ⟨gv, st, i, found, todo, nd, x4, x5, x6, x7, x8, rfl, hi, sit, td, hnd, tin, hfound⟩
      have sq := sit.seq hs
      refine ⟨_, rfl, _, rfl, a, _, rfl, .inl sq, _, _, rfl, rfl, _, rfl, ?_⟩
      rw [List.length_map]
      by_cases lt : i < ns.length
      · refine ifT (decide_eq_true (by omega)) ?_
        obtain ⟨p, c, cs, t, hp, rfl, hcase⟩ := todo_next td lt
        have p18 : 0 ≤ p ∧ p ≤ 18 := by
          rcases hcase with ⟨h1, h2, _⟩ | ⟨h1, _⟩ <;> omega
        have eat : atI (ns.map V.int) ((i : Nat) : Int) = some (.int p) := atI_nat (by rw [List.getElem?_map, hp]; rfl)
        have enum := nums_at p18.1 p18.2
        have ac := argc_le p18.1 p18.2
        -- number, args, at
        refine ⟨_, rfl, _, rfl, a, _, _, _, rfl, rfl, sq, eat, ?_⟩
        refine ⟨_, rfl, _, rfl, _, _, rfl, rfl, _, rfl, _, rfl, _, _, rfl, rfl, _, rfl, aN, _, _, _, rfl, rfl, T.s_NUMBERS _, enum, _, _, rfl, rfl, _, rfl, a, _, rfl, sq, fun q1 hq1 => ⟨q1, _, rfl, .inl (.of upd_same), fun q2 hq2 => ?_⟩⟩
        have ecut : cutV (ns.map V.int) (some (((i : Nat) : Int) + 1)) (some (((i : Nat) : Int) + 1 + ((argc p : Nat) : Int))) = ((ns.drop (i + 1)).take (argc p)).map V.int := by
          rw [cutV_mid _ (by omega) (by omega), show (((i : Nat) : Int) + 1).toNat = i + 1 by omega, show (((i : Nat) : Int) + 1 + ((argc p : Nat) : Int)).toNat - (i + 1) = argc p by omega, ← List.map_drop, ← List.map_take]
        rw [ecut] at hq2 ⊢
        have s1 := same_upd (o := .lst ((((ns.drop (i + 1)).take (argc p))).map V.int)) hq1
        have s2 := same_trans s1 (same_upd (o := .lst ((((ns.drop (i + 1)).take (argc p))).map V.int)) hq2)
        have hqa : upd (upd H1 q1 (.lst ((((ns.drop (i + 1)).take (argc p))).map V.int))) q2 (.lst ((((ns.drop (i + 1)).take (argc p))).map V.int)) q2 = some (.lst ((((ns.drop (i + 1)).take (argc p))).map V.int)) := upd_same
        have sit2 := sit.got s2 (same_free s1 hq2) hqa
        clear s1
        revert sit2 s2 hqa
        generalize upd (upd H1 q1 (.lst ((((ns.drop (i + 1)).take (argc p))).map V.int))) q2 (.lst ((((ns.drop (i + 1)).take (argc p))).map V.int)) = H2
        generalize hargs : (ns.drop (i + 1)).take (argc p) = args
        intro s2 hqa sit2
        refine ⟨_, rfl, _, rfl, aN, _, _, _, rfl, rfl, T.s_NUMBERS _, enum, _, _, rfl, rfl, _, _, rfl, rfl, ?_⟩
        dsimp only
        refine seq_via (fun σ' H' => ∃ gv' st' row q i' x4 x5 x7 x8, σ' = [some (.ref a), some gv', some (.ref fd), some (.int ((i' : Nat) : Int)), x4, x5, some (.ref q), x7, x8] ∧ Sit C H H' gv' st' (nd + 1) [(q, .lst (row.map V.int)), (fd, .lst (found.map V.int))] ∧ i < i' ∧ i' ≤ ns.length ∧ Todo ns i' cs ∧ (stepRows st (PyVbrcaf.whole c)) = (st', row)) ?_ fun go => ?_
        · rintro σ' H3 ⟨gv', st', row, q, i', y4, y5, y7, y8, rfl, sit3, li, li2, td', er⟩
          rw [left_cons] at hfound
          have er2 : VbrcafPlay.stepRows st (PyVbrcaf.whole c) = (st', row) := er
          rw [er2] at hfound
          dsimp only at hfound
          have hlen := congrArg List.length hfound
          rw [List.length_append, List.length_append, List.length_cons] at hlen
          have sw := sit3.swap
          refine ⟨_, rfl, .inl ⟨rfl, _, .of sw.head⟩, _, rfl, q, _, rfl, .inl (SqL.of sit3.head), fd, _, _, rfl, rfl, sw.head, by rw [List.length_map, sizeLine_is]; omega, ?_⟩
          rw [List.length_map]
          have sw2 := sw.setX (u := .lst (found.map V.int ++ [.int (row.length : Int)])) (fun _ z => by cases z) (fun _ z => by cases z)
          refine ⟨_, rfl, .inl ⟨rfl, _, .of sw2.head⟩, _, rfl, fd, q, _, _, rfl, rfl, sw2.head, sw2.swap.head, by rw [List.length_append, List.length_map, List.length_map, sizeLine_is]; show _ + 1 + _ ≤ _; omega, ?_⟩
          have sw3 := sw2.setX (u := .lst (found.map V.int ++ [.int (row.length : Int)] ++ row.map V.int)) (fun _ z => by cases z) (fun _ z => by cases z)
          refine ⟨⟨gv', st', i', found ++ ((row.length : Int) :: row), cs, nd + 1, y4, y5, _, y7, y8, rfl, li2, ?_, td', by rw [List.length_cons] at hnd; omega, ?_, ?_⟩, ?_⟩
          · have e : (found ++ ((row.length : Int) :: row)).map V.int = found.map V.int ++ [.int (row.length : Int)] ++ row.map V.int := by
              rw [List.map_append, List.map_cons, List.append_assoc]
              rfl
            rw [e]
            exact sw3.swap.tail
          · have tin : (PyInside.call PyVbrcaf.bound c && PyInside.calls PyVbrcaf.bound cs) = true := tin
            rw [Bool.and_eq_true] at tin
            exact tin.2
          · rw [← hfound, List.append_assoc]
          · show ns.length - ((i' : Nat) : Int).toNat < ns.length - ((i : Nat) : Int).toNat
            omega
        · refine ⟨_, rfl, _, _, rfl, rfl, _, rfl, ?_⟩
          rcases hcase with ⟨p1, _, rfl, hla, td'⟩ | ⟨rfl, xs, rfl, hrows, f', hcs⟩
          · refine ifT (decide_eq_true (by omega)) ?_
            rw [hargs] at hla go
            rw [hargs] at hfound
            have ew := whole_is p1 p18.2 hla
            rw [ew] at go
            have td2 : Todo ns (i + (1 + argc p)) cs := by rw [← Nat.add_assoc]; exact td'
            have ilt : i < i + (1 + argc p) := by omega
            have ile : i + (1 + argc p) ≤ ns.length := by
              have : args.length = argc p := hla
              rw [← hargs, List.length_take, List.length_drop] at this
              omega
            refine ⟨_, rfl, _, rfl, _, rfl, p, q2, args, p1, p18.2, hla, sit2.head, ?_⟩
            have st2 : ∀ {H3 : Hp} {q : Addr} (z : Int), Same H2 H3 → H2 q = none → H3 q = some (.lst [.int z]) → Sit C H H3 gv st (nd + 1) [(q, .lst (([z] : List Int).map V.int)), (fd, .lst (found.map V.int))] := fun z s3 hq hq' => (sit2.tail.got s3 hq hq').mono (Nat.le_succ _)
            rcases sit2 with ⟨eg, hg0, _⟩ | ⟨w, g, S, A, ps, bk, eg, hG, hHl, hcfg, htot, hbl⟩
            · exact .inl ⟨by rw [eg]; rfl, fun H3 q s3 hq hq' => go _ _ ⟨gv, st, [-10], q, i + (1 + argc p), _, _, _, _, rfl, st2 _ s3 hq hq', ilt, ile, td2, nothing_yet hg0 p1 p18.2 hla⟩⟩
            · refine .inr ⟨w, g, S, A, ps, bk, by rw [eg]; rfl, hG.here, (hG.loc _ (List.mem_cons_self ..)).2.1, hHl.ok, hcfg, hHl.bl, ?_, by omega, (donek hHl p1 p18.2 hla).mono (fun z ez H3 q s3 hq hq' => go _ _ ⟨gv, st, [z], q, i + (1 + argc p), _, _, _, _, rfl, st2 _ s3 hq hq', ilt, ile, td2, ez⟩) fun S' zs nx H3 w3 A3 q hk => ?_⟩
              · have : 34920 * nd ≤ 34920 * 60 := Nat.mul_le_mul_left _ (by omega)
                omega
              · obtain ⟨bk', hl'⟩ := nx.hl
                refine go _ _ ⟨gv, _, zs, q, i + (1 + argc p), _, _, _, _, rfl, .inr ⟨w3, g, S', A3, ps, bk', eg, hG.tail.thenX hk, hl', by rw [nx.cfg]; exact hcfg, ?_, ?_⟩, ilt, ile, td2, ?_⟩
                · have := nx.tot
                  rw [Nat.mul_succ]
                  omega
                · have := nx.bls
                  omega
                · exact Prod.ext rfl nx.row
          · refine ifF (decide_eq_false (by decide)) ?_
            refine ⟨Nat.zero_le _, fun rw hrw => ?_⟩
            have sit3 := sit2.tail.alloc (o := .lst []) hrw
            refine ⟨3, rfl, by decide, by decide, for_range (lo := 0) (n := 3) (fun j σ' H' => ∃ x8 i2 done rest qs, σ' = [some (.ref a), some gv, some (.ref fd), some (.int ((i2 : Nat) : Int)), some (.int 0), some (.ref q2), x6, some (.ref rw), x8] ∧ Sit C H H' gv st nd [(rw, .lst (qs.map V.ref)), (fd, .lst (found.map V.int))] ∧ done ++ rest = xs ∧ done.length = j ∧ PyFlat.rows (3 - j) (ns.drop i2) = some (rest, t) ∧ i < i2 ∧ i2 ≤ ns.length ∧ Paired (fun (q : Addr) (row : List Int) => H' q = some (.lst (row.map V.int)) ∧ H q = none ∧ q ≠ rw ∧ q ≠ fd) qs done)
              ⟨x8, i + 1, [], xs, [], rfl, sit3, rfl, rfl, hrows, by omega, by omega, .nil⟩ ?_ ?_⟩
            · rintro j σ' H3 hj ⟨y8, i2, done, rest, qs, rfl, sit4, hdr, hdl, hrw3, hi2, hi2l, hqs⟩
              rw [show 3 - j = (3 - (j + 1)) + 1 by omega] at hrw3
              obtain ⟨n, x, ys, hn, n0, nl, rfl, hx, hxl, hnext⟩ := row_next hrw3
              have sq4 := sit4.seq hs
              have eat2 : atI (ns.map V.int) ((i2 : Nat) : Int) = some (.int n) := atI_nat (by rw [List.getElem?_map, hn]; rfl)
              have ecut2 : cutV (ns.map V.int) (some (((i2 : Nat) : Int) + 1)) (some (((i2 : Nat) : Int) + 1 + n)) = x.map V.int := by
                rw [cutV_mid _ (by omega) (by omega), show (((i2 : Nat) : Int) + 1).toNat = i2 + 1 by omega, show (((i2 : Nat) : Int) + 1 + n).toNat - (i2 + 1) = n.toNat by omega, ← List.map_drop, ← List.map_take, ← hx]
              have lq : qs.length = done.length := hqs.length
              refine ⟨_, rfl, .inl ⟨rfl, _, .of sit4.head⟩, _, rfl, _, rfl, _, _, rfl, rfl, _, rfl, _, rfl, _, _, rfl, rfl, _, rfl, _, rfl, a, _, _, _, rfl, rfl, sq4, eat2, _, _, rfl, rfl, _, rfl, a, _, rfl, sq4, fun q1 hq1 => ⟨q1, _, rfl, .inl (.of upd_same), fun q3 hq3 => ?_⟩⟩
              rw [ecut2] at hq3 ⊢
              have s1 := same_upd (o := .lst (x.map V.int)) hq1
              have s13 := same_trans s1 (same_upd (o := .lst (x.map V.int)) hq3)
              have hf3 := same_free s1 hq3
              have sit5 := sit4.same s13
              have hq33 : upd (upd H3 q1 (.lst (x.map V.int))) q3 (.lst (x.map V.int)) q3 = some (.lst (x.map V.int)) := upd_same
              revert s13 sit5 hq33
              generalize upd (upd H3 q1 (.lst (x.map V.int))) q3 (.lst (x.map V.int)) = H5
              intro s13 sit5 hq33
              refine ⟨rw, _, _, rfl, rfl, sit5.head, by rw [List.length_map, lq, hdl, sizeLine_is]; omega, ?_⟩
              have sit6 := sit5.setX (u := .lst (qs.map V.ref ++ [V.ref q3])) (fun _ z => by cases z) (fun _ z => by cases z)
              have nq3 : q3 ≠ rw := (ne_of_none sit4.head hf3).symm
              have nq3f : q3 ≠ fd := (ne_of_none sit4.swap.head hf3).symm
              refine ⟨_, rfl, _, rfl, _, rfl, rw, _, _, _, rfl, rfl, .of sit6.head, atI_last _ _, q3, _, rfl, .inl (.of (by rw [upd_ne nq3]; exact hq33)), _, _, rfl, rfl, _, _, rfl, rfl, ?_⟩
              refine ⟨some (.int (0 + (j : Int))), i2 + (1 + n.toNat), done ++ [x], ys, qs ++ [q3], ?_, ?_, by rw [List.append_assoc]; exact hdr, by rw [List.length_append, hdl]; rfl, ?_, by omega, by omega, ?_⟩
              · rw [List.length_map, hxl]
                rfl
              · rw [List.map_append]
                exact sit6
              · rw [show i2 + (1 + n.toNat) = i2 + 1 + n.toNat by omega]
                exact hnext
              · refine pr_append (Paired.mapP hqs fun q row hq => ⟨by rw [upd_ne hq.2.2.1]; exact s13 _ _ hq.1, hq.2⟩) (.cons ⟨by rw [upd_ne nq3]; exact hq33, sit4.bs.free hf3, nq3, nq3f⟩ .nil)
            · rintro σ' H3 ⟨y8, i2, done, rest, qs, rfl, sit4, hdr, hdl, hrw3, hi2, hi2l, hqs⟩
              have e0 := Option.some.inj (show some (([] : List (List Int)), ns.drop i2) = some (rest, t) from hrw3)
              have er := (Prod.mk.inj e0).1
              have et := (Prod.mk.inj e0).2
              subst er et
              rw [List.append_nil] at hdr
              subst hdr
              obtain ⟨r0, r1, r2, rfl⟩ : ∃ r0 r1 r2, done = [r0, r1, r2] := by
                match done, hdl with
                | [r0, r1, r2], _ => exact ⟨r0, r1, r2, rfl⟩
              have td3 : Todo ns i2 cs := ⟨f', hcs⟩
              have tin : (PyInside.call PyVbrcaf.bound [[0], r0, r1, r2] && PyInside.calls PyVbrcaf.bound cs) = true := tin
              rw [Bool.and_eq_true] at tin
              obtain ⟨l0, l1, l2⟩ := inside_rows tin.1
              have ew : PyVbrcaf.whole [[0], r0, r1, r2] = [[0], r0, r1, r2] := rfl
              rw [ew] at go
              have br := begin_row st r0 r1 r2
              obtain ⟨v, o, l, rfl, hv, ho, hl'⟩ : ∃ v o l, qs = [v, o, l] ∧ (H3 v = some (.lst (r0.map V.int)) ∧ H v = none ∧ v ≠ rw ∧ v ≠ fd) ∧ (H3 o = some (.lst (r1.map V.int)) ∧ H o = none ∧ o ≠ rw ∧ o ≠ fd) ∧ (H3 l = some (.lst (r2.map V.int)) ∧ H l = none ∧ l ≠ rw ∧ l ≠ fd) := by
                cases hqs with
                | cons a1 t1 =>
                  cases t1 with
                  | cons a2 t2 =>
                    cases t2 with
                    | cons a3 t3 =>
                      cases t3
                      exact ⟨_, _, _, rfl, a1, a2, a3⟩
              refine ⟨_, rfl, by show 1 ≤ sizeLine; decide, fun rq hrq => ?_⟩
              have t1 := same_upd (o := .lst [.int (-13)]) hrq
              have sit5 := (sit4.tail.got t1 hrq upd_same).mono (Nat.le_succ _)
              have hrw5 := t1 _ _ sit4.head
              have hv5 := t1 _ _ hv.1
              have ho5 := t1 _ _ ho.1
              have hl5 := t1 _ _ hl'.1
              revert sit5 hrw5 hv5 ho5 hl5
              generalize upd H3 rq (.lst [.int (-13)]) = H5
              intro sit5 hrw5 hv5 ho5 hl5
              refine ⟨_, rfl, rw, _, _, _, rfl, rfl, .of hrw5, rfl, _, rfl, rw, _, _, _, rfl, rfl, .of hrw5, rfl, _, rfl, rw, _, _, _, rfl, rfl, .of hrw5, rfl, ?_⟩
              refine ⟨_, ⟨v, o, l, r0, r1, r2, rfl, .of hv5, .of ho5, .of hl5, by omega, by omega, by omega, rfl⟩, fun H6 s6 => ⟨_, rfl, ?_⟩⟩
              have sit6 := sit5.same s6
              have hrw6 := s6 _ _ hrw5
              have hv6 := s6 _ _ hv5
              have ho6 := s6 _ _ ho5
              have hl6 := s6 _ _ hl5
              cases eb : isValidB r0 r1 r2 with
              | false =>
                rw [eb, if_neg Bool.false_ne_true] at br
                exact ifF rfl (go _ _ ⟨gv, st, [-13], rq, i2, _, _, _, _, rfl, sit6, hi2, hi2l, td3, br⟩)
              | true =>
                rw [eb, if_pos rfl] at br
                refine ifT rfl ?_
                have ev := eb
                rw [valid_eq] at ev
                simp only [Bool.and_eq_true] at ev
                obtain ⟨ev0, ev1, ev2, ev3⟩ := ev
                have en0 := number_nat ev0
                have en1 := number_nat ev1
                have en2 := number_nat ev2
                generalize hcc : (⟨toNats r0, toNats r1, toNats r2⟩ : VbrcCore.Config) = cc at ev3 br
                have hcf := config_ok ev3
                have e0 : r0 = iN cc.voters := by rw [← hcc]; exact en0
                have e1 : r1 = iN cc.outgoing := by rw [← hcc]; exact en1
                have e2 : r2 = iN cc.learners := by rw [← hcc]; exact en2
                have esum := hcf.sum
                refine ⟨_, rfl, rw, _, _, _, rfl, rfl, .of hrw6, rfl, _, rfl, rw, _, _, _, rfl, rfl, .of hrw6, rfl, _, rfl, rw, _, _, _, rfl, rfl, .of hrw6, rfl, fun x dx hx hdx nx => ?_⟩
                refine ⟨H6, x, dx, v, o, l, r0, r1, r2, rfl, rfl, hx, hdx, nx, hv6, ho6, hl6, by rw [e0, e1, e2, iN_length, iN_length, iN_length]; omega, fun H7 e es s7 hxo heo he0 hex asc mem => ⟨rfl, fun x2 dx2 hx2 hdx2 nx2 => ?_⟩⟩
                have ees : es = iN (VbrcCore.everyone cc) := everyone_is hcf asc (by rw [← e0, ← e1, ← e2]; exact mem)
                have hv7 := s7 _ _ hv6
                have ho7 := s7 _ _ ho6
                have tv : ∀ b, b = x ∨ b = v ∨ b = o ∨ b = e → three x v o e b = some (0, 9) := fun b hb => if_pos hb
                have okw : OwnOk H7 (three x v o e) := by
                  refine ⟨fun b hb => ?_, fun b xs hb => ?_⟩
                  · by_cases z : b = x ∨ b = v ∨ b = o ∨ b = e
                    · rcases z with z | z | z | z <;> rw [z]
                      · exact some_ne hxo
                      · exact some_ne hv7
                      · exact some_ne ho7
                      · exact some_ne heo
                    · unfold three at hb
                      rw [if_neg z] at hb
                      contradiction
                  · unfold three
                    rw [if_neg]
                    rintro (z | z | z | z) <;> rw [z] at hb
                    · rw [hxo] at hb; cases hb
                    · rw [hv7] at hb; cases hb
                    · rw [ho7] at hb; cases hb
                    · rw [heo] at hb; cases hb
                refine ⟨H7, three x v o e, x2, dx2, x, cc, rfl, rfl, hx2, hdx2, nx2, okw, ⟨dx, v, o, e, hxo, tv _ (.inl rfl), tv _ (.inr (.inl rfl)), tv _ (.inr (.inr (.inl rfl))), tv _ (.inr (.inr (.inr rfl))), ?_, ?_, ?_⟩, fun b t hb => ?_, hcf.asc, hcf.h9, hcf.pos, fun H8 w8 A8 ps8 hG => ⟨rfl, ?_⟩⟩
                · rw [e0] at hv7; exact hv7
                · rw [e1] at ho7; exact ho7
                · rw [ees] at heo; exact heo
                · unfold three at hb
                  by_cases z : b = x ∨ b = v ∨ b = o ∨ b = e
                  · rw [if_pos z] at hb; exact (Option.some.inj hb).symm
                  · rw [if_neg z] at hb; cases hb
                · have b6 := (sit6.tail).bs
                  have b7 := b6.same s7
                  have nfd : ∀ q ∈ [(fd, HO.lst (found.map V.int))], q.1 ≠ x ∧ q.1 ≠ v ∧ q.1 ≠ o ∧ q.1 ≠ e := fun q hq => by
                    rw [List.mem_singleton.mp hq]
                    have hfd6 : H6 fd = some (.lst (found.map V.int)) := sit6.swap.head
                    exact ⟨ne_of_none hfd6 hx, hv.2.2.2.symm, ho.2.2.2.symm, ne_of_none hfd6 he0⟩
                  have sit8 := sit_begin (n := nd + 1) b7 hcf nfd (b6.free hx) hv.2.1 ho.2.1 (b6.free he0) hG
                  refine ⟨_, rfl, hG.rd T.toTxt (i := 1) rfl rfl ⟨A8.md, _, rfl, hG.gp.md.2, by show 2 ≤ sizeLine; decide, fun rq2 hrq2 => ?_⟩⟩
                  have lm : (mdK (toG ⟨VbrcafPlay.begin cc, [], 0, []⟩).ms ps8).length = (VbrcCore.everyone cc).length := by
                    unfold mdK
                    rw [List.length_map, List.length_zip, hG.len, Nat.min_self]
                    show (((VbrcCore.everyone cc).map _).map toM).length = _
                    rw [List.length_map, List.length_map]
                  rw [lm]
                  have sit9 := sit8.alloc (o := .lst (([0, ((VbrcCore.everyone cc).length : Int)] : List Int).map V.int)) hrq2
                  exact go _ _ ⟨.ref x2, _, [0, ((VbrcCore.everyone cc).length : Int)], rq2, i2, _, _, _, _, rfl, sit9, hi2, hi2l, td3, br⟩
      · refine ifF (decide_eq_false (by omega)) ?_
        have e := todo_end td (by omega)
        subst e
        have ef : found = PyVbrcaf.answers ns := by
          rw [← hfound]
          exact (List.append_nil _).symm
        exact ⟨_, rfl, k _ _ (by rw [← ef]; exact sit.head)⟩
    · intro σ H1 Q1 Q2 hQ h
      obtain ⟨x, h1, y, h2, p, ys, h3, h4, i, j, h5, h6, b, h7, h8⟩ := h
      exact ⟨x, h1, y, h2, p, ys, h3, h4, i, j, h5, h6, b, h7, hQ _ _ h8⟩
end
end Lp
/-! Part Q: all put together (the defs' lines are printed by allmk.py). -/
namespace Lp
open PySem PySem.Spec PyProof.Rows L2
/-- a def of the top, a method: where it stands, what its object is -/
structure KnG (K : PySem.W.Frag) (x q : Str) (st : Stmt) : Prop where
  ex : ∃ f fd, PySem.W.nsIn K mainGlobals x = some (some (.ref f)) ∧ Fun K x q st f fd
structure KnM (K : PySem.W.Frag) (C : Addr) (x q : Str) (st : Stmt) : Prop where
  ex : ∃ f fd, Meth K C x f ∧ Fun K x q st f fd
def NoAll (K : PySem.W.Frag) (C : Addr) : List Str → Prop
  | [] => True
  | f :: r => PySem.W.findIn K (.ref C) f = some none ∧ NoAll K C r
theorem NoAll.at {K : PySem.W.Frag} {C : Addr} : ∀ {l : List Str}, NoAll K C l → ∀ f ∈ l, NoAttr K C f
  | [], _, _, h => nomatch h
  | g :: r, h, f, hf => by
    rcases List.mem_cons.mp hf with z | z
    · rw [z]; exact h.1
    · exact NoAll.at h.2 f z
def FreeAll (K : PySem.W.Frag) : List Str → Prop
  | [] => True
  | f :: r => PySem.W.nsIn K mainGlobals f = some none ∧ FreeAll K r
theorem FreeAll.at {K : PySem.W.Frag} {h : Heap} {mg : Str → Option Value} (X : K.In h) (G : h.Ns mainGlobals mg) : ∀ {l : List Str}, FreeAll K l → ∀ f ∈ l, mg f = none
  | [], _, _, h => nomatch h
  | g :: r, h, f, hf => by
    rcases List.mem_cons.mp hf with z | z
    · rw [z]; exact PySem.W.mg_none_of X G h.1
    · exact FreeAll.at X G h.2 f z
def ConAll (K : PySem.W.Frag) : List (Str × Int) → Prop
  | [] => True
  | f :: r => (∃ t, PySem.W.nsIn K mainGlobals f.1 = some (some (.int f.2 t))) ∧ ConAll K r
theorem ConAll.at {K : PySem.W.Frag} {h : Heap} {mg : Str → Option Value} (X : K.In h) (G : h.Ns mainGlobals mg) : ∀ {l : List (Str × Int)}, ConAll K l → ∀ f ∈ l, ∃ t, mg f.1 = some (.int f.2 t)
  | [], _, _, h => nomatch h
  | g :: r, h, f, hf => by
    rcases List.mem_cons.mp hf with z | z
    · rw [z]
      obtain ⟨t, e⟩ := h.1
      exact ⟨t, PySem.W.mg_of X G e⟩
    · exact ConAll.at X G h.2 f z
structure ClK (K : PySem.W.Frag) (C : Addr) (x : Str) (ns : List Str) : Prop where
  at_ : PySem.W.nsIn K mainGlobals x = some (some (.ref C))
  cls : Cls K C
  na : NoAll K C ns
  made : PySem.W.makesIn K C = true
  kp : PySem.W.keepIn K (.ref C) = true
structure TuK (K : PySem.W.Frag) (a : Addr) (x : Str) (ns : List Int) : Prop where
  at_ : PySem.W.nsIn K mainGlobals x = some (some (.ref a))
  ex : ∃ (o : Obj) (its : Array Value) (n : Nat), K.lookup a = some o ∧ o.cls = .type "tuple" ∧ o.data = .seq its n ∧ Vals (ns.map V.int) its.toList
theorem TuK.seq {K : PySem.W.Frag} {a : Addr} {x : Str} {ns : List Int} (h : TuK K a x ns) (hl : ns.length ≤ sizeLine) (H : Hp) : SqT K H a (ns.map V.int) := by
  obtain ⟨o, its, n, e, e1, e2, v⟩ := h.ex
  refine .inr ⟨_, its, n, e, e1, e2, ?_, v⟩
  have := v.length
  rw [List.length_map] at this
  rw [← Array.length_toList, ← this]
  exact hl
section
variable {P : Program} {w : World} {K : PySem.W.Frag} {h : Heap} {mg : Str → Option Value} {base : Heap} {k : Nat} {x q : Str} {st : Stmt} {ps : List Str} {sp : Sp} {C : Addr} {ns : List Str}
theorem mkG (X : K.In h) (G : h.Ns mainGlobals mg) (kn : KnG K x q st) (ok : ∀ {f fd}, Fun K x q st f fd → FnOk P w K mg base CX0 k f fd ps sp) (b : ∀ {f fd}, Fun K x q st f fd → Binds K fd ps []) : DfG P w K mg base CX0 k x ps sp := by
  obtain ⟨f, fd, e, F⟩ := kn.ex
  exact ⟨f, fd, ok F, PySem.W.mg_of X G e, F.kp, b F⟩
theorem mkX (X : K.In h) (G : h.Ns mainGlobals mg) (kn : KnG K x q st) (ok : ∀ {f fd}, Fun K x q st f fd → FnOk P w K mg base (L2.CX P w) k f fd ps sp) (b : ∀ {f fd}, Fun K x q st f fd → Binds K fd ps []) : DfX P w K mg base k x ps sp := by
  obtain ⟨f, fd, e, F⟩ := kn.ex
  exact ⟨f, fd, ok F, PySem.W.mg_of X G e, F.kp, b F⟩
theorem mkM (kn : KnM K C x q st) (ok : ∀ {f fd}, Fun K x q st f fd → FnOk P w K mg base CX0 k f fd ps sp) (b : ∀ {f fd}, Fun K x q st f fd → Binds K fd ps []) : DfM P w K mg base CX0 k C x ps sp := by
  obtain ⟨f, fd, m, F⟩ := kn.ex
  exact ⟨f, fd, ok F, m, b F⟩
theorem mkC {c : Str} (mk : ClK K C c ns) (kn : KnM K C "__init__" q st) (ok : ∀ {f fd}, Fun K "__init__" q st f fd → FnOk P w K mg base CX0 k f fd ps sp) (b : ∀ {f fd}, Fun K "__init__" q st f fd → Binds K fd ps []) : DfC P w K mg base CX0 k C ps sp := by
  obtain ⟨f, fd, m, F⟩ := kn.ex
  exact ⟨f, fd, ok F, ⟨mk.made, m.at_, m.fn, mk.kp⟩, b F⟩
end
/-- an error of the class at S is what except S names -/
theorem exm_self {K : PySem.W.Frag} {S : Addr} (h1 : PySem.W.subIn K (.ref S) (.type "BaseException") = some true) (h2 : PySem.W.isClsIn K S = true) (h3 : PySem.W.typeIn K (.ref S) = some (.type "type")) (h4 : PySem.W.subIn K (.ref S) (.ref S) = some true) :
    PySem.W.exmOne K (.ref S) (.ref S) = some true := by
  have e1 : (PySem.W.subIn K (.ref S) (.type "BaseException") == some true) = true := by rw [h1] <;> rfl
  have e2 : ((PySem.W.clsIn K S).isSome && PySem.W.typeIn K (.ref S) == some (.type "type")) = true := by
    have h2' : (PySem.W.clsIn K S).isSome = true := h2
    rw [h2', h3] <;> rfl
  show (if (PySem.W.subIn K (.ref S) (.type "BaseException") == some true) = true then (if ((PySem.W.clsIn K S).isSome && PySem.W.typeIn K (.ref S) == some (.type "type")) = true then PySem.W.subIn K (.ref S) (.ref S) else none) else none) = some true
  rw [if_pos e1, if_pos e2]
  exact h4
def frees : List Str := ["len", "all", "any", "sorted", "set", "dict", "list", "int", "range", "zip", "min", "max"]
def consts : List (Str × Int) := [("GREATEST_configurations", 9), ("FOLLOWER", 0), ("ASKING", 1), ("CANDIDATE", 2), ("LEADER", 3), ("ELECTION_TICKS", 10), ("HEARTBEAT_TICKS", 3), ("PRE_VOTE", 1), ("PRE_VOTE_REPLY", 2), ("VOTE", 3), ("VOTE_REPLY", 4), ("HEARTBEAT", 5), ("HEARTBEAT_REPLY", 6), ("CAMPAIGN_NOW", 9), ("ROUNDS", 6), ("GREATEST_hall", 1000000000), ("MOST_TICKS", 40), ("MOST_ROUNDS", 8), ("MOST_HELD", 100), ("MOST_SHOWN", 200)]
theorem mk_ref {K : PySem.W.Frag} {h : Heap} {mg : Str → Option Value} {C f1 : Addr} (X : K.In h) (G : h.Ns mainGlobals mg)
    {nm q : Str} {N : Addr} {bs : List Value} {sn : List Str} {sub : List Value} {ab : Bool} {col : Option Bool} {dd : Option Addr} {m0 m1 m2 m3 m5 : Option Value}
    {od1 an1 : Option Addr} {sl1 : Array (Option Value)} {oc1 dc1 pm1 cd1 ct1 : Value} {p1 p2 q1 q2 q3 q4 : Pos}
    (aC : PySem.W.nsIn K mainGlobals "Refusal" = some (some (.ref C)))
    (xL : K.lookup C = some (excClassObj nm q C N bs [.type "Exception", .type "BaseException", .type "object"] true sn sub ab col dd m0 m1 m2 m3 m5 "Exception.__new__"))
    (sa : PySem.W.findIn K (.ref C) "__setattr__" = some (some (.builtin "object.__setattr__"))) (ga : PySem.W.findIn K (.ref C) "__getattribute__" = some (some (.builtin "BaseException.__getattribute__"))) (gg : PySem.W.findIn K (.ref C) "__getattr__" = some none) (nb : PySem.W.findIn K (.ref C) "code" = some none)
    (a1 : PySem.W.findIn K (.ref C) "__init__" = some (some (.ref f1))) (t1 : PySem.W.typeIn K (.ref f1) = some (.type "function"))
    (l1 : K.lookup f1 = some ⟨oc1, od1, .func (PySem.W.fnOf "__init__" "Refusal.__init__" (PySem.RefX.iA p1 p2) (PySem.RefX.iB q1 q2 q3 q4) PySem.RefX.iS .none .none dc1 pm1 an1 cd1 ct1), sl1⟩) (c1 : PySem.W.codeIn K cd1 "Refusal.__init__" = true)
    (kC : PySem.W.keepIn K (.ref C) = true) (eC : PySem.W.subIn K (.ref C) (.type "BaseException") = some true) (tC : PySem.W.typeIn K (.ref C) = some (.type "type")) (hC : PySem.W.hasDictIn K C = true) (iC : PySem.W.isClsIn K C = true) (sC : PySem.W.subIn K (.ref C) (.ref C) = some true) : PySem.RefX.RefTxt K mg C f1 :=
  { gC := PySem.W.mg_of X G aC, cls := ⟨nm, q, N, bs, _, sn, sub, ab, col, dd, m0, m1, m2, m3, m5, xL, rfl⟩, sa := sa, ga := ga, gg := gg, noN := nb, iC := a1, tC := t1, kC := kC, exC := eC, tyC := tC, hdC := hC, te := exm_self eC iC tC sC,
    fn := ⟨_, _, _, _, _, _, _, _, _, _, _, _, _, _, l1, c1⟩ }
theorem all_mk {P : Program} {w : World} {K : PySem.W.Frag} {h : Heap} {mg : Str → Option Value} {fa fI aN aM aP cc cm cg cr : Addr} (X : K.In h) (G : h.Ns mainGlobals mg) (hfa : mg "answers" = some (.ref fa))
    (mk_c : ClK K cc "Configuration" cNames) (mk_m : ClK K cm "Member" mNames) (mk_g : ClK K cg "Group" gNames) (fr : FreeAll K frees) (cn : ConAll K consts)
    (tN : TuK K aN "NUMBERS" nums) (tM : TuK K aM "MEMBER_FIRST" mFirst) (tP : TuK K aP "PLACES" places) (rf : PySem.RefX.RefTxt K mg cr fI)
    (kn_is_list : KnG K "is_list" "is_list" s_is_list)
    (kn_is_valid : KnG K "is_valid" "is_valid" s_is_valid)
    (kn_is_majority : KnG K "is_majority" "is_majority" s_is_majority)
    (kn_Configuration___init__ : KnM K cc "__init__" "Configuration.__init__" s_Configuration___init__)
    (kn_Configuration_votes : KnM K cc "votes" "Configuration.votes" s_Configuration_votes)
    (kn_Configuration_is_quorum : KnM K cc "is_quorum" "Configuration.is_quorum" s_Configuration_is_quorum)
    (kn_Configuration_others : KnM K cc "others" "Configuration.others" s_Configuration_others)
    (kn_Configuration_other_voters : KnM K cc "other_voters" "Configuration.other_voters" s_Configuration_other_voters)
    (kn_Member___init__ : KnM K cm "__init__" "Member.__init__" s_Member___init__)
    (kn_Member_clear : KnM K cm "clear" "Member.clear" s_Member_clear)
    (kn_Member_start : KnM K cm "start" "Member.start" s_Member_start)
    (kn_Member_stop : KnM K cm "stop" "Member.stop" s_Member_stop)
    (kn_Member_is_reached_by : KnM K cm "is_reached_by" "Member.is_reached_by" s_Member_is_reached_by)
    (kn_Member_is_sheltered : KnM K cm "is_sheltered" "Member.is_sheltered" s_Member_is_sheltered)
    (kn_Member_say : KnM K cm "say" "Member.say" s_Member_say)
    (kn_Member_end_input : KnM K cm "end_input" "Member.end_input" s_Member_end_input)
    (kn_Member_follow : KnM K cm "follow" "Member.follow" s_Member_follow)
    (kn_Member_join : KnM K cm "join" "Member.join" s_Member_join)
    (kn_Member_say_heartbeats : KnM K cm "say_heartbeats" "Member.say_heartbeats" s_Member_say_heartbeats)
    (kn_Member_begin_question : KnM K cm "begin_question" "Member.begin_question" s_Member_begin_question)
    (kn_Member_begin_vote : KnM K cm "begin_vote" "Member.begin_vote" s_Member_begin_vote)
    (kn_Member_begin_lead : KnM K cm "begin_lead" "Member.begin_lead" s_Member_begin_lead)
    (kn_Member_count : KnM K cm "count" "Member.count" s_Member_count)
    (kn_Member_decide : KnM K cm "decide" "Member.decide" s_Member_decide)
    (kn_Member_tick : KnM K cm "tick" "Member.tick" s_Member_tick)
    (kn_Member_tick_leader : KnM K cm "tick_leader" "Member.tick_leader" s_Member_tick_leader)
    (kn_Member_hand_over : KnM K cm "hand_over" "Member.hand_over" s_Member_hand_over)
    (kn_Member_receive : KnM K cm "receive" "Member.receive" s_Member_receive)
    (kn_Member_receive_question : KnM K cm "receive_question" "Member.receive_question" s_Member_receive_question)
    (kn_Member_receive_question_reply : KnM K cm "receive_question_reply" "Member.receive_question_reply" s_Member_receive_question_reply)
    (kn_Member_receive_vote : KnM K cm "receive_vote" "Member.receive_vote" s_Member_receive_vote)
    (kn_Member_receive_other : KnM K cm "receive_other" "Member.receive_other" s_Member_receive_other)
    (kn_Member_carry_out : KnM K cm "carry_out" "Member.carry_out" s_Member_carry_out)
    (kn_Group___init__ : KnM K cg "__init__" "Group.__init__" s_Group___init__)
    (kn_Group_gather : KnM K cg "gather" "Group.gather" s_Group_gather)
    (kn_Group_running : KnM K cg "running" "Group.running" s_Group_running)
    (kn_Group_arrive : KnM K cg "arrive" "Group.arrive" s_Group_arrive)
    (kn_Group_tick : KnM K cg "tick" "Group.tick" s_Group_tick)
    (kn_Group_carry_out : KnM K cg "carry_out" "Group.carry_out" s_Group_carry_out)
    (kn_Group_round : KnM K cg "round" "Group.round" s_Group_round)
    (kn_Group_advance : KnM K cg "advance" "Group.advance" s_Group_advance)
    (kn_link_of : KnG K "link_of" "link_of" s_link_of)
    (kn_need : KnG K "need" "need" s_need)
    (kn_are_in_range : KnG K "are_in_range" "are_in_range" s_are_in_range)
    (kn_acted : KnG K "acted" "acted" s_acted)
    (kn_running_member : KnG K "running_member" "running_member" s_running_member)
    (kn_act : KnG K "act" "act" s_act)
    (kn_act_member : KnG K "act_member" "act_member" s_act_member)
    (kn_link : KnG K "link" "link" s_link)
    (kn_status : KnG K "status" "status" s_status)
    (kn_ballots : KnG K "ballots" "ballots" s_ballots)
    (kn_held : KnG K "held" "held" s_held)
    (kn_messages : KnG K "messages" "messages" s_messages)
    (kn_elections : KnG K "elections" "elections" s_elections)
    (kn_asked : KnG K "asked" "asked" s_asked)
    (kn_done : KnG K "done" "done" s_done)
    (kn_answer : KnG K "answer" "answer" s_answer)
    (kn_answers : KnG K "answers" "answers" s_answers) :
    ∃ fd : FuncData, (∀ (s : Shared) (us : List Value), us.length = (["calls"] : List Str).length → BindsTo s fd ⟨us, []⟩ ((["calls"] : List Str).zip us)) ∧ ∀ base : Heap, K.In base → base.Ns mainGlobals mg → FnOk P w K mg base CX0 14 fa fd ["calls"] (spAnswers K) := by
  have T0 : Txt K mg ⟨cc, cm, cg, cr⟩ := ⟨mk_c.cls, mk_m.cls, mk_g.cls, mk_c.na.at, mk_m.na.at, mk_g.na.at, PySem.W.mg_of X G mk_c.at_, PySem.W.mg_of X G mk_m.at_, PySem.W.mg_of X G mk_g.at_,
    fr.at X G _ (by decide), fr.at X G _ (by decide), fr.at X G _ (by decide), fr.at X G _ (by decide), fr.at X G _ (by decide), fr.at X G _ (by decide), fr.at X G _ (by decide), fr.at X G _ (by decide), fr.at X G _ (by decide), fr.at X G _ (by decide), fr.at X G _ (by decide), fr.at X G _ (by decide),
    cn.at X G ("GREATEST_configurations", 9) (by decide), cn.at X G ("FOLLOWER", 0) (by decide), cn.at X G ("ASKING", 1) (by decide), cn.at X G ("CANDIDATE", 2) (by decide), cn.at X G ("LEADER", 3) (by decide), cn.at X G ("ELECTION_TICKS", 10) (by decide), cn.at X G ("HEARTBEAT_TICKS", 3) (by decide), cn.at X G ("PRE_VOTE", 1) (by decide), cn.at X G ("PRE_VOTE_REPLY", 2) (by decide), cn.at X G ("VOTE", 3) (by decide), cn.at X G ("VOTE_REPLY", 4) (by decide), cn.at X G ("HEARTBEAT", 5) (by decide), cn.at X G ("HEARTBEAT_REPLY", 6) (by decide), cn.at X G ("CAMPAIGN_NOW", 9) (by decide), cn.at X G ("ROUNDS", 6) (by decide), cn.at X G ("GREATEST_hall", 1000000000) (by decide), cn.at X G ("MOST_TICKS", 40) (by decide), cn.at X G ("MOST_ROUNDS", 8) (by decide), cn.at X G ("MOST_HELD", 100) (by decide), cn.at X G ("MOST_SHOWN", 200) (by decide)⟩
  have T : TxH K mg ⟨cc, cm, cg, cr⟩ fI aN aM aP := ⟨T0, rf, PySem.W.mg_of X G tN.at_, tN.seq (by decide), PySem.W.mg_of X G tM.at_, tM.seq (by decide), PySem.W.mg_of X G tP.at_, tP.seq (by decide)⟩
  obtain ⟨f, fd, e, F⟩ := kn_answers.ex
  have e2 := hfa.symm.trans (PySem.W.mg_of X G e)
  cases e2
  refine ⟨fd, fun s us hu => ?_, fun base _ _ => ?_⟩
  · obtain ⟨oc, od, kV, doc, pm, an, cdv, ct, osl, rfl, _, _⟩ := F.ex
    exact match us, hu with
    | [_], _ => .of_eq rfl
  · skip
    have D_is_list := mkG X G (P := P) (w := w) (base := base) (mg := mg) kn_is_list (fun F => ok_is_list T.toTxt F) (fun F => F.binds (ps := ["row"]) fun _ _ _ _ _ _ us hl => match us, hl with | [_], _ => rfl)
    have D_is_valid := mkG X G (P := P) (w := w) (base := base) (mg := mg) kn_is_valid (fun F => ok_is_valid T.toTxt F (D_is_list := D_is_list)) (fun F => F.binds (ps := ["voters", "outgoing", "learners"]) fun _ _ _ _ _ _ us hl => match us, hl with | [_, _, _], _ => rfl)
    have D_is_majority := mkG X G (P := P) (w := w) (base := base) (mg := mg) kn_is_majority (fun F => ok_is_majority T.toTxt F) (fun F => F.binds (ps := ["members", "row"]) fun _ _ _ _ _ _ us hl => match us, hl with | [_, _], _ => rfl)
    have D_Configuration := mkC mk_c (P := P) (w := w) (base := base) (mg := mg) kn_Configuration___init__ (fun F => ok_Configuration___init__ T.toTxt F) (fun F => F.binds (ps := ["self", "voters", "outgoing", "learners"]) fun _ _ _ _ _ _ us hl => match us, hl with | [_, _, _, _], _ => rfl)
    have D_Configuration_votes := mkM (P := P) (w := w) (base := base) (mg := mg) kn_Configuration_votes (fun F => ok_Configuration_votes T.toTxt F) (fun F => F.binds (ps := ["self", "number"]) fun _ _ _ _ _ _ us hl => match us, hl with | [_, _], _ => rfl)
    have D_Configuration_is_quorum := mkM (P := P) (w := w) (base := base) (mg := mg) kn_Configuration_is_quorum (fun F => ok_Configuration_is_quorum T.toTxt F (D_is_majority := D_is_majority)) (fun F => F.binds (ps := ["self", "members"]) fun _ _ _ _ _ _ us hl => match us, hl with | [_, _], _ => rfl)
    have D_Configuration_others := mkM (P := P) (w := w) (base := base) (mg := mg) kn_Configuration_others (fun F => ok_Configuration_others T.toTxt F) (fun F => F.binds (ps := ["self", "number"]) fun _ _ _ _ _ _ us hl => match us, hl with | [_, _], _ => rfl)
    have D_Configuration_other_voters := mkM (P := P) (w := w) (base := base) (mg := mg) kn_Configuration_other_voters (fun F => ok_Configuration_other_voters T.toTxt F (D_Configuration_others := D_Configuration_others) (D_Configuration_votes := D_Configuration_votes)) (fun F => F.binds (ps := ["self", "number"]) fun _ _ _ _ _ _ us hl => match us, hl with | [_, _], _ => rfl)
    have D_Member_clear := mkM (P := P) (w := w) (base := base) (mg := mg) kn_Member_clear (fun F => ok_Member_clear T.toTxt F) (fun F => F.binds (ps := ["self"]) fun _ _ _ _ _ _ us hl => match us, hl with | [_], _ => rfl)
    have D_Member_clear_first := mkM (P := P) (w := w) (base := base) (mg := mg) kn_Member_clear (fun F => ok_Member_clear_first T.toTxt F) (fun F => F.binds (ps := ["self"]) fun _ _ _ _ _ _ us hl => match us, hl with | [_], _ => rfl)
    have D_Member_start := mkM (P := P) (w := w) (base := base) (mg := mg) kn_Member_start (fun F => ok_Member_start T.toTxt F (D_Member_clear := D_Member_clear)) (fun F => F.binds (ps := ["self"]) fun _ _ _ _ _ _ us hl => match us, hl with | [_], _ => rfl)
    have D_Member := mkC mk_m (P := P) (w := w) (base := base) (mg := mg) kn_Member___init__ (fun F => ok_Member___init__ T.toTxt F (D_Member_clear := D_Member_clear_first) (D_Member_start := D_Member_start)) (fun F => F.binds (ps := ["self", "number", "configuration"]) fun _ _ _ _ _ _ us hl => match us, hl with | [_, _, _], _ => rfl)
    have D_Member_stop := mkM (P := P) (w := w) (base := base) (mg := mg) kn_Member_stop (fun F => ok_Member_stop T.toTxt F (D_Member_clear := D_Member_clear)) (fun F => F.binds (ps := ["self", "count"]) fun _ _ _ _ _ _ us hl => match us, hl with | [_, _], _ => rfl)
    have D_Member_is_reached_by := mkM (P := P) (w := w) (base := base) (mg := mg) kn_Member_is_reached_by (fun F => ok_Member_is_reached_by T.toTxt F) (fun F => F.binds (ps := ["self", "index", "term"]) fun _ _ _ _ _ _ us hl => match us, hl with | [_, _, _], _ => rfl)
    have D_Member_is_sheltered := mkM (P := P) (w := w) (base := base) (mg := mg) kn_Member_is_sheltered (fun F => ok_Member_is_sheltered T.toTxt F) (fun F => F.binds (ps := ["self"]) fun _ _ _ _ _ _ us hl => match us, hl with | [_], _ => rfl)
    have D_Member_say := mkM (P := P) (w := w) (base := base) (mg := mg) kn_Member_say (fun F => ok_Member_say T.toTxt F) (fun F => F.binds (ps := ["self", "receiver", "kind", "fields", "term"]) fun _ _ _ _ _ _ us hl => match us, hl with | [_, _, _, _, _], _ => rfl)
    have D_Member_end_input := mkM (P := P) (w := w) (base := base) (mg := mg) kn_Member_end_input (fun F => ok_Member_end_input T.toTxt F) (fun F => F.binds (ps := ["self", "before"]) fun _ _ _ _ _ _ us hl => match us, hl with | [_, _], _ => rfl)
    have D_Member_follow := mkM (P := P) (w := w) (base := base) (mg := mg) kn_Member_follow (fun F => ok_Member_follow T.toTxt F) (fun F => F.binds (ps := ["self", "leader"]) fun _ _ _ _ _ _ us hl => match us, hl with | [_, _], _ => rfl)
    have D_Member_join := mkM (P := P) (w := w) (base := base) (mg := mg) kn_Member_join (fun F => ok_Member_join T.toTxt F (D_Member_follow := D_Member_follow)) (fun F => F.binds (ps := ["self", "term", "leader"]) fun _ _ _ _ _ _ us hl => match us, hl with | [_, _, _], _ => rfl)
    have D_Member_say_heartbeats := mkM (P := P) (w := w) (base := base) (mg := mg) kn_Member_say_heartbeats (fun F => ok_Member_say_heartbeats T.toTxt F (D_Member_say := D_Member_say) (D_Configuration_others := D_Configuration_others)) (fun F => F.binds (ps := ["self"]) fun _ _ _ _ _ _ us hl => match us, hl with | [_], _ => rfl)
    have D_Member_begin_lead := mkM (P := P) (w := w) (base := base) (mg := mg) kn_Member_begin_lead (fun F => ok_Member_begin_lead T.toTxt F (D_Member_follow := D_Member_follow) (D_Member_say_heartbeats := D_Member_say_heartbeats)) (fun F => F.binds (ps := ["self"]) fun _ _ _ _ _ _ us hl => match us, hl with | [_], _ => rfl)
    have D_Member_begin_vote := mkM (P := P) (w := w) (base := base) (mg := mg) kn_Member_begin_vote (fun F => ok_Member_begin_vote T.toTxt F (D_Member_say := D_Member_say) (D_Member_follow := D_Member_follow) (D_Configuration_other_voters := D_Configuration_other_voters)) (fun F => F.binds (ps := ["self", "handover"]) fun _ _ _ _ _ _ us hl => match us, hl with | [_, _], _ => rfl)
    have D_Member_decide := mkM (P := P) (w := w) (base := base) (mg := mg) kn_Member_decide (fun F => ok_Member_decide T.toTxt F (D_Member_follow := D_Member_follow) (D_Member_begin_lead := D_Member_begin_lead) (D_Member_begin_vote := D_Member_begin_vote) (D_Configuration_is_quorum := D_Configuration_is_quorum)) (fun F => F.binds (ps := ["self"]) fun _ _ _ _ _ _ us hl => match us, hl with | [_], _ => rfl)
    have D_Member_begin_question := mkM (P := P) (w := w) (base := base) (mg := mg) kn_Member_begin_question (fun F => ok_Member_begin_question T.toTxt F (D_Member_say := D_Member_say) (D_Member_follow := D_Member_follow) (D_Configuration_other_voters := D_Configuration_other_voters) (D_Member_decide := D_Member_decide)) (fun F => F.binds (ps := ["self"]) fun _ _ _ _ _ _ us hl => match us, hl with | [_], _ => rfl)
    have D_Member_count := mkM (P := P) (w := w) (base := base) (mg := mg) kn_Member_count (fun F => ok_Member_count T.toTxt F (D_Member_decide := D_Member_decide)) (fun F => F.binds (ps := ["self", "number", "is_yes"]) fun _ _ _ _ _ _ us hl => match us, hl with | [_, _, _], _ => rfl)
    have D_Member_tick_leader := mkM (P := P) (w := w) (base := base) (mg := mg) kn_Member_tick_leader (fun F => ok_Member_tick_leader T.toTxt F (D_Member_follow := D_Member_follow) (D_Member_say_heartbeats := D_Member_say_heartbeats) (D_Configuration_is_quorum := D_Configuration_is_quorum)) (fun F => F.binds (ps := ["self"]) fun _ _ _ _ _ _ us hl => match us, hl with | [_], _ => rfl)
    have D_Member_tick := mkM (P := P) (w := w) (base := base) (mg := mg) kn_Member_tick (fun F => ok_Member_tick T.toTxt F (D_Member_tick_leader := D_Member_tick_leader) (D_Member_begin_question := D_Member_begin_question) (D_Member_end_input := D_Member_end_input) (D_Configuration_votes := D_Configuration_votes)) (fun F => F.binds (ps := ["self"]) fun _ _ _ _ _ _ us hl => match us, hl with | [_], _ => rfl)
    have D_Member_hand_over := mkM (P := P) (w := w) (base := base) (mg := mg) kn_Member_hand_over (fun F => ok_Member_hand_over T.toTxt F (D_Member_say := D_Member_say) (D_Member_end_input := D_Member_end_input)) (fun F => F.binds (ps := ["self", "target"]) fun _ _ _ _ _ _ us hl => match us, hl with | [_, _], _ => rfl)
    have D_Member_receive_question := mkM (P := P) (w := w) (base := base) (mg := mg) kn_Member_receive_question (fun F => ok_Member_receive_question T.toTxt F (D_Member_is_sheltered := D_Member_is_sheltered) (D_Member_is_reached_by := D_Member_is_reached_by) (D_Member_say := D_Member_say)) (fun F => F.binds (ps := ["self", "message"]) fun _ _ _ _ _ _ us hl => match us, hl with | [_, _], _ => rfl)
    have D_Member_receive_question_reply := mkM (P := P) (w := w) (base := base) (mg := mg) kn_Member_receive_question_reply (fun F => ok_Member_receive_question_reply T.toTxt F (D_Member_count := D_Member_count) (D_Member_join := D_Member_join)) (fun F => F.binds (ps := ["self", "message"]) fun _ _ _ _ _ _ us hl => match us, hl with | [_, _], _ => rfl)
    have D_Member_receive_vote := mkM (P := P) (w := w) (base := base) (mg := mg) kn_Member_receive_vote (fun F => ok_Member_receive_vote T.toTxt F (D_Member_is_sheltered := D_Member_is_sheltered) (D_Member_is_reached_by := D_Member_is_reached_by) (D_Member_join := D_Member_join) (D_Member_follow := D_Member_follow) (D_Member_say := D_Member_say)) (fun F => F.binds (ps := ["self", "message"]) fun _ _ _ _ _ _ us hl => match us, hl with | [_, _], _ => rfl)
    have D_Member_receive_other := mkM (P := P) (w := w) (base := base) (mg := mg) kn_Member_receive_other (fun F => ok_Member_receive_other T.toTxt F (D_Member_begin_vote := D_Member_begin_vote) (D_Member_count := D_Member_count) (D_Member_join := D_Member_join) (D_Member_say := D_Member_say)) (fun F => F.binds (ps := ["self", "message"]) fun _ _ _ _ _ _ us hl => match us, hl with | [_, _], _ => rfl)
    have D_Member_receive := mkM (P := P) (w := w) (base := base) (mg := mg) kn_Member_receive (fun F => ok_Member_receive T.toTxt F (D_Member_receive_question := D_Member_receive_question) (D_Member_receive_question_reply := D_Member_receive_question_reply) (D_Member_receive_vote := D_Member_receive_vote) (D_Member_receive_other := D_Member_receive_other) (D_Member_end_input := D_Member_end_input)) (fun F => F.binds (ps := ["self", "message"]) fun _ _ _ _ _ _ us hl => match us, hl with | [_, _], _ => rfl)
    have D_Member_carry_out := mkM (P := P) (w := w) (base := base) (mg := mg) kn_Member_carry_out (fun F => ok_Member_carry_out T.toTxt F (D_Member_count := D_Member_count) (D_Member_end_input := D_Member_end_input)) (fun F => F.binds (ps := ["self", "count"]) fun _ _ _ _ _ _ us hl => match us, hl with | [_, _], _ => rfl)
    have D_Group := mkC mk_g (P := P) (w := w) (base := base) (mg := mg) kn_Group___init__ (fun F => ok_Group___init__ T.toTxt F (D_Member := D_Member)) (fun F => F.binds (ps := ["self", "configuration"]) fun _ _ _ _ _ _ us hl => match us, hl with | [_, _], _ => rfl)
    have D_Group_gather := mkM (P := P) (w := w) (base := base) (mg := mg) kn_Group_gather (fun F => ok_Group_gather T.toTxt F) (fun F => F.binds (ps := ["self", "member"]) fun _ _ _ _ _ _ us hl => match us, hl with | [_, _], _ => rfl)
    have D_Group_running := mkM (P := P) (w := w) (base := base) (mg := mg) kn_Group_running (fun F => ok_Group_running T.toTxt F) (fun F => F.binds (ps := ["self"]) fun _ _ _ _ _ _ us hl => match us, hl with | [_], _ => rfl)
    have D_Group_arrive := mkM (P := P) (w := w) (base := base) (mg := mg) kn_Group_arrive (fun F => ok_Group_arrive T.toTxt F (D_Member_receive := D_Member_receive) (D_Group_gather := D_Group_gather)) (fun F => F.binds (ps := ["self", "message"]) fun _ _ _ _ _ _ us hl => match us, hl with | [_, _], _ => rfl)
    have D_Group_tick := mkM (P := P) (w := w) (base := base) (mg := mg) kn_Group_tick (fun F => ok_Group_tick T.toTxt F (D_Member_tick := D_Member_tick) (D_Group_gather := D_Group_gather)) (fun F => F.binds (ps := ["self", "member"]) fun _ _ _ _ _ _ us hl => match us, hl with | [_, _], _ => rfl)
    have D_Group_carry_out := mkM (P := P) (w := w) (base := base) (mg := mg) kn_Group_carry_out (fun F => ok_Group_carry_out T.toTxt F (D_Member_carry_out := D_Member_carry_out) (D_Group_gather := D_Group_gather)) (fun F => F.binds (ps := ["self", "member", "count"]) fun _ _ _ _ _ _ us hl => match us, hl with | [_, _, _], _ => rfl)
    have D_link_of := mkG X G (P := P) (w := w) (base := base) (mg := mg) kn_link_of (fun F => ok_link_of T.toTxt F) (fun F => F.binds (ps := ["one", "other"]) fun _ _ _ _ _ _ us hl => match us, hl with | [_, _], _ => rfl)
    have D_Group_round := mkM (P := P) (w := w) (base := base) (mg := mg) kn_Group_round (fun F => ok_Group_round T.toTxt F (D_Group_running := D_Group_running) (D_Group_carry_out := D_Group_carry_out) (D_Group_arrive := D_Group_arrive) (D_link_of := D_link_of)) (fun F => F.binds (ps := ["self"]) fun _ _ _ _ _ _ us hl => match us, hl with | [_], _ => rfl)
    have D_Group_advance := mkM (P := P) (w := w) (base := base) (mg := mg) kn_Group_advance (fun F => ok_Group_advance T.toTxt F (D_Group_running := D_Group_running) (D_Group_tick := D_Group_tick) (D_Group_round := D_Group_round)) (fun F => F.binds (ps := ["self"]) fun _ _ _ _ _ _ us hl => match us, hl with | [_], _ => rfl)
    have D_need := mkX X G (P := P) (w := w) (base := base) (mg := mg) kn_need (fun F => ok_need T F) (fun F => F.binds (ps := ["test", "code"]) fun _ _ _ _ _ _ us hl => match us, hl with | [_, _], _ => rfl)
    have D_are_in_range := mkG X G (P := P) (w := w) (base := base) (mg := mg) kn_are_in_range (fun F => ok_are_in_range T F) (fun F => F.binds (ps := ["number", "args"]) fun _ _ _ _ _ _ us hl => match us, hl with | [_, _], _ => rfl)
    have D_acted := mkG X G (P := P) (w := w) (base := base) (mg := mg) kn_acted (fun F => ok_acted T F) (fun F => F.binds (ps := ["group", "sent", "elections"]) fun _ _ _ _ _ _ us hl => match us, hl with | [_, _, _], _ => rfl)
    have D_running_member := mkX X G (P := P) (w := w) (base := base) (mg := mg) kn_running_member (fun F => ok_running_member T F (D_need := D_need)) (fun F => F.binds (ps := ["group", "number"]) fun _ _ _ _ _ _ us hl => match us, hl with | [_, _], _ => rfl)
    have D_act := mkG X G (P := P) (w := w) (base := base) (mg := mg) kn_act (fun F => ok_act T F (D_Group_arrive := D_Group_arrive) (D_Group_round := D_Group_round) (D_Group_advance := D_Group_advance)) (fun F => F.binds (ps := ["group", "number", "args"]) fun _ _ _ _ _ _ us hl => match us, hl with | [_, _, _], _ => rfl)
    have D_act_member := mkX X G (P := P) (w := w) (base := base) (mg := mg) kn_act_member (fun F => ok_act_member T F (D_need := D_need) (D_running_member := D_running_member) (D_Member_start := D_Member_start) (D_Member_stop := D_Member_stop) (D_Member_is_reached_by := D_Member_is_reached_by) (D_Member_hand_over := D_Member_hand_over) (D_Configuration_votes := D_Configuration_votes) (D_Group_tick := D_Group_tick) (D_Group_carry_out := D_Group_carry_out) (D_Group_gather := D_Group_gather)) (fun F => F.binds (ps := ["group", "number", "args"]) fun _ _ _ _ _ _ us hl => match us, hl with | [_, _, _], _ => rfl)
    have D_link := mkX X G (P := P) (w := w) (base := base) (mg := mg) kn_link (fun F => ok_link T F (D_need := D_need) (D_link_of := D_link_of)) (fun F => F.binds (ps := ["group", "number", "args"]) fun _ _ _ _ _ _ us hl => match us, hl with | [_, _, _], _ => rfl)
    have D_status := mkG X G (P := P) (w := w) (base := base) (mg := mg) kn_status (fun F => ok_status T F) (fun F => F.binds (ps := ["group", "args"]) fun _ _ _ _ _ _ us hl => match us, hl with | [_, _], _ => rfl)
    have D_ballots := mkX X G (P := P) (w := w) (base := base) (mg := mg) kn_ballots (fun F => ok_ballots T F (D_running_member := D_running_member)) (fun F => F.binds (ps := ["group", "args"]) fun _ _ _ _ _ _ us hl => match us, hl with | [_, _], _ => rfl)
    have D_held := mkX X G (P := P) (w := w) (base := base) (mg := mg) kn_held (fun F => ok_held T F (D_running_member := D_running_member)) (fun F => F.binds (ps := ["group", "args"]) fun _ _ _ _ _ _ us hl => match us, hl with | [_, _], _ => rfl)
    have D_messages := mkG X G (P := P) (w := w) (base := base) (mg := mg) kn_messages (fun F => ok_messages T F) (fun F => F.binds (ps := ["group", "args"]) fun _ _ _ _ _ _ us hl => match us, hl with | [_, _], _ => rfl)
    have D_elections := mkG X G (P := P) (w := w) (base := base) (mg := mg) kn_elections (fun F => ok_elections T F) (fun F => F.binds (ps := ["group"]) fun _ _ _ _ _ _ us hl => match us, hl with | [_], _ => rfl)
    have D_asked := mkX X G (P := P) (w := w) (base := base) (mg := mg) kn_asked (fun F => ok_asked T F (D_status := D_status) (D_ballots := D_ballots) (D_held := D_held) (D_messages := D_messages) (D_elections := D_elections)) (fun F => F.binds (ps := ["group", "number", "args"]) fun _ _ _ _ _ _ us hl => match us, hl with | [_, _, _], _ => rfl)
    have D_done := mkX X G (P := P) (w := w) (base := base) (mg := mg) kn_done (fun F => ok_done T F (D_need := D_need) (D_are_in_range := D_are_in_range) (D_link := D_link) (D_asked := D_asked) (D_act_member := D_act_member) (D_act := D_act) (D_acted := D_acted)) (fun F => F.binds (ps := ["group", "number", "args"]) fun _ _ _ _ _ _ us hl => match us, hl with | [_, _, _], _ => rfl)
    have D_answer := mkG X G (P := P) (w := w) (base := base) (mg := mg) kn_answer (fun F => ok_answer T F (D_done := D_done)) (fun F => F.binds (ps := ["group", "number", "args"]) fun _ _ _ _ _ _ us hl => match us, hl with | [_, _, _], _ => rfl)
    exact ok_answers T F (D_answer := D_answer) (D_is_valid := D_is_valid) (D_Group := D_Group) (D_Configuration := D_Configuration)
end Lp
set_option maxHeartbeats 8000000
set_option pp.maxSteps 150
set_option pp.deepTerms false
open PySem PySem.W PyProof.Rows
theorem Lp.con_cons {K : PySem.W.Frag} {x : PySem.Str} {n : Int} {t : PySem.Tok} {r : List (PySem.Str × Int)} (h : PySem.W.nsIn K PySem.mainGlobals x = some (some (.int n t))) (hr : Lp.ConAll K r) : Lp.ConAll K ((x, n) :: r) := ⟨⟨t, h⟩, hr⟩
theorem Lp.tu_mk {K : PySem.W.Frag} {a : PySem.Addr} {x : PySem.Str} {ns : List Int} {od : Option PySem.Addr} {its : Array PySem.Value} {n : Nat} {osl : Array (Option PySem.Value)} (h : PySem.W.nsIn K PySem.mainGlobals x = some (some (.ref a)))
    (l : K.lookup a = some ⟨.type "tuple", od, .seq its n, osl⟩) (v : L2.Vals (ns.map L2.V.int) its.toList) : Lp.TuK K a x ns := ⟨h, _, its, n, l, rfl, rfl, v⟩
set_option maxRecDepth 100000 in
set_option maxHeartbeats 16000000 in
theorem PySem.Challenge.cw_leadpoll_s01_answers_holds : PySem.Challenge.rw_leadpoll_s01_answers.Holds := by
  w_on; k_headS; (case hw => exact ⟨[.list [.int 18]], by decide +kernel, by decide +kernel⟩)
  k_fillS
  refine L2.walk_specK (r := PySem.Challenge.rw_leadpoll_s01_answers) (k := 14) (CX := L2.CX0) (ps := ["calls"]) (sp := Lp.spAnswers) (by decide +kernel) rfl rfl ⟨rfl, by decide, by decide⟩ (fun w h Y => PySem.W.kIn_of Y) ?F ?S (fun _ _ _ _ z => z)
  case F =>
    intro w mg fa h Y KX G hmg
    refine' Lp.all_mk KX G hmg ?mkc ?mkm ?mkg ?fr ?cn ?tN ?tM ?tP ?rf ?kn_is_list ?kn_is_valid ?kn_is_majority ?kn_Configuration___init__ ?kn_Configuration_votes ?kn_Configuration_is_quorum ?kn_Configuration_others ?kn_Configuration_other_voters ?kn_Member___init__ ?kn_Member_clear ?kn_Member_start ?kn_Member_stop ?kn_Member_is_reached_by ?kn_Member_is_sheltered ?kn_Member_say ?kn_Member_end_input ?kn_Member_follow ?kn_Member_join ?kn_Member_say_heartbeats ?kn_Member_begin_question ?kn_Member_begin_vote ?kn_Member_begin_lead ?kn_Member_count ?kn_Member_decide ?kn_Member_tick ?kn_Member_tick_leader ?kn_Member_hand_over ?kn_Member_receive ?kn_Member_receive_question ?kn_Member_receive_question_reply ?kn_Member_receive_vote ?kn_Member_receive_other ?kn_Member_carry_out ?kn_Group___init__ ?kn_Group_gather ?kn_Group_running ?kn_Group_arrive ?kn_Group_tick ?kn_Group_carry_out ?kn_Group_round ?kn_Group_advance ?kn_link_of ?kn_need ?kn_are_in_range ?kn_acted ?kn_running_member ?kn_act ?kn_act_member ?kn_link ?kn_status ?kn_ballots ?kn_held ?kn_messages ?kn_elections ?kn_asked ?kn_done ?kn_answer ?kn_answers
    case mkc =>
      refine' ⟨?a, ⟨?b, ?c, ?d, ?e⟩, ?f, ?g, ?i⟩
      (case a => k_is); (case b => k_is); (case c => k_is); (case d => k_is); (case e => k_is); (case g => k_is); (case i => k_is)
      case f => repeat (first | exact trivial | (refine' ⟨?_, ?_⟩; k_is))
    case mkm =>
      refine' ⟨?a, ⟨?b, ?c, ?d, ?e⟩, ?f, ?g, ?i⟩
      (case a => k_is); (case b => k_is); (case c => k_is); (case d => k_is); (case e => k_is); (case g => k_is); (case i => k_is)
      case f => repeat (first | exact trivial | (refine' ⟨?_, ?_⟩; k_is))
    case mkg =>
      refine' ⟨?a, ⟨?b, ?c, ?d, ?e⟩, ?f, ?g, ?i⟩
      (case a => k_is); (case b => k_is); (case c => k_is); (case d => k_is); (case e => k_is); (case g => k_is); (case i => k_is)
      case f => repeat (first | exact trivial | (refine' ⟨?_, ?_⟩; k_is))
    case fr => repeat (first | exact trivial | (refine' ⟨?_, ?_⟩; k_is))
    case cn =>
      repeat (first | exact trivial | (apply Lp.con_cons; k_is))
    case tN =>
      refine' Lp.tu_mk ?a ?l ?v
      (case a => k_is); (case l => k_is)
      case v => repeat (first | exact .nil | refine .cons ⟨_, rfl⟩ ?_)
    case tM =>
      refine' Lp.tu_mk ?a ?l ?v
      (case a => k_is); (case l => k_is)
      case v => repeat (first | exact .nil | refine .cons ⟨_, rfl⟩ ?_)
    case tP =>
      refine' Lp.tu_mk ?a ?l ?v
      (case a => k_is); (case l => k_is)
      case v => repeat (first | exact .nil | refine .cons ⟨_, rfl⟩ ?_)
    case rf =>
      refine' Lp.mk_ref KX G ?aC ?xL ?sa ?ga ?gg ?nb ?a1 ?t1 ?l1 ?c1 ?kC ?eC ?tC ?hC ?iC ?sC
      (case aC => k_is); (case xL => k_is); (case sa => k_is); (case ga => k_is); (case gg => k_is); (case nb => k_is)
      (case a1 => k_is); (case t1 => k_is); (case l1 => k_is); (case c1 => k_is)
      (case kC => k_is); (case eC => k_is); (case tC => k_is); (case hC => k_is); (case iC => k_is); (case sC => first | rfl | k_is)
    case kn_is_list =>
      refine' ⟨_, _, ?a, L2.fun_mk ?l ?c ?k⟩
      (case a => k_is); (case l => k_is); (case c => k_is); (case k => k_is)
    case kn_is_valid =>
      refine' ⟨_, _, ?a, L2.fun_mk ?l ?c ?k⟩
      (case a => k_is); (case l => k_is); (case c => k_is); (case k => k_is)
    case kn_is_majority =>
      refine' ⟨_, _, ?a, L2.fun_mk ?l ?c ?k⟩
      (case a => k_is); (case l => k_is); (case c => k_is); (case k => k_is)
    case kn_Configuration___init__ =>
      refine' ⟨_, _, ⟨?a, ?i, ?j⟩, L2.fun_mk ?l ?c ?k⟩
      (case a => k_is); (case i => k_is); (case j => k_is); (case l => k_is); (case c => k_is); (case k => k_is)
    case kn_Configuration_votes =>
      refine' ⟨_, _, ⟨?a, ?i, ?j⟩, L2.fun_mk ?l ?c ?k⟩
      (case a => k_is); (case i => k_is); (case j => k_is); (case l => k_is); (case c => k_is); (case k => k_is)
    case kn_Configuration_is_quorum =>
      refine' ⟨_, _, ⟨?a, ?i, ?j⟩, L2.fun_mk ?l ?c ?k⟩
      (case a => k_is); (case i => k_is); (case j => k_is); (case l => k_is); (case c => k_is); (case k => k_is)
    case kn_Configuration_others =>
      refine' ⟨_, _, ⟨?a, ?i, ?j⟩, L2.fun_mk ?l ?c ?k⟩
      (case a => k_is); (case i => k_is); (case j => k_is); (case l => k_is); (case c => k_is); (case k => k_is)
    case kn_Configuration_other_voters =>
      refine' ⟨_, _, ⟨?a, ?i, ?j⟩, L2.fun_mk ?l ?c ?k⟩
      (case a => k_is); (case i => k_is); (case j => k_is); (case l => k_is); (case c => k_is); (case k => k_is)
    case kn_Member___init__ =>
      refine' ⟨_, _, ⟨?a, ?i, ?j⟩, L2.fun_mk ?l ?c ?k⟩
      (case a => k_is); (case i => k_is); (case j => k_is); (case l => k_is); (case c => k_is); (case k => k_is)
    case kn_Member_clear =>
      refine' ⟨_, _, ⟨?a, ?i, ?j⟩, L2.fun_mk ?l ?c ?k⟩
      (case a => k_is); (case i => k_is); (case j => k_is); (case l => k_is); (case c => k_is); (case k => k_is)
    case kn_Member_start =>
      refine' ⟨_, _, ⟨?a, ?i, ?j⟩, L2.fun_mk ?l ?c ?k⟩
      (case a => k_is); (case i => k_is); (case j => k_is); (case l => k_is); (case c => k_is); (case k => k_is)
    case kn_Member_stop =>
      refine' ⟨_, _, ⟨?a, ?i, ?j⟩, L2.fun_mk ?l ?c ?k⟩
      (case a => k_is); (case i => k_is); (case j => k_is); (case l => k_is); (case c => k_is); (case k => k_is)
    case kn_Member_is_reached_by =>
      refine' ⟨_, _, ⟨?a, ?i, ?j⟩, L2.fun_mk ?l ?c ?k⟩
      (case a => k_is); (case i => k_is); (case j => k_is); (case l => k_is); (case c => k_is); (case k => k_is)
    case kn_Member_is_sheltered =>
      refine' ⟨_, _, ⟨?a, ?i, ?j⟩, L2.fun_mk ?l ?c ?k⟩
      (case a => k_is); (case i => k_is); (case j => k_is); (case l => k_is); (case c => k_is); (case k => k_is)
    case kn_Member_say =>
      refine' ⟨_, _, ⟨?a, ?i, ?j⟩, L2.fun_mk ?l ?c ?k⟩
      (case a => k_is); (case i => k_is); (case j => k_is); (case l => k_is); (case c => k_is); (case k => k_is)
    case kn_Member_end_input =>
      refine' ⟨_, _, ⟨?a, ?i, ?j⟩, L2.fun_mk ?l ?c ?k⟩
      (case a => k_is); (case i => k_is); (case j => k_is); (case l => k_is); (case c => k_is); (case k => k_is)
    case kn_Member_follow =>
      refine' ⟨_, _, ⟨?a, ?i, ?j⟩, L2.fun_mk ?l ?c ?k⟩
      (case a => k_is); (case i => k_is); (case j => k_is); (case l => k_is); (case c => k_is); (case k => k_is)
    case kn_Member_join =>
      refine' ⟨_, _, ⟨?a, ?i, ?j⟩, L2.fun_mk ?l ?c ?k⟩
      (case a => k_is); (case i => k_is); (case j => k_is); (case l => k_is); (case c => k_is); (case k => k_is)
    case kn_Member_say_heartbeats =>
      refine' ⟨_, _, ⟨?a, ?i, ?j⟩, L2.fun_mk ?l ?c ?k⟩
      (case a => k_is); (case i => k_is); (case j => k_is); (case l => k_is); (case c => k_is); (case k => k_is)
    case kn_Member_begin_question =>
      refine' ⟨_, _, ⟨?a, ?i, ?j⟩, L2.fun_mk ?l ?c ?k⟩
      (case a => k_is); (case i => k_is); (case j => k_is); (case l => k_is); (case c => k_is); (case k => k_is)
    case kn_Member_begin_vote =>
      refine' ⟨_, _, ⟨?a, ?i, ?j⟩, L2.fun_mk ?l ?c ?k⟩
      (case a => k_is); (case i => k_is); (case j => k_is); (case l => k_is); (case c => k_is); (case k => k_is)
    case kn_Member_begin_lead =>
      refine' ⟨_, _, ⟨?a, ?i, ?j⟩, L2.fun_mk ?l ?c ?k⟩
      (case a => k_is); (case i => k_is); (case j => k_is); (case l => k_is); (case c => k_is); (case k => k_is)
    case kn_Member_count =>
      refine' ⟨_, _, ⟨?a, ?i, ?j⟩, L2.fun_mk ?l ?c ?k⟩
      (case a => k_is); (case i => k_is); (case j => k_is); (case l => k_is); (case c => k_is); (case k => k_is)
    case kn_Member_decide =>
      refine' ⟨_, _, ⟨?a, ?i, ?j⟩, L2.fun_mk ?l ?c ?k⟩
      (case a => k_is); (case i => k_is); (case j => k_is); (case l => k_is); (case c => k_is); (case k => k_is)
    case kn_Member_tick =>
      refine' ⟨_, _, ⟨?a, ?i, ?j⟩, L2.fun_mk ?l ?c ?k⟩
      (case a => k_is); (case i => k_is); (case j => k_is); (case l => k_is); (case c => k_is); (case k => k_is)
    case kn_Member_tick_leader =>
      refine' ⟨_, _, ⟨?a, ?i, ?j⟩, L2.fun_mk ?l ?c ?k⟩
      (case a => k_is); (case i => k_is); (case j => k_is); (case l => k_is); (case c => k_is); (case k => k_is)
    case kn_Member_hand_over =>
      refine' ⟨_, _, ⟨?a, ?i, ?j⟩, L2.fun_mk ?l ?c ?k⟩
      (case a => k_is); (case i => k_is); (case j => k_is); (case l => k_is); (case c => k_is); (case k => k_is)
    case kn_Member_receive =>
      refine' ⟨_, _, ⟨?a, ?i, ?j⟩, L2.fun_mk ?l ?c ?k⟩
      (case a => k_is); (case i => k_is); (case j => k_is); (case l => k_is); (case c => k_is); (case k => k_is)
    case kn_Member_receive_question =>
      refine' ⟨_, _, ⟨?a, ?i, ?j⟩, L2.fun_mk ?l ?c ?k⟩
      (case a => k_is); (case i => k_is); (case j => k_is); (case l => k_is); (case c => k_is); (case k => k_is)
    case kn_Member_receive_question_reply =>
      refine' ⟨_, _, ⟨?a, ?i, ?j⟩, L2.fun_mk ?l ?c ?k⟩
      (case a => k_is); (case i => k_is); (case j => k_is); (case l => k_is); (case c => k_is); (case k => k_is)
    case kn_Member_receive_vote =>
      refine' ⟨_, _, ⟨?a, ?i, ?j⟩, L2.fun_mk ?l ?c ?k⟩
      (case a => k_is); (case i => k_is); (case j => k_is); (case l => k_is); (case c => k_is); (case k => k_is)
    case kn_Member_receive_other =>
      refine' ⟨_, _, ⟨?a, ?i, ?j⟩, L2.fun_mk ?l ?c ?k⟩
      (case a => k_is); (case i => k_is); (case j => k_is); (case l => k_is); (case c => k_is); (case k => k_is)
    case kn_Member_carry_out =>
      refine' ⟨_, _, ⟨?a, ?i, ?j⟩, L2.fun_mk ?l ?c ?k⟩
      (case a => k_is); (case i => k_is); (case j => k_is); (case l => k_is); (case c => k_is); (case k => k_is)
    case kn_Group___init__ =>
      refine' ⟨_, _, ⟨?a, ?i, ?j⟩, L2.fun_mk ?l ?c ?k⟩
      (case a => k_is); (case i => k_is); (case j => k_is); (case l => k_is); (case c => k_is); (case k => k_is)
    case kn_Group_gather =>
      refine' ⟨_, _, ⟨?a, ?i, ?j⟩, L2.fun_mk ?l ?c ?k⟩
      (case a => k_is); (case i => k_is); (case j => k_is); (case l => k_is); (case c => k_is); (case k => k_is)
    case kn_Group_running =>
      refine' ⟨_, _, ⟨?a, ?i, ?j⟩, L2.fun_mk ?l ?c ?k⟩
      (case a => k_is); (case i => k_is); (case j => k_is); (case l => k_is); (case c => k_is); (case k => k_is)
    case kn_Group_arrive =>
      refine' ⟨_, _, ⟨?a, ?i, ?j⟩, L2.fun_mk ?l ?c ?k⟩
      (case a => k_is); (case i => k_is); (case j => k_is); (case l => k_is); (case c => k_is); (case k => k_is)
    case kn_Group_tick =>
      refine' ⟨_, _, ⟨?a, ?i, ?j⟩, L2.fun_mk ?l ?c ?k⟩
      (case a => k_is); (case i => k_is); (case j => k_is); (case l => k_is); (case c => k_is); (case k => k_is)
    case kn_Group_carry_out =>
      refine' ⟨_, _, ⟨?a, ?i, ?j⟩, L2.fun_mk ?l ?c ?k⟩
      (case a => k_is); (case i => k_is); (case j => k_is); (case l => k_is); (case c => k_is); (case k => k_is)
    case kn_Group_round =>
      refine' ⟨_, _, ⟨?a, ?i, ?j⟩, L2.fun_mk ?l ?c ?k⟩
      (case a => k_is); (case i => k_is); (case j => k_is); (case l => k_is); (case c => k_is); (case k => k_is)
    case kn_Group_advance =>
      refine' ⟨_, _, ⟨?a, ?i, ?j⟩, L2.fun_mk ?l ?c ?k⟩
      (case a => k_is); (case i => k_is); (case j => k_is); (case l => k_is); (case c => k_is); (case k => k_is)
    case kn_link_of =>
      refine' ⟨_, _, ?a, L2.fun_mk ?l ?c ?k⟩
      (case a => k_is); (case l => k_is); (case c => k_is); (case k => k_is)
    case kn_need =>
      refine' ⟨_, _, ?a, L2.fun_mk ?l ?c ?k⟩
      (case a => k_is); (case l => k_is); (case c => k_is); (case k => k_is)
    case kn_are_in_range =>
      refine' ⟨_, _, ?a, L2.fun_mk ?l ?c ?k⟩
      (case a => k_is); (case l => k_is); (case c => k_is); (case k => k_is)
    case kn_acted =>
      refine' ⟨_, _, ?a, L2.fun_mk ?l ?c ?k⟩
      (case a => k_is); (case l => k_is); (case c => k_is); (case k => k_is)
    case kn_running_member =>
      refine' ⟨_, _, ?a, L2.fun_mk ?l ?c ?k⟩
      (case a => k_is); (case l => k_is); (case c => k_is); (case k => k_is)
    case kn_act =>
      refine' ⟨_, _, ?a, L2.fun_mk ?l ?c ?k⟩
      (case a => k_is); (case l => k_is); (case c => k_is); (case k => k_is)
    case kn_act_member =>
      refine' ⟨_, _, ?a, L2.fun_mk ?l ?c ?k⟩
      (case a => k_is); (case l => k_is); (case c => k_is); (case k => k_is)
    case kn_link =>
      refine' ⟨_, _, ?a, L2.fun_mk ?l ?c ?k⟩
      (case a => k_is); (case l => k_is); (case c => k_is); (case k => k_is)
    case kn_status =>
      refine' ⟨_, _, ?a, L2.fun_mk ?l ?c ?k⟩
      (case a => k_is); (case l => k_is); (case c => k_is); (case k => k_is)
    case kn_ballots =>
      refine' ⟨_, _, ?a, L2.fun_mk ?l ?c ?k⟩
      (case a => k_is); (case l => k_is); (case c => k_is); (case k => k_is)
    case kn_held =>
      refine' ⟨_, _, ?a, L2.fun_mk ?l ?c ?k⟩
      (case a => k_is); (case l => k_is); (case c => k_is); (case k => k_is)
    case kn_messages =>
      refine' ⟨_, _, ?a, L2.fun_mk ?l ?c ?k⟩
      (case a => k_is); (case l => k_is); (case c => k_is); (case k => k_is)
    case kn_elections =>
      refine' ⟨_, _, ?a, L2.fun_mk ?l ?c ?k⟩
      (case a => k_is); (case l => k_is); (case c => k_is); (case k => k_is)
    case kn_asked =>
      refine' ⟨_, _, ?a, L2.fun_mk ?l ?c ?k⟩
      (case a => k_is); (case l => k_is); (case c => k_is); (case k => k_is)
    case kn_done =>
      refine' ⟨_, _, ?a, L2.fun_mk ?l ?c ?k⟩
      (case a => k_is); (case l => k_is); (case c => k_is); (case k => k_is)
    case kn_answer =>
      refine' ⟨_, _, ?a, L2.fun_mk ?l ?c ?k⟩
      (case a => k_is); (case l => k_is); (case c => k_is); (case k => k_is)
    case kn_answers =>
      refine' ⟨_, _, ?a, L2.fun_mk ?l ?c ?k⟩
      (case a => k_is); (case l => k_is); (case c => k_is); (case k => k_is)
  case S =>
    intro K H xs a hO hwi hask hx
    cases hx with
    | cons h1 h2 =>
      cases h2
      cases h1 with
      | lst hs ha =>
        have e := L2.ints_dw a.1 _ ha
        subst e
        have q : ((Codec.inLen 0 16000 a.1 && a.1.all (Codec.inInt (-1000000000000000000) 1000000000000000000)) && true) = true := hwi
        rw [Bool.and_eq_true, Bool.and_eq_true] at q
        exact ⟨_, a.1, rfl, hs, Nat.le_trans (Codec.inNat_iff.mp q.1.1).2 (by decide), hask, fun H' p hp => .lst (L2.SqL.of hp) (L2.dw_ints _)⟩
#print axioms PySem.Challenge.cw_leadpoll_s01_answers_holds
