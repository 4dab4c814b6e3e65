import PyProof.Rows.All
import Wide.All
import OpenK.AllK
import Wide.FinOn
import Open.SpecLaws
import KE.OsGo
import HandS.ForSpec
import HandS.Comp
import HandS.Dict
import HandS.Iter
import HandS.Walk
import HandS.Flow
import HandS.TupAny
import HandS.NoneIn
import HandS.Conv
import HandS.Codes
import HandS.CallLocal
import HandS.SortInts
import PySem.Challenge.RW_brokenborder_s01_answers
set_option Elab.async false
namespace BB
open Sr115 (Piece Floor pieceAt)

/-! ### The mirror: each def as a total function over plain lists -/

/-- the mark list of a good floor -/
structure Good (f : Floor) : Prop where
  len : f.length ≤ 7
  marks : ∀ p ∈ f, p.left < 6 ∧ p.right < 6

/-! chains -/
def canFollow (f : Floor) (c : List Nat) (i : Nat) : Bool :=
  !c.contains i && (decide (c = []) || (pieceAt f (c.getLastD 0)).right == (pieceAt f i).left)
def longerOne (f : Floor) (c : List Nat) : List (List Nat) := ((List.range f.length).filter (canFollow f c)).map fun i => c ++ [i]
def longer (f : Floor) (cs : List (List Nat)) : List (List Nat) := cs.flatMap (longerOne f)
def levels (f : Floor) : Nat → List (List Nat) → List (List Nat)
  | 0, cs => cs
  | n + 1, cs => levels f n (longer f cs)
def complete (f : Floor) : List (List Nat) := levels f f.length [[]]
def isCircuit (f : Floor) (c : List Nat) : Bool := c.headD 1 == 0 && (pieceAt f (c.getLastD 0)).right == (pieceAt f 0).left
def allCircuits (f : Floor) : List (List Nat) := if f = [] then [] else (complete f).filter (isCircuit f)
def begins (f : Floor) (m : Nat) (c : List Nat) : Bool := (pieceAt f (c.headD 0)).left == m
def countBeginning (f : Floor) (m : Nat) : Nat := if f = [] then 0 else ((complete f).filter (begins f m)).length

/-! marks -/
def beginCount (f : Floor) (m : Nat) : Nat := (f.filter fun p => p.left == m).length
def endCount (f : Floor) (m : Nat) : Nat := (f.filter fun p => p.right == m).length
def allExcesses (f : Floor) : List Int := (List.range 6).map fun m => (beginCount f m : Int) - (endCount f m : Int)
def usedMarks (f : Floor) : List Nat := (List.range 6).filter fun m => 0 < beginCount f m + endCount f m
def relax (names : List Nat) (p : Piece) : List Nat :=
  let s := min (names.getD p.left 0) (names.getD p.right 0)
  (names.set p.left s).set p.right s
def turnNames (f : Floor) (names : List Nat) : List Nat := f.foldl relax names
def namesAt (f : Floor) : Nat → List Nat
  | 0 => List.range 6
  | n + 1 => turnNames f (namesAt f n)
def componentNames (f : Floor) : List Nat := namesAt f 6
def componentList (f : Floor) : List Nat := (usedMarks f).filter fun m => (componentNames f).getD m 0 == m
def positiveExcess (f : Floor) (c : Nat) : Int :=
  (((List.range 6).filter fun m => (componentNames f).getD m 0 == c).map fun m => max 0 ((beginCount f m : Int) - (endCount f m : Int))).sum
def fewestChains (f : Floor) : Int := ((componentList f).map fun c => max 1 (positiveExcess f c)).sum

/-! trees: a choice has for each mark the chosen piece's right mark -/
abbrev Choice := List (Option Nat)
def withPiece (c : Choice) (p : Piece) : Choice := c.set p.left (some p.right)
def ownPieces (f : Floor) (m : Nat) : List Piece := f.filter fun p => p.left == m
def chooseFor (f : Floor) (m : Nat) (cs : List Choice) : List Choice := cs.flatMap fun c => (ownPieces f m).map fun p => withPiece c p
def choicesTurn (f : Floor) (goal : Nat) (cs : List Choice) (m : Nat) : List Choice := if m = goal then cs else chooseFor f m cs
def choicesTo (f : Floor) (goal : Nat) : List Choice := (usedMarks f).foldl (choicesTurn f goal) [List.replicate 6 none]
def stepTo (c : Choice) (goal m : Nat) : Nat := if m = goal then m else (c.getD m none).getD 0
def walkTo (c : Choice) (goal : Nat) : Nat → Nat → Nat
  | 0, m => m
  | n + 1, m => walkTo c goal n (stepTo c goal m)
def leadsTo (c : Choice) (start goal : Nat) : Bool := walkTo c goal 6 start == goal
def isTree (f : Floor) (c : Choice) (goal : Nat) : Bool := (usedMarks f).all fun m => leadsTo c m goal
def countTrees (f : Floor) (goal : Nat) : Nat := ((choicesTo f goal).filter fun c => isTree f c goal).length
def isBalanced (f : Floor) : Bool := decide ((componentList f).length = 1) && decide (allExcesses f = List.replicate 6 0)
def circuitsByTrees (f : Floor) : Nat :=
  if isBalanced f then (usedMarks f).foldl (fun a m => a * Sr115.factorial (beginCount f m - 1)) (countTrees f (pieceAt f 0).left) else 0

/-- is it a mark -/
def markI (n : Int) : Bool := decide (0 ≤ n) && decide (n < 6)
/-! lists -/
def splitTurn (s : List (List Int) × List Int) (x : Int) : List (List Int) × List Int :=
  if x = -1 then (s.1 ++ [s.2], []) else (s.1, s.2 ++ [x])
def splitLists (l : List Int) : List (List Int) := let s := l.foldl splitTurn ([], []); s.1 ++ [s.2]
def areElements (f : Floor) (l : List Int) : Bool := decide (l ≠ []) && l.all fun e => decide (-1 ≤ e) && decide (e < f.length)
def fits (f : Floor) (i j : Nat) : Bool := (pieceAt f i).right == (pieceAt f j).left
def isLinked (f : Floor) (r : List Nat) : Bool := (List.range (r.length - 1)).all fun k => fits f (r.getD k 0) (r.getD (k + 1) 0)
def rowOk (f : Floor) (r : List Nat) : Bool := decide (r ≠ []) && isLinked f r
end BB
namespace BB
open Sr115 (Piece Floor pieceAt)

theorem levels_append (f : Floor) : ∀ (n : Nat) (a b : List (List Nat)), levels f n (a ++ b) = levels f n a ++ levels f n b
  | 0, _, _ => rfl
  | n + 1, a, b => by
    show levels f n (longer f (a ++ b)) = levels f n (longer f a) ++ levels f n (longer f b)
    rw [← levels_append f n]
    congr 1
    exact List.flatMap_append
theorem levels_nil (f : Floor) : ∀ n, levels f n [] = []
  | 0 => rfl
  | n + 1 => levels_nil f n
theorem levels_flatMap (f : Floor) (n : Nat) : ∀ cs : List (List Nat), levels f n cs = cs.flatMap fun c => levels f n [c]
  | [] => levels_nil f n
  | c :: cs => by
    rw [List.flatMap_cons, ← levels_flatMap f n cs, ← levels_append]
    rfl
theorem levels_succ (f : Floor) : ∀ (n : Nat) (cs : List (List Nat)), levels f (n + 1) cs = longer f (levels f n cs)
  | 0, _ => rfl
  | n + 1, cs => levels_succ f n (longer f cs)

def restOf (f : Floor) (c : List Nat) : List Nat := (List.range f.length).filter fun i => !c.contains i
def markOf (f : Floor) (c : List Nat) : Option Nat := if c = [] then none else some (pieceAt f (c.getLastD 0)).right

theorem restOf_append (f : Floor) (c : List Nat) (i : Nat) : restOf f (c ++ [i]) = (restOf f c).filter fun j => j != i := by
  unfold restOf
  rw [List.filter_filter]
  congr 1
  funext j
  rw [Bool.eq_iff_iff]
  simp
  constructor
  · intro h; exact ⟨h.2, h.1⟩
  · intro h; exact ⟨h.2, h.1⟩
theorem markOf_append (f : Floor) (c : List Nat) (i : Nat) : markOf f (c ++ [i]) = some (pieceAt f i).right := by
  unfold markOf
  rw [if_neg (by simp)]
  simp
theorem filter_can (f : Floor) (c : List Nat) (g : Nat → Bool) (hg : ∀ i, g i = (match markOf f c with
      | none => true
      | some m => (pieceAt f i).left == m)) : (restOf f c).filter g = (List.range f.length).filter (canFollow f c) := by
  unfold restOf
  rw [List.filter_filter]
  congr 1
  funext i
  rw [hg]
  unfold canFollow markOf
  by_cases hc : c = []
  · subst hc; simp
  · rw [if_neg hc, decide_eq_false hc, Bool.false_or, Bool.and_comm]
    show (!c.contains i && (pieceAt f i).left == (pieceAt f (c.getLastD 0)).right) = _
    congr 1
    exact Bool.beq_comm
theorem rest_length (f : Floor) (c : List Nat) (i n : Nat) (hi : i ∈ restOf f c) (hn : (restOf f c).length = n + 1) : (restOf f (c ++ [i])).length = n := by
  rw [restOf_append]
  have nd : (restOf f c).Nodup := List.Nodup.sublist List.filter_sublist List.nodup_range
  have e : (restOf f c).filter (fun j => j != i) = (restOf f c).erase i := (List.Nodup.erase_eq_filter nd i).symm
  rw [e, List.length_erase_of_mem hi, hn]
  rfl
theorem longer_one (f : Floor) (c : List Nat) : longer f [c] = longerOne f c := by
  unfold longer
  simp
theorem chains_levels (f : Floor) : ∀ (n : Nat) (c : List Nat), (restOf f c).length = n →
    levels f n [c] = (Sr115.chainsFrom f n (restOf f c) (markOf f c)).map fun r => c ++ r
  | 0, c, _ => by
    show [c] = ([[]] : List (List Nat)).map fun r => c ++ r
    simp
  | n + 1, c, h => by
    have hne : restOf f c ≠ [] := by
      intro e; rw [e] at h; cases h
    show levels f n (longer f [c]) = (if restOf f c = [] then [[]] else _ : List (List Nat)).map fun r => c ++ r
    rw [if_neg hne, filter_can f c _ (fun i => by cases markOf f c <;> rfl), longer_one, levels_flatMap]
    unfold longerOne
    rw [List.flatMap_map, List.map_flatMap]
    have key : ∀ i ∈ (List.range f.length).filter (canFollow f c), levels f n [c ++ [i]] =
        ((Sr115.chainsFrom f n ((restOf f c).filter fun j => j != i) (some (pieceAt f i).right)).map fun r => i :: r).map fun r => c ++ r := by
      intro i hi
      have hm : i ∈ restOf f c := by
        rw [List.mem_filter] at hi
        unfold restOf
        rw [List.mem_filter]
        refine ⟨hi.1, ?_⟩
        have := hi.2
        unfold canFollow at this
        rw [Bool.and_eq_true] at this
        exact this.1
      rw [chains_levels f n (c ++ [i]) (rest_length f c i n hm h), restOf_append, markOf_append, List.map_map]
      congr 1
      funext r
      simp
    have all : ∀ (l : List Nat) (F G : Nat → List (List Nat)), (∀ i ∈ l, F i = G i) → l.flatMap F = l.flatMap G := by
      intro l F G hl
      rw [List.flatMap_def, List.flatMap_def, List.map_congr_left hl]
    exact all _ _ _ key
theorem restOf_nil (f : Floor) : restOf f [] = Sr115.allPieces f := by
  unfold restOf Sr115.allPieces
  simp
theorem complete_eq (f : Floor) : complete f = Sr115.completeChains f := by
  have h := chains_levels f f.length [] (by rw [restOf_nil]; exact List.length_range)
  rw [restOf_nil] at h
  have e : (fun r : List Nat => ([] : List Nat) ++ r) = id := by funext r; rfl
  rw [e, List.map_id] at h
  exact h
end BB
namespace BB
open Sr115 (Piece Floor pieceAt)
theorem mem_longerOne {f : Floor} {c d : List Nat} (h : d ∈ longerOne f c) : ∃ i, i < f.length ∧ canFollow f c i = true ∧ d = c ++ [i] := by
  unfold longerOne at h
  rw [List.mem_map] at h
  obtain ⟨i, hi, e⟩ := h
  rw [List.mem_filter, List.mem_range] at hi
  exact ⟨i, hi.1, hi.2, e.symm⟩
/-- a chain of n pieces -/
def ChainOk (f : Floor) (n : Nat) (c : List Nat) : Prop := c.length = n ∧ ∀ i ∈ c, i < f.length
theorem longer_ok {f : Floor} {n : Nat} {cs : List (List Nat)} (h : ∀ c ∈ cs, ChainOk f n c) : ∀ c ∈ longer f cs, ChainOk f (n + 1) c := by
  intro c hc
  unfold longer at hc
  rw [List.mem_flatMap] at hc
  obtain ⟨d, hd, hc⟩ := hc
  obtain ⟨i, hi, _, rfl⟩ := mem_longerOne hc
  obtain ⟨h1, h2⟩ := h d hd
  refine ⟨by simp [h1], fun j hj => ?_⟩
  rcases List.mem_append.mp hj with q | q
  · exact h2 j q
  · rw [List.mem_singleton] at q; rw [q]; exact hi
theorem levels_ok (f : Floor) : ∀ (n : Nat), ∀ c ∈ levels f n [[]], ChainOk f n c
  | 0 => fun c hc => by
    rw [List.mem_singleton.mp hc]
    exact ⟨rfl, fun i hi => nomatch hi⟩
  | n + 1 => by
    rw [levels_succ]
    exact longer_ok (levels_ok f n)
theorem longerOne_length (f : Floor) (c : List Nat) : (longerOne f c).length ≤ f.length := by
  unfold longerOne
  rw [List.length_map]
  exact Nat.le_trans (List.length_filter_le _ _) (by rw [List.length_range]; exact Nat.le_refl _)
theorem longer_length (f : Floor) : ∀ cs : List (List Nat), (longer f cs).length ≤ cs.length * f.length
  | [] => by simp [longer]
  | c :: cs => by
    have h := longer_length f cs
    have h1 := longerOne_length f c
    unfold longer at h ⊢
    rw [List.flatMap_cons, List.length_append, List.length_cons, Nat.add_mul, Nat.one_mul]
    omega
theorem levels_length {f : Floor} (hf : f.length ≤ 7) : ∀ n, (levels f n [[]]).length ≤ 7 ^ n
  | 0 => by simp [levels]
  | n + 1 => by
    rw [levels_succ]
    refine Nat.le_trans (longer_length f _) ?_
    rw [Nat.pow_succ]
    exact Nat.mul_le_mul (levels_length hf n) hf
theorem complete_ok (f : Floor) : ∀ c ∈ complete f, ChainOk f f.length c := levels_ok f f.length
theorem complete_length {f : Floor} (hf : f.length ≤ 7) : (complete f).length ≤ 823543 :=
  Nat.le_trans (levels_length hf f.length) (Nat.le_trans (Nat.pow_le_pow_right (by decide) hf) (by decide))
theorem circuits_eq (f : Floor) : allCircuits f = Sr115.circuits f := by
  unfold allCircuits Sr115.circuits
  rw [complete_eq]
  by_cases h : f = []
  · rw [if_pos h]
    subst h
    rfl
  · rw [if_neg h]
    rfl
theorem begins_eq (f : Floor) (m : Nat) : countBeginning f m = ((Sr115.completeChains f).filter fun r => match r.head? with
      | none => false
      | some i => (pieceAt f i).left == m).length := by
  unfold countBeginning
  by_cases h : f = []
  · rw [if_pos h]
    subst h
    rfl
  · rw [if_neg h, ← complete_eq]
    congr 1
    refine List.filter_congr fun c hc => ?_
    obtain ⟨h1, _⟩ := complete_ok f c hc
    cases c with
    | nil =>
      exfalso
      cases f with
      | nil => exact h rfl
      | cons _ _ => cases h1
    | cons i r => rfl
end BB
namespace BB
open Sr115 (Piece Floor pieceAt)

theorem beginCount_eq (f : Floor) (m : Nat) : beginCount f m = Sr115.outDegree f m := rfl
theorem endCount_eq (f : Floor) (m : Nat) : endCount f m = Sr115.inDegree f m := rfl
theorem usedMarks_eq (f : Floor) : usedMarks f = Sr115.usedMarks f := rfl

/-- a mark of some piece -/
def Adj (f : Floor) (x y : Nat) : Prop := ∃ p ∈ f, (p.left = x ∧ p.right = y) ∨ (p.left = y ∧ p.right = x)
theorem Adj.symm {f : Floor} {x y : Nat} (h : Adj f x y) : Adj f y x := by
  obtain ⟨p, hp, h⟩ := h
  exact ⟨p, hp, h.symm⟩
def R (f : Floor) : Nat → Nat → Nat → Prop
  | 0, x, y => x = y
  | n + 1, x, y => R f n x y ∨ ∃ z, Adj f x z ∧ R f n z y
inductive Conn (f : Floor) : Nat → Nat → Prop
  | refl (x : Nat) : Conn f x x
  | step {x y z : Nat} : Adj f x y → Conn f y z → Conn f x z
theorem Conn.trans {f : Floor} {x y z : Nat} (h : Conn f x y) (h' : Conn f y z) : Conn f x z := by
  induction h with
  | refl _ => exact h'
  | step a _ ih => exact .step a (ih h')
theorem Conn.one {f : Floor} {x y : Nat} (h : Adj f x y) : Conn f x y := .step h (.refl y)
theorem Conn.symm {f : Floor} {x y : Nat} (h : Conn f x y) : Conn f y x := by
  induction h with
  | refl x => exact .refl x
  | step a _ ih => exact ih.trans (.one a.symm)
theorem R.conn {f : Floor} : ∀ {n x y : Nat}, R f n x y → Conn f x y
  | 0, _, _, h => by cases h; exact .refl _
  | _ + 1, _, _, .inl h => h.conn
  | _ + 1, _, _, .inr ⟨_, a, h⟩ => .step a h.conn
theorem R.mono1 {f : Floor} {n x y : Nat} (h : R f n x y) : R f (n + 1) x y := .inl h
theorem Adj.lt {f : Floor} (g : Good f) {x y : Nat} (h : Adj f x y) : x < 6 ∧ y < 6 := by
  obtain ⟨p, hp, h⟩ := h
  have := g.marks p hp
  rcases h with ⟨rfl, rfl⟩ | ⟨rfl, rfl⟩
  · exact this
  · exact ⟨this.2, this.1⟩
theorem Conn.lt {f : Floor} (g : Good f) {x y : Nat} (h : Conn f x y) (hx : x < 6) : y < 6 := by
  induction h with
  | refl _ => exact hx
  | step a _ ih => exact ih (a.lt g).2

/-! ### the used marks -/
theorem length_pos_of_mem' {α : Type} {l : List α} {x : α} (h : x ∈ l) : 0 < l.length := List.length_pos_of_mem h
theorem used_of_left {f : Floor} (g : Good f) {p : Piece} (h : p ∈ f) : p.left ∈ usedMarks f := by
  unfold usedMarks
  rw [List.mem_filter, List.mem_range]
  refine ⟨(g.marks p h).1, ?_⟩
  have : p ∈ f.filter fun q => q.left == p.left := by rw [List.mem_filter]; exact ⟨h, by simp⟩
  have := List.length_pos_of_mem this
  apply decide_eq_true
  unfold beginCount
  omega
theorem used_of_right {f : Floor} (g : Good f) {p : Piece} (h : p ∈ f) : p.right ∈ usedMarks f := by
  unfold usedMarks
  rw [List.mem_filter, List.mem_range]
  refine ⟨(g.marks p h).2, ?_⟩
  have : p ∈ f.filter fun q => q.right == p.right := by rw [List.mem_filter]; exact ⟨h, by simp⟩
  have := List.length_pos_of_mem this
  apply decide_eq_true
  unfold endCount
  omega
theorem used_lt {f : Floor} {m : Nat} (h : m ∈ usedMarks f) : m < 6 := by
  unfold usedMarks at h
  rw [List.mem_filter, List.mem_range] at h
  exact h.1
theorem used_adj {f : Floor} (g : Good f) {x y : Nat} (h : Adj f x y) : y ∈ usedMarks f := by
  obtain ⟨p, hp, h⟩ := h
  rcases h with ⟨_, rfl⟩ | ⟨rfl, _⟩
  · exact used_of_right g hp
  · exact used_of_left g hp
theorem used_conn {f : Floor} (g : Good f) {x y : Nat} (h : Conn f x y) (hx : x ∈ usedMarks f) : y ∈ usedMarks f := by
  induction h with
  | refl _ => exact hx
  | step a _ ih => exact ih (used_adj g a)
theorem not_adj_of_unused {f : Floor} (g : Good f) {x y : Nat} (h : Adj f x y) : x ∈ usedMarks f := used_adj g h.symm

/-! ### the specification's extension -/
def fresh (f : Floor) (s : List Nat) : List Nat := (Sr115.usedMarks f).filter fun m => !s.contains m &&
      f.any fun p => (p.left == m && s.contains p.right) || (p.right == m && s.contains p.left)
theorem extend_succ (f : Floor) (n : Nat) (s : List Nat) : Sr115.extendSet f (n + 1) s = Sr115.extendSet f n (s ++ fresh f s) := rfl
theorem mem_fresh {f : Floor} (g : Good f) {s : List Nat} {y : Nat} : y ∈ fresh f s ↔ y ∉ s ∧ ∃ x ∈ s, Adj f x y := by
  unfold fresh
  rw [List.mem_filter, Bool.and_eq_true, List.any_eq_true]
  constructor
  · rintro ⟨_, h1, p, hp, h2⟩
    refine ⟨by simpa using h1, ?_⟩
    rw [Bool.or_eq_true, Bool.and_eq_true, Bool.and_eq_true] at h2
    rcases h2 with ⟨a, b⟩ | ⟨a, b⟩
    · exact ⟨p.right, by simpa using b, p, hp, .inr ⟨by simpa using a, rfl⟩⟩
    · exact ⟨p.left, by simpa using b, p, hp, .inl ⟨rfl, by simpa using a⟩⟩
  · rintro ⟨h1, x, hx, a⟩
    refine ⟨used_adj g a, by simpa using h1, ?_⟩
    obtain ⟨p, hp, h⟩ := a
    refine ⟨p, hp, ?_⟩
    rcases h with ⟨rfl, rfl⟩ | ⟨rfl, rfl⟩
    · simp [hx]
    · simp [hx]
theorem mem_more {f : Floor} (g : Good f) {s : List Nat} {y : Nat} : y ∈ s ++ fresh f s ↔ y ∈ s ∨ ∃ x ∈ s, Adj f x y := by
  rw [List.mem_append, mem_fresh g]
  constructor
  · rintro (h | h)
    · exact .inl h
    · exact .inr h.2
  · intro h
    by_cases hy : y ∈ s
    · exact .inl hy
    · rcases h with h | h
      · exact .inl h
      · exact .inr ⟨hy, h⟩
theorem mem_extend {f : Floor} (g : Good f) : ∀ (n : Nat) (s : List Nat) (y : Nat), y ∈ Sr115.extendSet f n s ↔ ∃ x ∈ s, R f n x y
  | 0, s, y => by
    show y ∈ s ↔ ∃ x ∈ s, x = y
    constructor
    · intro h; exact ⟨y, h, rfl⟩
    · rintro ⟨x, h, rfl⟩; exact h
  | n + 1, s, y => by
    rw [extend_succ, mem_extend g n]
    constructor
    · rintro ⟨x, hx, h⟩
      rcases (mem_more g).mp hx with q | ⟨z, hz, a⟩
      · exact ⟨x, q, .inl h⟩
      · exact ⟨z, hz, .inr ⟨x, a, h⟩⟩
    · rintro ⟨x, hx, h | ⟨z, a, h⟩⟩
      · exact ⟨x, (mem_more g).mpr (.inl hx), h⟩
      · exact ⟨z, (mem_more g).mpr (.inr ⟨x, hx, a⟩), h⟩
/-- the extension ends: so many turns reach all that is connected -/
theorem extend_stable {f : Floor} {s : List Nat} (h : fresh f s = []) : ∀ n, Sr115.extendSet f n s = s
  | 0 => rfl
  | n + 1 => by rw [extend_succ, h, List.append_nil]; exact extend_stable h n
theorem nodup_lt {l : List Nat} (nd : l.Nodup) {n : Nat} (h : ∀ x ∈ l, x < n) : l.length ≤ n := by
  have := List.Nodup.length_le_of_subset (l₂ := List.range n) nd (fun x hx => List.mem_range.mpr (h x hx))
  rwa [List.length_range] at this
theorem nodup_more {f : Floor} (g : Good f) {s : List Nat} (nd : s.Nodup) : (s ++ fresh f s).Nodup := by
  rw [List.nodup_append]
  refine ⟨nd, ?_, fun a ha b hb e => ?_⟩
  · exact List.Nodup.sublist (List.filter_sublist.trans List.filter_sublist) List.nodup_range
  · subst e
    exact ((mem_fresh g).mp hb).1 ha
theorem lt_more {f : Floor} (g : Good f) {s : List Nat} (h : ∀ x ∈ s, x < 6) : ∀ x ∈ s ++ fresh f s, x < 6 := by
  intro x hx
  rcases (mem_more g).mp hx with q | ⟨z, _, a⟩
  · exact h x q
  · exact (a.lt g).2
/-- behind n turns the set is closed, or it has at least n items more -/
theorem extend_grows {f : Floor} (g : Good f) : ∀ (n : Nat) (s : List Nat), s.Nodup → (∀ x ∈ s, x < 6) →
    (Sr115.extendSet f n s).Nodup ∧ (∀ x ∈ Sr115.extendSet f n s, x < 6) ∧ (fresh f (Sr115.extendSet f n s) = [] ∨ s.length + n ≤ (Sr115.extendSet f n s).length)
  | 0, s, nd, lt => ⟨nd, lt, .inr (Nat.le_refl _)⟩
  | n + 1, s, nd, lt => by
    by_cases e : fresh f s = []
    · rw [extend_stable e]
      exact ⟨nd, lt, .inl e⟩
    · rw [extend_succ]
      obtain ⟨h1, h2, h3⟩ := extend_grows g n _ (nodup_more g nd) (lt_more g lt)
      refine ⟨h1, h2, h3.imp id fun h => ?_⟩
      rw [List.length_append] at h
      have : 0 < (fresh f s).length := List.length_pos_iff.mpr e
      omega
theorem extend_closed {f : Floor} (g : Good f) {m : Nat} (hm : m < 6) : fresh f (Sr115.extendSet f 6 [m]) = [] := by
  obtain ⟨h1, h2, h3⟩ := extend_grows g 6 [m] (by simp) (fun x hx => by rw [List.mem_singleton.mp hx]; exact hm)
  rcases h3 with h | h
  · exact h
  · have := nodup_lt h1 h2
    simp at h
    omega
theorem mem_extend_conn {f : Floor} (g : Good f) {m : Nat} (hm : m < 6) (y : Nat) : y ∈ Sr115.extendSet f 6 [m] ↔ Conn f m y := by
  constructor
  · intro h
    obtain ⟨x, hx, r⟩ := (mem_extend g 6 [m] y).mp h
    rw [List.mem_singleton.mp hx] at r
    exact r.conn
  · have closed : ∀ x z, Conn f x z → x ∈ Sr115.extendSet f 6 [m] → z ∈ Sr115.extendSet f 6 [m] := by
      intro x z h
      induction h with
      | refl _ => exact id
      | @step x y z a _ ih =>
        intro hx
        refine ih ?_
        by_cases hy : y ∈ Sr115.extendSet f 6 [m]
        · exact hy
        · have : y ∈ fresh f (Sr115.extendSet f 6 [m]) := (mem_fresh g).mpr ⟨hy, x, hx, a⟩
          rw [extend_closed g hm] at this
          cases this
    intro h
    refine closed m y h ?_
    rw [mem_extend g]
    refine ⟨m, List.mem_singleton.mpr rfl, ?_⟩
    have all : ∀ n, R f n m m := by
      intro n
      induction n with
      | zero => rfl
      | succ n ih => exact .inl ih
    exact all 6
theorem conn_R {f : Floor} (g : Good f) {x y : Nat} (hx : x < 6) (h : Conn f x y) : R f 6 x y := by
  obtain ⟨z, hz, r⟩ := (mem_extend g 6 [x] y).mp ((mem_extend_conn g hx y).mpr h)
  rw [List.mem_singleton.mp hz] at r
  exact r
theorem mem_component {f : Floor} (g : Good f) {m : Nat} (hm : m < 6) (y : Nat) : y ∈ Sr115.componentOf f m ↔ Conn f m y := by
  unfold Sr115.componentOf
  rw [List.mem_filter, List.mem_range]
  show y < 6 ∧ (Sr115.extendSet f 6 [m]).contains y = true ↔ _
  rw [List.contains_iff_mem, mem_extend_conn g hm]
  exact ⟨fun h => h.2, fun h => ⟨h.lt g hm, h⟩⟩

/-! ### the program's names -/
/-- what the names tell at any time -/
structure NamesOk (f : Floor) (names : List Nat) : Prop where
  len : names.length = 6
  conn : ∀ x, x < 6 → Conn f x (names.getD x 0)
def Below (a b : List Nat) : Prop := ∀ x, a.getD x 0 ≤ b.getD x 0
theorem Below.refl (a : List Nat) : Below a a := fun _ => Nat.le_refl _
theorem Below.trans {a b c : List Nat} (h : Below a b) (h' : Below b c) : Below a c := fun x => Nat.le_trans (h x) (h' x)
theorem getD_set (l : List Nat) (i j v : Nat) (hi : i < l.length) : (l.set i v).getD j 0 = if j = i then v else l.getD j 0 := by
  by_cases e : j = i
  · subst e
    rw [if_pos rfl, List.getD_eq_getElem?_getD, List.getElem?_set_self hi]
    rfl
  · rw [if_neg e, List.getD_eq_getElem?_getD, List.getElem?_set_ne (Ne.symm e), ← List.getD_eq_getElem?_getD]
theorem relax_get {names : List Nat} {p : Piece} (hn : names.length = 6) (h1 : p.left < 6) (h2 : p.right < 6) (x : Nat) :
    (relax names p).getD x 0 = if x = p.right ∨ x = p.left then min (names.getD p.left 0) (names.getD p.right 0) else names.getD x 0 := by
  show ((names.set p.left _).set p.right _).getD x 0 = _
  rw [getD_set _ _ _ _ (by rw [List.length_set, hn]; exact h2), getD_set _ _ _ _ (by rw [hn]; exact h1)]
  by_cases a : x = p.right
  · rw [if_pos a, if_pos (.inl a)]
  · rw [if_neg a]
    by_cases b : x = p.left
    · rw [if_pos b, if_pos (.inr b)]
    · rw [if_neg b, if_neg (fun h => h.elim a b)]
theorem relax_ok {f : Floor} (g : Good f) {names : List Nat} {p : Piece} (hp : p ∈ f) (h : NamesOk f names) : NamesOk f (relax names p) := by
  obtain ⟨h1, h2⟩ := g.marks p hp
  have ap : Adj f p.left p.right := ⟨p, hp, .inl ⟨rfl, rfl⟩⟩
  refine ⟨by show ((names.set p.left _).set p.right _).length = 6; rw [List.length_set, List.length_set]; exact h.len, fun x hx => ?_⟩
  rw [relax_get h.len h1 h2]
  by_cases c : x = p.right ∨ x = p.left
  · rw [if_pos c]
    have cl : Conn f x p.left := by
      rcases c with c | c
      · rw [c]; exact .one ap.symm
      · rw [c]; exact .refl _
    have cr : Conn f x p.right := by
      rcases c with c | c
      · rw [c]; exact .refl _
      · rw [c]; exact .one ap
    rcases Nat.le_total (names.getD p.left 0) (names.getD p.right 0) with q | q
    · rw [Nat.min_eq_left q]; exact cl.trans (h.conn _ h1)
    · rw [Nat.min_eq_right q]; exact cr.trans (h.conn _ h2)
  · rw [if_neg c]; exact h.conn x hx
theorem relax_below {names : List Nat} {p : Piece} (hn : names.length = 6) (h1 : p.left < 6) (h2 : p.right < 6) : Below (relax names p) names := by
  intro x
  rw [relax_get hn h1 h2]
  by_cases c : x = p.right ∨ x = p.left
  · rw [if_pos c]
    rcases c with c | c
    · rw [c]; exact Nat.min_le_right _ _
    · rw [c]; exact Nat.min_le_left _ _
  · rw [if_neg c]; exact Nat.le_refl _
/-- one turn over some of the pieces -/
theorem fold_ok {f : Floor} (g : Good f) : ∀ (l : List Piece), (∀ p ∈ l, p ∈ f) → ∀ names, NamesOk f names → NamesOk f (l.foldl relax names) ∧ Below (l.foldl relax names) names ∧
    ∀ p ∈ l, (l.foldl relax names).getD p.left 0 ≤ names.getD p.right 0 ∧ (l.foldl relax names).getD p.right 0 ≤ names.getD p.left 0
  | [], _, names, h => ⟨h, .refl _, fun _ hp => nomatch hp⟩
  | q :: l, hl, names, h => by
    have hq := hl q List.mem_cons_self
    obtain ⟨h1, h2⟩ := g.marks q hq
    obtain ⟨a, b, c⟩ := fold_ok g l (fun p hp => hl p (List.mem_cons_of_mem _ hp)) (relax names q) (relax_ok g hq h)
    have low := relax_below h.len h1 h2
    refine ⟨a, b.trans low, fun p hp => ?_⟩
    rcases List.mem_cons.mp hp with e | hp
    · subst e
      have el := relax_get h.len h1 h2 p.left
      have er := relax_get h.len h1 h2 p.right
      rw [if_pos (.inr rfl)] at el
      rw [if_pos (.inl rfl)] at er
      have bl := b p.left
      have br := b p.right
      show (l.foldl relax (relax names p)).getD p.left 0 ≤ _ ∧ (l.foldl relax (relax names p)).getD p.right 0 ≤ _
      omega
    · obtain ⟨c1, c2⟩ := c p hp
      exact ⟨Nat.le_trans c1 (low p.right), Nat.le_trans c2 (low p.left)⟩
theorem range6_getD {x : Nat} (h : x < 6) : (List.range 6).getD x 0 = x := by
  rw [List.getD_eq_getElem?_getD, List.getElem?_range h]
  rfl
theorem namesAt_ok {f : Floor} (g : Good f) : ∀ n, NamesOk f (namesAt f n)
  | 0 => ⟨List.length_range, fun x hx => by rw [show namesAt f 0 = List.range 6 from rfl, range6_getD hx]; exact .refl x⟩
  | n + 1 => (fold_ok g f (fun _ h => h) _ (namesAt_ok g n)).1
theorem namesAt_le {f : Floor} (g : Good f) : ∀ (n x y : Nat), x < 6 → R f n x y → (namesAt f n).getD x 0 ≤ y
  | 0, x, y, hx, h => by
    cases h
    rw [show namesAt f 0 = List.range 6 from rfl, range6_getD hx]
    exact Nat.le_refl _
  | n + 1, x, y, hx, h => by
    obtain ⟨_, b, c⟩ := fold_ok g f (fun _ h => h) _ (namesAt_ok g n)
    rcases h with h | ⟨z, ⟨p, hp, e⟩, h⟩
    · exact Nat.le_trans (b x) (namesAt_le g n x y hx h)
    · obtain ⟨c1, c2⟩ := c p hp
      obtain ⟨m1, m2⟩ := g.marks p hp
      rcases e with ⟨rfl, rfl⟩ | ⟨rfl, rfl⟩
      · exact Nat.le_trans c1 (namesAt_le g n _ y m2 h)
      · exact Nat.le_trans c2 (namesAt_le g n _ y m1 h)
theorem name_conn {f : Floor} (g : Good f) {x : Nat} (hx : x < 6) : Conn f x ((componentNames f).getD x 0) := (namesAt_ok g 6).conn x hx
theorem name_le {f : Floor} (g : Good f) {x y : Nat} (hx : x < 6) (h : Conn f x y) : (componentNames f).getD x 0 ≤ y := namesAt_le g 6 x y hx (conn_R g hx h)
theorem head_filter_range (n : Nat) (P : Nat → Bool) (d : Nat) (v : Nat) (hv : v < n) (hP : P v = true) (least : ∀ y, y < n → P y = true → v ≤ y) : ((List.range n).filter P).headD d = v := by
  have hs : ((List.range n).filter P).Pairwise (· < ·) := List.Pairwise.sublist List.filter_sublist List.pairwise_lt_range
  have hm : v ∈ (List.range n).filter P := by rw [List.mem_filter, List.mem_range]; exact ⟨hv, hP⟩
  cases e : (List.range n).filter P with
  | nil => rw [e] at hm; cases hm
  | cons a r =>
    rw [e] at hs hm
    show a = v
    have ha : a ∈ (List.range n).filter P := by rw [e]; exact List.mem_cons_self
    rw [List.mem_filter, List.mem_range] at ha
    have h1 := least a ha.1 ha.2
    rcases List.mem_cons.mp hm with q | q
    · exact q.symm
    · have := (List.pairwise_cons.mp hs).1 v q
      omega
theorem name_head {f : Floor} (g : Good f) {m : Nat} (hm : m < 6) : (Sr115.componentOf f m).headD m = (componentNames f).getD m 0 := by
  have mem : ∀ y, y < 6 → ((Sr115.extendSet f Sr115.markCount [m]).contains y = true ↔ Conn f m y) := by
    intro y hy
    rw [List.contains_iff_mem]
    exact mem_extend_conn g hm y
  refine head_filter_range 6 _ m _ ((name_conn g hm).lt g hm) ((mem _ ((name_conn g hm).lt g hm)).mpr (name_conn g hm)) fun y hy hP => ?_
  exact name_le g hm ((mem y hy).mp hP)
theorem components_eq {f : Floor} (g : Good f) : componentList f = Sr115.components f := by
  unfold componentList Sr115.components
  rw [usedMarks_eq]
  refine List.filter_congr fun m hm => ?_
  rw [name_head g (used_lt hm)]
theorem name_iff {f : Floor} (g : Good f) {c m : Nat} (hc : c ∈ componentList f) (hm : m < 6) : (componentNames f).getD m 0 = c ↔ m ∈ Sr115.componentOf f c := by
  unfold componentList at hc
  rw [List.mem_filter] at hc
  obtain ⟨hu, hn⟩ := hc
  have hn : (componentNames f).getD c 0 = c := by simpa using hn
  have h6 := used_lt hu
  rw [mem_component g h6]
  constructor
  · intro e
    have := name_conn g hm
    rw [e] at this
    exact this.symm
  · intro h
    have h1 := name_le g hm (h.symm)
    have h2 := name_le g h6 (h.trans (name_conn g hm))
    omega
theorem max0 (a b : Nat) : max 0 ((a : Int) - (b : Int)) = ((a - b : Nat) : Int) := by omega
theorem sum_foldl : ∀ (l : List Nat) (a : Nat), l.foldl (· + ·) a = a + l.sum
  | [], a => by simp
  | x :: l, a => by
    rw [List.foldl_cons, sum_foldl l, List.sum_cons]
    omega
theorem sum_cast : ∀ l : List Nat, (l.map fun (x : Nat) => (x : Int)).sum = ((l.sum : Nat) : Int)
  | [] => rfl
  | x :: l => by
    rw [List.map_cons, List.sum_cons, List.sum_cons, sum_cast l]
    omega
theorem positive_eq {f : Floor} (g : Good f) {c : Nat} (hc : c ∈ componentList f) : positiveExcess f c = ((SrCommon.sum ((Sr115.componentOf f c).map (Sr115.positiveExcess f)) : Nat) : Int) := by
  have e : (List.range 6).filter (fun m => (componentNames f).getD m 0 == c) = Sr115.componentOf f c := by
    unfold Sr115.componentOf
    refine List.filter_congr fun m hm => ?_
    have h := name_iff g hc (List.mem_range.mp hm)
    unfold Sr115.componentOf at h
    rw [List.mem_filter] at h
    rw [Bool.eq_iff_iff, beq_iff_eq]
    constructor
    · intro q; exact (h.mp q).2
    · intro q; exact h.mpr ⟨hm, q⟩
  unfold positiveExcess SrCommon.sum
  rw [e, sum_foldl, Nat.zero_add, ← sum_cast, List.map_map]
  congr 1
  refine List.map_congr_left fun m _ => ?_
  exact max0 _ _
theorem fewest_eq {f : Floor} (g : Good f) : fewestChains f = ((Sr115.minChains f : Nat) : Int) := by
  unfold fewestChains Sr115.minChains SrCommon.sum
  rw [sum_foldl, Nat.zero_add, ← sum_cast, List.map_map, ← components_eq g]
  congr 1
  refine List.map_congr_left fun c hc => ?_
  rw [positive_eq g hc]
  show max (1 : Int) _ = ((max 1 (SrCommon.sum ((Sr115.componentOf f c).map (Sr115.positiveExcess f))) : Nat) : Int)
  omega
end BB
namespace BB
open Sr115 (Piece Floor pieceAt)

theorem floor_eq_map (f : Floor) : f = (List.range f.length).map (pieceAt f) := by
  refine List.ext_getElem (by simp) fun i h1 h2 => ?_
  rw [List.getElem_map, List.getElem_range]
  unfold Sr115.pieceAt
  rw [List.getD_eq_getElem?_getD, List.getElem?_eq_getElem h1]
  rfl
theorem flatMap_congr' {α β : Type} {l : List α} {F G : α → List β} (h : ∀ i ∈ l, F i = G i) : l.flatMap F = l.flatMap G := by
  rw [List.flatMap_def, List.flatMap_def, List.map_congr_left h]
abbrev SChoice := List (Nat × Nat)
def decOf (f : Floor) (c : SChoice) : Choice := (List.range 6).map fun m => (c.find? fun y => y.1 == m).map fun y => (pieceAt f y.2).right
def spStep (f : Floor) (choices : List SChoice) (m : Nat) : List SChoice := choices.flatMap fun c =>
    ((Sr115.allPieces f).filter fun i => (pieceAt f i).left == m).map fun i => c ++ [(m, i)]
theorem own_eq (f : Floor) (m : Nat) : ownPieces f m = ((Sr115.allPieces f).filter fun i => (pieceAt f i).left == m).map (pieceAt f) := by
  unfold ownPieces Sr115.allPieces
  conv => lhs; rw [floor_eq_map f]
  rw [List.filter_map]
  rfl
theorem dec_length (f : Floor) (c : SChoice) : (decOf f c).length = 6 := by
  unfold decOf
  rw [List.length_map, List.length_range]
theorem dec_getD (f : Floor) (c : SChoice) {m : Nat} (h : m < 6) : (decOf f c).getD m none = (c.find? fun y => y.1 == m).map fun y => (pieceAt f y.2).right := by
  unfold decOf
  rw [List.getD_eq_getElem?_getD, List.getElem?_map, List.getElem?_range h]
  rfl
theorem dec_get (f : Floor) (c : SChoice) (k : Nat) (h : k < 6) : (decOf f c)[k]? = some ((c.find? fun y => y.1 == k).map fun y => (pieceAt f y.2).right) := by
  unfold decOf
  rw [List.getElem?_map, List.getElem?_range h]
  rfl
theorem dec_append (f : Floor) (c : SChoice) (m i : Nat) (hc : ∀ y ∈ c, y.1 ≠ m) : decOf f (c ++ [(m, i)]) = (decOf f c).set m (some (pieceAt f i).right) := by
  refine List.ext_getElem? fun k => ?_
  by_cases hk : k < 6
  · rw [dec_get f _ k hk, List.getElem?_set, dec_get f c k hk, dec_length]
    by_cases e : m = k
    · rw [if_pos e]
      subst e
      rw [if_pos hk, List.find?_append]
      have : c.find? (fun y => y.1 == m) = none := by
        rw [List.find?_eq_none]
        intro y hy
        simpa using hc y hy
      rw [this]
      simp
    · rw [if_neg e, List.find?_append]
      have : ([(m, i)] : SChoice).find? (fun y => y.1 == k) = none := by
        rw [List.find?_eq_none]
        intro y hy
        rw [List.mem_singleton.mp hy]
        simpa using e
      rw [this, Option.or_none]
  · rw [List.getElem?_eq_none (by rw [dec_length]; omega), List.getElem?_eq_none (by rw [List.length_set, dec_length]; omega)]
theorem choose_eq (f : Floor) (m : Nat) (cs : List SChoice) (h : ∀ c ∈ cs, ∀ y ∈ c, y.1 ≠ m) : chooseFor f m (cs.map (decOf f)) = (spStep f cs m).map (decOf f) := by
  unfold chooseFor spStep
  rw [List.flatMap_map, List.map_flatMap]
  refine flatMap_congr' fun c hc => ?_
  rw [own_eq, List.map_map, List.map_map]
  refine List.map_congr_left fun i hi => ?_
  rw [List.mem_filter] at hi
  have e : (pieceAt f i).left = m := by simpa using hi.2
  show withPiece (decOf f c) (pieceAt f i) = decOf f (c ++ [(m, i)])
  rw [dec_append f c m i (h c hc)]
  unfold withPiece
  rw [e]
theorem mem_spStep {f : Floor} {cs : List SChoice} {m : Nat} {c : SChoice} (h : c ∈ spStep f cs m) : ∃ d ∈ cs, ∃ i, i < f.length ∧ (pieceAt f i).left = m ∧ c = d ++ [(m, i)] := by
  unfold spStep at h
  rw [List.mem_flatMap] at h
  obtain ⟨d, hd, h⟩ := h
  rw [List.mem_map] at h
  obtain ⟨i, hi, e⟩ := h
  rw [List.mem_filter] at hi
  exact ⟨d, hd, i, List.mem_range.mp hi.1, by simpa using hi.2, e.symm⟩
theorem choices_fold (f : Floor) (goal : Nat) : ∀ (ms : List Nat) (cs : List SChoice), ms.Nodup → (∀ c ∈ cs, ∀ y ∈ c, y.1 ∉ ms) →
    ms.foldl (choicesTurn f goal) (cs.map (decOf f)) = ((ms.filter fun m => m != goal).foldl (spStep f) cs).map (decOf f)
  | [], _, _, _ => rfl
  | m :: ms, cs, nd, h => by
    rw [List.nodup_cons] at nd
    rw [List.foldl_cons]
    unfold choicesTurn
    by_cases e : m = goal
    · rw [if_pos e, List.filter_cons_of_neg (by simp [e])]
      exact choices_fold f goal ms cs nd.2 fun c hc y hy q => h c hc y hy (List.mem_cons_of_mem _ q)
    · rw [if_neg e, List.filter_cons_of_pos (by simp [e]), List.foldl_cons, choose_eq f m cs (fun c hc y hy q => h c hc y hy (by rw [q]; exact List.mem_cons_self))]
      refine choices_fold f goal ms _ nd.2 fun c hc y hy q => ?_
      obtain ⟨d, hd, i, _, _, rfl⟩ := mem_spStep hc
      rcases List.mem_append.mp hy with z | z
      · exact h d hd y z (List.mem_cons_of_mem _ q)
      · rw [List.mem_singleton.mp z] at q
        exact nd.1 q
theorem used_nodup (f : Floor) : (usedMarks f).Nodup := List.Nodup.sublist List.filter_sublist List.nodup_range
theorem choices_eq (f : Floor) (goal : Nat) : choicesTo f goal = (Sr115.choicesFor f goal).map (decOf f) := by
  have h := choices_fold f goal (usedMarks f) [[]] (used_nodup f) (fun c hc y hy => by rw [List.mem_singleton.mp hc] at hy; cases hy)
  have e : ([[]] : List SChoice).map (decOf f) = [List.replicate 6 none] := by
    simp [decOf]
    rfl
  rw [e] at h
  exact h
/-- a choice under way: the marks that are done have one; what is chosen leads to used marks -/
structure ChoiceIn (f : Floor) (goal : Nat) (done : List Nat) (c : Choice) : Prop where
  len : c.length = 6
  used : ∀ m r, c.getD m none = some r → r ∈ usedMarks f
  has : ∀ m ∈ done, m ≠ goal → ∃ r, c.getD m none = some r
theorem with_get (c : Choice) (p : Piece) (m : Nat) (h : p.left < c.length) : (withPiece c p).getD m none = if m = p.left then some p.right else c.getD m none := by
  unfold withPiece
  by_cases e : m = p.left
  · rw [if_pos e, e, List.getD_eq_getElem?_getD, List.getElem?_set_self h]
    rfl
  · rw [if_neg e, List.getD_eq_getElem?_getD, List.getElem?_set_ne (Ne.symm e), ← List.getD_eq_getElem?_getD]
theorem with_in {f : Floor} (g : Good f) {goal m : Nat} {done : List Nat} {c : Choice} (h : ChoiceIn f goal done c) {p : Piece} (hp : p ∈ ownPieces f m) : ChoiceIn f goal (m :: done) (withPiece c p) := by
  unfold ownPieces at hp
  rw [List.mem_filter] at hp
  have hm : p.left = m := by simpa using hp.2
  have hl : p.left < c.length := by rw [h.len]; exact (g.marks p hp.1).1
  refine ⟨by unfold withPiece; rw [List.length_set]; exact h.len, fun k r e => ?_, fun k hk hg => ?_⟩
  · rw [with_get c p k hl] at e
    by_cases q : k = p.left
    · rw [if_pos q] at e
      cases e
      exact used_of_right g hp.1
    · rw [if_neg q] at e
      exact h.used k r e
  · rw [with_get c p k hl]
    by_cases q : k = p.left
    · exact ⟨_, if_pos q⟩
    · rw [if_neg q]
      rcases List.mem_cons.mp hk with z | z
      · exact absurd (z.trans hm.symm) q
      · exact h.has k z hg
theorem choices_in_fold {f : Floor} (g : Good f) (goal : Nat) : ∀ (ms : List Nat) (cs : List Choice) (done : List Nat), (∀ c ∈ cs, ChoiceIn f goal done c) →
    ∀ c ∈ ms.foldl (choicesTurn f goal) cs, ChoiceIn f goal (ms.reverse ++ done) c
  | [], _, _, h => h
  | m :: ms, cs, done, h => by
    rw [List.foldl_cons, List.reverse_cons, List.append_assoc]
    refine choices_in_fold g goal ms _ (m :: done) fun c hc => ?_
    unfold choicesTurn at hc
    by_cases e : m = goal
    · rw [if_pos e] at hc
      have := h c hc
      refine ⟨this.len, this.used, fun k hk hg => ?_⟩
      rcases List.mem_cons.mp hk with z | z
      · exact absurd (z.trans e) hg
      · exact this.has k z hg
    · rw [if_neg e] at hc
      unfold chooseFor at hc
      rw [List.mem_flatMap] at hc
      obtain ⟨d, hd, hc⟩ := hc
      rw [List.mem_map] at hc
      obtain ⟨p, hp, rfl⟩ := hc
      exact with_in g (h d hd) hp
/-- a choice for all used marks but the goal -/
structure ChoiceOk (f : Floor) (goal : Nat) (c : Choice) : Prop where
  len : c.length = 6
  has : ∀ m ∈ usedMarks f, m ≠ goal → ∃ r ∈ usedMarks f, c.getD m none = some r
theorem choices_ok {f : Floor} (g : Good f) (goal : Nat) : ∀ c ∈ choicesTo f goal, ChoiceOk f goal c := by
  intro c hc
  have start : ∀ d ∈ ([List.replicate 6 none] : List Choice), ChoiceIn f goal [] d := by
    intro d hd
    rw [List.mem_singleton.mp hd]
    refine ⟨by simp, fun m r e => ?_, fun m hm => nomatch hm⟩
    exfalso
    rw [List.getD_eq_getElem?_getD, List.getElem?_replicate] at e
    by_cases q : m < 6
    · rw [if_pos q] at e; cases e
    · rw [if_neg q] at e; cases e
  have h := choices_in_fold g goal (usedMarks f) _ [] start c hc
  refine ⟨h.len, fun m hm hg => ?_⟩
  obtain ⟨r, e⟩ := h.has m (by simpa using hm) hg
  exact ⟨r, h.used m r e, e⟩
theorem chooseFor_length (f : Floor) (m : Nat) : ∀ cs : List Choice, (chooseFor f m cs).length = cs.length * (ownPieces f m).length
  | [] => by simp [chooseFor]
  | c :: cs => by
    have h := chooseFor_length f m cs
    unfold chooseFor at h ⊢
    rw [List.flatMap_cons, List.length_append, List.length_map, h, List.length_cons, Nat.add_mul, Nat.one_mul, Nat.add_comm]
theorem own_length {f : Floor} (g : Good f) (m : Nat) : (ownPieces f m).length ≤ 7 := Nat.le_trans (List.length_filter_le _ _) g.len
theorem choices_fold_length {f : Floor} (g : Good f) (goal : Nat) : ∀ (ms : List Nat) (cs : List Choice), (ms.foldl (choicesTurn f goal) cs).length ≤ cs.length * 7 ^ ms.length
  | [], cs => by simp
  | m :: ms, cs => by
    rw [List.foldl_cons]
    refine Nat.le_trans (choices_fold_length g goal ms _) ?_
    rw [List.length_cons, Nat.pow_succ, Nat.mul_comm (7 ^ ms.length) 7, ← Nat.mul_assoc]
    refine Nat.mul_le_mul_right _ ?_
    unfold choicesTurn
    by_cases e : m = goal
    · rw [if_pos e]; omega
    · rw [if_neg e, chooseFor_length]
      exact Nat.mul_le_mul_left _ (own_length g m)
theorem used_length (f : Floor) : (usedMarks f).length ≤ 6 := by
  unfold usedMarks
  exact Nat.le_trans (List.length_filter_le _ _) (by simp)
/-! ### the walk to the goal -/
theorem leads_eq {f : Floor} {goal : Nat} {s : SChoice} (h : ChoiceOk f goal (decOf f s)) : ∀ (n m : Nat), m ∈ usedMarks f →
    Sr115.leadsToRoot f goal s n m = (walkTo (decOf f s) goal n m == goal)
  | 0, _, _ => rfl
  | n + 1, m, hm => by
    show (m == goal || match s.find? fun y => y.1 == m with
      | none => false
      | some y => Sr115.leadsToRoot f goal s n (pieceAt f y.2).right) = (walkTo (decOf f s) goal n (stepTo (decOf f s) goal m) == goal)
    by_cases e : m = goal
    · have stay : ∀ n, walkTo (decOf f s) goal n goal = goal := by
        intro n
        induction n with
        | zero => rfl
        | succ n ih =>
          show walkTo (decOf f s) goal n (stepTo (decOf f s) goal goal) = goal
          unfold stepTo
          rw [if_pos rfl]
          exact ih
      subst e
      unfold stepTo
      rw [if_pos rfl, stay]
      simp
    · obtain ⟨r, hr, q⟩ := h.has m hm e
      have q' := q
      rw [dec_getD f s (used_lt hm)] at q'
      cases z : s.find? fun y => y.1 == m with
      | none => rw [z] at q'; cases q'
      | some y =>
        rw [z] at q'
        have er : (pieceAt f y.2).right = r := Option.some.inj q'
        have b : (m == goal) = false := by simpa using e
        rw [b, Bool.false_or]
        show Sr115.leadsToRoot f goal s n (pieceAt f y.2).right = _
        unfold stepTo
        rw [if_neg e, q, er]
        exact leads_eq h n r hr
theorem trees_eq {f : Floor} (g : Good f) (goal : Nat) : countTrees f goal = Sr115.treeCount f goal := by
  unfold countTrees Sr115.treeCount
  rw [choices_eq, List.filter_map, List.length_map]
  congr 1
  refine List.filter_congr fun s hs => ?_
  have ok : ChoiceOk f goal (decOf f s) := choices_ok g goal _ (by rw [choices_eq]; exact List.mem_map_of_mem hs)
  show (usedMarks f).all _ = (Sr115.usedMarks f).all _
  rw [← usedMarks_eq, Bool.eq_iff_iff, List.all_eq_true, List.all_eq_true]
  constructor
  · intro h m hm
    rw [leads_eq ok _ m hm]
    exact h m hm
  · intro h m hm
    have := h m hm
    rw [leads_eq ok _ m hm] at this
    exact this
/-! ### circuits by trees -/
theorem name_in {f : Floor} (g : Good f) {m : Nat} (hm : m ∈ usedMarks f) : (componentNames f).getD m 0 ∈ componentList f := by
  have h6 := used_lt hm
  have hc := name_conn g h6
  have h6' := hc.lt g h6
  unfold componentList
  rw [List.mem_filter, beq_iff_eq]
  refine ⟨used_conn g hc hm, ?_⟩
  have h1 := name_le g h6' (.refl _)
  have h2 := name_le g h6 (hc.trans (name_conn g h6'))
  omega
theorem components_pos {f : Floor} (g : Good f) (h : f ≠ []) : 0 < (componentList f).length := by
  cases f with
  | nil => exact absurd rfl h
  | cons p r => exact List.length_pos_of_mem (name_in g (used_of_left g (p := p) List.mem_cons_self))
theorem not_used {f : Floor} {m : Nat} (h6 : m < 6) (h : m ∉ usedMarks f) : beginCount f m = 0 ∧ endCount f m = 0 := by
  unfold usedMarks at h
  rw [List.mem_filter, List.mem_range] at h
  have : ¬ (0 < beginCount f m + endCount f m) := fun q => h ⟨h6, decide_eq_true q⟩
  omega
theorem balanced_eq {f : Floor} (g : Good f) : isBalanced f = !(decide (f = []) || (Sr115.isBalanced f == false) || decide (1 < (Sr115.components f).length)) := by
  have hx : (allExcesses f = List.replicate 6 0) ↔ Sr115.isBalanced f = true := by
    unfold Sr115.isBalanced
    rw [List.all_eq_true, ← usedMarks_eq]
    constructor
    · intro e m hm
      have e1 := congrArg (fun l => l.getD m 1) e
      unfold allExcesses at e1
      rw [List.getD_eq_getElem?_getD, List.getD_eq_getElem?_getD, List.getElem?_map, List.getElem?_range (used_lt hm), List.getElem?_replicate, if_pos (used_lt hm)] at e1
      have e2 : (beginCount f m : Int) - (endCount f m : Int) = 0 := e1
      rw [beq_iff_eq, ← beginCount_eq, ← endCount_eq]
      omega
    · intro h
      unfold allExcesses
      rw [List.eq_replicate_iff]
      refine ⟨by simp, fun b hb => ?_⟩
      rw [List.mem_map] at hb
      obtain ⟨m, hm, rfl⟩ := hb
      by_cases hu : m ∈ usedMarks f
      · have := h m hu
        rw [beq_iff_eq, ← beginCount_eq, ← endCount_eq] at this
        omega
      · obtain ⟨h1, h2⟩ := not_used (List.mem_range.mp hm) hu
        omega
  unfold isBalanced
  rw [← components_eq g]
  have h0 : f = [] → (componentList f).length = 0 := by rintro rfl; rfl
  have h1 : f ≠ [] → 0 < (componentList f).length := components_pos g
  rw [Bool.eq_iff_iff]
  rw [Bool.and_eq_true, decide_eq_true_eq, decide_eq_true_eq, hx, Bool.not_eq_true', Bool.or_eq_false_iff, Bool.or_eq_false_iff, decide_eq_false_iff_not, decide_eq_false_iff_not]
  constructor
  · rintro ⟨a, b⟩
    refine ⟨⟨fun e => ?_, by rw [b]; rfl⟩, by omega⟩
    have := h0 e
    omega
  · rintro ⟨⟨a, b⟩, c⟩
    have := h1 a
    refine ⟨by omega, ?_⟩
    cases q : Sr115.isBalanced f with
    | true => rfl
    | false => rw [q] at b; cases b
theorem prod_id : ∀ (l : List Nat) (a : Nat), l.foldl (· * ·) a = a * l.foldl (· * ·) 1
  | [], a => by simp
  | x :: l, a => by
    rw [List.foldl_cons, List.foldl_cons, prod_id l (a * x), prod_id l (1 * x), Nat.one_mul, Nat.mul_assoc]
theorem prod_fold (F : Nat → Nat) : ∀ (l : List Nat) (a : Nat), l.foldl (fun a m => a * F m) a = a * (l.map F).foldl (· * ·) 1
  | [], a => by simp
  | x :: l, a => by
    rw [List.foldl_cons, prod_fold F l, List.map_cons, List.foldl_cons, prod_id _ (1 * F x), Nat.one_mul, Nat.mul_assoc]
theorem by_trees_eq {f : Floor} (g : Good f) : circuitsByTrees f = Sr115.circuitCountByTrees f := by
  unfold circuitsByTrees Sr115.circuitCountByTrees
  rw [balanced_eq g]
  by_cases c : f = [] ∨ Sr115.isBalanced f = false ∨ 1 < (Sr115.components f).length
  · rw [if_pos c]
    have e : (!(decide (f = []) || (Sr115.isBalanced f == false) || decide (1 < (Sr115.components f).length))) = false := by
      rcases c with c | c | c
      · rw [decide_eq_true c]; rfl
      · rw [c]; simp
      · rw [decide_eq_true c]; simp
    rw [if_neg (by rw [e]; decide)]
  · rw [if_neg c]
    have e : (!(decide (f = []) || (Sr115.isBalanced f == false) || decide (1 < (Sr115.components f).length))) = true := by
      rw [not_or, not_or] at c
      simp only [Bool.not_eq_true', Bool.or_eq_false_iff, decide_eq_false_iff_not]
      refine ⟨⟨c.1, ?_⟩, c.2.2⟩
      cases q : Sr115.isBalanced f with
      | true => rfl
      | false => exact absurd q c.2.1
    rw [if_pos e, prod_fold, trees_eq g]
    rfl
end BB
namespace BB
open Sr115 (Piece Floor pieceAt)

/-! ### splitting -/
theorem split_fold : ∀ (l : List Int) (s : List (List Int) × List Int), (let e := l.foldl splitTurn s; e.1 ++ [e.2]) = s.1 ++ (match Sr115.splitChains l with
    | [] => [s.2]
    | r :: rs => (s.2 ++ r) :: rs)
  | [], s => by
    show s.1 ++ [s.2] = s.1 ++ [s.2 ++ []]
    rw [List.append_nil]
  | x :: l, s => by
    rw [List.foldl_cons]
    have ih := split_fold l (splitTurn s x)
    rw [ih]
    unfold splitTurn
    by_cases e : x = -1
    · rw [if_pos e]
      show (s.1 ++ [s.2]) ++ _ = s.1 ++ (match (if x = -1 then [] :: Sr115.splitChains l else _) with
        | [] => [s.2]
        | r :: rs => (s.2 ++ r) :: rs)
      rw [if_pos e]
      cases h : Sr115.splitChains l with
      | nil =>
        exfalso
        cases l with
        | nil => cases h
        | cons y l =>
          unfold Sr115.splitChains at h
          split at h
          · cases h
          · split at h <;> cases h
      | cons r rs => simp
    · rw [if_neg e]
      show s.1 ++ _ = s.1 ++ (match (if x = -1 then _ else match Sr115.splitChains l with
          | [] => [[x]]
          | r :: rs => (x :: r) :: rs) with
        | [] => [s.2]
        | r :: rs => (s.2 ++ r) :: rs)
      rw [if_neg e]
      cases h : Sr115.splitChains l with
      | nil => simp
      | cons r rs => simp
theorem split_ne : ∀ l : List Int, Sr115.splitChains l ≠ []
  | [] => by intro h; cases h
  | x :: l => by
    unfold Sr115.splitChains
    split
    · intro h; cases h
    · split <;> (intro h; cases h)
theorem split_eq (l : List Int) : splitLists l = Sr115.splitChains l := by
  have h := split_fold l ([], [])
  unfold splitLists
  rw [h]
  show [] ++ _ = _
  cases e : Sr115.splitChains l with
  | nil => exact absurd e (split_ne l)
  | cons r rs => simp
theorem mem_split : ∀ (l : List Int) (r : List Int) (x : Int), r ∈ Sr115.splitChains l → x ∈ r → x ∈ l ∧ x ≠ -1
  | [], r, x, hr, hx => by
    rw [List.mem_singleton.mp hr] at hx
    cases hx
  | y :: l, r, x, hr, hx => by
    unfold Sr115.splitChains at hr
    split at hr
    · rcases List.mem_cons.mp hr with q | q
      · rw [q] at hx; cases hx
      · obtain ⟨h1, h2⟩ := mem_split l r x q hx
        exact ⟨List.mem_cons_of_mem _ h1, h2⟩
    · rename_i hy
      split at hr
      · rw [List.mem_singleton.mp hr] at hx
        rw [List.mem_singleton.mp hx]
        exact ⟨List.mem_cons_self, hy⟩
      · rename_i r0 rs e
        rcases List.mem_cons.mp hr with q | q
        · rw [q] at hx
          rcases List.mem_cons.mp hx with z | z
          · rw [z]; exact ⟨List.mem_cons_self, hy⟩
          · obtain ⟨h1, h2⟩ := mem_split l r0 x (by rw [e]; exact List.mem_cons_self) z
            exact ⟨List.mem_cons_of_mem _ h1, h2⟩
        · obtain ⟨h1, h2⟩ := mem_split l r x (by rw [e]; exact List.mem_cons_of_mem _ q) hx
          exact ⟨List.mem_cons_of_mem _ h1, h2⟩
theorem split_mem : ∀ (l : List Int) (x : Int), x ∈ l → x ≠ -1 → ∃ r ∈ Sr115.splitChains l, x ∈ r
  | [], x, h, _ => nomatch h
  | y :: l, x, h, hx => by
    unfold Sr115.splitChains
    rcases List.mem_cons.mp h with q | q
    · subst q
      rw [if_neg hx]
      split
      · exact ⟨[x], List.mem_cons_self, List.mem_cons_self⟩
      · exact ⟨_, List.mem_cons_self, List.mem_cons_self⟩
    · obtain ⟨r, hr, hxr⟩ := split_mem l x q hx
      split
      · exact ⟨r, List.mem_cons_of_mem _ hr, hxr⟩
      · split
        · rename_i e
          rw [e] at hr; cases hr
        · rename_i r0 rs e
          rw [e] at hr
          rcases List.mem_cons.mp hr with z | z
          · exact ⟨y :: r0, List.mem_cons_self, by rw [z] at hxr; exact List.mem_cons_of_mem _ hxr⟩
          · exact ⟨r, List.mem_cons_of_mem _ z, hxr⟩
theorem split_length : ∀ l : List Int, (Sr115.splitChains l).length ≤ l.length + 1
  | [] => Nat.le_refl _
  | x :: l => by
    have ih := split_length l
    unfold Sr115.splitChains
    split
    · rw [List.length_cons, List.length_cons]; omega
    · split
      · simp
      · rename_i r rs e
        rw [e] at ih
        rw [List.length_cons] at ih
        rw [List.length_cons, List.length_cons]
        omega
/-- the elements told right: all are -1 or pieces -/
theorem elements_eq (f : Floor) (l : List Int) : areElements f l = !(decide (l = []) || (Sr115.splitChains l).any fun r => r.any fun i => !Sr115.isPiece f i) := by
  unfold areElements
  rw [Bool.eq_iff_iff, Bool.and_eq_true, List.all_eq_true, Bool.not_eq_true', Bool.or_eq_false_iff, decide_eq_true_eq, decide_eq_false_iff_not, List.any_eq_false]
  refine and_congr Iff.rfl ⟨fun h r hr => ?_, fun h x hx => ?_⟩
  · rw [List.any_eq_true]
    rintro ⟨i, hi, q⟩
    obtain ⟨h1, h2⟩ := mem_split l r i hr hi
    have := h i h1
    rw [Bool.and_eq_true, decide_eq_true_eq, decide_eq_true_eq] at this
    rw [Bool.not_eq_true'] at q
    unfold Sr115.isPiece SrCommon.isIndex at q
    rw [Bool.and_eq_false_iff, decide_eq_false_iff_not, decide_eq_false_iff_not] at q
    omega
  · rw [Bool.and_eq_true, decide_eq_true_eq, decide_eq_true_eq]
    by_cases e : x = -1
    · omega
    · obtain ⟨r, hr, hxr⟩ := split_mem l x hx e
      have q := h r hr
      rw [List.any_eq_true] at q
      have q2 : Sr115.isPiece f x = true := by
        cases z : Sr115.isPiece f x with
        | true => rfl
        | false => exact absurd ⟨x, hxr, by rw [z]; rfl⟩ q
      unfold Sr115.isPiece SrCommon.isIndex at q2
      rw [Bool.and_eq_true, decide_eq_true_eq, decide_eq_true_eq] at q2
      omega
/-! ### chains -/
theorem linked_cons (f : Floor) (i j : Nat) (r : List Nat) : isLinked f (i :: j :: r) = (fits f i j && isLinked f (j :: r)) := by
  unfold isLinked
  have e : (i :: j :: r).length - 1 = ((j :: r).length - 1) + 1 := by simp
  rw [e, List.range_succ_eq_map, List.all_cons, List.all_map]
  rfl
theorem linked_eq (f : Floor) : ∀ r : List Nat, isLinked f r = Sr115.isChain f r
  | [] => rfl
  | [_] => rfl
  | i :: j :: r => by
    rw [linked_cons, linked_eq f (j :: r)]
    rfl
def areRight (f : Floor) (rows : List (List Nat)) : Bool := rows.all (rowOk f) && (decide rows.flatten.Nodup && decide (rows.flatten.length = f.length))
theorem right_eq (f : Floor) (rows : List (List Nat)) (h : ∀ r ∈ rows, ∀ i ∈ r, i < f.length) : areRight f rows = Sr115.areChains f rows := by
  unfold areRight Sr115.areChains
  congr 1
  rw [Bool.eq_iff_iff, List.all_eq_true, List.all_eq_true]
  refine forall_congr' fun r => forall_congr' fun hr => ?_
  unfold rowOk
  rw [linked_eq]
  have e : (r.all fun i => decide (i < f.length)) = true := by
    rw [List.all_eq_true]
    intro i hi
    exact decide_eq_true (h r hr i hi)
  rw [e, Bool.and_true]
  cases r <;> simp
theorem perm_range {l : List Nat} {n : Nat} (h : ∀ i ∈ l, i < n) : l.Perm (List.range n) ↔ l.Nodup ∧ l.length = n := by
  constructor
  · intro p
    exact ⟨p.symm.nodup List.nodup_range, by rw [p.length_eq, List.length_range]⟩
  · rintro ⟨nd, hl⟩
    refine (List.perm_ext_iff_of_nodup nd List.nodup_range).mpr fun x => ⟨fun hx => List.mem_range.mpr (h x hx), fun hx => ?_⟩
    refine Classical.byContradiction fun hn => ?_
    have nd2 : (x :: l).Nodup := List.nodup_cons.mpr ⟨hn, nd⟩
    have := nodup_lt nd2 (n := n) (fun y hy => by
      rcases List.mem_cons.mp hy with q | q
      · rw [q]; exact List.mem_range.mp hx
      · exact h y q)
    rw [List.length_cons] at this
    omega
theorem toNat_cast (l : List Nat) : (l.map fun (i : Nat) => (i : Int)).map Int.toNat = l := by
  rw [List.map_map]
  have e : (Int.toNat ∘ fun (i : Nat) => (i : Int)) = id := by funext i; rfl
  rw [e, List.map_id]
theorem range_sorted (n : Nat) : ((List.range n).map fun (i : Nat) => (i : Int)).Pairwise (· ≤ ·) := by
  rw [List.pairwise_map]
  exact List.Pairwise.imp (fun {a b} (h : a < b) => by omega) List.pairwise_lt_range
theorem sorted_eq {l : List Nat} {n : Nat} (h : ∀ i ∈ l, i < n) {ns : List Int} (p : ns.Perm (l.map fun (i : Nat) => (i : Int))) (s : ns.Pairwise (· ≤ ·)) :
    decide (ns = (List.range n).map fun (i : Nat) => (i : Int)) = (decide l.Nodup && decide (l.length = n)) := by
  rw [Bool.eq_iff_iff, Bool.and_eq_true, decide_eq_true_eq, decide_eq_true_eq, decide_eq_true_eq, ← perm_range h]
  constructor
  · intro e
    rw [e] at p
    have q := p.map Int.toNat
    rw [toNat_cast, toNat_cast] at q
    exact q.symm
  · intro q
    have q2 := q.map fun (i : Nat) => (i : Int)
    exact List.Perm.eq_of_pairwise (le := fun a b => a ≤ b) (fun a b _ _ h1 h2 => by omega) s (range_sorted n) (p.trans q2)
end BB
namespace BB
open Sr115 (Piece Floor pieceAt Call)

/-! ### one operation on a floor -/
def newFloor (f : Floor) (c : Call) : Floor := (Sr115.perform f c).1.getD f
def ansOf (r : SrCommon.Result) : List Int := r.code :: r.values
def answerOf (f : Floor) (c : Call) : List Int := ansOf (Sr115.perform f c).2
def sh0 (c : Call) : List Int → Option Call
  | [] => some c
  | _ => none
def sh1 (mk : Int → Call) : List Int → Option Call
  | [a] => some (mk a)
  | _ => none
def sh2 (mk : Int → Int → Call) : List Int → Option Call
  | [a, b] => some (mk a b)
  | _ => none
def sh3 (mk : Int → Int → Int → Call) : List Int → Option Call
  | [a, b, c] => some (mk a b c)
  | _ => none
def shL : List Int → Option Call := fun r => some (.checkChains r)
theorem sh0_inv {k c : Call} : ∀ {ns : List Int}, sh0 k ns = some c → ns = [] ∧ c = k
  | [], h => ⟨rfl, (Option.some.inj h).symm⟩
  | _ :: _, h => nomatch h
theorem sh1_inv {mk : Int → Call} {c : Call} : ∀ {ns : List Int}, sh1 mk ns = some c → ∃ a, ns = [a] ∧ c = mk a
  | [], h => nomatch h
  | [a], h => ⟨a, rfl, (Option.some.inj h).symm⟩
  | _ :: _ :: _, h => nomatch h
theorem sh2_inv {mk : Int → Int → Call} {c : Call} : ∀ {ns : List Int}, sh2 mk ns = some c → ∃ a b, ns = [a, b] ∧ c = mk a b
  | [], h => nomatch h
  | [_], h => nomatch h
  | [a, b], h => ⟨a, b, rfl, (Option.some.inj h).symm⟩
  | _ :: _ :: _ :: _, h => nomatch h
theorem sh3_inv {mk : Int → Int → Int → Call} {c : Call} : ∀ {ns : List Int}, sh3 mk ns = some c → ∃ x y z, ns = [x, y, z] ∧ c = mk x y z
  | [], h => nomatch h
  | [_], h => nomatch h
  | [_, _], h => nomatch h
  | [x, y, z], h => ⟨x, y, z, rfl, (Option.some.inj h).symm⟩
  | _ :: _ :: _ :: _ :: _, h => nomatch h
theorem markI_eq (n : Int) : Sr115.isMark n = markI n := rfl
theorem markI_nat {n : Int} (h : markI n = true) : ∃ m : Nat, n = (m : Int) ∧ m < 6 ∧ n.toNat = m := by
  unfold markI at h
  rw [Bool.and_eq_true, decide_eq_true_eq, decide_eq_true_eq] at h
  exact ⟨n.toNat, by omega, by omega, rfl⟩
/-- the error of one more piece -/
def errOf (f : Floor) (l r : Int) : List Int := if (markI l && markI r) = false then [-22] else if 7 ≤ f.length then [-28] else []
theorem marks_or (l r : Int) : (Sr115.isMark l = false ∨ Sr115.isMark r = false) ↔ (markI l && markI r) = false := by
  rw [markI_eq, markI_eq, Bool.and_eq_false_iff]
/-- one more piece -/
def morePiece (f : Floor) (l r : Int) : Floor := f ++ [⟨l.toNat, r.toNat⟩]
theorem errOf_cases (f : Floor) (l r : Int) : ((markI l && markI r) = false ∧ errOf f l r = [-22]) ∨ ((markI l && markI r) = true ∧ 7 ≤ f.length ∧ errOf f l r = [-28]) ∨ ((markI l && markI r) = true ∧ f.length < 7 ∧ errOf f l r = []) := by
  unfold errOf
  by_cases h : (markI l && markI r) = false
  · exact .inl ⟨h, if_pos h⟩
  · have h' : (markI l && markI r) = true := by simpa using h
    rw [if_neg h]
    by_cases c : 7 ≤ f.length
    · exact .inr (.inl ⟨h', c, if_pos c⟩)
    · exact .inr (.inr ⟨h', by omega, if_neg c⟩)
theorem add_err {f : Floor} {l r : Int} (h : errOf f l r ≠ []) : newFloor f (.addPiece l r) = f ∧ answerOf f (.addPiece l r) = errOf f l r := by
  unfold newFloor answerOf Sr115.perform
  rcases errOf_cases f l r with ⟨h1, h2⟩ | ⟨h1, h2, h3⟩ | ⟨_, _, h3⟩
  · simp only [if_pos ((marks_or l r).mpr h1), h2]
    exact ⟨rfl, rfl⟩
  · have n1 : ¬ (Sr115.isMark l = false ∨ Sr115.isMark r = false) := fun q => by
      rw [(marks_or l r).mp q] at h1; cases h1
    have n2 : Sr115.maxPieces ≤ f.length := h2
    simp only [if_neg n1, if_pos n2, h3]
    exact ⟨rfl, rfl⟩
  · exact absurd h3 h
theorem add_ok {f : Floor} {l r : Int} (h : errOf f l r = []) : newFloor f (.addPiece l r) = morePiece f l r ∧ answerOf f (.addPiece l r) = [(f.length : Int)] ∧ (markI l && markI r) = true ∧ f.length < 7 := by
  rcases errOf_cases f l r with ⟨_, h2⟩ | ⟨_, _, h3⟩ | ⟨h1, h2, _⟩
  · rw [h2] at h; cases h
  · rw [h3] at h; cases h
  · have n1 : ¬ (Sr115.isMark l = false ∨ Sr115.isMark r = false) := fun q => by
      rw [(marks_or l r).mp q] at h1; cases h1
    have n2 : ¬ Sr115.maxPieces ≤ f.length := by show ¬ 7 ≤ f.length; omega
    unfold newFloor answerOf Sr115.perform
    simp only [if_neg n1, if_neg n2]
    exact ⟨rfl, rfl, h1, h2⟩
theorem with_err {f : Floor} {l r : Int} (h : errOf f l r ≠ []) : answerOf f (.evaluateWithPiece l r) = errOf f l r := by
  unfold answerOf Sr115.perform
  rcases errOf_cases f l r with ⟨h1, h2⟩ | ⟨h1, h2, h3⟩ | ⟨_, _, h3⟩
  · simp only [if_pos ((marks_or l r).mpr h1), h2]
    rfl
  · have n1 : ¬ (Sr115.isMark l = false ∨ Sr115.isMark r = false) := fun q => by
      rw [(marks_or l r).mp q] at h1; cases h1
    have n2 : Sr115.maxPieces ≤ f.length := h2
    simp only [if_neg n1, if_pos n2, h3]
    rfl
  · exact absurd h3 h
theorem good_more {f : Floor} (g : Good f) {l r : Int} (h : (markI l && markI r) = true) (h7 : f.length < 7) : Good (morePiece f l r) := by
  rw [Bool.and_eq_true] at h
  obtain ⟨a, ea, ha, ta⟩ := markI_nat h.1
  obtain ⟨b, eb, hb, tb⟩ := markI_nat h.2
  refine ⟨by unfold morePiece; rw [List.length_append, List.length_singleton]; omega, fun p hp => ?_⟩
  unfold morePiece at hp
  rcases List.mem_append.mp hp with q | q
  · exact g.marks p q
  · rw [List.mem_singleton.mp q, ta, tb]
    exact ⟨ha, hb⟩
theorem with_ok {f : Floor} (g : Good f) {l r : Int} (h : errOf f l r = []) : answerOf f (.evaluateWithPiece l r) = [fewestChains (morePiece f l r), ((complete (morePiece f l r)).length : Int)] := by
  obtain ⟨_, _, h1, h2⟩ := add_ok h
  have n1 : ¬ (Sr115.isMark l = false ∨ Sr115.isMark r = false) := fun q => by
    rw [(marks_or l r).mp q] at h1; cases h1
  have n2 : ¬ Sr115.maxPieces ≤ f.length := by show ¬ 7 ≤ f.length; omega
  unfold answerOf Sr115.perform
  simp only [if_neg n1, if_neg n2]
  rw [fewest_eq (good_more g h1 h2), complete_eq]
  rfl
/-! ### a piece by its index -/
def pieceI (f : Floor) (i : Int) : Bool := decide (0 ≤ i) && decide (i < f.length)
theorem pieceI_eq (f : Floor) (i : Int) : Sr115.isPiece f i = pieceI f i := rfl
theorem remove_err {f : Floor} {i : Int} (h : pieceI f i = false) : newFloor f (.removePiece i) = f ∧ answerOf f (.removePiece i) = [-2] := by
  unfold newFloor answerOf Sr115.perform
  have h' : Sr115.isPiece f i = false := h
  simp only [if_pos h']
  exact ⟨rfl, rfl⟩
theorem remove_ok {f : Floor} {i : Int} (h : pieceI f i = true) : newFloor f (.removePiece i) = f.eraseIdx i.toNat ∧ answerOf f (.removePiece i) = [((f.length - 1 : Nat) : Int)] := by
  unfold newFloor answerOf Sr115.perform
  have h' : ¬ Sr115.isPiece f i = false := by rw [pieceI_eq, h]; decide
  simp only [if_neg h']
  exact ⟨rfl, rfl⟩
theorem set_err1 {f : Floor} {i l r : Int} (h : pieceI f i = false) : newFloor f (.setPiece i l r) = f ∧ answerOf f (.setPiece i l r) = [-2] := by
  unfold newFloor answerOf Sr115.perform
  have h' : Sr115.isPiece f i = false := h
  simp only [if_pos h']
  exact ⟨rfl, rfl⟩
theorem set_err2 {f : Floor} {i l r : Int} (h : pieceI f i = true) (hm : (markI l && markI r) = false) : newFloor f (.setPiece i l r) = f ∧ answerOf f (.setPiece i l r) = [-22] := by
  unfold newFloor answerOf Sr115.perform
  have h' : ¬ Sr115.isPiece f i = false := by rw [pieceI_eq, h]; decide
  simp only [if_neg h', if_pos ((marks_or l r).mpr hm)]
  exact ⟨rfl, rfl⟩
theorem set_ok {f : Floor} {i l r : Int} (h : pieceI f i = true) (hm : (markI l && markI r) = true) : newFloor f (.setPiece i l r) = f.set i.toNat ⟨l.toNat, r.toNat⟩ ∧
    answerOf f (.setPiece i l r) = [0, ((pieceAt f i.toNat).left : Int), ((pieceAt f i.toNat).right : Int)] := by
  unfold newFloor answerOf Sr115.perform
  have h' : ¬ Sr115.isPiece f i = false := by rw [pieceI_eq, h]; decide
  have n1 : ¬ (Sr115.isMark l = false ∨ Sr115.isMark r = false) := fun q => by
    rw [(marks_or l r).mp q] at hm; cases hm
  simp only [if_neg h', if_neg n1]
  exact ⟨rfl, rfl⟩
theorem good_erase {f : Floor} (g : Good f) (i : Nat) : Good (f.eraseIdx i) :=
  ⟨Nat.le_trans (List.length_eraseIdx_le _ _) g.len, fun p hp => g.marks p (List.mem_of_mem_eraseIdx hp)⟩
theorem good_set {f : Floor} (g : Good f) (i : Nat) {l r : Int} (h : (markI l && markI r) = true) : Good (f.set i ⟨l.toNat, r.toNat⟩) := by
  rw [Bool.and_eq_true] at h
  obtain ⟨a, ea, ha, ta⟩ := markI_nat h.1
  obtain ⟨b, eb, hb, tb⟩ := markI_nat h.2
  refine ⟨by rw [List.length_set]; exact g.len, fun p hp => ?_⟩
  rcases List.mem_or_eq_of_mem_set hp with q | q
  · exact g.marks p q
  · rw [q, ta, tb]
    exact ⟨ha, hb⟩
theorem good_new {f : Floor} (g : Good f) (c : Call) : Good (newFloor f c) := by
  cases c with
  | addPiece l r =>
    by_cases h : errOf f l r = []
    · obtain ⟨e, _, h1, h2⟩ := add_ok h
      rw [e]
      exact good_more g h1 h2
    · rw [(add_err h).1]; exact g
  | removePiece i =>
    cases h : pieceI f i with
    | false => rw [(remove_err h).1]; exact g
    | true => rw [(remove_ok h).1]; exact good_erase g _
  | setPiece i l r =>
    cases h : pieceI f i with
    | false => rw [(set_err1 h).1]; exact g
    | true =>
      cases hm : (markI l && markI r) with
      | false => rw [(set_err2 h hm).1]; exact g
      | true => rw [(set_ok h hm).1]; exact good_set g _ hm
  | _ => exact g
/-! ### one of a list -/
def oneOf (cs : List (List Nat)) (k : Int) : List Int := ansOf (Sr115.elementResult cs k)
theorem one_err {cs : List (List Nat)} {k : Int} (h : (decide (0 ≤ k) && decide (k < cs.length)) = false) : oneOf cs k = [-2] := by
  unfold oneOf Sr115.elementResult
  rw [Bool.and_eq_false_iff, decide_eq_false_iff_not, decide_eq_false_iff_not] at h
  by_cases c : k < 0
  · rw [if_pos c]; rfl
  · rw [if_neg c, List.getElem?_eq_none (by omega)]
    rfl
theorem one_ok {cs : List (List Nat)} {k : Int} {r : List Nat} (h : 0 ≤ k) (e : cs[k.toNat]? = some r) : oneOf cs k = (r.length : Int) :: r.map fun (i : Nat) => (i : Int) := by
  unfold oneOf Sr115.elementResult
  rw [if_neg (by omega), e]
  rfl
end BB
namespace BB
open Sr115 (Piece Floor pieceAt Call)

/-! ### the calls of a request -/
def cnts : List Nat := [0, 2, 1, 3, 0, 1, 0, 0, 0, 0, 0, 1, 1, 0, 1, 2, 0]
theorem shape_inv {p : Int} {n k : Nat} (h : PySr115.shape p = some (n, k)) : 0 ≤ p ∧ p ≤ 16 ∧ n = cnts.getD p.toNat 0 ∧ k = if p = 13 then 1 else 0 := by
  by_cases hb : 0 ≤ p ∧ p ≤ 16
  · have e : p = ((p.toNat : Nat) : Int) := by omega
    have hm : p.toNat < 17 := by omega
    rw [e] at h ⊢
    generalize p.toNat = m at h hm
    match m, hm with
    | 0, _ => (have e : PySr115.shape ((0 : Nat) : Int) = some (0, 0) := rfl); rw [e] at h; cases h; exact ⟨by decide, by decide, rfl, rfl⟩
    | 1, _ => (have e : PySr115.shape ((1 : Nat) : Int) = some (2, 0) := rfl); rw [e] at h; cases h; exact ⟨by decide, by decide, rfl, rfl⟩
    | 2, _ => (have e : PySr115.shape ((2 : Nat) : Int) = some (1, 0) := rfl); rw [e] at h; cases h; exact ⟨by decide, by decide, rfl, rfl⟩
    | 3, _ => (have e : PySr115.shape ((3 : Nat) : Int) = some (3, 0) := rfl); rw [e] at h; cases h; exact ⟨by decide, by decide, rfl, rfl⟩
    | 4, _ => (have e : PySr115.shape ((4 : Nat) : Int) = some (0, 0) := rfl); rw [e] at h; cases h; exact ⟨by decide, by decide, rfl, rfl⟩
    | 5, _ => (have e : PySr115.shape ((5 : Nat) : Int) = some (1, 0) := rfl); rw [e] at h; cases h; exact ⟨by decide, by decide, rfl, rfl⟩
    | 6, _ => (have e : PySr115.shape ((6 : Nat) : Int) = some (0, 0) := rfl); rw [e] at h; cases h; exact ⟨by decide, by decide, rfl, rfl⟩
    | 7, _ => (have e : PySr115.shape ((7 : Nat) : Int) = some (0, 0) := rfl); rw [e] at h; cases h; exact ⟨by decide, by decide, rfl, rfl⟩
    | 8, _ => (have e : PySr115.shape ((8 : Nat) : Int) = some (0, 0) := rfl); rw [e] at h; cases h; exact ⟨by decide, by decide, rfl, rfl⟩
    | 9, _ => (have e : PySr115.shape ((9 : Nat) : Int) = some (0, 0) := rfl); rw [e] at h; cases h; exact ⟨by decide, by decide, rfl, rfl⟩
    | 10, _ => (have e : PySr115.shape ((10 : Nat) : Int) = some (0, 0) := rfl); rw [e] at h; cases h; exact ⟨by decide, by decide, rfl, rfl⟩
    | 11, _ => (have e : PySr115.shape ((11 : Nat) : Int) = some (1, 0) := rfl); rw [e] at h; cases h; exact ⟨by decide, by decide, rfl, rfl⟩
    | 12, _ => (have e : PySr115.shape ((12 : Nat) : Int) = some (1, 0) := rfl); rw [e] at h; cases h; exact ⟨by decide, by decide, rfl, rfl⟩
    | 13, _ => (have e : PySr115.shape ((13 : Nat) : Int) = some (0, 1) := rfl); rw [e] at h; cases h; exact ⟨by decide, by decide, rfl, rfl⟩
    | 14, _ => (have e : PySr115.shape ((14 : Nat) : Int) = some (1, 0) := rfl); rw [e] at h; cases h; exact ⟨by decide, by decide, rfl, rfl⟩
    | 15, _ => (have e : PySr115.shape ((15 : Nat) : Int) = some (2, 0) := rfl); rw [e] at h; cases h; exact ⟨by decide, by decide, rfl, rfl⟩
    | 16, _ => (have e : PySr115.shape ((16 : Nat) : Int) = some (0, 0) := rfl); rw [e] at h; cases h; exact ⟨by decide, by decide, rfl, rfl⟩
  · exfalso
    unfold PySr115.shape at h
    rw [if_neg (by omega), if_neg (by omega), if_neg (by omega), if_neg (by omega), if_neg (by omega), if_neg (by omega), if_neg (by omega), if_neg (by omega), if_neg (by omega),
      if_neg (by omega), if_neg (by omega), if_neg (by omega), if_neg (by omega), if_neg (by omega), if_neg (by omega), if_neg (by omega), if_neg (by omega)] at h
    cases h
/-- a call's number and what stands behind it -/
def convC (c : List (List Int)) : Int × List Int := match c with
  | [p :: xs] => (p, xs)
  | (p :: _) :: r :: _ => (p, r)
  | _ => (0, [])
/-- one call read -/
theorem call_inv {p : Int} {r : List Int} {c : List (List Int)} {t : List Int} (h : PyFlat.call PySr115.shape (p :: r) = some (c, t)) : 0 ≤ p ∧ p ≤ 16 ∧
    ((p = 13 ∧ ∃ (n : Nat) (s : List Int), r = (n : Int) :: s ∧ n ≤ s.length ∧ c = [[13], s.take n] ∧ t = s.drop n) ∨
     (p ≠ 13 ∧ cnts.getD p.toNat 0 ≤ r.length ∧ c = [p :: r.take (cnts.getD p.toNat 0)] ∧ t = r.drop (cnts.getD p.toNat 0))) := by
  simp only [PyFlat.call] at h
  cases e : PySr115.shape p with
  | none => rw [e] at h; cases h
  | some nk =>
    obtain ⟨n, k⟩ := nk
    rw [e] at h
    obtain ⟨h1, h2, h3, h4⟩ := shape_inv e
    refine ⟨h1, h2, ?_⟩
    simp only at h
    split at h
    · cases h
    · rename_i hlen
      by_cases hp : p = 13
      · left
        refine ⟨hp, ?_⟩
        rw [if_pos hp] at h4
        have hn : n = 0 := by rw [h3, hp]; rfl
        subst h4 hn
        rw [List.drop_zero] at h
        cases r with
        | nil => simp [PyFlat.rows, PyFlat.row] at h
        | cons m s =>
          simp only [PyFlat.rows, PyFlat.row] at h
          by_cases hm : 0 ≤ m ∧ m.toNat ≤ s.length
          · rw [if_pos hm] at h
            simp only [List.take_zero] at h
            have h := Option.some.inj h
            have e1 : _ = c := congrArg Prod.fst h
            have e2 : _ = t := congrArg Prod.snd h
            refine ⟨m.toNat, s, ?_, hm.2, ?_, e2.symm⟩
            · have : ((m.toNat : Nat) : Int) = m := Int.toNat_of_nonneg hm.1
              rw [this]
            · rw [← e1, hp]
          · rw [if_neg hm] at h
            simp at h
      · right
        rw [if_neg hp] at h4
        subst h4
        simp only [PyFlat.rows] at h
        have h := Option.some.inj h
        have e1 : _ = c := congrArg Prod.fst h
        have e2 : _ = t := congrArg Prod.snd h
        refine ⟨hp, by omega, ?_, ?_⟩
        · rw [← e1, h3]
        · rw [← e2, h3]
/-- the calls one by one -/
theorem calls_inv {k : Nat} {p : Int} {r : List Int} {cs : List (List (List Int))} (h : PyFlat.calls PySr115.shape k (p :: r) = some cs) : ∃ c t rest k', PyFlat.call PySr115.shape (p :: r) = some (c, t) ∧ PyFlat.calls PySr115.shape k' t = some rest ∧ cs = c :: rest := by
  cases k with
  | zero => simp [PyFlat.calls] at h
  | succ k =>
    simp only [PyFlat.calls] at h
    cases e : PyFlat.call PySr115.shape (p :: r) with
    | none => rw [e] at h; cases h
    | some ct =>
      obtain ⟨c, t⟩ := ct
      rw [e] at h
      simp only at h
      cases e2 : PyFlat.calls PySr115.shape k t with
      | none => rw [e2] at h; cases h
      | some rest =>
        rw [e2] at h
        exact ⟨c, t, rest, k, rfl, e2, (Option.some.inj h).symm⟩
theorem calls_nil {k : Nat} {cs : List (List (List Int))} (h : PyFlat.calls PySr115.shape k [] = some cs) : cs = [] := by
  cases k <;> (simp only [PyFlat.calls] at h; exact (Option.some.inj h).symm)
/-- a call as it may be read -/
def RawOk (c : List (List Int)) : Prop := ∃ (p : Int) (xs : List Int), 0 ≤ p ∧ p ≤ 16 ∧ ((p = 13 ∧ c = [[13], xs]) ∨ (p ≠ 13 ∧ xs.length = cnts.getD p.toNat 0 ∧ c = [p :: xs]))
theorem raw_ok : ∀ (k : Nat) (l : List Int) (cs : List (List (List Int))), PyFlat.calls PySr115.shape k l = some cs → ∀ c ∈ cs, RawOk c
  | _, [], cs, h => by rw [calls_nil h]; intro c hc; cases hc
  | 0, p :: r, cs, h => by simp [PyFlat.calls] at h
  | k + 1, p :: r, cs, h => by
    simp only [PyFlat.calls] at h
    cases e : PyFlat.call PySr115.shape (p :: r) with
    | none => rw [e] at h; cases h
    | some ct =>
      obtain ⟨c, t⟩ := ct
      rw [e] at h
      simp only at h
      cases e2 : PyFlat.calls PySr115.shape k t with
      | none => rw [e2] at h; cases h
      | some rest =>
        rw [e2] at h
        have h := Option.some.inj h
        intro d hd
        rw [← h] at hd
        rcases List.mem_cons.mp hd with q | q
        · subst q
          obtain ⟨h1, h2, h3⟩ := call_inv e
          rcases h3 with ⟨hp, n, s, _, _, hc, _⟩ | ⟨hp, hl, hc, _⟩
          · exact ⟨p, s.take n, h1, h2, .inl ⟨hp, hc⟩⟩
          · exact ⟨p, _, h1, h2, .inr ⟨hp, by rw [List.length_take]; omega, hc⟩⟩
        · exact raw_ok k t rest e2 d q
/-! ### the operation of a call -/
def opSh : Nat → List Int → Option Call
  | 0 => sh2 .addPiece
  | 1 => sh1 .removePiece
  | 2 => sh3 .setPiece
  | 3 => sh0 .chainCount
  | 4 => sh1 .chain
  | 5 => sh0 .singleChainPossible
  | 6 => sh0 .minChains
  | 7 => sh0 .excesses
  | 8 => sh0 .components
  | 9 => sh0 .circuitCount
  | 10 => sh1 .circuit
  | 11 => sh1 .treeCount
  | 12 => shL
  | 13 => sh1 .chainsFrom
  | 14 => sh2 .evaluateWithPiece
  | 15 => sh0 .describe
  | _ => fun _ => none
def callOp (p : Int) (ns : List Int) : Option Call := if p = 0 then sh0 .create ns else opSh (p.toNat - 1) ns
theorem len0 {xs : List Int} (h : xs.length = 0) : xs = [] := List.length_eq_zero_iff.mp h
theorem len1 {xs : List Int} (h : xs.length = 1) : ∃ a, xs = [a] := List.length_eq_one_iff.mp h
theorem len2 {xs : List Int} (h : xs.length = 2) : ∃ a b, xs = [a, b] := by
  match xs, h with
  | [a, b], _ => exact ⟨a, b, rfl⟩
theorem len3 {xs : List Int} (h : xs.length = 3) : ∃ a b c, xs = [a, b, c] := by
  match xs, h with
  | [a, b, c], _ => exact ⟨a, b, c, rfl⟩
theorem int16 {p : Int} (h0 : 0 ≤ p) (h1 : p ≤ 16) : ∃ n : Nat, n < 17 ∧ p = (n : Int) := ⟨p.toNat, by omega, by omega⟩
/-- what is parsed is the operation's call -/
theorem parse_ok {c : List (List Int)} (h : RawOk c) : ∃ call, Sr115Neutral.parseCall (PySr115.whole c) = some call ∧ callOp (convC c).1 (convC c).2 = some call ∧ 0 ≤ (convC c).1 ∧ (convC c).1 ≤ 16 := by
  obtain ⟨p, xs, h0, h1, h⟩ := h
  rcases h with ⟨rfl, rfl⟩ | ⟨hp, hl, rfl⟩
  · exact ⟨.checkChains xs, rfl, rfl, h0, h1⟩
  · obtain ⟨n, hn, rfl⟩ := int16 h0 h1
    rw [Int.toNat_natCast] at hl
    match n, hn with
    | 0, _ => obtain rfl := len0 hl; exact ⟨_, rfl, rfl, h0, h1⟩
    | 1, _ => obtain ⟨a, b, rfl⟩ := len2 hl; exact ⟨_, rfl, rfl, h0, h1⟩
    | 2, _ => obtain ⟨a, rfl⟩ := len1 hl; exact ⟨_, rfl, rfl, h0, h1⟩
    | 3, _ => obtain ⟨a, b, c, rfl⟩ := len3 hl; exact ⟨_, rfl, rfl, h0, h1⟩
    | 4, _ => obtain rfl := len0 hl; exact ⟨_, rfl, rfl, h0, h1⟩
    | 5, _ => obtain ⟨a, rfl⟩ := len1 hl; exact ⟨_, rfl, rfl, h0, h1⟩
    | 6, _ => obtain rfl := len0 hl; exact ⟨_, rfl, rfl, h0, h1⟩
    | 7, _ => obtain rfl := len0 hl; exact ⟨_, rfl, rfl, h0, h1⟩
    | 8, _ => obtain rfl := len0 hl; exact ⟨_, rfl, rfl, h0, h1⟩
    | 9, _ => obtain rfl := len0 hl; exact ⟨_, rfl, rfl, h0, h1⟩
    | 10, _ => obtain rfl := len0 hl; exact ⟨_, rfl, rfl, h0, h1⟩
    | 11, _ => obtain ⟨a, rfl⟩ := len1 hl; exact ⟨_, rfl, rfl, h0, h1⟩
    | 12, _ => obtain ⟨a, rfl⟩ := len1 hl; exact ⟨_, rfl, rfl, h0, h1⟩
    | 13, _ => exact absurd rfl hp
    | 14, _ => obtain ⟨a, rfl⟩ := len1 hl; exact ⟨_, rfl, rfl, h0, h1⟩
    | 15, _ => obtain ⟨a, b, rfl⟩ := len2 hl; exact ⟨_, rfl, rfl, h0, h1⟩
    | 16, _ => obtain rfl := len0 hl; exact ⟨_, rfl, rfl, h0, h1⟩
/-! ### the state -/
def stepOf (st : Option Floor) (c : Call) : Option Floor × List Int := match c with
  | .create => (some [], [0])
  | c => match st with
    | none => (none, [-11])
    | some f => (some (newFloor f c), answerOf f c)
theorem step_some (f : Floor) (c : Call) : (match Sr115.perform f c with
    | (some changed, result) => (some changed, result)
    | (none, result) => (some f, result)) = (some (newFloor f c), (Sr115.perform f c).2) := by
  unfold newFloor
  cases h : Sr115.perform f c with
  | mk o r =>
    cases o <;> rfl
theorem step_eq (st : Option Floor) (c : Call) : ((Sr115.step st c).1, ansOf (Sr115.step st c).2) = stepOf st c := by
  have key : ∀ (f : Floor) (c : Call), Sr115.step (some f) c = (match c with
      | .create => (some [], .ofCode 0)
      | c => (some (newFloor f c), (Sr115.perform f c).2)) := by
    intro f c
    cases c <;> first | rfl | exact step_some f _
  cases st with
  | none => cases c <;> rfl
  | some f =>
    rw [key]
    cases c <;> rfl
/-- the machine over calls that parse -/
def runs : Option Floor → List Call → List Int
  | _, [] => []
  | st, c :: r => (((stepOf st c).2.length : Int) :: (stepOf st c).2) ++ runs (stepOf st c).1 r
def stateAt : Option Floor → List Call → Option Floor
  | st, [] => st
  | st, c :: r => stateAt (stepOf st c).1 r
theorem runs_append : ∀ (a b : List Call) (st : Option Floor), runs st (a ++ b) = runs st a ++ runs (stateAt st a) b
  | [], _, _ => rfl
  | c :: a, b, st => by
    show _ ++ runs _ (a ++ b) = (_ ++ runs _ a) ++ runs (stateAt _ a) b
    rw [runs_append a b, List.append_assoc]
theorem stateAt_append : ∀ (a b : List Call) (st : Option Floor), stateAt st (a ++ b) = stateAt (stateAt st a) b
  | [], _, _ => rfl
  | c :: a, b, st => stateAt_append a b _
theorem played_runs : ∀ (raw : List (List (List Int))) (calls : List Call) (st : Option Floor), raw.map (fun c => Sr115Neutral.parseCall (PySr115.whole c)) = calls.map some →
    PyFlat.told (PyFlat.played Sr115Neutral.step st (raw.map PySr115.whole)) = runs st calls
  | [], [], _, _ => rfl
  | [], _ :: _, _, h => by cases h
  | _ :: _, [], _, h => by cases h
  | c :: raw, call :: calls, st, h => by
    rw [List.map_cons, List.map_cons] at h
    injection h with h1 h2
    have hs : Sr115Neutral.step st (PySr115.whole c) = stepOf st call := by
      unfold Sr115Neutral.step
      rw [h1]
      exact step_eq st call
    rw [List.map_cons]
    have ih := played_runs raw calls (stepOf st call).1 h2
    unfold PyFlat.told at ih ⊢
    show ((PyFlat.played Sr115Neutral.step st (PySr115.whole c :: raw.map PySr115.whole)).flatMap fun a => (a.length : Int) :: a) = _
    unfold PyFlat.played
    rw [List.flatMap_cons, hs, ih]
    rfl
/-- what is asked, told for the walk -/
theorem asked_inv {l : List Int} (h : PySr115.answers_asked l = true) : ∃ (raw : List (List (List Int))) (calls : List Call), PyFlat.calls PySr115.shape l.length l = some raw ∧ raw.map (fun c => callOp (convC c).1 (convC c).2) = calls.map some ∧
    (∀ c ∈ raw, 0 ≤ (convC c).1 ∧ (convC c).1 ≤ 16 ∧ (convC c).2.length ≤ 70) ∧ PySr115.answers l = runs none calls ∧ (runs none calls).length ≤ 10000000 := by
  unfold PySr115.answers_asked at h
  cases e : PyFlat.calls PySr115.shape l.length l with
  | none => rw [e] at h; cases h
  | some raw =>
    rw [e] at h
    simp only [Bool.and_eq_true] at h
    obtain ⟨⟨⟨⟨h1, h2⟩, h3⟩, h4⟩, h5⟩ := h
    have ok := raw_ok _ _ _ e
    have ex : ∃ calls : List Call, raw.map (fun c => Sr115Neutral.parseCall (PySr115.whole c)) = calls.map some ∧ raw.map (fun c => callOp (convC c).1 (convC c).2) = calls.map some := by
      clear h1 h2 h3 h4 h5 e
      induction raw with
      | nil => exact ⟨[], rfl, rfl⟩
      | cons c raw ih =>
        obtain ⟨calls, i1, i2⟩ := ih (fun d hd => ok d (List.mem_cons_of_mem _ hd))
        obtain ⟨call, p1, p2, _⟩ := parse_ok (ok c List.mem_cons_self)
        refine ⟨call :: calls, ?_, ?_⟩
        · rw [List.map_cons, List.map_cons, i1, p1]
        · rw [List.map_cons, List.map_cons, i2, p2]
    obtain ⟨calls, c1, c2⟩ := ex
    have ea : PySr115.answers l = runs none calls := by
      unfold PySr115.answers PySr115.calls
      rw [e]
      exact played_runs raw calls none c1
    refine ⟨raw, calls, rfl, c2, fun c hc => ?_, ea, ?_⟩
    · obtain ⟨p, xs, q0, q1, q⟩ := ok c hc
      rcases q with ⟨rfl, rfl⟩ | ⟨hp, hl, rfl⟩
      · refine ⟨q0, q1, ?_⟩
        unfold Sr115Neutral.asked at h4
        rw [Bool.and_eq_true, Bool.and_eq_true, List.all_eq_true] at h4
        have := h4.2.2 (PySr115.whole [[13], xs]) (List.mem_map_of_mem hc)
        have z : Sr115Neutral.isListArgument xs = true := this
        unfold Sr115Neutral.isListArgument at z
        rw [Bool.and_eq_true, decide_eq_true_eq] at z
        exact z.2
      · refine ⟨q0, q1, ?_⟩
        show xs.length ≤ 70
        obtain ⟨n, hn, rfl⟩ := int16 q0 q1
        rw [Int.toNat_natCast] at hl
        have : ∀ n, n < 17 → cnts.getD n 0 ≤ 3 := by decide
        have := this n hn
        omega
    · unfold PyFlat.short at h5
      rw [decide_eq_true_eq, ea] at h5
      exact h5
end BB
set_option Elab.async false
set_option maxRecDepth 100000
set_option maxHeartbeats 2000000
namespace BB
open PySem PySem.Spec PyProof.Rows L2
open Sr115 (Piece Floor pieceAt)

/-! ### the heap -/
abbrev nV (n : Nat) : V := V.int (n : Int)
/-- all stands but what is at D -/
def Kp (D : Addr) (H H' : Hp) : Prop := ∀ b o, H b = some o → b ≠ D → H' b = some o
theorem same_kp {H H' : Hp} (h : Same H H') (D : Addr) : Kp D H H' := fun b o e _ => h b o e
theorem kp_upd {H : Hp} {D : Addr} {o : HO} : Kp D H (upd H D o) := fun b u e n => by rw [upd_ne n]; exact e
theorem same_new {H : Hp} {p : Addr} {o : HO} (h : H p = none) : Same H (upd H p o) := fun b u e => by
  rw [upd_ne (ne_of_none e h)]; exact e
theorem same_old {H H' : Hp} {D : Addr} {o : HO} (s : Same H H') (h : H D = none) : Same H (upd H' D o) := fun b u e => by
  rw [upd_ne (ne_of_none e h)]; exact s b u e
theorem paired_get {α β : Type} {F : α → β → Prop} : ∀ {xs : List α} {ys : List β} {i : Nat} {x : α}, Paired F xs ys → xs[i]? = some x → ∃ y, ys[i]? = some y ∧ F x y
  | _, _, _, _, .nil, e => by simp at e
  | _, _, 0, _, .cons r _, e => by simp at e; subst e; exact ⟨_, rfl, r⟩
  | _, _, i + 1, x, .cons _ t, e => by
    obtain ⟨y, h1, h2⟩ := paired_get (i := i) (x := x) t (by simpa using e)
    exact ⟨y, by simpa using h1, h2⟩
theorem paired_get' {α β : Type} {F : α → β → Prop} : ∀ {xs : List α} {ys : List β} {i : Nat} {y : β}, Paired F xs ys → ys[i]? = some y → ∃ x, xs[i]? = some x ∧ F x y
  | _, _, _, _, .nil, e => by simp at e
  | _, _, 0, _, .cons r _, e => by simp at e; subst e; exact ⟨_, rfl, r⟩
  | _, _, i + 1, x, .cons _ t, e => by
    obtain ⟨y, h1, h2⟩ := paired_get' (i := i) (y := x) t (by simpa using e)
    exact ⟨y, by simpa using h1, h2⟩
theorem paired_append {α β : Type} {F : α → β → Prop} : ∀ {xs xs' : List α} {ys ys' : List β}, Paired F xs ys → Paired F xs' ys' → Paired F (xs ++ xs') (ys ++ ys')
  | _, _, _, _, .nil, h => h
  | _, _, _, _, .cons r t, h => .cons r (paired_append t h)
theorem paired_set {α β : Type} {F : α → β → Prop} {x : α} {y : β} (h : F x y) : ∀ {xs : List α} {ys : List β} (i : Nat), Paired F xs ys → Paired F (xs.set i x) (ys.set i y)
  | _, _, _, .nil => .nil
  | _, _, 0, .cons _ t => .cons h t
  | _, _, i + 1, .cons r t => .cons r (paired_set h i t)
theorem paired_erase {α β : Type} {F : α → β → Prop} : ∀ {xs : List α} {ys : List β} (i : Nat), Paired F xs ys → Paired F (xs.eraseIdx i) (ys.eraseIdx i)
  | _, _, _, .nil => .nil
  | _, _, 0, .cons _ t => t
  | _, _, i + 1, .cons r t => .cons r (paired_erase i t)
theorem paired_ints {ns : List Int} : ∀ {xs : List V}, Paired (fun v n => v = V.int n) xs ns → xs = ns.map V.int := by
  induction ns with
  | nil => intro xs h; cases h; rfl
  | cons n ns ih => intro xs h; cases h with | cons r t => rw [r, ih t]; rfl
theorem paired_nats {ns : List Nat} : ∀ {xs : List V}, Paired (fun v n => v = nV n) xs ns → xs = ns.map nV := by
  induction ns with
  | nil => intro xs h; cases h; rfl
  | cons n ns ih => intro xs h; cases h with | cons r t => rw [r, ih t]; rfl
theorem paired_bls {ns : List Bool} : ∀ {xs : List V}, Paired (fun v n => v = V.bl n) xs ns → xs = ns.map V.bl := by
  induction ns with
  | nil => intro xs h; cases h; rfl
  | cons n ns ih => intro xs h; cases h with | cons r t => rw [r, ih t]; rfl
theorem take_more {α : Type} : ∀ {l : List α} {i : Nat} {x : α}, l[i]? = some x → l.take (i + 1) = l.take i ++ [x]
  | [], i, x, h => by simp at h
  | a :: l, 0, x, h => by
    have e : a = x := Option.some.inj h
    subst e
    rfl
  | a :: l, i + 1, x, h => by
    have ih := take_more (l := l) (i := i) (x := x) h
    show a :: l.take (i + 1) = a :: l.take i ++ [x]
    rw [ih]
    rfl

/-- a piece at v -/
def IsPc (H : Hp) (v : V) (p : Piece) : Prop := ∃ t, v = .ref t ∧ H t = some (.tup [nV p.left, nV p.right])
/-- the list of the pieces at a -/
def Pcs (H : Hp) (a : Addr) (f : Floor) : Prop := ∃ xs, H a = some (.lst xs) ∧ Paired (IsPc H) xs f
/-- the chain at v: a tuple -/
def IsCh (H : Hp) (v : V) (c : List Nat) : Prop := ∃ t, v = .ref t ∧ H t = some (.tup (c.map nV))
def Chs (H : Hp) (a : Addr) (cs : List (List Nat)) : Prop := ∃ xs, H a = some (.lst xs) ∧ Paired (IsCh H) xs cs
theorem IsPc.same {H H' : Hp} {v : V} {p : Piece} (h : IsPc H v p) (s : Same H H') : IsPc H' v p := let ⟨t, e, z⟩ := h; ⟨t, e, s t _ z⟩
theorem IsPc.kp {H H' : Hp} {D : Addr} {xs : List V} {v : V} {p : Piece} (h : IsPc H v p) (hD : H D = some (.lst xs)) (s : Kp D H H') : IsPc H' v p :=
  let ⟨t, e, z⟩ := h; ⟨t, e, s t _ z (ne_of z hD (by intro q; cases q))⟩
theorem Pcs.same {H H' : Hp} {a : Addr} {f : Floor} (h : Pcs H a f) (s : Same H H') : Pcs H' a f :=
  let ⟨xs, e, z⟩ := h; ⟨xs, s a _ e, z.mono fun _ _ q => q.same s⟩
theorem IsCh.same {H H' : Hp} {v : V} {p : List Nat} (h : IsCh H v p) (s : Same H H') : IsCh H' v p := let ⟨t, e, z⟩ := h; ⟨t, e, s t _ z⟩
theorem IsCh.kp {H H' : Hp} {D : Addr} {xs : List V} {v : V} {p : List Nat} (h : IsCh H v p) (hD : H D = some (.lst xs)) (s : Kp D H H') : IsCh H' v p :=
  let ⟨t, e, z⟩ := h; ⟨t, e, s t _ z (ne_of z hD (by intro q; cases q))⟩
theorem Chs.same {H H' : Hp} {a : Addr} {f : List (List Nat)} (h : Chs H a f) (s : Same H H') : Chs H' a f :=
  let ⟨xs, e, z⟩ := h; ⟨xs, s a _ e, z.mono fun _ _ q => q.same s⟩
theorem Pcs.get {H : Hp} {xs : List V} {f : Floor} (h : Paired (IsPc H) xs f) {i : Nat} (hi : i < f.length) : ∃ t, xs[i]? = some (.ref t) ∧ H t = some (.tup [nV (pieceAt f i).left, nV (pieceAt f i).right]) := by
  have e : f[i]? = some (pieceAt f i) := by
    rw [List.getElem?_eq_getElem hi]
    unfold Sr115.pieceAt
    rw [List.getD_eq_getElem?_getD, List.getElem?_eq_getElem hi]
    rfl
  obtain ⟨x, h1, t, h2, h3⟩ := paired_get' h e
  exact ⟨t, by rw [h1, h2], h3⟩

/-! ### a comprehension over a walk of known items -/
/-- [e for x in ..  if t]: the items are those of ys, in order; the block changes nothing but the new list -/
theorem lc_fm {α β : Type} {J : It} {n : Nat} {Gd : Hp → Prop} {Y : Nat → Hp → V → Hp → Prop} (w : Walk J n Gd Y) {g : TG} {tt : TT} {te : TE} {vs : List Nat} {σ : L2.St} {H1 : Hp} {D : Addr} {Qd : Hp → Prop}
    (ys : List α) (hn : ys.length = n) (hD : H1 D = none) (hsz : n ≤ sizeLine) (hG : ∀ H, Same H1 H → Gd H) (p : α → Bool) (q : α → β) (G : Hp → V → β → Prop) (hst : ∀ H H' v b, (∃ acc, H D = some (.lst acc)) → Kp D H H' → G H v b → G H' v b)
    (turn : ∀ i x y H H' (Nx : Hp → Prop), ys[i]? = some y → Same H1 H → Y i H x H' → (∃ acc, H D = some (.lst acc)) → (∀ H3, Same H H3 → p y = false → Nx H3) →
      (∀ H4 v, Same H H4 → G H4 v (q y) → p y = true → ∃ acc, H4 D = some (.lst acc) ∧ acc.length < sizeLine ∧ Nx (upd H4 D (.lst (acc ++ [v])))) →
      g x (wipe σ vs) H' fun σ2 H2 => wipe σ2 vs = wipe σ vs ∧ tt σ2 H2 fun b H3 => if b = true then te σ2 H3 fun y H4 => ∃ acc, H4 D = some (.lst acc) ∧ acc.length < sizeLine ∧ Nx (upd H4 D (.lst (acc ++ [y]))) else Nx H3)
    (hd : ∀ H out, Same H1 H → H D = some (.lst out) → Paired (G H) out ((ys.filter p).map q) → Qd H) :
    ∃ W : Nat → Nat → Hp → Prop, (∃ m, W 0 m (upd H1 D (.lst []))) ∧ ∀ i m H, W i m H →
      (J.stop i H ∧ Qd H) ∨ (J.go i H ∧ ∃ Nx : Hp → Prop, (∀ H', Nx H' → ∃ m', m' < m ∧ W (i + 1) m' H') ∧ ∀ x H', J.yld i H x H' → g x (wipe σ vs) H' fun σ2 H2 => wipe σ2 vs = wipe σ vs ∧ tt σ2 H2 fun b H3 =>
        if b = true then te σ2 H3 fun y H4 => ∃ acc, H4 D = some (.lst acc) ∧ acc.length < sizeLine ∧ Nx (upd H4 D (.lst (acc ++ [y]))) else Nx H3) := by
  refine lc_it w (fun i H => Same H1 H ∧ ∃ out, H D = some (.lst out) ∧ Paired (G H) out (((ys.take i).filter p).map q)) ⟨same_new hD, [], upd_same, .nil⟩ (fun i H _ h => hG H h.1) ?_ ?_
  · rintro i x H H' hi ⟨s, out, e, pr⟩ y
    have hy : i < ys.length := by omega
    have ey : ys[i]? = some ys[i] := List.getElem?_eq_getElem hy
    refine turn i x ys[i] H H' _ ey s y ⟨out, e⟩ (fun H3 s3 hp => ?_) (fun H4 v s4 g4 hp => ?_)
    · refine ⟨s.trans s3, out, s3 _ _ e, ?_⟩
      rw [take_more ey, List.filter_append, List.filter_cons_of_neg (by rw [hp]; decide), List.filter_nil, List.append_nil]
      exact pr.mono fun a b z => hst H H3 a b ⟨out, e⟩ (same_kp s3 D) z
    · have e4 := s4 _ _ e
      have hlen : out.length < sizeLine := by
        rw [pr.length, List.length_map]
        have h1 := List.length_filter_le p (ys.take i)
        rw [List.length_take] at h1
        omega
      refine ⟨out, e4, hlen, same_old (s.trans s4) hD, out ++ [v], upd_same, ?_⟩
      rw [take_more ey, List.filter_append, List.filter_cons_of_pos hp, List.filter_nil, List.map_append]
      refine paired_append (pr.mono fun a b z => hst H _ a b ⟨out, e⟩ (fun b' o e' n' => ?_) z) (.cons (hst H4 _ v (q ys[i]) ⟨out, e4⟩ kp_upd g4) .nil)
      rw [upd_ne n']
      exact s4 _ _ e'
  · rintro H ⟨s, out, e, pr⟩
    rw [← hn, List.take_length] at pr
    exact hd H out s e pr
/-- .. where the new items hang on nothing of the heap -/
theorem st_flat {β : Type} {D : Addr} (F : V → β → Prop) : ∀ (H H' : Hp) (v : V) (b : β), (∃ acc, H D = some (.lst acc)) → Kp D H H' → F v b → F v b := fun _ _ _ _ _ _ h => h
theorem st_ch {D : Addr} : ∀ (H H' : Hp) (v : V) (b : List Nat), (∃ acc, H D = some (.lst acc)) → Kp D H H' → IsCh H v b → IsCh H' v b := fun _ _ _ _ ⟨_, e⟩ k h => h.kp e k
theorem st_pc {D : Addr} : ∀ (H H' : Hp) (v : V) (b : Piece), (∃ acc, H D = some (.lst acc)) → Kp D H H' → IsPc H v b → IsPc H' v b := fun _ _ _ _ ⟨_, e⟩ k h => h.kp e k
theorem getElem_range {n i y : Nat} (h : (List.range n)[i]? = some y) : y = i ∧ i < n := by
  have hi : i < n := by
    have := (List.getElem?_eq_some_iff.mp h).1
    rwa [List.length_range] at this
  rw [List.getElem?_range hi] at h
  exact ⟨(Option.some.inj h).symm, hi⟩
end BB
set_option Elab.async false
set_option maxRecDepth 100000
set_option maxHeartbeats 2000000
set_option linter.all false
namespace BB
open PySem PySem.Spec PyProof.Rows L2
open Sr115 (Piece Floor pieceAt)

/-! ### the text and what stands behind its top -/
def topS (i : Nat) : Stmt := PySem.Challenge.pw_brokenborder_s01_answers.main.body.getD i (.Pass ⟨0, 0, 0, 0⟩)
/-- a def of the module -/
def DefAt (K : PySem.W.Frag) (mg : Str → Option Value) (x : Str) (st : Stmt) : Prop := ∃ f fd, Fun K x x st f fd ∧ mg x = some (.ref f)
/-- a name of the module that holds the value v -/
def Holds (mg : Str → Option Value) (x : Str) (v : V) : Prop := ∃ u, mg x = some u ∧ RelV v u
/-- a def that may be called -/
structure Cal (P : Program) (w : World) (K : PySem.W.Frag) (mg : Str → Option Value) (base : Heap) (k : Nat) (x : Str) (sp : Sp) : Prop where
  ex : ∃ (f : Addr) (fd : FuncData) (ps : List Str), FnOk P w K mg base L2.CX0 k f fd ps sp ∧ mg x = some (.ref f) ∧ PySem.W.keepIn K (.ref f) = true ∧ Binds K fd ps []
section
variable {P : Program} {w : World} {K : PySem.W.Frag} {mg : Str → Option Value} {base : Heap}
theorem mk_cal {x : Str} {st : Stmt} {N ps : List Str} {k : Nat} {sp : Sp} (D : DefAt K mg x st) (S : FnScope N ps (defScope st))
    (hb : ∀ (kV doc pm : Value) (an : Option Addr) (cdv ct : Value) (us : List Value), us.length = ps.length → bindArgs (PySem.W.fnOf x x (defArgs st) (defBody st) (defScope st) .none kV doc pm an cdv ct) ⟨us, []⟩ = pure (ps.zip us))
    (len : ∀ vs H Q E, sp vs H Q E → vs.length = ps.length)
    (hbody : ∀ (f : Addr) (cdv : Value) (A : Around) (outer : List Env) (s : Shared) (H : Hp) (vs : List V) (Q : VK) (E : XK), Room k (A.deeper (envOfC x (defScope st) s.heap.objs.size f cdv)) → sp vs H Q E →
      ∃ t, PSs (cxOf L2.CX0 P w K mg base N x (defScope st) f cdv A outer s H E).nox (defBody st) t ∧ t { nx := fun _ H' => Q .non H', rt := Q } (start N vs) H) : Cal P w K mg base (k + 1) x sp := by
  obtain ⟨f, fd, F, hm⟩ := D
  exact ⟨f, fd, ps, F.ok S len (fun cdv A outer s H vs Q E hr h => hbody f cdv A outer s H vs Q E hr h), hm, F.kp, F.binds hb⟩
end
section
variable {X : Cx} {k j : Nat} {x : Str} {sp : Sp} {p pos : Pos} {e : Expr} {es : List Expr} {t : TA}
/-- f(a, ..) of a def of the module -/
def tCallC (sp : Sp) (t : TA) : TE := fun σ H Q => t σ H fun vs H1 => sp vs H1 Q L2.E0
theorem pe_c (c : Cal X.prog X.w X.K X.mg X.base k x sp) (hr : Room j X.A) (hk : k ≤ j) (hg : Gl X x) (ha : PA X (e :: es) t)
    (hdb : (x == ("__debug__" : Str)) = false := by decide) (he : starEach (e :: es) X.env = (false, eval e X.env) :: starEach es X.env := by rfl) (hpl : (backTo pos (starEach es X.env)).any (·.1) = false := by rfl) :
    PE X (.Call (.Name x p) (e :: es) [] pos) (tCallC sp t) := by
  obtain ⟨f, fd, ps, F, hm, kp, b⟩ := c.ex
  have h : PE X (.Call (.Name x p) (e :: es) [] pos) (tCall sp [] L2.E0 t) := pe_call F (hr.mono hk) hg hm kp b .nil L2.pass0 ha hdb he hpl
  refine ⟨fun pins s σ H Q I q => h.run pins s σ H Q I ?_⟩
  have e0 : (fun (vs : List V) (H1 : Hp) => sp (vs ++ []) H1 Q L2.E0) = fun vs H1 => sp vs H1 Q L2.E0 := by
    funext vs H1
    rw [List.append_nil]
  show t σ H (fun vs H1 => sp (vs ++ []) H1 Q L2.E0)
  rw [e0]
  exact q
theorem pe_k {v : V} (hg : Gl X x) (h : Holds X.mg x v) (hd : (x == ("__debug__" : Str)) = false := by decide) : PE X (.Name x pos) (tC v) := by
  obtain ⟨u, hm, r⟩ := h
  exact pe_glob hg hm r hd
end
/-- the names that the defs ask for -/
structure Txt (mg : Str → Option Value) : Prop where
  len : mg "len" = none
  range : mg "range" = none
  sum : mg "sum" = none
  all : mg "all" = none
  sorted : mg "sorted" = none
  list : mg "list" = none
  int : mg "int" = none
  min : mg "min" = none
  max : mg "max" = none
  enumerate : mg "enumerate" = none
  cMarks : Holds mg "MARK_COUNT" (.int 6)
  cBetween : Holds mg "BETWEEN" (.int (-1))
  cNotThere : Holds mg "NOT_THERE" (.int (-2))
  cNotUsed : Holds mg "NOT_USED" (.int (-6))
  cOut : Holds mg "OUT_OF_RANGE" (.int (-22))
  cMany : Holds mg "TOO_MANY" (.int (-28))
  cMost : Holds mg "MOST_PIECES" (.int 7)
  cNone : Holds mg "NO_INSTANCE" (.int (-11))
  cCreate : Holds mg "CREATE" (.int 0)
  cCheck : Holds mg "CHECK_CHAINS" (.int 13)
theorem pgl {X : Cx} {i : Nat} {x : Str} {pos : Pos} (hN : X.N.Nodup) (hi : X.N[i]? = some x) (hx : X.env.scope.names.lookup x = some .local) : PG X (.Name x pos) (gName i) := pg_name hN hi (.inl hx) (.inr hx)
theorem pg_two {X : Cx} {K : PySem.W.Frag} {i j : Nat} {x y : Str} {p q pos : Pos} {k : Nat} (hK : X.K = K) (hc : X.calm = true) (hN : X.N.Nodup) (hi : X.N[i]? = some x) (hx : X.env.scope.names.lookup x = some .local) (hj : X.N[j]? = some y) (hy : X.env.scope.names.lookup y = some .local) :
    PG X (.Tuple [.Name x p, .Name y q] k pos) (gTup K 2 (gCons (gName i) (gCons (gName j) gNil))) := by
  subst hK
  exact pg_tup hc (pgs_cons (pgl (i := i) hN hi hx) (pgs_cons (pgl (i := j) hN hj hy) pgs_nil))
theorem pg_unl2 {X : Cx} {i j : Nat} {x y : Str} {p q pos : Pos} {k : Nat} (hc : X.calm = true) (hN : X.N.Nodup) (hi : X.N[i]? = some x) (hx : X.env.scope.names.lookup x = some .local) (hj : X.N[j]? = some y) (hy : X.env.scope.names.lookup y = some .local) :
    PG X (.Tuple [.Name x p, .Name y q] k pos) (gUnl X.K 2 (gCons (gName i) (gCons (gName j) gNil))) :=
  pg_unl hc (pgs_cons (pgl (i := i) hN hi hx) (pgs_cons (pgl (i := j) hN hj hy) pgs_nil))
theorem pg_unl3 {X : Cx} {i j l : Nat} {x y z : Str} {p q r pos : Pos} {k : Nat} (hc : X.calm = true) (hN : X.N.Nodup) (hi : X.N[i]? = some x) (hx : X.env.scope.names.lookup x = some .local) (hj : X.N[j]? = some y) (hy : X.env.scope.names.lookup y = some .local)
    (hl : X.N[l]? = some z) (hz : X.env.scope.names.lookup z = some .local) :
    PG X (.Tuple [.Name x p, .Name y q, .Name z r] k pos) (gUnl X.K 3 (gCons (gName i) (gCons (gName j) (gCons (gName l) gNil)))) :=
  pg_unl hc (pgs_cons (pgl (i := i) hN hi hx) (pgs_cons (pgl (i := j) hN hj hy) (pgs_cons (pgl (i := l) hN hl hz) pgs_nil)))
theorem walk_range0 {n : Nat} : Walk (Itr 0 n) n (fun _ => True) (YFn fun i => nV i) :=
  walk_range.mono (fun _ h => h) fun i H x H' _ _ y => ⟨y.1, y.2.trans (congrArg V.int (Int.zero_add _))⟩
theorem bb_len : bootBuiltins "len" = some (.builtin "len") := by decide +kernel
theorem bb_range : bootBuiltins "range" = some (.type "range") := by decide +kernel
theorem bb_sum : bootBuiltins "sum" = some (.builtin "sum") := by decide +kernel
theorem bb_all : bootBuiltins "all" = some (.builtin "all") := by decide +kernel
theorem bb_sorted : bootBuiltins "sorted" = some (.builtin "sorted") := by decide +kernel
theorem bb_list : bootBuiltins "list" = some (.type "list") := by decide +kernel
theorem bb_int : bootBuiltins "int" = some (.type "int") := by decide +kernel
theorem bb_min : bootBuiltins "min" = some (.builtin "min") := by decide +kernel
theorem bb_max : bootBuiltins "max" = some (.builtin "max") := by decide +kernel
theorem lcYes {σ : L2.St} {H : Hp} {p q : Hp → Prop} (h : p H) : tYes σ H (fun b H3 => if b = true then p H3 else q H3) := by
  show if true = true then p H else q H
  exact iteT h
theorem dec_nV {a b : Nat} : decide (nV a = nV b) = true ↔ a = b := by
  rw [decide_eq_true_eq]
  constructor
  · intro h
    have e : (a : Int) = (b : Int) := V.int.inj h
    omega
  · rintro rfl; rfl
/-- a new object comes out, all else stands -/
def New (H : Hp) (o : HO) (Q : VK) : Prop := ∀ H' p, Same H H' → H p = none → H' p = some o → Q (.ref p) H'
theorem bigLine {n : Nat} (h : n ≤ 16777216) : n ≤ sizeLine := by rw [PySem.sizeLine_eq]; exact h
end BB
set_option Elab.async false
set_option maxRecDepth 100000
set_option maxHeartbeats 2000000
set_option linter.all false
namespace BB
open PySem PySem.Spec PyProof.Rows L2
open Sr115 (Piece Floor pieceAt)
section
variable {P : Program} {w : World} {K : PySem.W.Frag} {mg : Str → Option Value} {base : Heap}
/-! ### is_mark, are_marks -/
def spIsMark : Sp := fun vs H Q _ => ∃ n, vs = [.int n] ∧ Q (.bl (markI n)) H
theorem scIsMark : FnScope ["number"] ["number"] (defScope (topS 16)) := ⟨rfl, rfl, rfl, by decide +kernel, rfl, by decide +kernel, by decide +kernel⟩
theorem ok_is_mark (D : DefAt K mg "is_mark" (topS 16)) (T : Txt mg) : Cal P w K mg base 1 "is_mark" spIsMark := by
  refine mk_cal D scIsMark (fun _ _ _ _ _ _ us hl => match us, hl with | [_], _ => rfl) (fun vs H Q E h => ?_) (fun fa cdv A outer s H vs Q E hr h => ?_)
  · obtain ⟨n, rfl, _⟩ := h
    rfl
  · refine ⟨_, pss_one (ps_ret (pe_chain op_le op_lt pe_int (pv 0) (pe_k (by rfl) T.cMarks))), ?_⟩
    obtain ⟨n, rfl, k⟩ := h
    refine ⟨_, rfl, _, _, rfl, rfl, _, rfl, ?_⟩
    refine ite2 (fun c => ⟨_, _, rfl, rfl, ?_⟩) (fun c => ?_)
    · have e : markI n = decide (n < 6) := by unfold markI; rw [c, Bool.true_and]
      rw [e] at k
      exact k
    · have e : markI n = false := by unfold markI; rw [Bool.eq_false_iff.mpr c, Bool.false_and]
      rw [e] at k
      exact k
def spAreMarks : Sp := fun vs H Q _ => ∃ l r, vs = [.int l, .int r] ∧ Q (.bl (markI l && markI r)) H
theorem scAreMarks : FnScope ["left", "right"] ["left", "right"] (defScope (topS 17)) := ⟨rfl, rfl, rfl, by decide +kernel, rfl, by decide +kernel, by decide +kernel⟩
theorem ok_are_marks (D : DefAt K mg "are_marks" (topS 17)) (T : Txt mg) (c1 : Cal P w K mg base 1 "is_mark" spIsMark) : Cal P w K mg base 2 "are_marks" spAreMarks := by
  refine mk_cal D scAreMarks (fun _ _ _ _ _ _ us hl => match us, hl with | [_, _], _ => rfl) (fun vs H Q E h => ?_) (fun fa cdv A outer s H vs Q E hr h => ?_)
  · obtain ⟨l, r, rfl, _⟩ := h
    rfl
  · refine ⟨_, pss_one (ps_ret (pe_and (pe_c c1 hr (by decide) (by rfl) (pa_cons (pv 0) pa_nil)) (pe_one (pe_c c1 hr (by decide) (by rfl) (pa_cons (pv 1) pa_nil))))), ?_⟩
    obtain ⟨l, r, rfl, k⟩ := h
    refine ⟨_, rfl, l, rfl, _, rfl, ?_⟩
    refine ite2 (fun c => ⟨_, rfl, r, rfl, ?_⟩) (fun c => ?_)
    · rw [c, Bool.true_and] at k
      exact k
    · rw [Bool.eq_false_iff.mpr c, Bool.false_and] at k
      exact k
/-! ### begin_count, end_count -/
/-- a count of the pieces for a mark -/
def spCount (g : Floor → Nat → Nat) : Sp := fun vs H Q _ => ∃ a f m, vs = [.ref a, nV m] ∧ Pcs H a f ∧ f.length ≤ 7 ∧ ∀ H', Same H H' → Q (nV (g f m)) H'
theorem scBegin : FnScope ["pieces", "mark", "left", "right"] ["pieces", "mark"] (defScope (topS 18)) := ⟨rfl, rfl, rfl, by decide +kernel, rfl, by decide +kernel, by decide +kernel⟩
theorem ok_begin (D : DefAt K mg "begin_count" (topS 18)) (T : Txt mg) : Cal P w K mg base 1 "begin_count" (spCount beginCount) := by
  refine mk_cal D scBegin (fun _ _ _ _ _ _ us hl => match us, hl with | [_, _], _ => rfl) (fun vs H Q E h => ?_) (fun fa cdv A outer s H vs Q E hr h => ?_)
  · obtain ⟨a, f, m, rfl, _⟩ := h
    rfl
  · have nd := scBegin.nd
    refine ⟨_, pss_one (ps_ret (pe_callB call_len_seq (by rfl) T.len bb_len (pa_cons
      (pe_lc (own := [("left", 2), ("right", 3)]) rfl nd (pi_list (pv 0)) (blkOk_by (N := ["pieces", "mark", "left", "right"]) (sc := defScope (topS 18)) (by decide +kernel))
        (fun _ _ _ _ _ => by exact pg_two (K := K) (i := 2) (j := 3) rfl rfl nd rfl rfl rfl rfl)
        (fun _ _ _ _ _ => pts_one (pt_cmpR op_eq (pv 2) (pv 1) (nomark _))) (fun _ _ _ _ _ => pv 2)) pa_nil))), ?_⟩
    obtain ⟨a, f, m, rfl, ⟨xs, hx, px⟩, hf, k⟩ := h
    refine ⟨_, rfl, a, rfl, ⟨xs, SqL.of hx⟩, fun L nL => ?_⟩
    refine lc_fm walk_list f px.length.symm nL (by rw [px.length]; exact bigLine (by omega)) (fun H' s => SqL.of (s _ _ hx)) (fun p => p.left == m) (fun p => p.left) (fun _ v n => v = nV n) (st_flat _) ?_ ?_
    · rintro i x p H1 H2 Nx ey s1 ⟨rfl, ex⟩ _ skip fin
      obtain ⟨y, ey', t, rfl, ht⟩ := paired_get px ex
      rw [ey] at ey'
      cases ey'
      refine ⟨t, _, rfl, SqT.of (s1 _ _ ht), rfl, _, _, rfl, _, _, rfl, rfl, rfl, _, rfl, _, rfl, rfl, _, rfl, ?_⟩
      refine ite2 (fun c => ⟨_, rfl, fin _ _ (Same.refl _) rfl (beq_iff_eq.mpr (dec_nV.mp c))⟩) (fun c => skip _ (Same.refl _) ?_)
      exact beq_eq_false_iff_ne.mpr fun e => c (dec_nV.mpr e)
    · intro H' out s1 ho po
      refine ⟨L, _, rfl, .inl (SqL.of ho), ?_⟩
      rw [po.length, List.length_map]
      exact k H' s1
theorem scEnd : FnScope ["pieces", "mark", "left", "right"] ["pieces", "mark"] (defScope (topS 19)) := ⟨rfl, rfl, rfl, by decide +kernel, rfl, by decide +kernel, by decide +kernel⟩
theorem ok_end (D : DefAt K mg "end_count" (topS 19)) (T : Txt mg) : Cal P w K mg base 1 "end_count" (spCount endCount) := by
  refine mk_cal D scEnd (fun _ _ _ _ _ _ us hl => match us, hl with | [_, _], _ => rfl) (fun vs H Q E h => ?_) (fun fa cdv A outer s H vs Q E hr h => ?_)
  · obtain ⟨a, f, m, rfl, _⟩ := h
    rfl
  · have nd := scEnd.nd
    refine ⟨_, pss_one (ps_ret (pe_callB call_len_seq (by rfl) T.len bb_len (pa_cons
      (pe_lc (own := [("left", 2), ("right", 3)]) rfl nd (pi_list (pv 0)) (blkOk_by (N := ["pieces", "mark", "left", "right"]) (sc := defScope (topS 19)) (by decide +kernel))
        (fun _ _ _ _ _ => by exact pg_two (K := K) (i := 2) (j := 3) rfl rfl nd rfl rfl rfl rfl)
        (fun _ _ _ _ _ => pts_one (pt_cmpR op_eq (pv 3) (pv 1) (nomark _))) (fun _ _ _ _ _ => pv 3)) pa_nil))), ?_⟩
    obtain ⟨a, f, m, rfl, ⟨xs, hx, px⟩, hf, k⟩ := h
    refine ⟨_, rfl, a, rfl, ⟨xs, SqL.of hx⟩, fun L nL => ?_⟩
    refine lc_fm walk_list f px.length.symm nL (by rw [px.length]; exact bigLine (by omega)) (fun H' s => SqL.of (s _ _ hx)) (fun p => p.right == m) (fun p => p.right) (fun _ v n => v = nV n) (st_flat _) ?_ ?_
    · rintro i x p H1 H2 Nx ey s1 ⟨rfl, ex⟩ _ skip fin
      obtain ⟨y, ey', t, rfl, ht⟩ := paired_get px ex
      rw [ey] at ey'
      cases ey'
      refine ⟨t, _, rfl, SqT.of (s1 _ _ ht), rfl, _, _, rfl, _, _, rfl, rfl, rfl, _, rfl, _, rfl, rfl, _, rfl, ?_⟩
      refine ite2 (fun c => ⟨_, rfl, fin _ _ (Same.refl _) rfl (beq_iff_eq.mpr (dec_nV.mp c))⟩) (fun c => skip _ (Same.refl _) ?_)
      exact beq_eq_false_iff_ne.mpr fun e => c (dec_nV.mpr e)
    · intro H' out s1 ho po
      refine ⟨L, _, rfl, .inl (SqL.of ho), ?_⟩
      rw [po.length, List.length_map]
      exact k H' s1
/-! ### all_excesses, used_marks -/
/-- a def of the pieces that makes a new list -/
def spMade (g : Floor → List V) : Sp := fun vs H Q _ => ∃ a f, vs = [.ref a] ∧ Pcs H a f ∧ Good f ∧ New H (.lst (g f)) Q
theorem scExcesses : FnScope ["pieces", "mark"] ["pieces"] (defScope (topS 20)) := ⟨rfl, rfl, rfl, by decide +kernel, rfl, by decide +kernel, by decide +kernel⟩
theorem ok_excesses (D : DefAt K mg "all_excesses" (topS 20)) (T : Txt mg) (c1 : Cal P w K mg base 1 "begin_count" (spCount beginCount)) (c2 : Cal P w K mg base 1 "end_count" (spCount endCount)) :
    Cal P w K mg base 2 "all_excesses" (spMade fun f => (allExcesses f).map V.int) := by
  refine mk_cal D scExcesses (fun _ _ _ _ _ _ us hl => match us, hl with | [_], _ => rfl) (fun vs H Q E h => ?_) (fun fa cdv A outer s H vs Q E hr h => ?_)
  · obtain ⟨a, f, rfl, _⟩ := h
    rfl
  · have nd := scExcesses.nd
    refine ⟨_, pss_one (ps_ret (pe_lc (own := [("mark", 1)]) rfl nd (pi_range1 (by rfl) T.range (pa_cons (pe_k (by rfl) T.cMarks) pa_nil)) (blkOk_by (N := ["pieces", "mark"]) (sc := defScope (topS 20)) (by decide +kernel))
        (fun _ _ _ _ _ => by exact pgl (i := 1) nd rfl rfl) (fun _ _ _ _ _ => pts_nil)
        (fun _ _ _ _ _ => by exact pe_op op_sub (pe_c c1 hr (by decide) (by rfl) (pa_cons (pv 0) (pa_cons (pv 1) pa_nil))) (pe_c c2 hr (by decide) (by rfl) (pa_cons (pv 0) (pa_cons (pv 1) pa_nil)))))), ?_⟩
    obtain ⟨a, f, rfl, hp, gf, k⟩ := h
    refine ⟨6, rfl, by decide, by decide, fun L nL => ?_⟩
    refine lc_fm walk_range0 (List.range 6) rfl nL (by decide) (fun H' s => trivial) (fun _ => true) (fun m => (beginCount f m : Int) - (endCount f m : Int)) (fun _ v n => v = V.int n) (st_flat _) ?_ ?_
    · rintro i x m H1 H2 Nx ey s1 ⟨rfl, rfl⟩ _ skip fin
      obtain ⟨rfl, hi⟩ := getElem_range ey
      refine ⟨rfl, lcYes ?_⟩
      refine ⟨_, rfl, _, rfl, a, f, m, rfl, hp.same s1, gf.len, fun H3 s3 => ⟨_, rfl, _, rfl, a, f, m, rfl, hp.same (s1.trans s3), gf.len, fun H4 s4 => ⟨_, _, rfl, rfl, ?_⟩⟩⟩
      exact fin H4 _ (s3.trans s4) rfl rfl
    · intro H' out s1 ho po
      refine k H' L s1 nL ?_
      rw [paired_ints po] at ho
      rw [ho]
      congr 2
theorem scUsed : FnScope ["pieces", "mark"] ["pieces"] (defScope (topS 21)) := ⟨rfl, rfl, rfl, by decide +kernel, rfl, by decide +kernel, by decide +kernel⟩
theorem ok_used (D : DefAt K mg "used_marks" (topS 21)) (T : Txt mg) (c1 : Cal P w K mg base 1 "begin_count" (spCount beginCount)) (c2 : Cal P w K mg base 1 "end_count" (spCount endCount)) :
    Cal P w K mg base 2 "used_marks" (spMade fun f => (usedMarks f).map nV) := by
  refine mk_cal D scUsed (fun _ _ _ _ _ _ us hl => match us, hl with | [_], _ => rfl) (fun vs H Q E h => ?_) (fun fa cdv A outer s H vs Q E hr h => ?_)
  · obtain ⟨a, f, rfl, _⟩ := h
    rfl
  · have nd := scUsed.nd
    refine ⟨_, pss_one (ps_ret (pe_lc (own := [("mark", 1)]) rfl nd (pi_range1 (by rfl) T.range (pa_cons (pe_k (by rfl) T.cMarks) pa_nil)) (blkOk_by (N := ["pieces", "mark"]) (sc := defScope (topS 21)) (by decide +kernel))
        (fun _ _ _ _ _ => by exact pgl (i := 1) nd rfl rfl)
        (fun _ _ _ _ _ => by exact pts_one (pt_cmpR op_gt (pe_op op_add (pe_c c1 hr (by decide) (by rfl) (pa_cons (pv 0) (pa_cons (pv 1) pa_nil))) (pe_c c2 hr (by decide) (by rfl) (pa_cons (pv 0) (pa_cons (pv 1) pa_nil)))) pe_int (nomark _)))
        (fun _ _ _ _ _ => by exact pv 1))), ?_⟩
    obtain ⟨a, f, rfl, hp, gf, k⟩ := h
    refine ⟨6, rfl, by decide, by decide, fun L nL => ?_⟩
    refine lc_fm walk_range0 (List.range 6) rfl nL (by decide) (fun H' s => trivial) (fun m => decide (0 < beginCount f m + endCount f m)) id (fun _ v n => v = nV n) (st_flat _) ?_ ?_
    · rintro i x m H1 H2 Nx ey s1 ⟨rfl, rfl⟩ _ skip fin
      obtain ⟨rfl, hi⟩ := getElem_range ey
      refine ⟨rfl, ?_⟩
      refine ⟨_, rfl, _, rfl, a, f, m, rfl, hp.same s1, gf.len, fun H3 s3 => ⟨_, rfl, _, rfl, a, f, m, rfl, hp.same (s1.trans s3), gf.len, fun H4 s4 => ⟨_, _, rfl, rfl, _, _, rfl, rfl, _, rfl, ?_⟩⟩⟩
      refine ite2 (fun c => ⟨_, rfl, ?_⟩) (fun c => ?_)
      · refine fin H4 _ (s3.trans s4) rfl (decide_eq_true ?_)
        have := of_decide_eq_true c
        omega
      · refine skip H4 (s3.trans s4) (decide_eq_false fun q => c (decide_eq_true ?_))
        omega
    · intro H' out s1 ho po
      refine k H' L s1 nL ?_
      rw [List.map_id] at po
      rw [paired_nats po] at ho
      exact ho
end
end BB
set_option Elab.async false
set_option maxRecDepth 100000
set_option maxHeartbeats 2000000
set_option linter.all false
namespace BB
open PySem PySem.Spec PyProof.Rows L2
open Sr115 (Piece Floor pieceAt)
section
variable {P : Program} {w : World} {K : PySem.W.Frag} {mg : Str → Option Value} {base : Heap}
theorem rgV_nat (n : Nat) : rgV 0 (n : Int) = (List.range n).map nV := by
  unfold rgV
  have e : ((n : Int) - 0).toNat = n := by omega
  rw [e]
  refine List.map_congr_left fun i _ => ?_
  exact congrArg V.int (Int.zero_add _)
theorem map_get {α : Type} {g : α → V} {l : List α} {i : Nat} {x : α} (h : l[i]? = some x) : (l.map g)[i]? = some (g x) := by
  rw [List.getElem?_map, h]
  rfl
theorem getD_some {l : List Nat} {i : Nat} (h : i < l.length) : l[i]? = some (l.getD i 0) := by
  rw [List.getD_eq_getElem?_getD, List.getElem?_eq_getElem h]
  rfl
theorem ixN_of {n j : Nat} (h : j < n) : ixN n (j : Int) = some j := by
  unfold ixN
  rw [if_pos (by omega), if_pos (by omega)]
  simp
theorem nV_min (a b : Nat) : V.int (if (b : Int) < (a : Int) then (b : Int) else (a : Int)) = nV (min a b) := by
  by_cases h : b < a
  · rw [if_pos (by omega), Nat.min_eq_right (by omega)]
  · rw [if_neg (by omega), Nat.min_eq_left (by omega)]
theorem relax_fold_length (l : List Piece) : ∀ names : List Nat, (l.foldl relax names).length = names.length := by
  induction l with
  | nil => intro names; rfl
  | cons p l ih =>
    intro names
    rw [List.foldl_cons, ih]
    unfold relax
    rw [List.length_set, List.length_set]
theorem namesAt_length (f : Floor) : ∀ n, (namesAt f n).length = 6
  | 0 => List.length_range
  | n + 1 => (relax_fold_length f _).trans (namesAt_length f n)
theorem map_set_nV (l : List Nat) (i v : Nat) : (l.map nV).set i (nV v) = (l.set i v).map nV := by
  rw [List.map_set]
/-! ### component_names -/
theorem scNames : FnScope ["pieces", "names", "turn", "left", "right", "smaller"] ["pieces"] (defScope (topS 22)) := ⟨rfl, rfl, rfl, by decide +kernel, rfl, by decide +kernel, by decide +kernel⟩
theorem ok_names (D : DefAt K mg "component_names" (topS 22)) (T : Txt mg) : Cal P w K mg base 1 "component_names" (spMade fun f => (componentNames f).map nV) := by
  refine mk_cal D scNames (fun _ _ _ _ _ _ us hl => match us, hl with | [_], _ => rfl) (fun vs H Q E h => ?_) (fun fa cdv A outer s H vs Q E hr h => ?_)
  · obtain ⟨a, f, rfl, _⟩ := h
    rfl
  · have nd := scNames.nd
    refine ⟨_, pss_cons (ps_set (i := 1) nd rfl (Or.inl rfl) (pe_listRg rfl (by rfl) T.list (prg_1 (by rfl) T.range (pe_k (by rfl) T.cMarks))))
      (pss_cons (ps_for PassesOwn.never rfl (pi_range1 (by rfl) T.range (pa_cons (pe_k (by rfl) T.cMarks) pa_nil)) (pgl (i := 2) nd rfl rfl)
        (pss_one (ps_for PassesOwn.never rfl (pi_list (pv 0)) (pg_two (K := K) (i := 3) (j := 4) rfl rfl nd rfl rfl rfl rfl)
          (pss_cons (ps_set (i := 5) nd rfl (Or.inl rfl) (pe_callB (call_min2 rfl) (by rfl) T.min bb_min (pa_cons (pe_ix ix_list (pv 1) (pv 3) (fun _ _ => rfl)) (pa_cons (pe_ix ix_list (pv 1) (pv 4) (fun _ _ => rfl)) pa_nil))))
          (pss_cons (ps_asg (pv 5) (pg_sub (pv 1) (pv 3) set_list))
          (pss_one (ps_asg (pv 5) (pg_sub (pv 1) (pv 4) set_list))))))))
      (pss_one (ps_ret (pv 1)))), ?_⟩
    obtain ⟨a, f, rfl, hp, gf, k⟩ := h
    obtain ⟨xs, hx, px⟩ := id hp
    refine ⟨6, rfl, RgOk.of_le (by decide) (by decide) (by decide) (by decide), fun L nL => ?_⟩
    refine ⟨6, rfl, by decide, by decide, ?_⟩
    refine for_it walk_range0 (fun i σ H' => ∃ v2 v3 v4 v5, σ = [some (.ref a), some (.ref L), v2, v3, v4, v5] ∧ Same H H' ∧ H' L = some (.lst ((namesAt f i).map nV)))
      ⟨none, none, none, none, rfl, same_new nL, by rw [upd_same]; exact congrArg (fun l => some (HO.lst l)) (rgV_nat 6)⟩ (fun _ _ _ _ _ => trivial) ?_ ?_
    · rintro i x σ H1 H2 hi ⟨v2, v3, v4, v5, rfl, s1, e1⟩ ⟨rfl, rfl⟩
      refine ⟨_, rfl, a, rfl, ⟨xs, SqL.of (s1 _ _ hx)⟩, ?_⟩
      refine for_it walk_list (fun j σ H' => ∃ v2 v3 v4 v5, σ = [some (.ref a), some (.ref L), v2, v3, v4, v5] ∧ Same H H' ∧ H' L = some (.lst (((f.take j).foldl relax (namesAt f i)).map nV)))
        ⟨_, _, _, _, rfl, s1, e1⟩ (fun j σ H' _ ⟨_, _, _, _, _, s3, _⟩ => SqL.of (s3 _ _ hx)) ?_ ?_
      · rintro j x σ H3 H4 hj ⟨v2, v3, v4, v5, rfl, s3, e3⟩ ⟨rfl, ex⟩
        obtain ⟨p, ep, t, rfl, ht⟩ := paired_get px ex
        have hm := gf.marks p (List.mem_of_getElem? ep)
        have hlen : ((f.take j).foldl relax (namesAt f i)).length = 6 := (relax_fold_length _ _).trans (namesAt_length f i)
        refine ⟨t, _, rfl, SqT.of (s3 _ _ ht), rfl, _, _, rfl, _, _, rfl, rfl, ?_⟩
        -- smaller
        refine ⟨_, rfl, _, rfl, L, _, _, _, rfl, rfl, SqL.of e3, atI_nat (map_get (getD_some (by rw [hlen]; exact hm.1))), ?_⟩
        refine ⟨_, rfl, _, rfl, L, _, _, _, rfl, rfl, SqL.of e3, atI_nat (map_get (getD_some (by rw [hlen]; exact hm.2))), ?_⟩
        refine ⟨_, _, rfl, ?_⟩
        rw [nV_min]
        -- the two stores
        refine ⟨_, rfl, _, rfl, _, rfl, L, _, _, _, rfl, rfl, e3, ixN_of (by rw [List.length_map, hlen]; exact hm.1), ?_⟩
        rw [map_set_nV]
        refine ⟨_, rfl, _, rfl, _, rfl, L, _, _, _, rfl, rfl, upd_same, ixN_of (by rw [List.length_map, List.length_set, hlen]; exact hm.2), ?_⟩
        rw [map_set_nV, upd_upd]
        refine ⟨_, _, _, _, rfl, same_old s3 nL, ?_⟩
        rw [upd_same, take_more ep, List.foldl_append]
        rfl
      · rintro σ H3 ⟨v2, v3, v4, v5, rfl, s3, e3⟩
        rw [px.length, List.take_length] at e3
        exact ⟨_, _, _, _, rfl, s3, e3⟩
    · rintro σ H1 ⟨v2, v3, v4, v5, rfl, s1, e1⟩
      exact ⟨_, rfl, k H1 L s1 nL e1⟩
/-! ### component_list -/
theorem scComps : FnScope ["pieces", "names", "mark"] ["pieces"] (defScope (topS 23)) := ⟨rfl, rfl, rfl, by decide +kernel, rfl, by decide +kernel, by decide +kernel⟩
theorem ok_comps (D : DefAt K mg "component_list" (topS 23)) (c1 : Cal P w K mg base 1 "component_names" (spMade fun f => (componentNames f).map nV))
    (c2 : Cal P w K mg base 2 "used_marks" (spMade fun f => (usedMarks f).map nV)) : Cal P w K mg base 3 "component_list" (spMade fun f => (componentList f).map nV) := by
  refine mk_cal D scComps (fun _ _ _ _ _ _ us hl => match us, hl with | [_], _ => rfl) (fun vs H Q E h => ?_) (fun fa cdv A outer s H vs Q E hr h => ?_)
  · obtain ⟨a, f, rfl, _⟩ := h
    rfl
  · have nd := scComps.nd
    refine ⟨_, pss_cons (ps_set (i := 1) nd rfl (Or.inr rfl) (pe_c c1 hr (by decide) (by rfl) (pa_cons (pv 0) pa_nil)))
      (pss_one (ps_ret (pe_lc (own := [("mark", 2)]) (tt := tTest (tOp rEq (tOp (rIxL K) (tVar 1) (tVar 2)) (tVar 2))) (te := tVar 2) rfl nd (pi_list (pe_c c2 hr (by decide) (by rfl) (pa_cons (pv 0) pa_nil))) (blkOk_by (N := ["pieces", "names", "mark"]) (sc := defScope (topS 23)) (by decide +kernel))
        (fun _ _ _ _ _ => by exact pgl (i := 2) nd rfl rfl)
        (fun _ _ _ _ _ => by exact pts_one (pt_cmpR op_eq (pe_ix ix_list (pv 1) (pv 2) (fun _ _ => rfl)) (pv 2) (nomark _)))
        (fun _ _ _ _ _ => by exact pv 2)))), ?_⟩
    obtain ⟨a, f, rfl, hp, gf, k⟩ := h
    refine ⟨_, rfl, a, f, rfl, hp, gf, fun H1 p1 s1 n1 e1 => ?_⟩
    refine ⟨_, rfl, a, f, rfl, hp.same s1, gf, fun H2 p2 s2 n2 e2 => ?_⟩
    refine ⟨p2, rfl, ⟨_, SqL.of e2⟩, fun L nL => ?_⟩
    have len := used_length f
    refine lc_fm walk_list (usedMarks f) (by rw [List.length_map]) nL (by rw [List.length_map]; exact bigLine (by omega)) (fun H' s => SqL.of (s _ _ e2)) (fun m => (componentNames f).getD m 0 == m) id (fun _ v n => v = nV n) (st_flat _) ?_ ?_
    · rintro i x m H3 H4 Nx ey s3 ⟨rfl, ex⟩ _ skip fin
      rw [map_get ey] at ex
      cases ex
      refine ⟨rfl, ?_⟩
      have hm := used_lt (List.mem_of_getElem? ey)
      refine ⟨_, rfl, _, rfl, p1, _, _, _, rfl, rfl, SqL.of (s3 _ _ (s2 _ _ e1)), atI_nat (map_get (getD_some (by rw [componentNames, namesAt_length]; exact hm))), ?_⟩
      refine ⟨_, rfl, rfl, _, rfl, ?_⟩
      refine ite2 (fun c => ⟨_, rfl, fin _ _ (Same.refl _) rfl (beq_iff_eq.mpr (dec_nV.mp c))⟩) (fun c => skip _ (Same.refl _) ?_)
      exact beq_eq_false_iff_ne.mpr fun e => c (dec_nV.mpr e)
    · intro H' out s3 ho po
      refine k H' L (s1.trans (s2.trans s3)) (s1.free (s2.free nL)) ?_
      rw [List.map_id] at po
      rw [paired_nats po] at ho
      exact ho
/-! ### positive_excess -/
theorem nV_max (a : Nat) (b : Int) : (if b > (a : Int) then b else (a : Int)) = max (a : Int) b := by
  by_cases h : b > (a : Int)
  · rw [if_pos h]; omega
  · rw [if_neg h]; omega
def spPos : Sp := fun vs H Q _ => ∃ a f c, vs = [.ref a, nV c] ∧ Pcs H a f ∧ Good f ∧ ∀ H', Same H H' → Q (.int (positiveExcess f c)) H'
theorem scPos : FnScope ["pieces", "component", "names", "mark", "excess"] ["pieces", "component"] (defScope (topS 24)) := ⟨rfl, rfl, rfl, by decide +kernel, rfl, by decide +kernel, by decide +kernel⟩
theorem ok_pos (D : DefAt K mg "positive_excess" (topS 24)) (T : Txt mg) (c1 : Cal P w K mg base 1 "component_names" (spMade fun f => (componentNames f).map nV))
    (c2 : Cal P w K mg base 2 "all_excesses" (spMade fun f => (allExcesses f).map V.int)) : Cal P w K mg base 3 "positive_excess" spPos := by
  refine mk_cal D scPos (fun _ _ _ _ _ _ us hl => match us, hl with | [_, _], _ => rfl) (fun vs H Q E h => ?_) (fun fa cdv A outer s H vs Q E hr h => ?_)
  · obtain ⟨a, f, c, rfl, _⟩ := h
    rfl
  · have nd := scPos.nd
    refine ⟨_, pss_cons (ps_set (i := 2) nd rfl (Or.inr rfl) (pe_c c1 hr (by decide) (by rfl) (pa_cons (pv 0) pa_nil)))
      (pss_one (ps_ret (pe_callB (cr_sum rfl) (by rfl) T.sum bb_sum (pa_cons (pe_lc (own := [("mark", 3), ("excess", 4)]) (tt := tTest (tOp rEq (tOp (rIxL K) (tVar 2) (tVar 3)) (tVar 1))) rfl nd
          (pi_enum (by rfl) T.enumerate (pa_cons (pe_c c2 hr (by decide) (by rfl) (pa_cons (pv 0) pa_nil)) pa_nil)) (blkOk_by (N := ["pieces", "component", "names", "mark", "excess"]) (sc := defScope (topS 24)) (by decide +kernel))
        (fun _ _ _ _ _ => by exact pg_two (K := K) (i := 3) (j := 4) rfl rfl nd rfl rfl rfl rfl)
        (fun _ _ _ _ _ => by exact pts_one (pt_cmpR op_eq (pe_ix ix_list (pv 2) (pv 3) (fun _ _ => rfl)) (pv 1) (nomark _)))
        (fun _ _ _ _ _ => by exact pe_callB (call_max2 rfl) (by rfl) T.max bb_max (pa_cons pe_int (pa_cons (pv 4) pa_nil)))) pa_nil)))), ?_⟩
    obtain ⟨a, f, c, rfl, hp, gf, k⟩ := h
    refine ⟨_, rfl, a, f, rfl, hp, gf, fun H1 p1 s1 n1 e1 => ?_⟩
    refine ⟨_, rfl, a, f, rfl, hp.same s1, gf, fun H2 p2 s2 n2 e2 => ?_⟩
    refine ⟨p2, _, rfl, SqL.of e2, fun L nL => ?_⟩
    have l6 : (allExcesses f).length = 6 := by unfold allExcesses; rw [List.length_map, List.length_range]
    refine lc_fm walk_enum (List.range 6) (by rw [List.length_range, List.length_map, l6]) nL (by rw [List.length_map, l6]; decide) (fun H' s => SqL.of (s _ _ e2)) (fun m => (componentNames f).getD m 0 == c)
      (fun m => max 0 ((beginCount f m : Int) - (endCount f m : Int))) (fun _ v n => v = V.int n) (st_flat _) ?_ ?_
    · rintro i x m H3 H4 Nx ey s3 ⟨t, v1, v2, rfl, nt, rfl, e4, e5⟩ _ skip fin
      obtain ⟨rfl, hi⟩ := getElem_range ey
      cases e4
      have e6 : (allExcesses f)[m]? = some ((beginCount f m : Int) - (endCount f m : Int)) := by
        unfold allExcesses
        rw [List.getElem?_map, List.getElem?_range hi]
        rfl
      have e5' : v2 = V.int ((beginCount f m : Int) - (endCount f m : Int)) := by
        have e7 : ((allExcesses f).map V.int)[m]? = some v2 := e5
        rw [map_get e6] at e7
        exact (Option.some.inj e7).symm
      subst e5'
      have st : Same H3 (upd H3 t (.tup [.int (m : Nat), V.int ((beginCount f m : Int) - (endCount f m : Int))])) := same_new nt
      refine ⟨t, _, rfl, SqT.of upd_same, rfl, _, _, rfl, _, _, rfl, rfl, rfl, ?_⟩
      refine ⟨_, rfl, _, rfl, p1, _, _, _, rfl, rfl, SqL.of (st _ _ (s3 _ _ (s2 _ _ e1))), atI_nat (map_get (getD_some (by rw [componentNames, namesAt_length]; exact hi))), ?_⟩
      refine ⟨_, rfl, rfl, _, rfl, ?_⟩
      refine ite2 (fun c' => ?_) (fun c' => skip _ st (beq_eq_false_iff_ne.mpr fun e => c' (dec_nV.mpr e)))
      refine ⟨_, rfl, _, _, rfl, ?_⟩
      exact fin _ _ st (congrArg V.int (nV_max 0 _)) (beq_iff_eq.mpr (dec_nV.mp c'))
    · intro H' out s3 ho po
      rw [paired_ints po] at ho
      exact ⟨L, _, rfl, SqL.of ho, k H' (s1.trans (s2.trans s3))⟩
/-! ### fewest_chains -/
def spFewest : Sp := fun vs H Q _ => ∃ a f, vs = [.ref a] ∧ Pcs H a f ∧ Good f ∧ ∀ H', Same H H' → Q (.int (fewestChains f)) H'
theorem scFewest : FnScope ["pieces", "component"] ["pieces"] (defScope (topS 25)) := ⟨rfl, rfl, rfl, by decide +kernel, rfl, by decide +kernel, by decide +kernel⟩
theorem ok_fewest (D : DefAt K mg "fewest_chains" (topS 25)) (T : Txt mg) (c1 : Cal P w K mg base 3 "component_list" (spMade fun f => (componentList f).map nV))
    (c2 : Cal P w K mg base 3 "positive_excess" spPos) : Cal P w K mg base 4 "fewest_chains" spFewest := by
  refine mk_cal D scFewest (fun _ _ _ _ _ _ us hl => match us, hl with | [_], _ => rfl) (fun vs H Q E h => ?_) (fun fa cdv A outer s H vs Q E hr h => ?_)
  · obtain ⟨a, f, rfl, _⟩ := h
    rfl
  · have nd := scFewest.nd
    refine ⟨_, pss_one (ps_ret (pe_callB (cr_sum rfl) (by rfl) T.sum bb_sum (pa_cons (pe_lc (own := [("component", 1)]) rfl nd
          (pi_list (pe_c c1 hr (by decide) (by rfl) (pa_cons (pv 0) pa_nil))) (blkOk_by (N := ["pieces", "component"]) (sc := defScope (topS 25)) (by decide +kernel))
        (fun _ _ _ _ _ => by exact pgl (i := 1) nd rfl rfl) (fun _ _ _ _ _ => pts_nil)
        (fun _ _ _ _ _ => by exact pe_callB (call_max2 rfl) (by rfl) T.max bb_max (pa_cons pe_int (pa_cons (pe_c c2 hr (by decide) (by rfl) (pa_cons (pv 0) (pa_cons (pv 1) pa_nil))) pa_nil)))) pa_nil))), ?_⟩
    obtain ⟨a, f, rfl, hp, gf, k⟩ := h
    refine ⟨_, rfl, a, f, rfl, hp, gf, fun H1 p1 s1 n1 e1 => ?_⟩
    refine ⟨p1, rfl, ⟨_, SqL.of e1⟩, fun L nL => ?_⟩
    have len := used_length f
    have len2 : (componentList f).length ≤ 6 := Nat.le_trans (List.length_filter_le _ _) len
    refine lc_fm walk_list (componentList f) (by rw [List.length_map]) nL (by rw [List.length_map]; exact bigLine (by omega)) (fun H' s => SqL.of (s _ _ e1)) (fun m => true) (fun c => max 1 (positiveExcess f c)) (fun _ v n => v = V.int n) (st_flat _) ?_ ?_
    · rintro i x m H3 H4 Nx ey s3 ⟨rfl, ex⟩ _ skip fin
      rw [map_get ey] at ex
      cases ex
      refine ⟨rfl, lcYes ?_⟩
      refine ⟨_, rfl, _, rfl, a, f, m, rfl, hp.same (s1.trans s3), gf, fun H5 s5 => ⟨_, _, rfl, ?_⟩⟩
      exact fin _ _ s5 (congrArg V.int (nV_max 1 _)) rfl
    · intro H' out s3 ho po
      rw [paired_ints po] at ho
      refine ⟨L, _, rfl, SqL.of ho, ?_⟩
      have q := k H' (s1.trans s3)
      unfold fewestChains at q
      have e : (componentList f).filter (fun _ => true) = componentList f := List.filter_eq_self.mpr fun _ _ => rfl
      rw [e]
      exact q
end
end BB
set_option Elab.async false
set_option maxRecDepth 100000
set_option maxHeartbeats 2000000
set_option linter.all false
namespace BB
open PySem PySem.Spec PyProof.Rows L2
open Sr115 (Piece Floor pieceAt)
/-! ### data for == -/
theorem dp_ints {K : PySem.W.Frag} {H : Hp} : ∀ ns : List Int, DpAll K H (ns.map V.int) (ns.map PyData.int)
  | [] => .nil
  | n :: ns => .cons (.int n) (dp_ints ns)
theorem lay_ints : ∀ ns : List Int, PyData.canLayAll0 (ns.map PyData.int) = true ∧ PyData.depthAll (ns.map PyData.int) = 0
  | [] => ⟨by simp only [List.map_nil, PyData.canLayAll0], by simp only [List.map_nil, PyData.depthAll]⟩
  | n :: ns => by
    obtain ⟨h1, h2⟩ := lay_ints ns
    refine ⟨?_, ?_⟩
    · simp only [List.map_cons, PyData.canLayAll0, PyData.canLay0, h1, Bool.and_self]
    · simp only [List.map_cons, PyData.depthAll, PyData.depth, h2, Nat.max_self]
theorem eqv_ints : ∀ ns ms : List Int, PyData.eqvAll (ns.map PyData.int) (ms.map PyData.int) = decide (ns = ms)
  | [], [] => by simp [PyData.eqvAll]
  | [], m :: ms => by simp [PyData.eqvAll]
  | n :: ns, [] => by simp [PyData.eqvAll]
  | n :: ns, m :: ms => by
    simp only [List.map_cons, PyData.eqvAll, PyData.eqv, eqv_ints ns ms]
    rw [Bool.eq_iff_iff]
    simp
theorem eqv_nil : ∀ ds : List PyData, PyData.eqvAll ds [] = ds.isEmpty
  | [] => by simp [PyData.eqvAll]
  | d :: ds => by simp [PyData.eqvAll]
theorem shaped_list {ds : List PyData} (h : PyData.canLayAll0 ds = true) (h' : PyData.depthAll ds ≤ 63) : SeqAt.shaped (.list ds) = true := by
  unfold SeqAt.shaped
  rw [Bool.and_eq_true, decide_eq_true_eq]
  refine ⟨?_, ?_⟩
  · simpa only [PyData.canLay0] using h
  · simp only [PyData.depth]; omega
theorem shaped_tuple {ds : List PyData} (h : PyData.canLayAll0 ds = true) (h' : PyData.depthAll ds ≤ 63) : SeqAt.shaped (.tuple ds) = true := by
  unfold SeqAt.shaped
  rw [Bool.and_eq_true, decide_eq_true_eq]
  refine ⟨?_, ?_⟩
  · simpa only [PyData.canLay0] using h
  · simp only [PyData.depth]; omega
theorem eqv_list (xs ys : List PyData) : PyData.eqv (.list xs) (.list ys) = PyData.eqvAll xs ys := by simp only [PyData.eqv]
theorem eqv_tuple (xs ys : List PyData) : PyData.eqv (.tuple xs) (.tuple ys) = PyData.eqvAll xs ys := by simp only [PyData.eqv]
def pcD (p : Piece) : PyData := .tuple [.int (p.left : Int), .int (p.right : Int)]
theorem dp_pcs {K : PySem.W.Frag} {H : Hp} : ∀ {xs : List V} {f : Floor}, Paired (IsPc H) xs f → DpAll K H xs (f.map pcD)
  | _, _, .nil => .nil
  | _, _, .cons h t => by
    obtain ⟨q, rfl, e⟩ := h
    exact .cons (.tup (SqT.of e) (.cons (.int _) (.cons (.int _) .nil))) (dp_pcs t)
theorem lay_pcs : ∀ f : Floor, PyData.canLayAll0 (f.map pcD) = true ∧ PyData.depthAll (f.map pcD) ≤ 1
  | [] => ⟨by simp only [List.map_nil, PyData.canLayAll0], by simp only [List.map_nil, PyData.depthAll]; omega⟩
  | p :: f => by
    obtain ⟨h1, h2⟩ := lay_pcs f
    refine ⟨?_, ?_⟩
    · simp only [List.map_cons, pcD, PyData.canLayAll0, PyData.canLay0, h1, Bool.and_self]
    · simp only [List.map_cons, pcD, PyData.depthAll, PyData.depth]
      have : PyData.depthAll (f.map pcD) ≤ 1 := h2
      show max _ (PyData.depthAll (f.map pcD)) ≤ 1
      simp only [Nat.max_self]
      omega
theorem map_nV (c : List Nat) : c.map nV = (c.map fun (i : Nat) => (i : Int)).map V.int := by rw [List.map_map]; rfl
/-- rows == [] of the pieces -/
theorem eq_pcs_nil {K : PySem.W.Frag} {H : Hp} {a b : Addr} {f : Floor} {Q : VK} (hp : Pcs H a f) (hb : H b = some (.lst [])) (q : Q (.bl (decide (f = []))) H) : rEqD K (.ref a) (.ref b) H Q := by
  obtain ⟨xs, hx, px⟩ := hp
  refine ⟨.list (f.map pcD), .list [], .lst (SqL.of hx) (dp_pcs px), .lst (SqL.of hb) .nil, shaped_list (lay_pcs f).1 (Nat.le_trans (lay_pcs f).2 (by decide)), by decide +kernel, ?_⟩
  have e : PyData.eqv (.list (f.map pcD)) (.list []) = decide (f = []) := by
    rw [eqv_list, eqv_nil]
    cases f <;> simp
  rw [e]
  exact q
/-- == of two lists of whole numbers -/
theorem eq_ints_ok {K : PySem.W.Frag} {H : Hp} {a b : Addr} {ns ms : List Int} {Q : VK} (ha : SqL K H a (ns.map V.int)) (hb : SqL K H b (ms.map V.int)) (q : Q (.bl (decide (ns = ms))) H) : rEqD K (.ref a) (.ref b) H Q := by
  refine ⟨.list (ns.map .int), .list (ms.map .int), .lst ha (dp_ints ns), .lst hb (dp_ints ms), shaped_list (lay_ints ns).1 (by rw [(lay_ints ns).2]; decide), shaped_list (lay_ints ms).1 (by rw [(lay_ints ms).2]; decide), ?_⟩
  rw [eqv_list, eqv_ints]
  exact q
theorem ne_ints_ok {K : PySem.W.Frag} {H : Hp} {a b : Addr} {ns ms : List Int} {Q : VK} (ha : SqL K H a (ns.map V.int)) (hb : SqL K H b (ms.map V.int)) (q : Q (.bl (!decide (ns = ms))) H) : rNeD K (.ref a) (.ref b) H Q := by
  refine ⟨.list (ns.map .int), .list (ms.map .int), .lst ha (dp_ints ns), .lst hb (dp_ints ms), shaped_list (lay_ints ns).1 (by rw [(lay_ints ns).2]; decide), shaped_list (lay_ints ms).1 (by rw [(lay_ints ms).2]; decide), ?_⟩
  rw [eqv_list, eqv_ints]
  exact q
theorem eq_tups_ok {K : PySem.W.Frag} {H : Hp} {a b : Addr} {ns ms : List Int} {Q : VK} (ha : SqT K H a (ns.map V.int)) (hb : SqT K H b (ms.map V.int)) (q : Q (.bl (decide (ns = ms))) H) : rEqD K (.ref a) (.ref b) H Q := by
  refine ⟨.tuple (ns.map .int), .tuple (ms.map .int), .tup ha (dp_ints ns), .tup hb (dp_ints ms), shaped_tuple (lay_ints ns).1 (by rw [(lay_ints ns).2]; decide), shaped_tuple (lay_ints ms).1 (by rw [(lay_ints ms).2]; decide), ?_⟩
  rw [eqv_tuple, eqv_ints]
  exact q
theorem inV_nV (i : Nat) (c : List Nat) : inV (nV i) (c.map nV) = c.contains i := by
  unfold inV
  rw [List.any_map, Bool.eq_iff_iff, List.any_eq_true, List.contains_iff_mem]
  constructor
  · rintro ⟨x, hx, e⟩
    have e : ((x : Int) == (i : Int)) = true := e
    rw [beq_iff_eq] at e
    have : x = i := by omega
    rw [← this]
    exact hx
  · intro h
    exact ⟨i, h, show ((i : Int) == (i : Int)) = true from beq_self_eq_true _⟩
theorem flat_nV (c : List Nat) : (c.map nV).all flatV = true := by
  rw [List.all_map, List.all_eq_true]
  intro _ _
  rfl
theorem atI_last' {c : List Nat} (h : c ≠ []) : atI (c.map nV) (-1) = some (nV (c.getLastD 0)) := by
  have e : c = c.dropLast ++ [c.getLastD 0] := by
    rw [List.getLastD_eq_getLast?, List.getLast?_eq_some_getLast h]
    exact (List.dropLast_concat_getLast h).symm
  rw [e, List.map_append]
  have e2 : (c.dropLast ++ [c.getLastD 0]).getLastD 0 = c.getLastD 0 := by simp
  rw [e2]
  exact atI_last _ _
section
variable {P : Program} {w : World} {K : PySem.W.Frag} {mg : Str → Option Value} {base : Heap}
/-! ### can_follow -/
def spFollow : Sp := fun vs H Q _ => ∃ a t f c i, vs = [.ref a, .ref t, nV i] ∧ Pcs H a f ∧ H t = some (.tup (c.map nV)) ∧ (∀ j ∈ c, j < f.length) ∧ i < f.length ∧ ∀ H', Same H H' → Q (.bl (canFollow f c i)) H'
theorem scFollow : FnScope ["pieces", "chain", "index"] ["pieces", "chain", "index"] (defScope (topS 1)) := ⟨rfl, rfl, rfl, by decide +kernel, rfl, by decide +kernel, by decide +kernel⟩
theorem ok_follow (D : DefAt K mg "can_follow" (topS 1)) : Cal P w K mg base 1 "can_follow" spFollow := by
  refine mk_cal D scFollow (fun _ _ _ _ _ _ us hl => match us, hl with | [_, _, _], _ => rfl) (fun vs H Q E h => ?_) (fun fa cdv A outer s H vs Q E hr h => ?_)
  · obtain ⟨a, t, f, c, i, rfl, _⟩ := h
    rfl
  · refine ⟨_, pss_cons (ps_if (pt_cmpR op_in_seq (pv 2) (pv 1) (by rfl)) (pss_one (ps_ret pe_bl)) pss_nil)
      (pss_one (ps_ret (pe_or (pe_cmpR (op_eqD hr.units) (pv 1) (pe_tup pa_nil) (nomark _))
        (pe_one (pe_cmpR op_eq (pe_ix ix_tup (pe_ix ix_list (pv 0) (pe_ix ix_tup (pv 1) (pe_un un_neg pe_int) (fun _ _ => rfl)) (fun _ _ => rfl)) pe_int (fun _ _ => rfl))
          (pe_ix ix_tup (pe_ix ix_list (pv 0) (pv 2) (fun _ _ => rfl)) pe_int (fun _ _ => rfl)) (nomark _)))))), ?_⟩
    obtain ⟨a, t, f, c, i, rfl, hp, ht, hc, hi, k⟩ := h
    refine ⟨_, rfl, _, rfl, t, _, rfl, .inr (SqT.of ht), rfl, flat_nV c, _, rfl, ?_⟩
    rw [inV_nV]
    refine ite2 (fun q => ?_) (fun q => ?_)
    · have e : canFollow f c i = false := by
        unfold canFollow
        rw [show c.contains i = true from q]
        rfl
      have r := k H (Same.refl _)
      rw [e] at r
      exact r
    · have q : c.contains i = false := Bool.eq_false_iff.mpr q
      have e : canFollow f c i = (decide (c = []) || (pieceAt f (c.getLastD 0)).right == (pieceAt f i).left) := by
        unfold canFollow
        rw [q]
        rfl
      refine ⟨_, rfl, (by show 0 ≤ sizeLine; exact Nat.zero_le _), fun p np => ?_⟩
      have s1 : Same H (upd H p (.tup [])) := same_new np
      refine eq_tups_ok (ns := c.map fun (j : Nat) => (j : Int)) (ms := []) (by rw [← map_nV]; exact SqT.of (s1 _ _ ht)) (SqT.of upd_same) ?_
      refine ⟨_, rfl, ?_⟩
      have ed : decide ((c.map fun (j : Nat) => (j : Int)) = []) = decide (c = []) := by
        cases c <;> simp
      rw [ed]
      refine ite2 (fun z => ?_) (fun z => ?_)
      · have r := k _ s1
        rw [e, z, Bool.true_or] at r
        exact r
      · have z : ¬ c = [] := fun y => z (decide_eq_true y)
        obtain ⟨xs, hx, px⟩ := hp
        have hl : c.getLastD 0 < f.length := hc _ (by
          rw [List.getLastD_eq_getLast?, List.getLast?_eq_some_getLast z]
          exact List.getLast_mem z)
        obtain ⟨t1, g1, h1⟩ := Pcs.get px hl
        obtain ⟨t2, g2, h2⟩ := Pcs.get px hi
        refine ⟨_, rfl, _, rfl, _, rfl, t, _, _, _, rfl, rfl, SqT.of (s1 _ _ ht), atI_last' z, ?_⟩
        refine ⟨a, _, _, _, rfl, rfl, SqL.of (s1 _ _ hx), atI_nat g1, t1, _, _, _, rfl, rfl, SqT.of (s1 _ _ h1), atI_nat (j := 1) rfl, ?_⟩
        refine ⟨_, rfl, _, rfl, a, _, _, _, rfl, rfl, SqL.of (s1 _ _ hx), atI_nat g2, t2, _, _, _, rfl, rfl, SqT.of (s1 _ _ h2), atI_nat (j := 0) rfl, ?_⟩
        refine ⟨rfl, ?_⟩
        have r := k _ s1
        rw [e, decide_eq_false z, Bool.false_or] at r
        have ee : decide (nV (pieceAt f (c.getLastD 0)).right = nV (pieceAt f i).left) = ((pieceAt f (c.getLastD 0)).right == (pieceAt f i).left) := by
          rw [Bool.eq_iff_iff, dec_nV, beq_iff_eq]
        rw [ee]
        exact r
end
end BB
set_option Elab.async false
set_option maxRecDepth 100000
set_option maxHeartbeats 2000000
set_option linter.all false
namespace BB
open PySem PySem.Spec PyProof.Rows L2
open Sr115 (Piece Floor pieceAt)
section
variable {P : Program} {w : World} {K : PySem.W.Frag} {mg : Str → Option Value} {base : Heap}
theorem longer_append (f : Floor) (a b : List (List Nat)) : longer f (a ++ b) = longer f a ++ longer f b := List.flatMap_append
theorem longer_single (f : Floor) (c : List Nat) : longer f [c] = longerOne f c := longer_one f c
/-- new chains come out -/
def NewCh (H : Hp) (cs : List (List Nat)) (Q : VK) : Prop := ∀ H' p, Same H H' → H p = none → Chs H' p cs → Q (.ref p) H'
/-! ### longer_chains -/
def spLonger : Sp := fun vs H Q _ => ∃ a b f cs, vs = [.ref a, .ref b] ∧ Pcs H a f ∧ f.length ≤ 7 ∧ Chs H b cs ∧ cs.length ≤ 823543 ∧ (∀ c ∈ cs, ∀ j ∈ c, j < f.length) ∧ (∀ c ∈ cs, c.length ≤ 7) ∧ NewCh H (longer f cs) Q
theorem scLonger : FnScope ["pieces", "chains", "found", "chain", "index"] ["pieces", "chains"] (defScope (topS 2)) := ⟨rfl, rfl, rfl, by decide +kernel, rfl, by decide +kernel, by decide +kernel⟩
theorem ok_longer (D : DefAt K mg "longer_chains" (topS 2)) (T : Txt mg) (c1 : Cal P w K mg base 1 "can_follow" spFollow) : Cal P w K mg base 2 "longer_chains" spLonger := by
  refine mk_cal D scLonger (fun _ _ _ _ _ _ us hl => match us, hl with | [_, _], _ => rfl) (fun vs H Q E h => ?_) (fun fa cdv A outer s H vs Q E hr h => ?_)
  · obtain ⟨a, b, f, cs, rfl, _⟩ := h
    rfl
  · have nd := scLonger.nd
    refine ⟨_, pss_cons (ps_set (i := 2) nd rfl (Or.inl rfl) (pe_lst pa_nil))
      (pss_cons (ps_for PassesOwn.never rfl (pi_list (pv 1)) (pg_name (i := 3) nd rfl (Or.inr rfl))
        (pss_one (ps_expr (pe_bm PySem.F.plainAttrs_list PySem.F.slot_list_extend PySem.F.type_list_extend mt_extend (pv 2) (pa_cons
          (pe_lc (own := [("index", 4)]) (te := tOp (rCatA K) (tVar 3) (tTup (tCons (tVar 4) tNil))) rfl nd
            (pi_range1 (by rfl) T.range (pa_cons (pe_callB call_len_seq (by rfl) T.len bb_len (pa_cons (pv 0) pa_nil)) pa_nil)) (blkOk_by (N := ["pieces", "chains", "found", "chain", "index"]) (sc := defScope (topS 2)) (by decide +kernel))
            (fun _ _ _ _ _ => by exact pgl (i := 4) nd rfl rfl)
            (fun _ _ _ _ _ => by exact pts_one (pt_val (pe_c c1 hr (by decide) (by rfl) (pa_cons (pv 0) (pa_cons (pv 3) (pa_cons (pv 4) pa_nil))))))
            (fun _ _ _ _ _ => by exact pe_op op_catA (pv 3) (pe_tup (pa_cons (pv 4) pa_nil)))) pa_nil)))))
      (pss_one (ps_ret (pv 2)))), ?_⟩
    obtain ⟨a, b, f, cs, rfl, hp, hf, ⟨ys, hy, py⟩, hcs, hj, h7, k⟩ := h
    obtain ⟨xs, hx, px⟩ := id hp
    refine ⟨Nat.zero_le _, fun L nL => ?_⟩
    refine ⟨_, rfl, b, rfl, ⟨_, SqL.of (same_new nL _ _ hy)⟩, ?_⟩
    refine for_it walk_list (fun i σ H' => ∃ v3 v4, σ = [some (.ref a), some (.ref b), some (.ref L), v3, v4] ∧ Same H H' ∧ ∃ out, H' L = some (.lst out) ∧ Paired (IsCh H') out (longer f (cs.take i)))
      ⟨none, none, rfl, same_new nL, [], upd_same, .nil⟩ (fun i σ H' _ ⟨_, _, _, s3, _⟩ => SqL.of (s3 _ _ hy)) ?_ ?_
    · rintro i x σ H1 H2 hi ⟨v3, v4, rfl, s1, out, e1, p1⟩ ⟨rfl, ex⟩
      obtain ⟨c, ec, t, rfl, ht⟩ := paired_get py ex
      have hc := List.mem_of_getElem? ec
      have hlen : (longer f (cs.take i)).length ≤ 823543 * 7 := by
        refine Nat.le_trans (longer_length f _) (Nat.mul_le_mul ?_ hf)
        rw [List.length_take]
        omega
      refine ⟨_, rfl, .inl ⟨rfl, _, SqL.of e1⟩, ?_⟩
      refine ⟨_, rfl, a, _, rfl, .inl (SqL.of (s1 _ _ hx)), (xs.length : Int), rfl, by have := px.length; omega, by have := px.length; omega, fun D nD => ?_⟩
      refine lc_fm walk_range0 (List.range f.length) (by rw [List.length_range, px.length]; rfl) nD (by rw [px.length]; exact bigLine (by show ((f.length : Int)).toNat ≤ _; omega)) (fun H' s => trivial) (canFollow f c) (fun i => c ++ [i]) IsCh st_ch ?_ ?_
      · rintro j x m H3 H4 Nx ey s3 ⟨rfl, rfl⟩ _ skip fin
        obtain ⟨rfl, hm⟩ := getElem_range ey
        have s13 := s1.trans s3
        refine ⟨rfl, ?_⟩
        refine ⟨_, rfl, _, rfl, _, rfl, a, t, f, c, m, rfl, hp.same s13, s13 _ _ ht, hj c hc, hm, fun H5 s5 => ⟨_, rfl, ?_⟩⟩
        refine ite2 (fun q => ?_) (fun q => skip H5 s5 (Bool.eq_false_iff.mpr q))
        refine ⟨_, rfl, _, rfl, (by show 1 ≤ sizeLine; exact bigLine (by decide)), fun u nu => ?_⟩
        have s6 : Same H5 (upd H5 u (.tup [nV m])) := same_new nu
        refine ⟨t, u, c.map nV, [nV m], rfl, rfl, SqT.of (s6 _ _ (s5 _ _ (s13 _ _ ht))), SqT.of upd_same, ?_, fun z => ?_, (fun _ z => by cases z), fun z _ r nr => ?_⟩
        · rw [List.length_map]
          have := h7 c hc
          exact bigLine (by show c.length + 1 ≤ _; omega)
        · refine fin _ _ (s5.trans s6) ⟨u, rfl, ?_⟩ q
          have ce : c = [] := List.map_eq_nil_iff.mp z
          rw [ce]
          exact upd_same
        · refine fin _ _ ((s5.trans s6).trans (same_new nr)) ⟨r, rfl, ?_⟩ q
          rw [upd_same, List.map_append]
          rfl
      · intro H3 zs s3 ez pz
        have pz' : Paired (IsCh H3) zs (longerOne f c) := pz
        refine ⟨L, D, out, zs, rfl, rfl, s3 _ _ e1, ez, ?_, ?_⟩
        · have h1 := longerOne_length f c
          rw [p1.length, pz'.length]
          exact bigLine (by omega)
        · refine ⟨_, _, rfl, same_old (s1.trans s3) nL, out ++ zs, upd_same, ?_⟩
          rw [take_more ec, longer_append, longer_single]
          have k3 : Kp L H3 (upd H3 L (.lst (out ++ zs))) := kp_upd
          exact paired_append (p1.mono fun _ _ z => (z.same s3).kp (s3 _ _ e1) k3) (pz'.mono fun _ _ z => z.kp (s3 _ _ e1) k3)
    · rintro σ H1 ⟨v3, v4, rfl, s1, out, e1, p1⟩
      rw [py.length, List.take_length] at p1
      exact ⟨_, rfl, k H1 L s1 nL ⟨out, e1, p1⟩⟩
/-! ### complete_chains -/
def spChains (g : Floor → List (List Nat)) : Sp := fun vs H Q _ => ∃ a f, vs = [.ref a] ∧ Pcs H a f ∧ Good f ∧ NewCh H (g f) Q
theorem scComplete : FnScope ["pieces", "found", "turn"] ["pieces"] (defScope (topS 3)) := ⟨rfl, rfl, rfl, by decide +kernel, rfl, by decide +kernel, by decide +kernel⟩
theorem ok_complete (D : DefAt K mg "complete_chains" (topS 3)) (T : Txt mg) (c1 : Cal P w K mg base 2 "longer_chains" spLonger) : Cal P w K mg base 3 "complete_chains" (spChains complete) := by
  refine mk_cal D scComplete (fun _ _ _ _ _ _ us hl => match us, hl with | [_], _ => rfl) (fun vs H Q E h => ?_) (fun fa cdv A outer s H vs Q E hr h => ?_)
  · obtain ⟨a, f, rfl, _⟩ := h
    rfl
  · have nd := scComplete.nd
    refine ⟨_, pss_cons (ps_set (i := 1) nd rfl (Or.inl rfl) (pe_lst (pa_cons (pe_tup pa_nil) pa_nil)))
      (pss_cons (ps_for PassesOwn.never rfl (pi_range1 (by rfl) T.range (pa_cons (pe_callB call_len_seq (by rfl) T.len bb_len (pa_cons (pv 0) pa_nil)) pa_nil)) (pgl (i := 2) nd rfl rfl)
        (pss_one (ps_set (i := 1) nd rfl (Or.inl rfl) (pe_c c1 hr (by decide) (by rfl) (pa_cons (pv 0) (pa_cons (pv 1) pa_nil))))))
      (pss_one (ps_ret (pv 1)))), ?_⟩
    obtain ⟨a, f, rfl, hp, gf, k⟩ := h
    obtain ⟨xs, hx, px⟩ := id hp
    refine ⟨Nat.zero_le _, fun t nt => ⟨(by show 1 ≤ sizeLine; exact bigLine (by decide)), fun L nL => ?_⟩⟩
    have s1 : Same H (upd H t (.tup [])) := same_new nt
    have s2 := s1.trans (same_new (o := .lst [.ref t]) nL)
    have hl := gf.len
    refine ⟨_, rfl, a, _, rfl, .inl (SqL.of (s2 _ _ hx)), (xs.length : Int), rfl, by have := px.length; omega, by have := px.length; omega, ?_⟩
    refine for_it walk_range0 (fun i σ H' => ∃ p v2, σ = [some (.ref a), some (.ref p), v2] ∧ Same H H' ∧ H p = none ∧ Chs H' p (levels f i [[]]))
      ⟨L, none, rfl, s2, s1.free nL, [.ref t], upd_same, .cons ⟨t, rfl, same_new nL _ _ upd_same⟩ .nil⟩ (fun _ _ _ _ _ => trivial) ?_ ?_
    · rintro i x σ H1 H2 hi ⟨p, v2, rfl, s3, np, hch⟩ ⟨rfl, rfl⟩
      have hi' : i < f.length := by have := px.length; omega
      refine ⟨_, rfl, _, rfl, a, p, f, _, rfl, hp.same s3, gf.len, hch, ?_, ?_, ?_, fun H3 q s4 nq hq => ?_⟩
      · exact Nat.le_trans (levels_length gf.len i) (Nat.le_trans (Nat.pow_le_pow_right (by decide) (by omega : i ≤ 7)) (by decide))
      · exact fun c hc => (levels_ok f i c hc).2
      · intro c hc
        have := (levels_ok f i c hc).1
        omega
      · exact ⟨q, _, rfl, s3.trans s4, s3.free nq, by rw [levels_succ]; exact hq⟩
    · rintro σ H1 ⟨p, v2, rfl, s3, np, hch⟩
      have e : ((xs.length : Int)).toNat = f.length := by have := px.length; omega
      rw [e] at hch
      exact ⟨_, rfl, k H1 p s3 np hch⟩
/-! ### is_circuit -/
theorem atI_head {c : List Nat} (h : c ≠ []) (d : Nat) : atI (c.map nV) 0 = some (nV (c.headD d)) := by
  cases c with
  | nil => exact absurd rfl h
  | cons x r => exact atI_nat (j := 0) rfl
theorem last_lt {f : Floor} {c : List Nat} (h : c ≠ []) (hc : ∀ j ∈ c, j < f.length) : c.getLastD 0 < f.length := hc _ (by
  rw [List.getLastD_eq_getLast?, List.getLast?_eq_some_getLast h]
  exact List.getLast_mem h)
def spIsCirc : Sp := fun vs H Q _ => ∃ a t f c, vs = [.ref a, .ref t] ∧ Pcs H a f ∧ H t = some (.tup (c.map nV)) ∧ c ≠ [] ∧ (∀ j ∈ c, j < f.length) ∧ Q (.bl (isCircuit f c)) H
theorem scIsCirc : FnScope ["pieces", "chain"] ["pieces", "chain"] (defScope (topS 4)) := ⟨rfl, rfl, rfl, by decide +kernel, rfl, by decide +kernel, by decide +kernel⟩
theorem ok_is_circuit (D : DefAt K mg "is_circuit" (topS 4)) : Cal P w K mg base 1 "is_circuit" spIsCirc := by
  refine mk_cal D scIsCirc (fun _ _ _ _ _ _ us hl => match us, hl with | [_, _], _ => rfl) (fun vs H Q E h => ?_) (fun fa cdv A outer s H vs Q E hr h => ?_)
  · obtain ⟨a, t, f, c, rfl, _⟩ := h
    rfl
  · refine ⟨_, pss_one (ps_ret (pe_and (pe_cmpR op_eq (pe_ix ix_tup (pv 1) pe_int (fun _ _ => rfl)) pe_int (nomark _))
      (pe_one (pe_cmpR op_eq (pe_ix ix_tup (pe_ix ix_list (pv 0) (pe_ix ix_tup (pv 1) (pe_un un_neg pe_int) (fun _ _ => rfl)) (fun _ _ => rfl)) pe_int (fun _ _ => rfl))
          (pe_ix ix_tup (pe_ix ix_list (pv 0) pe_int (fun _ _ => rfl)) pe_int (fun _ _ => rfl)) (nomark _))))), ?_⟩
    obtain ⟨a, t, f, c, rfl, hp, ht, hc, hj, k⟩ := h
    obtain ⟨xs, hx, px⟩ := id hp
    have hl := last_lt hc hj
    have h0 : 0 < f.length := by omega
    obtain ⟨t1, g1, h1⟩ := Pcs.get px hl
    obtain ⟨t2, g2, h2⟩ := Pcs.get px h0
    refine ⟨_, rfl, t, _, _, _, rfl, rfl, SqT.of ht, atI_head hc 1, rfl, _, rfl, ?_⟩
    have e0 : decide (nV (c.headD 1) = nV 0) = (c.headD 1 == 0) := by rw [Bool.eq_iff_iff, dec_nV, beq_iff_eq]
    have e1 : decide (nV (pieceAt f (c.getLastD 0)).right = nV (pieceAt f 0).left) = ((pieceAt f (c.getLastD 0)).right == (pieceAt f 0).left) := by rw [Bool.eq_iff_iff, dec_nV, beq_iff_eq]
    show if decide (nV (c.headD 1) = nV 0) = true then _ else _
    rw [e0]
    refine ite2 (fun z => ?_) (fun z => ?_)
    · refine ⟨_, rfl, _, rfl, _, rfl, t, _, _, _, rfl, rfl, SqT.of ht, atI_last' hc, a, _, _, _, rfl, rfl, SqL.of hx, atI_nat g1, t1, _, _, _, rfl, rfl, SqT.of h1, atI_nat (j := 1) rfl, ?_⟩
      refine ⟨_, rfl, a, _, _, _, rfl, rfl, SqL.of hx, atI_nat (j := 0) g2, t2, _, _, _, rfl, rfl, SqT.of h2, atI_nat (j := 0) rfl, rfl, ?_⟩
      rw [e1]
      unfold isCircuit at k
      rw [z, Bool.true_and] at k
      exact k
    · unfold isCircuit at k
      rw [Bool.eq_false_iff.mpr z, Bool.false_and] at k
      exact k
/-! ### all_circuits -/
theorem scCircs : FnScope ["pieces", "chain"] ["pieces"] (defScope (topS 5)) := ⟨rfl, rfl, rfl, by decide +kernel, rfl, by decide +kernel, by decide +kernel⟩
theorem complete_ne {f : Floor} (hf : f ≠ []) {c : List Nat} (h : c ∈ complete f) : c ≠ [] := by
  rintro rfl
  have := (complete_ok f [] h).1
  cases f with
  | nil => exact hf rfl
  | cons _ _ => cases this
theorem ok_circuits (D : DefAt K mg "all_circuits" (topS 5)) (c1 : Cal P w K mg base 3 "complete_chains" (spChains complete)) (c2 : Cal P w K mg base 1 "is_circuit" spIsCirc) : Cal P w K mg base 4 "all_circuits" (spChains allCircuits) := by
  refine mk_cal D scCircs (fun _ _ _ _ _ _ us hl => match us, hl with | [_], _ => rfl) (fun vs H Q E h => ?_) (fun fa cdv A outer s H vs Q E hr h => ?_)
  · obtain ⟨a, f, rfl, _⟩ := h
    rfl
  · have nd := scCircs.nd
    refine ⟨_, pss_cons (ps_if (pt_cmpR (op_eqD hr.units) (pv 0) (pe_lst pa_nil) (nomark _)) (pss_one (ps_ret (pe_lst pa_nil))) pss_nil)
      (pss_one (ps_ret (pe_lc (own := [("chain", 1)]) rfl nd (pi_list (pe_c c1 hr (by decide) (by rfl) (pa_cons (pv 0) pa_nil))) (blkOk_by (N := ["pieces", "chain"]) (sc := defScope (topS 5)) (by decide +kernel))
        (fun _ _ _ _ _ => by exact pgl (i := 1) nd rfl rfl)
        (fun _ _ _ _ _ => by exact pts_one (pt_val (pe_c c2 hr (by decide) (by rfl) (pa_cons (pv 0) (pa_cons (pv 1) pa_nil)))))
        (fun _ _ _ _ _ => by exact pv 1)))), ?_⟩
    obtain ⟨a, f, rfl, hp, gf, k⟩ := h
    refine ⟨_, rfl, Nat.zero_le _, fun p np => ?_⟩
    have s1 : Same H (upd H p (.lst [])) := same_new np
    refine eq_pcs_nil (hp.same s1) upd_same ⟨_, rfl, ?_⟩
    refine ite2 (fun z => ?_) (fun z => ?_)
    · have z := of_decide_eq_true z
      refine ⟨Nat.zero_le _, fun L nL => k _ L (s1.trans (same_new nL)) (s1.free nL) ⟨[], upd_same, ?_⟩⟩
      unfold allCircuits
      rw [if_pos z]
      exact .nil
    · have z : f ≠ [] := fun y => z (decide_eq_true y)
      refine ⟨_, rfl, a, f, rfl, hp.same s1, gf, fun H2 q s2 nq hq => ?_⟩
      obtain ⟨ys, hy, py⟩ := hq
      refine ⟨q, rfl, ⟨_, SqL.of hy⟩, fun L nL => ?_⟩
      have hlen := complete_length gf.len
      refine lc_fm walk_list (complete f) py.length.symm nL (by rw [py.length]; exact bigLine (by omega)) (fun H' s => SqL.of (s _ _ hy)) (isCircuit f) id IsCh st_ch ?_ ?_
      · rintro i x c H3 H4 Nx ey s3 ⟨rfl, ex⟩ _ skip fin
        obtain ⟨c', ec, t, rfl, ht⟩ := paired_get py ex
        rw [ey] at ec
        cases ec
        have hc := List.mem_of_getElem? ey
        refine ⟨rfl, ?_⟩
        refine ⟨_, rfl, _, rfl, a, t, f, c, rfl, hp.same (s1.trans (s2.trans s3)), s3 _ _ ht, complete_ne z hc, (complete_ok f c hc).2, _, rfl, ?_⟩
        exact ite2 (fun y => ⟨_, rfl, fin _ _ (Same.refl _) ⟨t, rfl, s3 _ _ ht⟩ y⟩) (fun y => skip _ (Same.refl _) (Bool.eq_false_iff.mpr y))
      · intro H3 out s3 eo po
        refine k H3 L (s1.trans (s2.trans s3)) (s1.free (s2.free nL)) ⟨out, eo, ?_⟩
        unfold allCircuits
        rw [if_neg z]
        rw [List.map_id] at po
        exact po
/-! ### count_beginning -/
theorem scCountB : FnScope ["pieces", "mark", "chain"] ["pieces", "mark"] (defScope (topS 6)) := ⟨rfl, rfl, rfl, by decide +kernel, rfl, by decide +kernel, by decide +kernel⟩
def spCountG (g : Floor → Nat → Nat) : Sp := fun vs H Q _ => ∃ a f m, vs = [.ref a, nV m] ∧ Pcs H a f ∧ Good f ∧ ∀ H', Same H H' → Q (nV (g f m)) H'
theorem ok_countB (D : DefAt K mg "count_beginning" (topS 6)) (T : Txt mg) (c1 : Cal P w K mg base 3 "complete_chains" (spChains complete)) : Cal P w K mg base 4 "count_beginning" (spCountG countBeginning) := by
  refine mk_cal D scCountB (fun _ _ _ _ _ _ us hl => match us, hl with | [_, _], _ => rfl) (fun vs H Q E h => ?_) (fun fa cdv A outer s H vs Q E hr h => ?_)
  · obtain ⟨a, f, m, rfl, _⟩ := h
    rfl
  · have nd := scCountB.nd
    refine ⟨_, pss_cons (ps_if (pt_cmpR (op_eqD hr.units) (pv 0) (pe_lst pa_nil) (nomark _)) (pss_one (ps_ret pe_int)) pss_nil)
      (pss_one (ps_ret (pe_callB call_len_seq (by rfl) T.len bb_len (pa_cons (pe_lc (own := [("chain", 2)]) (tt := tTest (tOp rEq (tOp (rIxT K) (tOp (rIxL K) (tVar 0) (tOp (rIxT K) (tVar 2) (tC (.int 0)))) (tC (.int 0))) (tVar 1))) rfl nd
          (pi_list (pe_c c1 hr (by decide) (by rfl) (pa_cons (pv 0) pa_nil))) (blkOk_by (N := ["pieces", "mark", "chain"]) (sc := defScope (topS 6)) (by decide +kernel))
        (fun _ _ _ _ _ => by exact pgl (i := 2) nd rfl rfl)
        (fun _ _ _ _ _ => by exact pts_one (pt_cmpR op_eq (pe_ix ix_tup (pe_ix ix_list (pv 0) (pe_ix ix_tup (pv 2) pe_int (fun _ _ => rfl)) (fun _ _ => rfl)) pe_int (fun _ _ => rfl)) (pv 1) (nomark _)))
        (fun _ _ _ _ _ => by exact pv 2)) pa_nil)))), ?_⟩
    obtain ⟨a, f, m, rfl, hp, gf, k⟩ := h
    refine ⟨_, rfl, Nat.zero_le _, fun p np => ?_⟩
    have s1 : Same H (upd H p (.lst [])) := same_new np
    refine eq_pcs_nil (hp.same s1) upd_same ⟨_, rfl, ?_⟩
    refine ite2 (fun z => ?_) (fun z => ?_)
    · have z := of_decide_eq_true z
      have q := k _ s1
      unfold countBeginning at q
      rw [if_pos z] at q
      exact q
    · have z : f ≠ [] := fun y => z (decide_eq_true y)
      refine ⟨_, rfl, a, f, rfl, hp.same s1, gf, fun H2 q s2 nq hq => ?_⟩
      obtain ⟨ys, hy, py⟩ := hq
      refine ⟨q, rfl, ⟨_, SqL.of hy⟩, fun L nL => ?_⟩
      have hlen := complete_length gf.len
      obtain ⟨xs, hx, px⟩ := id hp
      refine lc_fm walk_list (complete f) py.length.symm nL (by rw [py.length]; exact bigLine (by omega)) (fun H' s => SqL.of (s _ _ hy)) (begins f m) id (fun _ v (n : List Nat) => True) (fun _ _ _ _ _ _ h => h) ?_ ?_
      · rintro i x c H3 H4 Nx ey s3 ⟨rfl, ex⟩ _ skip fin
        obtain ⟨c', ec, t, rfl, ht⟩ := paired_get py ex
        rw [ey] at ec
        cases ec
        have hc := List.mem_of_getElem? ey
        have hne := complete_ne z hc
        have s13 := s1.trans (s2.trans s3)
        have hh : c.headD 0 < f.length := by
          cases c with
          | nil => exact absurd rfl hne
          | cons j r => exact (complete_ok f _ hc).2 j List.mem_cons_self
        obtain ⟨t1, g1, h1⟩ := Pcs.get px hh
        refine ⟨rfl, ?_⟩
        refine ⟨_, rfl, _, rfl, t, _, _, _, rfl, rfl, SqT.of (s3 _ _ ht), atI_head hne 0, a, _, _, _, rfl, rfl, SqL.of (s13 _ _ hx), atI_nat g1, t1, _, _, _, rfl, rfl, SqT.of (s13 _ _ h1), atI_nat (j := 0) rfl, ?_⟩
        refine ⟨_, rfl, rfl, _, rfl, ?_⟩
        exact ite2 (fun y => ⟨_, rfl, fin _ _ (Same.refl _) trivial (beq_iff_eq.mpr (dec_nV.mp y))⟩) (fun y => skip _ (Same.refl _) (beq_eq_false_iff_ne.mpr fun e => y (dec_nV.mpr e)))
      · intro H3 out s3 eo po
        refine ⟨L, _, rfl, .inl (SqL.of eo), ?_⟩
        rw [po.length, List.length_map]
        have q := k H3 (s1.trans (s2.trans s3))
        unfold countBeginning at q
        rw [if_neg z] at q
        exact q
end
end BB
set_option Elab.async false
set_option maxRecDepth 100000
set_option maxHeartbeats 2000000
set_option linter.all false
namespace BB
open PySem PySem.Spec PyProof.Rows L2
open Sr115 (Piece Floor pieceAt)
section
variable {P : Program} {w : World} {K : PySem.W.Frag} {mg : Str → Option Value} {base : Heap}
def oV : Option Nat → V
  | none => .non
  | some r => nV r
/-- the choice at v: a list -/
def IsCx (H : Hp) (v : V) (c : Choice) : Prop := ∃ t, v = .ref t ∧ H t = some (.lst (c.map oV))
theorem IsCx.same {H H' : Hp} {v : V} {c : Choice} (h : IsCx H v c) (s : Same H H') : IsCx H' v c := let ⟨t, e, z⟩ := h; ⟨t, e, s t _ z⟩
/-- .. at no address of L, D -/
def IsCxN (L D : Addr) (H : Hp) (v : V) (c : Choice) : Prop := ∃ t, v = .ref t ∧ t ≠ L ∧ t ≠ D ∧ H t = some (.lst (c.map oV))
def Cxs (H : Hp) (a : Addr) (cs : List Choice) : Prop := ∃ xs, H a = some (.lst xs) ∧ Paired (IsCx H) xs cs
/-! ### with_piece -/
def spWith : Sp := fun vs H Q _ => ∃ t u c p, vs = [.ref t, .ref u] ∧ H t = some (.lst (c.map oV)) ∧ c.length = 6 ∧ H u = some (.tup [nV p.left, nV p.right]) ∧ p.left < 6 ∧ New H (.lst ((withPiece c p).map oV)) Q
theorem scWith : FnScope ["choice", "piece", "found"] ["choice", "piece"] (defScope (topS 27)) := ⟨rfl, rfl, rfl, by decide +kernel, rfl, by decide +kernel, by decide +kernel⟩
theorem ok_with (D : DefAt K mg "with_piece" (topS 27)) (T : Txt mg) : Cal P w K mg base 1 "with_piece" spWith := by
  refine mk_cal D scWith (fun _ _ _ _ _ _ us hl => match us, hl with | [_, _], _ => rfl) (fun vs H Q E h => ?_) (fun fa cdv A outer s H vs Q E hr h => ?_)
  · obtain ⟨t, u, c, p, rfl, _⟩ := h
    rfl
  · have nd := scWith.nd
    refine ⟨_, pss_cons (ps_set (i := 2) nd rfl (Or.inl rfl) (pe_callTy call_list_of (by rfl) T.list bb_list (pa_cons (pv 0) pa_nil)))
      (pss_cons (ps_asg (pe_ix ix_tup (pv 1) pe_int (fun _ _ => rfl)) (pg_sub (pv 2) (pe_ix ix_tup (pv 1) pe_int (fun _ _ => rfl)) set_list))
      (pss_one (ps_ret (pv 2)))), ?_⟩
    obtain ⟨t, u, c, p, rfl, ht, hc, hu, hp, k⟩ := h
    refine ⟨_, rfl, t, _, rfl, .inl (SqL.of ht), fun L nL => ?_⟩
    have s1 : Same H (upd H L (.lst (c.map oV))) := same_new nL
    refine ⟨_, rfl, u, _, _, _, rfl, rfl, SqT.of (s1 _ _ hu), atI_nat (j := 1) rfl, ?_⟩
    refine ⟨_, rfl, _, rfl, u, _, _, _, rfl, rfl, SqT.of (s1 _ _ hu), atI_nat (j := 0) rfl, ?_⟩
    refine ⟨L, _, _, _, rfl, rfl, upd_same, ixN_of (by rw [List.length_map, hc]; exact hp), ?_⟩
    refine ⟨_, rfl, ?_⟩
    refine k _ L ?_ nL ?_
    · rw [upd_upd]
      exact same_new nL
    · rw [upd_same]
      unfold withPiece
      rw [List.map_set]
      rfl
/-! ### choices_to -/
theorem decNe {a b : Nat} : (!decide (nV a = nV b)) = true ↔ a ≠ b := by
  rw [Bool.not_eq_true', Bool.eq_false_iff, Ne, dec_nV]
def spChoices : Sp := fun vs H Q _ => ∃ a f g, vs = [.ref a, nV g] ∧ Pcs H a f ∧ Good f ∧ ∀ H' p, Same H H' → H p = none → Cxs H' p (choicesTo f g) → Q (.ref p) H'
theorem scChoices : FnScope ["pieces", "goal", "found", "mark", "own", "longer", "choice", "piece"] ["pieces", "goal"] (defScope (topS 28)) := ⟨rfl, rfl, rfl, by decide +kernel, rfl, by decide +kernel, by decide +kernel⟩
theorem chooseFor_append (f : Floor) (m : Nat) (a b : List Choice) : chooseFor f m (a ++ b) = chooseFor f m a ++ chooseFor f m b := List.flatMap_append
theorem chooseFor_one (f : Floor) (m : Nat) (c : Choice) : chooseFor f m [c] = (ownPieces f m).map (withPiece c) := by
  unfold chooseFor
  simp
theorem ok_choices (D : DefAt K mg "choices_to" (topS 28)) (T : Txt mg) (c1 : Cal P w K mg base 2 "used_marks" (spMade fun f => (usedMarks f).map nV)) (c2 : Cal P w K mg base 1 "with_piece" spWith) : Cal P w K mg base 3 "choices_to" spChoices := by
  refine mk_cal D scChoices (fun _ _ _ _ _ _ us hl => match us, hl with | [_, _], _ => rfl) (fun vs H Q E h => ?_) (fun fa cdv A outer s H vs Q E hr h => ?_)
  · obtain ⟨a, f, g, rfl, _⟩ := h
    rfl
  · have nd := scChoices.nd
    refine ⟨_, pss_cons (ps_set (i := 2) nd rfl (Or.inl rfl) (pe_lst (pa_cons (pe_op op_rep (pe_lst (pa_cons pe_non pa_nil)) (pe_k (by rfl) T.cMarks)) pa_nil)))
      (pss_cons (ps_for PassesOwn.never rfl (pi_list (pe_c c1 hr (by decide) (by rfl) (pa_cons (pv 0) pa_nil))) (pg_name (i := 3) nd rfl (Or.inr rfl))
        (pss_one (ps_if (pt_cmpR op_ne (pv 3) (pv 1) (nomark _))
          (pss_cons (ps_setLc (i := 4) (own := [("piece", 7)]) (tt := tTest (tOp rEq (tOp (rIxT K) (tVar 7) (tC (.int 0))) (tVar 3))) (te := tVar 7) rfl nd rfl rfl (sw_true rfl rfl rfl (by decide +kernel)) (pi_list (pv 0))
              (blkOk_by (N := ["pieces", "goal", "found", "mark", "own", "longer", "choice", "piece"]) (sc := defScope (topS 28)) (by decide +kernel))
              (fun _ _ _ _ _ => by exact pgl (i := 7) nd rfl rfl)
              (fun _ _ _ _ _ => by exact pts_one (pt_cmpR op_eq (pe_ix ix_tup (pv 7) pe_int (fun _ _ => rfl)) (pv 3) (nomark _)))
              (fun _ _ _ _ _ => by exact pv 7))
          (pss_cons (ps_set (i := 5) nd rfl (Or.inl rfl) (pe_lst pa_nil))
          (pss_cons (ps_for PassesOwn.never rfl (pi_list (pv 2)) (pg_name (i := 6) nd rfl (Or.inr rfl))
            (pss_one (ps_expr (pe_bm PySem.F.plainAttrs_list PySem.F.slot_list_extend PySem.F.type_list_extend mt_extend (pv 5) (pa_cons
              (pe_lc (own := [("piece", 7)]) rfl nd (pi_list (pv 4)) (blkOk_by (N := ["pieces", "goal", "found", "mark", "own", "longer", "choice", "piece"]) (sc := defScope (topS 28)) (by decide +kernel))
                (fun _ _ _ _ _ => by exact pgl (i := 7) nd rfl rfl) (fun _ _ _ _ _ => pts_nil)
                (fun _ _ _ _ _ => by exact pe_c c2 hr (by decide) (by rfl) (pa_cons (pv 6) (pa_cons (pv 7) pa_nil)))) pa_nil)))))
          (pss_one (ps_set (i := 2) nd rfl (Or.inl rfl) (pv 5)))))) pss_nil)))
      (pss_one (ps_ret (pv 2)))), ?_⟩
    obtain ⟨a, f, g, rfl, hp, gf, k⟩ := h
    obtain ⟨xs, hx, px⟩ := id hp
    -- found
    refine ⟨(by show 1 ≤ sizeLine; exact bigLine (by decide)), fun l1 n1 => ?_⟩
    refine ⟨l1, 6, [.non], rfl, rfl, upd_same, by decide, by decide, by decide, fun l2 n2 => ?_⟩
    refine ⟨(by show 1 ≤ sizeLine; exact bigLine (by decide)), fun l3 n3 => ?_⟩
    have t1 : Same H (upd H l1 (.lst [.non])) := same_new n1
    have t2 := t1.trans (same_new (o := .lst (List.replicate (6 : Int).toNat [V.non]).flatten) n2)
    have t3 := t2.trans (same_new (o := .lst [.ref l2]) n3)
    refine ⟨_, rfl, a, f, rfl, hp.same t3, gf, fun H4 us s4 n4 e4 => ?_⟩
    have t4 := t3.trans s4
    refine ⟨us, rfl, ⟨_, SqL.of e4⟩, ?_⟩
    have start : Cxs H4 l3 [List.replicate 6 none] := by
      refine ⟨[.ref l2], s4 _ _ upd_same, .cons ⟨l2, rfl, s4 _ _ ?_⟩ .nil⟩
      exact (same_new n3 _ _ upd_same).trans rfl
    refine for_it walk_list (fun i σ H' => ∃ F v3 v4 v5 v6 v7, σ = [some (.ref a), some (nV g), some (.ref F), v3, v4, v5, v6, v7] ∧ Same H4 H' ∧ H F = none ∧ Cxs H' F (((usedMarks f).take i).foldl (choicesTurn f g) [List.replicate 6 none]))
      ⟨l3, none, none, none, none, none, rfl, Same.refl _, t2.free n3, start⟩ (fun i σ H' _ ⟨_, _, _, _, _, _, _, s, _⟩ => SqL.of (s _ _ e4)) ?_ ?_
    · rintro i x σ H5 H6 hi ⟨F, v3, v4, v5, v6, v7, rfl, s5, nF, ys, hF, py⟩ ⟨rfl, ex⟩
      have hi' : i < (usedMarks f).length := by rw [List.length_map] at hi; exact hi
      have em : (usedMarks f)[i]? = some (usedMarks f)[i] := List.getElem?_eq_getElem hi'
      generalize (usedMarks f)[i] = m at em
      rw [map_get em] at ex
      cases ex
      have t5 := t4.trans s5
      have step : ((usedMarks f).take (i + 1)).foldl (choicesTurn f g) [List.replicate 6 none] = choicesTurn f g (((usedMarks f).take i).foldl (choicesTurn f g) [List.replicate 6 none]) m := by
        rw [take_more em, List.foldl_append]
        rfl
      have hin : ∀ c ∈ ((usedMarks f).take i).foldl (choicesTurn f g) [List.replicate 6 none], c.length = 6 := by
        intro c hc
        have start : ∀ d ∈ ([List.replicate 6 none] : List Choice), ChoiceIn f g [] d := by
          intro d hd
          rw [List.mem_singleton.mp hd]
          refine ⟨by simp, fun m r e => ?_, fun m hm => nomatch hm⟩
          exfalso
          rw [List.getD_eq_getElem?_getD, List.getElem?_replicate] at e
          by_cases q : m < 6
          · rw [if_pos q] at e; cases e
          · rw [if_neg q] at e; cases e
        exact (choices_in_fold gf g _ _ [] start c hc).len
      have hsz : (((usedMarks f).take i).foldl (choicesTurn f g) [List.replicate 6 none]).length ≤ 117649 := by
        refine Nat.le_trans (choices_fold_length gf g _ _) ?_
        have l6 : ((usedMarks f).take i).length ≤ 6 := Nat.le_trans (List.length_take_le' _ _) (used_length f)
        have := Nat.pow_le_pow_right (n := 7) (by decide) l6
        rw [List.length_singleton, Nat.one_mul]
        exact Nat.le_trans this (by decide)
      generalize ((usedMarks f).take i).foldl (choicesTurn f g) [List.replicate 6 none] = cs at hF py step hin hsz
      refine ⟨_, rfl, _, rfl, rfl, _, rfl, ?_⟩
      refine ite2 (fun z => ?_) (fun z => ?_)
      · have z := decNe.mp z
        have hturn : choicesTurn f g cs m = chooseFor f m cs := if_neg z
        -- own
        refine ⟨_, rfl, a, rfl, ⟨_, SqL.of (t5 _ _ hx)⟩, fun D nD => ?_⟩
        refine lc_fm walk_list f px.length.symm nD (by rw [px.length]; exact bigLine (by have := gf.len; omega)) (fun H' s => SqL.of (s _ _ (t5 _ _ hx))) (fun p => p.left == m) id IsPc st_pc ?_ ?_
        · rintro j x p H7 H8 Nx ey s7 ⟨rfl, ex⟩ _ skip fin
          obtain ⟨p', ep, t, rfl, ht⟩ := paired_get px ex
          rw [ey] at ep
          cases ep
          have ht := s7 _ _ (t5 _ _ ht)
          refine ⟨rfl, ?_⟩
          refine ⟨_, rfl, t, _, _, _, rfl, rfl, SqT.of ht, atI_nat (j := 0) rfl, _, rfl, rfl, _, rfl, ?_⟩
          exact ite2 (fun y => ⟨_, rfl, fin _ _ (Same.refl _) ⟨t, rfl, ht⟩ (beq_iff_eq.mpr (dec_nV.mp y))⟩) (fun y => skip _ (Same.refl _) (beq_eq_false_iff_ne.mpr fun e => y (dec_nV.mpr e)))
        · intro H7 os s7 eD pD
          rw [List.map_id] at pD
          have pD : Paired (IsPc H7) os (ownPieces f m) := pD
          have t7 := t5.trans s7
          -- longer
          refine ⟨Nat.zero_le _, fun L nL => ?_⟩
          refine ⟨_, rfl, F, rfl, ⟨_, SqL.of (same_new nL _ _ (s7 _ _ hF))⟩, ?_⟩
          refine for_it walk_list (fun j σ H' => ∃ v6 v7, σ = [some (.ref a), some (nV g), some (.ref F), some (nV m), some (.ref D), some (.ref L), v6, v7] ∧ Same H7 H' ∧ ∃ out, H' L = some (.lst out) ∧ Paired (IsCxN L L H') out (chooseFor f m (cs.take j)))
            ⟨_, _, rfl, same_new nL, [], upd_same, .nil⟩ (fun j σ H' _ ⟨_, _, _, s8, _⟩ => SqL.of (s8 _ _ (s7 _ _ hF))) ?_ ?_
          · rintro j x σ H8 H9 hj ⟨v6, v7, rfl, s8, out, eL, pL⟩ ⟨rfl, ex⟩
            obtain ⟨c, ec, t, rfl, ht⟩ := paired_get py ex
            have hcm := List.mem_of_getElem? ec
            have ht8 := s8 _ _ (s7 _ _ ht)
            refine ⟨_, rfl, .inl ⟨rfl, _, SqL.of eL⟩, ?_⟩
            refine ⟨_, rfl, D, rfl, ⟨_, SqL.of (s8 _ _ eD)⟩, fun D2 nD2 => ?_⟩
            refine lc_fm walk_list (ownPieces f m) pD.length.symm nD2 (by rw [pD.length]; exact bigLine (by have := own_length gf m; omega)) (fun H' s => SqL.of (s _ _ (s8 _ _ eD))) (fun _ => true) (withPiece c) (IsCxN L D2) (fun H' H'' v b _ kk ⟨u, e1, e2, e3, e4⟩ => ⟨u, e1, e2, e3, kk _ _ e4 e3⟩) ?_ ?_
            · rintro l x p H10 H11 Nx ey s10 ⟨rfl, ex⟩ ⟨acc, eD2⟩ skip fin
              obtain ⟨p', ep, u, rfl, hu⟩ := paired_get pD ex
              rw [ey] at ep
              cases ep
              have hpm : p ∈ f := (List.mem_filter.mp (List.mem_of_getElem? ey)).1
              refine ⟨rfl, lcYes ?_⟩
              refine ⟨_, rfl, _, rfl, t, u, c, p, rfl, s10 _ _ ht8, hin c hcm, s10 _ _ (s8 _ _ hu), (gf.marks p hpm).1, fun H12 r s12 nr er => ?_⟩
              exact fin _ _ s12 ⟨r, rfl, Ne.symm (ne_of_none (s10 _ _ eL) nr), Ne.symm (ne_of_none eD2 nr), er⟩ rfl
            · intro H10 zs s10 eD2 pD2
              have pD2 : Paired (IsCxN L D2 H10) zs (((ownPieces f m).filter fun _ => true).map (withPiece c)) := pD2
              have ef : (ownPieces f m).filter (fun _ => true) = ownPieces f m := List.filter_eq_self.mpr fun _ _ => rfl
              rw [ef] at pD2
              refine ⟨L, D2, out, zs, rfl, rfl, s10 _ _ eL, eD2, ?_, ?_⟩
              · have h1 := own_length gf m
                have h2 : (cs.take j).length ≤ 117649 := Nat.le_trans (List.length_take_le' _ _) hsz
                rw [pL.length, pD2.length, List.length_map, chooseFor_length]
                have h3 := Nat.mul_le_mul h2 h1
                exact bigLine (by omega)
              · refine ⟨_, _, rfl, same_old (s8.trans s10) nL, out ++ zs, upd_same, ?_⟩
                rw [take_more ec, chooseFor_append, chooseFor_one]
                have k3 : Kp L H10 (upd H10 L (.lst (out ++ zs))) := kp_upd
                exact paired_append (pL.mono fun _ _ ⟨u, e1, e2, _, e4⟩ => ⟨u, e1, e2, e2, k3 _ _ (s10 _ _ e4) e2⟩) (pD2.mono fun _ _ ⟨u, e1, e2, _, e4⟩ => ⟨u, e1, e2, e2, k3 _ _ e4 e2⟩)
          · rintro σ H8 ⟨v6, v7, rfl, s8, out, eL, pL⟩
            rw [py.length, List.take_length] at pL
            refine ⟨_, rfl, L, _, _, _, _, _, rfl, s5.trans (s7.trans s8), t7.free nL, out, eL, ?_⟩
            rw [step, hturn]
            exact pL.mono fun _ _ ⟨u, e1, _, _, e4⟩ => ⟨u, e1, e4⟩
      · have z : m = g := Classical.byContradiction fun y => z (decNe.mpr y)
        refine ⟨F, _, _, _, _, _, rfl, s5, nF, ys, hF, ?_⟩
        rw [step, z]
        unfold choicesTurn
        rw [if_pos rfl]
        exact py
    · rintro σ H5 ⟨F, v3, v4, v5, v6, v7, rfl, s5, nF, hF⟩
      rw [List.length_map, List.take_length] at hF
      exact ⟨_, rfl, k H5 F (t4.trans s5) nF hF⟩
end
end BB
set_option Elab.async false
set_option maxRecDepth 100000
set_option maxHeartbeats 2000000
set_option linter.all false
namespace BB
open PySem PySem.Spec PyProof.Rows L2
open Sr115 (Piece Floor pieceAt)
section
variable {P : Program} {w : World} {K : PySem.W.Frag} {mg : Str → Option Value} {base : Heap}
theorem walkTo_succ (c : Choice) (g : Nat) : ∀ (n m : Nat), walkTo c g (n + 1) m = stepTo c g (walkTo c g n m)
  | 0, _ => rfl
  | n + 1, m => walkTo_succ c g n (stepTo c g m)
theorem step_used {f : Floor} {g : Nat} {c : Choice} (ok : ChoiceOk f g c) {m : Nat} (h : m ∈ usedMarks f) : stepTo c g m ∈ usedMarks f := by
  unfold stepTo
  by_cases e : m = g
  · rw [if_pos e]; exact h
  · rw [if_neg e]
    obtain ⟨r, hr, q⟩ := ok.has m h e
    rw [q]
    exact hr
theorem walk_used {f : Floor} {g : Nat} {c : Choice} (ok : ChoiceOk f g c) : ∀ (n : Nat) {m : Nat}, m ∈ usedMarks f → walkTo c g n m ∈ usedMarks f
  | 0, _, h => h
  | n + 1, _, h => walk_used ok n (step_used ok h)
/-! ### leads_to -/
def spLeads : Sp := fun vs H Q _ => ∃ t f c st g, vs = [.ref t, nV st, nV g] ∧ H t = some (.lst (c.map oV)) ∧ ChoiceOk f g c ∧ st ∈ usedMarks f ∧ Q (.bl (leadsTo c st g)) H
theorem scLeads : FnScope ["choice", "start", "goal", "mark", "step"] ["choice", "start", "goal"] (defScope (topS 29)) := ⟨rfl, rfl, rfl, by decide +kernel, rfl, by decide +kernel, by decide +kernel⟩
theorem ok_leads (D : DefAt K mg "leads_to" (topS 29)) (T : Txt mg) : Cal P w K mg base 1 "leads_to" spLeads := by
  refine mk_cal D scLeads (fun _ _ _ _ _ _ us hl => match us, hl with | [_, _, _], _ => rfl) (fun vs H Q E h => ?_) (fun fa cdv A outer s H vs Q E hr h => ?_)
  · obtain ⟨t, f, c, st, g, rfl, _⟩ := h
    rfl
  · have nd := scLeads.nd
    refine ⟨_, pss_cons (ps_set (i := 3) nd rfl (Or.inl rfl) (pv 1))
      (pss_cons (ps_for PassesOwn.never rfl (pi_range1 (by rfl) T.range (pa_cons (pe_k (by rfl) T.cMarks) pa_nil)) (pgl (i := 4) nd rfl rfl)
        (pss_one (ps_if (pt_cmpR op_ne (pv 3) (pv 2) (nomark _)) (pss_one (ps_set (i := 3) nd rfl (Or.inl rfl) (pe_ix ix_list (pv 0) (pv 3) (fun _ _ => rfl)))) pss_nil)))
      (pss_one (ps_ret (pe_cmpR op_eq (pv 3) (pv 2) (nomark _))))), ?_⟩
    obtain ⟨t, f, c, st, g, rfl, ht, ok, hst, k⟩ := h
    refine ⟨_, rfl, 6, rfl, by decide, by decide, ?_⟩
    refine for_it walk_range0 (fun i σ H' => ∃ v4, σ = [some (.ref t), some (nV st), some (nV g), some (nV (walkTo c g i st)), v4] ∧ H' = H)
      ⟨none, rfl, rfl⟩ (fun _ _ _ _ _ => trivial) ?_ ?_
    · rintro i x σ H1 H2 hi ⟨v4, rfl, rfl⟩ ⟨rfl, rfl⟩
      have hu := walk_used ok i hst
      refine ⟨_, rfl, _, rfl, rfl, _, rfl, ?_⟩
      rw [walkTo_succ]
      generalize walkTo c g i st = m at hu
      refine ite2 (fun z => ?_) (fun z => ?_)
      · have z := decNe.mp z
        obtain ⟨r, hr', q⟩ := ok.has m hu z
        have e : c[m]? = some (some r) := by
          have hm : m < c.length := by rw [ok.len]; exact used_lt hu
          rw [List.getD_eq_getElem?_getD, List.getElem?_eq_getElem hm] at q
          rw [List.getElem?_eq_getElem hm]
          exact congrArg some q
        refine ⟨_, rfl, _, rfl, t, _, _, _, rfl, rfl, SqL.of ht, atI_nat (map_get e), ?_⟩
        refine ⟨some (nV i), ?_, rfl⟩
        unfold stepTo
        rw [if_neg z, q]
        rfl
      · have z : m = g := Classical.byContradiction fun y => z (decNe.mpr y)
        refine ⟨some (nV i), ?_, rfl⟩
        unfold stepTo
        rw [if_pos z]
        rfl
    · rintro σ H1 ⟨v4, rfl, rfl⟩
      refine ⟨_, rfl, _, rfl, rfl, ?_⟩
      have e : decide (nV (walkTo c g (6 : Int).toNat st) = nV g) = leadsTo c st g := by
        unfold leadsTo
        rw [Bool.eq_iff_iff, dec_nV, beq_iff_eq]
        exact Iff.rfl
      show Q (.bl (decide (nV (walkTo c g (6 : Int).toNat st) = nV g))) H1
      rw [e]
      exact k
/-! ### is_tree -/
def spIsTree : Sp := fun vs H Q _ => ∃ a t f c g, vs = [.ref a, .ref t, nV g] ∧ Pcs H a f ∧ Good f ∧ H t = some (.lst (c.map oV)) ∧ ChoiceOk f g c ∧ ∀ H', Same H H' → Q (.bl (isTree f c g)) H'
theorem scIsTree : FnScope ["pieces", "choice", "goal", "mark"] ["pieces", "choice", "goal"] (defScope (topS 30)) := ⟨rfl, rfl, rfl, by decide +kernel, rfl, by decide +kernel, by decide +kernel⟩
theorem ok_is_tree (D : DefAt K mg "is_tree" (topS 30)) (T : Txt mg) (c1 : Cal P w K mg base 2 "used_marks" (spMade fun f => (usedMarks f).map nV)) (c2 : Cal P w K mg base 1 "leads_to" spLeads) : Cal P w K mg base 3 "is_tree" spIsTree := by
  refine mk_cal D scIsTree (fun _ _ _ _ _ _ us hl => match us, hl with | [_, _, _], _ => rfl) (fun vs H Q E h => ?_) (fun fa cdv A outer s H vs Q E hr h => ?_)
  · obtain ⟨a, t, f, c, g, rfl, _⟩ := h
    rfl
  · have nd := scIsTree.nd
    refine ⟨_, pss_one (ps_ret (pe_callB (cr_all rfl) (by rfl) T.all bb_all (pa_cons (pe_lc (own := [("mark", 3)]) rfl nd
        (pi_list (pe_c c1 hr (by decide) (by rfl) (pa_cons (pv 0) pa_nil))) (blkOk_by (N := ["pieces", "choice", "goal", "mark"]) (sc := defScope (topS 30)) (by decide +kernel))
        (fun _ _ _ _ _ => by exact pgl (i := 3) nd rfl rfl) (fun _ _ _ _ _ => pts_nil)
        (fun _ _ _ _ _ => by exact pe_c c2 hr (by decide) (by rfl) (pa_cons (pv 1) (pa_cons (pv 3) (pa_cons (pv 2) pa_nil))))) pa_nil))), ?_⟩
    obtain ⟨a, t, f, c, g, rfl, hp, gf, ht, ok, k⟩ := h
    refine ⟨_, rfl, a, f, rfl, hp, gf, fun H1 p s1 np e1 => ?_⟩
    refine ⟨p, rfl, ⟨_, SqL.of e1⟩, fun L nL => ?_⟩
    have len := used_length f
    refine lc_fm walk_list (usedMarks f) (by rw [List.length_map]) nL (by rw [List.length_map]; exact bigLine (by omega)) (fun H' s => SqL.of (s _ _ e1)) (fun m => true) (fun m => leadsTo c m g) (fun _ v n => v = V.bl n) (st_flat _) ?_ ?_
    · rintro i x m H3 H4 Nx ey s3 ⟨rfl, ex⟩ _ skip fin
      rw [map_get ey] at ex
      cases ex
      refine ⟨rfl, lcYes ?_⟩
      exact ⟨_, rfl, _, rfl, _, rfl, t, f, c, m, g, rfl, s3 _ _ (s1 _ _ ht), ok, List.mem_of_getElem? ey, fin _ _ (Same.refl _) rfl rfl⟩
    · intro H3 out s3 eo po
      have ef : (usedMarks f).filter (fun _ => true) = usedMarks f := List.filter_eq_self.mpr fun _ _ => rfl
      rw [ef] at po
      rw [paired_bls po] at eo
      refine ⟨L, _, rfl, SqL.of eo, ?_⟩
      have e : ((usedMarks f).map fun m => leadsTo c m g).all id = isTree f c g := by
        rw [List.all_map]
        rfl
      rw [e]
      exact k H3 (s1.trans s3)
/-! ### count_trees -/
theorem scCountT : FnScope ["pieces", "goal", "choice"] ["pieces", "goal"] (defScope (topS 31)) := ⟨rfl, rfl, rfl, by decide +kernel, rfl, by decide +kernel, by decide +kernel⟩
theorem ok_countT (D : DefAt K mg "count_trees" (topS 31)) (T : Txt mg) (c1 : Cal P w K mg base 3 "choices_to" spChoices) (c2 : Cal P w K mg base 3 "is_tree" spIsTree) : Cal P w K mg base 4 "count_trees" (spCountG countTrees) := by
  refine mk_cal D scCountT (fun _ _ _ _ _ _ us hl => match us, hl with | [_, _], _ => rfl) (fun vs H Q E h => ?_) (fun fa cdv A outer s H vs Q E hr h => ?_)
  · obtain ⟨a, f, g, rfl, _⟩ := h
    rfl
  · have nd := scCountT.nd
    refine ⟨_, pss_one (ps_ret (pe_callB call_len_seq (by rfl) T.len bb_len (pa_cons (pe_lc (own := [("choice", 2)]) rfl nd
        (pi_list (pe_c c1 hr (by decide) (by rfl) (pa_cons (pv 0) (pa_cons (pv 1) pa_nil)))) (blkOk_by (N := ["pieces", "goal", "choice"]) (sc := defScope (topS 31)) (by decide +kernel))
        (fun _ _ _ _ _ => by exact pgl (i := 2) nd rfl rfl)
        (fun _ _ _ _ _ => by exact pts_one (pt_val (pe_c c2 hr (by decide) (by rfl) (pa_cons (pv 0) (pa_cons (pv 2) (pa_cons (pv 1) pa_nil))))))
        (fun _ _ _ _ _ => by exact pv 2)) pa_nil))), ?_⟩
    obtain ⟨a, f, g, rfl, hp, gf, k⟩ := h
    refine ⟨_, rfl, _, rfl, a, f, g, rfl, hp, gf, fun H1 p s1 np hq => ?_⟩
    obtain ⟨ys, hy, py⟩ := hq
    refine ⟨p, rfl, ⟨_, SqL.of hy⟩, fun L nL => ?_⟩
    have hsz : (choicesTo f g).length ≤ 117649 := by
      refine Nat.le_trans (choices_fold_length gf g _ _) ?_
      have := Nat.pow_le_pow_right (n := 7) (by decide) (used_length f)
      rw [List.length_singleton, Nat.one_mul]
      exact Nat.le_trans this (by decide)
    refine lc_fm walk_list (choicesTo f g) py.length.symm nL (by rw [py.length]; exact bigLine (by omega)) (fun H' s => SqL.of (s _ _ hy)) (fun c => isTree f c g) id (fun _ v (n : Choice) => True) (fun _ _ _ _ _ _ h => h) ?_ ?_
    · rintro i x c H3 H4 Nx ey s3 ⟨rfl, ex⟩ _ skip fin
      obtain ⟨c', ec, t, rfl, ht⟩ := paired_get py ex
      rw [ey] at ec
      cases ec
      have hc := List.mem_of_getElem? ey
      refine ⟨rfl, ?_⟩
      refine ⟨_, rfl, _, rfl, _, rfl, a, t, f, c, g, rfl, hp.same (s1.trans s3), gf, s3 _ _ ht, choices_ok gf g c hc, fun H5 s5 => ⟨_, rfl, ?_⟩⟩
      exact ite2 (fun y => ⟨_, rfl, fin _ _ s5 trivial y⟩) (fun y => skip _ s5 (Bool.eq_false_iff.mpr y))
    · intro H3 out s3 eo po
      refine ⟨L, _, rfl, .inl (SqL.of eo), ?_⟩
      rw [po.length, List.length_map]
      exact k H3 (s1.trans s3)
/-! ### factorial -/
def spFact : Sp := fun vs H Q _ => ∃ n : Int, vs = [.int n] ∧ n ≤ 7 ∧ -1 ≤ n ∧ Q (nV (Sr115.factorial n.toNat)) H
theorem fact_le : ∀ i, i ≤ 7 → Sr115.factorial i ≤ 5040 := by decide
theorem scFact : FnScope ["number", "found", "factor"] ["number"] (defScope (topS 32)) := ⟨rfl, rfl, rfl, by decide +kernel, rfl, by decide +kernel, by decide +kernel⟩
theorem ok_fact (D : DefAt K mg "factorial" (topS 32)) (T : Txt mg) : Cal P w K mg base 1 "factorial" spFact := by
  refine mk_cal D scFact (fun _ _ _ _ _ _ us hl => match us, hl with | [_], _ => rfl) (fun vs H Q E h => ?_) (fun fa cdv A outer s H vs Q E hr h => ?_)
  · obtain ⟨n, rfl, _⟩ := h
    rfl
  · have nd := scFact.nd
    refine ⟨_, pss_cons (ps_set (i := 1) nd rfl (Or.inl rfl) pe_int)
      (pss_cons (ps_for PassesOwn.never rfl (pi_range2 (by rfl) T.range (pa_cons pe_int (pa_cons (pe_op op_add (pv 0) pe_int) pa_nil))) (pgl (i := 2) nd rfl rfl)
        (pss_one (ps_set (i := 1) nd rfl (Or.inl rfl) (pe_op op_mul (pv 1) (pv 2)))))
      (pss_one (ps_ret (pv 1)))), ?_⟩
    obtain ⟨n, rfl, h7, h1, k⟩ := h
    refine ⟨_, rfl, _, _, rfl, rfl, 1, n + 1, rfl, ⟨by decide, by decide, by omega, by omega⟩, ?_⟩
    have en : (n + 1 - 1).toNat = n.toNat := by omega
    refine for_it walk_range (fun i σ H' => ∃ v2, σ = [some (.int n), some (nV (Sr115.factorial i)), v2] ∧ H' = H) ⟨none, rfl, rfl⟩ (fun _ _ _ _ _ => trivial) ?_ ?_
    · rintro i x σ H1 H2 hi ⟨v2, rfl, rfl⟩ ⟨rfl, rfl⟩
      have hf := fact_le i (by omega)
      refine ⟨_, rfl, _, rfl, _, _, rfl, rfl, .inl ⟨by omega, by omega⟩, some (.int (1 + (i : Nat))), ?_, rfl⟩
      have e : ((Sr115.factorial i : Nat) : Int) * (1 + (i : Nat)) = ((Sr115.factorial (i + 1) : Nat) : Int) := by
        show _ = (((i + 1) * Sr115.factorial i : Nat) : Int)
        rw [Int.natCast_mul, Int.mul_comm]
        congr 1
        omega
      show [some (V.int n), some (V.int (((Sr115.factorial i : Nat) : Int) * (1 + (i : Nat)))), some (V.int (1 + (i : Nat)))] = _
      rw [e]
    · rintro σ H1 ⟨v2, rfl, rfl⟩
      rw [en]
      exact ⟨_, rfl, k⟩
/-! ### is_balanced -/
def spBool (g : Floor → Bool) : Sp := fun vs H Q _ => ∃ a f, vs = [.ref a] ∧ Pcs H a f ∧ Good f ∧ ∀ H', Same H H' → Q (.bl (g f)) H'
theorem scBal : FnScope ["pieces"] ["pieces"] (defScope (topS 33)) := ⟨rfl, rfl, rfl, by decide +kernel, rfl, by decide +kernel, by decide +kernel⟩
theorem ok_balanced (D : DefAt K mg "is_balanced" (topS 33)) (T : Txt mg) (c1 : Cal P w K mg base 3 "component_list" (spMade fun f => (componentList f).map nV))
    (c2 : Cal P w K mg base 2 "all_excesses" (spMade fun f => (allExcesses f).map V.int)) : Cal P w K mg base 4 "is_balanced" (spBool isBalanced) := by
  refine mk_cal D scBal (fun _ _ _ _ _ _ us hl => match us, hl with | [_], _ => rfl) (fun vs H Q E h => ?_) (fun fa cdv A outer s H vs Q E hr h => ?_)
  · obtain ⟨a, f, rfl, _⟩ := h
    rfl
  · refine ⟨_, pss_one (ps_ret (pe_and (pe_cmpR op_eq (pe_callB call_len_seq (by rfl) T.len bb_len (pa_cons (pe_c c1 hr (by decide) (by rfl) (pa_cons (pv 0) pa_nil)) pa_nil)) pe_int (nomark _))
      (pe_one (pe_cmpR (op_eqD hr.units) (pe_c c2 hr (by decide) (by rfl) (pa_cons (pv 0) pa_nil)) (pe_op op_rep (pe_lst (pa_cons pe_int pa_nil)) (pe_k (by rfl) T.cMarks)) (nomark _))))), ?_⟩
    obtain ⟨a, f, rfl, hp, gf, k⟩ := h
    refine ⟨_, rfl, a, f, rfl, hp, gf, fun H1 p s1 np e1 => ?_⟩
    refine ⟨p, _, rfl, .inl (SqL.of e1), rfl, _, rfl, ?_⟩
    rw [List.length_map]
    have e0 : decide (V.int (((componentList f).length : Nat) : Int) = V.int 1) = decide ((componentList f).length = 1) := by
      rw [Bool.eq_iff_iff, decide_eq_true_eq, decide_eq_true_eq]
      constructor
      · intro h
        have := V.int.inj h
        omega
      · intro h
        rw [h]
        rfl
    show if decide (V.int (((componentList f).length : Nat) : Int) = V.int 1) = true then _ else _
    rw [e0]
    refine ite2 (fun z => ?_) (fun z => ?_)
    · refine ⟨_, rfl, a, f, rfl, hp.same s1, gf, fun H2 q s2 nq e2 => ?_⟩
      refine ⟨(by show 1 ≤ sizeLine; exact bigLine (by decide)), fun l nl => ?_⟩
      refine ⟨l, 6, [.int 0], rfl, rfl, upd_same, by decide, by decide, by decide, fun r nr => ?_⟩
      have s3 : Same H2 (upd (upd H2 l (.lst [.int 0])) r (.lst (List.replicate (6 : Int).toNat [V.int 0]).flatten)) := (same_new nl).trans (same_new nr)
      refine eq_ints_ok (ns := allExcesses f) (ms := List.replicate 6 0) (SqL.of (s3 _ _ e2)) (SqL.of (by rw [upd_same]; rfl)) ?_
      have q := k _ (s1.trans (s2.trans s3))
      unfold isBalanced at q
      rw [z, Bool.true_and] at q
      exact q
    · have q := k _ s1
      unfold isBalanced at q
      rw [Bool.eq_false_iff.mpr z, Bool.false_and] at q
      exact q
/-! ### circuits_by_trees -/
def spNat (g : Floor → Nat) : Sp := fun vs H Q _ => ∃ a f, vs = [.ref a] ∧ Pcs H a f ∧ Good f ∧ ∀ H', Same H H' → Q (nV (g f)) H'
theorem scByT : FnScope ["pieces", "found", "mark"] ["pieces"] (defScope (topS 34)) := ⟨rfl, rfl, rfl, by decide +kernel, rfl, by decide +kernel, by decide +kernel⟩
theorem begin_le {f : Floor} (g : Good f) (m : Nat) : beginCount f m ≤ 7 := Nat.le_trans (List.length_filter_le _ _) g.len
theorem ok_by_trees (D : DefAt K mg "circuits_by_trees" (topS 34)) (c1 : Cal P w K mg base 4 "is_balanced" (spBool isBalanced)) (c2 : Cal P w K mg base 4 "count_trees" (spCountG countTrees))
    (c3 : Cal P w K mg base 2 "used_marks" (spMade fun f => (usedMarks f).map nV)) (c4 : Cal P w K mg base 1 "factorial" spFact) (c5 : Cal P w K mg base 1 "begin_count" (spCount beginCount)) : Cal P w K mg base 5 "circuits_by_trees" (spNat circuitsByTrees) := by
  refine mk_cal D scByT (fun _ _ _ _ _ _ us hl => match us, hl with | [_], _ => rfl) (fun vs H Q E h => ?_) (fun fa cdv A outer s H vs Q E hr h => ?_)
  · obtain ⟨a, f, rfl, _⟩ := h
    rfl
  · have nd := scByT.nd
    refine ⟨_, pss_cons (ps_if (pt_not (pt_val (pe_c c1 hr (by decide) (by rfl) (pa_cons (pv 0) pa_nil)))) (pss_one (ps_ret pe_int)) pss_nil)
      (pss_cons (ps_set (i := 1) nd rfl (Or.inl rfl) (pe_c c2 hr (by decide) (by rfl) (pa_cons (pv 0) (pa_cons (pe_ix ix_tup (pe_ix ix_list (pv 0) pe_int (fun _ _ => rfl)) pe_int (fun _ _ => rfl)) pa_nil))))
      (pss_cons (ps_for PassesOwn.never rfl (pi_list (pe_c c3 hr (by decide) (by rfl) (pa_cons (pv 0) pa_nil))) (pgl (i := 2) nd rfl rfl)
        (pss_one (ps_set (i := 1) nd rfl (Or.inl rfl) (pe_op op_mul (pv 1) (pe_c c4 hr (by decide) (by rfl) (pa_cons (pe_op op_sub (pe_c c5 hr (by decide) (by rfl) (pa_cons (pv 0) (pa_cons (pv 2) pa_nil))) pe_int) pa_nil))))))
      (pss_one (ps_ret (pv 1))))), ?_⟩
    obtain ⟨a, f, rfl, hp, gf, k⟩ := h
    obtain ⟨xs, hx, px⟩ := id hp
    refine ⟨_, rfl, a, f, rfl, hp, gf, fun H1 s1 => ⟨_, rfl, ?_⟩⟩
    refine ite2 (fun z => ?_) (fun z => ?_)
    · have z : isBalanced f = false := by simpa using z
      have q := k _ s1
      unfold circuitsByTrees at q
      rw [z] at q
      exact q
    · have z : isBalanced f = true := by simpa using z
      have hne : 0 < f.length := by
        refine List.length_pos_iff.mpr fun e => ?_
        rw [e] at z
        exact absurd z (by decide)
      obtain ⟨t, g1, h1⟩ := Pcs.get px hne
      refine ⟨_, rfl, _, rfl, a, _, _, _, rfl, rfl, SqL.of (s1 _ _ hx), atI_nat (j := 0) g1, t, _, _, _, rfl, rfl, SqT.of (s1 _ _ h1), atI_nat (j := 0) rfl, ?_⟩
      refine ⟨a, f, _, rfl, hp.same s1, gf, fun H2 s2 => ?_⟩
      have t2 := s1.trans s2
      refine ⟨_, rfl, a, f, rfl, hp.same t2, gf, fun H3 p s3 np e3 => ?_⟩
      have t3 := t2.trans s3
      refine ⟨p, rfl, ⟨_, SqL.of e3⟩, ?_⟩
      refine for_it walk_list (fun i σ H' => ∃ v2, σ = [some (.ref a), some (nV (((usedMarks f).take i).foldl (fun a m => a * Sr115.factorial (beginCount f m - 1)) (countTrees f (pieceAt f 0).left))), v2] ∧ Same H3 H')
        ⟨none, rfl, Same.refl _⟩ (fun i σ H' _ ⟨_, _, s⟩ => SqL.of (s _ _ e3)) ?_ ?_
      · rintro i x σ H4 H5 hi ⟨v2, rfl, s4⟩ ⟨rfl, ex⟩
        have hi' : i < (usedMarks f).length := by rw [List.length_map] at hi; exact hi
        have em : (usedMarks f)[i]? = some (usedMarks f)[i] := List.getElem?_eq_getElem hi'
        generalize (usedMarks f)[i] = m at em
        rw [map_get em] at ex
        cases ex
        have b7 := begin_le gf m
        refine ⟨_, rfl, _, rfl, _, rfl, a, f, m, rfl, hp.same (t3.trans s4), gf.len, fun H6 s6 => ⟨_, _, rfl, rfl, ?_⟩⟩
        have en : ((beginCount f m : Nat) : Int) - 1 = ((beginCount f m : Nat) : Int) - 1 := rfl
        refine ⟨_, rfl, by omega, by omega, ?_⟩
        have e1 : (((beginCount f m : Nat) : Int) - 1).toNat = beginCount f m - 1 := by omega
        have hf := fact_le (beginCount f m - 1) (by omega)
        rw [e1]
        refine ⟨_, _, rfl, rfl, .inr ⟨by omega, by omega⟩, some (nV m), ?_, s4.trans s6⟩
        rw [take_more em, List.foldl_append]
        generalize ((usedMarks f).take i).foldl (fun a m => a * Sr115.factorial (beginCount f m - 1)) (countTrees f (pieceAt f 0).left) = z0
        show [some (V.ref a), some (V.int ((z0 : Int) * ((Sr115.factorial (beginCount f m - 1) : Nat) : Int))), some (nV m)] = [some (V.ref a), some (nV (z0 * Sr115.factorial (beginCount f m - 1))), some (nV m)]
        rw [← Int.natCast_mul]
      · rintro σ H4 ⟨v2, rfl, s4⟩
        rw [List.length_map, List.take_length]
        refine ⟨_, rfl, ?_⟩
        have q := k _ (t3.trans s4)
        unfold circuitsByTrees at q
        rw [if_pos z] at q
        exact q
end
end BB
set_option Elab.async false
set_option maxRecDepth 100000
set_option maxHeartbeats 2000000
set_option linter.all false
namespace BB
open PySem PySem.Spec PyProof.Rows L2
open Sr115 (Piece Floor pieceAt)
def rLenK (K : PySem.W.Frag) : List V → Hp → VK → Prop := fun xs H Q => ∃ p ys, xs = [.ref p] ∧ (SqL K H p ys ∨ SqT K H p ys) ∧ Q (.int ys.length) H
theorem call_lenK {X : Cx} {K : PySem.W.Frag} (hK : X.K = K) : CallR X (.builtin "len") (rLenK K) := by subst hK; exact call_len_seq
theorem ix_listK {X : Cx} {K : PySem.W.Frag} (hK : X.K = K) : IxR X (rIxL K) := by subst hK; exact ix_list
theorem op_neDK {X : Cx} {K : PySem.W.Frag} (hK : X.K = K) (hu : X.A.units + 64 < cLine) : OpR X (compareOp .NotEq) (rNeD K) := by subst hK; exact op_neD hu
section
variable {P : Program} {w : World} {K : PySem.W.Frag} {mg : Str → Option Value} {base : Heap}
/-! ### are_elements -/
def spElems : Sp := fun vs H Q _ => ∃ a t f ns, vs = [.ref a, .ref t] ∧ Pcs H a f ∧ H t = some (.lst (ns.map V.int)) ∧ ns.length ≤ 16777216 ∧ ∀ H', Same H H' → Q (.bl (areElements f ns)) H'
theorem scElems : FnScope ["pieces", "chains", "element"] ["pieces", "chains"] (defScope (topS 9)) := ⟨rfl, rfl, rfl, by decide +kernel, rfl, by decide +kernel, by decide +kernel⟩
theorem ok_elements (D : DefAt K mg "are_elements" (topS 9)) (T : Txt mg) : Cal P w K mg base 1 "are_elements" spElems := by
  refine mk_cal D scElems (fun _ _ _ _ _ _ us hl => match us, hl with | [_, _], _ => rfl) (fun vs H Q E h => ?_) (fun fa cdv A outer s H vs Q E hr h => ?_)
  · obtain ⟨a, t, f, ns, rfl, _⟩ := h
    rfl
  · have nd := scElems.nd
    refine ⟨_, pss_one (ps_ret (pe_and (pe_cmpR (op_neD hr.units) (pv 1) (pe_lst pa_nil) (nomark _))
      (pe_one (pe_callB (cr_all rfl) (by rfl) T.all bb_all (pa_cons (pe_lc (own := [("element", 2)]) rfl nd
        (pi_list (pv 1)) (blkOk_by (N := ["pieces", "chains", "element"]) (sc := defScope (topS 9)) (by decide +kernel))
        (fun _ _ _ _ _ => by exact pgl (i := 2) nd rfl rfl) (fun _ _ _ _ _ => pts_nil)
        (fun _ _ _ _ _ => by exact pe_chain op_le op_lt (pe_k (by rfl) T.cBetween) (pv 2) (pe_callB (call_lenK (K := K) rfl) (by rfl) T.len bb_len (pa_cons (pv 0) pa_nil)))) pa_nil))))), ?_⟩
    obtain ⟨a, t, f, ns, rfl, hp, ht, hlen, k⟩ := h
    obtain ⟨xs, hx, px⟩ := id hp
    refine ⟨_, rfl, Nat.zero_le _, fun p np => ?_⟩
    have s1 : Same H (upd H p (.lst [])) := same_new np
    refine ne_ints_ok (ns := ns) (ms := []) (SqL.of (s1 _ _ ht)) (SqL.of upd_same) ⟨_, rfl, ?_⟩
    have k : ∀ H', Same H H' → Q (.bl (decide (ns ≠ []) && ns.all fun e => decide (-1 ≤ e) && decide (e < f.length))) H' := k
    refine ite2 (fun z => ?_) (fun z => ?_)
    · have z : ns ≠ [] := by simpa using z
      refine ⟨_, rfl, t, rfl, ⟨_, SqL.of (s1 _ _ ht)⟩, fun L nL => ?_⟩
      refine lc_fm walk_list ns (by rw [List.length_map]) nL (by rw [List.length_map]; exact bigLine hlen) (fun H' s => SqL.of (s _ _ (s1 _ _ ht))) (fun _ => true) (fun e => decide (-1 ≤ e) && decide (e < f.length)) (fun _ v b => v = V.bl b) (st_flat _) ?_ ?_
      · rintro i x e H3 H4 Nx ey s3 ⟨rfl, ex⟩ _ skip fin
        rw [map_get ey] at ex
        cases ex
        refine ⟨rfl, lcYes ?_⟩
        refine ⟨_, rfl, _, _, rfl, rfl, _, rfl, ?_⟩
        have hl : ((xs.length : Nat) : Int) = (f.length : Int) := by rw [px.length]
        refine ite2 (fun y => ⟨_, rfl, a, _, rfl, .inl (SqL.of (s3 _ _ (s1 _ _ hx))), _, _, rfl, rfl, fin _ _ (Same.refl _) ?_ rfl⟩) (fun y => fin _ _ (Same.refl _) ?_ rfl)
        · rw [hl, y, Bool.true_and]
        · rw [Bool.eq_false_iff.mpr y, Bool.false_and]
      · intro H3 out s3 eo po
        have ef : ns.filter (fun _ => true) = ns := List.filter_eq_self.mpr fun _ _ => rfl
        rw [ef] at po
        rw [paired_bls po] at eo
        refine ⟨L, _, rfl, SqL.of eo, ?_⟩
        have q := k H3 (s1.trans s3)
        rw [decide_eq_true z, Bool.true_and] at q
        have e : (ns.map fun (e : Int) => decide (-1 ≤ e) && decide (e < (f.length : Int))).all id = ns.all fun (e : Int) => decide (-1 ≤ e) && decide (e < (f.length : Int)) := by
          rw [List.all_map]
          rfl
        rw [e]
        exact q
    · have z : ns = [] := by simpa using z
      have q := k _ s1
      rw [z] at q
      exact q
/-! ### split_lists -/
/-- a row at v: a list of whole numbers -/
def IsRow (H : Hp) (v : V) (r : List Int) : Prop := ∃ t, v = .ref t ∧ H t = some (.lst (r.map V.int))
def IsRowN (L : Addr) (H : Hp) (v : V) (r : List Int) : Prop := ∃ t, v = .ref t ∧ t ≠ L ∧ H t = some (.lst (r.map V.int))
def Rows (H : Hp) (a : Addr) (rs : List (List Int)) : Prop := ∃ xs, H a = some (.lst xs) ∧ Paired (IsRow H) xs rs
def splitAt (ns : List Int) (i : Nat) : List (List Int) × List Int := (ns.take i).foldl splitTurn ([], [])
theorem splitAt_succ {ns : List Int} {i : Nat} {x : Int} (h : ns[i]? = some x) : splitAt ns (i + 1) = splitTurn (splitAt ns i) x := by
  unfold splitAt
  rw [take_more h, List.foldl_append]
  rfl
theorem split_sizes : ∀ (l : List Int) (s : List (List Int) × List Int), (l.foldl splitTurn s).1.length + (l.foldl splitTurn s).2.length ≤ s.1.length + s.2.length + l.length
  | [], s => by simp
  | x :: l, s => by
    rw [List.foldl_cons]
    refine Nat.le_trans (split_sizes l _) ?_
    unfold splitTurn
    split
    · simp; omega
    · simp; omega
theorem splitAt_sizes (ns : List Int) (i : Nat) : (splitAt ns i).1.length + (splitAt ns i).2.length ≤ ns.length := by
  have h := split_sizes (ns.take i) ([], [])
  have h2 := List.length_take_le' i ns
  unfold splitAt
  simp only [List.length_nil] at h
  omega
def spSplit : Sp := fun vs H Q _ => ∃ t ns, vs = [.ref t] ∧ H t = some (.lst (ns.map V.int)) ∧ ns.length ≤ 16000000 ∧ ∀ H' p, Same H H' → H p = none → Rows H' p (splitLists ns) → Q (.ref p) H'
theorem scSplit : FnScope ["chains", "found", "current", "element"] ["chains"] (defScope (topS 10)) := ⟨rfl, rfl, rfl, by decide +kernel, rfl, by decide +kernel, by decide +kernel⟩
theorem ok_split (D : DefAt K mg "split_lists" (topS 10)) (T : Txt mg) : Cal P w K mg base 1 "split_lists" spSplit := by
  refine mk_cal D scSplit (fun _ _ _ _ _ _ us hl => match us, hl with | [_], _ => rfl) (fun vs H Q E h => ?_) (fun fa cdv A outer s H vs Q E hr h => ?_)
  · obtain ⟨t, ns, rfl, _⟩ := h
    rfl
  · have nd := scSplit.nd
    refine ⟨_, pss_cons (ps_par (i := 1) (j := 2) (by rfl) nd rfl rfl (by decide) rfl rfl (pa_cons (pe_lst pa_nil) (pa_cons (pe_lst pa_nil) pa_nil)) (by rfl))
      (pss_cons (ps_for PassesOwn.never rfl (pi_list (pv 0)) (pgl (i := 3) nd rfl rfl)
        (pss_one (ps_if (pt_cmpR op_eq (pv 3) (pe_k (by rfl) T.cBetween) (nomark _))
          (pss_cons (ps_expr (pe_bm PySem.F.plainAttrs_list PySem.F.slot_list_append PySem.F.type_list_append mt_append (pv 1) (pa_cons (pv 2) pa_nil)))
          (pss_one (ps_set (i := 2) nd rfl (Or.inl rfl) (pe_lst pa_nil))))
          (pss_one (ps_set (i := 2) nd rfl (Or.inl rfl) (pe_op op_cat (pv 2) (pe_lst (pa_cons (pv 3) pa_nil))))))))
      (pss_cons (ps_expr (pe_bm PySem.F.plainAttrs_list PySem.F.slot_list_append PySem.F.type_list_append mt_append (pv 1) (pa_cons (pv 2) pa_nil)))
      (pss_one (ps_ret (pv 1))))), ?_⟩
    obtain ⟨t, ns, rfl, ht, hlen, k⟩ := h
    refine ⟨Nat.zero_le _, fun L nL => ⟨Nat.zero_le _, fun C nC => ?_⟩⟩
    have s1 : Same H (upd H L (.lst [])) := same_new nL
    have s2 := s1.trans (same_new (o := .lst []) nC)
    have hLC : C ≠ L := Ne.symm (ne_of_none upd_same nC)
    refine ⟨_, _, rfl, ?_⟩
    refine ⟨_, rfl, t, rfl, ⟨_, SqL.of (s2 _ _ ht)⟩, ?_⟩
    refine for_it walk_list (fun i σ H' => ∃ C out v3, σ = [some (.ref t), some (.ref L), some (.ref C), v3] ∧ Same H H' ∧ H' L = some (.lst out) ∧ Paired (IsRowN L H') out (splitAt ns i).1 ∧ C ≠ L ∧ H' C = some (.lst ((splitAt ns i).2.map V.int)))
      ⟨C, [], none, rfl, s2, by rw [upd_ne (Ne.symm hLC)]; exact upd_same, .nil, hLC, upd_same⟩ (fun i σ H' _ ⟨_, _, _, _, s, _⟩ => SqL.of (s _ _ ht)) ?_ ?_
    · rintro i x σ H3 H4 hi ⟨C, out, v3, rfl, s3, eL, pL, hC, eC⟩ ⟨rfl, ex⟩
      have hi' : i < ns.length := by rw [List.length_map] at hi; exact hi
      have em : ns[i]? = some ns[i] := List.getElem?_eq_getElem hi'
      generalize ns[i] = e at em
      rw [map_get em] at ex
      cases ex
      have sz := splitAt_sizes ns i
      have step := splitAt_succ em
      have hpl := pL.length
      refine ⟨_, rfl, rfl, _, rfl, ?_⟩
      refine ite2 (fun z => ?_) (fun z => ?_)
      · have z : e = -1 := V.int.inj (of_decide_eq_true z)
        refine ⟨_, rfl, .inl ⟨rfl, _, SqL.of eL⟩, ?_⟩
        refine ⟨_, rfl, L, out, _, rfl, rfl, eL, ?_, ?_⟩
        · have : out.length < 16777216 := by omega
          rw [PySem.sizeLine_eq]; exact this
        · refine ⟨Nat.zero_le _, fun C2 nC2 => ?_⟩
          have kp : Kp L H4 (upd H4 L (.lst (out ++ [V.ref C]))) := kp_upd
          have sN := same_new (o := .lst []) nC2
          refine ⟨C2, out ++ [V.ref C], _, rfl, (same_old s3 nL).trans sN, sN _ _ upd_same, ?_, Ne.symm (ne_of_none upd_same nC2), ?_⟩
          · rw [step]
            unfold splitTurn
            rw [if_pos z]
            exact paired_append (pL.mono fun _ _ ⟨u, e1, e2, e3⟩ => ⟨u, e1, e2, sN _ _ (kp _ _ e3 e2)⟩) (.cons ⟨C, rfl, hC, sN _ _ (kp _ _ eC hC)⟩ .nil)
          · rw [step]
            unfold splitTurn
            rw [if_pos z]
            exact upd_same
      · have z : e ≠ -1 := fun y => z (by rw [y]; exact decide_eq_true rfl)
        refine ⟨_, rfl, _, rfl, (by show 1 ≤ sizeLine; exact bigLine (by decide)), fun E1 nE => ?_⟩
        have sE := same_new (o := .lst [V.int e]) nE
        refine ⟨C, E1, _, _, rfl, rfl, sE _ _ eC, upd_same, ?_, fun C2 nC2 => ?_⟩
        · rw [List.length_map]
          exact bigLine (by show _ + 1 ≤ _; omega)
        · have sN := sE.trans (same_new (o := .lst ((splitAt ns i).2.map V.int ++ [V.int e])) nC2)
          refine ⟨C2, out, _, rfl, s3.trans sN, sN _ _ eL, ?_, Ne.symm (ne_of_none (sE _ _ eL) nC2), ?_⟩
          · rw [step]
            unfold splitTurn
            rw [if_neg z]
            exact pL.mono fun _ _ ⟨u, e1, e2, e3⟩ => ⟨u, e1, e2, sN _ _ e3⟩
          · rw [step]
            unfold splitTurn
            rw [if_neg z, upd_same, List.map_append]
            rfl
    · rintro σ H3 ⟨C, out, v3, rfl, s3, eL, pL, hC, eC⟩
      have sz := splitAt_sizes ns ns.length
      have ea : splitAt ns (List.map V.int ns).length = ns.foldl splitTurn ([], []) := by
        unfold splitAt
        rw [List.length_map, List.take_length]
      have hpl := pL.length
      have sz2 := splitAt_sizes ns (List.map V.int ns).length
      refine ⟨_, rfl, .inl ⟨rfl, _, SqL.of eL⟩, ?_⟩
      refine ⟨_, rfl, L, out, _, rfl, rfl, eL, ?_, ?_⟩
      · have : out.length < 16777216 := by omega
        rw [PySem.sizeLine_eq]; exact this
      · refine ⟨_, rfl, ?_⟩
        have kp : Kp L H3 (upd H3 L (.lst (out ++ [V.ref C]))) := kp_upd
        refine k _ L (same_old s3 nL) nL ⟨out ++ [V.ref C], upd_same, ?_⟩
        show Paired _ _ ((ns.foldl splitTurn ([], [])).1 ++ [(ns.foldl splitTurn ([], [])).2])
        rw [← ea]
        exact paired_append (pL.mono fun _ _ ⟨u, e1, e2, e3⟩ => ⟨u, e1, kp _ _ e3 e2⟩) (.cons ⟨C, rfl, kp _ _ eC hC⟩ .nil)
/-! ### do_fit, is_linked -/
def spFit : Sp := fun vs H Q _ => ∃ a f i j, vs = [.ref a, nV i, nV j] ∧ Pcs H a f ∧ i < f.length ∧ j < f.length ∧ Q (.bl (fits f i j)) H
theorem scFit : FnScope ["pieces", "one", "other"] ["pieces", "one", "other"] (defScope (topS 11)) := ⟨rfl, rfl, rfl, by decide +kernel, rfl, by decide +kernel, by decide +kernel⟩
theorem ok_fit (D : DefAt K mg "do_fit" (topS 11)) : Cal P w K mg base 1 "do_fit" spFit := by
  refine mk_cal D scFit (fun _ _ _ _ _ _ us hl => match us, hl with | [_, _, _], _ => rfl) (fun vs H Q E h => ?_) (fun fa cdv A outer s H vs Q E hr h => ?_)
  · obtain ⟨a, f, i, j, rfl, _⟩ := h
    rfl
  · refine ⟨_, pss_one (ps_ret (pe_cmpR op_eq (pe_ix ix_tup (pe_ix ix_list (pv 0) (pv 1) (fun _ _ => rfl)) pe_int (fun _ _ => rfl)) (pe_ix ix_tup (pe_ix ix_list (pv 0) (pv 2) (fun _ _ => rfl)) pe_int (fun _ _ => rfl)) (nomark _))), ?_⟩
    obtain ⟨a, f, i, j, rfl, hp, hi, hj, k⟩ := h
    obtain ⟨xs, hx, px⟩ := id hp
    obtain ⟨t1, g1, h1⟩ := Pcs.get px hi
    obtain ⟨t2, g2, h2⟩ := Pcs.get px hj
    refine ⟨_, rfl, _, rfl, a, _, _, _, rfl, rfl, SqL.of hx, atI_nat g1, t1, _, _, _, rfl, rfl, SqT.of h1, atI_nat (j := 1) rfl, ?_⟩
    refine ⟨_, rfl, _, rfl, a, _, _, _, rfl, rfl, SqL.of hx, atI_nat g2, t2, _, _, _, rfl, rfl, SqT.of h2, atI_nat (j := 0) rfl, rfl, ?_⟩
    have ee : decide (nV (pieceAt f i).right = nV (pieceAt f j).left) = fits f i j := by
      unfold fits
      rw [Bool.eq_iff_iff, dec_nV, beq_iff_eq]
    show Q (.bl (decide (nV (pieceAt f i).right = nV (pieceAt f j).left))) H
    rw [ee]
    exact k
def spLinked : Sp := fun vs H Q _ => ∃ a t f r, vs = [.ref a, .ref t] ∧ Pcs H a f ∧ H t = some (.lst (r.map nV)) ∧ (∀ i ∈ r, i < f.length) ∧ r.length ≤ 16000000 ∧ ∀ H', Same H H' → Q (.bl (isLinked f r)) H'
theorem scLinked : FnScope ["pieces", "row", "place"] ["pieces", "row"] (defScope (topS 12)) := ⟨rfl, rfl, rfl, by decide +kernel, rfl, by decide +kernel, by decide +kernel⟩
theorem ok_linked (D : DefAt K mg "is_linked" (topS 12)) (T : Txt mg) (c1 : Cal P w K mg base 1 "do_fit" spFit) : Cal P w K mg base 2 "is_linked" spLinked := by
  refine mk_cal D scLinked (fun _ _ _ _ _ _ us hl => match us, hl with | [_, _], _ => rfl) (fun vs H Q E h => ?_) (fun fa cdv A outer s H vs Q E hr h => ?_)
  · obtain ⟨a, t, f, r, rfl, _⟩ := h
    rfl
  · have nd := scLinked.nd
    refine ⟨_, pss_one (ps_ret (pe_callB (cr_all rfl) (by rfl) T.all bb_all (pa_cons (pe_lc (own := [("place", 2)]) rfl nd
        (pi_range1 (by rfl) T.range (pa_cons (pe_op op_sub (pe_callB call_len_seq (by rfl) T.len bb_len (pa_cons (pv 1) pa_nil)) pe_int) pa_nil)) (blkOk_by (N := ["pieces", "row", "place"]) (sc := defScope (topS 12)) (by decide +kernel))
        (fun _ _ _ _ _ => by exact pgl (i := 2) nd rfl rfl) (fun _ _ _ _ _ => pts_nil)
        (fun _ _ _ _ _ => by exact pe_c c1 hr (by decide) (by rfl) (pa_cons (pv 0) (pa_cons (pe_ix (ix_listK (K := K) rfl) (pv 1) (pv 2) (fun _ _ => rfl)) (pa_cons (pe_ix (ix_listK (K := K) rfl) (pv 1) (pe_op op_add (pv 2) pe_int) (fun _ _ => rfl)) pa_nil))))) pa_nil))), ?_⟩
    obtain ⟨a, t, f, r, rfl, hp, ht, hin, hlen, k⟩ := h
    refine ⟨_, rfl, t, _, rfl, .inl (SqL.of ht), _, _, rfl, rfl, _, rfl, by omega, by rw [List.length_map]; omega, fun L nL => ?_⟩
    have en : (((r.map nV).length : Int) - 1).toNat = r.length - 1 := by rw [List.length_map]; omega
    rw [en]
    refine lc_fm walk_range0 (List.range (r.length - 1)) List.length_range nL (bigLine (by omega)) (fun H' s => trivial) (fun _ => true) (fun k => fits f (r.getD k 0) (r.getD (k + 1) 0)) (fun _ v b => v = V.bl b) (st_flat _) ?_ ?_
    · rintro i x j H3 H4 Nx ey s3 ⟨rfl, rfl⟩ _ skip fin
      obtain ⟨rfl, hi⟩ := getElem_range ey
      have g1 := getD_some (l := r) (i := j) (by omega)
      have g2 := getD_some (l := r) (i := j + 1) (by omega)
      refine ⟨rfl, lcYes ?_⟩
      refine ⟨_, rfl, _, rfl, _, rfl, t, _, _, _, rfl, rfl, SqL.of (s3 _ _ ht), atI_nat (map_get g1), ?_⟩
      refine ⟨_, rfl, _, rfl, _, _, rfl, rfl, t, _, _, _, rfl, rfl, SqL.of (s3 _ _ ht), atI_nat (j := j + 1) (map_get g2), ?_⟩
      exact ⟨a, f, _, _, rfl, hp.same s3, hin _ (List.mem_of_getElem? g1), hin _ (List.mem_of_getElem? g2), fin _ _ (Same.refl _) rfl rfl⟩
    · intro H3 out s3 eo po
      have ef : (List.range (r.length - 1)).filter (fun _ => true) = List.range (r.length - 1) := List.filter_eq_self.mpr fun _ _ => rfl
      rw [ef] at po
      rw [paired_bls po] at eo
      refine ⟨L, _, rfl, SqL.of eo, ?_⟩
      have e : ((List.range (r.length - 1)).map fun k => fits f (r.getD k 0) (r.getD (k + 1) 0)).all id = isLinked f r := by
        rw [List.all_map]
        rfl
      rw [e]
      exact k H3 s3
end
end BB
set_option Elab.async false
set_option maxRecDepth 100000
set_option maxHeartbeats 2000000
set_option linter.all false
namespace BB
open PySem PySem.Spec PyProof.Rows L2
open Sr115 (Piece Floor pieceAt)
section
variable {P : Program} {w : World} {K : PySem.W.Frag} {mg : Str → Option Value} {base : Heap}
/-! ### are_right -/
def IsRw (H : Hp) (v : V) (r : List Nat) : Prop := ∃ t, v = .ref t ∧ H t = some (.lst (r.map nV))
def spRight : Sp := fun vs H Q _ => ∃ a b f rows ys, vs = [.ref a, .ref b] ∧ Pcs H a f ∧ f.length ≤ 7 ∧ H b = some (.lst ys) ∧ Paired (IsRw H) ys rows ∧ (∀ r ∈ rows, ∀ i ∈ r, i < f.length) ∧ rows.length ≤ 16000000 ∧ rows.flatten.length ≤ 16000000 ∧
  ∀ H', Same H H' → Q (.bl (areRight f rows)) H'
theorem scRight : FnScope ["pieces", "lists", "row", "together"] ["pieces", "lists"] (defScope (topS 13)) := ⟨rfl, rfl, rfl, by decide +kernel, rfl, by decide +kernel, by decide +kernel⟩
theorem flat_take_le {α : Type} : ∀ (rows : List (List α)) (i : Nat), (rows.take i).flatten.length ≤ rows.flatten.length
  | [], i => by simp
  | r :: rows, 0 => by simp
  | r :: rows, i + 1 => by
    have := flat_take_le rows i
    simp only [List.take_succ_cons, List.flatten_cons, List.length_append]
    omega
theorem mem_flat_le {α : Type} : ∀ (rows : List (List α)) {r : List α}, r ∈ rows → r.length ≤ rows.flatten.length
  | [], _, h => nomatch h
  | q :: rows, r, h => by
    rw [List.flatten_cons, List.length_append]
    rcases List.mem_cons.mp h with z | z
    · rw [z]; omega
    · have := mem_flat_le rows z
      omega
theorem ok_right (D : DefAt K mg "are_right" (topS 13)) (T : Txt mg) (c1 : Cal P w K mg base 2 "is_linked" spLinked) : Cal P w K mg base 3 "are_right" spRight := by
  refine mk_cal D scRight (fun _ _ _ _ _ _ us hl => match us, hl with | [_, _], _ => rfl) (fun vs H Q E h => ?_) (fun fa cdv A outer s H vs Q E hr h => ?_)
  · obtain ⟨a, b, f, rows, ys, rfl, _⟩ := h
    rfl
  · have nd := scRight.nd
    refine ⟨_, pss_cons (ps_if (pt_not (pt_val (pe_callB (cr_all rfl) (by rfl) T.all bb_all (pa_cons (pe_lc (own := [("row", 2)]) rfl nd
        (pi_list (pv 1)) (blkOk_by (N := ["pieces", "lists", "row", "together"]) (sc := defScope (topS 13)) (by decide +kernel))
        (fun _ _ _ _ _ => by exact pgl (i := 2) nd rfl rfl) (fun _ _ _ _ _ => pts_nil)
        (fun _ _ _ _ _ => by exact pe_and (pe_cmpR (op_neDK (K := K) rfl hr.units) (pv 2) (pe_lst pa_nil) (nomark _)) (pe_one (pe_c c1 hr (by decide) (by rfl) (pa_cons (pv 0) (pa_cons (pv 2) pa_nil)))))) pa_nil)))) (pss_one (ps_ret pe_bl)) pss_nil)
      (pss_cons (ps_set (i := 3) nd rfl (Or.inl rfl) (pe_lst pa_nil))
      (pss_cons (ps_for PassesOwn.never rfl (pi_list (pv 1)) (pgl (i := 2) nd rfl rfl)
        (pss_one (ps_expr (pe_bm PySem.F.plainAttrs_list PySem.F.slot_list_extend PySem.F.type_list_extend mt_extend (pv 3) (pa_cons (pv 2) pa_nil)))))
      (pss_one (ps_ret (pe_cmpR (op_eqD hr.units) (pe_callB cr_sortedI (by rfl) T.sorted bb_sorted (pa_cons (pv 3) pa_nil))
        (pe_listRg rfl (by rfl) T.list (prg_1 (by rfl) T.range (pe_callB call_len_seq (by rfl) T.len bb_len (pa_cons (pv 0) pa_nil)))) (nomark _)))))), ?_⟩
    obtain ⟨a, b, f, rows, ys, rfl, hp, hf, hb, py, hin, hrl, hfl, k⟩ := h
    obtain ⟨xs, hx, px⟩ := id hp
    refine ⟨_, rfl, b, rfl, ⟨_, SqL.of hb⟩, fun L nL => ?_⟩
    refine lc_fm walk_list rows py.length.symm nL (by rw [py.length]; exact bigLine (by omega)) (fun H' s => SqL.of (s _ _ hb)) (fun _ => true) (rowOk f) (fun _ v b => v = V.bl b) (st_flat _) ?_ ?_
    · rintro i x r H3 H4 Nx ey s3 ⟨rfl, ex⟩ _ skip fin
      obtain ⟨r', er, t, rfl, ht⟩ := paired_get py ex
      rw [ey] at er
      cases er
      have hm := List.mem_of_getElem? ey
      refine ⟨rfl, lcYes ?_⟩
      refine ⟨_, rfl, Nat.zero_le _, fun p np => ?_⟩
      have s4 := same_new (o := .lst []) np
      refine ne_ints_ok (ns := r.map fun (j : Nat) => (j : Int)) (ms := []) (by rw [← map_nV]; exact SqL.of (s4 _ _ (s3 _ _ ht))) (SqL.of upd_same) ⟨_, rfl, ?_⟩
      have ed : (!decide ((r.map fun (j : Nat) => (j : Int)) = [])) = decide (r ≠ []) := by
        cases r <;> simp
      rw [ed]
      refine ite2 (fun z => ?_) (fun z => ?_)
      · refine ⟨_, rfl, _, rfl, a, t, f, r, rfl, hp.same (s3.trans s4), s4 _ _ (s3 _ _ ht), hin r hm, Nat.le_trans (mem_flat_le rows hm) hfl, fun H5 s5 => ?_⟩
        refine fin _ _ (s4.trans s5) ?_ rfl
        unfold rowOk
        rw [z, Bool.true_and]
      · refine fin _ _ s4 ?_ rfl
        unfold rowOk
        rw [Bool.eq_false_iff.mpr z, Bool.false_and]
    · intro H3 out s3 eo po
      have ef : rows.filter (fun _ => true) = rows := List.filter_eq_self.mpr fun _ _ => rfl
      rw [ef] at po
      rw [paired_bls po] at eo
      refine ⟨L, _, rfl, SqL.of eo, _, rfl, ?_⟩
      have e : (rows.map (rowOk f)).all id = rows.all (rowOk f) := by
        rw [List.all_map]
        rfl
      rw [e]
      have k' : ∀ H', Same H H' → Q (.bl (rows.all (rowOk f) && (decide rows.flatten.Nodup && decide (rows.flatten.length = f.length)))) H' := k
      refine ite2 (fun z => ?_) (fun z => ?_)
      · have z : rows.all (rowOk f) = false := by simpa using z
        have q := k' H3 s3
        rw [z, Bool.false_and] at q
        exact q
      · have z : rows.all (rowOk f) = true := by simpa using z
        refine ⟨Nat.zero_le _, fun M nM => ?_⟩
        have s4 := s3.trans (same_new (o := .lst []) nM)
        refine ⟨_, rfl, b, rfl, ⟨_, SqL.of (s4 _ _ hb)⟩, ?_⟩
        refine for_it walk_list (fun i σ H' => ∃ v2, σ = [some (.ref a), some (.ref b), v2, some (.ref M)] ∧ Same H3 H' ∧ H' M = some (.lst ((rows.take i).flatten.map nV)))
          ⟨_, rfl, same_new nM, upd_same⟩ (fun i σ H' _ ⟨_, _, s, _⟩ => SqL.of (s _ _ (s3 _ _ hb))) ?_ ?_
        · rintro i x σ H5 H6 hi ⟨v2, rfl, s5, eM⟩ ⟨rfl, ex⟩
          obtain ⟨r, er, t, rfl, ht⟩ := paired_get py ex
          have step : (rows.take (i + 1)).flatten = (rows.take i).flatten ++ r := by
            rw [take_more er, List.flatten_append]
            simp
          have hle := flat_take_le rows (i + 1)
          rw [step, List.length_append] at hle
          refine ⟨_, rfl, .inl ⟨rfl, _, SqL.of eM⟩, ?_⟩
          refine ⟨_, rfl, M, t, _, _, rfl, rfl, eM, s5 _ _ (s3 _ _ ht), ?_, ?_⟩
          · rw [List.length_map, List.length_map]
            exact bigLine (by omega)
          · refine ⟨some (.ref t), rfl, same_old s5 nM, ?_⟩
            rw [upd_same, step, List.map_append]
        · rintro σ H5 ⟨v2, rfl, s5, eM⟩
          rw [py.length, List.take_length] at eM
          have t5 := s3.trans s5
          refine ⟨_, rfl, M, rows.flatten.map fun (j : Nat) => (j : Int), rfl, by rw [← map_nV]; exact SqL.of eM, fun ns' p perm srt np => ?_⟩
          have s6 := same_new (o := .lst (ns'.map V.int)) np
          refine ⟨_, rfl, a, _, rfl, .inl (SqL.of (s6 _ _ (t5 _ _ hx))), _, rfl, RgOk.of_le (by decide) (by rw [px.length]; omega) (by decide) (by omega), fun q nq => ?_⟩
          have s7 := same_new (o := .lst (rgV 0 (xs.length : Int))) nq
          have e8 : upd (upd H5 p (.lst (ns'.map V.int))) q (.lst (rgV 0 (xs.length : Int))) q = some (.lst (((List.range f.length).map fun (j : Nat) => (j : Int)).map V.int)) := by
            rw [upd_same, rgV_nat, px.length, ← map_nV]
          refine eq_ints_ok (ns := ns') (ms := (List.range f.length).map fun (j : Nat) => (j : Int)) (SqL.of (s7 _ _ upd_same)) (SqL.of e8) ?_
          have hall : ∀ i ∈ rows.flatten, i < f.length := by
            intro i hi
            obtain ⟨r, hr', hi'⟩ := List.mem_flatten.mp hi
            exact hin r hr' i hi'
          rw [sorted_eq hall perm srt]
          have q2 := k' _ (t5.trans (s6.trans s7))
          rw [z, Bool.true_and] at q2
          exact q2
end
end BB
set_option Elab.async false
set_option maxRecDepth 100000
set_option maxHeartbeats 2000000
set_option linter.all false
namespace BB
open PySem PySem.Spec PyProof.Rows L2
open Sr115 (Piece Floor pieceAt)
theorem kp_free {a p : Addr} {H H' : Hp} {u : HO} (k : Kp a H H') (e : H' a = some u) (n : H' p = none) : H p = none := by
  cases q : H p with
  | none => rfl
  | some o =>
    have hpa : p ≠ a := by rintro rfl; rw [e] at n; cases n
    rw [k p o q hpa] at n
    cases n
section
variable {P : Program} {w : World} {K : PySem.W.Frag} {mg : Str → Option Value} {base : Heap}
/-! ### new_piece_error -/
def spErr : Sp := fun vs H Q _ => ∃ a f l r, vs = [.ref a, .int l, .int r] ∧ Pcs H a f ∧ New H (.lst ((errOf f l r).map V.int)) Q
theorem scErr : FnScope ["pieces", "left", "right"] ["pieces", "left", "right"] (defScope (topS 41)) := ⟨rfl, rfl, rfl, by decide +kernel, rfl, by decide +kernel, by decide +kernel⟩
theorem one_le : 1 ≤ sizeLine := bigLine (by decide)
theorem ok_err (D : DefAt K mg "new_piece_error" (topS 41)) (T : Txt mg) (c1 : Cal P w K mg base 2 "are_marks" spAreMarks) : Cal P w K mg base 3 "new_piece_error" spErr := by
  refine mk_cal D scErr (fun _ _ _ _ _ _ us hl => match us, hl with | [_, _, _], _ => rfl) (fun vs H Q E h => ?_) (fun fa cdv A outer s H vs Q E hr h => ?_)
  · obtain ⟨a, f, l, r, rfl, _⟩ := h
    rfl
  · refine ⟨_, pss_cons (ps_if (pt_not (pt_val (pe_c c1 hr (by decide) (by rfl) (pa_cons (pv 1) (pa_cons (pv 2) pa_nil))))) (pss_one (ps_ret (pe_lst (pa_cons (pe_k (by rfl) T.cOut) pa_nil)))) pss_nil)
      (pss_one (ps_ret (pe_ifExp (pt_cmpR op_ge (pe_callB call_len_seq (by rfl) T.len bb_len (pa_cons (pv 0) pa_nil)) (pe_k (by rfl) T.cMost) (nomark _)) (pe_lst (pa_cons (pe_k (by rfl) T.cMany) pa_nil)) (pe_lst pa_nil)))), ?_⟩
    obtain ⟨a, f, l, r, rfl, hp, k⟩ := h
    obtain ⟨xs, hx, px⟩ := id hp
    refine ⟨_, rfl, _, rfl, l, r, rfl, _, rfl, ?_⟩
    rcases errOf_cases f l r with ⟨h1, h2⟩ | ⟨h1, h2, h3⟩ | ⟨h1, h2, h3⟩
    · rw [h1]
      refine iteT ⟨one_le, fun p np => k _ p (same_new np) np ?_⟩
      rw [upd_same, h2]
      rfl
    · rw [h1]
      refine iteF ⟨_, rfl, a, _, rfl, .inl (SqL.of hx), _, _, rfl, rfl, _, rfl, ?_⟩
      refine ite2 (fun z => ⟨one_le, fun p np => k _ p (same_new np) np ?_⟩) (fun z => absurd (decide_eq_true ?_) z)
      · rw [upd_same, h3]
        rfl
      · rw [px.length]; omega
    · rw [h1]
      refine iteF ⟨_, rfl, a, _, rfl, .inl (SqL.of hx), _, _, rfl, rfl, _, rfl, ?_⟩
      refine ite2 (fun z => ?_) (fun z => ⟨Nat.zero_le _, fun p np => k _ p (same_new np) np ?_⟩)
      · exfalso
        have := of_decide_eq_true z
        rw [px.length] at this
        omega
      · rw [upd_same, h3]
        rfl
/-! ### what an operation promises -/
def spOp (sh : List Int → Option Sr115.Call) : Sp := fun vs H Q _ => ∃ a l f ns c, vs = [.ref a, .ref l] ∧ Pcs H a f ∧ Good f ∧ H l = some (.lst (ns.map V.int)) ∧ sh ns = some c ∧ ns.length ≤ 70 ∧
  ∀ H' p, Kp a H H' → H p = none → Pcs H' a (newFloor f c) → H' p = some (.lst ((answerOf f c).map V.int)) → Q (.ref p) H'
/-- .. of an operation that changes nothing -/
theorem query {a : Addr} {f : Floor} {c : Sr115.Call} {H : Hp} {Q : VK} (hp : Pcs H a f) (hn : newFloor f c = f) {ns : List Int} (ha : answerOf f c = ns)
    (k : ∀ H' p, Kp a H H' → H p = none → Pcs H' a (newFloor f c) → H' p = some (.lst ((answerOf f c).map V.int)) → Q (.ref p) H') : New H (.lst (ns.map V.int)) Q := by
  subst ha
  intro H' p s np e
  exact k H' p (same_kp s a) np (by rw [hn]; exact hp.same s) e
/-! ### add_piece -/
theorem scAdd : FnScope ["pieces", "numbers", "left", "right", "error"] ["pieces", "numbers"] (defScope (topS 42)) := ⟨rfl, rfl, rfl, by decide +kernel, rfl, by decide +kernel, by decide +kernel⟩
theorem ok_add (D : DefAt K mg "add_piece" (topS 42)) (T : Txt mg) (c1 : Cal P w K mg base 3 "new_piece_error" spErr) : Cal P w K mg base 6 "add_piece" (spOp (sh2 .addPiece)) := by
  refine mk_cal D scAdd (fun _ _ _ _ _ _ us hl => match us, hl with | [_, _], _ => rfl) (fun vs H Q E h => ?_) (fun fa cdv A outer s H vs Q E hr h => ?_)
  · obtain ⟨a, l, f, ns, c, rfl, _⟩ := h
    rfl
  · have nd := scAdd.nd
    refine ⟨_, pss_cons (ps_asg (pv 1) (pg_unl2 (i := 2) (j := 3) rfl nd rfl rfl rfl rfl))
      (pss_cons (ps_set (i := 4) nd rfl (Or.inl rfl) (pe_c c1 hr (by decide) (by rfl) (pa_cons (pv 0) (pa_cons (pv 2) (pa_cons (pv 3) pa_nil)))))
      (pss_cons (ps_if (pt_cmpR (op_neD hr.units) (pv 4) (pe_lst pa_nil) (nomark _)) (pss_one (ps_ret (pv 4))) pss_nil)
      (pss_cons (ps_expr (pe_bm PySem.F.plainAttrs_list PySem.F.slot_list_append PySem.F.type_list_append mt_append (pv 0) (pa_cons (pe_tup (pa_cons (pv 2) (pa_cons (pv 3) pa_nil))) pa_nil)))
      (pss_one (ps_ret (pe_lst (pa_cons (pe_op op_sub (pe_callB call_len_seq (by rfl) T.len bb_len (pa_cons (pv 0) pa_nil)) pe_int) pa_nil))))))), ?_⟩
    obtain ⟨a, l, f, ns, c, rfl, hp, gf, hl, hsh, _, k⟩ := h
    obtain ⟨x, y, rfl, rfl⟩ := sh2_inv hsh
    refine ⟨_, rfl, l, _, rfl, SqL.of hl, rfl, _, _, rfl, _, _, rfl, rfl, ?_⟩
    refine ⟨_, rfl, _, rfl, _, rfl, a, f, x, y, rfl, hp, fun H1 p1 s1 n1 e1 => ?_⟩
    refine ⟨_, rfl, Nat.zero_le _, fun q nq => ?_⟩
    have s2 := same_new (o := .lst []) nq
    refine ne_ints_ok (ns := errOf f x y) (ms := []) (SqL.of (s2 _ _ e1)) (SqL.of upd_same) ⟨_, rfl, ?_⟩
    refine ite2 (fun z => ?_) (fun z => ?_)
    · have z : errOf f x y ≠ [] := by simpa using z
      obtain ⟨h1, h2⟩ := add_err z
      refine ⟨_, rfl, k _ p1 (same_kp (s1.trans s2) a) n1 (by rw [h1]; exact hp.same (s1.trans s2)) (by rw [h2]; exact s2 _ _ e1)⟩
    · have z : errOf f x y = [] := by simpa using z
      obtain ⟨h1, h2, h3, h4⟩ := add_ok z
      obtain ⟨xs, hx, px⟩ := hp.same (s1.trans s2)
      have hlen := px.length
      have h3 := (Bool.and_eq_true _ _).mp h3
      obtain ⟨m1, e1', _, t1⟩ := markI_nat h3.1
      obtain ⟨m2, e2', _, t2⟩ := markI_nat h3.2
      refine ⟨_, rfl, .inl ⟨rfl, _, SqL.of hx⟩, ?_⟩
      refine ⟨_, rfl, _, rfl, (by show 2 ≤ sizeLine; exact bigLine (by decide)), fun t nt => ?_⟩
      have s3 := same_new (o := .tup [V.int x, V.int y]) nt
      refine ⟨a, xs, _, rfl, rfl, s3 _ _ hx, ?_, ?_⟩
      · have : xs.length < 16777216 := by omega
        rw [PySem.sizeLine_eq]; exact this
      · have hxa := s3 _ _ hx
        have hP : Pcs (upd (upd (upd H1 q (.lst [])) t (.tup [V.int x, V.int y])) a (.lst (xs ++ [V.ref t]))) a (morePiece f x y) := by
          refine ⟨xs ++ [V.ref t], upd_same, ?_⟩
          unfold morePiece
          refine paired_append (px.mono fun _ _ z => (z.same s3).kp hxa kp_upd) (.cons ⟨t, rfl, ?_⟩ .nil)
          rw [upd_ne (Ne.symm (ne_of_none hx nt)), upd_same, t1, t2, e1', e2']
        refine ⟨_, rfl, a, _, rfl, .inl (SqL.of upd_same), _, _, rfl, rfl, one_le, fun p np => ?_⟩
        have s5 := same_new (o := .lst [V.int (((xs ++ [V.ref t]).length : Int) - 1)]) np
        have kk : Kp a H (upd (upd (upd (upd H1 q (.lst [])) t (.tup [V.int x, V.int y])) a (.lst (xs ++ [V.ref t]))) p (.lst [V.int (((xs ++ [V.ref t]).length : Int) - 1)])) := fun b o e n => s5 _ _ (kp_upd _ _ (s3 _ _ (s2 _ _ (s1 _ _ e))) n)
        have kk0 : Kp a H (upd (upd (upd H1 q (.lst [])) t (.tup [V.int x, V.int y])) a (.lst (xs ++ [V.ref t]))) := fun b o e n => kp_upd _ _ (s3 _ _ (s2 _ _ (s1 _ _ e))) n
        refine k _ p kk (kp_free kk0 upd_same np) (by rw [h1]; exact hP.same s5) ?_
        rw [upd_same, h2, List.length_append, List.length_singleton, hlen]
        have : (((f.length + 1 : Nat) : Int) - 1) = (f.length : Int) := by omega
        show some (HO.lst [V.int (((f.length + 1 : Nat) : Int) - 1)]) = _
        rw [this]
        rfl
/-! ### remove_piece -/
theorem scRemove : FnScope ["pieces", "numbers", "index"] ["pieces", "numbers"] (defScope (topS 43)) := ⟨rfl, rfl, rfl, by decide +kernel, rfl, by decide +kernel, by decide +kernel⟩
theorem ok_remove (D : DefAt K mg "remove_piece" (topS 43)) (T : Txt mg) : Cal P w K mg base 6 "remove_piece" (spOp (sh1 .removePiece)) := by
  refine mk_cal D scRemove (fun _ _ _ _ _ _ us hl => match us, hl with | [_, _], _ => rfl) (fun vs H Q E h => ?_) (fun fa cdv A outer s H vs Q E hr h => ?_)
  · obtain ⟨a, l, f, ns, c, rfl, _⟩ := h
    rfl
  · have nd := scRemove.nd
    refine ⟨_, pss_cons (ps_set (i := 2) nd rfl (Or.inl rfl) (pe_ix ix_list (pv 1) pe_int (fun _ _ => rfl)))
      (pss_cons (ps_if (pt_not (pt_chain op_le op_lt pe_int (pv 2) (pe_callB call_len_seq (by rfl) T.len bb_len (pa_cons (pv 0) pa_nil)))) (pss_one (ps_ret (pe_lst (pa_cons (pe_k (by rfl) T.cNotThere) pa_nil)))) pss_nil)
      (pss_cons (ps_expr (pe_bm PySem.F.plainAttrs_list PySem.F.slot_list_pop PySem.F.type_list_pop mt_popAt (pv 0) (pa_cons (pv 2) pa_nil)))
      (pss_one (ps_ret (pe_lst (pa_cons (pe_callB call_len_seq (by rfl) T.len bb_len (pa_cons (pv 0) pa_nil)) pa_nil)))))), ?_⟩
    obtain ⟨a, l, f, ns, c, rfl, hp, gf, hl, hsh, _, k⟩ := h
    obtain ⟨i, rfl, rfl⟩ := sh1_inv hsh
    obtain ⟨xs, hx, px⟩ := id hp
    have hlen := px.length
    have bad : pieceI f i = false → New H (.lst [V.int (-2)]) Q := fun h => query (ns := [-2]) hp (remove_err h).1 (remove_err h).2 k
    refine ⟨_, rfl, l, _, _, _, rfl, rfl, SqL.of hl, atI_nat (j := 0) rfl, ?_⟩
    refine ⟨_, rfl, _, _, rfl, rfl, _, rfl, ?_⟩
    refine ite2 (fun z0 => ?_) (fun z0 => ?_)
    · refine ⟨_, rfl, a, _, rfl, .inl (SqL.of hx), _, _, rfl, rfl, _, rfl, ?_⟩
      have z0 := of_decide_eq_true z0
      refine ite2 (fun z1 => ?_) (fun z1 => ?_)
      · have z1 : ¬ i < (xs.length : Int) := by simpa using z1
        refine ⟨one_le, fun p np => bad ?_ _ p (same_new np) np upd_same⟩
        unfold pieceI
        rw [decide_eq_false (show ¬ i < (f.length : Int) by omega), Bool.and_false]
      · have z1 : i < (xs.length : Int) := by simpa using z1
        have hok : pieceI f i = true := by
          unfold pieceI
          rw [decide_eq_true z0, decide_eq_true (show i < (f.length : Int) by omega)]
          rfl
        obtain ⟨h1, h2⟩ := remove_ok hok
        have hi : i.toNat < xs.length := by omega
        have h7 := gf.len
        refine ⟨_, rfl, .inl ⟨rfl, _, SqL.of hx⟩, ?_⟩
        refine ⟨_, rfl, a, xs, i, i.toNat, _, rfl, rfl, hx, by omega, by omega, seqIndex_of z0 z1, List.getElem?_eq_getElem hi, ?_⟩
        have hP : Pcs (upd H a (.lst (xs.eraseIdx i.toNat))) a (f.eraseIdx i.toNat) := ⟨_, upd_same, paired_erase _ (px.mono fun _ _ z => z.kp hx kp_upd)⟩
        refine ⟨_, rfl, a, _, rfl, .inl (SqL.of upd_same), one_le, fun p np => ?_⟩
        have s5 := same_new (o := .lst [V.int ((xs.eraseIdx i.toNat).length : Int)]) np
        have kk0 : Kp a H (upd H a (.lst (xs.eraseIdx i.toNat))) := kp_upd
        refine k _ p (fun b o e n => s5 _ _ (kk0 _ _ e n)) (kp_free kk0 upd_same np) (by rw [h1]; exact hP.same s5) ?_
        rw [upd_same, h2, List.length_eraseIdx_of_lt hi, hlen]
        rfl
    · have z0 : ¬ (0 : Int) ≤ i := by simpa using z0
      refine ⟨_, rfl, iteT ⟨one_le, fun p np => bad ?_ _ p (same_new np) np upd_same⟩⟩
      unfold pieceI
      rw [decide_eq_false z0, Bool.false_and]
/-! ### set_piece -/
theorem scSet : FnScope ["pieces", "numbers", "index", "left", "right", "old_left", "old_right"] ["pieces", "numbers"] (defScope (topS 44)) := ⟨rfl, rfl, rfl, by decide +kernel, rfl, by decide +kernel, by decide +kernel⟩
theorem ok_set (D : DefAt K mg "set_piece" (topS 44)) (T : Txt mg) (c1 : Cal P w K mg base 2 "are_marks" spAreMarks) : Cal P w K mg base 6 "set_piece" (spOp (sh3 .setPiece)) := by
  refine mk_cal D scSet (fun _ _ _ _ _ _ us hl => match us, hl with | [_, _], _ => rfl) (fun vs H Q E h => ?_) (fun fa cdv A outer s H vs Q E hr h => ?_)
  · obtain ⟨a, l, f, ns, c, rfl, _⟩ := h
    rfl
  · have nd := scSet.nd
    refine ⟨_, pss_cons (ps_asg (pv 1) (pg_unl3 (i := 2) (j := 3) (l := 4) rfl nd rfl rfl rfl rfl rfl rfl))
      (pss_cons (ps_if (pt_not (pt_chain op_le op_lt pe_int (pv 2) (pe_callB call_len_seq (by rfl) T.len bb_len (pa_cons (pv 0) pa_nil)))) (pss_one (ps_ret (pe_lst (pa_cons (pe_k (by rfl) T.cNotThere) pa_nil)))) pss_nil)
      (pss_cons (ps_if (pt_not (pt_val (pe_c c1 hr (by decide) (by rfl) (pa_cons (pv 3) (pa_cons (pv 4) pa_nil))))) (pss_one (ps_ret (pe_lst (pa_cons (pe_k (by rfl) T.cOut) pa_nil)))) pss_nil)
      (pss_cons (ps_asg (pe_ix ix_list (pv 0) (pv 2) (fun _ _ => rfl)) (pg_two (K := K) (i := 5) (j := 6) rfl rfl nd rfl rfl rfl rfl))
      (pss_cons (ps_asg (pe_tup (pa_cons (pv 3) (pa_cons (pv 4) pa_nil))) (pg_sub (pv 0) (pv 2) set_list))
      (pss_one (ps_ret (pe_lst (pa_cons pe_int (pa_cons (pv 5) (pa_cons (pv 6) pa_nil)))))))))), ?_⟩
    obtain ⟨a, l, f, ns, c, rfl, hp, gf, hl, hsh, _, k⟩ := h
    obtain ⟨i, x, y, rfl, rfl⟩ := sh3_inv hsh
    obtain ⟨xs, hx, px⟩ := id hp
    have hlen := px.length
    have bad : pieceI f i = false → New H (.lst [V.int (-2)]) Q := fun h => query (ns := [-2]) hp (set_err1 h).1 (set_err1 h).2 k
    refine ⟨_, rfl, l, _, rfl, SqL.of hl, rfl, _, _, rfl, _, _, rfl, _, _, rfl, rfl, ?_⟩
    refine ⟨_, rfl, _, _, rfl, rfl, _, rfl, ?_⟩
    refine ite2 (fun z0 => ?_) (fun z0 => ?_)
    · refine ⟨_, rfl, a, _, rfl, .inl (SqL.of hx), _, _, rfl, rfl, _, rfl, ?_⟩
      have z0 := of_decide_eq_true z0
      refine ite2 (fun z1 => ?_) (fun z1 => ?_)
      · have z1 : ¬ i < (xs.length : Int) := by simpa using z1
        refine ⟨one_le, fun p np => bad ?_ _ p (same_new np) np upd_same⟩
        unfold pieceI
        rw [decide_eq_false (show ¬ i < (f.length : Int) by omega), Bool.and_false]
      · have z1 : i < (xs.length : Int) := by simpa using z1
        have hok : pieceI f i = true := by
          unfold pieceI
          rw [decide_eq_true z0, decide_eq_true (show i < (f.length : Int) by omega)]
          rfl
        refine ⟨_, rfl, _, rfl, x, y, rfl, _, rfl, ?_⟩
        refine ite2 (fun z2 => ?_) (fun z2 => ?_)
        · have z2 : (markI x && markI y) = false := by
            cases h : (markI x && markI y) with
            | false => rfl
            | true => rw [h] at z2; cases z2
          have q : New H (.lst [V.int (-22)]) Q := query (ns := [-22]) hp (set_err2 hok z2).1 (set_err2 hok z2).2 k
          exact ⟨one_le, fun p np => q _ p (same_new np) np upd_same⟩
        · have z2 : (markI x && markI y) = true := by
            cases h : (markI x && markI y) with
            | true => rfl
            | false => rw [h] at z2; exact absurd rfl z2
          obtain ⟨h1, h2⟩ := set_ok (l := x) (r := y) hok z2
          have h3 := (Bool.and_eq_true _ _).mp z2
          obtain ⟨m1, e1', _, t1⟩ := markI_nat h3.1
          obtain ⟨m2, e2', _, t2⟩ := markI_nat h3.2
          have hi : i.toNat < f.length := by omega
          have ei : i = ((i.toNat : Nat) : Int) := by omega
          obtain ⟨t0, g0, h0⟩ := Pcs.get px hi
          have ea : atI xs i = some (.ref t0) := by rw [ei]; exact atI_nat g0
          have eb : ixN xs.length i = some i.toNat := (congrArg (ixN xs.length) ei).trans (ixN_of (by omega))
          refine ⟨_, rfl, _, rfl, a, _, i, _, rfl, rfl, SqL.of hx, ea, ?_⟩
          refine ⟨t0, _, rfl, SqT.of h0, rfl, _, _, rfl, _, _, rfl, rfl, ?_⟩
          refine ⟨_, rfl, _, rfl, (by show 2 ≤ sizeLine; exact bigLine (by decide)), fun t nt => ?_⟩
          have s3 := same_new (o := .tup [V.int x, V.int y]) nt
          have hxa := s3 _ _ hx
          refine ⟨_, rfl, _, rfl, a, xs, i, i.toNat, rfl, rfl, hxa, eb, ?_⟩
          · have hP : Pcs (upd (upd H t (.tup [V.int x, V.int y])) a (.lst (xs.set i.toNat (V.ref t)))) a (f.set i.toNat ⟨x.toNat, y.toNat⟩) := by
              refine ⟨_, upd_same, paired_set ?_ _ (px.mono fun _ _ z => (z.same s3).kp hxa kp_upd)⟩
              refine ⟨t, rfl, ?_⟩
              rw [upd_ne (Ne.symm (ne_of_none hx nt)), upd_same, t1, t2, e1', e2']
            refine ⟨_, rfl, _, rfl, (by show 3 ≤ sizeLine; exact bigLine (by decide)), fun p np => ?_⟩
            have s5 := same_new (o := .lst [V.int 0, nV (pieceAt f i.toNat).left, nV (pieceAt f i.toNat).right]) np
            have kk0 : Kp a H (upd (upd H t (.tup [V.int x, V.int y])) a (.lst (xs.set i.toNat (V.ref t)))) := fun b o e n => kp_upd _ _ (s3 _ _ e) n
            refine k _ p (fun b o e n => s5 _ _ (kk0 _ _ e n)) (kp_free kk0 upd_same np) (by rw [h1]; exact hP.same s5) ?_
            rw [upd_same, h2]
            rfl
    · have z0 : ¬ (0 : Int) ≤ i := by simpa using z0
      refine ⟨_, rfl, iteT ⟨one_le, fun p np => bad ?_ _ p (same_new np) np upd_same⟩⟩
      unfold pieceI
      rw [decide_eq_false z0, Bool.false_and]
end
end BB
set_option Elab.async false
set_option maxRecDepth 100000
set_option maxHeartbeats 2000000
set_option linter.all false
namespace BB
open PySem PySem.Spec PyProof.Rows L2
open Sr115 (Piece Floor pieceAt)
section
variable {P : Program} {w : World} {K : PySem.W.Frag} {mg : Str → Option Value} {base : Heap}
theorem opLen {sh : List Int → Option Sr115.Call} : ∀ (vs : List V) (H : Hp) (Q : VK) (E : XK), spOp sh vs H Q E → vs.length = (["pieces", "numbers"] : List Str).length := by
  intro vs H Q E h
  obtain ⟨a, l, f, ns, c, rfl, _⟩ := h
  rfl
theorem sc2 {i : Nat} (h : C8.scC ["pieces", "numbers"] ["pieces", "numbers"] (defScope (topS i)) = true) : FnScope ["pieces", "numbers"] ["pieces", "numbers"] (defScope (topS i)) := C8.fnScope_by h
/-! ### tell_chain_count -/
theorem ok_tChainCount (D : DefAt K mg "tell_chain_count" (topS 45)) (T : Txt mg) (c1 : Cal P w K mg base 3 "complete_chains" (spChains complete)) : Cal P w K mg base 6 "tell_chain_count" (spOp (sh0 .chainCount)) := by
  refine mk_cal D (sc2 (by decide +kernel)) (fun _ _ _ _ _ _ us hl => match us, hl with | [_, _], _ => rfl) opLen (fun fa cdv A outer s H vs Q E hr h => ?_)
  refine ⟨_, pss_one (ps_ret (pe_lst (pa_cons (pe_callB call_len_seq (by rfl) T.len bb_len (pa_cons (pe_c c1 hr (by decide) (by rfl) (pa_cons (pv 0) pa_nil)) pa_nil)) pa_nil))), ?_⟩
  obtain ⟨a, l, f, ns, c, rfl, hp, gf, hl, hsh, _, k⟩ := h
  obtain ⟨rfl, rfl⟩ := sh0_inv hsh
  have k' : New H (.lst ([((complete f).length : Int)].map V.int)) Q := query hp rfl (by rw [complete_eq]; rfl) k
  refine ⟨_, rfl, a, f, rfl, hp, gf, fun H1 p1 s1 n1 hq => ?_⟩
  obtain ⟨ys, hy, py⟩ := hq
  refine ⟨p1, ys, rfl, .inl (SqL.of hy), one_le, fun p np => k' _ p (s1.trans (same_new np)) (s1.free np) ?_⟩
  rw [upd_same, py.length]
  rfl
/-! ### tell_one_of -/
def spOne : Sp := fun vs H Q _ => ∃ p cs k, vs = [.ref p, .int k] ∧ Chs H p cs ∧ cs.length ≤ 16777216 ∧ (∀ c ∈ cs, c.length ≤ 7) ∧ New H (.lst ((oneOf cs k).map V.int)) Q
theorem scOne : FnScope ["found", "number"] ["found", "number"] (defScope (topS 46)) := ⟨rfl, rfl, rfl, by decide +kernel, rfl, by decide +kernel, by decide +kernel⟩
theorem ok_one (D : DefAt K mg "tell_one_of" (topS 46)) (T : Txt mg) : Cal P w K mg base 1 "tell_one_of" spOne := by
  refine mk_cal D scOne (fun _ _ _ _ _ _ us hl => match us, hl with | [_, _], _ => rfl) (fun vs H Q E h => ?_) (fun fa cdv A outer s H vs Q E hr h => ?_)
  · obtain ⟨p, cs, k, rfl, _⟩ := h
    rfl
  · refine ⟨_, pss_cons (ps_if (pt_not (pt_chain op_le op_lt pe_int (pv 1) (pe_callB call_len_seq (by rfl) T.len bb_len (pa_cons (pv 0) pa_nil)))) (pss_one (ps_ret (pe_lst (pa_cons (pe_k (by rfl) T.cNotThere) pa_nil)))) pss_nil)
      (pss_one (ps_ret (pe_op op_cat (pe_lst (pa_cons (pe_callB call_len_seq (by rfl) T.len bb_len (pa_cons (pe_ix ix_list (pv 0) (pv 1) (fun _ _ => rfl)) pa_nil)) pa_nil))
        (pe_callTy call_list_of (by rfl) T.list bb_list (pa_cons (pe_ix ix_list (pv 0) (pv 1) (fun _ _ => rfl)) pa_nil))))), ?_⟩
    obtain ⟨p, cs, i, rfl, ⟨ys, hy, py⟩, hsz, h7, k⟩ := h
    have hlen := py.length
    have bad : (decide (0 ≤ i) && decide (i < cs.length)) = false → New H (.lst [V.int (-2)]) Q := fun h => by
      rw [one_err h] at k
      exact k
    refine ⟨_, rfl, _, _, rfl, rfl, _, rfl, ?_⟩
    refine ite2 (fun z0 => ?_) (fun z0 => ?_)
    · refine ⟨_, rfl, p, _, rfl, .inl (SqL.of hy), _, _, rfl, rfl, _, rfl, ?_⟩
      have z0 := of_decide_eq_true z0
      refine ite2 (fun z1 => ?_) (fun z1 => ?_)
      · have z1 : ¬ i < (ys.length : Int) := by simpa using z1
        refine ⟨one_le, fun q nq => bad ?_ _ q (same_new nq) nq upd_same⟩
        rw [decide_eq_false (show ¬ i < (cs.length : Int) by omega), Bool.and_false]
      · have z1 : i < (ys.length : Int) := by simpa using z1
        have hi : i.toNat < cs.length := by omega
        have ei : i = ((i.toNat : Nat) : Int) := by omega
        have ec : cs[i.toNat]? = some cs[i.toNat] := List.getElem?_eq_getElem hi
        obtain ⟨v, ev, t, rfl, ht⟩ := paired_get' py ec
        have hm := h7 _ (List.mem_of_getElem? ec)
        have ea : atI ys i = some (.ref t) := by rw [ei]; exact atI_nat ev
        rw [one_ok z0 ec] at k
        generalize cs[i.toNat] = r at ht hm k
        refine ⟨_, rfl, _, rfl, p, _, _, _, rfl, rfl, SqL.of hy, ea, t, _, rfl, .inr (SqT.of ht), one_le, fun l1 n1 => ?_⟩
        have s1 := same_new (o := .lst [V.int ((r.map nV).length : Int)]) n1
        refine ⟨_, rfl, _, rfl, p, _, _, _, rfl, rfl, SqL.of (s1 _ _ hy), ea, t, _, rfl, .inr (SqT.of (s1 _ _ ht)), fun l2 n2 => ?_⟩
        have s2 := same_new (o := .lst (r.map nV)) n2
        refine ⟨l1, l2, _, _, rfl, rfl, s2 _ _ upd_same, upd_same, ?_, fun q nq => ?_⟩
        · rw [List.length_map]
          exact bigLine (by show 1 + r.length ≤ _; omega)
        · have s3 := same_new (o := .lst ([V.int ((r.map nV).length : Int)] ++ r.map nV)) nq
          refine k _ q (s1.trans (s2.trans s3)) (s1.free (s2.free nq)) ?_
          rw [upd_same, List.length_map, List.map_cons, ← map_nV]
          rfl
    · have z0 : ¬ (0 : Int) ≤ i := by simpa using z0
      refine ⟨_, rfl, iteT ⟨one_le, fun q nq => bad ?_ _ q (same_new nq) nq upd_same⟩⟩
      rw [decide_eq_false z0, Bool.false_and]
/-! ### tell_chain, tell_circuit -/
theorem ok_tChain (D : DefAt K mg "tell_chain" (topS 47)) (c1 : Cal P w K mg base 3 "complete_chains" (spChains complete)) (c2 : Cal P w K mg base 1 "tell_one_of" spOne) : Cal P w K mg base 6 "tell_chain" (spOp (sh1 .chain)) := by
  refine mk_cal D (sc2 (by decide +kernel)) (fun _ _ _ _ _ _ us hl => match us, hl with | [_, _], _ => rfl) opLen (fun fa cdv A outer s H vs Q E hr h => ?_)
  refine ⟨_, pss_one (ps_ret (pe_c c2 hr (by decide) (by rfl) (pa_cons (pe_c c1 hr (by decide) (by rfl) (pa_cons (pv 0) pa_nil)) (pa_cons (pe_ix ix_list (pv 1) pe_int (fun _ _ => rfl)) pa_nil)))), ?_⟩
  obtain ⟨a, l, f, ns, c, rfl, hp, gf, hl, hsh, _, k⟩ := h
  obtain ⟨i, rfl, rfl⟩ := sh1_inv hsh
  have k' : New H (.lst ((oneOf (complete f) i).map V.int)) Q := query hp rfl (by rw [complete_eq]; rfl) k
  have h7 := gf.len
  refine ⟨_, rfl, a, f, rfl, hp, gf, fun H1 p1 s1 n1 hq => ?_⟩
  refine ⟨_, rfl, l, _, _, _, rfl, rfl, SqL.of (s1 _ _ hl), atI_nat (j := 0) rfl, p1, complete f, i, rfl, hq, Nat.le_trans (complete_length h7) (by decide), fun c hc => ?_, fun H2 q s2 nq e2 => k' H2 q (s1.trans s2) (s1.free nq) e2⟩
  have := (complete_ok f c hc).1
  omega
theorem ok_tCircuit (D : DefAt K mg "tell_circuit" (topS 53)) (c1 : Cal P w K mg base 4 "all_circuits" (spChains allCircuits)) (c2 : Cal P w K mg base 1 "tell_one_of" spOne) : Cal P w K mg base 6 "tell_circuit" (spOp (sh1 .circuit)) := by
  refine mk_cal D (sc2 (by decide +kernel)) (fun _ _ _ _ _ _ us hl => match us, hl with | [_, _], _ => rfl) opLen (fun fa cdv A outer s H vs Q E hr h => ?_)
  refine ⟨_, pss_one (ps_ret (pe_c c2 hr (by decide) (by rfl) (pa_cons (pe_c c1 hr (by decide) (by rfl) (pa_cons (pv 0) pa_nil)) (pa_cons (pe_ix ix_list (pv 1) pe_int (fun _ _ => rfl)) pa_nil)))), ?_⟩
  obtain ⟨a, l, f, ns, c, rfl, hp, gf, hl, hsh, _, k⟩ := h
  obtain ⟨i, rfl, rfl⟩ := sh1_inv hsh
  have k' : New H (.lst ((oneOf (allCircuits f) i).map V.int)) Q := query hp rfl (by rw [circuits_eq]; rfl) k
  have h7 := gf.len
  have hsub : (allCircuits f).length ≤ 16777216 ∧ ∀ c ∈ allCircuits f, c.length ≤ 7 := by
    unfold allCircuits
    by_cases e : f = []
    · rw [if_pos e]
      exact ⟨Nat.zero_le _, fun c hc => nomatch hc⟩
    · rw [if_neg e]
      refine ⟨Nat.le_trans (List.length_filter_le _ _) (Nat.le_trans (complete_length h7) (by decide)), fun c hc => ?_⟩
      have := (complete_ok f c (List.mem_filter.mp hc).1).1
      omega
  refine ⟨_, rfl, a, f, rfl, hp, gf, fun H1 p1 s1 n1 hq => ?_⟩
  exact ⟨_, rfl, l, _, _, _, rfl, rfl, SqL.of (s1 _ _ hl), atI_nat (j := 0) rfl, p1, allCircuits f, i, rfl, hq, hsub.1, hsub.2, fun H2 q s2 nq e2 => k' H2 q (s1.trans s2) (s1.free nq) e2⟩
/-! ### tell_single_chain_possible, tell_min_chains -/
theorem ok_tSingle (D : DefAt K mg "tell_single_chain_possible" (topS 48)) (T : Txt mg) (c1 : Cal P w K mg base 4 "fewest_chains" spFewest) : Cal P w K mg base 6 "tell_single_chain_possible" (spOp (sh0 .singleChainPossible)) := by
  refine mk_cal D (sc2 (by decide +kernel)) (fun _ _ _ _ _ _ us hl => match us, hl with | [_, _], _ => rfl) opLen (fun fa cdv A outer s H vs Q E hr h => ?_)
  refine ⟨_, pss_one (ps_ret (pe_lst (pa_cons (pe_callTy call_int1 (by rfl) T.int bb_int (pa_cons (pe_cmpR op_le (pe_c c1 hr (by decide) (by rfl) (pa_cons (pv 0) pa_nil)) pe_int (nomark _)) pa_nil)) pa_nil))), ?_⟩
  obtain ⟨a, l, f, ns, c, rfl, hp, gf, hl, hsh, _, k⟩ := h
  obtain ⟨rfl, rfl⟩ := sh0_inv hsh
  have k' : New H (.lst ([if decide (fewestChains f ≤ 1) then 1 else 0].map V.int)) Q := query hp rfl (by
    rw [fewest_eq gf]
    have e : decide (((Sr115.minChains f : Nat) : Int) ≤ 1) = decide (Sr115.minChains f ≤ 1) := by
      rw [Bool.eq_iff_iff, decide_eq_true_eq, decide_eq_true_eq]
      omega
    rw [e]
    rfl) k
  refine ⟨_, rfl, a, f, rfl, hp, gf, fun H1 s1 => ⟨_, _, rfl, rfl, .inr ⟨_, rfl, one_le, fun p np => k' _ p (s1.trans (same_new np)) (s1.free np) upd_same⟩⟩⟩
theorem ok_tMin (D : DefAt K mg "tell_min_chains" (topS 49)) (c1 : Cal P w K mg base 4 "fewest_chains" spFewest) : Cal P w K mg base 6 "tell_min_chains" (spOp (sh0 .minChains)) := by
  refine mk_cal D (sc2 (by decide +kernel)) (fun _ _ _ _ _ _ us hl => match us, hl with | [_, _], _ => rfl) opLen (fun fa cdv A outer s H vs Q E hr h => ?_)
  refine ⟨_, pss_one (ps_ret (pe_lst (pa_cons (pe_c c1 hr (by decide) (by rfl) (pa_cons (pv 0) pa_nil)) pa_nil))), ?_⟩
  obtain ⟨a, l, f, ns, c, rfl, hp, gf, hl, hsh, _, k⟩ := h
  obtain ⟨rfl, rfl⟩ := sh0_inv hsh
  have k' : New H (.lst ([fewestChains f].map V.int)) Q := query hp rfl (by rw [fewest_eq gf]; rfl) k
  exact ⟨_, rfl, a, f, rfl, hp, gf, fun H1 s1 => ⟨one_le, fun p np => k' _ p (s1.trans (same_new np)) (s1.free np) upd_same⟩⟩
/-! ### tell_excesses, tell_components -/
theorem ok_tExc (D : DefAt K mg "tell_excesses" (topS 50)) (T : Txt mg) (c1 : Cal P w K mg base 2 "all_excesses" (spMade fun f => (allExcesses f).map V.int)) : Cal P w K mg base 6 "tell_excesses" (spOp (sh0 .excesses)) := by
  refine mk_cal D (sc2 (by decide +kernel)) (fun _ _ _ _ _ _ us hl => match us, hl with | [_, _], _ => rfl) opLen (fun fa cdv A outer s H vs Q E hr h => ?_)
  refine ⟨_, pss_one (ps_ret (pe_op op_cat (pe_lst (pa_cons (pe_k (by rfl) T.cMarks) pa_nil)) (pe_c c1 hr (by decide) (by rfl) (pa_cons (pv 0) pa_nil)))), ?_⟩
  obtain ⟨a, l, f, ns, c, rfl, hp, gf, hl, hsh, _, k⟩ := h
  obtain ⟨rfl, rfl⟩ := sh0_inv hsh
  have k' : New H (.lst ((6 :: allExcesses f).map V.int)) Q := query hp rfl rfl k
  refine ⟨one_le, fun l1 n1 => ?_⟩
  have s1 := same_new (o := .lst [V.int 6]) n1
  refine ⟨_, rfl, a, f, rfl, hp.same s1, gf, fun H2 p2 s2 n2 e2 => ?_⟩
  have l6 : (allExcesses f).length = 6 := by unfold allExcesses; rw [List.length_map, List.length_range]
  refine ⟨l1, p2, _, _, rfl, rfl, s2 _ _ upd_same, e2, ?_, fun p np => k' _ p (s1.trans (s2.trans (same_new np))) (s1.free (s2.free np)) upd_same⟩
  rw [List.length_map, l6]
  exact bigLine (by decide)
theorem ok_tComps (D : DefAt K mg "tell_components" (topS 51)) (T : Txt mg) (c1 : Cal P w K mg base 3 "component_list" (spMade fun f => (componentList f).map nV)) : Cal P w K mg base 6 "tell_components" (spOp (sh0 .components)) := by
  have sc : FnScope ["pieces", "numbers", "found"] ["pieces", "numbers"] (defScope (topS 51)) := ⟨rfl, rfl, rfl, by decide +kernel, rfl, by decide +kernel, by decide +kernel⟩
  refine mk_cal D sc (fun _ _ _ _ _ _ us hl => match us, hl with | [_, _], _ => rfl) opLen (fun fa cdv A outer s H vs Q E hr h => ?_)
  have nd := sc.nd
  refine ⟨_, pss_cons (ps_set (i := 2) nd rfl (Or.inl rfl) (pe_c c1 hr (by decide) (by rfl) (pa_cons (pv 0) pa_nil)))
    (pss_one (ps_ret (pe_op op_cat (pe_lst (pa_cons (pe_callB call_len_seq (by rfl) T.len bb_len (pa_cons (pv 2) pa_nil)) pa_nil)) (pv 2)))), ?_⟩
  obtain ⟨a, l, f, ns, c, rfl, hp, gf, hl, hsh, _, k⟩ := h
  obtain ⟨rfl, rfl⟩ := sh0_inv hsh
  have k' : New H (.lst ((((componentList f).length : Int) :: (componentList f).map fun (i : Nat) => (i : Int)).map V.int)) Q := query hp rfl (by rw [components_eq gf]; rfl) k
  refine ⟨_, rfl, a, f, rfl, hp, gf, fun H1 p1 s1 n1 e1 => ?_⟩
  refine ⟨_, rfl, p1, _, rfl, .inl (SqL.of e1), one_le, fun l1 nl => ?_⟩
  have s2 := same_new (o := .lst [V.int (((componentList f).map nV).length : Int)]) nl
  have len2 : (componentList f).length ≤ 6 := Nat.le_trans (List.length_filter_le _ _) (used_length f)
  refine ⟨_, rfl, l1, p1, _, _, rfl, rfl, upd_same, s2 _ _ e1, ?_, fun p np => k' _ p (s1.trans (s2.trans (same_new np))) (s1.free (s2.free np)) ?_⟩
  · rw [List.length_map]
    exact bigLine (by show 1 + _ ≤ _; omega)
  · rw [upd_same, List.length_map, List.map_cons, ← map_nV]
    rfl
/-! ### tell_circuit_count -/
theorem ok_tCC (D : DefAt K mg "tell_circuit_count" (topS 52)) (T : Txt mg) (c1 : Cal P w K mg base 4 "all_circuits" (spChains allCircuits)) (c2 : Cal P w K mg base 5 "circuits_by_trees" (spNat circuitsByTrees)) : Cal P w K mg base 6 "tell_circuit_count" (spOp (sh0 .circuitCount)) := by
  refine mk_cal D (sc2 (by decide +kernel)) (fun _ _ _ _ _ _ us hl => match us, hl with | [_, _], _ => rfl) opLen (fun fa cdv A outer s H vs Q E hr h => ?_)
  refine ⟨_, pss_one (ps_ret (pe_lst (pa_cons (pe_callB call_len_seq (by rfl) T.len bb_len (pa_cons (pe_c c1 hr (by decide) (by rfl) (pa_cons (pv 0) pa_nil)) pa_nil)) (pa_cons (pe_c c2 hr (by decide) (by rfl) (pa_cons (pv 0) pa_nil)) pa_nil)))), ?_⟩
  obtain ⟨a, l, f, ns, c, rfl, hp, gf, hl, hsh, _, k⟩ := h
  obtain ⟨rfl, rfl⟩ := sh0_inv hsh
  have k' : New H (.lst ([((allCircuits f).length : Int), (circuitsByTrees f : Int)].map V.int)) Q := query hp rfl (by rw [circuits_eq, by_trees_eq gf]; rfl) k
  refine ⟨_, rfl, a, f, rfl, hp, gf, fun H1 p1 s1 n1 hq => ?_⟩
  obtain ⟨ys, hy, py⟩ := hq
  refine ⟨p1, ys, rfl, .inl (SqL.of hy), ?_⟩
  refine ⟨_, rfl, a, f, rfl, hp.same s1, gf, fun H2 s2 => ⟨(by show 2 ≤ sizeLine; exact bigLine (by decide)), fun p np => k' _ p (s1.trans (s2.trans (same_new np))) (s1.free (s2.free np)) ?_⟩⟩
  rw [upd_same, py.length]
  rfl
/-! ### tell_tree_count, tell_chains_from -/
theorem tree_answer (f : Floor) (i : Int) : answerOf f (.treeCount i) = if markI i = false then [-22] else if (usedMarks f).contains i.toNat = false then [-6] else [((Sr115.treeCount f i.toNat : Nat) : Int)] := by
  unfold answerOf Sr115.perform
  by_cases c : markI i = false
  · have c' : Sr115.isMark i = false := c
    simp only [if_pos c, if_pos c']
    rfl
  · have c' : ¬ Sr115.isMark i = false := c
    simp only [if_neg c, if_neg c']
    by_cases d : (usedMarks f).contains i.toNat = false
    · have d' : (Sr115.usedMarks f).contains i.toNat = false := d
      simp only [if_pos d, if_pos d']
      rfl
    · have d' : ¬ (Sr115.usedMarks f).contains i.toNat = false := d
      simp only [if_neg d, if_neg d']
      rfl
theorem from_answer (f : Floor) (i : Int) : answerOf f (.chainsFrom i) = if markI i = false then [-22] else [((countBeginning f i.toNat : Nat) : Int)] := by
  rw [begins_eq]
  unfold answerOf Sr115.perform
  by_cases c : markI i = false
  · have c' : Sr115.isMark i = false := c
    simp only [if_pos c, if_pos c']
    rfl
  · have c' : ¬ Sr115.isMark i = false := c
    simp only [if_neg c, if_neg c']
    rfl
theorem ok_tTree (D : DefAt K mg "tell_tree_count" (topS 54)) (T : Txt mg) (c1 : Cal P w K mg base 1 "is_mark" spIsMark) (c2 : Cal P w K mg base 2 "used_marks" (spMade fun f => (usedMarks f).map nV)) (c3 : Cal P w K mg base 4 "count_trees" (spCountG countTrees)) :
    Cal P w K mg base 6 "tell_tree_count" (spOp (sh1 .treeCount)) := by
  have sc : FnScope ["pieces", "numbers", "mark"] ["pieces", "numbers"] (defScope (topS 54)) := ⟨rfl, rfl, rfl, by decide +kernel, rfl, by decide +kernel, by decide +kernel⟩
  refine mk_cal D sc (fun _ _ _ _ _ _ us hl => match us, hl with | [_, _], _ => rfl) opLen (fun fa cdv A outer s H vs Q E hr h => ?_)
  have nd := sc.nd
  refine ⟨_, pss_cons (ps_set (i := 2) nd rfl (Or.inl rfl) (pe_ix ix_list (pv 1) pe_int (fun _ _ => rfl)))
    (pss_cons (ps_if (pt_not (pt_val (pe_c c1 hr (by decide) (by rfl) (pa_cons (pv 2) pa_nil)))) (pss_one (ps_ret (pe_lst (pa_cons (pe_k (by rfl) T.cOut) pa_nil)))) pss_nil)
    (pss_cons (ps_if (pt_cmpR op_notIn_seq (pv 2) (pe_c c2 hr (by decide) (by rfl) (pa_cons (pv 0) pa_nil)) (by rfl)) (pss_one (ps_ret (pe_lst (pa_cons (pe_k (by rfl) T.cNotUsed) pa_nil)))) pss_nil)
    (pss_one (ps_ret (pe_lst (pa_cons (pe_c c3 hr (by decide) (by rfl) (pa_cons (pv 0) (pa_cons (pv 2) pa_nil))) pa_nil)))))), ?_⟩
  obtain ⟨a, l, f, ns, c, rfl, hp, gf, hl, hsh, _, k⟩ := h
  obtain ⟨i, rfl, rfl⟩ := sh1_inv hsh
  have k' := query hp rfl (tree_answer f i) k
  refine ⟨_, rfl, l, _, _, _, rfl, rfl, SqL.of hl, atI_nat (j := 0) rfl, ?_⟩
  refine ⟨_, rfl, i, rfl, _, rfl, ?_⟩
  cases hm : markI i with
  | false =>
    rw [if_pos hm] at k'
    exact iteT ⟨one_le, fun p np => k' _ p (same_new np) np upd_same⟩
  | true =>
    rw [if_neg (by rw [hm]; decide)] at k'
    obtain ⟨m, rfl, hm6, tm⟩ := markI_nat hm
    rw [tm] at k'
    refine iteF ?_
    refine ⟨_, rfl, _, rfl, a, f, rfl, hp, gf, fun H1 p1 s1 n1 e1 => ?_⟩
    refine ⟨p1, _, rfl, .inl (SqL.of e1), rfl, flat_nV _, _, rfl, ?_⟩
    show if (!inV (nV m) ((usedMarks f).map nV)) = true then _ else _
    rw [inV_nV]
    cases hu : (usedMarks f).contains m with
    | false =>
      rw [if_pos hu] at k'
      exact iteT ⟨one_le, fun p np => k' _ p (s1.trans (same_new np)) (s1.free np) upd_same⟩
    | true =>
      rw [if_neg (by rw [hu]; decide), ← trees_eq gf] at k'
      refine iteF ?_
      exact ⟨_, rfl, _, rfl, a, f, m, rfl, hp.same s1, gf, fun H2 s2 => ⟨one_le, fun p np => k' _ p (s1.trans (s2.trans (same_new np))) (s1.free (s2.free np)) upd_same⟩⟩
theorem ok_tFrom (D : DefAt K mg "tell_chains_from" (topS 56)) (T : Txt mg) (c1 : Cal P w K mg base 1 "is_mark" spIsMark) (c2 : Cal P w K mg base 4 "count_beginning" (spCountG countBeginning)) :
    Cal P w K mg base 6 "tell_chains_from" (spOp (sh1 .chainsFrom)) := by
  have sc : FnScope ["pieces", "numbers", "mark"] ["pieces", "numbers"] (defScope (topS 56)) := ⟨rfl, rfl, rfl, by decide +kernel, rfl, by decide +kernel, by decide +kernel⟩
  refine mk_cal D sc (fun _ _ _ _ _ _ us hl => match us, hl with | [_, _], _ => rfl) opLen (fun fa cdv A outer s H vs Q E hr h => ?_)
  have nd := sc.nd
  refine ⟨_, pss_cons (ps_set (i := 2) nd rfl (Or.inl rfl) (pe_ix ix_list (pv 1) pe_int (fun _ _ => rfl)))
    (pss_cons (ps_if (pt_not (pt_val (pe_c c1 hr (by decide) (by rfl) (pa_cons (pv 2) pa_nil)))) (pss_one (ps_ret (pe_lst (pa_cons (pe_k (by rfl) T.cOut) pa_nil)))) pss_nil)
    (pss_one (ps_ret (pe_lst (pa_cons (pe_c c2 hr (by decide) (by rfl) (pa_cons (pv 0) (pa_cons (pv 2) pa_nil))) pa_nil))))), ?_⟩
  obtain ⟨a, l, f, ns, c, rfl, hp, gf, hl, hsh, _, k⟩ := h
  obtain ⟨i, rfl, rfl⟩ := sh1_inv hsh
  have k' := query hp rfl (from_answer f i) k
  refine ⟨_, rfl, l, _, _, _, rfl, rfl, SqL.of hl, atI_nat (j := 0) rfl, ?_⟩
  refine ⟨_, rfl, i, rfl, _, rfl, ?_⟩
  cases hm : markI i with
  | false =>
    rw [if_pos hm] at k'
    exact iteT ⟨one_le, fun p np => k' _ p (same_new np) np upd_same⟩
  | true =>
    rw [if_neg (by rw [hm]; decide)] at k'
    obtain ⟨m, rfl, hm6, tm⟩ := markI_nat hm
    rw [tm] at k'
    refine iteF ?_
    exact ⟨_, rfl, _, rfl, a, f, m, rfl, hp, gf, fun H2 s2 => ⟨one_le, fun p np => k' _ p (s2.trans (same_new np)) (s2.free np) upd_same⟩⟩
/-! ### tell_with_piece -/
theorem ok_tWith (D : DefAt K mg "tell_with_piece" (topS 57)) (T : Txt mg) (c1 : Cal P w K mg base 3 "new_piece_error" spErr) (c2 : Cal P w K mg base 4 "fewest_chains" spFewest) (c3 : Cal P w K mg base 3 "complete_chains" (spChains complete)) :
    Cal P w K mg base 6 "tell_with_piece" (spOp (sh2 .evaluateWithPiece)) := by
  have sc : FnScope ["pieces", "numbers", "left", "right", "error", "more"] ["pieces", "numbers"] (defScope (topS 57)) := ⟨rfl, rfl, rfl, by decide +kernel, rfl, by decide +kernel, by decide +kernel⟩
  refine mk_cal D sc (fun _ _ _ _ _ _ us hl => match us, hl with | [_, _], _ => rfl) opLen (fun fa cdv A outer s H vs Q E hr h => ?_)
  have nd := sc.nd
  refine ⟨_, pss_cons (ps_asg (pv 1) (pg_unl2 (i := 2) (j := 3) rfl nd rfl rfl rfl rfl))
    (pss_cons (ps_set (i := 4) nd rfl (Or.inl rfl) (pe_c c1 hr (by decide) (by rfl) (pa_cons (pv 0) (pa_cons (pv 2) (pa_cons (pv 3) pa_nil)))))
    (pss_cons (ps_if (pt_cmpR (op_neD hr.units) (pv 4) (pe_lst pa_nil) (nomark _)) (pss_one (ps_ret (pv 4))) pss_nil)
    (pss_cons (ps_set (i := 5) nd rfl (Or.inl rfl) (pe_op op_cat (pv 0) (pe_lst (pa_cons (pe_tup (pa_cons (pv 2) (pa_cons (pv 3) pa_nil))) pa_nil))))
    (pss_one (ps_ret (pe_lst (pa_cons (pe_c c2 hr (by decide) (by rfl) (pa_cons (pv 5) pa_nil)) (pa_cons (pe_callB call_len_seq (by rfl) T.len bb_len (pa_cons (pe_c c3 hr (by decide) (by rfl) (pa_cons (pv 5) pa_nil)) pa_nil)) pa_nil)))))))), ?_⟩
  obtain ⟨a, l, f, ns, c, rfl, hp, gf, hl, hsh, _, k⟩ := h
  obtain ⟨x, y, rfl, rfl⟩ := sh2_inv hsh
  have hnew : newFloor f (.evaluateWithPiece x y) = f := by
    unfold newFloor Sr115.perform
    rfl
  refine ⟨_, rfl, l, _, rfl, SqL.of hl, rfl, _, _, rfl, _, _, rfl, rfl, ?_⟩
  refine ⟨_, rfl, _, rfl, _, rfl, a, f, x, y, rfl, hp, fun H1 p1 s1 n1 e1 => ?_⟩
  refine ⟨_, rfl, Nat.zero_le _, fun q nq => ?_⟩
  have s2 := same_new (o := .lst []) nq
  refine ne_ints_ok (ns := errOf f x y) (ms := []) (SqL.of (s2 _ _ e1)) (SqL.of upd_same) ⟨_, rfl, ?_⟩
  refine ite2 (fun z => ?_) (fun z => ?_)
  · have z : errOf f x y ≠ [] := by simpa using z
    have k' := query hp hnew (with_err z) k
    exact ⟨_, rfl, k' _ p1 (s1.trans s2) n1 (s2 _ _ e1)⟩
  · have z : errOf f x y = [] := by simpa using z
    have k' := query hp hnew (with_ok gf z) k
    obtain ⟨_, _, h3, h4⟩ := add_ok z
    have gm := good_more gf h3 h4
    obtain ⟨xs, hx, px⟩ := hp.same (s1.trans s2)
    have hlen := px.length
    have h3 := (Bool.and_eq_true _ _).mp h3
    obtain ⟨m1, e1', _, t1⟩ := markI_nat h3.1
    obtain ⟨m2, e2', _, t2⟩ := markI_nat h3.2
    refine ⟨_, rfl, _, rfl, _, rfl, (by show 2 ≤ sizeLine; exact bigLine (by decide)), fun t nt => ?_⟩
    have s3 := same_new (o := .tup [V.int x, V.int y]) nt
    refine ⟨one_le, fun l1 n1' => ?_⟩
    have s4 := same_new (o := .lst [V.ref t]) n1'
    refine ⟨a, l1, xs, _, rfl, rfl, s4 _ _ (s3 _ _ hx), upd_same, bigLine (by show _ + 1 ≤ _; omega), fun b nb => ?_⟩
    have s5 := same_new (o := .lst (xs ++ [V.ref t])) nb
    have s35 := s3.trans (s4.trans s5)
    have hP : Pcs (upd (upd (upd (upd H1 q (.lst [])) t (.tup [V.int x, V.int y])) l1 (.lst [V.ref t])) b (.lst (xs ++ [V.ref t]))) b (morePiece f x y) := by
      refine ⟨xs ++ [V.ref t], upd_same, ?_⟩
      unfold morePiece
      refine paired_append (px.mono fun _ _ z => z.same s35) (.cons ⟨t, rfl, ?_⟩ .nil)
      have e0 := s5 _ _ (s4 _ _ (upd_same (H := upd H1 q (.lst [])) (a := t) (o := .tup [V.int x, V.int y])))
      rw [e0, t1, t2, e1', e2']
    have sA := s1.trans (s2.trans s35)
    refine ⟨_, rfl, b, _, rfl, hP, gm, fun H6 s6 => ?_⟩
    refine ⟨_, rfl, b, _, rfl, hP.same s6, gm, fun H7 p7 s7 n7 hq => ?_⟩
    obtain ⟨ys, hy, py⟩ := hq
    refine ⟨p7, ys, rfl, .inl (SqL.of hy), (by show 2 ≤ sizeLine; exact bigLine (by decide)), fun p np => k' _ p (sA.trans (s6.trans (s7.trans (same_new np)))) (sA.free (s6.free (s7.free np))) ?_⟩
    rw [upd_same, py.length]
    rfl
/-! ### describe -/
def told (f : Floor) : List Int := f.flatMap fun p => [(p.left : Int), (p.right : Int)]
theorem told_append (f g : Floor) : told (f ++ g) = told f ++ told g := List.flatMap_append
theorem told_length : ∀ f : Floor, (told f).length = 2 * f.length
  | [] => rfl
  | p :: f => by
    have := told_length f
    have e : told (p :: f) = (p.left : Int) :: (p.right : Int) :: told f := rfl
    rw [e, List.length_cons, List.length_cons, this]
    show _ = 2 * (f.length + 1)
    omega
theorem ok_describe (D : DefAt K mg "describe" (topS 58)) (T : Txt mg) : Cal P w K mg base 6 "describe" (spOp (sh0 .describe)) := by
  have sc : FnScope ["pieces", "numbers", "told", "left", "right"] ["pieces", "numbers"] (defScope (topS 58)) := ⟨rfl, rfl, rfl, by decide +kernel, rfl, by decide +kernel, by decide +kernel⟩
  refine mk_cal D sc (fun _ _ _ _ _ _ us hl => match us, hl with | [_, _], _ => rfl) opLen (fun fa cdv A outer s H vs Q E hr h => ?_)
  have nd := sc.nd
  refine ⟨_, pss_cons (ps_set (i := 2) nd rfl (Or.inl rfl) (pe_lst (pa_cons (pe_callB call_len_seq (by rfl) T.len bb_len (pa_cons (pv 0) pa_nil)) pa_nil)))
    (pss_cons (ps_for PassesOwn.never rfl (pi_list (pv 0)) (pg_two (K := K) (i := 3) (j := 4) rfl rfl nd rfl rfl rfl rfl)
      (pss_cons (ps_expr (pe_bm PySem.F.plainAttrs_list PySem.F.slot_list_append PySem.F.type_list_append mt_append (pv 2) (pa_cons (pv 3) pa_nil)))
      (pss_one (ps_expr (pe_bm PySem.F.plainAttrs_list PySem.F.slot_list_append PySem.F.type_list_append mt_append (pv 2) (pa_cons (pv 4) pa_nil))))))
    (pss_one (ps_ret (pv 2)))), ?_⟩
  obtain ⟨a, l, f, ns, c, rfl, hp, gf, hl, hsh, _, k⟩ := h
  obtain ⟨rfl, rfl⟩ := sh0_inv hsh
  have k' : New H (.lst (((f.length : Int) :: told f).map V.int)) Q := query hp rfl rfl k
  obtain ⟨xs, hx, px⟩ := id hp
  have h7 := gf.len
  refine ⟨_, rfl, a, _, rfl, .inl (SqL.of hx), one_le, fun L nL => ?_⟩
  have s0 := same_new (o := .lst [V.int (xs.length : Int)]) nL
  refine ⟨_, rfl, a, rfl, ⟨_, SqL.of (s0 _ _ hx)⟩, ?_⟩
  refine for_it walk_list (fun i σ H' => ∃ v3 v4, σ = [some (.ref a), some (.ref l), some (.ref L), v3, v4] ∧ Same H H' ∧ H' L = some (.lst (((f.length : Int) :: told (f.take i)).map V.int)))
    ⟨none, none, rfl, s0, by rw [upd_same, px.length]; rfl⟩ (fun i σ H' _ ⟨_, _, _, s, _⟩ => SqL.of (s _ _ hx)) ?_ ?_
  · rintro i x σ H1 H2 hi ⟨v3, v4, rfl, s1, eL⟩ ⟨rfl, ex⟩
    obtain ⟨p, ep, t, rfl, ht⟩ := paired_get px ex
    have hl2 : (told (f.take i)).length ≤ 14 := by
      rw [told_length]
      have := List.length_take_le' i f
      omega
    refine ⟨t, _, rfl, SqT.of (s1 _ _ ht), rfl, _, _, rfl, _, _, rfl, rfl, ?_⟩
    refine ⟨_, rfl, .inl ⟨rfl, _, SqL.of eL⟩, ?_⟩
    refine ⟨_, rfl, L, _, _, rfl, rfl, eL, ?_, ?_⟩
    · rw [List.length_map, List.length_cons, PySem.sizeLine_eq]; omega
    · refine ⟨_, rfl, .inl ⟨rfl, _, SqL.of upd_same⟩, ?_⟩
      refine ⟨_, rfl, L, _, _, rfl, rfl, upd_same, ?_, ?_⟩
      · rw [List.length_append, List.length_map, List.length_cons, PySem.sizeLine_eq]
        show _ + 1 < _
        omega
      · refine ⟨_, _, rfl, ?_, ?_⟩
        · rw [upd_upd]
          exact same_old s1 nL
        · rw [upd_same, take_more ep, told_append]
          show some (HO.lst (((((f.length : Int) :: told (f.take i)).map V.int) ++ [nV p.left]) ++ [nV p.right])) = some (HO.lst (((f.length : Int) :: (told (f.take i) ++ [(p.left : Int), (p.right : Int)])).map V.int))
          rw [List.append_assoc, ← List.cons_append, List.map_append]
          rfl
  · rintro σ H1 ⟨v3, v4, rfl, s1, eL⟩
    rw [px.length, List.take_length] at eL
    exact ⟨_, rfl, k' H1 L s1 nL eL⟩
/-! ### tell_check_chains -/
theorem check_answer (f : Floor) (ns : List Int) : answerOf f (.checkChains ns) = if areElements f ns = false then [-22] else [if Sr115.areChains f ((Sr115.splitChains ns).map SrCommon.intsToNats) then 1 else 0, ((Sr115.splitChains ns).length : Int)] := by
  rw [elements_eq]
  unfold answerOf Sr115.perform
  by_cases c : ns = [] ∨ (Sr115.splitChains ns).any (fun r => r.any fun i => !Sr115.isPiece f i) = true
  · have e : (!(decide (ns = []) || (Sr115.splitChains ns).any fun r => r.any fun i => !Sr115.isPiece f i)) = false := by
      rcases c with c | c
      · rw [decide_eq_true c]; rfl
      · rw [c]; simp
    simp only [if_pos c, e]
    rfl
  · have e : ¬ (!(decide (ns = []) || (Sr115.splitChains ns).any fun r => r.any fun i => !Sr115.isPiece f i)) = false := by
      rw [not_or] at c
      rw [Bool.not_eq_false', Bool.or_eq_true, decide_eq_true_eq, not_or]
      exact c
    simp only [if_neg c, if_neg e]
    rfl
theorem row_nats {r : List Int} (h : ∀ x ∈ r, 0 ≤ x) : r.map V.int = (SrCommon.intsToNats r).map nV := by
  unfold SrCommon.intsToNats
  rw [List.map_map]
  refine List.map_congr_left fun x hx => ?_
  have := h x hx
  show V.int x = V.int ((x.toNat : Nat) : Int)
  rw [Int.toNat_of_nonneg this]
theorem flat_map_nats (rows : List (List Int)) : (rows.map SrCommon.intsToNats).flatten.length = rows.flatten.length := by
  induction rows with
  | nil => rfl
  | cons r rows ih =>
    rw [List.map_cons, List.flatten_cons, List.flatten_cons, List.length_append, List.length_append, ih]
    unfold SrCommon.intsToNats
    rw [List.length_map]
theorem split_flat : ∀ l : List Int, (Sr115.splitChains l).flatten.length ≤ l.length
  | [] => by simp [Sr115.splitChains]
  | x :: l => by
    have ih := split_flat l
    unfold Sr115.splitChains
    split
    · rw [List.flatten_cons, List.nil_append, List.length_cons]; omega
    · split
      · simp
      · rename_i r rs e
        rw [e] at ih
        rw [List.flatten_cons, List.length_append] at ih
        rw [List.flatten_cons, List.length_append, List.length_cons, List.length_cons]
        omega
theorem ok_tCheck (D : DefAt K mg "tell_check_chains" (topS 55)) (T : Txt mg) (c1 : Cal P w K mg base 1 "are_elements" spElems) (c2 : Cal P w K mg base 1 "split_lists" spSplit) (c3 : Cal P w K mg base 3 "are_right" spRight) :
    Cal P w K mg base 6 "tell_check_chains" (spOp shL) := by
  have sc : FnScope ["pieces", "numbers", "lists"] ["pieces", "numbers"] (defScope (topS 55)) := ⟨rfl, rfl, rfl, by decide +kernel, rfl, by decide +kernel, by decide +kernel⟩
  refine mk_cal D sc (fun _ _ _ _ _ _ us hl => match us, hl with | [_, _], _ => rfl) opLen (fun fa cdv A outer s H vs Q E hr h => ?_)
  have nd := sc.nd
  refine ⟨_, pss_cons (ps_if (pt_not (pt_val (pe_c c1 hr (by decide) (by rfl) (pa_cons (pv 0) (pa_cons (pv 1) pa_nil))))) (pss_one (ps_ret (pe_lst (pa_cons (pe_k (by rfl) T.cOut) pa_nil)))) pss_nil)
    (pss_cons (ps_set (i := 2) nd rfl (Or.inl rfl) (pe_c c2 hr (by decide) (by rfl) (pa_cons (pv 1) pa_nil)))
    (pss_one (ps_ret (pe_lst (pa_cons (pe_callTy call_int1 (by rfl) T.int bb_int (pa_cons (pe_c c3 hr (by decide) (by rfl) (pa_cons (pv 0) (pa_cons (pv 2) pa_nil))) pa_nil)) (pa_cons (pe_callB call_len_seq (by rfl) T.len bb_len (pa_cons (pv 2) pa_nil)) pa_nil)))))), ?_⟩
  obtain ⟨a, l, f, ns, c, rfl, hp, gf, hl, hsh, h70, k⟩ := h
  cases (Option.some.inj hsh)
  have hnew : newFloor f (.checkChains ns) = f := by
    unfold newFloor Sr115.perform
    rfl
  have k' := query hp hnew (check_answer f ns) k
  refine ⟨_, rfl, _, rfl, a, l, f, ns, rfl, hp, hl, by omega, fun H1 s1 => ⟨_, rfl, ?_⟩⟩
  cases he : areElements f ns with
  | false =>
    rw [if_pos he] at k'
    exact iteT ⟨one_le, fun p np => k' _ p (s1.trans (same_new np)) (s1.free np) upd_same⟩
  | true =>
    rw [if_neg (by rw [he]; decide)] at k'
    refine iteF ?_
    refine ⟨_, rfl, l, ns, rfl, s1 _ _ hl, by omega, fun H2 p2 s2 n2 hr2 => ?_⟩
    rw [split_eq] at hr2
    obtain ⟨ys, hy, py⟩ := hr2
    have hel : ∀ r ∈ Sr115.splitChains ns, ∀ x ∈ r, 0 ≤ x ∧ x < (f.length : Int) := by
      intro r hr x hx
      obtain ⟨h1, h2⟩ := mem_split ns r x hr hx
      have he' : (decide (ns ≠ []) && ns.all fun e => decide (-1 ≤ e) && decide (e < f.length)) = true := he
      rw [Bool.and_eq_true, List.all_eq_true] at he'
      have := he'.2 x h1
      rw [Bool.and_eq_true, decide_eq_true_eq, decide_eq_true_eq] at this
      omega
    have hlenS := split_length ns
    have hflat := split_flat ns
    have hpy := py.length
    have py2 : Paired (IsRw H2) ys ((Sr115.splitChains ns).map SrCommon.intsToNats) := by
      have gen : ∀ (rows : List (List Int)) (ys : List V), (∀ r ∈ rows, ∀ x ∈ r, 0 ≤ x) → Paired (IsRow H2) ys rows → Paired (IsRw H2) ys (rows.map SrCommon.intsToNats) := by
        intro rows
        induction rows with
        | nil => intro ys _ h; cases h; exact .nil
        | cons r rows ih =>
          intro ys hh h
          cases h with
          | cons h1 h2 =>
            obtain ⟨t, e1, e2⟩ := h1
            refine .cons ⟨t, e1, ?_⟩ (ih _ (fun r' hr' => hh r' (List.mem_cons_of_mem _ hr')) h2)
            rw [e2, row_nats (hh r List.mem_cons_self)]
      exact gen _ _ (fun r hr x hx => (hel r hr x hx).1) py
    have hin : ∀ r ∈ (Sr115.splitChains ns).map SrCommon.intsToNats, ∀ i ∈ r, i < f.length := by
      intro r hr i hi
      rw [List.mem_map] at hr
      obtain ⟨r0, hr0, rfl⟩ := hr
      unfold SrCommon.intsToNats at hi
      rw [List.mem_map] at hi
      obtain ⟨x, hx, rfl⟩ := hi
      have := hel r0 hr0 x hx
      omega
    refine ⟨_, rfl, _, rfl, a, p2, f, _, ys, rfl, hp.same (s1.trans s2), gf.len, hy, py2, hin, by rw [List.length_map]; omega, by rw [flat_map_nats]; omega, fun H3 s3 => ?_⟩
    rw [right_eq f _ hin]
    refine .inr ⟨_, rfl, _, rfl, p2, _, rfl, .inl (SqL.of (s3 _ _ hy)), (by show 2 ≤ sizeLine; exact bigLine (by decide)), fun p np => ?_⟩
    refine k' _ p (s1.trans (s2.trans (s3.trans (same_new np)))) (s1.free (s2.free (s3.free np))) ?_
    rw [upd_same, py.length]
    rfl
end
end BB
set_option Elab.async false
set_option maxRecDepth 100000
set_option maxHeartbeats 2000000
set_option linter.all false
namespace BB
open PySem PySem.Spec PyProof.Rows L2
open Sr115 (Piece Floor pieceAt)
/-- a call at v: a tuple of its number and a list -/
def IsCall (H0 H : Hp) (v : V) (c : Int × List Int) : Prop := ∃ u r, v = .ref u ∧ H0 r = none ∧ H u = some (.tup [.int c.1, .ref r]) ∧ H r = some (.lst (c.2.map V.int))
def IsCallN (L : Addr) (H0 H : Hp) (v : V) (c : Int × List Int) : Prop := ∃ u r, v = .ref u ∧ u ≠ L ∧ r ≠ L ∧ H0 r = none ∧ H u = some (.tup [.int c.1, .ref r]) ∧ H r = some (.lst (c.2.map V.int))
theorem cut_ints {l : List Int} {b c : Nat} (h : b + c ≤ l.length) : cutV (l.map V.int) (some ((b : Nat) : Int)) (some (((b + c : Nat)) : Int)) = ((l.drop b).take c).map V.int := by
  unfold cutV
  rw [HT.sIx_nat, HT.sIx_nat, List.length_map, Nat.min_eq_left h, Nat.min_eq_left (show b ≤ l.length by omega), Nat.add_sub_cancel_left, List.map_take, List.map_drop]
section
variable {P : Program} {w : World} {K : PySem.W.Frag} {mg : Str → Option Value} {base : Heap}
/-- what the top has of a tuple -/
def TupAt (K : PySem.W.Frag) (mg : Str → Option Value) (x : Str) (vs : List V) : Prop := ∃ T, Holds mg x (.ref T) ∧ ∀ H, SqT K H T vs
def spSplitC : Sp := fun vs H Q _ => ∃ t l raw, vs = [.ref t] ∧ SqL K H t (l.map V.int) ∧ l.length ≤ 4400 ∧ PyFlat.calls PySr115.shape l.length l = some raw ∧
  ∀ H' p ys, Same H H' → H p = none → H' p = some (.lst ys) → Paired (IsCall H H') ys (raw.map convC) → Q (.ref p) H'
theorem scSplitC : FnScope ["calls", "found", "at", "number", "begin", "count"] ["calls"] (defScope (topS 65)) := ⟨rfl, rfl, rfl, by decide +kernel, rfl, by decide +kernel, by decide +kernel⟩
theorem cnt_get {p : Int} (h0 : 0 ≤ p) (h1 : p ≤ 16) : atI (cnts.map nV) p = some (nV (cnts.getD p.toNat 0)) := by
  obtain ⟨n, hn, rfl⟩ := int16 h0 h1
  rw [Int.toNat_natCast]
  exact atI_nat (map_get (getD_some (by show n < 17; exact hn)))
theorem ok_splitC (D : DefAt K mg "split_calls" (topS 65)) (T : Txt mg) (C : TupAt K mg "COUNTS" (cnts.map nV)) : Cal P w K mg base 1 "split_calls" (spSplitC (K := K)) := by
  refine mk_cal D scSplitC (fun _ _ _ _ _ _ us hl => match us, hl with | [_], _ => rfl) (fun vs H Q E h => ?_) (fun fa cdv A outer s H vs Q E hr h => ?_)
  · obtain ⟨t, l, raw, rfl, _⟩ := h
    rfl
  · have nd := scSplitC.nd
    obtain ⟨TC, hTC, sTC⟩ := C
    refine ⟨_, pss_cons (ps_par (i := 1) (j := 2) (by rfl) nd rfl rfl (by decide) rfl rfl (pa_cons (pe_lst pa_nil) (pa_cons pe_int pa_nil)) (by rfl))
      (pss_cons (ps_while PassesOwn.never (pt_cmpR op_lt (pv 2) (pe_callB call_len_seq (by rfl) T.len bb_len (pa_cons (pv 0) pa_nil)) (nomark _))
        (pss_cons (ps_par (i := 3) (j := 4) (by rfl) nd rfl rfl (by decide) rfl rfl (pa_cons (pe_ix ix_list (pv 0) (pv 2) (fun _ _ => rfl)) (pa_cons (pe_op op_add (pv 2) pe_int) pa_nil)) (by rfl))
        (pss_cons (ps_set (i := 5) nd rfl (Or.inl rfl) (pe_ix ix_tup (pe_k (by rfl) hTC) (pv 3) (fun _ _ => rfl)))
        (pss_cons (ps_if (pt_cmpR op_eq (pv 3) (pe_k (by rfl) T.cCheck) (nomark _))
          (pss_cons (ps_set (i := 5) nd rfl (Or.inl rfl) (pe_ix ix_list (pv 0) (pv 4) (fun _ _ => rfl)))
          (pss_one (ps_set (i := 4) nd rfl (Or.inl rfl) (pe_op op_add (pv 4) pe_int)))) pss_nil)
        (pss_cons (ps_expr (pe_bm PySem.F.plainAttrs_list PySem.F.slot_list_append PySem.F.type_list_append mt_append (pv 1) (pa_cons (pe_tup (pa_cons (pv 3) (pa_cons (pe_slice sl_list (pv 0) (po_some (pv 4)) (po_some (pe_op op_add (pv 4) (pv 5)))) pa_nil))) pa_nil)))
        (pss_one (ps_set (i := 2) nd rfl (Or.inl rfl) (pe_op op_add (pv 4) (pv 5)))))))))
      (pss_one (ps_ret (pv 1)))), ?_⟩
    obtain ⟨t, l, raw, rfl, ht, hl, hraw, k⟩ := h
    refine ⟨Nat.zero_le _, fun L nL => ⟨_, _, rfl, ?_⟩⟩
    have sL := same_new (o := .lst []) nL
    refine while_by (fun σ H' => ∃ (i : Nat) (done rest : List (List (List Int))) (kf : Nat) (out : List V) (v3 v4 v5 : Option V), σ = [some (.ref t), some (.ref L), some (nV i), v3, v4, v5] ∧ i ≤ l.length ∧ raw = done ++ rest ∧
        PyFlat.calls PySr115.shape kf (l.drop i) = some rest ∧ done.length ≤ i ∧ Same H H' ∧ H' L = some (.lst out) ∧ Paired (IsCallN L H H') out (done.map convC))
      (fun σ _ => match σ with | [_, _, some (.int i), _, _, _] => l.length - i.toNat | _ => 0)
      ⟨0, [], raw, l.length, [], none, none, none, rfl, Nat.zero_le _, rfl, hraw, Nat.le_refl _, sL, upd_same, .nil⟩ ?_ ?_
    · rintro σ H1 ⟨i, done, rest, kf, out, v3, v4, v5, rfl, hi, hrw, hc, hd, s1, eL, pL⟩
      have ht1 := s1.seq ht
      refine ⟨_, rfl, _, rfl, t, _, rfl, .inl ht1, _, _, rfl, rfl, _, rfl, ?_⟩
      rw [List.length_map]
      have hpl := pL.length
      rw [List.length_map] at hpl
      refine ite2 (fun z => ?_) (fun z => ?_)
      · have z : i < l.length := by have := of_decide_eq_true z; omega
        have ei : l[i]? = some l[i] := List.getElem?_eq_getElem z
        have edr : l.drop i = l[i] :: l.drop (i + 1) := List.drop_eq_getElem_cons z
        generalize l[i] = p at ei edr
        rw [edr] at hc
        obtain ⟨c, tl, rest', k', hc1, hc2, rfl⟩ := calls_inv hc
        obtain ⟨p0, p16, h3⟩ := call_inv hc1
        refine ⟨_, rfl, _, rfl, t, _, _, _, rfl, rfl, ht1, atI_nat (map_get ei), ?_⟩
        refine ⟨_, rfl, _, _, rfl, rfl, _, _, rfl, ?_⟩
        refine ⟨_, rfl, TC, _, _, _, rfl, rfl, sTC _, cnt_get p0 p16, ?_⟩
        refine ⟨_, rfl, rfl, _, rfl, ?_⟩
        have el1 : (l.drop (i + 1)).length = l.length - (i + 1) := List.length_drop
        rcases h3 with ⟨rfl, n, s', hs, hns, rfl, rfl⟩ | ⟨hp, hcl, rfl, rfl⟩
        · have hi1 : i + 1 < l.length := by rw [hs, List.length_cons] at el1; omega
          have ei1 : l[i + 1]? = some (n : Int) := by
            have e := congrArg (fun q => q[0]?) hs
            simp only [List.getElem?_drop, Nat.add_zero] at e
            exact e
          have es : s' = l.drop (i + 2) := by
            have e := congrArg List.tail hs
            rw [List.tail_drop] at e
            exact e.symm
          have el2 : s'.length = l.length - (i + 2) := by rw [es]; exact List.length_drop
          refine iteT ?_
          refine ⟨_, rfl, _, rfl, t, _, _, _, rfl, rfl, ht1, atI_nat (j := i + 1) (map_get ei1), ?_⟩
          refine ⟨_, rfl, _, _, rfl, rfl, ?_⟩
          -- append
          refine ⟨_, rfl, .inl ⟨rfl, _, SqL.of eL⟩, ?_⟩
          refine ⟨_, rfl, _, rfl, _, rfl, _, rfl, _, rfl, _, rfl, _, _, rfl, rfl, _, rfl, t, _, rfl, ht1, fun r nr => ?_⟩
          have ecut : cutV (l.map V.int) (some ((i : Int) + 1 + 1)) (some ((i : Int) + 1 + 1 + (n : Int))) = (s'.take n).map V.int := by
            have q := cut_ints (l := l) (b := i + 2) (c := n) (by omega)
            rw [← es] at q
            exact q
          have sr := same_new (o := .lst (cutV (l.map V.int) (some ((i : Int) + 1 + 1)) (some ((i : Int) + 1 + 1 + (n : Int))))) nr
          refine ⟨(by show 2 ≤ sizeLine; exact bigLine (by decide)), fun u nu => ?_⟩
          have su := same_new (o := .tup [V.int 13, V.ref r]) nu
          refine ⟨L, out, _, rfl, rfl, su _ _ (sr _ _ eL), ?_, ?_⟩
          · have : out.length < 16777216 := by omega
            rw [PySem.sizeLine_eq]; exact this
          · refine ⟨_, rfl, _, rfl, _, _, rfl, rfl, ?_⟩
            have s3 := sr.trans su
            have eu := upd_same (H := upd H1 r (.lst (cutV (l.map V.int) (some ((i : Int) + 1 + 1)) (some ((i : Int) + 1 + 1 + (n : Int)))))) (a := u) (o := .tup [V.int 13, V.ref r])
            have er := su _ _ (upd_same (H := H1) (a := r) (o := .lst (cutV (l.map V.int) (some ((i : Int) + 1 + 1)) (some ((i : Int) + 1 + 1 + (n : Int))))))
            have nuL : u ≠ L := Ne.symm (ne_of_none (sr _ _ eL) nu)
            have nrL : r ≠ L := Ne.symm (ne_of_none eL nr)
            refine ⟨⟨i + 2 + n, done ++ [[[13], s'.take n]], rest', k', out ++ [V.ref u], _, _, _, rfl, by omega, by rw [hrw, List.append_assoc]; rfl, ?_, ?_, same_old (s1.trans s3) nL, upd_same, ?_⟩, ?_⟩
            · have e : s'.drop n = l.drop (i + 2 + n) := by rw [es, List.drop_drop]
              rw [← e]
              exact hc2
            · rw [List.length_append, List.length_singleton]; omega
            · rw [List.map_append]
              refine paired_append (pL.mono fun _ _ ⟨u', r', e1, e2, e3, e0, e4, e5⟩ => ⟨u', r', e1, e2, e3, e0, kp_upd _ _ (s3 _ _ e4) e2, kp_upd _ _ (s3 _ _ e5) e3⟩) (.cons ⟨u, r, rfl, nuL, nrL, s1.free nr, kp_upd _ _ eu nuL, ?_⟩ .nil)
              rw [kp_upd _ _ er nrL, ecut]
              rfl
            · show l.length - (i + 2 + n) < l.length - i
              omega
        · have b0 : decide (V.int p = V.int 13) = false := decide_eq_false fun q => hp (V.int.inj q)
          rw [b0]
          generalize cnts.getD p.toNat 0 = n at hcl hc1 hc2 hrw
          refine iteF ?_
          -- append
          refine ⟨_, rfl, .inl ⟨rfl, _, SqL.of eL⟩, ?_⟩
          refine ⟨_, rfl, _, rfl, _, rfl, _, rfl, _, rfl, _, rfl, _, _, rfl, rfl, _, rfl, t, _, rfl, ht1, fun r nr => ?_⟩
          have ecut : cutV (l.map V.int) (some ((i : Int) + 1)) (some ((i : Int) + 1 + (n : Int))) = ((l.drop (i + 1)).take n).map V.int := cut_ints (l := l) (b := i + 1) (c := n) (by omega)
          have sr := same_new (o := .lst (cutV (l.map V.int) (some ((i : Int) + 1)) (some ((i : Int) + 1 + (n : Int))))) nr
          refine ⟨(by show 2 ≤ sizeLine; exact bigLine (by decide)), fun u nu => ?_⟩
          have su := same_new (o := .tup [V.int p, V.ref r]) nu
          refine ⟨L, out, _, rfl, rfl, su _ _ (sr _ _ eL), ?_, ?_⟩
          · have : out.length < 16777216 := by omega
            rw [PySem.sizeLine_eq]; exact this
          · refine ⟨_, rfl, _, rfl, _, _, rfl, rfl, ?_⟩
            have s3 := sr.trans su
            have eu := upd_same (H := upd H1 r (.lst (cutV (l.map V.int) (some ((i : Int) + 1)) (some ((i : Int) + 1 + (n : Int)))))) (a := u) (o := .tup [V.int p, V.ref r])
            have er := su _ _ (upd_same (H := H1) (a := r) (o := .lst (cutV (l.map V.int) (some ((i : Int) + 1)) (some ((i : Int) + 1 + (n : Int))))))
            have nuL : u ≠ L := Ne.symm (ne_of_none (sr _ _ eL) nu)
            have nrL : r ≠ L := Ne.symm (ne_of_none eL nr)
            refine ⟨⟨i + 1 + n, done ++ [[p :: (l.drop (i + 1)).take n]], rest', k', out ++ [V.ref u], _, _, _, rfl, by omega, by rw [hrw, List.append_assoc]; rfl, ?_, ?_, same_old (s1.trans s3) nL, upd_same, ?_⟩, ?_⟩
            · rw [List.drop_drop] at hc2
              exact hc2
            · rw [List.length_append, List.length_singleton]; omega
            · rw [List.map_append]
              refine paired_append (pL.mono fun _ _ ⟨u', r', e1, e2, e3, e0, e4, e5⟩ => ⟨u', r', e1, e2, e3, e0, kp_upd _ _ (s3 _ _ e4) e2, kp_upd _ _ (s3 _ _ e5) e3⟩) (.cons ⟨u, r, rfl, nuL, nrL, s1.free nr, kp_upd _ _ eu nuL, ?_⟩ .nil)
              rw [kp_upd _ _ er nrL, ecut]
              rfl
            · show l.length - (i + 1 + n) < l.length - i
              omega
      · have z : i = l.length := by
          have : ¬ ((i : Int) < (l.length : Int)) := fun y => z (decide_eq_true y)
          omega
        rw [z, List.drop_length] at hc
        have hr0 := calls_nil hc
        rw [hr0, List.append_nil] at hrw
        rw [← hrw] at pL
        exact ⟨_, rfl, k H1 L out s1 nL eL (pL.mono fun _ _ ⟨u, r, e1, _, _, e0, e4, e5⟩ => ⟨u, r, e1, e0, e4, e5⟩)⟩
    · rintro σ H1 Q1 Q2 f ⟨v, e, v', e', p, ys, h1, h2, i, j, h3, h4, b, h5, q⟩
      exact ⟨v, e, v', e', p, ys, h1, h2, i, j, h3, h4, b, h5, f _ _ q⟩
end
end BB
set_option Elab.async false
set_option maxRecDepth 100000
set_option maxHeartbeats 2000000
set_option linter.all false
namespace BB
open PySem PySem.Spec PyProof.Rows L2
open Sr115 (Piece Floor pieceAt)
/-- the def that stands at f -/
structure CalAt (P : Program) (w : World) (K : PySem.W.Frag) (mg : Str → Option Value) (base : Heap) (k : Nat) (f : Addr) (sp : Sp) : Prop where
  ex : ∃ (fd : FuncData) (ps : List Str), FnOk P w K mg base L2.CX0 k f fd ps sp ∧ PySem.W.keepIn K (.ref f) = true ∧ Binds K fd ps []
theorem Cal.atF {P : Program} {w : World} {K : PySem.W.Frag} {mg : Str → Option Value} {base : Heap} {k : Nat} {x : Str} {sp : Sp} (c : Cal P w K mg base k x sp) {f : Addr} (h : mg x = some (.ref f)) : CalAt P w K mg base k f sp := by
  obtain ⟨f', fd, ps, F, hm, kp, b⟩ := c.ex
  rw [h] at hm
  cases hm
  exact ⟨fd, ps, F, kp, b⟩
/-- operation(a, ..): the name holds the n-th of the defs fs -/
def tCallN (i : Nat) (fs : List Addr) (sps : Nat → Sp) (t : TA) : TE := fun σ H Q => ∃ n f, σ[i]? = some (some (.ref f)) ∧ fs[n]? = some f ∧ t σ H fun vs H1 => sps n vs H1 Q L2.E0
theorem pe_callN {X : Cx} {k i : Nat} {x : Str} {p pos : Pos} {e : Expr} {es : List Expr} {t : TA} {fs : List Addr} {sps : Nat → Sp} (A : ∀ n f, fs[n]? = some f → CalAt X.prog X.w X.K X.mg X.base k f (sps n)) (hr : Room k X.A) (hN : X.N[i]? = some x) (hv : Vis X.env.scope x) (ha : PA X (e :: es) t)
    (hdb : (x == ("__debug__" : Str)) = false := by decide) (hcd : (x == ("__classdict__" : Str)) = false := by decide)
    (he : starEach (e :: es) X.env = (false, eval e X.env) :: starEach es X.env := by rfl) (hpl : (backTo pos (starEach es X.env)).any (·.1) = false := by rfl) : PE X (.Call (.Name x p) (e :: es) [] pos) (tCallN i fs sps t) := by
  refine ⟨fun pins s σ H Q I h => ?_⟩
  obtain ⟨n, f, hs, hS, ht⟩ := h
  obtain ⟨fd, ps, F, hk, hb⟩ := (A n f hS).ex
  refine (pe_callL (i := i) (f := f) (sp := sps n) (dvs := []) (E := L2.E0) F hr hN hv hk hb .nil L2.pass0 ha hdb hcd he hpl).run pins s σ H Q I ⟨hs, ?_⟩
  have e0 : (fun (vs : List V) (H1 : Hp) => sps n (vs ++ []) H1 Q L2.E0) = fun vs H1 => sps n vs H1 Q L2.E0 := by
    funext vs H1
    rw [List.append_nil]
  show t σ H (fun vs H1 => sps n (vs ++ []) H1 Q L2.E0)
  rw [e0]
  exact ht
/-! ### the request's object -/
def oF (v : V) : List (Str × V) := [("own_pieces", v)]
def Inst (C : Addr) (H : Hp) (x : Addr) (v : V) : Prop := ∃ dx, H x = some (.ins C dx (oF v))
def StOk (H : Hp) (v : V) : Option Floor → Prop
  | none => v = .non
  | some f => ∃ a, v = .ref a ∧ Pcs H a f ∧ Good f
theorem oF_look (v : V) : (oF v).lookup ("own_pieces" : Str) = some v := by
  have e : (("own_pieces" : Str) == ("own_pieces" : Str)) = true := beq_self_eq_true _
  simp only [oF, List.lookup, e]
theorem oF_put (v y : V) : putF ("own_pieces" : Str) y (oF v) = oF y := if_pos rfl
theorem oF_no (v : V) : (oF v).lookup ("perform" : Str) = none := by
  have e : (("perform" : Str) == ("own_pieces" : Str)) = false := by decide +kernel
  simp only [oF, List.lookup, e]
structure Cl (K : PySem.W.Frag) (mg : Str → Option Value) (C : Addr) : Prop where
  cl : Cls K C
  nO : NoAttr K C "own_pieces"
  gC : mg "Request" = some (.ref C)
section
variable {P : Program} {w : World} {K : PySem.W.Frag} {mg : Str → Option Value} {base : Heap} {C : Addr}
/-! ### __init__ -/
def spInit (C : Addr) : Sp := fun vs H Q _ => ∃ x dx, vs = [.ref x] ∧ H x = some (.ins C dx []) ∧ ∀ H', Inst C H' x .non → (∀ b o, H b = some o → b ≠ x → H' b = some o) → Q .non H'
theorem scInit : FnScope ["self"] ["self"] (defScope (inClass (topS 66) 0)) := ⟨rfl, rfl, rfl, by decide +kernel, rfl, by decide +kernel, by decide +kernel⟩
theorem ok_init {f : Addr} {fd : FuncData} (F : Fun K "__init__" "Request.__init__" (inClass (topS 66) 0) f fd) (T : Cl K mg C) : FnOk P w K mg base L2.CX0 1 f fd ["self"] (spInit C) := by
  refine F.ok scInit (fun vs H Q E h => ?_) (fun cdv A outer s H vs Q E hr h => ?_)
  · obtain ⟨x, dx, rfl, _⟩ := h
    rfl
  · refine ⟨_, pss_one (ps_fld (pv 0) pe_non rfl), ?_⟩
    obtain ⟨x, dx, rfl, hx, k⟩ := h
    refine ⟨_, rfl, x, C, dx, _, rfl, hx, T.cl, T.nO, (by show 0 < 1000; decide), ?_⟩
    exact k _ ⟨dx, upd_same⟩ fun b o e n => by rw [upd_ne n]; exact e
/-! ### perform -/
theorem sh0_ne {k c : Sr115.Call} {ns : List Int} (hk : k ≠ .create) (h : sh0 k ns = some c) : c ≠ .create := by
  obtain ⟨_, rfl⟩ := sh0_inv h
  exact hk
theorem op_ne {n : Nat} {ns : List Int} {c : Sr115.Call} (h : opSh n ns = some c) : c ≠ .create := by
  match n, h with
  | 0, h => obtain ⟨a, b, _, rfl⟩ := sh2_inv h; exact nofun
  | 1, h => obtain ⟨a, _, rfl⟩ := sh1_inv h; exact nofun
  | 2, h => obtain ⟨a, b, c, _, rfl⟩ := sh3_inv h; exact nofun
  | 3, h => obtain ⟨_, rfl⟩ := sh0_inv h; exact nofun
  | 4, h => obtain ⟨a, _, rfl⟩ := sh1_inv h; exact nofun
  | 5, h => obtain ⟨_, rfl⟩ := sh0_inv h; exact nofun
  | 6, h => obtain ⟨_, rfl⟩ := sh0_inv h; exact nofun
  | 7, h => obtain ⟨_, rfl⟩ := sh0_inv h; exact nofun
  | 8, h => obtain ⟨_, rfl⟩ := sh0_inv h; exact nofun
  | 9, h => obtain ⟨_, rfl⟩ := sh0_inv h; exact nofun
  | 10, h => obtain ⟨a, _, rfl⟩ := sh1_inv h; exact nofun
  | 11, h => obtain ⟨a, _, rfl⟩ := sh1_inv h; exact nofun
  | 12, h => cases (Option.some.inj h); exact nofun
  | 13, h => obtain ⟨a, _, rfl⟩ := sh1_inv h; exact nofun
  | 14, h => obtain ⟨a, b, _, rfl⟩ := sh2_inv h; exact nofun
  | 15, h => obtain ⟨_, rfl⟩ := sh0_inv h; exact nofun
  | _ + 16, h => cases h
theorem step_none {c : Sr115.Call} (h : c ≠ .create) : stepOf none c = (none, [-11]) := by
  cases c <;> first | rfl | exact absurd rfl h
theorem step_of {f : Floor} {c : Sr115.Call} (h : c ≠ .create) : stepOf (some f) c = (some (newFloor f c), answerOf f c) := by
  cases c <;> first | rfl | exact absurd rfl h
def spPerform (C : Addr) : Sp := fun vs H Q _ => ∃ x v st p l ns c, vs = [.ref x, .int p, .ref l] ∧ Inst C H x v ∧ StOk H v st ∧ 0 ≤ p ∧ p ≤ 16 ∧ H l = some (.lst (ns.map V.int)) ∧ ns.length ≤ 70 ∧ callOp p ns = some c ∧
  ∀ H' q v', Inst C H' x v' → StOk H' v' (stepOf st c).1 → (v' = v ∨ ∃ a, v' = .ref a ∧ H a = none) → (∀ b o, H b = some o → b ≠ x → (∀ a, v = .ref a → b ≠ a) → H' b = some o) → H q = none →
    H' q = some (.lst ((stepOf st c).2.map V.int)) → Q (.ref q) H'
theorem scPerform : FnScope ["self", "number", "numbers", "operation"] ["self", "number", "numbers"] (defScope (inClass (topS 66) 1)) := ⟨rfl, rfl, rfl, by decide +kernel, rfl, by decide +kernel, by decide +kernel⟩
theorem ok_perform {f0 : Addr} {fd : FuncData} {fs : List Addr} (F : Fun K "perform" "Request.perform" (inClass (topS 66) 1) f0 fd) (T : Txt mg) (TC : Cl K mg C) (O : TupAt K mg "OPERATIONS" (fs.map V.ref)) (hfs : fs.length = 16)
    (A : ∀ n f, fs[n]? = some f → CalAt P w K mg base 6 f (spOp (opSh n))) : FnOk P w K mg base L2.CX0 7 f0 fd ["self", "number", "numbers"] (spPerform C) := by
  refine F.ok scPerform (fun vs H Q E h => ?_) (fun cdv A' outer s H vs Q E hr h => ?_)
  · obtain ⟨x, v, st, p, l, ns, c, rfl, _⟩ := h
    rfl
  · have nd := scPerform.nd
    obtain ⟨TO, hTO, sTO⟩ := O
    refine ⟨_, pss_cons (ps_if (pt_cmpR op_eq (pv 1) (pe_k (by rfl) T.cCreate) (nomark _)) (pss_cons (ps_fld (pv 0) (pe_lst pa_nil) rfl) (pss_one (ps_ret (pe_lst (pa_cons pe_int pa_nil))))) pss_nil)
      (pss_cons (ps_if (pt_cmpR op_isN (pe_fld (pv 0) rfl) pe_non (nomark _)) (pss_one (ps_ret (pe_lst (pa_cons (pe_k (by rfl) T.cNone) pa_nil)))) pss_nil)
      (pss_cons (ps_set (i := 3) nd rfl (Or.inl rfl) (pe_ix ix_tup (pe_k (by rfl) hTO) (pe_op op_sub (pv 1) pe_int) (fun _ _ => rfl)))
      (pss_one (ps_ret (pe_callN (i := 3) (fs := fs) (sps := fun n => spOp (opSh n)) A hr rfl (Or.inl rfl) (by exact pa_cons (pe_fld (pv 0) rfl) (pa_cons (pv 2) pa_nil))))))), ?_⟩
    obtain ⟨x, v, st, p, l, ns, c, rfl, ⟨dx, hx⟩, hst, p0, p16, hl, h70, hc, k⟩ := h
    refine ⟨_, rfl, rfl, _, rfl, ?_⟩
    by_cases hp : p = 0
    · subst hp
      have hc : sh0 .create ns = some c := hc
      obtain ⟨rfl, rfl⟩ := sh0_inv hc
      refine iteT ⟨Nat.zero_le _, fun a na => ?_⟩
      have s1 := same_new (o := .lst []) na
      refine ⟨_, rfl, x, C, dx, _, rfl, s1 _ _ hx, TC.cl, TC.nO, (by show 1 < 1000; decide), ?_⟩
      rw [oF_put]
      refine ⟨one_le, fun q nq => ?_⟩
      have s2 := same_new (o := .lst [V.int 0]) nq
      have hxa : a ≠ x := Ne.symm (ne_of_none hx na)
      refine k _ q (.ref a) ⟨dx, s2 _ _ upd_same⟩ ⟨a, rfl, ⟨[], ?_, .nil⟩, ⟨Nat.zero_le _, fun _ h => nomatch h⟩⟩ (.inr ⟨a, rfl, na⟩) (fun b o e nb _ => ?_) ?_ ?_
      · refine s2 _ _ ?_
        rw [upd_ne hxa]
        exact upd_same
      · refine s2 _ _ ?_
        rw [upd_ne nb]
        exact s1 _ _ e
      · cases e : H q with
        | none => rfl
        | some o =>
          exfalso
          by_cases hq : q = x
          · rw [hq, upd_same] at nq; cases nq
          · rw [upd_ne hq, s1 _ _ e] at nq; cases nq
      · exact upd_same
    · have hd : decide (V.int p = V.int 0) = false := decide_eq_false fun e => hp (V.int.inj e)
      rw [hd]
      refine iteF ?_
      have hc : opSh (p.toNat - 1) ns = some c := by
        unfold callOp at hc
        rw [if_neg hp] at hc
        exact hc
      have hne := op_ne hc
      refine ⟨_, rfl, x, C, dx, _, _, rfl, hx, TC.cl, TC.nO, oF_look v, rfl, _, rfl, ?_⟩
      cases st with
      | none =>
        have hv : v = .non := hst
        subst hv
        refine iteT ⟨one_le, fun q nq => ?_⟩
        have s1 := same_new (o := .lst [V.int (-11)]) nq
        rw [step_none hne] at k
        exact k _ q .non ⟨dx, s1 _ _ hx⟩ rfl (.inl rfl) (fun b o e _ _ => s1 _ _ e) nq upd_same
      | some f =>
        obtain ⟨a, rfl, hP, gf⟩ := hst
        refine iteF ?_
        have hn : p.toNat - 1 < fs.length := by omega
        have ef : fs[p.toNat - 1]? = some fs[p.toNat - 1] := List.getElem?_eq_getElem hn
        generalize fs[p.toNat - 1] = f1 at ef
        have ea : atI (fs.map V.ref) (p - 1) = some (.ref f1) := by
          have e1 : p - 1 = (((p.toNat - 1 : Nat)) : Int) := by omega
          rw [e1]
          exact atI_nat (map_get ef)
        refine ⟨_, rfl, _, _, rfl, rfl, TO, _, _, _, rfl, rfl, sTO _, ea, ?_⟩
        refine ⟨p.toNat - 1, f1, rfl, ef, ?_⟩
        refine ⟨_, rfl, x, C, dx, _, _, rfl, hx, TC.cl, TC.nO, oF_look _, _, rfl, ?_⟩
        refine ⟨a, l, f, ns, c, rfl, hP, gf, hl, hc, h70, fun H' q kp nq hP' eq => ?_⟩
        rw [step_of hne] at k
        obtain ⟨xs, ha, _⟩ := hP
        have hxa : x ≠ a := ne_of hx ha (by intro z; cases z)
        exact k H' q (.ref a) ⟨dx, kp _ _ hx hxa⟩ ⟨a, rfl, hP', good_new gf c⟩ (.inl rfl) (fun b o e _ nb => kp b o e (nb a rfl)) nq eq
/-! ### answers -/
def spAns (K : PySem.W.Frag) : Sp := fun vs H Q _ => ∃ t l, vs = [.ref t] ∧ SqL K H t (l.map V.int) ∧ l.length ≤ 4400 ∧ PySr115.answers_asked l = true ∧ ∀ H' p, H' p = some (.lst ((PySr115.answers l).map V.int)) → Q (.ref p) H'
theorem scAns : FnScope ["calls", "request", "told", "number", "numbers", "answer"] ["calls"] (defScope (topS 67)) := ⟨rfl, rfl, rfl, by decide +kernel, rfl, by decide +kernel, by decide +kernel⟩
theorem runs_take (cs : List Sr115.Call) (i : Nat) : (runs none (cs.take i)).length ≤ (runs none cs).length := by
  have h := runs_append (cs.take i) (cs.drop i) none
  rw [List.take_append_drop] at h
  rw [h, List.length_append]
  omega
theorem run_more {cs : List Sr115.Call} {i : Nat} {c : Sr115.Call} (h : cs[i]? = some c) : runs none (cs.take (i + 1)) = runs none (cs.take i) ++ (((stepOf (stateAt none (cs.take i)) c).2.length : Int) :: (stepOf (stateAt none (cs.take i)) c).2) := by
  rw [take_more h, runs_append]
  congr 1
  show _ ++ [] = _
  rw [List.append_nil]
theorem state_more {cs : List Sr115.Call} {i : Nat} {c : Sr115.Call} (h : cs[i]? = some c) : stateAt none (cs.take (i + 1)) = (stepOf (stateAt none (cs.take i)) c).1 := by
  rw [take_more h, stateAt_append]
  rfl
theorem ok_ans {f f0 f1 : Addr} {fd fd0 fd1 : FuncData} (F : Fun K "answers" "answers" (topS 67) f fd) (T : Txt mg) (TC : Cl K mg C) (M : Mk K C f1) (G1 : FnOk P w K mg base L2.CX0 1 f1 fd1 ["self"] (spInit C)) (b1 : Binds K fd1 ["self"] [])
    (m0 : Meth K C "perform" f0) (G0 : FnOk P w K mg base L2.CX0 7 f0 fd0 ["self", "number", "numbers"] (spPerform C)) (b0 : Binds K fd0 ["self", "number", "numbers"] []) (c1 : Cal P w K mg base 1 "split_calls" (spSplitC (K := K))) :
    FnOk P w K mg base L2.CX0 8 f fd ["calls"] (spAns K) := by
  refine F.ok scAns (fun vs H Q E h => ?_) (fun cdv A outer s H vs Q E hr h => ?_)
  · obtain ⟨t, l, rfl, _⟩ := h
    rfl
  · have nd := scAns.nd
    have hr2 : Room 2 _ := hr.mono (by decide)
    refine ⟨_, pss_cons (ps_par (i := 1) (j := 2) (by rfl) nd rfl rfl (by decide) rfl rfl (pa_cons (pe_make0 M G1 hr2 (by rfl) TC.gC b1 .nil L2.pass0) (pa_cons (pe_lst pa_nil) pa_nil)) (by rfl))
      (pss_cons (ps_for PassesOwn.never rfl (pi_list (pe_c c1 hr (by decide) (by rfl) (pa_cons (pv 0) pa_nil))) (pg_two (K := K) (i := 3) (j := 4) rfl rfl nd rfl rfl rfl rfl)
        (pss_cons (ps_set (i := 5) nd rfl (Or.inl rfl) (pe_meth (pv 1) TC.cl m0 G0 hr b0 .nil L2.pass0 (pa_cons (pv 3) (pa_cons (pv 4) pa_nil))))
        (pss_cons (ps_expr (pe_bm PySem.F.plainAttrs_list PySem.F.slot_list_append PySem.F.type_list_append mt_append (pv 2) (pa_cons (pe_callB call_len_seq (by rfl) T.len bb_len (pa_cons (pv 5) pa_nil)) pa_nil)))
        (pss_one (ps_expr (pe_bm PySem.F.plainAttrs_list PySem.F.slot_list_extend PySem.F.type_list_extend mt_extend (pv 2) (pa_cons (pv 5) pa_nil)))))))
      (pss_one (ps_ret (pv 2)))), ?_⟩
    obtain ⟨t, l, rfl, ht, hl, hask, k⟩ := h
    obtain ⟨raw, cs, hraw, hcs, hall, hans, hsz⟩ := asked_inv hask
    intro x dx nx ndx nxd
    refine ⟨x, dx, rfl, upd_same, fun H1 hI hk1 => ⟨rfl, ?_⟩⟩
    have s1 : Same H H1 := fun b o e => by
      have hb : b ≠ x := ne_of_none e nx
      refine hk1 b o ?_ hb
      rw [upd_ne hb, upd_ne (ne_of_none e ndx)]
      exact e
    refine ⟨Nat.zero_le _, fun M nM => ⟨_, _, rfl, ?_⟩⟩
    have s2 := same_new (o := .lst []) nM
    refine ⟨_, rfl, t, l, raw, rfl, (s1.trans s2).seq ht, hl, hraw, fun H0 p ys s3 np ep py => ?_⟩
    obtain ⟨dx1, hx1⟩ := hI
    have hx0 := s3 _ _ (s2 _ _ hx1)
    have hM0 := s3 _ _ (upd_same (H := H1) (a := M) (o := .lst []))
    have hxM : x ≠ M := ne_of hx0 hM0 (by intro z; cases z)
    have hpM : p ≠ M := Ne.symm (ne_of_none (upd_same (H := H1) (a := M) (o := .lst [])) np)
    have hpx : p ≠ x := Ne.symm (ne_of_none (s2 _ _ hx1) np)
    have hlen : raw.length = cs.length := by
      have := congrArg List.length hcs
      rw [List.length_map, List.length_map] at this
      exact this
    refine ⟨p, rfl, ⟨_, SqL.of ep⟩, ?_⟩
    refine for_it walk_list (fun i σ H' => ∃ v v3 v4 v5, σ = [some (.ref t), some (.ref x), some (.ref M), v3, v4, v5] ∧ Inst C H' x v ∧ StOk H' v (stateAt none (cs.take i)) ∧ (∀ a, v = .ref a → H0 a = none) ∧
        (∀ b o, H0 b = some o → b ≠ x → b ≠ M → H' b = some o) ∧ H' M = some (.lst ((runs none (cs.take i)).map V.int)))
      ⟨.non, none, none, none, rfl, ⟨dx1, hx0⟩, rfl, (fun a z => by cases z), fun b o e _ _ => e, hM0⟩ (fun i σ H' _ ⟨_, _, _, _, _, _, _, _, kp, _⟩ => SqL.of (kp _ _ ep hpx hpM)) ?_ ?_
    · rintro i y σ H2 H3 hi ⟨v, v3, v4, v5, rfl, ⟨dx2, hx2⟩, hst, hv, kp, eM⟩ ⟨rfl, ey⟩
      obtain ⟨cc, ec, u, r, rfl, hr0, hu, hr⟩ := paired_get py ey
      rw [List.getElem?_map] at ec
      cases er : raw[i]? with
      | none => rw [er] at ec; cases ec
      | some rc =>
        rw [er] at ec
        have ec : convC rc = cc := Option.some.inj ec
        subst ec
        obtain ⟨q0, q16, q70⟩ := hall rc (List.mem_of_getElem? er)
        have ecall : ∃ call, cs[i]? = some call ∧ callOp (convC rc).1 (convC rc).2 = some call := by
          have e := congrArg (fun z => z[i]?) hcs
          simp only [List.getElem?_map, er, Option.map_some] at e
          cases z : cs[i]? with
          | none => rw [z] at e; cases e
          | some call =>
            rw [z] at e
            exact ⟨call, rfl, Option.some.inj e⟩
        obtain ⟨call, eci, hop⟩ := ecall
        have hux : u ≠ x := ne_of hu hx0 (by intro z; cases z)
        have huM : u ≠ M := ne_of hu hM0 (by intro z; cases z)
        have hrx : r ≠ x := ne_of hr hx0 (by intro z; cases z)
        have hrM : r ≠ M := by
          rintro rfl
          rw [upd_same] at hr0
          cases hr0
        refine ⟨u, _, rfl, SqT.of (kp _ _ hu hux huM), rfl, _, _, rfl, _, _, rfl, rfl, ?_⟩
        refine ⟨_, rfl, x, dx2, _, rfl, hx2, oF_no v, _, rfl, _, rfl, ?_⟩
        refine ⟨x, v, _, _, r, _, call, rfl, ⟨dx2, hx2⟩, hst, q0, q16, kp _ _ hr hrx hrM, q70, hop, fun H4 q v' hI4 hst4 hv4 kp4 nq eq => ?_⟩
        have rm := run_more eci
        have sm := state_more eci
        have hMa : ∀ a, v = .ref a → M ≠ a := fun a e => by
          have := hv a e
          rintro rfl
          rw [hM0] at this; cases this
        have eM4 := kp4 _ _ eM (Ne.symm hxM) hMa
        have hqM : q ≠ M := Ne.symm (ne_of_none eM nq)
        have hle := runs_take cs (i + 1)
        rw [rm, List.length_append, List.length_cons] at hle
        -- told.append(len(answer))
        refine ⟨_, rfl, .inl ⟨rfl, _, SqL.of eM4⟩, ?_⟩
        refine ⟨_, rfl, q, _, rfl, .inl (SqL.of eq), ?_⟩
        refine ⟨M, _, _, rfl, rfl, eM4, ?_, ?_⟩
        · rw [List.length_map, PySem.sizeLine_eq]; omega
        · -- told.extend(answer)
          refine ⟨_, rfl, .inl ⟨rfl, _, SqL.of upd_same⟩, ?_⟩
          refine ⟨_, rfl, M, q, _, _, rfl, rfl, upd_same, kp_upd _ _ eq hqM, ?_, ?_⟩
          · rw [List.length_append, List.length_map, List.length_map, List.length_singleton]
            exact bigLine (by omega)
          · rw [upd_upd]
            have kM : Kp M H4 (upd H4 M (.lst ((runs none (cs.take i)).map V.int ++ [V.int (((stepOf (stateAt none (cs.take i)) call).2.map V.int).length : Int)] ++ (stepOf (stateAt none (cs.take i)) call).2.map V.int))) := kp_upd
            obtain ⟨dx4, hx4⟩ := hI4
            have hv' : ∀ a, v' = .ref a → H0 a = none := by
              intro a ea
              rcases hv4 with z | ⟨a', z, na'⟩
              · exact hv a (z ▸ ea)
              · rw [ea] at z
                cases z
                cases e0 : H0 a with
                | none => rfl
                | some o =>
                  exfalso
                  by_cases c1 : a = x
                  · rw [c1, hx2] at na'; cases na'
                  · by_cases c2 : a = M
                    · rw [c2, eM] at na'; cases na'
                    · rw [kp _ _ e0 c1 c2] at na'; cases na'
            refine ⟨v', _, _, _, rfl, ⟨dx4, kM _ _ hx4 hxM⟩, ?_, hv', fun b o e n1 n2 => ?_, ?_⟩
            · rw [sm]
              cases hs' : (stepOf (stateAt none (cs.take i)) call).1 with
              | none => rw [hs'] at hst4; exact hst4
              | some f' =>
                rw [hs'] at hst4
                obtain ⟨a, ea, ⟨zs, hz, pz⟩, gf⟩ := hst4
                have haM : a ≠ M := by
                  rintro rfl
                  have := hv' a ea
                  rw [hM0] at this; cases this
                exact ⟨a, ea, ⟨zs, kM _ _ hz haM, pz.mono fun _ _ z => z.kp eM4 kM⟩, gf⟩
            · refine kM _ _ (kp4 _ _ (kp _ _ e n1 n2) n1 fun a ea => ?_) n2
              rintro rfl
              rw [hv b ea] at e; cases e
            · rw [upd_same, rm, List.map_append, List.length_map, List.append_assoc]
              rfl
    · rintro σ H2 ⟨v, v3, v4, v5, rfl, _, _, _, _, eM⟩
      have e : cs.take ys.length = cs := by
        have := py.length
        rw [List.length_map] at this
        rw [this, hlen, List.take_length]
      rw [e] at eM
      refine ⟨_, rfl, k H2 M ?_⟩
      rw [hans]
      exact eM
end
end BB
set_option Elab.async false
set_option maxRecDepth 100000
set_option maxHeartbeats 2000000
set_option linter.all false
namespace BB
open PySem PySem.Spec PyProof.Rows L2
open Sr115 (Piece Floor pieceAt)
/-! ### the end: what the top has left -/
theorem def_mk {K : PySem.W.Frag} {h : Heap} {mg : Str → Option Value} {x : Str} {st : Stmt} {f : Addr} {oc : Value} {od an : Option Addr} {osl : Array (Option Value)} {kV doc pm cdv ct : Value} (X : K.In h) (G : h.Ns mainGlobals mg) (a : PySem.W.nsIn K mainGlobals x = some (some (.ref f)))
    (l : K.lookup f = some ⟨oc, od, .func (PySem.W.fnOf x x (defArgs st) (defBody st) (defScope st) .none kV doc pm an cdv ct), osl⟩) (c : PySem.W.codeIn K cdv x = true) (k : PySem.W.keepIn K (.ref f) = true) : DefAt K mg x st := ⟨f, _, fun_mk l c k, PySem.W.mg_of X G a⟩
theorem const_mk {K : PySem.W.Frag} {h : Heap} {mg : Str → Option Value} {x : Str} {i : Int} {t : Tok} (X : K.In h) (G : h.Ns mainGlobals mg) (a : PySem.W.nsIn K mainGlobals x = some (some (.int i t))) : Holds mg x (.int i) := ⟨_, PySem.W.mg_of X G a, t, rfl⟩
theorem tup_mk {K : PySem.W.Frag} {h : Heap} {mg : Str → Option Value} {x : Str} {T : Addr} {od : Option Addr} {its : Array Value} {n : Nat} {osl : Array (Option Value)} {vs : List V} (X : K.In h) (G : h.Ns mainGlobals mg) (a : PySem.W.nsIn K mainGlobals x = some (some (.ref T)))
    (l : K.lookup T = some ⟨.type "tuple", od, .seq its n, osl⟩) (hv : Vals vs its.toList) (hz : vs.length ≤ 1000) : TupAt K mg x vs := by
  refine ⟨T, ⟨_, PySem.W.mg_of X G a, rfl⟩, fun H => .inr ⟨_, its, n, l, rfl, rfl, ?_, hv⟩⟩
  have e : vs.length = its.size := hv.length.trans (by simp)
  have e2 : (1000 : Nat) ≤ sizeLine := bigLine (by decide)
  omega
theorem all_ok {P : Program} {w : World} {K : PySem.W.Frag} {mg : Str → Option Value} {base : Heap} {C f f0 f1 : Addr} {fd fd0 fd1 : FuncData} {o0 o1 o2 o3 o4 o5 o6 o7 o8 o9 o10 o11 o12 o13 o14 o15 : Addr} (T : Txt mg) (CO : TupAt K mg "COUNTS" (cnts.map nV))
    (d_can_follow : DefAt K mg "can_follow" (topS 1))
    (d_longer_chains : DefAt K mg "longer_chains" (topS 2))
    (d_complete_chains : DefAt K mg "complete_chains" (topS 3))
    (d_is_circuit : DefAt K mg "is_circuit" (topS 4))
    (d_all_circuits : DefAt K mg "all_circuits" (topS 5))
    (d_count_beginning : DefAt K mg "count_beginning" (topS 6))
    (d_are_elements : DefAt K mg "are_elements" (topS 9))
    (d_split_lists : DefAt K mg "split_lists" (topS 10))
    (d_do_fit : DefAt K mg "do_fit" (topS 11))
    (d_is_linked : DefAt K mg "is_linked" (topS 12))
    (d_are_right : DefAt K mg "are_right" (topS 13))
    (d_is_mark : DefAt K mg "is_mark" (topS 16))
    (d_are_marks : DefAt K mg "are_marks" (topS 17))
    (d_begin_count : DefAt K mg "begin_count" (topS 18))
    (d_end_count : DefAt K mg "end_count" (topS 19))
    (d_all_excesses : DefAt K mg "all_excesses" (topS 20))
    (d_used_marks : DefAt K mg "used_marks" (topS 21))
    (d_component_names : DefAt K mg "component_names" (topS 22))
    (d_component_list : DefAt K mg "component_list" (topS 23))
    (d_positive_excess : DefAt K mg "positive_excess" (topS 24))
    (d_fewest_chains : DefAt K mg "fewest_chains" (topS 25))
    (d_with_piece : DefAt K mg "with_piece" (topS 27))
    (d_choices_to : DefAt K mg "choices_to" (topS 28))
    (d_leads_to : DefAt K mg "leads_to" (topS 29))
    (d_is_tree : DefAt K mg "is_tree" (topS 30))
    (d_count_trees : DefAt K mg "count_trees" (topS 31))
    (d_factorial : DefAt K mg "factorial" (topS 32))
    (d_is_balanced : DefAt K mg "is_balanced" (topS 33))
    (d_circuits_by_trees : DefAt K mg "circuits_by_trees" (topS 34))
    (d_new_piece_error : DefAt K mg "new_piece_error" (topS 41))
    (d_add_piece : DefAt K mg "add_piece" (topS 42))
    (d_remove_piece : DefAt K mg "remove_piece" (topS 43))
    (d_set_piece : DefAt K mg "set_piece" (topS 44))
    (d_tell_chain_count : DefAt K mg "tell_chain_count" (topS 45))
    (d_tell_one_of : DefAt K mg "tell_one_of" (topS 46))
    (d_tell_chain : DefAt K mg "tell_chain" (topS 47))
    (d_tell_single_chain_possible : DefAt K mg "tell_single_chain_possible" (topS 48))
    (d_tell_min_chains : DefAt K mg "tell_min_chains" (topS 49))
    (d_tell_excesses : DefAt K mg "tell_excesses" (topS 50))
    (d_tell_components : DefAt K mg "tell_components" (topS 51))
    (d_tell_circuit_count : DefAt K mg "tell_circuit_count" (topS 52))
    (d_tell_circuit : DefAt K mg "tell_circuit" (topS 53))
    (d_tell_tree_count : DefAt K mg "tell_tree_count" (topS 54))
    (d_tell_check_chains : DefAt K mg "tell_check_chains" (topS 55))
    (d_tell_chains_from : DefAt K mg "tell_chains_from" (topS 56))
    (d_tell_with_piece : DefAt K mg "tell_with_piece" (topS 57))
    (d_describe : DefAt K mg "describe" (topS 58))
    (d_split_calls : DefAt K mg "split_calls" (topS 65))
    (g0 : mg "add_piece" = some (.ref o0)) (g1 : mg "remove_piece" = some (.ref o1)) (g2 : mg "set_piece" = some (.ref o2)) (g3 : mg "tell_chain_count" = some (.ref o3)) (g4 : mg "tell_chain" = some (.ref o4)) (g5 : mg "tell_single_chain_possible" = some (.ref o5)) (g6 : mg "tell_min_chains" = some (.ref o6)) (g7 : mg "tell_excesses" = some (.ref o7)) (g8 : mg "tell_components" = some (.ref o8)) (g9 : mg "tell_circuit_count" = some (.ref o9)) (g10 : mg "tell_circuit" = some (.ref o10)) (g11 : mg "tell_tree_count" = some (.ref o11)) (g12 : mg "tell_check_chains" = some (.ref o12)) (g13 : mg "tell_chains_from" = some (.ref o13)) (g14 : mg "tell_with_piece" = some (.ref o14)) (g15 : mg "describe" = some (.ref o15))
    (O : TupAt K mg "OPERATIONS" ([o0, o1, o2, o3, o4, o5, o6, o7, o8, o9, o10, o11, o12, o13, o14, o15].map V.ref))
    (F : Fun K "answers" "answers" (topS 67) f fd) (TC : Cl K mg C) (M : Mk K C f1) (F1 : Fun K "__init__" "Request.__init__" (inClass (topS 66) 0) f1 fd1) (m0 : Meth K C "perform" f0) (F0 : Fun K "perform" "Request.perform" (inClass (topS 66) 1) f0 fd0) :
    FnOk P w K mg base L2.CX0 8 f fd ["calls"] (spAns K) := by
  have c_can_follow := ok_follow (P := P) (w := w) (K := K) (base := base) d_can_follow
  have c_longer_chains := ok_longer (P := P) (w := w) (K := K) (base := base) d_longer_chains T c_can_follow
  have c_complete_chains := ok_complete (P := P) (w := w) (K := K) (base := base) d_complete_chains T c_longer_chains
  have c_is_circuit := ok_is_circuit (P := P) (w := w) (K := K) (base := base) d_is_circuit
  have c_all_circuits := ok_circuits (P := P) (w := w) (K := K) (base := base) d_all_circuits c_complete_chains c_is_circuit
  have c_count_beginning := ok_countB (P := P) (w := w) (K := K) (base := base) d_count_beginning T c_complete_chains
  have c_are_elements := ok_elements (P := P) (w := w) (K := K) (base := base) d_are_elements T
  have c_split_lists := ok_split (P := P) (w := w) (K := K) (base := base) d_split_lists T
  have c_do_fit := ok_fit (P := P) (w := w) (K := K) (base := base) d_do_fit
  have c_is_linked := ok_linked (P := P) (w := w) (K := K) (base := base) d_is_linked T c_do_fit
  have c_are_right := ok_right (P := P) (w := w) (K := K) (base := base) d_are_right T c_is_linked
  have c_is_mark := ok_is_mark (P := P) (w := w) (K := K) (base := base) d_is_mark T
  have c_are_marks := ok_are_marks (P := P) (w := w) (K := K) (base := base) d_are_marks T c_is_mark
  have c_begin_count := ok_begin (P := P) (w := w) (K := K) (base := base) d_begin_count T
  have c_end_count := ok_end (P := P) (w := w) (K := K) (base := base) d_end_count T
  have c_all_excesses := ok_excesses (P := P) (w := w) (K := K) (base := base) d_all_excesses T c_begin_count c_end_count
  have c_used_marks := ok_used (P := P) (w := w) (K := K) (base := base) d_used_marks T c_begin_count c_end_count
  have c_component_names := ok_names (P := P) (w := w) (K := K) (base := base) d_component_names T
  have c_component_list := ok_comps (P := P) (w := w) (K := K) (base := base) d_component_list c_component_names c_used_marks
  have c_positive_excess := ok_pos (P := P) (w := w) (K := K) (base := base) d_positive_excess T c_component_names c_all_excesses
  have c_fewest_chains := ok_fewest (P := P) (w := w) (K := K) (base := base) d_fewest_chains T c_component_list c_positive_excess
  have c_with_piece := ok_with (P := P) (w := w) (K := K) (base := base) d_with_piece T
  have c_choices_to := ok_choices (P := P) (w := w) (K := K) (base := base) d_choices_to T c_used_marks c_with_piece
  have c_leads_to := ok_leads (P := P) (w := w) (K := K) (base := base) d_leads_to T
  have c_is_tree := ok_is_tree (P := P) (w := w) (K := K) (base := base) d_is_tree T c_used_marks c_leads_to
  have c_count_trees := ok_countT (P := P) (w := w) (K := K) (base := base) d_count_trees T c_choices_to c_is_tree
  have c_factorial := ok_fact (P := P) (w := w) (K := K) (base := base) d_factorial T
  have c_is_balanced := ok_balanced (P := P) (w := w) (K := K) (base := base) d_is_balanced T c_component_list c_all_excesses
  have c_circuits_by_trees := ok_by_trees (P := P) (w := w) (K := K) (base := base) d_circuits_by_trees c_is_balanced c_count_trees c_used_marks c_factorial c_begin_count
  have c_new_piece_error := ok_err (P := P) (w := w) (K := K) (base := base) d_new_piece_error T c_are_marks
  have c_add_piece := ok_add (P := P) (w := w) (K := K) (base := base) d_add_piece T c_new_piece_error
  have c_remove_piece := ok_remove (P := P) (w := w) (K := K) (base := base) d_remove_piece T
  have c_set_piece := ok_set (P := P) (w := w) (K := K) (base := base) d_set_piece T c_are_marks
  have c_tell_chain_count := ok_tChainCount (P := P) (w := w) (K := K) (base := base) d_tell_chain_count T c_complete_chains
  have c_tell_one_of := ok_one (P := P) (w := w) (K := K) (base := base) d_tell_one_of T
  have c_tell_chain := ok_tChain (P := P) (w := w) (K := K) (base := base) d_tell_chain c_complete_chains c_tell_one_of
  have c_tell_single_chain_possible := ok_tSingle (P := P) (w := w) (K := K) (base := base) d_tell_single_chain_possible T c_fewest_chains
  have c_tell_min_chains := ok_tMin (P := P) (w := w) (K := K) (base := base) d_tell_min_chains c_fewest_chains
  have c_tell_excesses := ok_tExc (P := P) (w := w) (K := K) (base := base) d_tell_excesses T c_all_excesses
  have c_tell_components := ok_tComps (P := P) (w := w) (K := K) (base := base) d_tell_components T c_component_list
  have c_tell_circuit_count := ok_tCC (P := P) (w := w) (K := K) (base := base) d_tell_circuit_count T c_all_circuits c_circuits_by_trees
  have c_tell_circuit := ok_tCircuit (P := P) (w := w) (K := K) (base := base) d_tell_circuit c_all_circuits c_tell_one_of
  have c_tell_tree_count := ok_tTree (P := P) (w := w) (K := K) (base := base) d_tell_tree_count T c_is_mark c_used_marks c_count_trees
  have c_tell_check_chains := ok_tCheck (P := P) (w := w) (K := K) (base := base) d_tell_check_chains T c_are_elements c_split_lists c_are_right
  have c_tell_chains_from := ok_tFrom (P := P) (w := w) (K := K) (base := base) d_tell_chains_from T c_is_mark c_count_beginning
  have c_tell_with_piece := ok_tWith (P := P) (w := w) (K := K) (base := base) d_tell_with_piece T c_new_piece_error c_fewest_chains c_complete_chains
  have c_describe := ok_describe (P := P) (w := w) (K := K) (base := base) d_describe T
  have c_split_calls := ok_splitC (P := P) (w := w) (K := K) (base := base) d_split_calls T CO
  have A : ∀ n o, [o0, o1, o2, o3, o4, o5, o6, o7, o8, o9, o10, o11, o12, o13, o14, o15][n]? = some o → CalAt P w K mg base 6 o (spOp (opSh n)) := by
    intro n o e
    match n, e with
    | 0, e => cases (Option.some.inj e); exact Cal.atF c_add_piece g0
    | 1, e => cases (Option.some.inj e); exact Cal.atF c_remove_piece g1
    | 2, e => cases (Option.some.inj e); exact Cal.atF c_set_piece g2
    | 3, e => cases (Option.some.inj e); exact Cal.atF c_tell_chain_count g3
    | 4, e => cases (Option.some.inj e); exact Cal.atF c_tell_chain g4
    | 5, e => cases (Option.some.inj e); exact Cal.atF c_tell_single_chain_possible g5
    | 6, e => cases (Option.some.inj e); exact Cal.atF c_tell_min_chains g6
    | 7, e => cases (Option.some.inj e); exact Cal.atF c_tell_excesses g7
    | 8, e => cases (Option.some.inj e); exact Cal.atF c_tell_components g8
    | 9, e => cases (Option.some.inj e); exact Cal.atF c_tell_circuit_count g9
    | 10, e => cases (Option.some.inj e); exact Cal.atF c_tell_circuit g10
    | 11, e => cases (Option.some.inj e); exact Cal.atF c_tell_tree_count g11
    | 12, e => cases (Option.some.inj e); exact Cal.atF c_tell_check_chains g12
    | 13, e => cases (Option.some.inj e); exact Cal.atF c_tell_chains_from g13
    | 14, e => cases (Option.some.inj e); exact Cal.atF c_tell_with_piece g14
    | 15, e => cases (Option.some.inj e); exact Cal.atF c_describe g15
    | _ + 16, e => cases e
  have G0 : FnOk P w K mg base L2.CX0 7 f0 fd0 ["self", "number", "numbers"] (spPerform C) := ok_perform F0 T TC O rfl A
  have G1 : FnOk P w K mg base L2.CX0 1 f1 fd1 ["self"] (spInit C) := ok_init F1 TC
  have b0 := F0.binds (ps := ["self", "number", "numbers"]) fun _ _ _ _ _ _ us hl => match us, hl with | [_, _, _], _ => rfl
  have b1 := F1.binds (ps := ["self"]) fun _ _ _ _ _ _ us hl => match us, hl with | [_], _ => rfl
  exact ok_ans F T TC M G1 b1 m0 G0 b0 c_split_calls
theorem all_top {P : Program} {w : World} {K : PySem.W.Frag} {h : Heap} {mg : Str → Option Value} {fa C f0 f1 f2 : Addr} {o0 o1 o2 o3 o4 o5 o6 o7 o8 o9 o10 o11 o12 o13 o14 o15 : Addr} (X : K.In h) (G : h.Ns mainGlobals mg) (hfa : mg "answers" = some (.ref fa))
    {od0 an0 od1 an1 od2 an2 : Option Addr} {sl0 sl1 sl2 : Array (Option Value)} {oc0 kV0 dc0 pm0 cd0 ct0 oc1 kV1 dc1 pm1 cd1 ct1 oc2 kV2 dc2 pm2 cd2 ct2 : Value} (T : Txt mg) (CO : TupAt K mg "COUNTS" (cnts.map nV))
    (d_can_follow : DefAt K mg "can_follow" (topS 1))
    (d_longer_chains : DefAt K mg "longer_chains" (topS 2))
    (d_complete_chains : DefAt K mg "complete_chains" (topS 3))
    (d_is_circuit : DefAt K mg "is_circuit" (topS 4))
    (d_all_circuits : DefAt K mg "all_circuits" (topS 5))
    (d_count_beginning : DefAt K mg "count_beginning" (topS 6))
    (d_are_elements : DefAt K mg "are_elements" (topS 9))
    (d_split_lists : DefAt K mg "split_lists" (topS 10))
    (d_do_fit : DefAt K mg "do_fit" (topS 11))
    (d_is_linked : DefAt K mg "is_linked" (topS 12))
    (d_are_right : DefAt K mg "are_right" (topS 13))
    (d_is_mark : DefAt K mg "is_mark" (topS 16))
    (d_are_marks : DefAt K mg "are_marks" (topS 17))
    (d_begin_count : DefAt K mg "begin_count" (topS 18))
    (d_end_count : DefAt K mg "end_count" (topS 19))
    (d_all_excesses : DefAt K mg "all_excesses" (topS 20))
    (d_used_marks : DefAt K mg "used_marks" (topS 21))
    (d_component_names : DefAt K mg "component_names" (topS 22))
    (d_component_list : DefAt K mg "component_list" (topS 23))
    (d_positive_excess : DefAt K mg "positive_excess" (topS 24))
    (d_fewest_chains : DefAt K mg "fewest_chains" (topS 25))
    (d_with_piece : DefAt K mg "with_piece" (topS 27))
    (d_choices_to : DefAt K mg "choices_to" (topS 28))
    (d_leads_to : DefAt K mg "leads_to" (topS 29))
    (d_is_tree : DefAt K mg "is_tree" (topS 30))
    (d_count_trees : DefAt K mg "count_trees" (topS 31))
    (d_factorial : DefAt K mg "factorial" (topS 32))
    (d_is_balanced : DefAt K mg "is_balanced" (topS 33))
    (d_circuits_by_trees : DefAt K mg "circuits_by_trees" (topS 34))
    (d_new_piece_error : DefAt K mg "new_piece_error" (topS 41))
    (d_add_piece : DefAt K mg "add_piece" (topS 42))
    (d_remove_piece : DefAt K mg "remove_piece" (topS 43))
    (d_set_piece : DefAt K mg "set_piece" (topS 44))
    (d_tell_chain_count : DefAt K mg "tell_chain_count" (topS 45))
    (d_tell_one_of : DefAt K mg "tell_one_of" (topS 46))
    (d_tell_chain : DefAt K mg "tell_chain" (topS 47))
    (d_tell_single_chain_possible : DefAt K mg "tell_single_chain_possible" (topS 48))
    (d_tell_min_chains : DefAt K mg "tell_min_chains" (topS 49))
    (d_tell_excesses : DefAt K mg "tell_excesses" (topS 50))
    (d_tell_components : DefAt K mg "tell_components" (topS 51))
    (d_tell_circuit_count : DefAt K mg "tell_circuit_count" (topS 52))
    (d_tell_circuit : DefAt K mg "tell_circuit" (topS 53))
    (d_tell_tree_count : DefAt K mg "tell_tree_count" (topS 54))
    (d_tell_check_chains : DefAt K mg "tell_check_chains" (topS 55))
    (d_tell_chains_from : DefAt K mg "tell_chains_from" (topS 56))
    (d_tell_with_piece : DefAt K mg "tell_with_piece" (topS 57))
    (d_describe : DefAt K mg "describe" (topS 58))
    (d_split_calls : DefAt K mg "split_calls" (topS 65))
    (g0 : mg "add_piece" = some (.ref o0)) (g1 : mg "remove_piece" = some (.ref o1)) (g2 : mg "set_piece" = some (.ref o2)) (g3 : mg "tell_chain_count" = some (.ref o3)) (g4 : mg "tell_chain" = some (.ref o4)) (g5 : mg "tell_single_chain_possible" = some (.ref o5)) (g6 : mg "tell_min_chains" = some (.ref o6)) (g7 : mg "tell_excesses" = some (.ref o7)) (g8 : mg "tell_components" = some (.ref o8)) (g9 : mg "tell_circuit_count" = some (.ref o9)) (g10 : mg "tell_circuit" = some (.ref o10)) (g11 : mg "tell_tree_count" = some (.ref o11)) (g12 : mg "tell_check_chains" = some (.ref o12)) (g13 : mg "tell_chains_from" = some (.ref o13)) (g14 : mg "tell_with_piece" = some (.ref o14)) (g15 : mg "describe" = some (.ref o15))
    (O : TupAt K mg "OPERATIONS" ([o0, o1, o2, o3, o4, o5, o6, o7, o8, o9, o10, o11, o12, o13, o14, o15].map V.ref))
    (aC : PySem.W.nsIn K mainGlobals "Request" = some (some (.ref C)))
    (a1 : PySem.W.findIn K (.ref C) "__init__" = some (some (.ref f1))) (i1 : PySem.W.isFn K (.ref f1) = true) (l1 : K.lookup f1 = some ⟨oc1, od1, .func (PySem.W.fnOf "__init__" "Request.__init__" (defArgs (inClass (topS 66) 0)) (defBody (inClass (topS 66) 0)) (defScope (inClass (topS 66) 0)) .none kV1 dc1 pm1 an1 cd1 ct1), sl1⟩) (c1 : PySem.W.codeIn K cd1 "Request.__init__" = true) (k1 : PySem.W.keepIn K (.ref f1) = true)
    (a0 : PySem.W.findIn K (.ref C) "perform" = some (some (.ref f0))) (i0 : PySem.W.isFn K (.ref f0) = true) (l0 : K.lookup f0 = some ⟨oc0, od0, .func (PySem.W.fnOf "perform" "Request.perform" (defArgs (inClass (topS 66) 1)) (defBody (inClass (topS 66) 1)) (defScope (inClass (topS 66) 1)) .none kV0 dc0 pm0 an0 cd0 ct0), sl0⟩) (c0 : PySem.W.codeIn K cd0 "Request.perform" = true) (k0 : PySem.W.keepIn K (.ref f0) = true)
    (a2 : PySem.W.nsIn K mainGlobals "answers" = some (some (.ref f2))) (l2 : K.lookup f2 = some ⟨oc2, od2, .func (PySem.W.fnOf "answers" "answers" (defArgs (topS 67)) (defBody (topS 67)) (defScope (topS 67)) .none kV2 dc2 pm2 an2 cd2 ct2), sl2⟩) (c2 : PySem.W.codeIn K cd2 "answers" = true) (k2 : PySem.W.keepIn K (.ref f2) = true)
    (pg : PySem.W.plainGet K C Str.empty = true) (hd : PySem.W.hasDictIn K C = true) (po : PySem.W.plainOver K C = true) (sa : PySem.W.findIn K (.ref C) "__setattr__" = some (some (.builtin "object.__setattr__"))) (mk : PySem.W.makesIn K C = true) (kc : PySem.W.keepIn K (.ref C) = true)
    (nO : PySem.W.findIn K (.ref C) "own_pieces" = some none) :
    ∃ fd : FuncData, (∀ (s : Shared) (us : List Value), us.length = (["calls"] : List Str).length → BindsTo s fd ⟨us, []⟩ ((["calls"] : List Str).zip us)) ∧ ∀ base : Heap, K.In base → base.Ns mainGlobals mg → FnOk P w K mg base L2.CX0 8 fa fd ["calls"] (spAns K) := by
  have e := hfa.symm.trans (PySem.W.mg_of X G a2)
  cases e
  have F0 := fun_mk (st := inClass (topS 66) 1) l0 c0 k0
  have F1 := fun_mk (st := inClass (topS 66) 0) l1 c1 k1
  have F2 := fun_mk (st := topS 67) l2 c2 k2
  exact ⟨PySem.W.fnOf "answers" "answers" (defArgs (topS 67)) (defBody (topS 67)) (defScope (topS 67)) .none kV2 dc2 pm2 an2 cd2 ct2, fun s us hu => match us, hu with | [_], _ => .of_eq rfl, fun base _ _ => all_ok T CO d_can_follow d_longer_chains d_complete_chains d_is_circuit d_all_circuits d_count_beginning d_are_elements d_split_lists d_do_fit d_is_linked d_are_right d_is_mark d_are_marks d_begin_count d_end_count d_all_excesses d_used_marks d_component_names d_component_list d_positive_excess d_fewest_chains d_with_piece d_choices_to d_leads_to d_is_tree d_count_trees d_factorial d_is_balanced d_circuits_by_trees d_new_piece_error d_add_piece d_remove_piece d_set_piece d_tell_chain_count d_tell_one_of d_tell_chain d_tell_single_chain_possible d_tell_min_chains d_tell_excesses d_tell_components d_tell_circuit_count d_tell_circuit d_tell_tree_count d_tell_check_chains d_tell_chains_from d_tell_with_piece d_describe d_split_calls g0 g1 g2 g3 g4 g5 g6 g7 g8 g9 g10 g11 g12 g13 g14 g15 O F2 ⟨⟨pg, hd, po, sa⟩, nO, PySem.W.mg_of X G aC⟩ ⟨mk, a1, i1, kc⟩ F1 ⟨a0, i0, k0⟩ F0⟩
theorem ans_len : ∀ l : List Int, (PySem.W.Codec.inLen 0 4400 l && l.all (PySem.W.Codec.inInt (-2147483648) 2147483647)) && true = true → l.length ≤ 4400 := fun l q => by
  have q : ((PySem.W.Codec.inLen 0 4400 l && l.all (PySem.W.Codec.inInt (-2147483648) 2147483647)) && true) = true := q
  rw [Bool.and_eq_true, Bool.and_eq_true] at q
  exact (PySem.W.Codec.inNat_iff.mp q.1.1).2
end BB
open PySem PySem.W PyProof.Rows
set_option maxRecDepth 100000 in
set_option maxHeartbeats 8000000 in
theorem PySem.Challenge.cw_brokenborder_s01_answers_holds : PySem.Challenge.rw_brokenborder_s01_answers.Holds := by
  w_on; k_headS; (case hw => exact ⟨[.list [.int 0]], by decide +kernel, by decide +kernel⟩)
  k_fillS
  refine L2.walk_specK (r := PySem.Challenge.rw_brokenborder_s01_answers) (k := 8) (CX := L2.CX0) (ps := ["calls"]) (sp := BB.spAns) (by decide +kernel) rfl rfl ⟨rfl, by decide, by decide⟩ (fun w h Y => PySem.W.kIn_of Y) ?F ?S (fun _ _ _ _ z => z)
  case F =>
    intro w mg fa h Y KX G hmg
    refine' BB.all_top KX G hmg ?zT ?zCO ?zd1 ?zd2 ?zd3 ?zd4 ?zd5 ?zd6 ?zd9 ?zd10 ?zd11 ?zd12 ?zd13 ?zd16 ?zd17 ?zd18 ?zd19 ?zd20 ?zd21 ?zd22 ?zd23 ?zd24 ?zd25 ?zd27 ?zd28 ?zd29 ?zd30 ?zd31 ?zd32 ?zd33 ?zd34 ?zd41 ?zd42 ?zd43 ?zd44 ?zd45 ?zd46 ?zd47 ?zd48 ?zd49 ?zd50 ?zd51 ?zd52 ?zd53 ?zd54 ?zd55 ?zd56 ?zd57 ?zd58 ?zd65 ?zg0 ?zg1 ?zg2 ?zg3 ?zg4 ?zg5 ?zg6 ?zg7 ?zg8 ?zg9 ?zg10 ?zg11 ?zg12 ?zg13 ?zg14 ?zg15 ?zO ?zaC ?za1 ?zi1 ?zl1 ?zc1 ?zk1 ?za0 ?zi0 ?zl0 ?zc0 ?zk0 ?za2 ?zl2 ?zc2 ?zk2 ?zpg ?zhd ?zpo ?zsa ?zmk ?zkc ?znO
    case zT =>
      have b_len : mg "len" = none := PySem.W.mg_none_of KX G (by k_is)
      have b_range : mg "range" = none := PySem.W.mg_none_of KX G (by k_is)
      have b_sum : mg "sum" = none := PySem.W.mg_none_of KX G (by k_is)
      have b_all : mg "all" = none := PySem.W.mg_none_of KX G (by k_is)
      have b_sorted : mg "sorted" = none := PySem.W.mg_none_of KX G (by k_is)
      have b_list : mg "list" = none := PySem.W.mg_none_of KX G (by k_is)
      have b_int : mg "int" = none := PySem.W.mg_none_of KX G (by k_is)
      have b_min : mg "min" = none := PySem.W.mg_none_of KX G (by k_is)
      have b_max : mg "max" = none := PySem.W.mg_none_of KX G (by k_is)
      have b_enumerate : mg "enumerate" = none := PySem.W.mg_none_of KX G (by k_is)
      have cMarks : BB.Holds mg "MARK_COUNT" (.int 6) := by refine' BB.const_mk KX G ?a; (case a => k_is)
      have cBetween : BB.Holds mg "BETWEEN" (.int (-1)) := by refine' BB.const_mk KX G ?a; (case a => k_is)
      have cNotThere : BB.Holds mg "NOT_THERE" (.int (-2)) := by refine' BB.const_mk KX G ?a; (case a => k_is)
      have cNotUsed : BB.Holds mg "NOT_USED" (.int (-6)) := by refine' BB.const_mk KX G ?a; (case a => k_is)
      have cOut : BB.Holds mg "OUT_OF_RANGE" (.int (-22)) := by refine' BB.const_mk KX G ?a; (case a => k_is)
      have cMany : BB.Holds mg "TOO_MANY" (.int (-28)) := by refine' BB.const_mk KX G ?a; (case a => k_is)
      have cMost : BB.Holds mg "MOST_PIECES" (.int 7) := by refine' BB.const_mk KX G ?a; (case a => k_is)
      have cNone : BB.Holds mg "NO_INSTANCE" (.int (-11)) := by refine' BB.const_mk KX G ?a; (case a => k_is)
      have cCreate : BB.Holds mg "CREATE" (.int 0) := by refine' BB.const_mk KX G ?a; (case a => k_is)
      have cCheck : BB.Holds mg "CHECK_CHAINS" (.int 13) := by refine' BB.const_mk KX G ?a; (case a => k_is)
      exact ⟨b_len, b_range, b_sum, b_all, b_sorted, b_list, b_int, b_min, b_max, b_enumerate, cMarks, cBetween, cNotThere, cNotUsed, cOut, cMany, cMost, cNone, cCreate, cCheck⟩
    case zCO => refine' BB.tup_mk KX G ?a ?l ?v ?z; (case a => k_is); (case l => k_is); (case v => repeat (first | exact .nil | refine .cons ⟨_, rfl⟩ ?_)); (case z => decide)
    case zd1 => refine' BB.def_mk KX G ?a ?l ?c ?k; (case a => k_is); (case l => k_is); (case c => k_is); (case k => k_is)
    case zd2 => refine' BB.def_mk KX G ?a ?l ?c ?k; (case a => k_is); (case l => k_is); (case c => k_is); (case k => k_is)
    case zd3 => refine' BB.def_mk KX G ?a ?l ?c ?k; (case a => k_is); (case l => k_is); (case c => k_is); (case k => k_is)
    case zd4 => refine' BB.def_mk KX G ?a ?l ?c ?k; (case a => k_is); (case l => k_is); (case c => k_is); (case k => k_is)
    case zd5 => refine' BB.def_mk KX G ?a ?l ?c ?k; (case a => k_is); (case l => k_is); (case c => k_is); (case k => k_is)
    case zd6 => refine' BB.def_mk KX G ?a ?l ?c ?k; (case a => k_is); (case l => k_is); (case c => k_is); (case k => k_is)
    case zd9 => refine' BB.def_mk KX G ?a ?l ?c ?k; (case a => k_is); (case l => k_is); (case c => k_is); (case k => k_is)
    case zd10 => refine' BB.def_mk KX G ?a ?l ?c ?k; (case a => k_is); (case l => k_is); (case c => k_is); (case k => k_is)
    case zd11 => refine' BB.def_mk KX G ?a ?l ?c ?k; (case a => k_is); (case l => k_is); (case c => k_is); (case k => k_is)
    case zd12 => refine' BB.def_mk KX G ?a ?l ?c ?k; (case a => k_is); (case l => k_is); (case c => k_is); (case k => k_is)
    case zd13 => refine' BB.def_mk KX G ?a ?l ?c ?k; (case a => k_is); (case l => k_is); (case c => k_is); (case k => k_is)
    case zd16 => refine' BB.def_mk KX G ?a ?l ?c ?k; (case a => k_is); (case l => k_is); (case c => k_is); (case k => k_is)
    case zd17 => refine' BB.def_mk KX G ?a ?l ?c ?k; (case a => k_is); (case l => k_is); (case c => k_is); (case k => k_is)
    case zd18 => refine' BB.def_mk KX G ?a ?l ?c ?k; (case a => k_is); (case l => k_is); (case c => k_is); (case k => k_is)
    case zd19 => refine' BB.def_mk KX G ?a ?l ?c ?k; (case a => k_is); (case l => k_is); (case c => k_is); (case k => k_is)
    case zd20 => refine' BB.def_mk KX G ?a ?l ?c ?k; (case a => k_is); (case l => k_is); (case c => k_is); (case k => k_is)
    case zd21 => refine' BB.def_mk KX G ?a ?l ?c ?k; (case a => k_is); (case l => k_is); (case c => k_is); (case k => k_is)
    case zd22 => refine' BB.def_mk KX G ?a ?l ?c ?k; (case a => k_is); (case l => k_is); (case c => k_is); (case k => k_is)
    case zd23 => refine' BB.def_mk KX G ?a ?l ?c ?k; (case a => k_is); (case l => k_is); (case c => k_is); (case k => k_is)
    case zd24 => refine' BB.def_mk KX G ?a ?l ?c ?k; (case a => k_is); (case l => k_is); (case c => k_is); (case k => k_is)
    case zd25 => refine' BB.def_mk KX G ?a ?l ?c ?k; (case a => k_is); (case l => k_is); (case c => k_is); (case k => k_is)
    case zd27 => refine' BB.def_mk KX G ?a ?l ?c ?k; (case a => k_is); (case l => k_is); (case c => k_is); (case k => k_is)
    case zd28 => refine' BB.def_mk KX G ?a ?l ?c ?k; (case a => k_is); (case l => k_is); (case c => k_is); (case k => k_is)
    case zd29 => refine' BB.def_mk KX G ?a ?l ?c ?k; (case a => k_is); (case l => k_is); (case c => k_is); (case k => k_is)
    case zd30 => refine' BB.def_mk KX G ?a ?l ?c ?k; (case a => k_is); (case l => k_is); (case c => k_is); (case k => k_is)
    case zd31 => refine' BB.def_mk KX G ?a ?l ?c ?k; (case a => k_is); (case l => k_is); (case c => k_is); (case k => k_is)
    case zd32 => refine' BB.def_mk KX G ?a ?l ?c ?k; (case a => k_is); (case l => k_is); (case c => k_is); (case k => k_is)
    case zd33 => refine' BB.def_mk KX G ?a ?l ?c ?k; (case a => k_is); (case l => k_is); (case c => k_is); (case k => k_is)
    case zd34 => refine' BB.def_mk KX G ?a ?l ?c ?k; (case a => k_is); (case l => k_is); (case c => k_is); (case k => k_is)
    case zd41 => refine' BB.def_mk KX G ?a ?l ?c ?k; (case a => k_is); (case l => k_is); (case c => k_is); (case k => k_is)
    case zd42 => refine' BB.def_mk KX G ?a ?l ?c ?k; (case a => k_is); (case l => k_is); (case c => k_is); (case k => k_is)
    case zd43 => refine' BB.def_mk KX G ?a ?l ?c ?k; (case a => k_is); (case l => k_is); (case c => k_is); (case k => k_is)
    case zd44 => refine' BB.def_mk KX G ?a ?l ?c ?k; (case a => k_is); (case l => k_is); (case c => k_is); (case k => k_is)
    case zd45 => refine' BB.def_mk KX G ?a ?l ?c ?k; (case a => k_is); (case l => k_is); (case c => k_is); (case k => k_is)
    case zd46 => refine' BB.def_mk KX G ?a ?l ?c ?k; (case a => k_is); (case l => k_is); (case c => k_is); (case k => k_is)
    case zd47 => refine' BB.def_mk KX G ?a ?l ?c ?k; (case a => k_is); (case l => k_is); (case c => k_is); (case k => k_is)
    case zd48 => refine' BB.def_mk KX G ?a ?l ?c ?k; (case a => k_is); (case l => k_is); (case c => k_is); (case k => k_is)
    case zd49 => refine' BB.def_mk KX G ?a ?l ?c ?k; (case a => k_is); (case l => k_is); (case c => k_is); (case k => k_is)
    case zd50 => refine' BB.def_mk KX G ?a ?l ?c ?k; (case a => k_is); (case l => k_is); (case c => k_is); (case k => k_is)
    case zd51 => refine' BB.def_mk KX G ?a ?l ?c ?k; (case a => k_is); (case l => k_is); (case c => k_is); (case k => k_is)
    case zd52 => refine' BB.def_mk KX G ?a ?l ?c ?k; (case a => k_is); (case l => k_is); (case c => k_is); (case k => k_is)
    case zd53 => refine' BB.def_mk KX G ?a ?l ?c ?k; (case a => k_is); (case l => k_is); (case c => k_is); (case k => k_is)
    case zd54 => refine' BB.def_mk KX G ?a ?l ?c ?k; (case a => k_is); (case l => k_is); (case c => k_is); (case k => k_is)
    case zd55 => refine' BB.def_mk KX G ?a ?l ?c ?k; (case a => k_is); (case l => k_is); (case c => k_is); (case k => k_is)
    case zd56 => refine' BB.def_mk KX G ?a ?l ?c ?k; (case a => k_is); (case l => k_is); (case c => k_is); (case k => k_is)
    case zd57 => refine' BB.def_mk KX G ?a ?l ?c ?k; (case a => k_is); (case l => k_is); (case c => k_is); (case k => k_is)
    case zd58 => refine' BB.def_mk KX G ?a ?l ?c ?k; (case a => k_is); (case l => k_is); (case c => k_is); (case k => k_is)
    case zd65 => refine' BB.def_mk KX G ?a ?l ?c ?k; (case a => k_is); (case l => k_is); (case c => k_is); (case k => k_is)
    case zg0 => exact PySem.W.mg_of KX G (by k_is)
    case zg1 => exact PySem.W.mg_of KX G (by k_is)
    case zg2 => exact PySem.W.mg_of KX G (by k_is)
    case zg3 => exact PySem.W.mg_of KX G (by k_is)
    case zg4 => exact PySem.W.mg_of KX G (by k_is)
    case zg5 => exact PySem.W.mg_of KX G (by k_is)
    case zg6 => exact PySem.W.mg_of KX G (by k_is)
    case zg7 => exact PySem.W.mg_of KX G (by k_is)
    case zg8 => exact PySem.W.mg_of KX G (by k_is)
    case zg9 => exact PySem.W.mg_of KX G (by k_is)
    case zg10 => exact PySem.W.mg_of KX G (by k_is)
    case zg11 => exact PySem.W.mg_of KX G (by k_is)
    case zg12 => exact PySem.W.mg_of KX G (by k_is)
    case zg13 => exact PySem.W.mg_of KX G (by k_is)
    case zg14 => exact PySem.W.mg_of KX G (by k_is)
    case zg15 => exact PySem.W.mg_of KX G (by k_is)
    case zO => refine' BB.tup_mk KX G ?a ?l ?v ?z; (case a => k_is); (case l => k_is); (case v => repeat (first | exact .nil | refine .cons rfl ?_)); (case z => decide)
    case zaC => k_is
    case za1 => k_is
    case zi1 => k_is
    case zl1 => k_is
    case zc1 => k_is
    case zk1 => k_is
    case za0 => k_is
    case zi0 => k_is
    case zl0 => k_is
    case zc0 => k_is
    case zk0 => k_is
    case za2 => k_is
    case zl2 => k_is
    case zc2 => k_is
    case zk2 => k_is
    case zpg => k_is
    case zhd => k_is
    case zpo => k_is
    case zsa => k_is
    case zmk => k_is
    case zkc => k_is
    case znO => k_is
  case S =>
    intro K H xs a hO hwi hask hx
    cases hx with
    | cons h1 h2 =>
      cases h2
      cases h1 with
      | lst hs ha =>
        have e := L2.ints_dw a.1 _ ha
        subst e
        exact ⟨_, a.1, rfl, hs, BB.ans_len a.1 hwi, hask, fun H' p hp => .lst (L2.SqL.of hp) (L2.dw_ints _)⟩
#print axioms PySem.Challenge.cw_brokenborder_s01_answers_holds
