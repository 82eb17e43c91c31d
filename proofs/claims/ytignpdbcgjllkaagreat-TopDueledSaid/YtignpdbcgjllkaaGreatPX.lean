/-
 The theory of the parts.
-/
import Derived.KernelRfl
import Derived.Test.YtignpdbcgjllkaaGreatDef
import Derived.Test.YtignpdbcgjllkaaGreatLib
set_option linter.all false
namespace Go.Proofs.YtignpdbcgjllkaaGreat.L
open Go.Kp
structure Ref09Side where
 fPlayer : Int
 fMatch : Int
 deriving DecidableEq
structure Ref09Pair where
 fFirst : Ref09Side
 fSecond : Ref09Side
 deriving DecidableEq
def ladT : List (List (Int × Int)) := [[], [], [(0, 1)], [(1, 2), (0, -1)], [(2, 3), (1, -1), (0, -2)], [(3, 4), (2, -1), (1, -2), (0, -3)], [(4, 5), (3, -1), (2, -2), (1, -3), (0, -4)], [(5, 6), (4, -1), (3, -2), (2, -3), (1, -4), (0, -5)], [(6, 7), (5, -1), (4, -2), (3, -3), (2, -4), (1, -5), (0, -6)], [(7, 8), (6, -1), (5, -2), (4, -3), (3, -4), (2, -5), (1, -6), (0, -7)], [(8, 9), (7, -1), (6, -2), (5, -3), (4, -4), (3, -5), (2, -6), (1, -7), (0, -8)], [(9, 10), (8, -1), (7, -2), (6, -3), (5, -4), (4, -5), (3, -6), (2, -7), (1, -8), (0, -9)], [(10, 11), (9, -1), (8, -2), (7, -3), (6, -4), (5, -5), (4, -6), (3, -7), (2, -8), (1, -9), (0, -10)], [(11, 12), (10, -1), (9, -2), (8, -3), (7, -4), (6, -5), (5, -6), (4, -7), (3, -8), (2, -9), (1, -10), (0, -11)], [(12, 13), (11, -1), (10, -2), (9, -3), (8, -4), (7, -5), (6, -6), (5, -7), (4, -8), (3, -9), (2, -10), (1, -11), (0, -12)], [(13, 14), (12, -1), (11, -2), (10, -3), (9, -4), (8, -5), (7, -6), (6, -7), (5, -8), (4, -9), (3, -10), (2, -11), (1, -12), (0, -13)], [(14, 15), (13, -1), (12, -2), (11, -3), (10, -4), (9, -5), (8, -6), (7, -7), (6, -8), (5, -9), (4, -10), (3, -11), (2, -12), (1, -13), (0, -14)]]
def brkT : List (List (Int × Int)) := [[], [], [(0, 1)], [(1, 2), (0, -1)], [(0, 3), (1, 2), (-1, -2)], [(3, 4), (0, -1), (1, 2), (-2, -3)], [(3, 4), (2, 5), (0, -1), (1, -2), (-3, -4)], [(3, 4), (1, 6), (2, 5), (0, -1), (-2, -3), (-4, -5)], [(0, 7), (3, 4), (1, 6), (2, 5), (-1, -2), (-3, -4), (-5, -6)], [(7, 8), (0, -1), (3, 4), (1, 6), (2, 5), (-2, -3), (-4, -5), (-6, -7)], [(7, 8), (6, 9), (0, -1), (3, 4), (1, -2), (2, 5), (-3, -4), (-5, -6), (-7, -8)], [(7, 8), (6, 9), (5, 10), (0, -1), (3, 4), (1, -2), (2, -3), (-4, -5), (-6, -7), (-8, -9)], [(7, 8), (4, 11), (6, 9), (5, 10), (0, -1), (3, -2), (1, -3), (2, -4), (-5, -6), (-7, -8), (-9, -10)], [(7, 8), (3, 12), (4, 11), (6, 9), (5, 10), (0, -1), (-2, -3), (1, -4), (2, -5), (-6, -7), (-8, -9), (-10, -11)], [(7, 8), (3, 12), (4, 11), (6, 9), (2, 13), (5, 10), (0, -1), (-2, -3), (1, -4), (-5, -6), (-7, -8), (-9, -10), (-11, -12)], [(7, 8), (3, 12), (4, 11), (1, 14), (6, 9), (2, 13), (5, 10), (0, -1), (-2, -3), (-4, -5), (-6, -7), (-8, -9), (-10, -11), (-12, -13)], [(0, 15), (7, 8), (3, 12), (4, 11), (1, 14), (6, 9), (2, 13), (5, 10), (-1, -2), (-3, -4), (-5, -6), (-7, -8), (-9, -10), (-11, -12), (-13, -14)]]
def sd (x : Int) : Ref09Side := if 0 ≤ x then ⟨x, -1⟩ else ⟨-1, -1 - x⟩
def tre (b : Bool) (P : Nat) : List Ref09Pair := ((if b then ladT else brkT).getD P []).map fun p => ⟨sd p.1, sd p.2⟩
def csd (s : Ref09Side) : LadderSide := ⟨s.fPlayer, s.fMatch⟩
def cpr (p : Ref09Pair) : LadderPair := ⟨csd p.fFirst, csd p.fSecond⟩
theorem pl2 {k : Nat} {F G : Int} {rs : List LadderResult} : ladderCupLadder (k + 4000) ⟨F, 2, G, rs⟩ = some ((tre true 2).map cpr) := by kernel_rfl
theorem pb2 {k : Nat} {F G : Int} {rs : List LadderResult} : ladderCupBracket (k + 4000) ⟨F, 2, G, rs⟩ = some ((tre false 2).map cpr) := by kernel_rfl
theorem pl3 {k : Nat} {F G : Int} {rs : List LadderResult} : ladderCupLadder (k + 4000) ⟨F, 3, G, rs⟩ = some ((tre true 3).map cpr) := by kernel_rfl
theorem pb3 {k : Nat} {F G : Int} {rs : List LadderResult} : ladderCupBracket (k + 4000) ⟨F, 3, G, rs⟩ = some ((tre false 3).map cpr) := by kernel_rfl
theorem pl4 {k : Nat} {F G : Int} {rs : List LadderResult} : ladderCupLadder (k + 4000) ⟨F, 4, G, rs⟩ = some ((tre true 4).map cpr) := by kernel_rfl
theorem pb4 {k : Nat} {F G : Int} {rs : List LadderResult} : ladderCupBracket (k + 4000) ⟨F, 4, G, rs⟩ = some ((tre false 4).map cpr) := by kernel_rfl
theorem pl5 {k : Nat} {F G : Int} {rs : List LadderResult} : ladderCupLadder (k + 4000) ⟨F, 5, G, rs⟩ = some ((tre true 5).map cpr) := by kernel_rfl
theorem pb5 {k : Nat} {F G : Int} {rs : List LadderResult} : ladderCupBracket (k + 4000) ⟨F, 5, G, rs⟩ = some ((tre false 5).map cpr) := by kernel_rfl
theorem pl6 {k : Nat} {F G : Int} {rs : List LadderResult} : ladderCupLadder (k + 4000) ⟨F, 6, G, rs⟩ = some ((tre true 6).map cpr) := by kernel_rfl
theorem pb6 {k : Nat} {F G : Int} {rs : List LadderResult} : ladderCupBracket (k + 4000) ⟨F, 6, G, rs⟩ = some ((tre false 6).map cpr) := by kernel_rfl
theorem pl7 {k : Nat} {F G : Int} {rs : List LadderResult} : ladderCupLadder (k + 4000) ⟨F, 7, G, rs⟩ = some ((tre true 7).map cpr) := by kernel_rfl
theorem pb7 {k : Nat} {F G : Int} {rs : List LadderResult} : ladderCupBracket (k + 4000) ⟨F, 7, G, rs⟩ = some ((tre false 7).map cpr) := by kernel_rfl
theorem pl8 {k : Nat} {F G : Int} {rs : List LadderResult} : ladderCupLadder (k + 4000) ⟨F, 8, G, rs⟩ = some ((tre true 8).map cpr) := by kernel_rfl
theorem pb8 {k : Nat} {F G : Int} {rs : List LadderResult} : ladderCupBracket (k + 4000) ⟨F, 8, G, rs⟩ = some ((tre false 8).map cpr) := by kernel_rfl
theorem pl9 {k : Nat} {F G : Int} {rs : List LadderResult} : ladderCupLadder (k + 4000) ⟨F, 9, G, rs⟩ = some ((tre true 9).map cpr) := by kernel_rfl
theorem pb9 {k : Nat} {F G : Int} {rs : List LadderResult} : ladderCupBracket (k + 4000) ⟨F, 9, G, rs⟩ = some ((tre false 9).map cpr) := by kernel_rfl
theorem pl10 {k : Nat} {F G : Int} {rs : List LadderResult} : ladderCupLadder (k + 4000) ⟨F, 10, G, rs⟩ = some ((tre true 10).map cpr) := by kernel_rfl
theorem pb10 {k : Nat} {F G : Int} {rs : List LadderResult} : ladderCupBracket (k + 4000) ⟨F, 10, G, rs⟩ = some ((tre false 10).map cpr) := by kernel_rfl
theorem pl11 {k : Nat} {F G : Int} {rs : List LadderResult} : ladderCupLadder (k + 4000) ⟨F, 11, G, rs⟩ = some ((tre true 11).map cpr) := by kernel_rfl
theorem pb11 {k : Nat} {F G : Int} {rs : List LadderResult} : ladderCupBracket (k + 4000) ⟨F, 11, G, rs⟩ = some ((tre false 11).map cpr) := by kernel_rfl
theorem pl12 {k : Nat} {F G : Int} {rs : List LadderResult} : ladderCupLadder (k + 4000) ⟨F, 12, G, rs⟩ = some ((tre true 12).map cpr) := by kernel_rfl
theorem pb12 {k : Nat} {F G : Int} {rs : List LadderResult} : ladderCupBracket (k + 4000) ⟨F, 12, G, rs⟩ = some ((tre false 12).map cpr) := by kernel_rfl
theorem pl13 {k : Nat} {F G : Int} {rs : List LadderResult} : ladderCupLadder (k + 4000) ⟨F, 13, G, rs⟩ = some ((tre true 13).map cpr) := by kernel_rfl
theorem pb13 {k : Nat} {F G : Int} {rs : List LadderResult} : ladderCupBracket (k + 4000) ⟨F, 13, G, rs⟩ = some ((tre false 13).map cpr) := by kernel_rfl
theorem pl14 {k : Nat} {F G : Int} {rs : List LadderResult} : ladderCupLadder (k + 4000) ⟨F, 14, G, rs⟩ = some ((tre true 14).map cpr) := by kernel_rfl
theorem pb14 {k : Nat} {F G : Int} {rs : List LadderResult} : ladderCupBracket (k + 4000) ⟨F, 14, G, rs⟩ = some ((tre false 14).map cpr) := by kernel_rfl
theorem pl15 {k : Nat} {F G : Int} {rs : List LadderResult} : ladderCupLadder (k + 4000) ⟨F, 15, G, rs⟩ = some ((tre true 15).map cpr) := by kernel_rfl
theorem pb15 {k : Nat} {F G : Int} {rs : List LadderResult} : ladderCupBracket (k + 4000) ⟨F, 15, G, rs⟩ = some ((tre false 15).map cpr) := by kernel_rfl
theorem pl16 {k : Nat} {F G : Int} {rs : List LadderResult} : ladderCupLadder (k + 4000) ⟨F, 16, G, rs⟩ = some ((tre true 16).map cpr) := by kernel_rfl
theorem pb16 {k : Nat} {F G : Int} {rs : List LadderResult} : ladderCupBracket (k + 4000) ⟨F, 16, G, rs⟩ = some ((tre false 16).map cpr) := by kernel_rfl
theorem pcases {P : Int} (h1 : 2 ≤ P) (h2 : P ≤ 16) : P = 2 ∨ P = 3 ∨ P = 4 ∨ P = 5 ∨ P = 6 ∨ P = 7 ∨ P = 8 ∨ P = 9 ∨ P = 10 ∨ P = 11 ∨ P = 12 ∨ P = 13 ∨ P = 14 ∨ P = 15 ∨ P = 16 := by omega
section
variable {N : Nat} (hN : 4000 ≤ N)
include hN
theorem ptree_eq (c : LadderCup) (h1 : 2 ≤ c.fPlayers) (h2 : c.fPlayers ≤ 16) : ladderCupTree N c = some ((tre (decide (c.fForm = 1)) c.fPlayers.toNat).map cpr) := by
 obtain ⟨k, rfl⟩ : ∃ k, N = k + 4000 := ⟨N - 4000, by omega⟩
 obtain ⟨F, P, G, rs⟩ := c
 unfold ladderCupTree
 by_cases hF : F = 1
 ·simp only [hF, decide_true, if_true]
  rcases pcases h1 h2 with rfl | rfl | rfl | rfl | rfl | rfl | rfl | rfl | rfl | rfl | rfl | rfl | rfl | rfl | rfl
  ·rw [pl2]; rfl
  ·rw [pl3]; rfl
  ·rw [pl4]; rfl
  ·rw [pl5]; rfl
  ·rw [pl6]; rfl
  ·rw [pl7]; rfl
  ·rw [pl8]; rfl
  ·rw [pl9]; rfl
  ·rw [pl10]; rfl
  ·rw [pl11]; rfl
  ·rw [pl12]; rfl
  ·rw [pl13]; rfl
  ·rw [pl14]; rfl
  ·rw [pl15]; rfl
  ·rw [pl16]; rfl
 ·simp only [hF, decide_false, Bool.false_eq_true, if_false]
  rcases pcases h1 h2 with rfl | rfl | rfl | rfl | rfl | rfl | rfl | rfl | rfl | rfl | rfl | rfl | rfl | rfl | rfl
  ·rw [pb2]; rfl
  ·rw [pb3]; rfl
  ·rw [pb4]; rfl
  ·rw [pb5]; rfl
  ·rw [pb6]; rfl
  ·rw [pb7]; rfl
  ·rw [pb8]; rfl
  ·rw [pb9]; rfl
  ·rw [pb10]; rfl
  ·rw [pb11]; rfl
  ·rw [pb12]; rfl
  ·rw [pb13]; rfl
  ·rw [pb14]; rfl
  ·rw [pb15]; rfl
  ·rw [pb16]; rfl
end
end Go.Proofs.YtignpdbcgjllkaaGreat.L
set_option linter.all false
namespace Go.Proofs.YtignpdbcgjllkaaGreat.L
open Go.Kp
abbrev Tr := List Ref09Pair
def dP : Ref09Pair := ⟨⟨-1, -1⟩, ⟨-1, -1⟩⟩
def fs (T : Tr) (n : Nat) : Ref09Side := (T.getD n dP).fFirst
def sn (T : Tr) (n : Nat) : Ref09Side := (T.getD n dP).fSecond
def sok (P n : Nat) (s : Ref09Side) : Prop := (s.fMatch = -1 ∧ 0 ≤ s.fPlayer ∧ s.fPlayer < P) ∨ (s.fPlayer = -1 ∧ 0 ≤ s.fMatch ∧ s.fMatch < n)
instance (P n : Nat) (s : Ref09Side) : Decidable (sok P n s) := by unfold sok; infer_instance
def par (T : Tr) (m : Nat) : Option (Nat × Bool) :=
 (List.range T.length).findSome? fun n => if (fs T n).fMatch = m then some (n, true) else if (sn T n).fMatch = m then some (n, false) else none
def ms (s : Ref09Side) : List Nat := if s.fMatch < 0 then [] else [s.fMatch.toNat]
def kids (T : Tr) : List Nat := T.flatMap fun p => ms p.fFirst ++ ms p.fSecond
def bsA (acc : List (List Int)) (s : Ref09Side) : List Int := if s.fMatch < 0 then [s.fPlayer] else acc.getD s.fMatch.toNat []
def belT (T : Tr) : List (List Int) := T.foldl (fun acc p => acc ++ [bsA acc p.fFirst ++ bsA acc p.fSecond]) []
def bel (T : Tr) (n : Nat) : List Int := (belT T).getD n []
def bs (T : Tr) (s : Ref09Side) : List Int := if s.fMatch < 0 then [s.fPlayer] else bel T s.fMatch.toNat
def players (P : Nat) : List Int := (List.range P).map fun (n : Nat) => (n : Int)
structure TOK (T : Tr) (P : Nat) : Prop where
 len : T.length + 1 = P
 side : ∀ n, n < T.length → sok P n (fs T n) ∧ sok P n (sn T n)
 par : ∀ n, n < T.length → (0 ≤ (fs T n).fMatch → par T (fs T n).fMatch.toNat = some (n, true)) ∧ (0 ≤ (sn T n).fMatch → par T (sn T n).fMatch.toNat = some (n, false))
 kids : (kids T).isPerm (List.range (T.length - 1)) = true
 bel : ∀ n, n < T.length → bel T n = bs T (fs T n) ++ bs T (sn T n)
 nodup : ∀ n, n < T.length → (Go.Proofs.YtignpdbcgjllkaaGreat.L.bel T n).Nodup
 all : (Go.Proofs.YtignpdbcgjllkaaGreat.L.bel T (T.length - 1)).isPerm (players P) = true
def TOKd (T : Tr) (P : Nat) : Prop := T.length + 1 = P ∧ (∀ n, n < T.length → sok P n (fs T n) ∧ sok P n (sn T n)) ∧
 (∀ n, n < T.length → (0 ≤ (fs T n).fMatch → par T (fs T n).fMatch.toNat = some (n, true)) ∧ (0 ≤ (sn T n).fMatch → par T (sn T n).fMatch.toNat = some (n, false))) ∧
 (kids T).isPerm (List.range (T.length - 1)) = true ∧ (∀ n, n < T.length → bel T n = bs T (fs T n) ++ bs T (sn T n)) ∧ (∀ n, n < T.length → (bel T n).Nodup) ∧ (bel T (T.length - 1)).isPerm (players P) = true
instance (T : Tr) (P : Nat) : Decidable (TOKd T P) := by unfold TOKd; infer_instance
theorem tre_okd : ∀ b : Bool, ∀ P, P < 17 → 2 ≤ P → TOKd (tre b P) P := by decide +kernel
theorem tre_ok (b : Bool) {P : Nat} (h1 : 2 ≤ P) (h2 : P ≤ 16) : TOK (tre b P) P := by
 obtain ⟨a, b, c, d, e, f, g⟩ := tre_okd b P (by omega) h1
 exact ⟨a, b, c, d, e, f, g⟩
def cnt (x : Int) (l : List Int) : Int := (l.count x : Int)
def dec (G : Int) (l : List Int) : Int := match l.find? (fun x => decide (G < 2 * cnt x l)) with | some x => x | none => -1
def res (c : Ref09Cup) (m : Int) : Option Ref09Result := c.fResults.find? fun r => decide (r.fMatch = m)
def won (c : Ref09Cup) (m : Int) : Int := match res c m with | none => -1 | some r => dec c.fGames r.fGames
def known (c : Ref09Cup) (s : Ref09Side) : Int := if s.fMatch < 0 then s.fPlayer else won c s.fMatch
def lg (G a b : Int) : List Int → List Int → Bool
 | _, [] => true
 | pre, x :: r => (decide (x = a) || decide (x = b)) && (decide (dec G pre < 0) && lg G a b (pre ++ [x]) r)
def lawful (c : Ref09Cup) (T : Tr) (r : Ref09Result) : Bool :=
 decide (0 ≤ known c (fs T r.fMatch.toNat)) && (decide (0 ≤ known c (sn T r.fMatch.toNat)) && lg c.fGames (known c (fs T r.fMatch.toNat)) (known c (sn T r.fMatch.toNat)) [] r.fGames)
structure Sz (c : Ref09Cup) : Prop where
 r : c.fResults.length ≤ 1000
 g : ∀ r ∈ c.fResults, r.fGames.length ≤ 1000
theorem res_mem {c : Ref09Cup} {m : Int} {r : Ref09Result} (h : res c m = some r) : r ∈ c.fResults ∧ r.fMatch = m := by
 unfold res at h
 exact ⟨List.mem_of_find?_eq_some h, by have := List.find?_some h; simpa using this⟩
theorem cnt_bd (x : Int) (l : List Int) : 0 ≤ cnt x l ∧ cnt x l ≤ l.length := by
 unfold cnt; have := List.count_le_length (a := x) (l := l); omega
section
variable {N : Nat} (hN : 4000 ≤ N)
include hN
end
end Go.Proofs.YtignpdbcgjllkaaGreat.L
set_option linter.all false
namespace Go.Proofs.YtignpdbcgjllkaaGreat.L
open Go.Kp
def T (c : Ref09Cup) : Tr := tre (decide (c.fForm = 1)) c.fPlayers.toNat
def inr (n a b : Int) : Bool := decide (a ≤ n) && decide (n ≤ b)
theorem inr_iff {n a b : Int} : inr n a b = true ↔ a ≤ n ∧ n ≤ b := by simp [inr]
def lims (c : Ref09Cup) : Bool := decide (c.fResults.length ≤ 15) && c.fResults.all fun r => decide (r.fGames.length ≤ 5)
def form (c : Ref09Cup) : Bool := decide (c.fForm ≤ 1) && (inr c.fPlayers 2 16 && (decide (c.fGames = 1) || (decide (c.fGames = 3) || decide (c.fGames = 5))))
def rghtR (c : Ref09Cup) (r : Ref09Result) : Bool := inr r.fMatch 0 (c.fPlayers - 2) && decide (0 < r.fGames.length)
def rght (c : Ref09Cup) : Bool := c.fResults.all (rghtR c)
def dup : List Ref09Result → List Ref09Result → Bool
 | _, [] => false
 | pre, x :: r => pre.any (fun y => decide (x.fMatch = y.fMatch)) || dup (pre ++ [x]) r
def lawf (c : Ref09Cup) : Bool := c.fResults.all (lawful c (T c))
def flt (c : Ref09Cup) : Int := if lims c then (if form c && rght c then (if dup [] c.fResults then 6 else if lawf c then 0 else 10) else 1) else 3
theorem form_iff {c : Ref09Cup} : form c = true ↔ c.fForm ≤ 1 ∧ 2 ≤ c.fPlayers ∧ c.fPlayers ≤ 16 ∧ (c.fGames = 1 ∨ c.fGames = 3 ∨ c.fGames = 5) := by
 unfold form; simp [inr, and_assoc]
theorem T_ok {c : Ref09Cup} (h : form c = true) : TOK (T c) c.fPlayers.toNat := by
 have := form_iff.1 h
 exact tre_ok _ (by omega) (by omega)
theorem T_len {c : Ref09Cup} (h : form c = true) : ((T c).length : Int) = c.fPlayers - 1 := by
 have := form_iff.1 h
 have := (T_ok h).len
 omega
section
variable {N : Nat}
theorem within_eq (n a b : Int) : ladderWithin N n a b = some (inr n a b) := by
 unfold ladderWithin inr
 cases decide (a ≤ n) <;> rfl
theorem getT {T : Tr} {n : Nat} (h : n < T.length) : T[n]? = some (T.getD n dP) := by
 rw [List.getD_eq_getElem?_getD, List.getElem?_eq_getElem h]; rfl
variable (hN : 4000 ≤ N)
include hN
end
end Go.Proofs.YtignpdbcgjllkaaGreat.L
set_option linter.all false
namespace Go.Proofs.YtignpdbcgjllkaaGreat.L
open Go.Kp
def cr (r : Ref09Result) : LadderResult := ⟨r.fMatch, r.fGames, r.fProtested⟩
def cc (c : Ref09Cup) : LadderCup := ⟨c.fForm, c.fPlayers, c.fGames, c.fResults.map cr⟩
def rm (l : List Ref09Result) : List (Int × LadderResult) := l.map fun r => (r.fMatch, cr r)
def decP (G a b : Int) (l : List Int) : Int := if G < 2 * cnt a l then a else if G < 2 * cnt b l then b else -1
def ply (c : Ref09Cup) (n : Nat) : Ar2 Int := ⟨known c (fs (T c) n), known c (sn (T c) n)⟩
def plys (c : Ref09Cup) (k : Nat) : List (Ar2 Int) := (List.range k).map (ply c)
abbrev Drw := Int × Int × Int × Int × List LadderResult × List LadderPair × List (Int × LadderResult) × List (Ar2 Int)
def drw (c : Ref09Cup) : Drw := (0, c.fForm, c.fPlayers, c.fGames, c.fResults.map cr, (T c).map cpr, rm c.fResults, plys c (T c).length)
theorem mget_rm (c : Ref09Cup) (m : Int) : mget (rm c.fResults) m = (res c m).map cr := by
 unfold res rm
 induction c.fResults with
 | nil => rfl
 | cons r l ih =>
  rw [List.map_cons, mget, List.find?_cons, ih]
  by_cases h : m = r.fMatch
  ·simp [h]
  ·simp [h, show ¬ r.fMatch = m from fun e => h e.symm]
theorem mput_new {K V : Type} [DecidableEq K] {m : List (K × V)} {k : K} {v : V} (h : mget m k = none) : mput m k v = m ++ [(k, v)] := by
 induction m with
 | nil => rfl
 | cons p m ih =>
  rw [mget] at h
  by_cases e : k = p.1
  ·rw [if_pos e] at h; cases h
  ·rw [if_neg e] at h
   rw [mput, if_neg e, ih h]; rfl
theorem find_dec {G : Int} {l : List Int} : (∃ x, l.find? (fun x => decide (G < 2 * cnt x l)) = some x ∧ x ∈ l ∧ G < 2 * cnt x l ∧ dec G l = x) ∨ ((∀ x ∈ l, ¬ G < 2 * cnt x l) ∧ dec G l = -1) := by
 unfold dec
 cases h : l.find? (fun x => decide (G < 2 * cnt x l)) with
 | none => exact .inr ⟨fun x hx => by have := List.find?_eq_none.1 h x hx; simpa using this, rfl⟩
 | some x => exact .inl ⟨x, rfl, List.mem_of_find?_eq_some h, by have := List.find?_some h; simpa using this, rfl⟩
theorem mem_of_cnt {G x : Int} {l : List Int} (hG : 0 ≤ G) (h : G < 2 * cnt x l) : x ∈ l := by
 unfold cnt at h
 exact List.count_pos_iff.1 (by omega)
theorem dec_open {G a b : Int} {l : List Int} (hG : 0 ≤ G) (ha : 0 ≤ a) (hb : 0 ≤ b) (hl : ∀ x ∈ l, x = a ∨ x = b) : decP G a b l = -1 ↔ dec G l < 0 := by
 unfold decP
 rcases find_dec (G := G) (l := l) with ⟨x, _, hx, hc, hd⟩ | ⟨hn, hd⟩
 ·rw [hd]
  rcases hl x hx with rfl | rfl
  ·rw [if_pos hc]; omega
  ·by_cases h : G < 2 * cnt a l
   ·rw [if_pos h]; omega
   ·rw [if_neg h, if_pos hc]; omega
 ·rw [hd]
  rw [if_neg (fun h => hn a (mem_of_cnt hG h) h), if_neg (fun h => hn b (mem_of_cnt hG h) h)]
  omega
theorem cnt_snoc {x w : Int} {l : List Int} : cnt x (l ++ [w]) = cnt x l + if x = w then 1 else 0 := by
 unfold cnt
 rw [List.count_append, List.count_singleton]
 by_cases h : x = w
 ·simp [h]
 ·simp [h, show ¬ w = x from fun e => h e.symm]
theorem lg_iff {G a b : Int} : ∀ {l pre : List Int}, lg G a b pre l = true ↔ (∀ x ∈ l, x = a ∨ x = b) ∧ ∀ k, k < l.length → dec G (pre ++ l.take k) < 0
 | [], pre => by simp [lg]
 | x :: l, pre => by
  simp only [lg, Bool.and_eq_true, Bool.or_eq_true, decide_eq_true_eq, lg_iff (l := l)]
  constructor
  ·rintro ⟨h1, h2, h3, h4⟩
   refine ⟨fun y hy => ?_, fun k hk => ?_⟩
   ·rcases List.mem_cons.1 hy with rfl | hy
    ·exact h1
    ·exact h3 y hy
   ·cases k with
    | zero => simpa using h2
    | succ k => have := h4 k (by simpa using hk); simpa using this
  ·rintro ⟨h1, h2⟩
   refine ⟨h1 x (by simp), by simpa using h2 0 (by simp), fun y hy => h1 y (by simp [hy]), fun k hk => ?_⟩
   have := h2 (k + 1) (by simpa using hk)
   simpa using this
theorem dec_lawful {G a b : Int} {l : List Int} (hG : 0 ≤ G) (ha : 0 ≤ a) (hb : 0 ≤ b) (h : lg G a b [] l = true) : decP G a b l = dec G l := by
 obtain ⟨h1, h2⟩ := lg_iff.1 h
 have ho := dec_open hG ha hb h1
 rcases find_dec (G := G) (l := l) with ⟨x, _, hx, hc, hd⟩ | ⟨hn, hd⟩
 ·rw [hd]
  rcases List.eq_nil_or_concat l with rfl | ⟨i, w, hw⟩
  ·cases hx
  rw [List.concat_eq_append] at hw
  have hpre := h2 i.length (by rw [hw]; simp)
  rw [hw] at hpre
  simp only [List.nil_append, List.take_left] at hpre
  have uniq : ∀ y, G < 2 * cnt y l → y = w := by
   intro y hy
   refine Classical.byContradiction fun hne => ?_
   rw [hw, cnt_snoc, if_neg hne] at hy
   have hyi := mem_of_cnt hG (by omega : G < 2 * cnt y i)
   rcases find_dec (G := G) (l := i) with ⟨z, _, hz, _, hd'⟩ | ⟨hn, _⟩
   ·rcases h1 z (by rw [hw]; simp [hz]) with rfl | rfl <;> omega
   ·exact hn y hyi (by omega)
  have hxw := uniq x hc
  unfold decP
  by_cases q : G < 2 * cnt a l
  ·rw [if_pos q, uniq a q, hxw]
  ·rw [if_neg q]
   rcases h1 x hx with rfl | rfl
   ·exact absurd hc q
   ·rw [if_pos hc]
 ·rw [hd]; exact ho.2 (by omega)
section
variable {N : Nat} (hN : 4000 ≤ N)
include hN
theorem sum2 {x y : Int} (hx : 0 ≤ x ∧ x ≤ 1000000) (hy : 0 ≤ y ∧ y ≤ 1000000) : ladderSum N [x, y] = some (x + y) := by
 unfold ladderSum
 have := sum_shape (N := N) [x, y] (fun z hz => by simp at hz; omega) (by simp) (by simp; omega)
 have e : (loopN (fun rec3 z => ladderSum_b1 N [x, y] rec3 z.1 z.2.1 z.2.2) N (0, (([x, y] : List Int).length : Int), 0)) = some (([x, y] : List Int).sum) := this
 rw [e, Option.bind_some]
 simp
theorem list_eq {xs : List Int} (h : xs.length ≤ 1000) : law09List N xs = some xs := by
 unfold law09List
 rw [app_ok (by simp; omega)]
 simp
theorem cup_eq (c : Ref09Cup) (h : Sz c) : law09Cup N c = some (cc c) := by
 unfold law09Cup
 have := loop_list (N := N) (B := fun rec3 x => law09Cup_b1 N c rec3 x.1 x.2) c.fResults (fun i (a : List LadderResult) => ((i : Int), a)) (fun r a => some (a ++ r.map cr)) (fun i a => a.length = i)
  (fun a rec _ => by simp [law09Cup_b1])
  (fun i x a rec hx hok hh => by
   have hlt := len_lt hx
   have := h.r
   show law09Cup_b1 N c rec i a = _
   unfold law09Cup_b1
   simp only [show ((i : Int) < (c.fResults.length : Int)) from by omega, decide_true, if_true, idx_at hx, Option.bind_some, w64_succ (i := i) (by omega), list_eq hN (h.g x (List.mem_of_getElem? hx))]
   rw [app_ok (by simp; omega), Option.bind_some, hh _ (by simp [hok])]
   simp [cr]) (by have := h.r; omega) [] rfl
 rw [show ((0 : Int), ([] : List LadderResult)) = (((0 : Nat) : Int), []) from rfl, this]
 simp [cc]
theorem score_eq {m : Int} {games : List Int} (c1 c2 c3 : Int) (c4 : List LadderResult) (c5 : List LadderPair) (m1 : List (Int × LadderResult)) {l1 : List (Ar2 Int)} {p : Ar2 Int} (hg : games.length ≤ 1000) (hp : idx l1 m = some p) :
  ladderDrawScoreXXXXX N m games c1 c2 c3 c4 c5 m1 l1 = some ⟨cnt p.a0 games, cnt p.a1 games⟩ := by
 unfold ladderDrawScoreXXXXX
 rw [hp, Option.bind_some]
 have k1 := loop_list (N := N) (B := fun rec7 x => ladderDrawScoreXXXXX_b1 N games p rec7 x.1 x.2.1 x.2.2) games (fun i (a : Int) => ((games.length : Int), (i : Int), (Ar2.mk a 0))) (fun r a => some (Ar2.mk (a + cnt p.a0 r) 0)) (fun i a => 0 ≤ a ∧ a ≤ i)
  (fun a rec _ => by simp [ladderDrawScoreXXXXX_b1, cnt])
  (fun i x a rec hx hok hh => by
   have hlt := len_lt hx
   show ladderDrawScoreXXXXX_b1 N games p rec _ i _ = _
   unfold ladderDrawScoreXXXXX_b1
   simp only [show ((i : Int) < (games.length : Int)) from by omega, decide_true, if_true, idx_at hx, Option.bind_some, w64_succ (i := i) (by omega)]
   by_cases e : x = p.a0
   ·simp only [e, decide_true, if_true]
    rw [sum2 hN (by omega) (by omega), Option.bind_some, Option.bind_some, hh _ (by omega)]
    simp only [cnt, List.count_cons_self]
    congr 2; omega
   ·simp only [e, decide_false, Bool.false_eq_true, if_false, Option.bind_some]
    rw [hh _ (by omega)]
    simp only [cnt, List.count_cons_of_ne e]) (by omega) 0 (by simp)
 have k1' : loopN (fun rec7 x => ladderDrawScoreXXXXX_b1 N games p rec7 x.1 x.2.1 x.2.2) N ((games.length : Int), 0, (Ar2.mk 0 0)) = some (Ar2.mk (cnt p.a0 games) 0) := by
  have := k1; simp only [Int.zero_add] at this; exact this
 rw [k1', Option.bind_some]
 have k2 := loop_list (N := N) (B := fun rec9 x => ladderDrawScoreXXXXX_b2 N games p rec9 x.1 x.2.1 x.2.2) games (fun i (a : Int) => ((games.length : Int), (i : Int), (Ar2.mk (cnt p.a0 games) a))) (fun r a => some (Ar2.mk (cnt p.a0 games) (a + cnt p.a1 r))) (fun i a => 0 ≤ a ∧ a ≤ i)
  (fun a rec _ => by simp [ladderDrawScoreXXXXX_b2, cnt])
  (fun i x a rec hx hok hh => by
   have hlt := len_lt hx
   show ladderDrawScoreXXXXX_b2 N games p rec _ i _ = _
   unfold ladderDrawScoreXXXXX_b2
   simp only [show ((i : Int) < (games.length : Int)) from by omega, decide_true, if_true, idx_at hx, Option.bind_some, w64_succ (i := i) (by omega)]
   by_cases e : x = p.a1
   ·simp only [e, decide_true, if_true]
    rw [sum2 hN (by omega) (by omega), Option.bind_some, Option.bind_some, hh _ (by omega)]
    simp only [cnt, List.count_cons_self]
    congr 2; omega
   ·simp only [e, decide_false, Bool.false_eq_true, if_false, Option.bind_some]
    rw [hh _ (by omega)]
    simp only [cnt, List.count_cons_of_ne e]) (by omega) 0 (by simp)
 have k2' : loopN (fun rec9 x => ladderDrawScoreXXXXX_b2 N games p rec9 x.1 x.2.1 x.2.2) N ((games.length : Int), 0, (Ar2.mk (cnt p.a0 games) 0)) = some (Ar2.mk (cnt p.a0 games) (cnt p.a1 games)) := by
  have := k2; simp only [Int.zero_add] at this; exact this
 rw [k2', Option.bind_some]
theorem decidedP_eq {m : Int} {games : List Int} (c1 c2 c3 : Int) (c4 : List LadderResult) (c5 : List LadderPair) (m1 : List (Int × LadderResult)) {l1 : List (Ar2 Int)} {p : Ar2 Int} (hg : games.length ≤ 1000) (hp : idx l1 m = some p) :
  ladderDrawDecidedXXXXX N m games c1 c2 c3 c4 c5 m1 l1 = some (decP c3 p.a0 p.a1 games) := by
 unfold ladderDrawDecidedXXXXX decP
 have h0 := cnt_bd p.a0 games
 have h1 := cnt_bd p.a1 games
 rw [score_eq hN c1 c2 c3 c4 c5 m1 hg hp, Option.bind_some]
 simp only [hp, Option.bind_some]
 rw [w64_id (by omega) (by omega), w64_id (by omega) (by omega)]
 by_cases q1 : c3 < 2 * cnt p.a0 games <;> by_cases q2 : c3 < 2 * cnt p.a1 games <;> simp [q1, q2]
theorem lawfulP_eq {r : LadderResult} (c1 c2 c3 : Int) (c4 : List LadderResult) (c5 : List LadderPair) (m1 : List (Int × LadderResult)) {l1 : List (Ar2 Int)} {p : Ar2 Int} (hg : r.fGames.length ≤ 1000) (hp : idx l1 r.fMatch = some p)
  (hG : 0 ≤ c3) (h0 : p.a0 = -1 ∨ 0 ≤ p.a0) (h1 : p.a1 = -1 ∨ 0 ≤ p.a1) :
  ladderDrawLawfulXXX N r c1 c2 c3 c4 c5 m1 l1 = some (decide (0 ≤ p.a0) && (decide (0 ≤ p.a1) && lg c3 p.a0 p.a1 [] r.fGames)) := by
 unfold ladderDrawLawfulXXX
 rw [hp, Option.bind_some]
 by_cases ha : p.a0 = -1
 ·simp [ha]
 by_cases hb : p.a1 = -1
 ·simp [hb]
 have ha' : 0 ≤ p.a0 := by omega
 have hb' : 0 ≤ p.a1 := by omega
 simp only [ha, hb, decide_false, Bool.false_eq_true, if_false, Option.bind_some, ha', hb', decide_true, Bool.true_and]
 -- as long as all games so far are won by the two
 have key := loop_list (N := N) (A := Nat) (B := fun rec3 x => ladderDrawLawfulXXX_b1 N r c1 c2 c3 c4 c5 m1 l1 p rec3 x.1 x.2) r.fGames (fun i _ => ((r.fGames.length : Int), (i : Int))) (fun l a => some (lg c3 p.a0 p.a1 (r.fGames.take a) l)) (fun i a => a = i ∧ ∀ x ∈ r.fGames.take i, x = p.a0 ∨ x = p.a1)
  (fun a rec _ => by simp [ladderDrawLawfulXXX_b1, lg])
  (fun i x a rec hx hok hh => by
   have hlt := len_lt hx
   obtain ⟨rfl, hall⟩ := hok
   show ladderDrawLawfulXXX_b1 N r c1 c2 c3 c4 c5 m1 l1 p rec _ (a : Int) = _
   unfold ladderDrawLawfulXXX_b1
   have hcon : slicesContains N ([p.a0, p.a1] : List Int) x = some (decide (x ∈ [p.a0, p.a1])) := contains_eq _ _ (by simp; omega) (by simp)
   simp only [show ((a : Int) < (r.fGames.length : Int)) from by omega, decide_true, if_true, idx_at hx, Option.bind_some, w64_succ (i := a) (by omega), hcon]
   rw [slc_ok (by omega) (by omega) (by omega), Option.bind_some]
   simp only [Int.toNat_natCast, Int.toNat_zero, List.drop_zero]
   rw [decidedP_eq hN c1 c2 c3 c4 c5 m1 (by simp; omega) hp, Option.bind_some]
   have ht : r.fGames.take (a + 1) = r.fGames.take a ++ [x] := by rw [List.take_add_one, hx]; rfl
   have hd := dec_open hG ha' hb' hall
   by_cases hm : x = p.a0 ∨ x = p.a1
   ·have hmem : x ∈ [p.a0, p.a1] := by simpa using hm
    have hm2 : (decide (x = p.a0) || decide (x = p.a1)) = true := by simpa using hm
    simp only [hmem, decide_true, Bool.not_true, Bool.false_eq_true, if_false, lg, hm2, Bool.true_and, Option.bind_some]
    have hh := hh (a + 1) ⟨rfl, fun y hy => by rw [ht] at hy; rcases List.mem_append.1 hy with hy | hy; exact hall y hy; rw [List.mem_singleton.1 hy]; exact hm⟩
    rw [hh, ht]
    by_cases q : dec c3 (r.fGames.take a) < 0
    ·simp [q, hd.2 q]
    ·simp [q, show ¬ decP c3 p.a0 p.a1 (r.fGames.take a) = -1 from fun e => q (hd.1 e)]
   ·have hmem : ¬ x ∈ [p.a0, p.a1] := by simpa using hm
    have hm2 : (decide (x = p.a0) || decide (x = p.a1)) = false := by simpa using hm
    simp only [hmem, decide_false, Bool.not_false, if_true, lg, hm2, Bool.false_and, Option.bind_some]) (by omega) 0 (by simp)
 simp only [List.take_zero] at key
 rw [show ((r.fGames.length : Int), (0 : Int)) = ((r.fGames.length : Int), ((0 : Nat) : Int)) from rfl, key]
 rfl
theorem wonP_eq {m : Int} (c : Ref09Cup) (c1 c2 : Int) (c4 : List LadderResult) (c5 : List LadderPair) {l1 : List (Ar2 Int)} {p : Ar2 Int} (hs : Sz c) (hp : idx l1 m = some p)
  (hG : 0 ≤ c.fGames) (hl : ∀ r, res c m = some r → 0 ≤ p.a0 ∧ 0 ≤ p.a1 ∧ lg c.fGames p.a0 p.a1 [] r.fGames = true) :
  ladderDrawWonXXXXX N m c1 c2 c.fGames c4 c5 (rm c.fResults) l1 = some (won c m) := by
 unfold ladderDrawWonXXXXX mgt
 rw [mget_rm, Option.bind_some]
 unfold won
 cases e : res c m with
 | none => simp
 | some r =>
  obtain ⟨a, b, h⟩ := hl r e
  simp only [Option.map_some, Option.getD_some, Option.isSome_some, Bool.not_true, Bool.false_eq_true, if_false]
  rw [decidedP_eq hN c1 c2 c.fGames c4 c5 _ (by exact hs.g r (res_mem e).1) hp, Option.bind_some, show (cr r).fGames = r.fGames from rfl, dec_lawful hG a b h]
end
end Go.Proofs.YtignpdbcgjllkaaGreat.L
set_option linter.all false
namespace Go.Proofs.YtignpdbcgjllkaaGreat.L
open Go.Kp
def lwb (c : Ref09Cup) (m : Nat) : Bool := match res c (m : Int) with | none => true | some r => lawful c (T c) r
def fl (c : Ref09Cup) : Nat → Tr → Bool × List (Ar2 Int)
 | i, [] => (true, plys c i)
 | i, _ :: r => if lwb c i then fl c (i + 1) r else (false, plys c (i + 1))
theorem lw_res {c : Ref09Cup} {m : Nat} (h : lwb c m = true) {r : Ref09Result} (hr : res c (m : Int) = some r) :
  0 ≤ known c (fs (T c) m) ∧ 0 ≤ known c (sn (T c) m) ∧ lg c.fGames (known c (fs (T c) m)) (known c (sn (T c) m)) [] r.fGames = true := by
 unfold lwb at h
 rw [hr] at h
 have hm := (res_mem hr).2
 simp only [lawful, hm, Int.toNat_natCast, Bool.and_eq_true, decide_eq_true_eq] at h
 exact h
theorem won_bd {c : Ref09Cup} {m : Nat} (h : lwb c m = true) : won c (m : Int) = -1 ∨ 0 ≤ won c (m : Int) := by
 unfold won
 cases e : res c (m : Int) with
 | none => exact .inl rfl
 | some r =>
  obtain ⟨ha, hb, h⟩ := lw_res h e
  have h1 := (lg_iff.1 h).1
  rcases find_dec (G := c.fGames) (l := r.fGames) with ⟨x, _, hx, _, hd⟩ | ⟨_, hd⟩
  ·right; show 0 ≤ dec _ _; rw [hd]; rcases h1 x hx with rfl | rfl <;> assumption
  ·left; exact hd
theorem known_bd {c : Ref09Cup} {P n : Nat} {s : Ref09Side} (hs : sok P n s) (h : ∀ m, m < n → lwb c m = true) : known c s = -1 ∨ 0 ≤ known c s := by
 unfold known
 rcases hs with ⟨h1, h2, h3⟩ | ⟨h1, h2, h3⟩
 ·rw [if_pos (by omega)]; exact .inr h2
 ·rw [if_neg (by omega)]
  have := won_bd (h s.fMatch.toNat (by omega))
  rwa [show ((s.fMatch.toNat : Nat) : Int) = s.fMatch from by omega] at this
theorem plys_succ (c : Ref09Cup) (i : Nat) : plys c (i + 1) = plys c i ++ [ply c i] := by
 unfold plys; rw [List.range_succ, List.map_append]; rfl
theorem plys_len (c : Ref09Cup) (i : Nat) : (plys c i).length = i := by unfold plys; simp
theorem plys_idx {c : Ref09Cup} {i m : Nat} (h : m < i) : idx (plys c i) (m : Int) = some (ply c m) := by
 refine idx_at ?_
 unfold plys
 simp [List.getElem?_map, List.getElem?_range h]
theorem fl_true {c : Ref09Cup} : ∀ {l : Tr} {i : Nat}, (fl c i l).1 = true ↔ ∀ k, i ≤ k → k < i + l.length → lwb c k = true
 | [], i => by simp [fl]; intro k h1 h2; omega
 | x :: l, i => by
  unfold fl
  by_cases h : lwb c i = true
  ·rw [if_pos h, fl_true]
   constructor
   ·intro hh k h1 h2
    rcases Nat.lt_or_ge i k with q | q
    ·exact hh k q (by simp at h2; omega)
    ·rw [show k = i by omega]; exact h
   ·intro hh k h1 h2; exact hh k (by omega) (by simp; omega)
  ·rw [if_neg h]
   constructor
   ·intro hh; cases hh
   ·intro hh; exact absurd (hh i (Nat.le_refl _) (by simp)) h
theorem fl_snd {c : Ref09Cup} : ∀ {l : Tr} {i : Nat}, (fl c i l).1 = true → (fl c i l).2 = plys c (i + l.length)
 | [], i, _ => rfl
 | x :: l, i, h => by
  unfold fl at h ⊢
  by_cases q : lwb c i = true
  ·rw [if_pos q] at h ⊢
   rw [fl_snd h]; congr 1; simp; omega
  ·rw [if_neg q] at h; cases h
theorem dup_find : ∀ {l pre : List Ref09Result}, dup pre l = false → ∀ r ∈ l, (∀ y ∈ pre, y.fMatch ≠ r.fMatch) ∧ l.find? (fun x => decide (x.fMatch = r.fMatch)) = some r
 | [], pre, _, r, hr => by cases hr
 | x :: l, pre, h, r, hr => by
  simp only [dup, Bool.or_eq_false_iff, List.any_eq_false, decide_eq_true_eq] at h
  rcases List.mem_cons.1 hr with rfl | hr
  ·exact ⟨fun y hy e => h.1 y hy e.symm, by simp⟩
  ·obtain ⟨h1, h2⟩ := dup_find h.2 r hr
   refine ⟨fun y hy => h1 y (by simp [hy]), ?_⟩
   have := h1 x (by simp)
   rw [List.find?_cons]
   simp [this, h2]
theorem res_of_mem {c : Ref09Cup} (h : dup [] c.fResults = false) {r : Ref09Result} (hr : r ∈ c.fResults) : res c r.fMatch = some r := (dup_find h r hr).2
theorem lawf_fl {c : Ref09Cup} (hf : form c = true) (hr : rght c = true) (hd : dup [] c.fResults = false) : (fl c 0 (T c)).1 = lawf c := by
 rw [Bool.eq_iff_iff, fl_true]
 unfold lawf
 rw [List.all_eq_true]
 constructor
 ·intro h r hm
  have hq := List.all_eq_true.1 hr r hm
  simp only [rghtR, Bool.and_eq_true, inr_iff] at hq
  have hl := T_len hf
  have := h r.fMatch.toNat (by omega) (by omega)
  unfold lwb at this
  rw [show ((r.fMatch.toNat : Nat) : Int) = r.fMatch from by omega, res_of_mem hd hm] at this
  exact this
 ·intro h k _ hk
  unfold lwb
  cases e : res c (k : Int) with
  | none => rfl
  | some r => exact h r (res_mem e).1
section
variable {N : Nat} (hN : 4000 ≤ N)
include hN
theorem fill_eq (c : Ref09Cup) (hs : Sz c) (hf : form c = true) (c4 : List LadderResult) :
  ladderDrawFillX N c.fForm c.fPlayers c.fGames c4 ((T c).map cpr) (rm c.fResults) = some ((fl c 0 (T c)).1, c.fForm, c.fPlayers, c.fGames, c4, (T c).map cpr, (fl c 0 (T c)).2) := by
 unfold ladderDrawFillX
 have ff := form_iff.1 hf
 have hG : 0 ≤ c.fGames := by omega
 have ht := T_ok hf
 have htl := T_len hf
 have key := loop_list (N := N) (A := Nat) (B := fun rec3 x => ladderDrawFillX_b2 N c.fForm c.fPlayers c.fGames c4 ((T c).map cpr) (rm c.fResults) rec3 x.1 x.2.1 x.2.2) (T c) (fun i _ => ((((T c).map cpr).length : Int), (i : Int), plys c i))
  (fun l a => some ((fl c a l).1, c.fForm, c.fPlayers, c.fGames, c4, (T c).map cpr, (fl c a l).2)) (fun i a => a = i ∧ ∀ m, m < i → lwb c m = true)
  (fun a rec hok => by obtain ⟨rfl, _⟩ := hok; simp [ladderDrawFillX_b2, ladderDrawFillX_k1, fl])
  (fun i x a rec hx hok hh => by
   have hlt := len_lt hx
   obtain ⟨rfl, hall⟩ := hok
   show ladderDrawFillX_b2 N _ _ _ _ _ _ rec _ (a : Int) (plys c a) = _
   have hx2 : x = (T c).getD a dP := by have := getT hlt; rw [hx] at this; exact Option.some.inj this
   have hxi : ((T c).map cpr)[a]? = some (cpr x) := by simp [hx]
   have hs1 := (ht.side a hlt).1
   have hs2 := (ht.side a hlt).2
   have hside : ∀ s : Ref09Side, sok c.fPlayers.toNat a s → (if decide ((csd s).fMatch = -1) then some (csd s).fPlayer else ladderDrawWonXXXXX N (csd s).fMatch c.fForm c.fPlayers c.fGames c4 ((T c).map cpr) (rm c.fResults) (plys c a)) = some (known c s) := by
    intro s hs'
    unfold known csd
    rcases hs' with ⟨h1, h2, h3⟩ | ⟨h1, h2, h3⟩
    ·simp [h1]
    ·have : ¬ s.fMatch = -1 := by omega
     have h4 : ¬ s.fMatch < 0 := by omega
     simp only [this, decide_false, Bool.false_eq_true, if_false, h4]
     have em : ((s.fMatch.toNat : Nat) : Int) = s.fMatch := by omega
     have hp : idx (plys c a) s.fMatch = some (ply c s.fMatch.toNat) := by have := plys_idx (c := c) (i := a) (m := s.fMatch.toNat) (by omega); rwa [em] at this
     refine wonP_eq hN c _ _ _ _ hs hp hG fun r hr => ?_
     exact lw_res (hall s.fMatch.toNat (by omega)) (by rw [em]; exact hr)
   have e1 := hside (fs (T c) a) hs1
   have e2 := hside (sn (T c) a) hs2
   unfold ladderDrawFillX_b2
   simp only [show ((a : Int) < (((T c).map cpr).length : Int)) from by simp; omega, decide_true, if_true, idx_at hxi, Option.bind_some, w64_succ (i := a) (by omega), ladderSides, ladderPairFirst, ladderPairSecond]
   have f1 : (cpr x).fFirst = csd (fs (T c) a) := by rw [hx2]; rfl
   have f2 : (cpr x).fSecond = csd (sn (T c) a) := by rw [hx2]; rfl
   rw [f1, f2]
   have g1 : (if decide ((csd (fs (T c) a)).fMatch = -1) then some (Ar2.mk (csd (fs (T c) a)).fPlayer (-1)) else Option.bind (ladderDrawWonXXXXX N (csd (fs (T c) a)).fMatch c.fForm c.fPlayers c.fGames c4 ((T c).map cpr) (rm c.fResults) (plys c a)) fun r304 => some (Ar2.mk r304 (-1))) = some (Ar2.mk (known c (fs (T c) a)) (-1)) := by
    by_cases q : (csd (fs (T c) a)).fMatch = -1
    ·simp only [q, decide_true, if_true] at e1 ⊢; rw [Option.some.inj e1]
    ·simp only [q, decide_false, Bool.false_eq_true, if_false] at e1 ⊢; rw [e1]; rfl
   have g2 : ∀ z : Int, (if decide ((csd (sn (T c) a)).fMatch = -1) then some (Ar2.mk z (csd (sn (T c) a)).fPlayer) else Option.bind (ladderDrawWonXXXXX N (csd (sn (T c) a)).fMatch c.fForm c.fPlayers c.fGames c4 ((T c).map cpr) (rm c.fResults) (plys c a)) fun r310 => some (Ar2.mk z r310)) = some (Ar2.mk z (known c (sn (T c) a))) := by
    intro z
    by_cases q : (csd (sn (T c) a)).fMatch = -1
    ·simp only [q, decide_true, if_true] at e2 ⊢; rw [Option.some.inj e2]
    ·simp only [q, decide_false, Bool.false_eq_true, if_false] at e2 ⊢; rw [e2]; rfl
   rw [g1, Option.bind_some, g2, Option.bind_some, app_ok (by rw [plys_len]; simp; omega), Option.bind_some]
   rw [show plys c a ++ [Ar2.mk (known c (fs (T c) a)) (known c (sn (T c) a))] = plys c (a + 1) from (plys_succ c a).symm]
   unfold mgt
   rw [mget_rm, Option.bind_some]
   unfold fl
   cases er : res c (a : Int) with
   | none =>
    have hl : lwb c a = true := by unfold lwb; rw [er]
    simp only [Option.map_none, Option.isSome_none, Bool.false_eq_true, if_false, Option.bind_some]
    rw [if_pos hl]
    exact hh (a + 1) ⟨rfl, fun m hm => by rcases Nat.lt_or_ge m a with q | q; exact hall m q; rw [show m = a by omega]; exact hl⟩
   | some r =>
    have hrm := res_mem er
    have em : (cr r).fMatch = (a : Int) := hrm.2
    have el := lawfulP_eq hN (r := cr r) (p := ply c a) (l1 := plys c (a + 1)) c.fForm c.fPlayers c.fGames c4 ((T c).map cpr) (rm c.fResults) (hs.g r hrm.1) (by rw [em]; exact plys_idx (by omega)) hG (known_bd hs1 hall) (known_bd hs2 hall)
    simp only [Option.map_some, Option.isSome_some, if_true, Option.getD_some, el, Option.bind_some]
    have hl : lwb c a = (decide (0 ≤ (ply c a).a0) && (decide (0 ≤ (ply c a).a1) && lg c.fGames (ply c a).a0 (ply c a).a1 [] (cr r).fGames)) := by
     unfold lwb; rw [er]; show lawful c (T c) r = _; unfold lawful; rw [hrm.2]; rfl
    rw [← hl]
    by_cases q : lwb c a = true
    ·simp only [q, Bool.not_true, Bool.false_eq_true, if_false, if_true]
     exact hh (a + 1) ⟨rfl, fun m hm => by rcases Nat.lt_or_ge m a with q' | q'; exact hall m q'; rw [show m = a by omega]; exact q⟩
    ·simp [q]) (by omega) 0 ⟨rfl, fun m hm => by omega⟩
 exact key
theorem all_eq (c : Ref09Cup) (h : c.fResults.length ≤ 1000) : ladderAll N (c.fResults.map cr) = some (c.fResults.all fun r => decide (r.fGames.length ≤ 5)) := by
 unfold ladderAll slicesContainsFuncXXXXXX slicesIndexFuncXXXXXX
 have := all_shape (N := N) (c.fResults.map cr) (ladderAll1 N) (fun r => decide (r.fGames.length ≤ 5)) (fun x _ => by unfold ladderAll1 ladderCupDraw1; simp; omega) (by simp; omega) (by simp; omega)
 refine Eq.trans this ?_
 rw [List.all_map]; rfl
theorem allX_eq (c : Ref09Cup) (h : c.fResults.length ≤ 1000) (hf : form c = true) : ladderAllX N (c.fResults.map cr) (cc c) = some (rght c) := by
 have ff := form_iff.1 hf
 unfold ladderAllX slicesContainsFuncXXXXXXX slicesIndexFuncXXXXXXX
 have := all_shape (N := N) (c.fResults.map cr) (fun x => ladderAll1X N x (cc c)) (fun x => inr x.fMatch 0 (c.fPlayers - 2) && decide (0 < x.fGames.length)) (fun x _ => by
  unfold ladderAll1X ladderCupDraw2
  rw [within_eq, show (cc c).fPlayers = c.fPlayers from rfl, w64_id (by omega) (by omega)]
  by_cases q : inr x.fMatch 0 (c.fPlayers - 2) = true
  ·by_cases q2 : 0 < x.fGames.length
   ·simp [q, q2]
   ·have : x.fGames.length = 0 := by omega
    simp [q, this]
  ·simp [q]) (by simp; omega) (by simp; omega)
 refine Eq.trans this ?_
 rw [List.all_map]; rfl
theorem check_eq (c : Ref09Cup) : ladderCupCheck N (cc c) = some (if form c then 0 else 1) := by
 unfold ladderCupCheck
 simp only [within_eq, Option.bind_some]
 have e1 : (cc c).fForm = c.fForm := rfl
 have e2 : (cc c).fPlayers = c.fPlayers := rfl
 have e3 : (cc c).fGames = c.fGames := rfl
 rw [e1, e2, e3]
 by_cases h1 : c.fForm ≤ 1
 ·have d1 : ¬ 1 < c.fForm := by omega
  unfold form
  by_cases h2 : inr c.fPlayers 2 16 = true
  ·by_cases h3 : inr c.fGames 1 5 = true
   ·have h3' := inr_iff.1 h3
    have : c.fGames = 1 ∨ c.fGames = 2 ∨ c.fGames = 3 ∨ c.fGames = 4 ∨ c.fGames = 5 := by omega
    rw [h2]; simp only [h3, d1, h1, decide_false, decide_true, Bool.false_eq_true, if_false, Bool.not_true, Option.bind_some, Bool.true_and]
    rcases this with h | h | h | h | h <;> rw [h] <;> rfl
   ·have h3' : ¬ (1 ≤ c.fGames ∧ c.fGames ≤ 5) := fun q => h3 (inr_iff.2 q)
    simp [d1, h1, h2, h3, show ¬ c.fGames = 1 from by omega, show ¬ c.fGames = 3 from by omega, show ¬ c.fGames = 5 from by omega]
  ·simp [d1, h1, h2]
 ·have d1 : 1 < c.fForm := by omega
  unfold form
  simp [d1, h1]
theorem sz_of (c : Ref09Cup) (h : lims c = true) : Sz c := by
 simp only [lims, Bool.and_eq_true, decide_eq_true_eq, List.all_eq_true] at h
 exact ⟨by omega, fun r hr => by have := h.2 r hr; omega⟩
theorem draw_eq (c : Ref09Cup) (h : c.fResults.length ≤ 1000) : ladderCupDraw N (cc c) = some (if flt c = 0 then .inr (drw c) else .inl (flt c)) := by
 unfold ladderCupDraw flt
 have e1 : (cc c).fResults = c.fResults.map cr := rfl
 rw [e1, all_eq hN c h, List.length_map]
 by_cases c1 : c.fResults.length ≤ 15
 rotate_left
 ·have : (15 : Int) < (c.fResults.length : Int) := by omega
  simp [this, c1, lims]
 have d1 : ¬ (15 : Int) < (c.fResults.length : Int) := by omega
 simp only [d1, decide_false, Bool.false_eq_true, if_false, Option.bind_some]
 by_cases c2 : c.fResults.all (fun r => decide (r.fGames.length ≤ 5)) = true
 rotate_left
 ·have : lims c = false := by unfold lims; simp only [c1, decide_true, Bool.true_and]; exact Bool.not_eq_true _ ▸ c2
  simp [this, c2]
 have hl : lims c = true := by unfold lims; simp only [c1, decide_true, Bool.true_and]; exact c2
 have hs := sz_of hN c hl
 rw [hl, check_eq hN c]
 simp only [c2, Bool.not_true, Bool.false_eq_true, if_false, if_true, Option.bind_some]
 by_cases c3 : form c = true
 rotate_left
 ·simp [c3]
 have ff := form_iff.1 c3
 rw [allX_eq hN c h c3]
 simp only [c3, if_true, decide_true, Bool.not_true, Bool.false_eq_true, if_false, Option.bind_some, Bool.true_and]
 by_cases c4 : rght c = true
 rotate_left
 ·simp [c4]
 simp only [c4, Bool.not_true, Bool.false_eq_true, if_false, if_true]
 rw [ptree_eq hN (cc c) ff.2.1 ff.2.2.1, Option.bind_some]
 have e2 : (tre (decide ((cc c).fForm = 1)) (cc c).fPlayers.toNat) = T c := rfl
 rw [e2]
 have key := loop_list (N := N) (A := Nat) (B := fun rec3 x => ladderCupDraw_b2 N (cc c) ((T c).map cpr) rec3 x.1 x.2.1 x.2.2) c.fResults (fun i _ => ((c.fResults.length : Int), (i : Int), rm (c.fResults.take i)))
  (fun l a => if dup (c.fResults.take a) l then some (.inl 6) else ladderCupDraw_k1 N (cc c) ((T c).map cpr) (rm c.fResults)) (fun i a => a = i)
  (fun a rec hok => by subst hok; simp [ladderCupDraw_b2, dup])
  (fun i x a rec hx hok hh => by
   have hlt := len_lt hx
   subst hok
   show ladderCupDraw_b2 N _ _ rec _ (a : Int) (rm (c.fResults.take a)) = _
   unfold ladderCupDraw_b2
   have hx' : (cc c).fResults[a]? = some (cr x) := by rw [e1]; simp [hx]
   unfold mgt
   simp only [show ((a : Int) < (c.fResults.length : Int)) from by omega, decide_true, if_true, idx_at hx', Option.bind_some, w64_succ (i := a) (by omega)]
   have hg : mget (rm (c.fResults.take a)) (cr x).fMatch = ((c.fResults.take a).find? fun r => decide (r.fMatch = x.fMatch)).map cr := mget_rm ⟨0, 0, 0, c.fResults.take a⟩ x.fMatch
   have ht : c.fResults.take (a + 1) = c.fResults.take a ++ [x] := by rw [List.take_add_one, hx]; rfl
   unfold dup
   cases hq : (c.fResults.take a).find? (fun r => decide (r.fMatch = x.fMatch)) with
   | none =>
    have hany : (c.fResults.take a).any (fun y => decide (x.fMatch = y.fMatch)) = false := by
     rw [List.any_eq_false]; intro y hy; have := List.find?_eq_none.1 hq y hy; simp at this ⊢; exact fun e => this e.symm
    rw [hq] at hg
    rw [hany, mput_new hg, hg]
    simp only [Option.map_none, Option.isSome_none, Bool.false_eq_true, if_false, Bool.false_or]
    have e3 : rm (c.fResults.take a) ++ [((cr x).fMatch, cr x)] = rm (c.fResults.take (a + 1)) := by rw [ht]; unfold rm; simp [cr]
    rw [e3, hh (a + 1) rfl, ht]
   | some y =>
    have hany : (c.fResults.take a).any (fun y => decide (x.fMatch = y.fMatch)) = true := by
     rw [List.any_eq_true]; exact ⟨y, List.mem_of_find?_eq_some hq, by have := List.find?_some hq; simp at this ⊢; exact this.symm⟩
    rw [hq] at hg
    rw [hany, hg]
    simp) (by omega) 0 rfl
 have key' : loopN (fun rec3 x => ladderCupDraw_b2 N (cc c) ((T c).map cpr) rec3 x.1 x.2.1 x.2.2) N ((c.fResults.length : Int), 0, ([] : List (Int × LadderResult))) = (if dup [] c.fResults then some (.inl 6) else ladderCupDraw_k1 N (cc c) ((T c).map cpr) (rm c.fResults)) := key
 refine Eq.trans key' ?_
 by_cases c5 : dup [] c.fResults = true
 ·simp [c5]
 have c5' : dup [] c.fResults = false := by simpa using c5
 simp only [c5', Bool.false_eq_true, if_false]
 unfold ladderCupDraw_k1
 have hfill := fill_eq hN c hs c3 (cc c).fResults
 have e3 : (cc c).fForm = c.fForm := rfl
 have e4 : (cc c).fPlayers = c.fPlayers := rfl
 have e5 : (cc c).fGames = c.fGames := rfl
 rw [e3, e4, e5, hfill, Option.bind_some]
 simp only [lawf_fl c3 c4 c5']
 by_cases c6 : lawf c = true
 ·simp only [c6, Bool.not_true, Bool.false_eq_true, if_false, if_true]
  have := fl_snd (c := c) (l := T c) (i := 0) (by rw [lawf_fl c3 c4 c5']; exact c6)
  rw [this, Nat.zero_add]
  rfl
 ·simp [c6]
end
end Go.Proofs.YtignpdbcgjllkaaGreat.L
set_option linter.all false
namespace Go.Proofs.YtignpdbcgjllkaaGreat.L
open Go.Kp
abbrev BM := List (LadderSpot × LadderCheapest)
def prot (c : Ref09Cup) (n : Nat) : Bool := match res c (n : Int) with | none => false | some r => r.fProtested
def sett (c : Ref09Cup) (n : Nat) (a b : Int) : Int := if ply c n = ⟨a, b⟩ ∧ prot c n = false then won c (n : Int) else -1
def up (s p o : Int) : Int := if s = -1 ∧ o < p then 1 else 0
def cand (c : Ref09Cup) (n : Nat) (e f : Int × Int) (p x o : Int) : Prop :=
 ((p = e.1 ∧ o = f.1) ∨ (p = f.1 ∧ o = e.1)) ∧ (sett c n e.1 f.1 = -1 ∨ sett c n e.1 f.1 = p) ∧ x = e.2 + f.2 + up (sett c n e.1 f.1) p o
def imp (n : Nat) (w o x : Int) (m : BM) : BM :=
 match mget m ⟨n, w⟩ with
 | none => mput m ⟨n, w⟩ ⟨x, o⟩
 | some old => if x < old.fUpsets then mput m ⟨n, w⟩ ⟨x, o⟩ else m
def stp1 (n : Nat) (s w o x : Int) (m : BM) : BM := if s = -1 ∨ s = w then imp n w o (x + up s w o) m else m
def stp (c : Ref09Cup) (n : Nat) (e f : Int × Int) (m : BM) : BM :=
 stp1 n (sett c n e.1 f.1) f.1 e.1 (e.2 + f.2) (stp1 n (sett c n e.1 f.1) e.1 f.1 (e.2 + f.2) m)
structure RI (n : Nat) (C : Int → Int → Int → Prop) (m0 m : BM) : Prop where
 sound : ∀ p x, mget m ⟨n, p⟩ = some x → C p x.fUpsets x.fOther
 compl : ∀ p x o, C p x o → ∃ y, mget m ⟨n, p⟩ = some y ∧ y.fUpsets ≤ x
 frame : ∀ (k p : Int), k ≠ (n : Int) → mget m ⟨k, p⟩ = mget m0 ⟨k, p⟩
theorem RI.congr {n : Nat} {C C' : Int → Int → Int → Prop} {m0 m : BM} (h : RI n C m0 m) (hc : ∀ p x o, C p x o ↔ C' p x o) : RI n C' m0 m :=
 ⟨fun p x hx => (hc _ _ _).1 (h.sound p x hx), fun p x o hx => h.compl p x o ((hc _ _ _).2 hx), h.frame⟩
theorem RI.imp {n : Nat} {C : Int → Int → Int → Prop} {m0 m : BM} (h : RI n C m0 m) (w o x : Int) : RI n (fun p y q => C p y q ∨ (p = w ∧ y = x ∧ q = o)) m0 (imp n w o x m) := by
 have hput : ∀ k p, mget (mput m ⟨n, w⟩ ⟨x, o⟩) ⟨k, p⟩ = if k = (n : Int) ∧ p = w then some ⟨x, o⟩ else mget m ⟨k, p⟩ := by
  intro k p
  rw [mget_mput]
  by_cases e : k = (n : Int) ∧ p = w
  ·rw [if_pos e, if_pos (by rw [e.1, e.2])]
  ·rw [if_neg e, if_neg (by intro q; cases q; exact e ⟨rfl, rfl⟩)]
 unfold Go.Proofs.YtignpdbcgjllkaaGreat.L.imp
 cases hg : mget m ⟨n, w⟩ with
 | none =>
  refine ⟨fun p y hy => ?_, fun p y q hc => ?_, fun k p hk => ?_⟩
  ·rw [hput] at hy
   split at hy
   ·rename_i e; cases hy; exact .inr ⟨e.2, rfl, rfl⟩
   ·exact .inl (h.sound p y hy)
  ·show ∃ z, mget (mput m ⟨n, w⟩ ⟨x, o⟩) ⟨n, p⟩ = some z ∧ z.fUpsets ≤ y
   rw [hput]
   rcases hc with hc | ⟨rfl, rfl, rfl⟩
   ·obtain ⟨z, hz, hl⟩ := h.compl p y q hc
    by_cases e : p = w
    ·subst e; rw [hg] at hz; cases hz
    ·rw [if_neg (fun q => e q.2)]; exact ⟨z, hz, hl⟩
   ·rw [if_pos ⟨rfl, rfl⟩]; exact ⟨_, rfl, Int.le_refl _⟩
  ·show mget (mput m ⟨n, w⟩ ⟨x, o⟩) ⟨k, p⟩ = _
   rw [hput, if_neg (fun q => hk q.1)]; exact h.frame k p hk
 | some old =>
  simp only
  by_cases hlt : x < old.fUpsets
  ·rw [if_pos hlt]
   refine ⟨fun p y hy => ?_, fun p y q hc => ?_, fun k p hk => ?_⟩
   ·rw [hput] at hy
    split at hy
    ·rename_i e; cases hy; exact .inr ⟨e.2, rfl, rfl⟩
    ·exact .inl (h.sound p y hy)
   ·rw [hput]
    rcases hc with hc | ⟨rfl, rfl, rfl⟩
    ·obtain ⟨z, hz, hl⟩ := h.compl p y q hc
     by_cases e : p = w
     ·subst e; rw [if_pos ⟨rfl, rfl⟩]; rw [hg] at hz; cases hz; exact ⟨_, rfl, by show x ≤ y; omega⟩
     ·rw [if_neg (fun q => e q.2)]; exact ⟨z, hz, hl⟩
    ·rw [if_pos ⟨rfl, rfl⟩]; exact ⟨_, rfl, Int.le_refl _⟩
   ·rw [hput, if_neg (fun q => hk q.1)]; exact h.frame k p hk
  ·rw [if_neg hlt]
   refine ⟨fun p y hy => .inl (h.sound p y hy), fun p y q hc => ?_, h.frame⟩
   rcases hc with hc | ⟨rfl, rfl, rfl⟩
   ·exact h.compl p y q hc
   ·exact ⟨old, hg, by omega⟩
theorem RI.stp1 {n : Nat} {C : Int → Int → Int → Prop} {m0 m : BM} (h : RI n C m0 m) (s w o x : Int) : RI n (fun p y q => C p y q ∨ ((s = -1 ∨ s = w) ∧ p = w ∧ y = x + up s w o ∧ q = o)) m0 (stp1 n s w o x m) := by
 unfold Go.Proofs.YtignpdbcgjllkaaGreat.L.stp1
 by_cases e : s = -1 ∨ s = w
 ·rw [if_pos e]
  exact (h.imp w o (x + up s w o)).congr fun p y q => by simp [e]
 ·rw [if_neg e]
  exact h.congr fun p y q => by simp [e]
theorem RI.stp {c : Ref09Cup} {n : Nat} {C : Int → Int → Int → Prop} {m0 m : BM} (h : RI n C m0 m) (e f : Int × Int) : RI n (fun p y q => C p y q ∨ cand c n e f p y q) m0 (stp c n e f m) := by
 unfold Go.Proofs.YtignpdbcgjllkaaGreat.L.stp
 refine ((h.stp1 (sett c n e.1 f.1) e.1 f.1 (e.2 + f.2)).stp1 (sett c n e.1 f.1) f.1 e.1 (e.2 + f.2)).congr fun p y q => ?_
 unfold cand
 constructor
 ·rintro ((hc | ⟨h1, rfl, h2, rfl⟩) | ⟨h1, rfl, h2, rfl⟩)
  ·exact .inl hc
  ·exact .inr ⟨.inl ⟨rfl, rfl⟩, h1, h2⟩
  ·exact .inr ⟨.inr ⟨rfl, rfl⟩, h1, h2⟩
 ·rintro (hc | ⟨⟨rfl, rfl⟩ | ⟨rfl, rfl⟩, h1, h2⟩)
  ·exact .inl (.inl hc)
  ·exact .inl (.inr ⟨h1, rfl, h2, rfl⟩)
  ·exact .inr ⟨h1, rfl, h2, rfl⟩
def frl (m : BM) (k : Int) (j : Nat) : List (Int × Int) := (List.range j).filterMap fun (p : Nat) => (mget m ⟨k, (p : Int)⟩).map fun x => ((p : Int), x.fUpsets)
def frm (c : Ref09Cup) (m : BM) (s : Ref09Side) : List (Int × Int) := if s.fMatch = -1 then [(s.fPlayer, 0)] else frl m s.fMatch c.fPlayers.toNat
theorem frl_congr {m m' : BM} {k : Int} {j : Nat} (h : ∀ p, mget m ⟨k, p⟩ = mget m' ⟨k, p⟩) : frl m k j = frl m' k j := by
 unfold frl; congr 1; funext p; rw [h]
theorem frm_congr {c : Ref09Cup} {m m' : BM} {s : Ref09Side} {P n : Nat} (hs : sok P n s) (h : ∀ k p, 0 ≤ k → k < (n : Int) → mget m ⟨k, p⟩ = mget m' ⟨k, p⟩) : frm c m s = frm c m' s := by
 unfold frm
 rcases hs with ⟨h1, _, _⟩ | ⟨_, h2, h3⟩
 ·rw [if_pos h1, if_pos h1]
 ·rw [if_neg (by omega), if_neg (by omega), frl_congr fun p => h _ p h2 h3]
theorem mem_frl {m : BM} {k : Int} {j : Nat} {e : Int × Int} : e ∈ frl m k j ↔ 0 ≤ e.1 ∧ e.1 < j ∧ ∃ x, mget m ⟨k, e.1⟩ = some x ∧ x.fUpsets = e.2 := by
 unfold frl
 rw [List.mem_filterMap]
 constructor
 ·rintro ⟨p, hp, h⟩
  rw [Option.map_eq_some_iff] at h
  obtain ⟨x, hx, rfl⟩ := h
  have := List.mem_range.1 hp
  exact ⟨by simp, by simpa using this, x, hx, rfl⟩
 ·rintro ⟨h0, h1, x, hx, h2⟩
  refine ⟨e.1.toNat, List.mem_range.2 (by omega), ?_⟩
  rw [show ((e.1.toNat : Nat) : Int) = e.1 from by omega, hx]
  simp [h2]
structure GB (c : Ref09Cup) (n : Nat) (m : BM) : Prop where
 row : ∀ k, k < n → RI k (fun p x o => ∃ e ∈ frm c m (fs (T c) k), ∃ f ∈ frm c m (sn (T c) k), cand c k e f p x o) m m
 none : ∀ k p, ¬ (0 ≤ k ∧ k < (n : Int)) → mget m ⟨k, p⟩ = none
 bd : ∀ k p x, mget m ⟨k, p⟩ = some x → 0 ≤ p ∧ p < c.fPlayers ∧ 0 ≤ x.fUpsets ∧ x.fUpsets < 2 ^ (k.toNat + 1)
theorem frm_bd {c : Ref09Cup} {n : Nat} {m : BM} {s : Ref09Side} (hs : sok c.fPlayers.toNat n s) (hb : ∀ k p x, mget m ⟨k, p⟩ = some x → 0 ≤ p ∧ p < c.fPlayers ∧ 0 ≤ x.fUpsets ∧ x.fUpsets < 2 ^ (k.toNat + 1)) {e : Int × Int} (he : e ∈ frm c m s) :
  0 ≤ e.1 ∧ e.1 < c.fPlayers ∧ 0 ≤ e.2 ∧ e.2 < 2 ^ n := by
 have hp : (0 : Int) < 2 ^ n := Int.pow_pos (by omega)
 unfold frm at he
 rcases hs with ⟨h1, h2, h3⟩ | ⟨_, h2, h3⟩
 ·rw [if_pos h1, List.mem_singleton] at he
  subst he
  exact ⟨h2, by show s.fPlayer < _; omega, Int.le_refl _, hp⟩
 ·rw [if_neg (by omega), mem_frl] at he
  obtain ⟨h4, h5, x, hx, h6⟩ := he
  have := hb _ _ _ hx
  refine ⟨h4, by omega, by omega, ?_⟩
  have h7 : (2 : Int) ^ (s.fMatch.toNat + 1) ≤ 2 ^ n := by
   have : s.fMatch.toNat + 1 ≤ n := by omega
   exact_mod_cast Nat.pow_le_pow_right (n := 2) (by omega) this
  omega
theorem cand_bd {c : Ref09Cup} {n : Nat} {e f : Int × Int} {p x o : Int} (h : cand c n e f p x o) (he : 0 ≤ e.1 ∧ e.1 < c.fPlayers ∧ 0 ≤ e.2 ∧ e.2 < 2 ^ n) (hf : 0 ≤ f.1 ∧ f.1 < c.fPlayers ∧ 0 ≤ f.2 ∧ f.2 < 2 ^ n) :
  0 ≤ p ∧ p < c.fPlayers ∧ 0 ≤ x ∧ x < 2 ^ (n + 1) := by
 obtain ⟨h1, _, h3⟩ := h
 have hu : 0 ≤ up (sett c n e.1 f.1) p o ∧ up (sett c n e.1 f.1) p o ≤ 1 := by unfold up; split <;> omega
 rw [Int.pow_succ]
 rcases h1 with ⟨rfl, rfl⟩ | ⟨rfl, rfl⟩ <;> omega
theorem GB.step {c : Ref09Cup} {n : Nat} {m m' : BM} (ht : TOK (T c) c.fPlayers.toNat) (hn : n < (T c).length) (h : GB c n m)
  (hr : RI n (fun p x o => ∃ e ∈ frm c m (fs (T c) n), ∃ f ∈ frm c m (sn (T c) n), cand c n e f p x o) m m') : GB c (n + 1) m' := by
 have hs := ht.side n hn
 have hlow : ∀ (k p : Int), 0 ≤ k → k < (n : Int) → mget m' ⟨k, p⟩ = mget m ⟨k, p⟩ := fun k p _ h2 => hr.frame k p (by omega)
 have ec1 : frm c m' (fs (T c) n) = frm c m (fs (T c) n) := frm_congr hs.1 hlow
 have ec2 : frm c m' (sn (T c) n) = frm c m (sn (T c) n) := frm_congr hs.2 hlow
 refine ⟨fun k hk => ?_, fun k p hk => ?_, fun k p x hx => ?_⟩
 ·rcases Nat.lt_or_ge k n with q | q
  ·have hs' := ht.side k (by omega)
   have hl2 : ∀ (k' p : Int), 0 ≤ k' → k' < (k : Int) → mget m' ⟨k', p⟩ = mget m ⟨k', p⟩ := fun k' p h1 h2 => hlow k' p h1 (by omega)
   have r := h.row k q
   rw [frm_congr hs'.1 hl2, frm_congr hs'.2 hl2]
   have e : ∀ p, mget m' ⟨k, p⟩ = mget m ⟨k, p⟩ := fun p => hlow k p (by omega) (by omega)
   exact ⟨fun p x hx => r.sound p x (by rw [← e]; exact hx), fun p x o hc => by rw [e]; exact r.compl p x o hc, fun _ _ _ => rfl⟩
  ·have : k = n := by omega
   subst this
   rw [ec1, ec2]
   exact ⟨hr.sound, hr.compl, fun _ _ _ => rfl⟩
 ·rw [hr.frame k p (by omega)]
  exact h.none k p (by omega)
 ·by_cases e : k = (n : Int)
  ·subst e
   obtain ⟨e', he, f, hf, hc⟩ := hr.sound p x hx
   rw [Int.toNat_natCast]
   exact cand_bd hc (frm_bd hs.1 h.bd he) (frm_bd hs.2 h.bd hf)
  ·rw [hr.frame k p e] at hx
   exact h.bd k p x hx
theorem GB.zero (c : Ref09Cup) : GB c 0 [] := ⟨fun k hk => by omega, fun _ _ _ => rfl, fun _ _ _ h => by cases h⟩
theorem RI.zero {c : Ref09Cup} {n : Nat} {m : BM} (h : GB c n m) : RI n (fun _ _ _ => False) m m :=
 ⟨fun p x hx => (by rw [h.none n p (by omega)] at hx; cases hx), fun _ _ _ hf => hf.elim, fun _ _ _ => rfl⟩
def brow (c : Ref09Cup) (m : BM) (n : Nat) : BM :=
 (frm c m (fs (T c) n)).foldl (fun m1 e => (frm c m (sn (T c) n)).foldl (fun m2 f => stp c n e f m2) m1) m
def bmap (c : Ref09Cup) : BM := (List.range (T c).length).foldl (brow c) []
theorem inner_fold {c : Ref09Cup} {n : Nat} {m0 : BM} {e : Int × Int} : ∀ (l : List (Int × Int)) {C : Int → Int → Int → Prop} {m : BM}, RI n C m0 m → RI n (fun p x o => C p x o ∨ ∃ f ∈ l, cand c n e f p x o) m0 (l.foldl (fun m2 f => stp c n e f m2) m)
 | [], C, m, h => h.congr fun p x o => by simp
 | f :: l, C, m, h => by
  rw [List.foldl_cons]
  refine (inner_fold l (h.stp e f)).congr fun p x o => ?_
  simp [or_assoc]
theorem outer_fold {c : Ref09Cup} {n : Nat} {m0 : BM} {S : List (Int × Int)} : ∀ (l : List (Int × Int)) {C : Int → Int → Int → Prop} {m : BM}, RI n C m0 m → RI n (fun p x o => C p x o ∨ ∃ e ∈ l, ∃ f ∈ S, cand c n e f p x o) m0 (l.foldl (fun m1 e => S.foldl (fun m2 f => stp c n e f m2) m1) m)
 | [], C, m, h => h.congr fun p x o => by simp
 | e :: l, C, m, h => by
  rw [List.foldl_cons]
  refine (outer_fold l (inner_fold S h)).congr fun p x o => ?_
  simp [or_assoc]
theorem bmap_good {c : Ref09Cup} (ht : TOK (T c) c.fPlayers.toNat) : GB c (T c).length (bmap c) := by
 unfold bmap
 have key : ∀ n, n ≤ (T c).length → GB c n ((List.range n).foldl (brow c) []) := by
  intro n
  induction n with
  | zero => intro _; exact GB.zero c
  | succ n ih =>
   intro hn
   have h := ih (by omega)
   rw [List.range_succ, List.foldl_append]
   refine h.step ht (by omega) ?_
   refine (outer_fold (S := frm c _ (sn (T c) n)) (frm c _ (fs (T c) n)) (RI.zero h)).congr fun p x o => ?_
   simp
 exact key _ (Nat.le_refl _)
def cst (m : BM) (k p : Int) : Option Int := (mget m ⟨k, p⟩).map (·.fUpsets)
theorem frl_cst {m m' : BM} {k : Int} {j : Nat} (h : ∀ p, cst m k p = cst m' k p) : frl m k j = frl m' k j := by
 unfold frl
 congr 1; funext p
 have := h p
 unfold cst at this
 cases h1 : mget m ⟨k, (p : Int)⟩ <;> cases h2 : mget m' ⟨k, (p : Int)⟩ <;> simp_all
theorem GB.uniq {c : Ref09Cup} {m m' : BM} (ht : TOK (T c) c.fPlayers.toNat) (h : GB c (T c).length m) (h' : GB c (T c).length m') : ∀ k p, cst m k p = cst m' k p := by
 have key : ∀ n : Nat, ∀ p, cst m n p = cst m' n p := by
  intro n
  induction n using Nat.strongRecOn with
  | ind n ih =>
   intro p
   rcases Nat.lt_or_ge n (T c).length with hn | hn
   ·have hs := ht.side n hn
    have hfr : ∀ s, sok c.fPlayers.toNat n s → frm c m s = frm c m' s := by
     intro s hs
     unfold frm
     rcases hs with ⟨h1, _, _⟩ | ⟨_, h2, h3⟩
     ·rw [if_pos h1, if_pos h1]
     ·rw [if_neg (by omega), if_neg (by omega)]
      refine frl_cst fun p => ?_
      have := ih s.fMatch.toNat (by omega) p
      rwa [show ((s.fMatch.toNat : Nat) : Int) = s.fMatch from by omega] at this
    have r := h.row n hn
    have r' := h'.row n hn
    rw [← hfr _ hs.1, ← hfr _ hs.2] at r'
    unfold cst
    cases h1 : mget m ⟨n, p⟩ with
    | none =>
     cases h2 : mget m' ⟨n, p⟩ with
     | none => rfl
     | some y => obtain ⟨z, hz, _⟩ := r.compl _ _ _ (r'.sound p y h2); rw [h1] at hz; cases hz
    | some x =>
     obtain ⟨y, hy, hl⟩ := r'.compl _ _ _ (r.sound p x h1)
     obtain ⟨x', hx', hl'⟩ := r.compl _ _ _ (r'.sound p y hy)
     rw [h1] at hx'; cases hx'
     rw [hy]
     simp only [Option.map_some]
     congr 1; omega
   ·unfold cst
    rw [h.none n p (by omega), h'.none n p (by omega)]
 intro k p
 by_cases h0 : 0 ≤ k
 ·have := key k.toNat p
  rwa [show ((k.toNat : Nat) : Int) = k from by omega] at this
 ·unfold cst
  rw [h.none k p (by omega), h'.none k p (by omega)]
end Go.Proofs.YtignpdbcgjllkaaGreat.L
set_option linter.all false
namespace Go.Proofs.YtignpdbcgjllkaaGreat.L
open Go.Kp
structure Val (c : Ref09Cup) : Prop where
 lim : lims c = true
 form : form c = true
 rght : rght c = true
 dup : dup [] c.fResults = false
 law : lawf c = true
theorem val_iff {c : Ref09Cup} : flt c = 0 ↔ Val c := by
 unfold flt
 constructor
 ·intro h
  by_cases c1 : lims c = true
  ·by_cases c2 : (form c && rght c) = true
   ·by_cases c3 : Go.Proofs.YtignpdbcgjllkaaGreat.L.dup [] c.fResults = true
    ·simp [c1, c2, c3] at h
    ·by_cases c4 : lawf c = true
     ·rw [Bool.and_eq_true] at c2
      exact ⟨c1, c2.1, c2.2, by simpa using c3, c4⟩
     ·simp [c1, c2, c3, c4] at h
   ·simp [c1, c2] at h
  ·simp [c1] at h
 ·rintro ⟨a, b, c, d, e⟩
  simp [a, b, c, d, e]
section
variable {c : Ref09Cup} (hv : Val c)
include hv
theorem Val.sz : Sz c := by
 have h := hv.lim
 simp only [lims, Bool.and_eq_true, decide_eq_true_eq, List.all_eq_true] at h
 exact ⟨by omega, fun r hr => by have := h.2 r hr; omega⟩
theorem Val.ff : c.fForm ≤ 1 ∧ 2 ≤ c.fPlayers ∧ c.fPlayers ≤ 16 ∧ (c.fGames = 1 ∨ c.fGames = 3 ∨ c.fGames = 5) := form_iff.1 hv.form
theorem Val.ok : TOK (T c) c.fPlayers.toNat := T_ok hv.form
theorem Val.len : ((T c).length : Int) = c.fPlayers - 1 := T_len hv.form
theorem Val.lw (m : Nat) : lwb c m = true := by
 unfold lwb
 cases e : res c (m : Int) with
 | none => rfl
 | some r => exact List.all_eq_true.1 hv.law r (res_mem e).1
theorem Val.res (m : Nat) {r : Ref09Result} (hr : Go.Proofs.YtignpdbcgjllkaaGreat.L.res c (m : Int) = some r) :
  0 ≤ known c (fs (T c) m) ∧ 0 ≤ known c (sn (T c) m) ∧ lg c.fGames (known c (fs (T c) m)) (known c (sn (T c) m)) [] r.fGames = true := lw_res (hv.lw m) hr
theorem Val.won (m : Nat) : won c (m : Int) = -1 ∨ 0 ≤ won c (m : Int) := won_bd (hv.lw m)
theorem Val.known {n : Nat} (hn : n < (T c).length) : (known c (fs (T c) n) = -1 ∨ 0 ≤ known c (fs (T c) n)) ∧ (known c (sn (T c) n) = -1 ∨ 0 ≤ known c (sn (T c) n)) :=
 ⟨known_bd (hv.ok.side n hn).1 fun m _ => hv.lw m, known_bd (hv.ok.side n hn).2 fun m _ => hv.lw m⟩
end
theorem bindO_some {α R : Type} (a : α) (k : α → WP R) : bindO (some a) k = k a := by
 funext Q
 unfold bindO
 apply propext
 constructor
 ·rintro ⟨b, h, q⟩; cases h; exact q
 ·intro q; exact ⟨a, rfl, q⟩
section
variable {N : Nat} (hN : 4000 ≤ N)
include hN
theorem wonD_eq {c : Ref09Cup} (hv : Val c) {n : Nat} (hn : n < (T c).length) (c1 c2 : Int) (c4 : List LadderResult) (c5 : List LadderPair) :
  ladderDrawWonXXXXX N (n : Int) c1 c2 c.fGames c4 c5 (rm c.fResults) (plys c (T c).length) = some (won c (n : Int)) := by
 have := hv.ff
 exact wonP_eq hN c c1 c2 c4 c5 hv.sz (plys_idx hn) (by omega) fun r hr => hv.res n hr
theorem settled_eq {c : Ref09Cup} (hv : Val c) {n : Nat} (hn : n < (T c).length) (a b c1 c2 : Int) (c4 : List LadderResult) (c5 : List LadderPair) :
  ladderDrawSettled N (n : Int) a b c1 c2 c.fGames c4 c5 (rm c.fResults) (plys c (T c).length) = some (sett c n a b) := by
 unfold ladderDrawSettled sett prot mgt
 rw [plys_idx hn, Option.bind_some, mget_rm, Option.bind_some, wonD_eq hN hv hn]
 by_cases q : ply c n = ⟨a, b⟩
 ·cases e : res c (n : Int) with
  | none => simp [q]
  | some r => cases hp : r.fProtested <;> simp [q, hp, cr]
 ·simp [q]
theorem from_eq {c : Ref09Cup} (hf : form c = true) (m : BM) (s : Ref09Side) (c1 c3 : Int) (c4 : List LadderResult) (c5 : List LadderPair) (m2 : List (Int × LadderResult)) (l1 : List (Ar2 Int)) :
  ladderDrawFromX N (csd s) c1 c.fPlayers c3 c4 c5 m m2 l1 = some (frm c m s) := by
 have ff := form_iff.1 hf
 unfold ladderDrawFromX frm
 by_cases q : s.fMatch = -1
 ·have : (csd s).fMatch = -1 := q
  simp only [this, q, decide_true, if_true]
  rfl
 ·have q' : ¬ (csd s).fMatch = -1 := q
  simp only [q', q, decide_false, Bool.false_eq_true, if_false]
  have key := loop_list (N := N) (B := fun rec3 x => ladderDrawFromX_b1 N (csd s) c.fPlayers m rec3 x.1 x.2) (List.range c.fPlayers.toNat) (fun i (a : List (Int × Int)) => ((i : Int), a)) (fun _ _ => some (frl m s.fMatch c.fPlayers.toNat)) (fun i a => a = frl m s.fMatch i)
   (fun a rec hok => by
    subst hok
    show ladderDrawFromX_b1 N _ _ _ rec _ _ = _
    unfold ladderDrawFromX_b1
    simp only [List.length_range, show ¬ ((c.fPlayers.toNat : Int) < c.fPlayers) from by omega, decide_false, Bool.false_eq_true, if_false])
   (fun i x a rec hx hok hh => by
    have hlt := len_lt hx
    simp only [List.length_range] at hlt
    subst hok
    show ladderDrawFromX_b1 N _ _ _ rec (i : Int) _ = _
    unfold ladderDrawFromX_b1 mgt
    simp only [show ((i : Int) < c.fPlayers) from by omega, decide_true, if_true, Option.bind_some, w64_succ (i := i) (by omega), show (csd s).fMatch = s.fMatch from rfl]
    have hs : frl m s.fMatch (i + 1) = frl m s.fMatch i ++ ((mget m ⟨s.fMatch, (i : Int)⟩).map fun x => ((i : Int), x.fUpsets)).toList := by
     unfold frl; rw [List.range_succ, List.filterMap_append]
     congr 1
    have hnew : mget (frl m s.fMatch i) (i : Int) = none := by
     cases e : mget (frl m s.fMatch i) (i : Int) with
     | none => rfl
     | some y =>
      exfalso
      have : ∀ (l : List (Int × Int)) (k y : Int), mget l k = some y → (k, y) ∈ l := by
       intro l
       induction l with
       | nil => intro k y h; cases h
       | cons p l ih =>
        intro k y h
        rw [mget] at h
        by_cases e : k = p.1
        ·rw [if_pos e] at h; cases h; simp [e]
        ·rw [if_neg e] at h; simp [ih k y h]
      have := (mem_frl.1 (this _ _ _ e)).2.1
      simp at this
    cases e : mget m ⟨s.fMatch, (i : Int)⟩ with
    | none =>
     rw [e] at hs
     simp only [Option.map_none, Option.toList_none, List.append_nil] at hs
     simp only [Option.isSome_none, Bool.false_eq_true, if_false]
     exact hh _ hs.symm
    | some y =>
     rw [e] at hs
     simp only [Option.map_some, Option.toList_some] at hs
     simp only [Option.isSome_some, if_true, Option.getD_some]
     refine hh _ ?_
     rw [mput_new hnew, hs]) (by simp; omega) [] rfl
  have key' : loopN (fun rec3 x => ladderDrawFromX_b1 N (csd s) c.fPlayers m rec3 x.1 x.2) N ((0 : Int), ([] : List (Int × Int))) = some (frl m s.fMatch c.fPlayers.toNat) := key
  rw [key', Option.bind_some]
abbrev Rc := BM × List (Int × Int) → WP BM
theorem k5_eq (n : Nat) (rc : Rc) (rem : List (Int × Int)) (m : BM) (x : Ar2 Int) (cost : Int) : ladderDrawBest_k5 N (n : Int) rc rem m x cost = rc (imp n x.a0 x.a1 cost m, rem) := by
 unfold ladderDrawBest_k5 mgt
 rw [bindO_some]
 unfold imp ladderDrawBest_k4 ladderDrawBest_k3
 cases h : mget m ⟨(n : Int), x.a0⟩ with
 | none => rfl
 | some old =>
  simp only [Option.isSome_some, Option.getD_some, Bool.not_true, Bool.false_eq_true, if_false, decide_eq_true_eq]
  by_cases q : cost < old.fUpsets
  ·simp [q]
  ·simp [q]
theorem k8_eq (n : Nat) (a b x y s : Int) (rc : Rc) (rem : List (Int × Int)) (m : BM) (hx : 0 ≤ x ∧ x ≤ 100000) (hy : 0 ≤ y ∧ y ≤ 100000) :
  ladderDrawBest_k8 N (n : Int) x rc y rem s m [⟨a, b⟩, ⟨b, a⟩] = rc (stp1 n s b a (x + y) m, rem) := by
 unfold ladderDrawBest_k8
 rw [show idx ([⟨a, b⟩, ⟨b, a⟩] : List (Ar2 Int)) 1 = some ⟨b, a⟩ from rfl, bindO_some]
 unfold ladderDrawBest_k7 ladderDrawBest_k6 ladderDrawBest_k3 stp1 up
 by_cases h1 : s = -1
 ·subst h1
  simp only [decide_true, Bool.not_true, Bool.false_eq_true, if_false, if_true, true_or, true_and]
  rw [sum2 hN (x := x) (y := y) (by omega) (by omega), bindO_some]
  by_cases h2 : a < b
  ·simp only [h2, decide_true, if_true]
   rw [sum2 hN (x := x + y) (y := 1) (by omega) (by omega), bindO_some, k5_eq hN]
  ·simp only [h2, decide_false, Bool.false_eq_true, if_false]
   rw [k5_eq hN, Int.add_zero]
 ·by_cases h2 : s = b
  ·subst h2
   simp only [h1, decide_true, decide_false, Bool.not_true, Bool.not_false, Bool.false_eq_true, if_false, if_true, or_true, false_and, Int.add_zero]
   rw [sum2 hN (x := x) (y := y) (by omega) (by omega), bindO_some, k5_eq hN]
  ·simp only [h1, h2, decide_false, Bool.not_false, if_true, if_false, or_self]
theorem k12_eq (n : Nat) (a b x y s : Int) (rc : Rc) (rem : List (Int × Int)) (m : BM) (hx : 0 ≤ x ∧ x ≤ 100000) (hy : 0 ≤ y ∧ y ≤ 100000) :
  (if !decide (s = -1) then ladderDrawBest_k12 N (n : Int) x m rc y rem s ⟨a, b⟩ (!decide (s = a)) [⟨a, b⟩, ⟨b, a⟩] else ladderDrawBest_k12 N (n : Int) x m rc y rem s ⟨a, b⟩ false [⟨a, b⟩, ⟨b, a⟩])
   = rc (stp1 n s b a (x + y) (stp1 n s a b (x + y) m), rem) := by
 have e10 : ∀ cost, ladderDrawBest_k10 N (n : Int) x m rc y rem s ⟨a, b⟩ [⟨a, b⟩, ⟨b, a⟩] cost = rc (stp1 n s b a (x + y) (imp n a b cost m), rem) := by
  intro cost
  unfold ladderDrawBest_k10 mgt
  rw [bindO_some]
  unfold imp ladderDrawBest_k9
  cases h : mget m ⟨(n : Int), a⟩ with
  | none => simp [k8_eq hN n a b x y s rc rem _ hx hy]
  | some old =>
   simp only [Option.isSome_some, Option.getD_some, Bool.not_true, Bool.false_eq_true, if_false, decide_eq_true_eq, k8_eq hN n a b x y s rc rem _ hx hy]
   by_cases q : cost < old.fUpsets
   ·simp [q]
   ·simp [q]
 unfold ladderDrawBest_k12 ladderDrawBest_k11
 by_cases h1 : s = -1
 ·subst h1
  simp only [decide_true, Bool.not_true, Bool.false_eq_true, if_false, if_true]
  rw [sum2 hN (x := x) (y := y) (by omega) (by omega), bindO_some]
  by_cases h2 : b < a
  ·simp only [h2, decide_true, if_true]
   rw [sum2 hN (x := x + y) (y := 1) (by omega) (by omega), bindO_some, e10]
   congr 3
   unfold stp1 up
   simp [h2]
  ·simp only [h2, decide_false, Bool.false_eq_true, if_false]
   rw [e10]
   congr 3
   unfold stp1 up
   simp [h2]
 ·by_cases h2 : s = a
  ·subst h2
   simp only [h1, decide_true, decide_false, Bool.not_true, Bool.not_false, Bool.false_eq_true, if_false, if_true]
   rw [sum2 hN (x := x) (y := y) (by omega) (by omega), bindO_some, e10]
   congr 3
   unfold stp1 up
   simp [h1]
  ·simp only [h1, h2, decide_false, Bool.not_false, if_true]
   rw [k8_eq hN n a b x y s rc rem _ hx hy]
   congr 3
   unfold stp1
   simp [h1, h2]
theorem pow_le {n : Nat} (h : n ≤ 15) : (2 : Int) ^ n ≤ 32768 := by
 have h1 : (2 : Nat) ^ n ≤ 2 ^ 15 := Nat.pow_le_pow_right (by omega) h
 have h2 : (2 : Nat) ^ n ≤ 32768 := Nat.le_trans h1 (by decide)
 have h3 : ((2 ^ n : Nat) : Int) = (2 : Int) ^ n := by rw [Int.natCast_pow]; rfl
 rw [← h3]; omega
theorem inner_wp {c : Ref09Cup} (hv : Val c) {n : Nat} (hn : n < (T c).length) (c1 : Int) (c4 : List LadderResult) (c5 : List LadderPair) (rec50 : Rc) (e : Int × Int) (he : 0 ≤ e.2 ∧ e.2 ≤ 100000) (rem470 : List (Int × Int)) (Q : BM → Prop) {m0 : BM} {C : Int → Int → Int → Prop} (S : List (Int × Int)) (hS : ∀ f ∈ S, 0 ≤ f.2 ∧ f.2 ≤ 100000)
  (hk : ∀ m', RI n (fun p x o => C p x o ∨ ∃ f ∈ S, cand c n e f p x o) m0 m' → rec50 (m', rem470) Q) :
  ∀ (fuel : Nat) (rem done : List (Int × Int)) (m : BM), rem.length < fuel → (done ++ rem).Perm S → RI n (fun p x o => C p x o ∨ ∃ f ∈ done, cand c n e f p x o) m0 m →
   loopW (fun rec51 x => ladderDrawBest_b13 N c1 c.fPlayers c.fGames c4 c5 (rm c.fResults) (plys c (T c).length) (n : Int) rec50 e.1 e.2 rem470 rec51 x.1 x.2) fuel (m, rem) Q := by
 intro fuel
 induction fuel with
 | zero => intro rem done m h; omega
 | succ fuel ih =>
  intro rem done m hlen hp hr
  show ladderDrawBest_b13 N _ _ _ _ _ _ _ _ rec50 e.1 e.2 rem470 (loopW _ fuel) m rem Q
  rw [ladderDrawBest_b13]
  refine ⟨fun h0 => ?_, fun pre f post hs => ?_⟩
  ·subst h0
   rw [List.append_nil] at hp
   exact hk m (hr.congr fun p x o => by
    constructor
    ·rintro (h | ⟨f, hf, h⟩)
     ·exact .inl h
     ·exact .inr ⟨f, hp.mem_iff.1 hf, h⟩
    ·rintro (h | ⟨f, hf, h⟩)
     ·exact .inl h
     ·exact .inr ⟨f, hp.mem_iff.2 hf, h⟩)
  ·subst hs
   have hfS : f ∈ S := hp.mem_iff.1 (by simp)
   have hf := hS f hfS
   simp only
   rw [settled_eq hN hv hn, bindO_some, show idx ([⟨e.1, f.1⟩, ⟨f.1, e.1⟩] : List (Ar2 Int)) 0 = some ⟨e.1, f.1⟩ from rfl, bindO_some, k12_eq hN n e.1 f.1 e.2 f.2 (sett c n e.1 f.1) _ _ _ he hf]
   refine ih (pre ++ post) (done ++ [f]) _ (by simp at hlen ⊢; omega) ?_ ?_
   ·refine List.Perm.trans ?_ hp
    rw [List.append_assoc]
    exact (List.perm_append_left_iff _).2 (by rw [List.singleton_append]; exact List.perm_middle.symm)
   ·exact (hr.stp e f).congr fun p x o => by
     simp only [List.mem_append, List.mem_singleton, or_assoc]
     constructor
     ·rintro (h | ⟨g, hg, h⟩ | h)
      ·exact .inl h
      ·exact .inr ⟨g, .inl hg, h⟩
      ·exact .inr ⟨f, .inr rfl, h⟩
     ·rintro (h | ⟨g, hg | rfl, h⟩)
      ·exact .inl h
      ·exact .inr (.inl ⟨g, hg, h⟩)
      ·exact .inr (.inr h)
theorem outer_wp {c : Ref09Cup} (hv : Val c) {n : Nat} (hn : n < (T c).length) (c1 : Int) (c4 : List LadderResult) (c5 : List LadderPair) (rec43 : Int × Int × BM → WP BM) (v2897 : Int) (x816 : LadderPair) (hx : x816.fSecond = csd (sn (T c) n)) (Q : BM → Prop) {m0 : BM} (hg : GB c n m0) (F : List (Int × Int)) (hF : ∀ f ∈ F, 0 ≤ f.2 ∧ f.2 ≤ 100000) (hS : ∀ f ∈ frm c m0 (sn (T c) n), 0 ≤ f.2 ∧ f.2 ≤ 100000)
  (hk : ∀ m', RI n (fun p x o => ∃ e ∈ F, ∃ f ∈ frm c m0 (sn (T c) n), cand c n e f p x o) m0 m' → rec43 (v2897, w64 ((n : Int) + 1), m') Q) :
  ∀ (fuel : Nat) (rem done : List (Int × Int)) (m : BM), rem.length < fuel → (done ++ rem).Perm F → RI n (fun p x o => ∃ e ∈ done, ∃ f ∈ frm c m0 (sn (T c) n), cand c n e f p x o) m0 m →
   loopW (fun rec50 x => ladderDrawBest_b14 N c1 c.fPlayers c.fGames c4 c5 (rm c.fResults) (plys c (T c).length) v2897 (n : Int) rec43 x816 rec50 x.1 x.2) fuel (m, rem) Q := by
 intro fuel
 induction fuel with
 | zero => intro rem done m h; omega
 | succ fuel ih =>
  intro rem done m hlen hp hr
  show ladderDrawBest_b14 N _ _ _ _ _ _ _ _ _ rec43 x816 (loopW _ fuel) m rem Q
  rw [ladderDrawBest_b14]
  refine ⟨fun h0 => ?_, fun pre e post hs => ?_⟩
  ·subst h0
   rw [List.append_nil] at hp
   unfold ladderDrawBest_k2
   exact hk m (hr.congr fun p x o => ⟨fun ⟨e, he, h⟩ => ⟨e, hp.mem_iff.1 he, h⟩, fun ⟨e, he, h⟩ => ⟨e, hp.mem_iff.2 he, h⟩⟩)
  ·subst hs
   have heF : e ∈ F := hp.mem_iff.1 (by simp)
   simp only
   have ht := hv.ok
   have hside := (ht.side n hn).2
   rw [hx, from_eq hN hv.form, bindO_some]
   have efr : frm c m (sn (T c) n) = frm c m0 (sn (T c) n) := frm_congr hside fun k p _ h2 => hr.frame k p (by omega)
   rw [efr]
   have hff := hv.ff
   have hlenS : (frm c m0 (sn (T c) n)).length < N := by
    unfold frm frl
    split
    ·simp; omega
    ·have := List.length_filterMap_le (fun (p : Nat) => (mget m0 ⟨(sn (T c) n).fMatch, (p : Int)⟩).map fun x => ((p : Int), x.fUpsets)) (List.range c.fPlayers.toNat)
     rw [List.length_range] at this
     omega
   refine inner_wp hN hv hn c1 c4 c5 _ e (hF e heF) (pre ++ post) Q (C := fun p x o => ∃ e ∈ done, ∃ f ∈ frm c m0 (sn (T c) n), cand c n e f p x o) (frm c m0 (sn (T c) n)) hS (fun m' hr' => ?_) N _ [] m hlenS (List.Perm.refl _) (hr.congr fun p x o => by simp)
   refine ih (pre ++ post) (done ++ [e]) m' (by simp at hlen ⊢; omega) ?_ ?_
   ·refine List.Perm.trans ?_ hp
    rw [List.append_assoc]
    exact (List.perm_append_left_iff _).2 (by rw [List.singleton_append]; exact List.perm_middle.symm)
   ·exact hr'.congr fun p x o => by
     simp only [List.mem_append, List.mem_singleton]
     constructor
     ·rintro (⟨g, hg, h⟩ | h)
      ·exact ⟨g, .inl hg, h⟩
      ·exact ⟨e, .inr rfl, h⟩
     ·rintro ⟨g, hg | rfl, h⟩
      ·exact .inl ⟨g, hg, h⟩
      ·exact .inr h
theorem best_wp {c : Ref09Cup} (hv : Val c) (c1 : Int) (c4 : List LadderResult) (Q : BM → Prop) (hQ : ∀ m, GB c (T c).length m → Q m) :
  ladderDrawBest N c1 c.fPlayers c.fGames c4 ((T c).map cpr) (rm c.fResults) (plys c (T c).length) Q := by
 unfold ladderDrawBest
 have ht := hv.ok
 have hff := hv.ff
 have hlen := hv.len
 have key : ∀ (fuel n : Nat) (m : BM), n ≤ (T c).length → (T c).length - n < fuel → GB c n m →
   loopW (fun rec43 x => ladderDrawBest_b15 N c1 c.fPlayers c.fGames c4 ((T c).map cpr) (rm c.fResults) (plys c (T c).length) rec43 x.1 x.2.1 x.2.2) fuel ((((T c).map cpr).length : Int), (n : Int), m) Q := by
  intro fuel
  induction fuel with
  | zero => intro n m _ h; omega
  | succ fuel ih =>
   intro n m hn hfu hg
   show ladderDrawBest_b15 N _ _ _ _ _ _ _ (loopW _ fuel) _ (n : Int) m Q
   rw [ladderDrawBest_b15]
   rcases Nat.lt_or_ge n (T c).length with hlt | hge
   ·rw [if_pos (decide_eq_true (show ((n : Int) < (((T c).map cpr).length : Int)) from by rw [List.length_map]; omega))]
    have hxi : ((T c).map cpr)[n]? = some (cpr ((T c).getD n dP)) := by rw [List.getElem?_map, getT hlt]; rfl
    rw [idx_at hxi, bindO_some, show (cpr ((T c).getD n dP)).fFirst = csd (fs (T c) n) from rfl, from_eq hN hv.form, bindO_some]
    have hpw : (2 : Int) ^ n ≤ 32768 := pow_le hN (by omega)
    have hs := ht.side n hlt
    have hb1 : ∀ f ∈ frm c m (fs (T c) n), 0 ≤ f.2 ∧ f.2 ≤ 100000 := fun f hf => by have := frm_bd hs.1 hg.bd hf; omega
    have hb2 : ∀ f ∈ frm c m (sn (T c) n), 0 ≤ f.2 ∧ f.2 ≤ 100000 := fun f hf => by have := frm_bd hs.2 hg.bd hf; omega
    have hlenF : (frm c m (fs (T c) n)).length < N := by
     unfold frm frl
     split
     ·simp; omega
     ·have := List.length_filterMap_le (fun (p : Nat) => (mget m ⟨(fs (T c) n).fMatch, (p : Int)⟩).map fun x => ((p : Int), x.fUpsets)) (List.range c.fPlayers.toNat)
      rw [List.length_range] at this
      omega
    refine outer_wp hN hv hlt c1 c4 _ _ _ (cpr ((T c).getD n dP)) rfl Q hg _ hb1 hb2 (fun m' hr => ?_) N _ [] m hlenF (List.Perm.refl _) ((RI.zero hg).congr fun p x o => by simp)
    rw [w64_succ (by omega)]
    exact ih (n + 1) m' (by omega) (by omega) (hg.step ht hlt hr)
   ·have : n = (T c).length := by omega
    subst this
    simp only [List.length_map, Int.lt_irrefl, decide_false, Bool.false_eq_true, if_false]
    exact hQ m hg
 exact key N 0 [] (by omega) (by omega) (GB.zero c)
end
end Go.Proofs.YtignpdbcgjllkaaGreat.L
set_option linter.all false
namespace Go.Proofs.YtignpdbcgjllkaaGreat.L
open Go.Kp
theorem WGood.bindW {α R : Type} {x : WP α} {k : α → WP R} (hx : WGood x) (h : ∀ a, WGood (k a)) : WGood (Go.Kp.bindW x k) :=
 ⟨fun q => hx.no (hx.mono _ _ (fun a => (h a).no) q), fun P Q p q => hx.mono _ _ (fun a ⟨p, q⟩ => (h a).and P Q p q) (hx.and _ _ p q), fun P Q m q => hx.mono _ _ (fun a => (h a).mono P Q m) q⟩
section
variable {N : Nat}
theorem k3_good {rc : Rc} (h : ∀ y, WGood (rc y)) (rem m) : WGood (ladderDrawBest_k3 N rc rem m) := by unfold ladderDrawBest_k3; exact h _
theorem k4_good {rc : Rc} (h : ∀ y, WGood (rc y)) (v rem m x cost b) : WGood (ladderDrawBest_k4 N v rc rem m x cost b) := by unfold ladderDrawBest_k4; exact .ite (k3_good h _ _) (k3_good h _ _)
theorem k5_good {rc : Rc} (h : ∀ y, WGood (rc y)) (v rem m x cost) : WGood (ladderDrawBest_k5 N v rc rem m x cost) := by unfold ladderDrawBest_k5; exact .bindO fun ⟨_, _⟩ => .ite (k4_good h ..) (k4_good h ..)
theorem k6_good {rc : Rc} (h : ∀ y, WGood (rc y)) (v rem m x r b) : WGood (ladderDrawBest_k6 N v rc rem m x r b) := by unfold ladderDrawBest_k6; exact .ite (.bindO fun _ => k5_good h ..) (k5_good h ..)
theorem k7_good {rc : Rc} (h : ∀ y, WGood (rc y)) (v a b rem r m x q) : WGood (ladderDrawBest_k7 N v a rc b rem r m x q) := by unfold ladderDrawBest_k7; exact .ite (k3_good h ..) (.bindO fun _ => .ite (k6_good h ..) (k6_good h ..))
theorem k8_good {rc : Rc} (h : ∀ y, WGood (rc y)) (v a b rem r m x) : WGood (ladderDrawBest_k8 N v a rc b rem r m x) := by unfold ladderDrawBest_k8; exact .bindO fun _ => .ite (k7_good h ..) (k7_good h ..)
theorem k9_good {rc : Rc} (h : ∀ y, WGood (rc y)) (v a m b rem r x l cost q) : WGood (ladderDrawBest_k9 N v a m rc b rem r x l cost q) := by unfold ladderDrawBest_k9; exact .ite (k8_good h ..) (k8_good h ..)
theorem k10_good {rc : Rc} (h : ∀ y, WGood (rc y)) (v a m b rem r x l cost) : WGood (ladderDrawBest_k10 N v a m rc b rem r x l cost) := by unfold ladderDrawBest_k10; exact .bindO fun ⟨_, _⟩ => .ite (k9_good h ..) (k9_good h ..)
theorem k11_good {rc : Rc} (h : ∀ y, WGood (rc y)) (v a m b rem r x l z q) : WGood (ladderDrawBest_k11 N v a m rc b rem r x l z q) := by unfold ladderDrawBest_k11; exact .ite (.bindO fun _ => k10_good h ..) (k10_good h ..)
theorem k12_good {rc : Rc} (h : ∀ y, WGood (rc y)) (v a m b rem r x q l) : WGood (ladderDrawBest_k12 N v a m rc b rem r x q l) := by unfold ladderDrawBest_k12; exact .ite (k8_good h ..) (.bindO fun _ => .ite (k11_good h ..) (k11_good h ..))
theorem best_good (c1 c2 c3 : Int) (c4 : List LadderResult) (c5 : List LadderPair) (m1 : List (Int × LadderResult)) (l1 : List (Ar2 Int)) : WGood (ladderDrawBest N c1 c2 c3 c4 c5 m1 l1) := by
 unfold ladderDrawBest
 refine WGood.loop (fun rec x hr => ?_) _ _
 rw [ladderDrawBest_b15]
 refine .ite (.bindO fun _ => .bindO fun _ => WGood.loop (fun rec2 y hr2 => ?_) _ _) (by unfold ladderDrawBest_k1; exact .ret _)
 rw [ladderDrawBest_b14]
 refine .next (by unfold ladderDrawBest_k2; exact hr _) (fun ⟨_, _⟩ _ => .bindO fun _ => WGood.loop (fun rec3 z hr3 => ?_) _ _)
 rw [ladderDrawBest_b13]
 exact .next (hr2 _) (fun ⟨_, _⟩ _ => .bindO fun _ => .bindO fun _ => .ite (k12_good hr3 ..) (k12_good hr3 ..))
theorem may_good (c1 c2 c3 : Int) (c4 : List LadderResult) (c5 : List LadderPair) (m1 : List (Int × LadderResult)) (l1 : List (Ar2 Int)) : WGood (ladderDrawMayW N c1 c2 c3 c4 c5 m1 l1) := by
 unfold ladderDrawMayW
 refine WGood.bindW (best_good ..) fun m => WGood.loop (fun rec x hr => ?_) _ _
 rw [ladderDrawMayW_b3]
 exact .ite (.bindO fun _ => .bindO fun ⟨_, _⟩ => .ite (.bindO fun _ => hr _) (hr _)) (.ret _)
theorem asked_good (c : LadderCup) (p : Int) : WGood (ladderCupAsked N c p) := by
 unfold ladderCupAsked
 refine .bindO fun z => ?_
 rcases z with r | ⟨a, b, c, d, e, f, g, h⟩
 ·exact .ite (.ret _) (.bindO fun _ => .ite (.ret _) .fail)
 ·exact .ite (.ret _) (.bindO fun _ => .ite (.ret _) (WGood.bindW (best_good ..) fun _ => .bindO fun _ => .bindO fun ⟨_, _⟩ => .ite (.ret _) (.ret _)))
theorem upsets_good (c : LadderCup) (p : Int) : WGood (ladderUpsetsW N c p) := by
 unfold ladderUpsetsW
 refine WGood.bindW (asked_good ..) fun z => ?_
 rcases z with r | ⟨a, b, c, d, e, f, g, h, i⟩
 ·exact .ite (.ret _) .fail
 ·exact .ite (.ret _) (.bindO fun _ => .bindO fun ⟨_, _⟩ => .ret _)
end
def lst (c : Ref09Cup) : Nat := (T c).length - 1
def mayl (c : Ref09Cup) (m : BM) (j : Nat) : List Int := (List.range j).filterMap fun (p : Nat) => if (mget m ⟨(lst c : Int), (p : Int)⟩).isSome then some (p : Int) else none
def mays (c : Ref09Cup) : List Int := mayl c (bmap c) c.fPlayers.toNat
def gm (c : Ref09Cup) (n : Nat) : List Int := match res c (n : Int) with | none => [] | some r => r.fGames
def opn (c : Ref09Cup) (n : Nat) : Bool := decide (known c (fs (T c) n) ≠ -1) && (decide (known c (sn (T c) n) ≠ -1) && decide (won c (n : Int) = -1))
def nextl (c : Ref09Cup) (j : Nat) : List LadderMatch := (List.range j).filterMap fun (n : Nat) =>
 if opn c n then some ⟨(n : Int), known c (fs (T c) n), known c (sn (T c) n), cnt (known c (fs (T c) n)) (gm c n), cnt (known c (sn (T c) n)) (gm c n)⟩ else none
def nexts (c : Ref09Cup) : List LadderMatch := nextl c (T c).length
def ups (c : Ref09Cup) (p : Int) : Int × Int :=
 if flt c = 0 then (if inr p 0 (c.fPlayers - 1) then (match cst (bmap c) (lst c : Int) p with | none => (0, 9) | some x => (x, 0)) else (0, 2)) else (0, flt c)
def winner (c : Ref09Cup) : Int × Int := if flt c = 0 then (if won c (lst c : Int) = -1 then (0, 7) else if 1 < (mays c).length then (0, 8) else (won c (lst c : Int), 0)) else (0, flt c)
theorem isSome_cst {m : BM} {k p : Int} : (mget m ⟨k, p⟩).isSome = (cst m k p).isSome := by unfold cst; cases mget m ⟨k, p⟩ <;> rfl
theorem mayl_uniq {c : Ref09Cup} (hv : Val c) {m : BM} (h : GB c (T c).length m) (j : Nat) : mayl c m j = mayl c (bmap c) j := by
 unfold mayl; congr 1; funext p; rw [isSome_cst, isSome_cst, h.uniq hv.ok (bmap_good hv.ok)]
theorem fmap_succ {α : Type} (f : Nat → Option α) (i : Nat) : (List.range (i + 1)).filterMap f = (List.range i).filterMap f ++ (f i).toList := by
 rw [List.range_succ, List.filterMap_append]; congr 1
section
variable {N : Nat} (hN : 4000 ≤ N)
include hN
theorem last_eq {c : Ref09Cup} (hv : Val c) (c1 c2 c3 : Int) (c4 : List LadderResult) (m1 : List (Int × LadderResult)) (l1 : List (Ar2 Int)) : ladderDrawLast N c1 c2 c3 c4 ((T c).map cpr) m1 l1 = some (lst c : Int) := by
 have := hv.ff; have hl := hv.len
 unfold ladderDrawLast lst
 rw [List.length_map, w64_id (by omega) (by omega)]
 congr 1; omega
theorem mayD_eq {c : Ref09Cup} (hv : Val c) (c1 : Int) (c4 : List LadderResult) : ladderDrawMay N c1 c.fPlayers c.fGames c4 ((T c).map cpr) (rm c.fResults) (plys c (T c).length) = some (mays c) := by
 have ff := hv.ff
 refine det_eq (may_good ..) ?_
 unfold ladderDrawMayW
 refine best_wp hN hv c1 c4 _ fun m hg => ?_
 have key : ∀ (fuel i : Nat), i ≤ c.fPlayers.toNat → c.fPlayers.toNat - i < fuel →
   loopW (fun rec3 x => ladderDrawMayW_b3 N c1 c.fPlayers c.fGames c4 ((T c).map cpr) (rm c.fResults) (plys c (T c).length) m rec3 x.1 x.2) fuel ((i : Int), mayl c m i) (fun x => x = mays c) := by
  intro fuel
  induction fuel with
  | zero => intro i _ h; omega
  | succ fuel ih =>
   intro i hi hf
   show ladderDrawMayW_b3 N _ _ _ _ _ _ _ m (loopW _ fuel) (i : Int) (mayl c m i) _
   rw [ladderDrawMayW_b3]
   rcases Nat.lt_or_ge i c.fPlayers.toNat with hlt | hge
   ·have hs : mayl c m (i + 1) = mayl c m i ++ (if (mget m ⟨(lst c : Int), (i : Int)⟩).isSome then some (i : Int) else none).toList := fmap_succ _ i
    have hl : (mayl c m i).length ≤ i := by unfold mayl; exact Nat.le_trans (List.length_filterMap_le _ _) (by simp)
    rw [if_pos (decide_eq_true (show (i : Int) < c.fPlayers from by omega)), last_eq hN hv, bindO_some]
    unfold mgt
    rw [bindO_some]
    simp only [ladderDrawMayW_k2, w64_succ (i := i) (by omega)]
    by_cases e : (mget m ⟨(lst c : Int), (i : Int)⟩).isSome = true
    ·rw [if_pos e, app_ok (by simp; omega), bindO_some]
     rw [e] at hs
     have := ih (i + 1) (by omega) (by omega)
     rw [hs] at this
     exact this
    ·rw [if_neg e]
     rw [if_neg e] at hs
     have := ih (i + 1) (by omega) (by omega)
     rw [hs] at this
     simpa using this
   ·have : i = c.fPlayers.toNat := by omega
    subst this
    rw [if_neg (by simp; omega)]
    unfold ladderDrawMayW_k1
    show mayl c m _ = mays c
    exact mayl_uniq hv hg _
 exact key N 0 (by omega) (by omega)
theorem mayWin_eq (c : Ref09Cup) (h : c.fResults.length ≤ 1000) : ladderMayWin N (cc c) = some (if flt c = 0 then (mays c, 0) else ([], flt c)) := by
 unfold ladderMayWin
 rw [draw_eq hN c h, Option.bind_some]
 by_cases q : flt c = 0
 ·rw [if_pos q, if_pos q]
  simp only [drw, decide_true, Bool.not_true, Bool.false_eq_true, if_false]
  rw [mayD_eq hN (val_iff.1 q)]; rfl
 ·rw [if_neg q, if_neg q]
  simp [q]
theorem winner_eq (c : Ref09Cup) (h : c.fResults.length ≤ 1000) : ladderWinner N (cc c) = some (winner c) := by
 unfold ladderWinner winner
 rw [draw_eq hN c h, Option.bind_some]
 by_cases q : flt c = 0
 ·have hv := val_iff.1 q
  have ff := hv.ff; have hl := hv.len
  rw [if_pos q, if_pos q]
  simp only [drw, decide_true, Bool.not_true, Bool.false_eq_true, if_false]
  rw [last_eq hN hv, Option.bind_some, wonD_eq hN hv (by unfold lst; omega), Option.bind_some, mayD_eq hN hv, Option.bind_some]
  by_cases e : won c (lst c : Int) = -1
  ·simp [e]
  ·by_cases e2 : 1 < (mays c).length
   ·have e3 : (1 : Int) < ((mays c).length : Int) := by omega
    simp [e, e2, e3]
   ·have e3 : ¬ (1 : Int) < ((mays c).length : Int) := by omega
    simp only [e, e2, e3, decide_false, Bool.false_eq_true, if_false]
 ·rw [if_neg q, if_neg q]
  simp [q]
theorem upsets_eq (c : Ref09Cup) (h : c.fResults.length ≤ 1000) (p : Int) : ladderUpsets N (cc c) p = some (ups c p) := by
 refine det_eq (upsets_good ..) ?_
 unfold ladderUpsetsW ladderCupAsked ups
 rw [draw_eq hN c h, bindO_some]
 by_cases q : flt c = 0
 ·have hv := val_iff.1 q
  have ff := hv.ff; have hl := hv.len
  have ew : w64 ((cc c).fPlayers - 1) = c.fPlayers - 1 := w64_id (by show -9223372036854775808 ≤ c.fPlayers - 1; omega) (by show c.fPlayers - 1 ≤ _; omega)
  rw [if_pos q, if_pos q]
  simp only [drw, decide_true, Bool.not_true, Bool.false_eq_true, if_false]
  rw [within_eq, bindO_some, ew]
  by_cases e : inr p 0 (c.fPlayers - 1) = true
  ·rw [e]
   simp only [Bool.not_true, Bool.false_eq_true, if_false, if_true]
   refine best_wp hN hv _ _ _ fun m hg => ?_
   simp only [last_eq hN hv, bindO_some, mgt]
   have hu := hg.uniq hv.ok (bmap_good hv.ok) (lst c : Int) p
   rw [← hu]
   unfold cst
   cases e2 : mget m ⟨(lst c : Int), p⟩ with
   | none => simp [retW]
   | some x =>
    simp only [Option.isSome_some, Bool.not_true, Bool.false_eq_true, if_false, Option.map_some]
    show (bindO (ladderDrawLast N _ _ _ _ _ _ _) _) _
    rw [last_eq hN hv, bindO_some]
    simp only [e2, bindO_some]
    rfl
  ·simp [e, retW, Go.Kp.bindW]
 ·rw [if_neg q, if_neg q]
  simp [q, Go.Kp.bindW, retW]
theorem next_eq (c : Ref09Cup) (h : c.fResults.length ≤ 1000) : ladderNext N (cc c) = some (if flt c = 0 then (nexts c, 0) else ([], flt c)) := by
 unfold ladderNext
 rw [draw_eq hN c h, Option.bind_some]
 by_cases q : flt c = 0
 ·have hv := val_iff.1 q
  have ff := hv.ff; have hl := hv.len
  rw [if_pos q, if_pos q]
  simp only [drw, decide_true, Bool.not_true, Bool.false_eq_true, if_false, ladderDrawOpen, Option.bind_some]
  unfold slicesCollect slicesAppendSeq
  have key := loop_list (N := N) (B := fun rec3 x => slicesAppendSeq_b1 N c.fForm c.fPlayers c.fGames (c.fResults.map cr) ((T c).map cpr) (rm c.fResults) (plys c (T c).length) rec3 x.1 x.2.1 x.2.2) (plys c (T c).length) (fun i (a : List LadderMatch) => (((plys c (T c).length).length : Int), (i : Int), a)) (fun _ _ => some (nexts c)) (fun i a => a = nextl c i)
   (fun a rec hok => by subst hok; simp [slicesAppendSeq_b1, nexts, plys_len])
   (fun i x a rec hx hok hh => by
    have hlt := len_lt hx
    have hlt' := hlt
    rw [plys_len] at hlt
    subst hok
    show slicesAppendSeq_b1 N _ _ _ _ _ _ _ rec _ (i : Int) _ = _
    have hs : nextl c (i + 1) = nextl c i ++ (if opn c i then some (LadderMatch.mk (i : Int) (known c (fs (T c) i)) (known c (sn (T c) i)) (cnt (known c (fs (T c) i)) (gm c i)) (cnt (known c (sn (T c) i)) (gm c i))) else none).toList := fmap_succ _ i
    have hll : (nextl c i).length ≤ i := by unfold nextl; exact Nat.le_trans (List.length_filterMap_le _ _) (by simp)
    have hgl : (gm c i).length ≤ 1000 := by
     unfold gm
     cases e : res c (i : Int) with
     | none => simp
     | some r => exact hv.sz.g r (res_mem e).1
    have hg : (Option.getD (Option.map cr (res c (i : Int))) (LadderResult.mk 0 ([]) false)).fGames = gm c i := by
     unfold gm; cases res c (i : Int) <;> rfl
    unfold slicesAppendSeq_b1 mgt
    rw [if_pos (decide_eq_true (show (i : Int) < ((plys c (T c).length).length : Int) from by omega)), plys_idx hlt, Option.bind_some, mget_rm]
    simp only [Option.bind_some, wonD_eq hN hv hlt, w64_succ (i := i) (by omega)]
    rw [hg, score_eq hN c.fForm c.fPlayers c.fGames _ _ _ hgl (plys_idx hlt)]
    have ea : (ply c i).a0 = known c (fs (T c) i) := rfl
    have eb : (ply c i).a1 = known c (sn (T c) i) := rfl
    simp only [ea, eb, Option.bind_some]
    have hno : opn c i = false → rec (((plys c (T c).length).length : Int), ((i + 1 : Nat) : Int), nextl c i) = some (nexts c) := by
     intro ho
     rw [ho] at hs
     refine hh _ ?_
     simpa using hs.symm
    by_cases w1 : known c (fs (T c) i) = -1
    ·simp only [w1, decide_true, if_true, Option.bind_some]
     exact hno (by unfold opn; simp [w1])
    ·by_cases w2 : known c (sn (T c) i) = -1
     ·simp only [w1, w2, decide_true, decide_false, Bool.false_eq_true, if_false, if_true, Option.bind_some]
      exact hno (by unfold opn; simp [w2])
     ·by_cases w3 : won c (i : Int) = -1
      ·have ho : opn c i = true := by unfold opn; simp [w1, w2, w3]
       simp only [w1, w2, w3, decide_true, decide_false, Bool.not_true, Bool.false_eq_true, if_false, Option.bind_some]
       rw [app_ok (by simp; omega), Option.bind_some, Option.bind_some]
       refine hh _ ?_
       rw [hs, ho]; rfl
      ·simp only [w1, w2, w3, decide_false, Bool.not_false, Bool.false_eq_true, if_false, if_true, Option.bind_some]
       exact hno (by unfold opn; simp [w3])) (by rw [plys_len]; omega) [] rfl
  have key' : loopN (fun rec3 x => slicesAppendSeq_b1 N c.fForm c.fPlayers c.fGames (c.fResults.map cr) ((T c).map cpr) (rm c.fResults) (plys c (T c).length) rec3 x.1 x.2.1 x.2.2) N (((plys c (T c).length).length : Int), (0 : Int), ([] : List LadderMatch)) = some (nexts c) := key
  rw [key']; rfl
 ·rw [if_neg q, if_neg q]
  simp [q]
end
end Go.Proofs.YtignpdbcgjllkaaGreat.L
set_option linter.all false
namespace Go.Proofs.YtignpdbcgjllkaaGreat.L
open Go.Kp
def comes (s : Ref09Side) (w : List Int) : Int := if s.fMatch < 0 then s.fPlayer else w.getD s.fMatch.toNat 0
def ca (c : Ref09Cup) (n : Nat) (w : List Int) : Int := comes (fs (T c) n) w
def cb (c : Ref09Cup) (n : Nat) (w : List Int) : Int := comes (sn (T c) n) w
def sw (c : Ref09Cup) (n : Nat) (w : List Int) : Int := sett c n (ca c n w) (cb c n w)
def poss (c : Ref09Cup) (n : Nat) (w : List Int) (x : Int) : Prop := (x = ca c n w ∨ x = cb c n w) ∧ (sw c n w < 0 ∨ sw c n w = x)
instance (c n w x) : Decidable (poss c n w x) := by unfold poss; infer_instance
structure IsC (c : Ref09Cup) (w : List Int) : Prop where
 len : w.length = (T c).length
 ok : ∀ n, n < (T c).length → poss c n w (w.getD n 0)
def uR (c : Ref09Cup) (w : List Int) (n : Nat) : Int := if sw c n w < 0 ∧ w.getD n 0 = max (ca c n w) (cb c n w) then 1 else 0
def upR (c : Ref09Cup) (w : List Int) : Int := ((List.range (T c).length).map (uR c w)).sum
theorem comes_congr {P n : Nat} {s : Ref09Side} (hs : sok P n s) {w u : List Int} (h : ∀ k, k < n → w.getD k 0 = u.getD k 0) : comes s w = comes s u := by
 unfold comes
 rcases hs with ⟨h1, _, _⟩ | ⟨_, h2, h3⟩
 ·rw [if_pos (by omega), if_pos (by omega)]
 ·rw [if_neg (by omega), if_neg (by omega), h _ (by omega)]
theorem poss_congr {c : Ref09Cup} {P n : Nat} (hs : sok P n (fs (T c) n) ∧ sok P n (sn (T c) n)) {w u : List Int} (h : ∀ k, k < n → w.getD k 0 = u.getD k 0) {x : Int} : poss c n w x ↔ poss c n u x := by
 unfold poss sw ca cb
 rw [comes_congr hs.1 h, comes_congr hs.2 h]
theorem getD_append_lt {w u : List Int} {k : Nat} (h : k < w.length) : (w ++ u).getD k 0 = w.getD k 0 := by
 rw [List.getD_eq_getElem?_getD, List.getD_eq_getElem?_getD, List.getElem?_append_left h]
theorem getD_snoc {w : List Int} {x : Int} : (w ++ [x]).getD w.length 0 = x := by
 rw [List.getD_eq_getElem?_getD, List.getElem?_append_right (Nat.le_refl _)]; simp
section
variable {N : Nat} (hN : 4000 ≤ N)
include hN
end
end Go.Proofs.YtignpdbcgjllkaaGreat.L
set_option linter.all false
namespace Go.Proofs.YtignpdbcgjllkaaGreat.L
open Go.Kp
theorem perm_sum {l m : List Int} (h : l.Perm m) : l.sum = m.sum := by
 induction h with
 | nil => rfl
 | cons x _ ih => simp [ih]
 | swap x y l => simp; omega
 | trans _ _ h1 h2 => exact h1.trans h2
theorem bs_first {T : Tr} {P : Nat} (ht : TOK T P) {n : Nat} (hn : n < T.length) {p : Int} : p ∈ bel T n ↔ p ∈ bs T (fs T n) ∨ p ∈ bs T (sn T n) := by
 rw [ht.bel n hn, List.mem_append]
theorem bs_disj {T : Tr} {P : Nat} (ht : TOK T P) {n : Nat} (hn : n < T.length) {p q : Int} (hp : p ∈ bs T (fs T n)) (hq : q ∈ bs T (sn T n)) : p ≠ q := by
 have := ht.nodup n hn
 rw [ht.bel n hn, List.nodup_append] at this
 exact this.2.2 p hp q hq
section
variable {c : Ref09Cup} (hv : Val c)
include hv
theorem sett_mem {n : Nat} (a b : Int) : sett c n a b = -1 ∨ (0 ≤ sett c n a b ∧ (sett c n a b = a ∨ sett c n a b = b)) := by
 unfold sett
 by_cases q : ply c n = ⟨a, b⟩ ∧ prot c n = false
 ·rw [if_pos q]
  have h1 := q.1
  simp only [ply, Ar2.mk.injEq] at h1
  rcases hv.won n with h | h
  ·exact .inl h
  ·right
   refine ⟨h, ?_⟩
   unfold won at h ⊢
   cases e : res c (n : Int) with
   | none => rw [e] at h; simp at h
   | some r =>
    obtain ⟨_, _, hl⟩ := hv.res n e
    rcases find_dec (G := c.fGames) (l := r.fGames) with ⟨x, _, hx, _, hd⟩ | ⟨_, hd⟩
    ·simp only [hd]
     rw [← h1.1, ← h1.2]
     exact (lg_iff.1 hl).1 x hx
    ·rw [e] at h; simp only [hd] at h; omega
 ·rw [if_neg q]; exact .inl rfl
def Cs (C : Nat → Int) (s : Ref09Side) : Int := if s.fMatch < 0 then 0 else C s.fMatch.toNat
omit hv in
theorem ex_C (c : Ref09Cup) (ht : TOK (T c) c.fPlayers.toNat) (u : Nat → Int) : ∃ C : Nat → Int, ∀ n, n < (T c).length → C n = Cs C (fs (T c) n) + Cs C (sn (T c) n) + u n := by
 have key : ∀ k, k ≤ (T c).length → ∃ C : Nat → Int, ∀ n, n < k → C n = Cs C (fs (T c) n) + Cs C (sn (T c) n) + u n := by
  intro k
  induction k with
  | zero => intro _; exact ⟨fun _ => 0, fun n hn => absurd hn (Nat.not_lt_zero n)⟩
  | succ k ih =>
   intro hk
   obtain ⟨C, hC⟩ := ih (by omega)
   refine ⟨fun i => if i = k then Cs C (fs (T c) k) + Cs C (sn (T c) k) + u k else C i, fun n hn => ?_⟩
   have hs := ht.side n (by omega)
   have e : ∀ (v : Int) s, sok c.fPlayers.toNat n s → Cs (fun i => if i = k then v else C i) s = Cs C s := by
    intro v s hs
    unfold Cs
    rcases hs with ⟨h1, _, _⟩ | ⟨_, h2, h3⟩
    ·rw [if_pos (by omega), if_pos (by omega)]
    ·rw [if_neg (by omega), if_neg (by omega)]
     exact if_neg (by omega)
   rw [e _ _ hs.1, e _ _ hs.2]
   by_cases q : n = k
   ·subst q; simp
   ·exact (if_neg q).trans (hC n (by omega))
 exact key _ (Nat.le_refl _)
omit hv in
theorem sum_kids (C : Nat → Int) : ∀ (T : Tr), ((kids T).map C).sum = (T.map fun p => Cs C p.fFirst + Cs C p.fSecond).sum
 | [] => rfl
 | p :: T => by
  have e : kids (p :: T) = (ms p.fFirst ++ ms p.fSecond) ++ kids T := rfl
  rw [e, List.map_append, List.sum_append, sum_kids C T, List.map_cons, List.sum_cons, List.map_append, List.sum_append]
  have : ∀ s, ((ms s).map C).sum = Cs C s := by intro s; unfold ms Cs; split <;> simp
  rw [this, this]
omit hv in
theorem range_map {T : Tr} (f : Ref09Pair → Int) : (List.range T.length).map (fun n => f (T.getD n dP)) = T.map f := by
 refine List.ext_getElem (by simp) fun i h1 h2 => ?_
 simp only [List.length_map, List.length_range] at h1
 simp [List.getD_eq_getElem?_getD, h1]
omit hv in
theorem sum_C (c : Ref09Cup) (ht : TOK (T c) c.fPlayers.toNat) (hl : 0 < (T c).length) (u C : Nat → Int) (hC : ∀ n, n < (T c).length → C n = Cs C (fs (T c) n) + Cs C (sn (T c) n) + u n) :
  ((List.range (T c).length).map u).sum = C (lst c) := by
 have h1 : ((List.range (T c).length).map C).sum = ((List.range (T c).length).map fun n => Cs C (fs (T c) n) + Cs C (sn (T c) n)).sum + ((List.range (T c).length).map u).sum := by
  have e : ∀ (l : List Nat), (∀ n ∈ l, n < (T c).length) → (l.map C).sum = (l.map fun n => Cs C (fs (T c) n) + Cs C (sn (T c) n)).sum + (l.map u).sum := by
   intro l
   induction l with
   | nil => intro _; rfl
   | cons n l ih =>
    intro h
    simp only [List.map_cons, List.sum_cons, ih fun k hk => h k (by simp [hk])]
    have := hC n (h n (by simp))
    omega
  exact e _ fun n hn => List.mem_range.1 hn
 have h2 : ((List.range (T c).length).map fun n => Cs C (fs (T c) n) + Cs C (sn (T c) n)).sum = ((kids (T c)).map C).sum := by
  rw [sum_kids C (T c), ← range_map (T := T c) fun p => Cs C p.fFirst + Cs C p.fSecond]; rfl
 have h3 : ((kids (T c)).map C).sum = ((List.range ((T c).length - 1)).map C).sum := by
  have hp : (kids (T c)).Perm (List.range ((T c).length - 1)) := List.isPerm_iff.1 ht.kids
  exact perm_sum (hp.map C)
 have h4 : ((List.range (T c).length).map C).sum = ((List.range ((T c).length - 1)).map C).sum + C (lst c) := by
  rw [show (T c).length = ((T c).length - 1) + 1 from by omega, List.range_succ, List.map_append, List.sum_append]
  simp [lst]
 omega
theorem course_bel {w : List Int} (hw : IsC c w) : ∀ (n : Nat), n < (T c).length → w.getD n 0 ∈ bel (T c) n := by
 intro n
 induction n using Nat.strongRecOn with
 | ind n ih =>
  intro hn
  have ht := hv.ok
  have hs := ht.side n hn
  have side : ∀ s, sok c.fPlayers.toNat n s → comes s w ∈ bs (T c) s := by
   intro s hs
   unfold comes bs
   rcases hs with ⟨h1, _, _⟩ | ⟨_, h2, h3⟩
   ·rw [if_pos (by omega), if_pos (by omega)]; simp
   ·rw [if_neg (by omega), if_neg (by omega)]; exact ih _ (by omega) (by omega)
  rw [bs_first ht hn]
  rcases (hw.ok n hn).1 with h | h
  ·rw [h]; exact .inl (side _ hs.1)
  ·rw [h]; exact .inr (side _ hs.2)
theorem comes_bs {w : List Int} (hw : IsC c w) {n : Nat} (hn : n < (T c).length) : ca c n w ∈ bs (T c) (fs (T c) n) ∧ cb c n w ∈ bs (T c) (sn (T c) n) := by
 have ht := hv.ok
 have hs := ht.side n hn
 have side : ∀ s, sok c.fPlayers.toNat n s → comes s w ∈ bs (T c) s := by
  intro s hs
  unfold comes bs
  rcases hs with ⟨h1, _, _⟩ | ⟨_, h2, h3⟩
  ·rw [if_pos (by omega), if_pos (by omega)]; simp
  ·rw [if_neg (by omega), if_neg (by omega)]; exact course_bel hv hw _ (by omega)
 exact ⟨side _ hs.1, side _ hs.2⟩
theorem ca_ne {w : List Int} (hw : IsC c w) {n : Nat} (hn : n < (T c).length) : ca c n w ≠ cb c n w := bs_disj hv.ok hn (comes_bs hv hw hn).1 (comes_bs hv hw hn).2
omit hv in
theorem uR_up {w : List Int} {n : Nat} {o : Int} (hne : ca c n w ≠ cb c n w) (hsw : sw c n w = -1 ∨ 0 ≤ sw c n w) (h : (w.getD n 0 = ca c n w ∧ o = cb c n w) ∨ (w.getD n 0 = cb c n w ∧ o = ca c n w)) : uR c w n = up (sw c n w) (w.getD n 0) o := by
 unfold uR up
 by_cases q : sw c n w = -1
 ·rcases h with ⟨h1, h2⟩ | ⟨h1, h2⟩
  ·by_cases q2 : o < w.getD n 0
   ·rw [if_pos ⟨by omega, by omega⟩, if_pos ⟨q, q2⟩]
   ·rw [if_neg (fun h => by omega), if_neg (fun h => q2 h.2)]
  ·by_cases q2 : o < w.getD n 0
   ·rw [if_pos ⟨by omega, by omega⟩, if_pos ⟨q, q2⟩]
   ·rw [if_neg (fun h => by omega), if_neg (fun h => q2 h.2)]
 ·rw [if_neg (fun h => by omega), if_neg (fun h => q h.1)]
theorem sw_mem {n : Nat} {w : List Int} : sw c n w = -1 ∨ (0 ≤ sw c n w ∧ (sw c n w = ca c n w ∨ sw c n w = cb c n w)) := sett_mem hv _ _
theorem course_le {m : BM} (hg : GB c (T c).length m) {w : List Int} (hw : IsC c w) {C : Nat → Int} (hC : ∀ n, n < (T c).length → C n = Cs C (fs (T c) n) + Cs C (sn (T c) n) + uR c w n) :
  ∀ n, n < (T c).length → ∃ x, cst m n (w.getD n 0) = some x ∧ x ≤ C n := by
 intro n
 induction n using Nat.strongRecOn with
 | ind n ih =>
  intro hn
  have ht := hv.ok
  have hs := ht.side n hn
  have side : ∀ s, sok c.fPlayers.toNat n s → ∃ e ∈ frm c m s, e.1 = comes s w ∧ e.2 ≤ Cs C s := by
   intro s hs
   unfold comes Cs frm
   rcases hs with ⟨h1, _, _⟩ | ⟨_, h2, h3⟩
   ·rw [if_pos h1, if_pos (by omega), if_pos (by omega)]
    exact ⟨_, List.mem_singleton.2 rfl, rfl, Int.le_refl _⟩
   ·rw [if_neg (by omega), if_neg (by omega), if_neg (by omega)]
    obtain ⟨x, hx, hl⟩ := ih s.fMatch.toNat (by omega) (by omega)
    unfold cst at hx
    rw [show ((s.fMatch.toNat : Nat) : Int) = s.fMatch from by omega, Option.map_eq_some_iff] at hx
    obtain ⟨y, hy, rfl⟩ := hx
    have hb := hg.bd _ _ _ hy
    refine ⟨(w.getD s.fMatch.toNat 0, y.fUpsets), mem_frl.2 ⟨hb.1, by show _ < _; omega, y, hy, rfl⟩, rfl, hl⟩
  obtain ⟨e, he, e1, e2⟩ := side _ hs.1
  obtain ⟨f, hf, f1, f2⟩ := side _ hs.2
  have hp := hw.ok n hn
  have hne := ca_ne hv hw hn
  have hsm := sw_mem hv (n := n) (w := w)
  have es : sett c n e.1 f.1 = sw c n w := by rw [e1, f1]; rfl
  have : ∃ o, cand c n e f (w.getD n 0) (e.2 + f.2 + uR c w n) o := by
   rcases hp.1 with h | h
   ·refine ⟨cb c n w, .inl ⟨by rw [h, e1]; rfl, by rw [f1]; rfl⟩, ?_, ?_⟩
    ·rw [es]; rcases hp.2 with q | q
     ·exact .inl (by omega)
     ·exact .inr q
    ·rw [es, uR_up hne (by omega) (.inl ⟨h, rfl⟩)]
   ·refine ⟨ca c n w, .inr ⟨by rw [h, f1]; rfl, by rw [e1]; rfl⟩, ?_, ?_⟩
    ·rw [es]; rcases hp.2 with q | q
     ·exact .inl (by omega)
     ·exact .inr q
    ·rw [es, uR_up hne (by omega) (.inr ⟨h, rfl⟩)]
  obtain ⟨o, hc⟩ := this
  obtain ⟨y, hy, hl⟩ := (hg.row n hn).compl _ _ _ ⟨e, he, f, hf, hc⟩
  refine ⟨y.fUpsets, by unfold cst; rw [hy]; rfl, ?_⟩
  rw [hC n hn]; omega
end
end Go.Proofs.YtignpdbcgjllkaaGreat.L
set_option linter.all false
namespace Go.Proofs.YtignpdbcgjllkaaGreat.L
open Go.Kp
def extv (c : Ref09Cup) (t : Nat → Option Int) (k : Nat) (w : List Int) : Int := match t k with
 | some p => p
 | none => if sw c k w = -1 then ca c k w else sw c k w
def ext (c : Ref09Cup) (t : Nat → Option Int) : Nat → List Int
 | 0 => []
 | k + 1 => ext c t k ++ [extv c t k (ext c t k)]
theorem ext_len (c t) : ∀ k, (ext c t k).length = k
 | 0 => rfl
 | k + 1 => by rw [ext, List.length_append, ext_len c t k]; rfl
theorem ext_get {c t} {i : Nat} : ∀ {k : Nat}, i < k → (ext c t k).getD i 0 = extv c t i (ext c t i)
 | 0, h => absurd h (Nat.not_lt_zero i)
 | k + 1, h => by
  rw [ext]
  rcases Nat.lt_or_ge i k with q | q
  ·rw [getD_append_lt (by rw [ext_len]; exact q), ext_get q]
  ·have : i = k := by omega
   subst this
   have := getD_snoc (w := ext c t i) (x := extv c t i (ext c t i))
   rwa [ext_len] at this
theorem ext_ok {c : Ref09Cup} (hv : Val c) (t : Nat → Option Int) (H : ∀ n, n < (T c).length → ∀ w, (∀ k, k < n → ∀ q, t k = some q → w.getD k 0 = q) → ∀ p, t n = some p → poss c n w p) :
  IsC c (ext c t (T c).length) ∧ ∀ n, n < (T c).length → ∀ p, t n = some p → (ext c t (T c).length).getD n 0 = p := by
 have ht := hv.ok
 have e1 : ∀ n, n < (T c).length → ∀ p, t n = some p → (ext c t (T c).length).getD n 0 = p := by
  intro n hn p hp
  rw [ext_get hn, extv, hp]
 refine ⟨⟨ext_len _ _ _, fun n hn => ?_⟩, e1⟩
 have hs := ht.side n hn
 have hlow : ∀ k, k < n → (ext c t (T c).length).getD k 0 = (ext c t n).getD k 0 := fun k hk => by rw [ext_get (by omega), ext_get hk]
 rw [poss_congr hs hlow, ext_get hn]
 unfold extv
 cases h : t n with
 | some p =>
  refine H n hn _ (fun k hk q hq => ?_) p h
  rw [← hlow k hk]; exact e1 k (by omega) q hq
 | none =>
  simp only
  have hsm := sw_mem hv (n := n) (w := ext c t n)
  by_cases q : sw c n (ext c t n) = -1
  ·rw [if_pos q]; exact ⟨.inl rfl, .inl (by omega)⟩
  ·rw [if_neg q]
   exact ⟨by omega, .inr rfl⟩
theorem ex_act {c : Ref09Cup} (hv : Val c) : ∃ w, IsC c w ∧ ∀ n : Nat, n < (T c).length → won c (n : Int) ≠ -1 → w.getD n 0 = won c (n : Int) := by
 have ht := hv.ok
 obtain ⟨h1, h2⟩ := ext_ok hv (fun n => if won c (n : Int) ≠ -1 then some (won c (n : Int)) else none) (by
  intro n hn w hw p hp
  have hs := ht.side n hn
  by_cases q : won c (n : Int) = -1
  ·rw [if_neg (by simpa using q)] at hp; cases hp
  rw [if_pos q] at hp
  cases hp
  have hres : ∃ r, res c (n : Int) = some r := by
   cases e : res c (n : Int) with
   | none => unfold won at q; rw [e] at q; simp at q
   | some r => exact ⟨r, rfl⟩
  obtain ⟨r, hr⟩ := hres
  obtain ⟨ha, hb, hl⟩ := hv.res n hr
  have side : ∀ s, sok c.fPlayers.toNat n s → 0 ≤ known c s → comes s w = known c s := by
   intro s hs hk
   unfold comes known at *
   rcases hs with ⟨h1, _, _⟩ | ⟨_, h2, h3⟩
   ·rw [if_pos (by omega), if_pos (by omega)]
   ·rw [if_neg (by omega)] at hk ⊢
    rw [if_neg (by omega)]
    refine hw s.fMatch.toNat (by omega) _ ?_
    rw [show ((s.fMatch.toNat : Nat) : Int) = s.fMatch from by omega, if_pos (by omega)]
  have ea : ca c n w = known c (fs (T c) n) := side _ hs.1 ha
  have eb : cb c n w = known c (sn (T c) n) := side _ hs.2 hb
  have hw2 : won c (n : Int) = known c (fs (T c) n) ∨ won c (n : Int) = known c (sn (T c) n) := by
   unfold won at q ⊢
   rw [hr] at q ⊢
   simp only at q ⊢
   rcases find_dec (G := c.fGames) (l := r.fGames) with ⟨x, _, hx, _, hd⟩ | ⟨_, hd⟩
   ·rw [hd]; exact (lg_iff.1 hl).1 x hx
   ·exact absurd hd q
  refine ⟨by rw [ea, eb]; exact hw2, ?_⟩
  unfold sw sett
  by_cases q2 : ply c n = ⟨ca c n w, cb c n w⟩ ∧ prot c n = false
  ·rw [if_pos q2]; exact .inr rfl
  ·rw [if_neg q2]; exact .inl (by omega))
 refine ⟨_, h1, fun n hn hw => h2 n hn _ ?_⟩
 show (if won c (n : Int) ≠ -1 then some (won c (n : Int)) else none) = _
 rw [if_pos hw]
theorem par_spec {T : Tr} {j n : Nat} {b : Bool} (h : par T j = some (n, b)) : n < T.length ∧ ((b = true ∧ (fs T n).fMatch = j) ∨ (b = false ∧ (sn T n).fMatch = j)) := by
 unfold par at h
 obtain ⟨k, hk, h⟩ := List.exists_of_findSome?_eq_some h
 have hk := List.mem_range.1 hk
 by_cases h1 : (fs T k).fMatch = j
 ·rw [if_pos h1] at h; cases h; exact ⟨hk, .inl ⟨rfl, h1⟩⟩
 ·rw [if_neg h1] at h
  by_cases h2 : (sn T k).fMatch = j
  ·rw [if_pos h2] at h; cases h; exact ⟨hk, .inr ⟨rfl, h2⟩⟩
  ·rw [if_neg h2] at h; cases h
theorem par_lt {T : Tr} {P j n : Nat} {b : Bool} (ht : TOK T P) (h : par T j = some (n, b)) : j < n ∧ n < T.length := by
 obtain ⟨h1, h2⟩ := par_spec h
 have hs := ht.side n h1
 unfold sok at hs
 rcases h2 with ⟨_, h2⟩ | ⟨_, h2⟩ <;> omega
def Ok (c : Ref09Cup) (m : BM) (n : Nat) (p : Int) (ef : (Int × Int) × (Int × Int)) : Prop :=
 ef.1 ∈ frm c m (fs (T c) n) ∧ ef.2 ∈ frm c m (sn (T c) n) ∧ ∃ x o, cst m n p = some x ∧ cand c n ef.1 ef.2 p x o
open Classical in
noncomputable def sp (c : Ref09Cup) (m : BM) (n : Nat) (p : Int) : (Int × Int) × (Int × Int) := if h : ∃ ef, Ok c m n p ef then h.choose else ((0, 0), (0, 0))
theorem sp_ok {c : Ref09Cup} {m : BM} (hg : GB c (T c).length m) {n : Nat} {p x : Int} (hn : n < (T c).length) (hx : cst m n p = some x) : Ok c m n p (sp c m n p) := by
 have hex : ∃ ef, Ok c m n p ef := by
  have hx2 := hx
  unfold cst at hx2
  rw [Option.map_eq_some_iff] at hx2
  obtain ⟨y, hy, rfl⟩ := hx2
  obtain ⟨e, he, f, hf, hc⟩ := (hg.row n hn).sound p y hy
  exact ⟨(e, f), he, hf, _, _, hx, hc⟩
 unfold sp
 rw [dif_pos hex]
 exact hex.choose_spec
noncomputable def tgt (c : Ref09Cup) (m : BM) (n0 : Nat) (p0 : Int) : Nat → Nat → Option Int
 | 0, _ => none
 | k + 1, j => if j = n0 then some p0 else match par (T c) j with
  | none => none
  | some (n, b) => (tgt c m n0 p0 k n).map fun p => if b then (sp c m n p).1.1 else (sp c m n p).2.1
noncomputable def tg (c : Ref09Cup) (m : BM) (n0 : Nat) (p0 : Int) (j : Nat) : Option Int := tgt c m n0 p0 (T c).length j
section
variable {c : Ref09Cup} (hv : Val c) {m : BM} {n0 : Nat} {p0 : Int}
include hv
theorem tgt_stable : ∀ (k j : Nat), j < (T c).length → (T c).length - j ≤ k → tgt c m n0 p0 k j = tgt c m n0 p0 (k + 1) j
 | 0, j, h1, h2 => by omega
 | k + 1, j, h1, h2 => by
  rw [tgt]
  conv => rhs; rw [tgt]
  by_cases q : j = n0
  ·rw [if_pos q, if_pos q]
  ·rw [if_neg q, if_neg q]
   cases e : par (T c) j with
   | none => rfl
   | some nb =>
    obtain ⟨n, b⟩ := nb
    have := par_lt hv.ok e
    simp only
    rw [tgt_stable k n this.2 (by omega)]
theorem tg_eq {j : Nat} (hj : j < (T c).length) : tg c m n0 p0 j = if j = n0 then some p0 else match par (T c) j with
  | none => none
  | some (n, b) => (tg c m n0 p0 n).map fun p => if b then (sp c m n p).1.1 else (sp c m n p).2.1 := by
 obtain ⟨l, hl⟩ : ∃ l, (T c).length = l + 1 := ⟨(T c).length - 1, by omega⟩
 unfold tg
 rw [hl]
 conv => lhs; rw [tgt]
 by_cases q : j = n0
 ·rw [if_pos q, if_pos q]
 ·rw [if_neg q, if_neg q]
  cases e : par (T c) j with
  | none => rfl
  | some nb =>
   obtain ⟨n, b⟩ := nb
   have := par_lt hv.ok e
   simp only
   rw [tgt_stable hv l n this.2 (by omega)]
theorem tg_le : ∀ (d j : Nat) {p : Int}, (T c).length - j ≤ d → j < (T c).length → tg c m n0 p0 j = some p → j ≤ n0 := by
 intro d
 induction d with
 | zero => intro j p h1 h2; omega
 | succ d ih =>
  intro j p h1 h2 h
  rw [tg_eq hv h2] at h
  by_cases q : j = n0
  ·omega
  ·rw [if_neg q] at h
   cases e : par (T c) j with
   | none => rw [e] at h; cases h
   | some nb =>
    obtain ⟨n, b⟩ := nb
    have hp := par_lt hv.ok e
    rw [e] at h
    simp only [Option.map_eq_some_iff] at h
    obtain ⟨p', hp', _⟩ := h
    have := ih n (by omega) hp.2 hp'
    omega
theorem tg_cst (hg : GB c (T c).length m) {x0 : Int} (h0 : cst m n0 p0 = some x0) : ∀ (d j : Nat) {p : Int}, (T c).length - j ≤ d → j < (T c).length → tg c m n0 p0 j = some p → ∃ x, cst m j p = some x := by
 intro d
 induction d with
 | zero => intro j p h1 h2; omega
 | succ d ih =>
  intro j p h1 h2 h
  rw [tg_eq hv h2] at h
  by_cases q : j = n0
  ·rw [if_pos q] at h; cases h; subst q; exact ⟨x0, h0⟩
  ·rw [if_neg q] at h
   cases e : par (T c) j with
   | none => rw [e] at h; cases h
   | some nb =>
    obtain ⟨n, b⟩ := nb
    have hp := par_lt hv.ok e
    rw [e] at h
    simp only [Option.map_eq_some_iff] at h
    obtain ⟨p', hp', hpp⟩ := h
    obtain ⟨x', hx'⟩ := ih n (by omega) hp.2 hp'
    obtain ⟨he, hf, _⟩ := sp_ok hg hp.2 hx'
    rcases (par_spec e).2 with ⟨rfl, hm⟩ | ⟨rfl, hm⟩
    ·simp only [if_true] at hpp
     subst hpp
     unfold frm at he
     rw [hm, if_neg (by omega), mem_frl] at he
     obtain ⟨_, _, y, hy, _⟩ := he
     exact ⟨y.fUpsets, by unfold cst; rw [hy]; rfl⟩
    ·simp only [Bool.false_eq_true, if_false] at hpp
     subst hpp
     unfold frm at hf
     rw [hm, if_neg (by omega), mem_frl] at hf
     obtain ⟨_, _, y, hy, _⟩ := hf
     exact ⟨y.fUpsets, by unfold cst; rw [hy]; rfl⟩
theorem realize (hg : GB c (T c).length m) (hn0 : n0 < (T c).length) {x0 : Int} (h0 : cst m n0 p0 = some x0) :
  ∃ w, IsC c w ∧ w.getD n0 0 = p0 ∧ ∀ C : Nat → Int, (∀ n, n < (T c).length → C n = Cs C (fs (T c) n) + Cs C (sn (T c) n) + uR c w n) → C n0 = x0 := by
 have ht := hv.ok
 have hcst : ∀ n, n < (T c).length → ∀ p, tg c m n0 p0 n = some p → ∃ x, cst m n p = some x := fun n hn p h => tg_cst hv hg h0 _ n (Nat.le_refl _) hn h
 have kid : ∀ n, n < (T c).length → ∀ p, tg c m n0 p0 n = some p → (0 ≤ (fs (T c) n).fMatch → tg c m n0 p0 (fs (T c) n).fMatch.toNat = some (sp c m n p).1.1) ∧ (0 ≤ (sn (T c) n).fMatch → tg c m n0 p0 (sn (T c) n).fMatch.toNat = some (sp c m n p).2.1) := by
  intro n hn p hp
  have hle := tg_le hv _ n (Nat.le_refl _) hn hp
  have hs := ht.side n hn
  unfold sok at hs
  refine ⟨fun h => ?_, fun h => ?_⟩
  ·rw [tg_eq hv (by omega), if_neg (by omega), (ht.par n hn).1 h]
   simp [hp]
  ·rw [tg_eq hv (by omega), if_neg (by omega), (ht.par n hn).2 h]
   simp [hp]
 -- the sides' players
 have side : ∀ (s : Ref09Side) (n : Nat) (e : Int × Int) (w : List Int), sok c.fPlayers.toNat n s → e ∈ frm c m s → (0 ≤ s.fMatch → w.getD s.fMatch.toNat 0 = e.1) → comes s w = e.1 := by
  intro s n e w hs he hw
  unfold comes
  unfold frm at he
  rcases hs with ⟨h1, _, _⟩ | ⟨_, h2, h3⟩
  ·rw [if_pos h1, List.mem_singleton] at he
   rw [if_pos (by omega), he]
  ·rw [if_neg (by omega)]; exact hw h2
 obtain ⟨h1, h2⟩ := ext_ok hv (tg c m n0 p0) (by
  intro n hn w hw p hp
  have hs := ht.side n hn
  obtain ⟨x, hx⟩ := hcst n hn p hp
  obtain ⟨he, hf, x', o, _, hc⟩ := sp_ok hg hn hx
  obtain ⟨k1, k2⟩ := kid n hn p hp
  have hs' := hs
  unfold sok at hs'
  have ea : ca c n w = (sp c m n p).1.1 := side _ n _ w hs.1 he fun h => hw _ (by omega) _ (k1 h)
  have eb : cb c n w = (sp c m n p).2.1 := side _ n _ w hs.2 hf fun h => hw _ (by omega) _ (k2 h)
  refine ⟨?_, ?_⟩
  ·rw [ea, eb]; rcases hc.1 with ⟨h, _⟩ | ⟨h, _⟩
   ·exact .inl h
   ·exact .inr h
  ·unfold sw; rw [ea, eb]; rcases hc.2.1 with h | h
   ·exact .inl (by omega)
   ·exact .inr h)
 refine ⟨_, h1, h2 n0 hn0 p0 (by rw [tg_eq hv hn0, if_pos rfl]), fun C hC => ?_⟩
 have key : ∀ n, n < (T c).length → ∀ p, tg c m n0 p0 n = some p → cst m n p = some (C n) := by
  intro n
  induction n using Nat.strongRecOn with
  | ind n ih =>
   intro hn p hp
   have hs := ht.side n hn
   have hs' := hs
   unfold sok at hs'
   obtain ⟨x, hx⟩ := hcst n hn p hp
   obtain ⟨he, hf, x', o, hx', hc⟩ := sp_ok hg hn hx
   obtain ⟨k1, k2⟩ := kid n hn p hp
   have ea : ca c n (ext c (tg c m n0 p0) (T c).length) = (sp c m n p).1.1 := side _ n _ _ hs.1 he fun h => h2 _ (by omega) _ (k1 h)
   have eb : cb c n (ext c (tg c m n0 p0) (T c).length) = (sp c m n p).2.1 := side _ n _ _ hs.2 hf fun h => h2 _ (by omega) _ (k2 h)
   have cost : ∀ (s : Ref09Side) (e : Int × Int), sok c.fPlayers.toNat n s → e ∈ frm c m s → (0 ≤ s.fMatch → tg c m n0 p0 s.fMatch.toNat = some e.1) → e.2 = Cs C s := by
    intro s e hs he hk
    unfold Cs
    unfold frm at he
    rcases hs with ⟨h1, _, _⟩ | ⟨_, q2, q3⟩
    ·rw [if_pos h1, List.mem_singleton] at he
     rw [if_pos (by omega), he]
    ·rw [if_neg (by omega), mem_frl] at he
     rw [if_neg (by omega)]
     obtain ⟨_, _, y, hy, he2⟩ := he
     have := ih s.fMatch.toNat (by omega) (by omega) e.1 (hk q2)
     unfold cst at this
     rw [show ((s.fMatch.toNat : Nat) : Int) = s.fMatch from by omega, hy] at this
     simp only [Option.map_some, Option.some.injEq] at this
     omega
   have c1 := cost _ _ hs.1 he k1
   have c2 := cost _ _ hs.2 hf k2
   have hwn := h2 n hn p hp
   have hne := ca_ne hv h1 hn
   have hsm := sw_mem hv (n := n) (w := ext c (tg c m n0 p0) (T c).length)
   have es : sett c n (sp c m n p).1.1 (sp c m n p).2.1 = sw c n (ext c (tg c m n0 p0) (T c).length) := by unfold sw; rw [ea, eb]
   have hu := uR_up (o := o) hne (by omega) (by
    rw [hwn, ea, eb]; exact hc.1)
   rw [hx', hC n hn, hu, hwn, ← es]
   have := hc.2.2
   congr 1
   omega
 have := key n0 hn0 p0 (by rw [tg_eq hv hn0, if_pos rfl])
 rw [h0] at this
 exact (Option.some.inj this).symm
end
theorem upR_last {c : Ref09Cup} (hv : Val c) {w : List Int} {C : Nat → Int} (hC : ∀ n, n < (T c).length → C n = Cs C (fs (T c) n) + Cs C (sn (T c) n) + uR c w n) : upR c w = C (lst c) := by
 have ff := hv.ff
 have hl := hv.len
 exact sum_C c hv.ok (by omega) _ _ hC
theorem course_up {c : Ref09Cup} (hv : Val c) {m : BM} (hg : GB c (T c).length m) {w : List Int} (hw : IsC c w) : ∃ x, cst m (lst c) (w.getD (lst c) 0) = some x ∧ x ≤ upR c w := by
 have ff := hv.ff
 have hl := hv.len
 obtain ⟨C, hC⟩ := ex_C c hv.ok (uR c w)
 obtain ⟨x, hx, hle⟩ := course_le hv hg hw hC (lst c) (by unfold lst; omega)
 exact ⟨x, hx, by rw [upR_last hv hC]; exact hle⟩
theorem ex_up {c : Ref09Cup} (hv : Val c) {m : BM} (hg : GB c (T c).length m) {p x : Int} (hx : cst m (lst c) p = some x) : ∃ w, IsC c w ∧ w.getD (lst c) 0 = p ∧ upR c w = x := by
 have ff := hv.ff
 have hl := hv.len
 obtain ⟨w, hw, hp, h⟩ := realize hv hg (n0 := lst c) (by unfold lst; omega) hx
 obtain ⟨C, hC⟩ := ex_C c hv.ok (uR c w)
 exact ⟨w, hw, hp, by rw [upR_last hv hC]; exact h C hC⟩
end Go.Proofs.YtignpdbcgjllkaaGreat.L
set_option linter.all false
namespace Go.Proofs.YtignpdbcgjllkaaGreat.L
open Go.Kp
def w1 : Ref09Cup := ⟨0, 5, 3, [⟨0, [4, 3, 4], false⟩, ⟨2, [1], false⟩]⟩
def w2 : Ref09Cup := ⟨0, 5, 3, [⟨0, [4, 3, 4], true⟩, ⟨1, [4, 4], false⟩]⟩
theorem cst_nn {c : Ref09Cup} {n : Nat} {m : BM} (hg : GB c n m) {k p x : Int} (h : cst m k p = some x) : 0 ≤ x ∧ 0 ≤ p ∧ p < c.fPlayers := by
 unfold cst at h
 rw [Option.map_eq_some_iff] at h
 obtain ⟨y, hy, rfl⟩ := h
 have := hg.bd _ _ _ hy
 omega
theorem len_one {α : Type} {l : List α} (hd : l.Nodup) {x : α} (hx : x ∈ l) : l.length = 1 ↔ ∀ y ∈ l, y = x := by
 cases l with
 | nil => cases hx
 | cons a l =>
  cases l with
  | nil =>
   simp only [List.length_singleton, List.mem_singleton] at hx ⊢
   exact ⟨fun _ y hy => by rw [hy, hx], fun _ => trivial⟩
  | cons b l =>
   constructor
   ·intro h; simp at h
   ·intro h
    have h1 := h a (by simp)
    have h2 := h b (by simp)
    rw [List.nodup_cons] at hd
    exact absurd (by rw [h1, ← h2]; simp) hd.1
section
variable {N : Nat} (hN : 4000 ≤ N)
include hN
end
end Go.Proofs.YtignpdbcgjllkaaGreat.L
set_option linter.all false
namespace Go.Proofs.YtignpdbcgjllkaaGreat.L
open Go.Kp
theorem mem_mays {c : Ref09Cup} {p : Int} : p ∈ mays c ↔ 0 ≤ p ∧ p < c.fPlayers ∧ (cst (bmap c) (lst c) p).isSome = true := by
 unfold mays mayl
 rw [List.mem_filterMap]
 constructor
 ·rintro ⟨n, hn, h⟩
  have := List.mem_range.1 hn
  split at h
  ·rename_i q; cases h; rw [isSome_cst] at q; exact ⟨by omega, by omega, q⟩
  ·cases h
 ·rintro ⟨h0, h1, h2⟩
  refine ⟨p.toNat, List.mem_range.2 (by omega), ?_⟩
  rw [show ((p.toNat : Nat) : Int) = p from by omega, isSome_cst, if_pos h2]
theorem mem_mays' {c : Ref09Cup} (hv : Val c) {p : Int} : p ∈ mays c ↔ (cst (bmap c) (lst c) p).isSome = true := by
 rw [mem_mays]
 constructor
 ·exact fun h => h.2.2
 ·intro h
  cases e : cst (bmap c) (lst c) p with
  | none => rw [e] at h; cases h
  | some x => have := cst_nn (bmap_good hv.ok) e; exact ⟨this.2.1, this.2.2, rfl⟩
theorem may_iff {c : Ref09Cup} (hv : Val c) {p : Int} : p ∈ mays c ↔ ∃ w, IsC c w ∧ w.getD (lst c) 0 = p := by
 rw [mem_mays' hv]
 constructor
 ·intro h
  cases e : cst (bmap c) (lst c) p with
  | none => rw [e] at h; cases h
  | some x => obtain ⟨w, h1, h2, _⟩ := ex_up hv (bmap_good hv.ok) e; exact ⟨w, h1, h2⟩
 ·rintro ⟨w, hw, rfl⟩
  obtain ⟨x, hx, _⟩ := course_up hv (bmap_good hv.ok) hw
  rw [hx]; rfl
theorem mays_pw (c : Ref09Cup) : (mays c).Pairwise (· < ·) := by
 unfold mays mayl
 refine List.Pairwise.filterMap (R := fun a b : Nat => a < b) (S := (· < ·)) _ ?_ List.pairwise_lt_range
 intro a a' hlt b hb b' hb'
 split at hb
 ·split at hb'
  ·cases hb; cases hb'; exact Int.ofNat_lt.2 hlt
  ·cases hb'
 ·cases hb
theorem mays_nodup (c : Ref09Cup) : (mays c).Nodup := (mays_pw c).imp fun h => by omega
section
variable {N : Nat} (hN : 4000 ≤ N)
include hN
end
end Go.Proofs.YtignpdbcgjllkaaGreat.L
set_option linter.all false
namespace Go.Proofs.YtignpdbcgjllkaaGreat.L
open Go.Kp
section
variable {N : Nat} (hN : 4000 ≤ N)
include hN
end
end Go.Proofs.YtignpdbcgjllkaaGreat.L
set_option linter.all false
namespace Go.Proofs.YtignpdbcgjllkaaGreat.L
open Go.Kp
structure Kin (c x : Ref09Cup) : Prop where
 t : decide (x.fForm = 1) = decide (c.fForm = 1)
 p : x.fPlayers = c.fPlayers
 won : ∀ m, won x m = won c m
theorem dup_iff : ∀ {l pre : List Ref09Result}, dup pre l = false ↔ (∀ r ∈ l, ∀ y ∈ pre, r.fMatch ≠ y.fMatch) ∧ l.Pairwise (fun a b => a.fMatch ≠ b.fMatch)
 | [], pre => by simp [dup]
 | x :: l, pre => by
  simp only [dup, Bool.or_eq_false_iff, List.any_eq_false, decide_eq_true_eq, dup_iff (l := l), List.pairwise_cons, List.mem_append, List.mem_singleton, List.mem_cons]
  constructor
  ·rintro ⟨h1, h2, h3⟩
   refine ⟨fun r hr y hy => ?_, fun r hr e => ?_, h3⟩
   ·rcases hr with rfl | hr
    ·exact h1 y hy
    ·exact h2 r hr y (.inl hy)
   ·exact h2 r hr x (.inr (.inl rfl)) e.symm
  ·rintro ⟨h1, h2, h3⟩
   refine ⟨fun y hy => h1 x (.inl rfl) y hy, fun r hr y hy => ?_, h3⟩
   rcases hy with hy | rfl | hy
   ·exact h1 r (.inr hr) y hy
   ·exact fun e => h2 r hr e.symm
   ·cases hy
end Go.Proofs.YtignpdbcgjllkaaGreat.L
set_option linter.all false
namespace Go.Proofs.YtignpdbcgjllkaaGreat.L
open Go.Kp
theorem nodup_le : ∀ (n : Nat) (l : List Int), l.Nodup → (∀ x ∈ l, 0 ≤ x ∧ x < (n : Int)) → l.length ≤ n
 | 0, l, _, h => by
  cases l with
  | nil => simp
  | cons x l => have := h x (by simp); omega
 | n + 1, l, hd, h => by
  by_cases hm : (n : Int) ∈ l
  ·have h2 := nodup_le n (l.erase (n : Int)) (hd.erase _) (fun x hx => by
    have hx1 := List.mem_of_mem_erase hx
    have hne : x ≠ (n : Int) := fun e => by subst e; exact (List.Nodup.not_mem_erase hd) hx
    have := h x hx1
    omega)
   rw [List.length_erase_of_mem hm] at h2
   omega
  ·have := nodup_le n l hd fun x hx => by
    have hne : x ≠ (n : Int) := fun e => hm (by rw [← e]; exact hx)
    have := h x hx
    omega
   omega
structure Upd (c x : Ref09Cup) (m : Nat) (p : Int) : Prop where
 hf : x.fForm = c.fForm
 hp : x.fPlayers = c.fPlayers
 hg : x.fGames = c.fGames
 len : x.fResults.length ≤ 15
 other : ∀ r ∈ x.fResults, r.fMatch ≠ (m : Int) → r ∈ c.fResults
 same : ∀ r ∈ x.fResults, r.fMatch = (m : Int) → r.fGames = gm c m ++ [p]
 res : ∀ k : Int, k ≠ m → res x k = res c k
 mine : ∃ r, Go.Proofs.YtignpdbcgjllkaaGreat.L.res x (m : Int) = some r ∧ r.fGames = gm c m ++ [p]
 dup : Go.Proofs.YtignpdbcgjllkaaGreat.L.dup [] x.fResults = false
theorem open_len {c : Ref09Cup} (hv : Val c) {m : Nat} (ho : won c (m : Int) = -1) : (gm c m).length ≤ 4 := by
 unfold gm
 unfold won at ho
 cases e : res c (m : Int) with
 | none => simp
 | some r =>
  rw [e] at ho
  simp only at ho ⊢
  have ff := hv.ff
  obtain ⟨ha, hb, hl⟩ := hv.res m e
  obtain ⟨h1, _⟩ := lg_iff.1 hl
  rcases find_dec (G := c.fGames) (l := r.fGames) with ⟨x, _, hx, _, hd⟩ | ⟨hn, _⟩
  ·exfalso
   rcases h1 x hx with rfl | rfl <;> omega
  ·-- each of both has at most half
   have ca : 2 * cnt (known c (fs (T c) m)) r.fGames ≤ c.fGames := by
    refine Int.not_lt.1 fun hlt => ?_
    exact hn _ (mem_of_cnt (by omega) hlt) hlt
   have cb : 2 * cnt (known c (sn (T c) m)) r.fGames ≤ c.fGames := by
    refine Int.not_lt.1 fun hlt => ?_
    exact hn _ (mem_of_cnt (by omega) hlt) hlt
   have tot : ∀ (l : List Int) (a b : Int), (∀ x ∈ l, x = a ∨ x = b) → (l.length : Int) ≤ cnt a l + cnt b l := by
    intro l a b
    induction l with
    | nil => intro _; simp [cnt]
    | cons y l ih =>
     intro h
     have := ih fun x hx => h x (by simp [hx])
     unfold cnt at *
     rw [List.count_cons, List.count_cons, List.length_cons]
     rcases h y (by simp) with rfl | rfl <;> simp <;> omega
   have := tot _ _ _ h1
   omega
theorem upd_val {c x : Ref09Cup} (hv : Val c) {m : Nat} {p : Int} (hm : m < (T c).length) (ho : opn c m = true) (hp : p = known c (fs (T c) m) ∨ p = known c (sn (T c) m)) (hu : Upd c x m p) : Val x := by
 have ff := hv.ff
 have hl := hv.len
 have hT : T x = T c := by unfold T; rw [hu.hf, hu.hp]
 simp only [opn, Bool.and_eq_true, decide_eq_true_eq] at ho
 have hgl := open_len hv ho.2.2
 have hwon : ∀ k : Int, k ≠ m → won x k = won c k := fun k hk => by unfold won; rw [hu.res k hk, hu.hg]
 have hkn : ∀ s, s.fMatch ≠ (m : Int) → known x s = known c s := fun s hs => by unfold known; rw [hwon _ hs]
 refine ⟨?_, ?_, ?_, hu.dup, ?_⟩
 ·unfold lims
  rw [Bool.and_eq_true, decide_eq_true_eq, List.all_eq_true]
  refine ⟨hu.len, fun r hr => decide_eq_true ?_⟩
  by_cases e : r.fMatch = (m : Int)
  ·rw [hu.same r hr e]; simp; omega
  ·have h := hv.lim
   simp only [lims, Bool.and_eq_true, List.all_eq_true, decide_eq_true_eq] at h
   exact h.2 r (hu.other r hr e)
 ·have := hv.form; unfold form at *; rw [hu.hf, hu.hp, hu.hg]; exact this
 ·unfold rght
  rw [List.all_eq_true]
  intro r hr
  unfold rghtR
  rw [hu.hp]
  by_cases e : r.fMatch = (m : Int)
  ·rw [hu.same r hr e, e, Bool.and_eq_true, inr_iff]
   exact ⟨by omega, by simp⟩
  ·exact List.all_eq_true.1 hv.rght r (hu.other r hr e)
 ·unfold lawf
  rw [List.all_eq_true]
  intro r hr
  rw [hT]
  by_cases e : r.fMatch = (m : Int)
  ·have hs := hv.ok.side m hm
   have h1 : (fs (T c) m).fMatch ≠ (m : Int) := by have := hs.1; unfold sok at this; omega
   have h2 : (sn (T c) m).fMatch ≠ (m : Int) := by have := hs.2; unfold sok at this; omega
   have hk := hv.known hm
   unfold lawful
   rw [e, Int.toNat_natCast, hkn _ h1, hkn _ h2, hu.hg, hu.same r hr e]
   simp only [Bool.and_eq_true, decide_eq_true_eq]
   refine ⟨by omega, by omega, lg_iff.2 ⟨fun y hy => ?_, fun k hk' => ?_⟩⟩
   ·rcases List.mem_append.1 hy with hy | hy
    ·unfold gm at hy
     cases er : res c (m : Int) with
     | none => rw [er] at hy; cases hy
     | some q => rw [er] at hy; exact (lg_iff.1 (hv.res m er).2.2).1 y hy
    ·rw [List.mem_singleton.1 hy]; exact hp
   ·simp only [List.nil_append]
    have hkl : k ≤ (gm c m).length := by simp at hk'; omega
    rw [List.take_append_of_le_length hkl]
    unfold gm at *
    cases er : res c (m : Int) with
    | none => simp [dec]
    | some q =>
     rw [er] at hkl
     simp only at hkl ⊢
     rcases Nat.lt_or_ge k q.fGames.length with hh | hh
     ·have := (lg_iff.1 (hv.res m er).2.2).2 k hh; simpa using this
     ·rw [List.take_of_length_le hh]
      have := ho.2.2; unfold won at this; rw [er] at this; simp only at this; omega
  ·have hrc := hu.other r hr e
   have hq := List.all_eq_true.1 hv.rght r hrc
   simp only [rghtR, Bool.and_eq_true, inr_iff] at hq
   have hlw := List.all_eq_true.1 hv.law r hrc
   unfold lawful at *
   simp only [Bool.and_eq_true, decide_eq_true_eq] at hlw
   have side : ∀ s, 0 ≤ known c s → known x s = known c s := by
    intro s h0
    by_cases es : s.fMatch = (m : Int)
    ·exfalso
     unfold known at h0
     rw [if_neg (by omega), es] at h0
     omega
    ·exact hkn s es
   rw [side _ hlw.1, side _ hlw.2.1, hu.hg]
   simp only [Bool.and_eq_true, decide_eq_true_eq]
   exact hlw
theorem upd_new {c : Ref09Cup} (hv : Val c) {m : Nat} {p : Int} (hm : m < (T c).length) (hr : res c (m : Int) = none) : Upd c ⟨c.fForm, c.fPlayers, c.fGames, c.fResults ++ [⟨(m : Int), [p], false⟩]⟩ m p := by
 have ff := hv.ff
 have hl := hv.len
 have hg : gm c m = [] := by unfold gm; rw [hr]
 have hno : ∀ q ∈ c.fResults, q.fMatch ≠ (m : Int) := fun q hq => by
  unfold res at hr; rw [List.find?_eq_none] at hr; have := hr q hq; simpa using this
 have hd := hv.dup
 rw [dup_iff] at hd
 have hdup : dup [] (c.fResults ++ [⟨(m : Int), [p], false⟩]) = false := by
  rw [dup_iff]
  refine ⟨fun r _ y hy => absurd hy (List.not_mem_nil), ?_⟩
  rw [List.pairwise_append]
  refine ⟨hd.2, List.pairwise_singleton _ _, fun a ha b hb => ?_⟩
  rw [List.mem_singleton.1 hb]; exact hno a ha
 have hnd : (c.fResults.map (·.fMatch)).Nodup := by
  unfold List.Nodup; rw [List.pairwise_map]; exact hd.2
 have hlen : (((m : Int) :: c.fResults.map (·.fMatch))).length ≤ (T c).length := by
  refine nodup_le _ _ (List.nodup_cons.2 ⟨fun h => ?_, hnd⟩) fun x hx => ?_
  ·obtain ⟨q, hq, e⟩ := List.mem_map.1 h; exact hno q hq e
  ·rcases List.mem_cons.1 hx with rfl | hx
   ·omega
   ·obtain ⟨q, hq, rfl⟩ := List.mem_map.1 hx
    have := List.all_eq_true.1 hv.rght q hq
    simp only [rghtR, Bool.and_eq_true, inr_iff] at this
    omega
 simp only [List.length_cons, List.length_map] at hlen
 refine ⟨rfl, rfl, rfl, by simp; omega, fun q hq hne => ?_, fun q hq he => ?_, fun k hk => ?_, ⟨⟨(m : Int), [p], false⟩, ?_, by rw [hg]; rfl⟩, hdup⟩
 ·rcases List.mem_append.1 hq with h | h
  ·exact h
  ·rw [List.mem_singleton.1 h] at hne; exact absurd rfl hne
 ·rcases List.mem_append.1 hq with h | h
  ·exact absurd he (hno q h)
  ·rw [List.mem_singleton.1 h, hg]; rfl
 ·unfold res
  rw [List.find?_append]
  cases e : c.fResults.find? (fun r => decide (r.fMatch = k)) with
  | some q => rfl
  | none =>
   have : ¬ (m : Int) = k := fun e' => hk e'.symm
   simp [this]
 ·have := res_of_mem (c := ⟨c.fForm, c.fPlayers, c.fGames, c.fResults ++ [⟨(m : Int), [p], false⟩]⟩) hdup (r := ⟨(m : Int), [p], false⟩) (by simp)
  exact this
end Go.Proofs.YtignpdbcgjllkaaGreat.L
set_option linter.all false
namespace Go.Proofs.YtignpdbcgjllkaaGreat.L
open Go.Kp
theorem ex_par {c : Ref09Cup} (hv : Val c) {m : Nat} (hm : m + 1 < (T c).length) : ∃ n, m < n ∧ n < (T c).length ∧ ((fs (T c) n).fMatch = m ∨ (sn (T c) n).fMatch = m) := by
 have ht := hv.ok
 have hp : (kids (T c)).Perm (List.range ((T c).length - 1)) := List.isPerm_iff.1 ht.kids
 have hk : m ∈ kids (T c) := hp.mem_iff.2 (List.mem_range.2 (by omega))
 unfold kids at hk
 obtain ⟨p, hpT, hmm⟩ := List.mem_flatMap.1 hk
 obtain ⟨n, hn⟩ := List.mem_iff_getElem?.1 hpT
 have hlt := len_lt hn
 have hg := getT hlt
 rw [hn] at hg
 have e : p = (T c).getD n dP := Option.some.inj hg
 have e1 : p.fFirst = fs (T c) n := by rw [e]; rfl
 have e2 : p.fSecond = sn (T c) n := by rw [e]; rfl
 rw [e1, e2] at hmm
 have hs := ht.side n hlt
 unfold sok at hs
 have hms : ∀ s, m ∈ ms s → s.fMatch = (m : Int) := by
  intro s h
  unfold ms at h
  split at h
  ·cases h
  ·have := List.mem_singleton.1 h; omega
 rcases List.mem_append.1 hmm with h | h
 ·have := hms _ h; exact ⟨n, by omega, hlt, .inl this⟩
 ·have := hms _ h; exact ⟨n, by omega, hlt, .inr this⟩
theorem won_res {c : Ref09Cup} (hv : Val c) {n : Nat} (h : won c (n : Int) ≠ -1) : 0 ≤ known c (fs (T c) n) ∧ 0 ≤ known c (sn (T c) n) := by
 have hres : ∃ r, res c (n : Int) = some r := by
  cases e : res c (n : Int) with
  | none => unfold won at h; rw [e] at h; simp at h
  | some r => exact ⟨r, rfl⟩
 obtain ⟨r, hr⟩ := hres
 obtain ⟨ha, hb, _⟩ := hv.res n hr
 exact ⟨ha, hb⟩
theorem all_won {c : Ref09Cup} (hv : Val c) (h : won c (lst c : Int) ≠ -1) : ∀ (d m : Nat), (T c).length - m ≤ d → m < (T c).length → won c (m : Int) ≠ -1 := by
 intro d
 induction d with
 | zero => intro m h1 h2; omega
 | succ d ih =>
  intro m h1 h2
  rcases Nat.lt_or_ge (m + 1) (T c).length with hh | hh
  ·obtain ⟨n, hn1, hn2, hn3⟩ := ex_par hv hh
   have hw := won_res hv (ih n (by omega) hn2)
   unfold known at hw
   rcases hn3 with e | e
   ·rw [e, if_neg (by omega)] at hw; omega
   ·rw [e, if_neg (show ¬ ((m : Int) < 0) from by omega)] at hw; omega
  ·have : m = lst c := by unfold lst; omega
   subst this; exact h
theorem next_nil {c : Ref09Cup} (hv : Val c) : nexts c = [] ↔ won c (lst c : Int) ≠ -1 := by
 have ff := hv.ff
 have hl := hv.len
 unfold nexts nextl
 rw [List.filterMap_eq_nil_iff]
 constructor
 ·intro h hw
  -- the first that is not decided
  have : ∃ n, n < (T c).length ∧ won c (n : Int) = -1 ∧ ∀ k, k < n → won c (k : Int) ≠ -1 := by
   have key : ∀ n, n < (T c).length → won c (n : Int) = -1 → ∃ m, m < (T c).length ∧ won c (m : Int) = -1 ∧ ∀ k, k < m → won c (k : Int) ≠ -1 := by
    intro n
    induction n using Nat.strongRecOn with
    | ind n ih =>
     intro hn hw
     by_cases hex : ∃ k, k < n ∧ won c (k : Int) = -1
     ·obtain ⟨k, hk, hkw⟩ := hex
      exact ih k hk (by omega) hkw
     ·exact ⟨n, hn, hw, fun k hk e => hex ⟨k, hk, e⟩⟩
   exact key (lst c) (by unfold lst; omega) hw
  obtain ⟨n, hn, hwn, hk⟩ := this
  have hs := hv.ok.side n hn
  have side : ∀ s, sok c.fPlayers.toNat n s → known c s ≠ -1 := by
   intro s hs
   unfold known
   rcases hs with ⟨h1, h2, _⟩ | ⟨_, h2, h3⟩
   ·rw [if_pos (by omega)]; omega
   ·rw [if_neg (by omega)]
    have := hk s.fMatch.toNat (by omega)
    rwa [show ((s.fMatch.toNat : Nat) : Int) = s.fMatch from by omega] at this
  have := h n (List.mem_range.2 hn)
  have ho : opn c n = true := by unfold opn; simp [side _ hs.1, side _ hs.2, hwn]
  rw [if_pos ho] at this
  cases this
 ·intro h n hn
  have := all_won hv h _ n (Nat.le_refl _) (List.mem_range.1 hn)
  rw [if_neg]
  unfold opn
  simp [this]
theorem mem_next {c : Ref09Cup} {x : LadderMatch} (h : x ∈ nexts c) : ∃ n : Nat, n < (T c).length ∧ opn c n = true ∧ x = ⟨(n : Int), known c (fs (T c) n), known c (sn (T c) n), cnt (known c (fs (T c) n)) (gm c n), cnt (known c (sn (T c) n)) (gm c n)⟩ := by
 unfold nexts nextl at h
 obtain ⟨n, hn, h⟩ := List.mem_filterMap.1 h
 split at h
 ·rename_i ho; exact ⟨n, List.mem_range.1 hn, ho, (Option.some.inj h).symm⟩
 ·cases h
end Go.Proofs.YtignpdbcgjllkaaGreat.L
set_option linter.all false
namespace Go.Proofs.YtignpdbcgjllkaaGreat.L
open Go.Kp
def sbA (acc : List (List Nat)) (s : Ref09Side) : List Nat := if s.fMatch < 0 then [] else acc.getD s.fMatch.toNat []
def subT (T : Tr) : List (List Nat) := T.foldl (fun acc p => acc ++ [acc.length :: (sbA acc p.fFirst ++ sbA acc p.fSecond)]) []
def sub (T : Tr) (n : Nat) : List Nat := (subT T).getD n []
def sbs (T : Tr) (s : Ref09Side) : List Nat := if s.fMatch < 0 then [] else sub T s.fMatch.toNat
structure SOK (T : Tr) : Prop where
 eq : ∀ n, n < T.length → sub T n = n :: (sbs T (fs T n) ++ sbs T (sn T n))
 nodup : ∀ n, n < T.length → (sub T n).Nodup
 lt : ∀ n, n < T.length → ∀ k ∈ sub T n, k < T.length
 all : ∀ n, n < T.length → n ∈ sub T (T.length - 1)
def SOKd (T : Tr) : Prop := (∀ n, n < T.length → sub T n = n :: (sbs T (fs T n) ++ sbs T (sn T n))) ∧ (∀ n, n < T.length → (sub T n).Nodup) ∧ (∀ n, n < T.length → ∀ k ∈ sub T n, k < T.length) ∧ (∀ n, n < T.length → n ∈ sub T (T.length - 1))
instance (T : Tr) : Decidable (SOKd T) := by unfold SOKd; infer_instance
structure Pt (c : Ref09Cup) (m : BM) (n : Nat) (p : Int) (w : List Int) : Prop where
 top : w.getD n 0 = p
 ok : ∀ k ∈ sub (T c) n, poss c k w (w.getD k 0)
 bel : ∀ k ∈ sub (T c) n, ca c k w ∈ bs (T c) (fs (T c) k) ∧ cb c k w ∈ bs (T c) (sn (T c) k)
 cost : ∀ C : Nat → Int, (∀ k, k < (T c).length → C k = Cs C (fs (T c) k) + Cs C (sn (T c) k) + uR c w k) → cst m n p = some (C n)
section
variable {N : Nat} (hN : 4000 ≤ N)
include hN
end
end Go.Proofs.YtignpdbcgjllkaaGreat.L
set_option linter.all false
namespace Go.Proofs.YtignpdbcgjllkaaGreat.L
open Go.Kp
theorem plain_won {c : Ref09Cup} (hv : Val c) (hp : ∀ n, prot c n = false) {w : List Int} (hw : IsC c w) : ∀ n : Nat, n < (T c).length → won c (n : Int) ≠ -1 → ca c n w = known c (fs (T c) n) ∧ cb c n w = known c (sn (T c) n) ∧ w.getD n 0 = won c (n : Int) := by
 intro n
 induction n using Nat.strongRecOn with
 | ind n ih =>
  intro hn hwn
  have hk := won_res hv hwn
  have hs := hv.ok.side n hn
  have side : ∀ s, sok c.fPlayers.toNat n s → 0 ≤ known c s → comes s w = known c s := by
   intro s hs hk
   unfold comes known at *
   rcases hs with ⟨h1, _, _⟩ | ⟨_, h2, h3⟩
   ·rw [if_pos (by omega), if_pos (by omega)]
   ·rw [if_neg (by omega)] at hk ⊢
    rw [if_neg (by omega)]
    have em : ((s.fMatch.toNat : Nat) : Int) = s.fMatch := by omega
    have := (ih s.fMatch.toNat (by omega) (by omega) (by rw [em]; omega)).2.2
    rw [em] at this; exact this
  have ea := side _ hs.1 hk.1
  have eb := side _ hs.2 hk.2
  refine ⟨ea, eb, ?_⟩
  have hsw : sw c n w = won c (n : Int) := by
   unfold sw sett ply
   rw [if_pos ⟨by rw [show ca c n w = _ from ea, show cb c n w = _ from eb], hp n⟩]
  have hwb := hv.won n
  rcases (hw.ok n hn).2 with h | h
  ·omega
  ·rw [← h, hsw]
end Go.Proofs.YtignpdbcgjllkaaGreat.L
set_option linter.all false
namespace Go.Proofs.YtignpdbcgjllkaaGreat.L
open Go.Kp
def tot (l : List Ref09Result) : Nat := (l.map fun r => r.fGames.length).sum
theorem prot_all {c : Ref09Cup} (h : ∀ r ∈ c.fResults, r.fProtested = false) (n : Nat) : prot c n = false := by
 unfold prot
 cases e : res c (n : Int) with
 | none => rfl
 | some r => exact h r (res_mem e).1
section
variable {N : Nat} (hN : 4000 ≤ N)
include hN
end
end Go.Proofs.YtignpdbcgjllkaaGreat.L
set_option linter.all false
namespace Go.Proofs.YtignpdbcgjllkaaGreat.R
open Go.Kp
def cs (s : Ref07Sheet) : RateSheet := ⟨s.fNumber, s.fBowler, s.fWeek, s.fGames⟩
def cl (l : Ref07Law) : RateLaw := ⟨l.fBase, l.fPercent, l.fCap, l.fLeast, l.fBlind⟩
def cb (b : Ref07Book) : RateBook := ⟨cl b.fLaw, b.fBowlers, b.fSheets.map cs, b.fWithdrawn⟩
def inr (n a b : Int) : Bool := decide (a ≤ n) && decide (n ≤ b)
theorem inr_iff {n a b : Int} : inr n a b = true ↔ a ≤ n ∧ n ≤ b := by simp [inr]
section
variable {N : Nat}
theorem within_eq (n a b : Int) : rateWithin N n a b = some (inr n a b) := by
 unfold rateWithin inr
 cases decide (a ≤ n) <;> rfl
theorem in_eq (n a b : Int) : ref07In N n a b = some (inr n a b) := by
 unfold ref07In inr
 cases decide (a ≤ n) <;> rfl
theorem count_eq (n : Int) : rateCount N n = some (inr n 0 300) := by unfold rateCount; rw [within_eq]; rfl
theorem number_eq (n : Int) : rateNumber N n = some (inr n 1 999) := by unfold rateNumber; rw [within_eq]; rfl
theorem week_eq (n : Int) : rateWeek N n = some (inr n 1 30) := by unfold rateWeek; rw [within_eq]; rfl
def lawOk (l : Ref07Law) : Bool := inr l.fBase 0 300 && (inr l.fPercent 0 100 && (inr l.fCap 0 300 && (inr l.fLeast 1 30 && inr l.fBlind 0 300)))
theorem isLaw_eq (l : Ref07Law) : ref07IsLaw N l = some (lawOk l) := by
 unfold ref07IsLaw lawOk
 simp only [in_eq, Option.bind_some]
 cases inr l.fBase 0 300 <;> cases inr l.fPercent 0 100 <;> cases inr l.fCap 0 300 <;> cases inr l.fLeast 1 30 <;> cases inr l.fBlind 0 300 <;> rfl
theorem lawValid_eq (l : Ref07Law) : rateLawValid N (cl l) = some (lawOk l) := by
 unfold rateLawValid lawOk cl
 simp only [within_eq, count_eq, Option.bind_some]
 cases inr l.fBase 0 300 <;> cases inr l.fPercent 0 100 <;> cases inr l.fCap 0 300 <;> cases inr l.fLeast 1 30 <;> cases inr l.fBlind 0 300 <;> rfl
def gamesOk (g : Ar3 Int) : Bool := inr g.a0 0 300 && (inr g.a1 0 300 && inr g.a2 0 300)
def sheetOk (n : Nat) (s : Ref07Sheet) : Bool := inr s.fNumber 1 999 && (inr s.fBowler 0 ((n : Int) - 1) && (inr s.fWeek 1 30 && gamesOk s.fGames))
def lims (b : Ref07Book) : Bool := decide (b.fBowlers.length ≤ 8) && (decide (b.fSheets.length ≤ 40) && decide (b.fWithdrawn.length ≤ 40))
def argsOk (b : Ref07Book) : Bool := lawOk b.fLaw && (ris b.fWithdrawn && (b.fBowlers.all (fun n => inr n 0 300) && (b.fWithdrawn.all (fun n => inr n 1 999) && b.fSheets.all (sheetOk b.fBowlers.length))))
def two (s t : Ref07Sheet) : Bool := decide (s.fNumber = t.fNumber) && !decide (s = t)
def dup : List Ref07Sheet → List Ref07Sheet → Bool
 | _, [] => false
 | pre, x :: r => pre.any (two x) || dup (pre ++ [x]) r
def flt (b : Ref07Book) : Int := if lims b then (if argsOk b then (if dup [] b.fSheets then 6 else 0) else 1) else 3
theorem two_eq (s t : Ref07Sheet) : (if decide ((cs s).fNumber = (cs t).fNumber) then (if !decide ((cs s).fBowler = (cs t).fBowler) then some true else if !decide ((cs s).fWeek = (cs t).fWeek) then some true else some (!decide ((cs s).fGames = (cs t).fGames))) else some false) = some (two s t) := by
 obtain ⟨a, b, c, d⟩ := s
 obtain ⟨a', b', c', d'⟩ := t
 simp only [cs, two, Ref07Sheet.mk.injEq]
 by_cases h1 : a = a' <;> by_cases h2 : b = b' <;> by_cases h3 : c = c' <;> by_cases h4 : d = d' <;> simp [h1, h2, h3, h4]
theorem two_eq' (s t : Ref07Sheet) : (if decide (s.fNumber = t.fNumber) then some (!decide (s = t)) else some false) = some (two s t) := by
 unfold two; cases decide (s.fNumber = t.fNumber) <;> rfl
variable (hN : 4000 ≤ N)
include hN
theorem list_eq {xs : List Int} (h : xs.length ≤ 1000) : law07List N xs = some xs := by
 unfold law07List
 rw [app_ok (by simp; omega)]
 simp
theorem book_eq (b : Ref07Book) (h1 : b.fBowlers.length ≤ 1000) (h2 : b.fSheets.length ≤ 1000) (h3 : b.fWithdrawn.length ≤ 1000) : law07Book N b = some (cb b) := by
 unfold law07Book
 rw [list_eq hN h1, list_eq hN h3]
 have := loop_list (N := N) (B := fun rec3 x => law07Book_b1 N b rec3 x.1 x.2) b.fSheets (fun i (a : List RateSheet) => ((i : Int), a)) (fun r a => some (a ++ r.map cs)) (fun i a => a.length = i)
  (fun a rec _ => by simp [law07Book_b1])
  (fun i x a rec hx hok h => by
   have hlt := len_lt hx
   show law07Book_b1 N b rec i a = _
   unfold law07Book_b1
   simp only [show ((i : Int) < (b.fSheets.length : Int)) from by omega, decide_true, if_true, idx_at hx, Option.bind_some, w64_succ (i := i) (by omega)]
   rw [app_ok (by simp; omega), Option.bind_some, h _ (by simp [hok])]
   simp [cs]) (by omega) [] rfl
 simp only [Option.bind_some]
 rw [show ((0 : Int), ([] : List RateSheet)) = (((0 : Nat) : Int), []) from rfl, this]
 simp [cb, cl]
theorem rising_eq (l : List Int) (h : l.length ≤ 1000) : rateRising N l = some (ris l) := by
 unfold rateRising; exact rising_shape l (by omega) (by omega)
theorem risingX_eq (l : List Int) (h : l.length ≤ 1000) : rateRisingX N l = some (ris l) := by
 unfold rateRisingX; exact rising_shape l (by omega) (by omega)
theorem rrising_eq (l : List Int) (h : l.length ≤ 1000) : ref07Rising N l = some (ris l) := by
 unfold ref07Rising; exact rising_shape1 l (by omega) (by omega)
theorem all_eq (l : List Int) (h : l.length ≤ 1000) : rateAll N l = some (l.all fun n => inr n 0 300) := by
 unfold rateAll slicesContainsFunc slicesIndexFunc
 exact all_shape l (rateAll1 N) _ (fun x _ => by unfold rateAll1; rw [count_eq]; rfl) (by omega) (by omega)
theorem allXX_eq (l : List Int) (h : l.length ≤ 1000) : rateAllXX N l = some (l.all fun n => inr n 1 999) := by
 unfold rateAllXX slicesContainsFuncXX slicesIndexFuncXX
 exact all_shape l (rateAll1XX N) _ (fun x _ => by unfold rateAll1XX; rw [number_eq]; rfl) (by omega) (by omega)
theorem bowler_eq (b : RateBook) (h : b.fBowlers.length ≤ 1000) (n : Int) : rateBookBowler N b n = some (inr n 0 ((b.fBowlers.length : Int) - 1)) := by
 unfold rateBookBowler
 rw [within_eq, w64_id (by omega) (by omega)]; rfl
theorem sheet_eq (b : Ref07Book) (h : b.fBowlers.length ≤ 1000) (s : Ref07Sheet) : rateBookSheet N (cb b) (cs s) = some (sheetOk b.fBowlers.length s) := by
 unfold rateBookSheet sheetOk gamesOk
 simp only [number_eq, week_eq, bowler_eq hN (cb b) h, Option.bind_some]
 rw [all_eq hN _ (by simp)]
 have e : (cb b).fBowlers = b.fBowlers := rfl
 rw [e]
 simp only [cs, List.all_cons, List.all_nil, Bool.and_true, Option.bind_some]
 cases inr s.fNumber 1 999 <;> cases inr s.fBowler 0 ((b.fBowlers.length : Int) - 1) <;> cases inr s.fWeek 1 30 <;> rfl
theorem allX_eq (b : Ref07Book) (h : b.fBowlers.length ≤ 1000) (l : List Ref07Sheet) (hl : l.length ≤ 1000) : rateAllX N (l.map cs) (cb b) = some (l.all (sheetOk b.fBowlers.length)) := by
 unfold rateAllX slicesContainsFuncX slicesIndexFuncX
 have := all_shape (N := N) (l.map cs) (fun x => rateAll1X N x (cb b)) (fun x => sheetOk b.fBowlers.length ⟨x.fNumber, x.fBowler, x.fWeek, x.fGames⟩) (fun x hx => by
  obtain ⟨s, _, rfl⟩ := List.mem_map.1 hx
  unfold rateAll1X
  rw [sheet_eq hN b h s]; rfl) (by simp; omega) (by simp; omega)
 refine Eq.trans this ?_
 rw [List.all_map]; rfl
theorem check_eq (b : Ref07Book) : rateCheckBook N (cb b) = some (flt b) := by
 unfold rateCheckBook flt lims
 simp only [cb, List.length_map]
 by_cases c1 : b.fBowlers.length ≤ 8
 ·by_cases c2 : b.fSheets.length ≤ 40
  ·by_cases c3 : b.fWithdrawn.length ≤ 40
   ·have d1 : ¬ ((8 : Int) < (b.fBowlers.length : Int)) := by omega
    have d2 : ¬ ((40 : Int) < (b.fSheets.length : Int)) := by omega
    have d3 : ¬ ((40 : Int) < (b.fWithdrawn.length : Int)) := by omega
    simp only [d1, d2, d3, c1, c2, c3, decide_true, decide_false, Bool.and_self, Bool.false_eq_true, if_false, if_true, Option.bind_some]
    have e1 := lawValid_eq (N := N) b.fLaw
    have e2 := all_eq hN b.fBowlers (by omega)
    have e3 := allX_eq hN b (by omega) b.fSheets (by omega)
    have e4 := allXX_eq hN b.fWithdrawn (by omega)
    have e5 := rising_eq hN b.fWithdrawn (by omega)
    simp only [cb] at e3
    simp only [e1, e2, e3, e4, e5, Option.bind_some]
    have e6 : loopN (fun rec13 x => rateCheckBook_b4 N { fLaw := cl b.fLaw, fBowlers := b.fBowlers, fSheets := b.fSheets.map cs, fWithdrawn := b.fWithdrawn } rec13 x.1 x.2) N (((b.fSheets.length : Int), 0)) = some (if dup [] b.fSheets then 6 else 0) := by
     have := loop_from (N := N) (B := fun rec13 x => rateCheckBook_b4 N { fLaw := cl b.fLaw, fBowlers := b.fBowlers, fSheets := b.fSheets.map cs, fWithdrawn := b.fWithdrawn } rec13 x.1 x.2) b.fSheets (fun i => ((b.fSheets.length : Int), (i : Int)))
      (fun i r => some (if dup (b.fSheets.take i) r then 6 else 0))
      (fun rec => by simp [rateCheckBook_b4, rateCheckBook_k1, dup])
      (fun i x rec hx h => by
       have hlt := len_lt hx
       show rateCheckBook_b4 N _ rec (b.fSheets.length : Int) (i : Int) = _
       unfold rateCheckBook_b4
       have hx' : (b.fSheets.map cs)[i]? = some (cs x) := by simp [hx]
       simp only [show ((i : Int) < (b.fSheets.length : Int)) from by omega, decide_true, if_true, idx_at hx', Option.bind_some]
       rw [slc_ok (by omega) (by omega) (by simp; omega), Option.bind_some]
       simp only [Int.toNat_natCast, Int.toNat_zero, List.drop_zero, ← List.map_take]
       have hin := loop_list0 (N := N) (B := fun rec15 x_1 => rateCheckBook_b3 N (b.fSheets.length : Int) (i : Int) rec (cs x) ((b.fSheets.take i).map cs) rec15 x_1.1 x_1.2) (b.fSheets.take i)
        (fun k => ((((b.fSheets.take i).map cs).length : Int), (k : Int))) (fun r => if r.any (two x) then some 6 else rec ((b.fSheets.length : Int), w64 ((i : Int) + 1)))
        (fun rec' => by simp [rateCheckBook_b3, rateCheckBook_k2])
        (fun k y rec' hy h' => by
         have hlt' := len_lt hy
         show rateCheckBook_b3 N _ _ rec (cs x) _ rec' _ (k : Int) = _
         unfold rateCheckBook_b3
         have hy' : ((b.fSheets.take i).map cs)[k]? = some (cs y) := by simp only [List.getElem?_map, hy]; rfl
         simp only [show ((k : Int) < (((b.fSheets.take i).map cs).length : Int)) from by rw [List.length_map]; omega, decide_true, if_true, idx_at hy', Option.bind_some, two_eq, w64_succ (i := k) (by simp at hlt'; omega), h', List.any_cons]
         by_cases hq : two x y = true <;> simp [hq]) (by simp; omega)
       refine Eq.trans hin ?_
       simp only [w64_succ (i := i) (by omega), h, dup]
       have ht : b.fSheets.take (i + 1) = b.fSheets.take i ++ [x] := by rw [List.take_add_one, hx]; rfl
       rw [ht]
       by_cases hq : (b.fSheets.take i).any (two x) = true <;> simp only [hq, if_true, if_false, Bool.true_or, Bool.false_or, Bool.false_eq_true]) (by omega) 0 (by omega)
     simpa using this
    simp only [e6, argsOk]
    by_cases q1 : lawOk b.fLaw = true <;> by_cases q2 : ris b.fWithdrawn = true <;> by_cases q3 : (b.fBowlers.all fun n => inr n 0 300) = true <;> by_cases q4 : (b.fWithdrawn.all fun n => inr n 1 999) = true <;> by_cases q5 : b.fSheets.all (sheetOk b.fBowlers.length) = true <;> simp only [q1, q2, q3, q4, q5, Bool.not_true, Bool.not_false, Bool.false_eq_true, if_true, if_false, Bool.true_and, Bool.and_true, Bool.and_false, Bool.false_and, Option.bind_some, Bool.not_eq_true] at * <;> simp [*]
   ·have d1 : ¬ ((8 : Int) < (b.fBowlers.length : Int)) := by omega
    have d2 : ¬ ((40 : Int) < (b.fSheets.length : Int)) := by omega
    have d3 : ((40 : Int) < (b.fWithdrawn.length : Int)) := by omega
    simp [d1, d2, d3, c1, c2, c3]
  ·have d1 : ¬ ((8 : Int) < (b.fBowlers.length : Int)) := by omega
   have d2 : ((40 : Int) < (b.fSheets.length : Int)) := by omega
   simp [d1, d2, c1, c2]
 ·have d1 : ((8 : Int) < (b.fBowlers.length : Int)) := by omega
  simp [d1, c1]
theorem rgames (g : Ar3 Int) {α : Type} (A B : Option α) : (Option.bind (ref07In N g.a0 0 300) fun r => if !r then A else Option.bind (ref07In N g.a1 0 300) fun r => if !r then A else Option.bind (ref07In N g.a2 0 300) fun r => if !r then A else B) = if gamesOk g then B else A := by
 simp only [in_eq, Option.bind_some, gamesOk]
 by_cases q1 : inr g.a0 0 300 = true <;> by_cases q2 : inr g.a1 0 300 = true <;> by_cases q3 : inr g.a2 0 300 = true <;> simp [q1, q2, q3]
theorem fault_dup (b : Ref07Book) (h2 : b.fSheets.length ≤ 40) : ref07Fault_k5 N b = some (if dup [] b.fSheets then 6 else 0) := by
 unfold ref07Fault_k5
 have := loop_from (N := N) (B := fun rec12 x => ref07Fault_b4 N b rec12 x) b.fSheets (fun i => (i : Int)) (fun i r => some (if dup (b.fSheets.take i) r then 6 else 0))
  (fun rec => by simp [ref07Fault_b4, ref07Fault_k1, dup])
  (fun i x rec hx h => by
   have hlt := len_lt hx
   show ref07Fault_b4 N b rec (i : Int) = _
   unfold ref07Fault_b4
   simp only [show ((i : Int) < (b.fSheets.length : Int)) from by omega, decide_true, if_true]
   have hin := loop_list0 (N := N) (B := fun rec14 x => ref07Fault_b3 N b (i : Int) rec rec14 x) (b.fSheets.take i) (fun k => (k : Int)) (fun r => if r.any (two x) then some 6 else rec (w64 ((i : Int) + 1)))
    (fun rec' => by
     show ref07Fault_b3 N b (i : Int) rec rec' _ = _
     have e : (b.fSheets.take i).length = i := by simp; omega
     simp [ref07Fault_b3, ref07Fault_k2, e])
    (fun k y rec' hy h' => by
     have hlt' := len_lt hy
     have hki : k < i := by simp at hlt'; omega
     show ref07Fault_b3 N b (i : Int) rec rec' (k : Int) = _
     unfold ref07Fault_b3
     have hy' : b.fSheets[k]? = some y := by rw [List.getElem?_take] at hy; simpa [hki] using hy
     simp only [show ((k : Int) < (i : Int)) from by omega, decide_true, if_true, idx_at hx, idx_at hy', Option.bind_some, two_eq', w64_succ (i := k) (by omega), h', List.any_cons]
     by_cases hq : two x y = true <;> simp [hq]) (by simp; omega)
   refine Eq.trans hin ?_
   simp only [w64_succ (i := i) (by omega), h, dup]
   have ht : b.fSheets.take (i + 1) = b.fSheets.take i ++ [x] := by rw [List.take_add_one, hx]; rfl
   rw [ht]
   by_cases hq : (b.fSheets.take i).any (two x) = true <;> simp only [hq, if_true, if_false, Bool.true_or, Bool.false_or, Bool.false_eq_true]) (by omega) 0 (by omega)
 simpa using this
theorem fault_sheets (b : Ref07Book) (h1 : b.fBowlers.length ≤ 8) (h2 : b.fSheets.length ≤ 40) : ref07Fault_k7 N b = some (if b.fSheets.all (sheetOk b.fBowlers.length) then (if dup [] b.fSheets then 6 else 0) else 1) := by
 unfold ref07Fault_k7
 have := loop_list0 (N := N) (B := fun rec15 x => ref07Fault_b6 N b rec15 x) b.fSheets (fun i => (i : Int)) (fun r => some (if r.all (sheetOk b.fBowlers.length) then (if dup [] b.fSheets then 6 else 0) else 1))
  (fun rec => by
   show ref07Fault_b6 N b rec _ = _
   unfold ref07Fault_b6
   simp [fault_dup hN b h2])
  (fun i x rec hx h => by
   have hlt := len_lt hx
   show ref07Fault_b6 N b rec (i : Int) = _
   unfold ref07Fault_b6
   simp only [show ((i : Int) < (b.fSheets.length : Int)) from by omega, decide_true, if_true, idx_at hx, Option.bind_some, rgames hN]
   simp only [in_eq, Option.bind_some, w64_succ (i := i) (by omega), h, List.all_cons]
   rw [w64_id (n := (b.fBowlers.length : Int) - 1) (by omega) (by omega)]
   unfold sheetOk
   by_cases q1 : inr x.fNumber 1 999 = true <;> by_cases q2 : inr x.fBowler 0 ((b.fBowlers.length : Int) - 1) = true <;> by_cases q3 : inr x.fWeek 1 30 = true <;> by_cases q4 : gamesOk x.fGames = true <;> simp [q1, q2, q3, q4]) (by omega)
 simpa using this
theorem fault_wd (b : Ref07Book) (h1 : b.fBowlers.length ≤ 8) (h2 : b.fSheets.length ≤ 40) (h3 : b.fWithdrawn.length ≤ 40) : ref07Fault_k9 N b = some (if (b.fWithdrawn.all fun n => inr n 1 999) && b.fSheets.all (sheetOk b.fBowlers.length) then (if dup [] b.fSheets then 6 else 0) else 1) := by
 unfold ref07Fault_k9
 have := loop_list0 (N := N) (B := fun rec16 x => ref07Fault_b8 N b rec16 x) b.fWithdrawn (fun i => (i : Int)) (fun r => some (if (r.all fun n => inr n 1 999) && b.fSheets.all (sheetOk b.fBowlers.length) then (if dup [] b.fSheets then 6 else 0) else 1))
  (fun rec => by
   show ref07Fault_b8 N b rec _ = _
   unfold ref07Fault_b8
   simp [fault_sheets hN b h1 h2])
  (fun i x rec hx h => by
   have hlt := len_lt hx
   show ref07Fault_b8 N b rec (i : Int) = _
   unfold ref07Fault_b8
   simp only [show ((i : Int) < (b.fWithdrawn.length : Int)) from by omega, decide_true, if_true, idx_at hx, Option.bind_some, in_eq, w64_succ (i := i) (by omega), h, List.all_cons]
   by_cases q1 : inr x 1 999 = true <;> simp [q1]) (by omega)
 simpa using this
theorem fault_eq (b : Ref07Book) : ref07Fault N b = some (flt b) := by
 unfold ref07Fault flt lims
 by_cases c1 : b.fBowlers.length ≤ 8
 ·by_cases c2 : b.fSheets.length ≤ 40
  ·by_cases c3 : b.fWithdrawn.length ≤ 40
   ·have d1 : ¬ ((8 : Int) < (b.fBowlers.length : Int)) := by omega
    have d2 : ¬ ((40 : Int) < (b.fSheets.length : Int)) := by omega
    have d3 : ¬ ((40 : Int) < (b.fWithdrawn.length : Int)) := by omega
    simp only [d1, d2, d3, c1, c2, c3, decide_true, decide_false, Bool.and_self, Bool.false_eq_true, if_false, if_true, Option.bind_some]
    rw [isLaw_eq, rrising_eq hN b.fWithdrawn (by omega)]
    have := loop_list0 (N := N) (B := fun rec17 x => ref07Fault_b10 N b rec17 x) b.fBowlers (fun i => (i : Int)) (fun r => some (if (r.all fun n => inr n 0 300) && ((b.fWithdrawn.all fun n => inr n 1 999) && b.fSheets.all (sheetOk b.fBowlers.length)) then (if dup [] b.fSheets then 6 else 0) else 1))
     (fun rec => by
      show ref07Fault_b10 N b rec _ = _
      unfold ref07Fault_b10
      simp [fault_wd hN b c1 c2 c3])
     (fun i x rec hx h => by
      have hlt := len_lt hx
      show ref07Fault_b10 N b rec (i : Int) = _
      unfold ref07Fault_b10
      simp only [show ((i : Int) < (b.fBowlers.length : Int)) from by omega, decide_true, if_true, idx_at hx, Option.bind_some, in_eq, w64_succ (i := i) (by omega), h, List.all_cons]
      by_cases q1 : inr x 0 300 = true <;> simp [q1]) (by omega)
    have this' : loopN (fun rec17 x => ref07Fault_b10 N b rec17 x) N 0 = _ := this
    rw [this']
    simp only [Option.bind_some, argsOk]
    by_cases q1 : lawOk b.fLaw = true <;> by_cases q2 : ris b.fWithdrawn = true <;> simp [q1, q2]
   ·have d1 : ¬ ((8 : Int) < (b.fBowlers.length : Int)) := by omega
    have d2 : ¬ ((40 : Int) < (b.fSheets.length : Int)) := by omega
    have d3 : ((40 : Int) < (b.fWithdrawn.length : Int)) := by omega
    simp [d1, d2, d3, c1, c2, c3]
  ·have d1 : ¬ ((8 : Int) < (b.fBowlers.length : Int)) := by omega
   have d2 : ((40 : Int) < (b.fSheets.length : Int)) := by omega
   simp [d1, d2, c1, c2]
 ·have d1 : ((8 : Int) < (b.fBowlers.length : Int)) := by omega
  simp [d1, c1]
end
theorem dup_false : ∀ (l pre : List Ref07Sheet), dup pre l = false ↔ (∀ x ∈ l, ∀ y ∈ pre, x.fNumber = y.fNumber → x = y) ∧ l.Pairwise (fun y x => x.fNumber = y.fNumber → x = y)
 | [], pre => by simp [dup]
 | x :: l, pre => by
  rw [dup, Bool.or_eq_false_iff, dup_false l, List.pairwise_cons]
  simp only [List.any_eq_false, two, Bool.and_eq_true, decide_eq_true_eq, Bool.not_eq_true', decide_eq_false_iff_not, not_and, Decidable.not_not, List.mem_append, List.mem_singleton, List.mem_cons]
  constructor
  ·rintro ⟨h1, h2, h3⟩
   refine ⟨?_, fun z hz e => h2 z hz x (.inr (.inl rfl)) e, h3⟩
   rintro z (rfl | hz) y hy e
   ·exact h1 y hy e
   ·exact h2 z hz y (.inl hy) e
  ·rintro ⟨h1, h2, h3⟩
   refine ⟨fun y hy e => h1 x (.inl rfl) y hy e, ?_, h3⟩
   rintro z hz y (hy | rfl | hy) e
   ·exact h1 z (.inr hz) y hy e
   ·exact h2 z hz e
   ·cases hy
def Once (l : List Ref07Sheet) : Prop := ∀ s ∈ l, ∀ t ∈ l, s.fNumber = t.fNumber → s = t
theorem once_iff : ∀ (l : List Ref07Sheet), l.Pairwise (fun y x => x.fNumber = y.fNumber → x = y) ↔ Once l
 | [] => by simp [Once]
 | x :: l => by
  rw [List.pairwise_cons, once_iff l]
  constructor
  ·rintro ⟨h1, h2⟩ s hs t ht e
   rcases List.mem_cons.1 hs with hs' | hs' <;> rcases List.mem_cons.1 ht with ht' | ht'
   ·rw [hs', ht']
   ·subst hs'; exact (h1 t ht' e.symm).symm
   ·subst ht'; exact h1 s hs' e
   ·exact h2 s hs' t ht' e
  ·intro h
   exact ⟨fun y hy e => h y (by simp [hy]) x (by simp) e, fun s hs t ht e => h s (by simp [hs]) t (by simp [ht]) e⟩
theorem dup_once (l : List Ref07Sheet) : dup [] l = false ↔ Once l := by rw [dup_false, once_iff]; simp
structure Val (b : Ref07Book) : Prop where
 nb : b.fBowlers.length ≤ 8
 ns : b.fSheets.length ≤ 40
 nw : b.fWithdrawn.length ≤ 40
 law : lawOk b.fLaw = true
 ris : b.fWithdrawn.Pairwise (· < ·)
 bow : ∀ n ∈ b.fBowlers, 0 ≤ n ∧ n ≤ 300
 wd : ∀ n ∈ b.fWithdrawn, 1 ≤ n ∧ n ≤ 999
 sh : ∀ s ∈ b.fSheets, sheetOk b.fBowlers.length s = true
 once : Once b.fSheets
theorem flt_zero {b : Ref07Book} : flt b = 0 ↔ Val b := by
 unfold flt
 constructor
 ·intro h
  split at h
  ·rename_i h1
   split at h
   ·rename_i h2
    split at h
    ·cases h
    ·rename_i h3
     simp only [lims, Bool.and_eq_true, decide_eq_true_eq] at h1
     simp only [argsOk, Bool.and_eq_true, List.all_eq_true] at h2
     exact ⟨h1.1, h1.2.1, h1.2.2, h2.1, (ris_iff _).1 h2.2.1, fun n hn => inr_iff.1 (h2.2.2.1 n hn), fun n hn => inr_iff.1 (h2.2.2.2.1 n hn), fun s hs => h2.2.2.2.2 s hs, (dup_once _).1 (by simpa using h3)⟩
   ·cases h
  ·cases h
 ·intro v
  have h1 : lims b = true := by simp [lims, v.nb, v.ns, v.nw]
  have h2 : argsOk b = true := by
   simp only [argsOk, Bool.and_eq_true, List.all_eq_true]
   exact ⟨v.law, (ris_iff _).2 v.ris, fun n hn => inr_iff.2 (v.bow n hn), fun n hn => inr_iff.2 (v.wd n hn), fun s hs => v.sh s hs⟩
  rw [if_pos h1, if_pos h2, if_neg (by rw [(dup_once _).2 v.once]; simp)]
end Go.Proofs.YtignpdbcgjllkaaGreat.R
set_option linter.all false
namespace Go.Proofs.YtignpdbcgjllkaaGreat.R
open Go.Kp
def C (b : Ref07Book) (k w : Int) (s : Ref07Sheet) : Prop := s ∈ b.fSheets ∧ s.fBowler = k ∧ s.fWeek = w ∧ s.fNumber ∉ b.fWithdrawn
def IsB (P : Ref07Sheet → Prop) : Option Ref07Sheet → Prop
 | none => ∀ s, ¬ P s
 | some s => P s ∧ ∀ t, P t → t.fNumber ≤ s.fNumber
theorem IsB.congr {P P' : Ref07Sheet → Prop} (h : ∀ s, P s ↔ P' s) {a : Option Ref07Sheet} (ha : IsB P a) : IsB P' a := by
 cases a with
 | none => exact fun s hs => ha s ((h s).2 hs)
 | some t => exact ⟨(h t).1 ha.1, fun s hs => ha.2 s ((h s).2 hs)⟩
def newer (o : Option Int) (n : Int) : Bool := match o with | none => true | some t => decide (t < n)
def stepO (wd : List Int) (k w : Int) (a : Option Ref07Sheet) (s : Ref07Sheet) : Option Ref07Sheet :=
 if decide (s.fBowler = k) && decide (s.fWeek = w) && (!decide (s.fNumber ∈ wd) && newer (a.map (·.fNumber)) s.fNumber) then some s else a
def of (b : Ref07Book) (k w : Int) : Option Ref07Sheet := b.fSheets.foldl (stepO b.fWithdrawn k w) none
theorem fold_isB (wd : List Int) (k w : Int) : ∀ (l pre : List Ref07Sheet) (a : Option Ref07Sheet), IsB (fun s => s ∈ pre ∧ s.fBowler = k ∧ s.fWeek = w ∧ s.fNumber ∉ wd) a →
  IsB (fun s => s ∈ pre ++ l ∧ s.fBowler = k ∧ s.fWeek = w ∧ s.fNumber ∉ wd) (l.foldl (stepO wd k w) a)
 | [], pre, a, h => by simpa using h
 | x :: l, pre, a, h => by
  rw [List.foldl_cons, show pre ++ x :: l = (pre ++ [x]) ++ l by simp]
  refine fold_isB wd k w l (pre ++ [x]) _ ?_
  unfold stepO
  by_cases hc : x.fBowler = k ∧ x.fWeek = w ∧ x.fNumber ∉ wd
  ·obtain ⟨h1, h2, h3⟩ := hc
   simp only [h1, h2, h3, decide_true, decide_false, Bool.not_false, Bool.and_self, Bool.true_and]
   cases a with
   | none =>
    simp only [newer, Option.map_none, if_true]
    refine ⟨⟨by simp, h1, h2, h3⟩, fun t ht => ?_⟩
    rcases List.mem_append.1 ht.1 with q | q
    ·exact absurd ⟨q, ht.2⟩ (h t)
    ·rw [List.mem_singleton.1 q]; exact Int.le_refl _
   | some s =>
    simp only [newer, Option.map_some, decide_eq_true_eq]
    by_cases hlt : s.fNumber < x.fNumber
    ·rw [if_pos hlt]
     refine ⟨⟨by simp, h1, h2, h3⟩, fun t ht => ?_⟩
     rcases List.mem_append.1 ht.1 with q | q
     ·have := h.2 t ⟨q, ht.2⟩; omega
     ·rw [List.mem_singleton.1 q]; exact Int.le_refl _
    ·rw [if_neg hlt]
     refine ⟨⟨by simp [h.1.1], h.1.2⟩, fun t ht => ?_⟩
     rcases List.mem_append.1 ht.1 with q | q
     ·exact h.2 t ⟨q, ht.2⟩
     ·rw [List.mem_singleton.1 q]; omega
  ·have e : (decide (x.fBowler = k) && decide (x.fWeek = w) && (!decide (x.fNumber ∈ wd) && newer (a.map (·.fNumber)) x.fNumber)) = false := by
    rw [← Bool.not_eq_true]
    intro hh
    simp only [Bool.and_eq_true, decide_eq_true_eq, Bool.not_eq_true', decide_eq_false_iff_not] at hh
    exact hc ⟨hh.1.1, hh.1.2, hh.2.1⟩
   rw [e]
   simp only [Bool.false_eq_true, if_false]
   refine h.congr fun s => ?_
   simp only [List.mem_append, List.mem_singleton]
   constructor
   ·rintro ⟨q, r⟩; exact ⟨.inl q, r⟩
   ·rintro ⟨q | q, r⟩
    ·exact ⟨q, r⟩
    ·exact absurd (q ▸ r) hc
theorem of_isB (b : Ref07Book) (k w : Int) : IsB (C b k w) (of b k w) := by
 have := fold_isB b.fWithdrawn k w b.fSheets [] none (fun s h => by simp at h)
 exact this.congr fun s => by simp [C]
def turn (s : Ref07Sheet) : RateTurn := ⟨s.fBowler, s.fWeek⟩
def stepM (wd : List Int) (m : List (RateTurn × RateSheet)) (s : Ref07Sheet) : List (RateTurn × RateSheet) :=
 if !decide (s.fNumber ∈ wd) && newer ((mget m (turn s)).map (·.fNumber)) s.fNumber then mput m (turn s) (cs s) else m
def mapOf (b : Ref07Book) : List (RateTurn × RateSheet) := b.fSheets.foldl (stepM b.fWithdrawn) []
theorem fold_map (wd : List Int) (k w : Int) : ∀ (l : List Ref07Sheet) (m : List (RateTurn × RateSheet)) (a : Option Ref07Sheet), mget m ⟨k, w⟩ = a.map cs →
  mget (l.foldl (stepM wd) m) ⟨k, w⟩ = (l.foldl (stepO wd k w) a).map cs
 | [], m, a, h => h
 | x :: l, m, a, h => by
  rw [List.foldl_cons, List.foldl_cons]
  refine fold_map wd k w l _ _ ?_
  unfold stepM stepO
  by_cases hk : x.fBowler = k ∧ x.fWeek = w
  ·obtain ⟨h1, h2⟩ := hk
   have ht : turn x = ⟨k, w⟩ := by unfold turn; rw [h1, h2]
   have e : (mget m ⟨k, w⟩).map (·.fNumber) = a.map (·.fNumber) := by rw [h]; cases a <;> rfl
   rw [ht, e]
   simp only [h1, h2, decide_true, Bool.true_and]
   by_cases hc : (!decide (x.fNumber ∈ wd) && newer (a.map (·.fNumber)) x.fNumber) = true
   ·rw [if_pos hc, if_pos (by simpa using hc), mget_mput, if_pos rfl]; rfl
   ·rw [if_neg hc, if_neg (by simpa using hc), h]
  ·have e2 : (decide (x.fBowler = k) && decide (x.fWeek = w) && (!decide (x.fNumber ∈ wd) && newer (a.map (·.fNumber)) x.fNumber)) = false := by
    rw [← Bool.not_eq_true]
    intro hh
    simp only [Bool.and_eq_true, decide_eq_true_eq] at hh
    exact hk hh.1
   rw [e2]
   simp only [Bool.false_eq_true, if_false]
   split
   ·rw [mget_mput, if_neg (fun e => hk (by simp only [turn, RateTurn.mk.injEq] at e; exact ⟨e.1.symm, e.2.symm⟩)), h]
   ·exact h
theorem map_of (b : Ref07Book) (k w : Int) : mget (mapOf b) ⟨k, w⟩ = (of b k w).map cs := fold_map _ k w _ [] none rfl
def counts (b : Ref07Book) (s : Ref07Sheet) : Bool :=
 !decide (s.fNumber ∈ b.fWithdrawn) && !b.fSheets.any (fun t => decide (t.fBowler = s.fBowler) && (decide (t.fWeek = s.fWeek) && (decide (s.fNumber < t.fNumber) && !decide (t.fNumber ∈ b.fWithdrawn))))
section
variable {N : Nat} (hN : 4000 ≤ N)
include hN
theorem contains_w (l : List Int) (n : Int) (h : l.length ≤ 1000) : slicesContains N l n = some (decide (n ∈ l)) := by
 unfold slicesContains slicesIndex
 exact contains_eq l n (by omega) (by omega)
theorem readM (b : Ref07Book) (h1 : b.fSheets.length ≤ 1000) (h2 : b.fWithdrawn.length ≤ 1000) :
  loopN (fun rec3 x => rateBookRead_b1 N (cb b) rec3 x.1 x.2.1 x.2.2) N (((cb b).fSheets.length : Int), 0, []) = some (mapOf b) := by
 have := loop_list (N := N) (B := fun rec3 x => rateBookRead_b1 N (cb b) rec3 x.1 x.2.1 x.2.2) b.fSheets (fun i (m : List (RateTurn × RateSheet)) => (((cb b).fSheets.length : Int), (i : Int), m)) (fun r m => some (r.foldl (stepM b.fWithdrawn) m)) (fun _ _ => True)
  (fun m rec _ => by
   show rateBookRead_b1 N (cb b) rec _ _ m = _
   simp [rateBookRead_b1, cb])
  (fun i x m rec hx _ h => by
   have hlt := len_lt hx
   show rateBookRead_b1 N (cb b) rec _ (i : Int) m = _
   unfold rateBookRead_b1
   have hx' : (cb b).fSheets[i]? = some (cs x) := by simp [cb, hx]
   have hl : (cb b).fSheets.length = b.fSheets.length := by simp [cb]
   have hw : (cb b).fWithdrawn = b.fWithdrawn := rfl
   simp only [show ((i : Int) < ((cb b).fSheets.length : Int)) from by omega, decide_true, if_true, idx_at hx', Option.bind_some, hw, contains_w hN _ _ h2, mgt]
   rw [List.foldl_cons, ← h _ trivial, w64_succ (i := i) (by omega)]
   unfold stepM
   have ht : (⟨(cs x).fBowler, (cs x).fWeek⟩ : RateTurn) = turn x := rfl
   have hn : (cs x).fNumber = x.fNumber := rfl
   rw [ht, hn]
   cases hg : mget m (turn x) with
   | none =>
    by_cases hm : x.fNumber ∈ b.fWithdrawn <;> simp [hm, newer]
   | some t =>
    by_cases hm : x.fNumber ∈ b.fWithdrawn
    ·simp [hm, newer]
    ·by_cases hlt2 : t.fNumber < x.fNumber <;> simp [hm, newer, hlt2]) (by omega) [] trivial
 exact this
theorem read_eq (b : Ref07Book) : rateBookRead N (cb b) = some (if flt b = 0 then .inr (0, b.fLaw.fBase, b.fLaw.fPercent, b.fLaw.fCap, b.fLaw.fLeast, b.fLaw.fBlind, b.fBowlers, b.fSheets.map cs, b.fWithdrawn, mapOf b) else .inl (flt b)) := by
 unfold rateBookRead
 rw [check_eq hN]
 simp only [Option.bind_some]
 by_cases h : flt b = 0
 ·have v := flt_zero.1 h
  have h1 := v.ns
  have h2 := v.nw
  rw [readM hN b (by omega) (by omega)]
  simp [h, cb, cl]
 ·simp [h]
def nums : List Int := (List.range 999).map fun (i : Nat) => (i : Int) + 1
def isC (b : Ref07Book) (n : Int) : Bool := b.fSheets.any fun s => decide (s.fNumber = n) && counts b s
def cnt (b : Ref07Book) : List Int := nums.filter (isC b)
end
end Go.Proofs.YtignpdbcgjllkaaGreat.R
set_option linter.all false
namespace Go.Proofs.YtignpdbcgjllkaaGreat.R
open Go.Kp
def gsum (g : Ar3 Int) : Int := g.a0 + g.a1 + g.a2
def accW (b : Ref07Book) (k : Int) (a : Int × Int) (w : Int) : Int × Int := match of b k w with
 | some s => (a.1 + 3, a.2 + gsum s.fGames)
 | none => a
def weeks (n : Nat) : List Int := (List.range n).map fun (i : Nat) => (i : Int) + 1
def tot (b : Ref07Book) (k w : Int) (a : Int × Int) : Int × Int := (weeks (w - 1).toNat).foldl (accW b k) a
def bow (b : Ref07Book) (k : Int) : Int := (b.fBowlers[k.toNat]?).getD 0
def avg (b : Ref07Book) (k w : Int) (a : Int × Int) : Int := if (tot b k w a).1 < b.fLaw.fLeast then bow b k else Int.tdiv (tot b k w a).2 (tot b k w a).1
def hcp (b : Ref07Book) (k w : Int) : Int := min (max 0 (Int.tdiv ((b.fLaw.fBase - avg b k w (0, 0)) * b.fLaw.fPercent) 100)) b.fLaw.fCap
theorem weeks_len (n : Nat) : (weeks n).length = n := by unfold weeks; rw [List.length_map, List.length_range]
theorem weeks_get {n i : Nat} {x : Int} (h : (weeks n)[i]? = some x) : x = (i : Int) + 1 ∧ i < n := by
 have hlt := len_lt h
 rw [weeks_len] at hlt
 unfold weeks at h
 rw [List.getElem?_map, List.getElem?_range hlt] at h
 exact ⟨by simpa using h.symm, hlt⟩
theorem val_law {b : Ref07Book} (v : Val b) : (0 ≤ b.fLaw.fBase ∧ b.fLaw.fBase ≤ 300) ∧ (0 ≤ b.fLaw.fPercent ∧ b.fLaw.fPercent ≤ 100) ∧ (0 ≤ b.fLaw.fCap ∧ b.fLaw.fCap ≤ 300) ∧ (1 ≤ b.fLaw.fLeast ∧ b.fLaw.fLeast ≤ 30) ∧ (0 ≤ b.fLaw.fBlind ∧ b.fLaw.fBlind ≤ 300) := by
 have := v.law
 simp only [lawOk, Bool.and_eq_true] at this
 exact ⟨inr_iff.1 this.1, inr_iff.1 this.2.1, inr_iff.1 this.2.2.1, inr_iff.1 this.2.2.2.1, inr_iff.1 this.2.2.2.2⟩
theorem val_sheet {b : Ref07Book} (v : Val b) {s : Ref07Sheet} (hs : s ∈ b.fSheets) : (1 ≤ s.fNumber ∧ s.fNumber ≤ 999) ∧ (0 ≤ s.fBowler ∧ s.fBowler ≤ (b.fBowlers.length : Int) - 1) ∧ (1 ≤ s.fWeek ∧ s.fWeek ≤ 30) ∧ (0 ≤ s.fGames.a0 ∧ s.fGames.a0 ≤ 300) ∧ (0 ≤ s.fGames.a1 ∧ s.fGames.a1 ≤ 300) ∧ (0 ≤ s.fGames.a2 ∧ s.fGames.a2 ≤ 300) := by
 have := v.sh s hs
 simp only [sheetOk, gamesOk, Bool.and_eq_true] at this
 exact ⟨inr_iff.1 this.1, inr_iff.1 this.2.1, inr_iff.1 this.2.2.1, inr_iff.1 this.2.2.2.1, inr_iff.1 this.2.2.2.2.1, inr_iff.1 this.2.2.2.2.2⟩
theorem of_C {b : Ref07Book} {k w : Int} {s : Ref07Sheet} (h : of b k w = some s) : C b k w s := by
 have := of_isB b k w
 rw [h] at this
 exact this.1
theorem of_games {b : Ref07Book} (v : Val b) {k w : Int} {s : Ref07Sheet} (h : of b k w = some s) : (0 ≤ s.fGames.a0 ∧ s.fGames.a0 ≤ 300) ∧ (0 ≤ s.fGames.a1 ∧ s.fGames.a1 ≤ 300) ∧ (0 ≤ s.fGames.a2 ∧ s.fGames.a2 ≤ 300) :=
 (val_sheet v (of_C h).1).2.2.2
theorem of_zero {b : Ref07Book} (v : Val b) {k w : Int} (h : w < 1) : of b k w = none := by
 cases ho : of b k w with
 | none => rfl
 | some s =>
  have := of_C ho
  have h2 := (val_sheet v this.1).2.2.1
  have h3 := this.2.2.1
  omega
def Bd (n : Int) (a : Int × Int) : Prop := 0 ≤ a.1 ∧ a.1 ≤ n ∧ 0 ≤ a.2 ∧ a.2 ≤ 300 * a.1
theorem accW_bd {b : Ref07Book} (v : Val b) {k n : Int} {a : Int × Int} (h : Bd n a) (w : Int) : Bd (n + 3) (accW b k a w) := by
 unfold accW
 obtain ⟨h1, h2, h3, h4⟩ := h
 cases ho : of b k w with
 | none => exact ⟨h1, by show a.1 ≤ n + 3; omega, h3, h4⟩
 | some s =>
  have := of_games v ho
  refine ⟨?_, ?_, ?_, ?_⟩ <;> simp only [gsum] <;> omega
theorem fold_bd {b : Ref07Book} (v : Val b) {k : Int} : ∀ (l : List Int) {n : Int} {a : Int × Int}, Bd n a → Bd (n + 3 * l.length) (l.foldl (accW b k) a)
 | [], n, a, h => by simpa using h
 | w :: l, n, a, h => by
  rw [List.foldl_cons]
  have := fold_bd (k := k) v l (accW_bd (k := k) v h w)
  rw [List.length_cons]
  rw [show n + 3 * ((l.length + 1 : Nat) : Int) = n + 3 + 3 * (l.length : Int) by omega]
  exact this
theorem tot_bd {b : Ref07Book} (v : Val b) {k w n : Int} {a : Int × Int} (hw : w ≤ 30) (h : Bd n a) : Bd (n + 90) (tot b k w a) := by
 have := fold_bd (k := k) v (weeks (w - 1).toNat) h
 rw [weeks_len] at this
 obtain ⟨h1, h2, h3, h4⟩ := this
 exact ⟨h1, by unfold tot; omega, h3, h4⟩
theorem bow_bd {b : Ref07Book} (v : Val b) (k : Int) : 0 ≤ bow b k ∧ bow b k ≤ 300 := by
 unfold bow
 cases h : b.fBowlers[k.toNat]? with
 | none => simp
 | some n => exact v.bow n (List.mem_of_getElem? h)
theorem avg_bd {b : Ref07Book} (v : Val b) {k w n : Int} {a : Int × Int} (hw : w ≤ 30) (h : Bd n a) : 0 ≤ avg b k w a ∧ avg b k w a ≤ 300 := by
 unfold avg
 have hl := val_law v
 split
 ·exact bow_bd v k
 ·obtain ⟨h1, h2, h3, h4⟩ := tot_bd (k := k) v hw h
  generalize tot b k w a = t at *
  rw [Int.tdiv_eq_ediv_of_nonneg h3]
  refine ⟨Int.ediv_nonneg h3 h1, ?_⟩
  have hpos : 0 < t.1 := by omega
  have := Int.ediv_le_ediv hpos h4
  rwa [Int.mul_ediv_cancel _ (by omega)] at this
theorem hcp_bd {b : Ref07Book} (v : Val b) (k w : Int) : 0 ≤ hcp b k w ∧ hcp b k w ≤ b.fLaw.fCap := by
 unfold hcp
 have := val_law v
 omega
theorem mul_bd {x p : Int} (hx : -300 ≤ x ∧ x ≤ 300) (hp : 0 ≤ p ∧ p ≤ 100) : -30000 ≤ x * p ∧ x * p ≤ 30000 := by
 constructor
 ·have : (-300) * p ≤ x * p := Int.mul_le_mul_of_nonneg_right hx.1 hp.1
  omega
 ·have : x * p ≤ 300 * p := Int.mul_le_mul_of_nonneg_right hx.2 hp.1
  omega
theorem tdiv_bd {x B : Int} (h : -B ≤ x ∧ x ≤ B) : -B ≤ Int.tdiv x 100 ∧ Int.tdiv x 100 ≤ B := by
 rcases Int.le_total 0 x with q | q
 ·rw [Int.tdiv_eq_ediv_of_nonneg q]
  omega
 ·have : Int.tdiv x 100 = -(Int.tdiv (-x) 100) := by rw [Int.neg_tdiv]; omega
  rw [this, Int.tdiv_eq_ediv_of_nonneg (by omega)]
  omega
section
variable {N : Nat} (hN : 4000 ≤ N)
include hN
theorem sum_eq (l : List Int) (hb : ∀ x ∈ l, 0 ≤ x ∧ x ≤ 1000000) (hl : l.length ≤ 1000) : rateSum N l = some l.sum := by
 unfold rateSum
 have := sum_shape (N := N) l hb (by omega) (by omega)
 have this' : loopN (fun rec3 x => rateSum_b1 N l rec3 x.1 x.2.1 x.2.2) N (0, (l.length : Int), 0) = some l.sum := this
 rw [this']; rfl
theorem ravg_loop {b : Ref07Book} (v : Val b) {k w : Int} (hw : 1 ≤ w ∧ w ≤ 30) {a : Int × Int} (ha : Bd 100 a) :
  loopN (fun rec3 x => rateReadAverage_b1 N (mapOf b) w k rec3 x.1 x.2.1 x.2.2) N (0, a.1, a.2) = some (tot b k w a) := by
 have := loop_list (N := N) (B := fun rec3 x => rateReadAverage_b1 N (mapOf b) w k rec3 x.1 x.2.1 x.2.2) (0 :: weeks (w - 1).toNat) (fun i (a : Int × Int) => ((i : Int), a.1, a.2)) (fun r a => some (r.foldl (accW b k) a)) (fun i a => Bd (100 + 3 * i) a)
  (fun a rec _ => by
   show rateReadAverage_b1 N (mapOf b) w k rec _ a.1 a.2 = _
   unfold rateReadAverage_b1
   have : ¬ (((0 :: weeks (w - 1).toNat).length : Int) < w) := by rw [List.length_cons, weeks_len]; omega
   rw [decide_eq_false this]
   rfl)
  (fun i x a rec hx hok h => by
   have hlt := len_lt hx
   rw [List.length_cons, weeks_len] at hlt
   have ex : x = (i : Int) := by
    cases i with
    | zero => simpa using hx.symm
    | succ i => rw [List.getElem?_cons_succ] at hx; have := (weeks_get hx).1; omega
   subst ex
   show rateReadAverage_b1 N (mapOf b) w k rec (i : Int) a.1 a.2 = _
   unfold rateReadAverage_b1
   simp only [show ((i : Int) < w) from by omega, decide_true, if_true, mgt, map_of, Option.bind_some, w64_succ (i := i) (by omega), List.foldl_cons]
   have hb := accW_bd (k := k) v hok (i : Int)
   have hb' : Bd (100 + 3 * ((i + 1 : Nat) : Int)) (accW b k a (i : Int)) := by
    obtain ⟨q1, q2, q3, q4⟩ := hb
    exact ⟨q1, by omega, q3, q4⟩
   rw [← h _ hb']
   unfold accW at hb ⊢
   obtain ⟨h1, h2, h3, h4⟩ := hok
   cases ho : of b k (i : Int) with
   | none => rfl
   | some s =>
    have hg := of_games v ho
    rw [ho] at hb
    obtain ⟨q1, q2, q3, q4⟩ := hb
    simp only [Option.map_some, Option.isSome_some, Option.getD_some, if_true]
    have e : (cs s).fGames = s.fGames := rfl
    rw [e, sum_eq hN _ (by intro x hx; simp only [List.mem_cons, List.not_mem_nil, or_false] at hx; rcases hx with rfl | rfl | rfl <;> omega) (by simp), Option.bind_some]
    have hs : ([s.fGames.a0, s.fGames.a1, s.fGames.a2] : List Int).sum = gsum s.fGames := by simp [gsum, Int.add_assoc]
    rw [hs]
    have hgs : 0 ≤ gsum s.fGames ∧ gsum s.fGames ≤ 900 := by unfold gsum; omega
    rw [sum_eq hN _ (by intro x hx; simp only [List.mem_cons, List.not_mem_nil, or_false] at hx; rcases hx with rfl | rfl <;> omega) (by simp), Option.bind_some]
    have hs2 : ([a.2, gsum s.fGames] : List Int).sum = a.2 + gsum s.fGames := by simp
    rw [hs2, Option.bind_some, w64_id (by omega) (by omega)]) (by rw [List.length_cons, weeks_len]; omega) a (by simpa using ha)
 have e0 : accW b k a 0 = a := by unfold accW; rw [of_zero v (by omega)]
 rw [show ((0 : Int), a.1, a.2) = (((0 : Nat) : Int), a.1, a.2) from rfl, this, List.foldl_cons, e0]
 rfl
theorem bow_idx {b : Ref07Book} {k : Int} (hk : 0 ≤ k ∧ k ≤ (b.fBowlers.length : Int) - 1) : idx b.fBowlers k = some (bow b k) := by
 have h : k.toNat < b.fBowlers.length := by omega
 refine idx_int hk.1 ?_
 unfold bow
 simp [h]
theorem avg_fin {b : Ref07Book} (v : Val b) {k w : Int} (hk : 0 ≤ k ∧ k ≤ (b.fBowlers.length : Int) - 1) (hw : 1 ≤ w ∧ w ≤ 30) {a : Int × Int} (ha : Bd 100 a) :
  (if decide ((tot b k w a).1 < b.fLaw.fLeast) then Option.bind (idx b.fBowlers k) fun x => some x else Option.bind (nz (tot b k w a).1) fun _ => some (w64 (Int.tdiv (tot b k w a).2 (tot b k w a).1))) = some (avg b k w a) := by
 have hb := avg_bd (k := k) v hw.2 ha
 unfold avg at *
 have hl := val_law v
 by_cases h : (tot b k w a).1 < b.fLaw.fLeast
 ·simp [h, bow_idx hN hk]
 ·simp only [h, decide_false, Bool.false_eq_true, if_false] at hb ⊢
  rw [nz_ok (by omega), Option.bind_some, w64_id (by omega) (by omega)]
theorem ravg {b : Ref07Book} (v : Val b) {k w : Int} (hk : 0 ≤ k ∧ k ≤ (b.fBowlers.length : Int) - 1) (hw : 1 ≤ w ∧ w ≤ 30) (bes : List Int) (hb : ∀ x ∈ bes, 0 ≤ x ∧ x ≤ 300) (hl : bes.length ≤ 100) (c1 c2 c3 c5 : Int) (c7 : List RateSheet) (c8 : List Int) :
  rateReadAverage N k w bes c1 c2 c3 b.fLaw.fLeast c5 b.fBowlers c7 c8 (mapOf b) = some (avg b k w ((bes.length : Int), bes.sum)) := by
 unfold rateReadAverage rateReadCounting
 have hs := sum_bd (B := 300) (by omega) bes hb
 rw [sum_eq hN bes (fun x hx => by have := hb x hx; omega) (by omega)]
 simp only [Option.bind_some]
 have ha : Bd 100 ((bes.length : Int), bes.sum) := ⟨by simp, by simp; omega, hs.1, hs.2⟩
 have := ravg_loop hN v (k := k) hw ha
 rw [this]
 simp only [Option.bind_some]
 exact avg_fin hN v hk hw ha
theorem ravg0 {b : Ref07Book} (v : Val b) {k w : Int} (hk : 0 ≤ k ∧ k ≤ (b.fBowlers.length : Int) - 1) (hw : 1 ≤ w ∧ w ≤ 30) (c1 c2 c3 c5 : Int) (c7 : List RateSheet) (c8 : List Int) :
  rateReadAverage N k w [] c1 c2 c3 b.fLaw.fLeast c5 b.fBowlers c7 c8 (mapOf b) = some (avg b k w (0, 0)) := by
 have := ravg hN v hk hw [] (by simp) (by simp) c1 c2 c3 c5 c7 c8
 simpa using this
theorem rhcp {b : Ref07Book} (v : Val b) {k w : Int} (hk : 0 ≤ k ∧ k ≤ (b.fBowlers.length : Int) - 1) (hw : 1 ≤ w ∧ w ≤ 30) (c5 : Int) (c7 : List RateSheet) (c8 : List Int) :
  rateReadHandicap N k w b.fLaw.fBase b.fLaw.fPercent b.fLaw.fCap b.fLaw.fLeast c5 b.fBowlers c7 c8 (mapOf b) = some (hcp b k w) := by
 unfold rateReadHandicap hcp
 have ha := avg_bd (k := k) (w := w) v hw.2 (n := 0) (a := (0, 0)) ⟨by simp, by simp, by simp, by simp⟩
 have hl := val_law v
 rw [ravg0 hN v hk hw, Option.bind_some]
 generalize avg b k w (0, 0) = A at *
 have hm := mul_bd (x := b.fLaw.fBase - A) (p := b.fLaw.fPercent) (by omega) hl.2.1
 rw [w64_id (n := b.fLaw.fBase - A) (by omega) (by omega)]
 have ht := tdiv_bd (x := (b.fLaw.fBase - A) * b.fLaw.fPercent) (B := 30000) hm
 rw [w64_id (n := (b.fLaw.fBase - A) * b.fLaw.fPercent) (by omega) (by omega), w64_id (by omega) (by omega)]
omit hN in
theorem bd0 {n : Int} (h : 0 ≤ n) : Bd n (0, 0) := ⟨by simp, by simpa using h, by simp, by simp⟩
end
end Go.Proofs.YtignpdbcgjllkaaGreat.R
set_option linter.all false
namespace Go.Proofs.YtignpdbcgjllkaaGreat.R
open Go.Kp
def made (b : Ref07Book) (k w : Int) : Ar3 Int := match of b k w with
 | some s => ⟨s.fGames.a0 + hcp b k w, s.fGames.a1 + hcp b k w, s.fGames.a2 + hcp b k w⟩
 | none => ⟨max 0 (avg b k w (0, 0) - b.fLaw.fBlind) + hcp b k w, max 0 (avg b k w (0, 0) - b.fLaw.fBlind) + hcp b k w, max 0 (avg b k w (0, 0) - b.fLaw.fBlind) + hcp b k w⟩
def team (b : Ref07Book) (w : Int) (t : List Int) : Ar3 Int := ⟨(t.map fun k => (made b k w).a0).sum, (t.map fun k => (made b k w).a1).sum, (t.map fun k => (made b k w).a2).sum⟩
def pt (x y : Int) : Int × Int := if y < x then (2, 0) else if x < y then (0, 2) else (1, 1)
def four (x : Ar3 Int) : List Int := [x.a0, x.a1, x.a2, x.a0 + x.a1 + x.a2]
def mtch (b : Ref07Book) (w : Int) (h a : List Int) : Int × Int :=
 let p0 := pt (team b w h).a0 (team b w a).a0
 let p1 := pt (team b w h).a1 (team b w a).a1
 let p2 := pt (team b w h).a2 (team b w a).a2
 let p3 := pt (gsum (team b w h)) (gsum (team b w a))
 (p0.1 + p1.1 + p2.1 + p3.1, p0.2 + p1.2 + p2.2 + p3.2)
def tf (b : Ref07Book) (h a : List Int) : Int :=
 if 4 < h.length ∨ 4 < a.length then 3 else if h.length = 0 ∨ a.length = 0 ∨ ¬ ((h ++ a).all fun n => inr n 0 ((b.fBowlers.length : Int) - 1)) = true ∨ ¬ (h ++ a).Nodup then 1 else 0
theorem made_bd {b : Ref07Book} (v : Val b) (k : Int) {w : Int} (hw : w ≤ 30) : (0 ≤ (made b k w).a0 ∧ (made b k w).a0 ≤ 600) ∧ (0 ≤ (made b k w).a1 ∧ (made b k w).a1 ≤ 600) ∧ (0 ≤ (made b k w).a2 ∧ (made b k w).a2 ≤ 600) := by
 unfold made
 have hh := hcp_bd v k w
 have hl := val_law v
 have ha := avg_bd (k := k) (w := w) v hw (n := 0) (bd0 (by omega))
 cases ho : of b k w with
 | some s =>
  have := of_games v ho
  simp only; omega
 | none => simp only; omega
theorem pt_bd (x y : Int) : 0 ≤ (pt x y).1 ∧ (pt x y).1 ≤ 2 ∧ 0 ≤ (pt x y).2 ∧ (pt x y).2 ≤ 2 := by unfold pt; split <;> (try split) <;> simp
theorem map_sum_bd {f : Int → Int} (hf : ∀ k, 0 ≤ f k ∧ f k ≤ 600) (l : List Int) : 0 ≤ (l.map f).sum ∧ (l.map f).sum ≤ 600 * l.length := by
 have := sum_bd (B := 600) (by omega) (l.map f) (fun x hx => by obtain ⟨k, _, rfl⟩ := List.mem_map.1 hx; exact hf k)
 rwa [List.length_map] at this
theorem team_bd {b : Ref07Book} (v : Val b) {w : Int} (hw : w ≤ 30) (t : List Int) : (0 ≤ (team b w t).a0 ∧ (team b w t).a0 ≤ 600 * t.length) ∧ (0 ≤ (team b w t).a1 ∧ (team b w t).a1 ≤ 600 * t.length) ∧ (0 ≤ (team b w t).a2 ∧ (team b w t).a2 ≤ 600 * t.length) :=
 ⟨map_sum_bd (fun k => (made_bd v k hw).1) t, map_sum_bd (fun k => (made_bd v k hw).2.1) t, map_sum_bd (fun k => (made_bd v k hw).2.2) t⟩
section
variable {N : Nat} (hN : 4000 ≤ N)
include hN
theorem makes_eq {b : Ref07Book} (v : Val b) {k w : Int} (hk : 0 ≤ k ∧ k ≤ (b.fBowlers.length : Int) - 1) (hw : 1 ≤ w ∧ w ≤ 30) (c7 : List RateSheet) (c8 : List Int) :
  rateReadMakes N k w b.fLaw.fBase b.fLaw.fPercent b.fLaw.fCap b.fLaw.fLeast b.fLaw.fBlind b.fBowlers c7 c8 (mapOf b) = some (made b k w) := by
 unfold rateReadMakes made
 have hh := hcp_bd v k w
 have hl := val_law v
 have ha := avg_bd (k := k) (w := w) v hw.2 (n := 0) (bd0 (by omega))
 simp only [ravg0 hN v hk hw, rhcp hN v hk hw, mgt, map_of, Option.bind_some]
 cases ho : of b k w with
 | some s =>
  have hg := of_games v ho
  simp only [Option.map_some, Option.isSome_some, Option.getD_some, if_true, Option.bind_some]
  have e : (cs s).fGames = s.fGames := rfl
  rw [e, w64_id (n := s.fGames.a0 + hcp b k w) (by omega) (by omega), w64_id (n := s.fGames.a1 + hcp b k w) (by omega) (by omega), w64_id (n := s.fGames.a2 + hcp b k w) (by omega) (by omega)]
 | none =>
  simp only [Option.map_none, Option.isSome_none, Option.getD_none, Bool.false_eq_true, if_false, Option.bind_some]
  rw [w64_id (n := avg b k w (0, 0) - b.fLaw.fBlind) (by omega) (by omega), w64_id (n := max 0 (avg b k w (0, 0) - b.fLaw.fBlind) + hcp b k w) (by omega) (by omega)]
theorem match1_eq {b : Ref07Book} (v : Val b) {w : Int} (hw : 1 ≤ w ∧ w ≤ 30) (t : List Int) (ht : t.length ≤ 1000) (hk : ∀ k ∈ t, 0 ≤ k ∧ k ≤ (b.fBowlers.length : Int) - 1) (c7 : List RateSheet) (c8 : List Int) :
  rateMatch1X N t w b.fLaw.fBase b.fLaw.fPercent b.fLaw.fCap b.fLaw.fLeast b.fLaw.fBlind b.fBowlers c7 c8 (mapOf b) = some (four (team b w t)) := by
 unfold rateMatch1X
 have hm : mkl N 3 (0 : Int) = some [0, 0, 0] := by unfold mkl; rw [if_pos (by omega)]; rfl
 rw [hm, Option.bind_some]
 have := loop_list (N := N) (B := fun rec3 x => rateMatch1X_b1 N t w b.fLaw.fBase b.fLaw.fPercent b.fLaw.fCap b.fLaw.fLeast b.fLaw.fBlind b.fBowlers c7 c8 (mapOf b) rec3 x.1 x.2.1 x.2.2) t (fun i (a : Ar3 Int) => ((t.length : Int), (i : Int), [a.a0, a.a1, a.a2]))
  (fun r a => some [a.a0 + (team b w r).a0, a.a1 + (team b w r).a1, a.a2 + (team b w r).a2]) (fun i a => (0 ≤ a.a0 ∧ a.a0 ≤ 600 * i) ∧ (0 ≤ a.a1 ∧ a.a1 ≤ 600 * i) ∧ (0 ≤ a.a2 ∧ a.a2 ≤ 600 * i))
  (fun a rec _ => by
   show rateMatch1X_b1 N t w _ _ _ _ _ _ c7 c8 (mapOf b) rec (t.length : Int) (t.length : Int) _ = _
   unfold rateMatch1X_b1
   rw [decide_eq_false (by omega)]
   simp [team])
  (fun i x a rec hx hok h => by
   have hlt := len_lt hx
   have hkx := hk x (List.mem_of_getElem? hx)
   show rateMatch1X_b1 N t w _ _ _ _ _ _ c7 c8 (mapOf b) rec _ (i : Int) _ = _
   unfold rateMatch1X_b1
   simp only [show ((i : Int) < (t.length : Int)) from by omega, decide_true, if_true, idx_at hx, Option.bind_some, makes_eq hN v hkx hw, w64_succ (i := i) (by omega)]
   have hmd := made_bd v x hw.2
   have e0 : ∀ (p q r : Int), idx [p, q, r] 0 = some p := fun _ _ _ => rfl
   have e1 : ∀ (p q r : Int), idx [p, q, r] 1 = some q := fun _ _ _ => rfl
   have e2 : ∀ (p q r : Int), idx [p, q, r] 2 = some r := fun _ _ _ => rfl
   have s0 : ∀ (p q r z : Int), List.set [p, q, r] (Int.toNat 0) z = [z, q, r] := fun _ _ _ _ => rfl
   have s1 : ∀ (p q r z : Int), List.set [p, q, r] (Int.toNat 1) z = [p, z, r] := fun _ _ _ _ => rfl
   have s2 : ∀ (p q r z : Int), List.set [p, q, r] (Int.toNat 2) z = [p, q, z] := fun _ _ _ _ => rfl
   simp only [e0, s0, e1, s1, e2, s2, Option.bind_some]
   rw [w64_id (n := a.a0 + (made b x w).a0) (by omega) (by omega), w64_id (n := a.a1 + (made b x w).a1) (by omega) (by omega), w64_id (n := a.a2 + (made b x w).a2) (by omega) (by omega)]
   have := h ⟨a.a0 + (made b x w).a0, a.a1 + (made b x w).a1, a.a2 + (made b x w).a2⟩ (by simp only; omega)
   simp only at this
   rw [this]
   simp only [team, List.map_cons, List.sum_cons, Int.add_assoc]) (by omega) ⟨0, 0, 0⟩ (by simp)
 have this' : loopN (fun rec3 x => rateMatch1X_b1 N t w b.fLaw.fBase b.fLaw.fPercent b.fLaw.fCap b.fLaw.fLeast b.fLaw.fBlind b.fBowlers c7 c8 (mapOf b) rec3 x.1 x.2.1 x.2.2) N (((t.length : Int), 0, [0, 0, 0])) = some [(team b w t).a0, (team b w t).a1, (team b w t).a2] := by
  simpa using this
 rw [this', Option.bind_some]
 have hb := team_bd v hw.2 t
 rw [sum_eq hN _ (by intro x hx; simp only [List.mem_cons, List.not_mem_nil, or_false] at hx; rcases hx with rfl | rfl | rfl <;> omega) (by simp), Option.bind_some, app_ok (by simp; omega), Option.bind_some]
 simp [four, Int.add_assoc]
theorem mloop (l m : List Int) (hl : l.length ≤ 4) (hm : l.length = m.length) :
  loopN (fun rec5 x => rateMatch_b2 N l m rec5 x.1 x.2.1 x.2.2.1 x.2.2.2) N ((0, 0, (l.length : Int), 0)) = some (((l.zip m).map fun q => (pt q.1 q.2).1).sum, ((l.zip m).map fun q => (pt q.1 q.2).2).sum) := by
 have := loop_list (N := N) (B := fun rec5 x => rateMatch_b2 N l m rec5 x.1 x.2.1 x.2.2.1 x.2.2.2) (l.zip m) (fun i (a : Int × Int) => (a.1, a.2, (l.length : Int), (i : Int)))
  (fun r a => some (a.1 + (r.map fun q => (pt q.1 q.2).1).sum, a.2 + (r.map fun q => (pt q.1 q.2).2).sum)) (fun i a => (0 ≤ a.1 ∧ a.1 ≤ 2 * i) ∧ (0 ≤ a.2 ∧ a.2 ≤ 2 * i))
  (fun a rec _ => by
   show rateMatch_b2 N l m rec _ _ (l.length : Int) ((l.zip m).length : Int) = _
   unfold rateMatch_b2
   rw [decide_eq_false (by rw [List.length_zip]; omega)]
   simp)
  (fun i x a rec hx hok h => by
   have hlt := len_lt hx
   rw [List.length_zip] at hlt
   rw [List.getElem?_zip_eq_some] at hx
   show rateMatch_b2 N l m rec a.1 a.2 _ (i : Int) = _
   unfold rateMatch_b2
   simp only [show ((i : Int) < (l.length : Int)) from by omega, decide_true, if_true, idx_at hx.1, idx_at hx.2, Option.bind_some, w64_succ (i := i) (by omega), List.map_cons, List.sum_cons]
   have hp := pt_bd x.1 x.2
   have := h (a.1 + (pt x.1 x.2).1, a.2 + (pt x.1 x.2).2) (by simp only; omega)
   simp only [Int.add_assoc] at this ⊢
   rw [← this]
   unfold pt at hp ⊢
   by_cases c1 : x.2 < x.1
   ·simp only [c1, decide_true, if_true, Option.bind_some]
    rw [w64_id (by omega) (by omega), Int.add_zero]
   ·by_cases c2 : x.1 < x.2
    ·simp only [c1, c2, decide_true, decide_false, Bool.false_eq_true, if_false, if_true, Option.bind_some]
     rw [w64_id (by omega) (by omega), Int.add_zero]
    ·simp only [c1, c2, decide_false, Bool.false_eq_true, if_false, Option.bind_some]
     rw [w64_id (by omega) (by omega), w64_id (by omega) (by omega)]) (by rw [List.length_zip]; omega) (0, 0) (by simp)
 simpa using this
theorem grow_eq (n : Int) (h : 0 ≤ n ∧ n ≤ 1000) : slicesGrow N n = some [] := by
 unfold slicesGrow
 rw [decide_eq_false (by omega), w64_id (n := n - 0) (by omega) (by omega), Int.sub_zero]
 simp only [Bool.false_eq_true, if_false]
 by_cases hp : 0 < n
 ·simp only [hp, decide_true, if_true]
  unfold mklp
  rw [if_pos ⟨hp, by omega⟩, Option.bind_some, slc_ok (by omega) (by omega) (by omega)]
  rfl
 ·simp [hp]
theorem concat_eq (h a : List Int) (hh : h.length ≤ 400) (ha : a.length ≤ 400) : slicesConcat N [h, a] = some (h ++ a) := by
 unfold slicesConcat
 obtain ⟨m, rfl⟩ : ∃ m, N = m + 3 := ⟨N - 3, by omega⟩
 have e0 : idx [h, a] 0 = some h := rfl
 have e1 : idx [h, a] 1 = some a := rfl
 have w1 : w64 ((0 : Int) + 1) = 1 := rfl
 have w2 : w64 ((1 : Int) + 1) = 2 := rfl
 have l1 : loopN (fun rec3 x => slicesConcat_b1 (m + 3) [h, a] rec3 x.1 x.2.1 x.2.2) (m + 3) ((0, (([h, a] : List (List Int)).length : Int), 0)) = some ((h.length : Int) + a.length) := by
  show slicesConcat_b1 (m + 3) [h, a] _ _ _ _ = _
  unfold slicesConcat_b1
  have lt1 : ((0 : Int) < (([h, a] : List (List Int)).length : Int)) := by simp
  simp only [lt1, decide_true, if_true, e0, Option.bind_some, w1]
  rw [w64_id (n := 0 + (h.length : Int)) (by omega) (by omega), decide_eq_false (by omega)]
  simp only [Bool.false_eq_true, if_false]
  show slicesConcat_b1 (m + 3) [h, a] _ _ _ _ = _
  unfold slicesConcat_b1
  have lt2 : ((1 : Int) < (([h, a] : List (List Int)).length : Int)) := by simp
  simp only [lt2, decide_true, if_true, e1, Option.bind_some, w2]
  rw [w64_id (n := 0 + (h.length : Int) + (a.length : Int)) (by omega) (by omega), decide_eq_false (by omega)]
  simp only [Bool.false_eq_true, if_false]
  show slicesConcat_b1 (m + 3) [h, a] _ _ _ _ = _
  unfold slicesConcat_b1
  have lt3 : ¬ ((2 : Int) < (([h, a] : List (List Int)).length : Int)) := by simp
  rw [decide_eq_false lt3]
  simp
 rw [l1, Option.bind_some, grow_eq hN _ (by omega), Option.bind_some]
 have l2 : loopN (fun rec5 x => slicesConcat_b2 (m + 3) [h, a] rec5 x.1 x.2.1 x.2.2) (m + 3) (((([h, a] : List (List Int)).length : Int), 0, [])) = some (h ++ a) := by
  show slicesConcat_b2 (m + 3) [h, a] _ _ _ _ = _
  unfold slicesConcat_b2
  have lt1 : ((0 : Int) < (([h, a] : List (List Int)).length : Int)) := by simp
  simp only [lt1, decide_true, if_true, e0, Option.bind_some, w1]
  rw [app_ok (by simp; omega), Option.bind_some]
  show slicesConcat_b2 (m + 3) [h, a] _ _ _ _ = _
  unfold slicesConcat_b2
  have lt2 : ((1 : Int) < (([h, a] : List (List Int)).length : Int)) := by simp
  simp only [lt2, decide_true, if_true, e1, Option.bind_some, w2]
  rw [app_ok (by simp; omega), Option.bind_some]
  show slicesConcat_b2 (m + 3) [h, a] _ _ _ _ = _
  unfold slicesConcat_b2
  have lt3 : ¬ ((2 : Int) < (([h, a] : List (List Int)).length : Int)) := by simp
  rw [decide_eq_false lt3]
  simp
 rw [l2]; rfl
theorem allXXX_eq (b : RateBook) (h : b.fBowlers.length ≤ 1000) (l : List Int) (hl : l.length ≤ 1000) : rateAllXXX N b l = some (l.all fun n => inr n 0 ((b.fBowlers.length : Int) - 1)) := by
 unfold rateAllXXX slicesContainsFuncXXX slicesIndexFuncXXX
 exact all_shape l (fun x => rateAll1XXX N x b) _ (fun x _ => by unfold rateAll1XXX; rw [bowler_eq hN b h]; rfl) (by omega) (by omega)
omit hN in
theorem sort_rises (l : List Int) : ris (l.mergeSort fun x y => decide (x ≤ y)) = decide l.Nodup := by
 have hp := List.mergeSort_perm l (fun x y : Int => decide (x ≤ y))
 have hs : (l.mergeSort fun x y => decide (x ≤ y)).Pairwise (fun a b => decide (a ≤ b) = true) := List.pairwise_mergeSort (le := fun x y : Int => decide (x ≤ y)) (fun a b c h1 h2 => by simp at *; omega) (fun a b => by simp; omega) l
 rw [Bool.eq_iff_iff, ris_iff, decide_eq_true_eq, ← hp.nodup_iff]
 constructor
 ·intro h; exact h.imp fun h => by omega
 ·intro h
  have h := List.nodup_iff_pairwise_ne.1 h
  exact (hs.and h).imp fun ⟨h1, h2⟩ => by simp at h1; omega
theorem teams_eq (b : Ref07Book) (hb : b.fBowlers.length ≤ 1000) (h a : List Int) : rateBookTeams N (cb b) h a = some (tf b h a) := by
 unfold rateBookTeams tf
 by_cases c1 : 4 < h.length
 ·have d1 : (4 : Int) < (h.length : Int) := by omega
  simp [c1, d1]
 ·by_cases c2 : 4 < a.length
  ·have d1 : ¬ ((4 : Int) < (h.length : Int)) := by omega
   have d2 : (4 : Int) < (a.length : Int) := by omega
   simp [c1, c2, d1, d2]
  ·have d1 : ¬ ((4 : Int) < (h.length : Int)) := by omega
   have d2 : ¬ ((4 : Int) < (a.length : Int)) := by omega
   simp only [d1, d2, c1, c2, decide_false, Bool.false_eq_true, if_false, or_self, Option.bind_some]
   rw [concat_eq hN h a (by omega) (by omega), Option.bind_some, allXXX_eq hN (cb b) hb (h ++ a) (by simp; omega)]
   have e : (cb b).fBowlers = b.fBowlers := rfl
   rw [e]
   have hs : sortI N (h ++ a) = some ((h ++ a).mergeSort fun x y => decide (x ≤ y)) := by unfold sortI; rw [if_pos (by simp; omega)]
   rw [hs]
   simp only [Option.bind_some]
   rw [risingX_eq hN _ (by rw [List.length_mergeSort]; simp; omega), sort_rises]
   by_cases c3 : h.length = 0
   ·simp [c3]
   ·by_cases c4 : a.length = 0
    ·simp [c3, c4]
    ·have d3 : ¬ ((h.length : Int) = 0) := by omega
     have d4 : ¬ ((a.length : Int) = 0) := by omega
     simp only [d3, d4, c3, c4, decide_false, Bool.false_eq_true, if_false, false_or, Option.bind_some]
     by_cases c5 : ((h ++ a).all fun n => inr n 0 ((b.fBowlers.length : Int) - 1)) = true
     ·by_cases c6 : (h ++ a).Nodup <;> simp only [c5, c6, decide_true, decide_false, Bool.not_true, Bool.not_false, Bool.false_eq_true, if_false, if_true, not_true_eq_false, not_false_eq_true, or_true, or_self, false_or, Option.bind_some]
     ·simp only [Bool.not_eq_true] at c5
      simp only [c5, Bool.not_false, if_true, Bool.false_eq_true, not_false_eq_true, true_or]
omit hN in
theorem tf_zero {b : Ref07Book} {h a : List Int} (ht : tf b h a = 0) : (h.length ≤ 4 ∧ a.length ≤ 4) ∧ (1 ≤ h.length ∧ 1 ≤ a.length) ∧ (∀ k ∈ h ++ a, 0 ≤ k ∧ k ≤ (b.fBowlers.length : Int) - 1) ∧ (h ++ a).Nodup := by
 unfold tf at ht
 split at ht
 ·cases ht
 ·rename_i h1
  split at ht
  ·cases ht
  ·rename_i h2
   simp only [not_or, Decidable.not_not] at h1 h2
   refine ⟨by omega, by omega, fun k hk => ?_, h2.2.2.2⟩
   exact inr_iff.1 (List.all_eq_true.1 h2.2.2.1 k hk)
def mer (b : Ref07Book) (w : Int) (h a : List Int) : Int := if flt b = 0 then (if inr w 1 30 then tf b h a else 2) else flt b
omit hN in
theorem mer_zero {b : Ref07Book} {w : Int} {h a : List Int} (hm : mer b w h a = 0) : Val b ∧ (1 ≤ w ∧ w ≤ 30) ∧ tf b h a = 0 := by
 unfold mer at hm
 split at hm
 ·rename_i h1
  split at hm
  ·rename_i h2
   exact ⟨flt_zero.1 h1, inr_iff.1 h2, hm⟩
  ·cases hm
 ·rename_i h1; exact absurd hm h1
theorem match_eq (b : Ref07Book) (hb : b.fBowlers.length ≤ 1000) (w : Int) (h a : List Int) : rateMatch N (cb b) w h a = some (if mer b w h a = 0 then ((mtch b w h a).1, (mtch b w h a).2, 0) else (0, 0, mer b w h a)) := by
 unfold rateMatch
 rw [read_eq hN, Option.bind_some]
 by_cases hf : flt b = 0
 ·rw [if_pos hf]
  simp only [decide_true, if_true, week_eq, Option.bind_some]
  have hmer : mer b w h a = if inr w 1 30 then tf b h a else 2 := by unfold mer; rw [if_pos hf]
  by_cases q : inr w 1 30 = true
  ·simp only [q, Bool.not_true, Bool.false_eq_true, if_false, decide_true, if_true, Option.bind_some, teams_eq hN b hb] at hmer ⊢
   rw [← hmer]
   by_cases ht : mer b w h a = 0
   ·obtain ⟨v, hw, ht2⟩ := mer_zero ht
    obtain ⟨h1, h2, h3, h4⟩ := tf_zero ht2
    simp only [ht, decide_true, Bool.not_true, Bool.false_eq_true, if_false, if_true]
    rw [match1_eq hN v hw h (by omega) (fun k hk => h3 k (by simp [hk])), Option.bind_some, match1_eq hN v hw a (by omega) (fun k hk => h3 k (by simp [hk])), Option.bind_some, mloop hN _ _ (by simp [four]) (by simp [four]), Option.bind_some]
    simp [four, mtch, gsum, Int.add_assoc]
   ·simp [ht]
  ·simp only [Bool.not_eq_true] at q
   simp only [q, Bool.not_false, if_true, Bool.false_eq_true, if_false, Option.bind_some] at hmer ⊢
   rw [hmer]; rfl
 ·have hmer : mer b w h a = flt b := by unfold mer; rw [if_neg hf]
  rw [if_neg hf, hmer]
  simp [hf]
end
end Go.Proofs.YtignpdbcgjllkaaGreat.R
set_option linter.all false
namespace Go.Proofs.YtignpdbcgjllkaaGreat.R
open Go.Kp
section
variable {N : Nat} (hN : 4000 ≤ N)
include hN
theorem thin_eq (b : Ref07Book) : law07Thin N b = some (decide (b.fBowlers.length ≤ 12 ∧ b.fSheets.length ≤ 45 ∧ b.fWithdrawn.length ≤ 45)) := by
 unfold law07Thin
 by_cases c1 : b.fBowlers.length ≤ 12
 ·by_cases c2 : b.fSheets.length ≤ 45
  ·by_cases c3 : b.fWithdrawn.length ≤ 45
   ·have d1 : ((b.fBowlers.length : Int) ≤ 12) := by omega
    have d2 : ((b.fSheets.length : Int) ≤ 45) := by omega
    have d3 : ((b.fWithdrawn.length : Int) ≤ 45) := by omega
    simp [c1, c2, c3, d1, d2, d3]
   ·have d1 : ((b.fBowlers.length : Int) ≤ 12) := by omega
    have d2 : ((b.fSheets.length : Int) ≤ 45) := by omega
    have d3 : ¬ ((b.fWithdrawn.length : Int) ≤ 45) := by omega
    simp [c1, c2, c3, d1, d2, d3]
  ·have d1 : ((b.fBowlers.length : Int) ≤ 12) := by omega
   have d2 : ¬ ((b.fSheets.length : Int) ≤ 45) := by omega
   simp [c1, c2, d1, d2]
 ·have d1 : ¬ ((b.fBowlers.length : Int) ≤ 12) := by omega
  simp [c1, d1]
end
end Go.Proofs.YtignpdbcgjllkaaGreat.R
set_option linter.all false
namespace Go.Proofs.YtignpdbcgjllkaaGreat.R
open Go.Kp
section
variable {N : Nat} (hN : 4000 ≤ N)
include hN
end
end Go.Proofs.YtignpdbcgjllkaaGreat.R
set_option linter.all false
namespace Go.Proofs.YtignpdbcgjllkaaGreat.R
open Go.Kp
def hq (b : Ref07Book) (A : Int) : Int := min (max 0 (Int.tdiv ((b.fLaw.fBase - A) * b.fLaw.fPercent) 100)) b.fLaw.fCap
theorem pt_sum (x y : Int) : (pt x y).1 + (pt x y).2 = 2 := by unfold pt; split <;> (try split) <;> simp
theorem mtch_sum (b : Ref07Book) (w : Int) (h a : List Int) : (mtch b w h a).1 + (mtch b w h a).2 = 8 := by
 unfold mtch
 have := pt_sum (team b w h).a0 (team b w a).a0
 have := pt_sum (team b w h).a1 (team b w a).a1
 have := pt_sum (team b w h).a2 (team b w a).a2
 have := pt_sum (gsum (team b w h)) (gsum (team b w a))
 simp only
 omega
section
variable {N : Nat} (hN : 4000 ≤ N)
include hN
end
end Go.Proofs.YtignpdbcgjllkaaGreat.R
