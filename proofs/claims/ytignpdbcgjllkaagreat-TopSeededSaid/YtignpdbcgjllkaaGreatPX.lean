/-
 The theory of the parts.
-/
import Derived.KernelRfl
import Derived.Test.YtignpdbcgjllkaaGreatDef
import Derived.Test.YtignpdbcgjllkaaGreatLib
set_option linter.all false
namespace Go.Proofs.YtignpdbcgjllkaaGreat.L
open Go.Kp
structure Ref09Side where
 fPlayer : Int
 fMatch : Int
 deriving DecidableEq
structure Ref09Pair where
 fFirst : Ref09Side
 fSecond : Ref09Side
 deriving DecidableEq
def ladT : List (List (Int × Int)) := [[], [], [(0, 1)], [(1, 2), (0, -1)], [(2, 3), (1, -1), (0, -2)], [(3, 4), (2, -1), (1, -2), (0, -3)], [(4, 5), (3, -1), (2, -2), (1, -3), (0, -4)], [(5, 6), (4, -1), (3, -2), (2, -3), (1, -4), (0, -5)], [(6, 7), (5, -1), (4, -2), (3, -3), (2, -4), (1, -5), (0, -6)], [(7, 8), (6, -1), (5, -2), (4, -3), (3, -4), (2, -5), (1, -6), (0, -7)], [(8, 9), (7, -1), (6, -2), (5, -3), (4, -4), (3, -5), (2, -6), (1, -7), (0, -8)], [(9, 10), (8, -1), (7, -2), (6, -3), (5, -4), (4, -5), (3, -6), (2, -7), (1, -8), (0, -9)], [(10, 11), (9, -1), (8, -2), (7, -3), (6, -4), (5, -5), (4, -6), (3, -7), (2, -8), (1, -9), (0, -10)], [(11, 12), (10, -1), (9, -2), (8, -3), (7, -4), (6, -5), (5, -6), (4, -7), (3, -8), (2, -9), (1, -10), (0, -11)], [(12, 13), (11, -1), (10, -2), (9, -3), (8, -4), (7, -5), (6, -6), (5, -7), (4, -8), (3, -9), (2, -10), (1, -11), (0, -12)], [(13, 14), (12, -1), (11, -2), (10, -3), (9, -4), (8, -5), (7, -6), (6, -7), (5, -8), (4, -9), (3, -10), (2, -11), (1, -12), (0, -13)], [(14, 15), (13, -1), (12, -2), (11, -3), (10, -4), (9, -5), (8, -6), (7, -7), (6, -8), (5, -9), (4, -10), (3, -11), (2, -12), (1, -13), (0, -14)]]
def brkT : List (List (Int × Int)) := [[], [], [(0, 1)], [(1, 2), (0, -1)], [(0, 3), (1, 2), (-1, -2)], [(3, 4), (0, -1), (1, 2), (-2, -3)], [(3, 4), (2, 5), (0, -1), (1, -2), (-3, -4)], [(3, 4), (1, 6), (2, 5), (0, -1), (-2, -3), (-4, -5)], [(0, 7), (3, 4), (1, 6), (2, 5), (-1, -2), (-3, -4), (-5, -6)], [(7, 8), (0, -1), (3, 4), (1, 6), (2, 5), (-2, -3), (-4, -5), (-6, -7)], [(7, 8), (6, 9), (0, -1), (3, 4), (1, -2), (2, 5), (-3, -4), (-5, -6), (-7, -8)], [(7, 8), (6, 9), (5, 10), (0, -1), (3, 4), (1, -2), (2, -3), (-4, -5), (-6, -7), (-8, -9)], [(7, 8), (4, 11), (6, 9), (5, 10), (0, -1), (3, -2), (1, -3), (2, -4), (-5, -6), (-7, -8), (-9, -10)], [(7, 8), (3, 12), (4, 11), (6, 9), (5, 10), (0, -1), (-2, -3), (1, -4), (2, -5), (-6, -7), (-8, -9), (-10, -11)], [(7, 8), (3, 12), (4, 11), (6, 9), (2, 13), (5, 10), (0, -1), (-2, -3), (1, -4), (-5, -6), (-7, -8), (-9, -10), (-11, -12)], [(7, 8), (3, 12), (4, 11), (1, 14), (6, 9), (2, 13), (5, 10), (0, -1), (-2, -3), (-4, -5), (-6, -7), (-8, -9), (-10, -11), (-12, -13)], [(0, 15), (7, 8), (3, 12), (4, 11), (1, 14), (6, 9), (2, 13), (5, 10), (-1, -2), (-3, -4), (-5, -6), (-7, -8), (-9, -10), (-11, -12), (-13, -14)]]
def sd (x : Int) : Ref09Side := if 0 ≤ x then ⟨x, -1⟩ else ⟨-1, -1 - x⟩
def tre (b : Bool) (P : Nat) : List Ref09Pair := ((if b then ladT else brkT).getD P []).map fun p => ⟨sd p.1, sd p.2⟩
def csd (s : Ref09Side) : LadderSide := ⟨s.fPlayer, s.fMatch⟩
def cpr (p : Ref09Pair) : LadderPair := ⟨csd p.fFirst, csd p.fSecond⟩
theorem pl2 {k : Nat} {F G : Int} {rs : List LadderResult} : ladderCupLadder (k + 4000) ⟨F, 2, G, rs⟩ = some ((tre true 2).map cpr) := by kernel_rfl
theorem pb2 {k : Nat} {F G : Int} {rs : List LadderResult} : ladderCupBracket (k + 4000) ⟨F, 2, G, rs⟩ = some ((tre false 2).map cpr) := by kernel_rfl
theorem pl3 {k : Nat} {F G : Int} {rs : List LadderResult} : ladderCupLadder (k + 4000) ⟨F, 3, G, rs⟩ = some ((tre true 3).map cpr) := by kernel_rfl
theorem pb3 {k : Nat} {F G : Int} {rs : List LadderResult} : ladderCupBracket (k + 4000) ⟨F, 3, G, rs⟩ = some ((tre false 3).map cpr) := by kernel_rfl
theorem pl4 {k : Nat} {F G : Int} {rs : List LadderResult} : ladderCupLadder (k + 4000) ⟨F, 4, G, rs⟩ = some ((tre true 4).map cpr) := by kernel_rfl
theorem pb4 {k : Nat} {F G : Int} {rs : List LadderResult} : ladderCupBracket (k + 4000) ⟨F, 4, G, rs⟩ = some ((tre false 4).map cpr) := by kernel_rfl
theorem pl5 {k : Nat} {F G : Int} {rs : List LadderResult} : ladderCupLadder (k + 4000) ⟨F, 5, G, rs⟩ = some ((tre true 5).map cpr) := by kernel_rfl
theorem pb5 {k : Nat} {F G : Int} {rs : List LadderResult} : ladderCupBracket (k + 4000) ⟨F, 5, G, rs⟩ = some ((tre false 5).map cpr) := by kernel_rfl
theorem pl6 {k : Nat} {F G : Int} {rs : List LadderResult} : ladderCupLadder (k + 4000) ⟨F, 6, G, rs⟩ = some ((tre true 6).map cpr) := by kernel_rfl
theorem pb6 {k : Nat} {F G : Int} {rs : List LadderResult} : ladderCupBracket (k + 4000) ⟨F, 6, G, rs⟩ = some ((tre false 6).map cpr) := by kernel_rfl
theorem pl7 {k : Nat} {F G : Int} {rs : List LadderResult} : ladderCupLadder (k + 4000) ⟨F, 7, G, rs⟩ = some ((tre true 7).map cpr) := by kernel_rfl
theorem pb7 {k : Nat} {F G : Int} {rs : List LadderResult} : ladderCupBracket (k + 4000) ⟨F, 7, G, rs⟩ = some ((tre false 7).map cpr) := by kernel_rfl
theorem pl8 {k : Nat} {F G : Int} {rs : List LadderResult} : ladderCupLadder (k + 4000) ⟨F, 8, G, rs⟩ = some ((tre true 8).map cpr) := by kernel_rfl
theorem pb8 {k : Nat} {F G : Int} {rs : List LadderResult} : ladderCupBracket (k + 4000) ⟨F, 8, G, rs⟩ = some ((tre false 8).map cpr) := by kernel_rfl
theorem pl9 {k : Nat} {F G : Int} {rs : List LadderResult} : ladderCupLadder (k + 4000) ⟨F, 9, G, rs⟩ = some ((tre true 9).map cpr) := by kernel_rfl
theorem pb9 {k : Nat} {F G : Int} {rs : List LadderResult} : ladderCupBracket (k + 4000) ⟨F, 9, G, rs⟩ = some ((tre false 9).map cpr) := by kernel_rfl
theorem pl10 {k : Nat} {F G : Int} {rs : List LadderResult} : ladderCupLadder (k + 4000) ⟨F, 10, G, rs⟩ = some ((tre true 10).map cpr) := by kernel_rfl
theorem pb10 {k : Nat} {F G : Int} {rs : List LadderResult} : ladderCupBracket (k + 4000) ⟨F, 10, G, rs⟩ = some ((tre false 10).map cpr) := by kernel_rfl
theorem pl11 {k : Nat} {F G : Int} {rs : List LadderResult} : ladderCupLadder (k + 4000) ⟨F, 11, G, rs⟩ = some ((tre true 11).map cpr) := by kernel_rfl
theorem pb11 {k : Nat} {F G : Int} {rs : List LadderResult} : ladderCupBracket (k + 4000) ⟨F, 11, G, rs⟩ = some ((tre false 11).map cpr) := by kernel_rfl
theorem pl12 {k : Nat} {F G : Int} {rs : List LadderResult} : ladderCupLadder (k + 4000) ⟨F, 12, G, rs⟩ = some ((tre true 12).map cpr) := by kernel_rfl
theorem pb12 {k : Nat} {F G : Int} {rs : List LadderResult} : ladderCupBracket (k + 4000) ⟨F, 12, G, rs⟩ = some ((tre false 12).map cpr) := by kernel_rfl
theorem pl13 {k : Nat} {F G : Int} {rs : List LadderResult} : ladderCupLadder (k + 4000) ⟨F, 13, G, rs⟩ = some ((tre true 13).map cpr) := by kernel_rfl
theorem pb13 {k : Nat} {F G : Int} {rs : List LadderResult} : ladderCupBracket (k + 4000) ⟨F, 13, G, rs⟩ = some ((tre false 13).map cpr) := by kernel_rfl
theorem pl14 {k : Nat} {F G : Int} {rs : List LadderResult} : ladderCupLadder (k + 4000) ⟨F, 14, G, rs⟩ = some ((tre true 14).map cpr) := by kernel_rfl
theorem pb14 {k : Nat} {F G : Int} {rs : List LadderResult} : ladderCupBracket (k + 4000) ⟨F, 14, G, rs⟩ = some ((tre false 14).map cpr) := by kernel_rfl
theorem pl15 {k : Nat} {F G : Int} {rs : List LadderResult} : ladderCupLadder (k + 4000) ⟨F, 15, G, rs⟩ = some ((tre true 15).map cpr) := by kernel_rfl
theorem pb15 {k : Nat} {F G : Int} {rs : List LadderResult} : ladderCupBracket (k + 4000) ⟨F, 15, G, rs⟩ = some ((tre false 15).map cpr) := by kernel_rfl
theorem pl16 {k : Nat} {F G : Int} {rs : List LadderResult} : ladderCupLadder (k + 4000) ⟨F, 16, G, rs⟩ = some ((tre true 16).map cpr) := by kernel_rfl
theorem pb16 {k : Nat} {F G : Int} {rs : List LadderResult} : ladderCupBracket (k + 4000) ⟨F, 16, G, rs⟩ = some ((tre false 16).map cpr) := by kernel_rfl
theorem pcases {P : Int} (h1 : 2 ≤ P) (h2 : P ≤ 16) : P = 2 ∨ P = 3 ∨ P = 4 ∨ P = 5 ∨ P = 6 ∨ P = 7 ∨ P = 8 ∨ P = 9 ∨ P = 10 ∨ P = 11 ∨ P = 12 ∨ P = 13 ∨ P = 14 ∨ P = 15 ∨ P = 16 := by omega
section
variable {N : Nat} (hN : 4000 ≤ N)
include hN
theorem ptree_eq (c : LadderCup) (h1 : 2 ≤ c.fPlayers) (h2 : c.fPlayers ≤ 16) : ladderCupTree N c = some ((tre (decide (c.fForm = 1)) c.fPlayers.toNat).map cpr) := by
 obtain ⟨k, rfl⟩ : ∃ k, N = k + 4000 := ⟨N - 4000, by omega⟩
 obtain ⟨F, P, G, rs⟩ := c
 unfold ladderCupTree
 by_cases hF : F = 1
 ·simp only [hF, decide_true, if_true]
  rcases pcases h1 h2 with rfl | rfl | rfl | rfl | rfl | rfl | rfl | rfl | rfl | rfl | rfl | rfl | rfl | rfl | rfl
  ·rw [pl2]; rfl
  ·rw [pl3]; rfl
  ·rw [pl4]; rfl
  ·rw [pl5]; rfl
  ·rw [pl6]; rfl
  ·rw [pl7]; rfl
  ·rw [pl8]; rfl
  ·rw [pl9]; rfl
  ·rw [pl10]; rfl
  ·rw [pl11]; rfl
  ·rw [pl12]; rfl
  ·rw [pl13]; rfl
  ·rw [pl14]; rfl
  ·rw [pl15]; rfl
  ·rw [pl16]; rfl
 ·simp only [hF, decide_false, Bool.false_eq_true, if_false]
  rcases pcases h1 h2 with rfl | rfl | rfl | rfl | rfl | rfl | rfl | rfl | rfl | rfl | rfl | rfl | rfl | rfl | rfl
  ·rw [pb2]; rfl
  ·rw [pb3]; rfl
  ·rw [pb4]; rfl
  ·rw [pb5]; rfl
  ·rw [pb6]; rfl
  ·rw [pb7]; rfl
  ·rw [pb8]; rfl
  ·rw [pb9]; rfl
  ·rw [pb10]; rfl
  ·rw [pb11]; rfl
  ·rw [pb12]; rfl
  ·rw [pb13]; rfl
  ·rw [pb14]; rfl
  ·rw [pb15]; rfl
  ·rw [pb16]; rfl
end
end Go.Proofs.YtignpdbcgjllkaaGreat.L
set_option linter.all false
namespace Go.Proofs.YtignpdbcgjllkaaGreat.L
open Go.Kp
abbrev Tr := List Ref09Pair
def dP : Ref09Pair := ⟨⟨-1, -1⟩, ⟨-1, -1⟩⟩
def fs (T : Tr) (n : Nat) : Ref09Side := (T.getD n dP).fFirst
def sn (T : Tr) (n : Nat) : Ref09Side := (T.getD n dP).fSecond
def sok (P n : Nat) (s : Ref09Side) : Prop := (s.fMatch = -1 ∧ 0 ≤ s.fPlayer ∧ s.fPlayer < P) ∨ (s.fPlayer = -1 ∧ 0 ≤ s.fMatch ∧ s.fMatch < n)
instance (P n : Nat) (s : Ref09Side) : Decidable (sok P n s) := by unfold sok; infer_instance
def par (T : Tr) (m : Nat) : Option (Nat × Bool) :=
 (List.range T.length).findSome? fun n => if (fs T n).fMatch = m then some (n, true) else if (sn T n).fMatch = m then some (n, false) else none
def ms (s : Ref09Side) : List Nat := if s.fMatch < 0 then [] else [s.fMatch.toNat]
def kids (T : Tr) : List Nat := T.flatMap fun p => ms p.fFirst ++ ms p.fSecond
def bsA (acc : List (List Int)) (s : Ref09Side) : List Int := if s.fMatch < 0 then [s.fPlayer] else acc.getD s.fMatch.toNat []
def belT (T : Tr) : List (List Int) := T.foldl (fun acc p => acc ++ [bsA acc p.fFirst ++ bsA acc p.fSecond]) []
def bel (T : Tr) (n : Nat) : List Int := (belT T).getD n []
def bs (T : Tr) (s : Ref09Side) : List Int := if s.fMatch < 0 then [s.fPlayer] else bel T s.fMatch.toNat
def players (P : Nat) : List Int := (List.range P).map fun (n : Nat) => (n : Int)
structure TOK (T : Tr) (P : Nat) : Prop where
 len : T.length + 1 = P
 side : ∀ n, n < T.length → sok P n (fs T n) ∧ sok P n (sn T n)
 par : ∀ n, n < T.length → (0 ≤ (fs T n).fMatch → par T (fs T n).fMatch.toNat = some (n, true)) ∧ (0 ≤ (sn T n).fMatch → par T (sn T n).fMatch.toNat = some (n, false))
 kids : (kids T).isPerm (List.range (T.length - 1)) = true
 bel : ∀ n, n < T.length → bel T n = bs T (fs T n) ++ bs T (sn T n)
 nodup : ∀ n, n < T.length → (Go.Proofs.YtignpdbcgjllkaaGreat.L.bel T n).Nodup
 all : (Go.Proofs.YtignpdbcgjllkaaGreat.L.bel T (T.length - 1)).isPerm (players P) = true
def TOKd (T : Tr) (P : Nat) : Prop := T.length + 1 = P ∧ (∀ n, n < T.length → sok P n (fs T n) ∧ sok P n (sn T n)) ∧
 (∀ n, n < T.length → (0 ≤ (fs T n).fMatch → par T (fs T n).fMatch.toNat = some (n, true)) ∧ (0 ≤ (sn T n).fMatch → par T (sn T n).fMatch.toNat = some (n, false))) ∧
 (kids T).isPerm (List.range (T.length - 1)) = true ∧ (∀ n, n < T.length → bel T n = bs T (fs T n) ++ bs T (sn T n)) ∧ (∀ n, n < T.length → (bel T n).Nodup) ∧ (bel T (T.length - 1)).isPerm (players P) = true
instance (T : Tr) (P : Nat) : Decidable (TOKd T P) := by unfold TOKd; infer_instance
theorem tre_okd : ∀ b : Bool, ∀ P, P < 17 → 2 ≤ P → TOKd (tre b P) P := by decide +kernel
theorem tre_ok (b : Bool) {P : Nat} (h1 : 2 ≤ P) (h2 : P ≤ 16) : TOK (tre b P) P := by
 obtain ⟨a, b, c, d, e, f, g⟩ := tre_okd b P (by omega) h1
 exact ⟨a, b, c, d, e, f, g⟩
def cnt (x : Int) (l : List Int) : Int := (l.count x : Int)
def dec (G : Int) (l : List Int) : Int := match l.find? (fun x => decide (G < 2 * cnt x l)) with | some x => x | none => -1
def res (c : Ref09Cup) (m : Int) : Option Ref09Result := c.fResults.find? fun r => decide (r.fMatch = m)
def won (c : Ref09Cup) (m : Int) : Int := match res c m with | none => -1 | some r => dec c.fGames r.fGames
def known (c : Ref09Cup) (s : Ref09Side) : Int := if s.fMatch < 0 then s.fPlayer else won c s.fMatch
def lg (G a b : Int) : List Int → List Int → Bool
 | _, [] => true
 | pre, x :: r => (decide (x = a) || decide (x = b)) && (decide (dec G pre < 0) && lg G a b (pre ++ [x]) r)
def lawful (c : Ref09Cup) (T : Tr) (r : Ref09Result) : Bool :=
 decide (0 ≤ known c (fs T r.fMatch.toNat)) && (decide (0 ≤ known c (sn T r.fMatch.toNat)) && lg c.fGames (known c (fs T r.fMatch.toNat)) (known c (sn T r.fMatch.toNat)) [] r.fGames)
structure Sz (c : Ref09Cup) : Prop where
 r : c.fResults.length ≤ 1000
 g : ∀ r ∈ c.fResults, r.fGames.length ≤ 1000
theorem res_mem {c : Ref09Cup} {m : Int} {r : Ref09Result} (h : res c m = some r) : r ∈ c.fResults ∧ r.fMatch = m := by
 unfold res at h
 exact ⟨List.mem_of_find?_eq_some h, by have := List.find?_some h; simpa using this⟩
theorem cnt_bd (x : Int) (l : List Int) : 0 ≤ cnt x l ∧ cnt x l ≤ l.length := by
 unfold cnt; have := List.count_le_length (a := x) (l := l); omega
section
variable {N : Nat} (hN : 4000 ≤ N)
include hN
end
end Go.Proofs.YtignpdbcgjllkaaGreat.L
set_option linter.all false
namespace Go.Proofs.YtignpdbcgjllkaaGreat.L
open Go.Kp
def T (c : Ref09Cup) : Tr := tre (decide (c.fForm = 1)) c.fPlayers.toNat
def inr (n a b : Int) : Bool := decide (a ≤ n) && decide (n ≤ b)
theorem inr_iff {n a b : Int} : inr n a b = true ↔ a ≤ n ∧ n ≤ b := by simp [inr]
def lims (c : Ref09Cup) : Bool := decide (c.fResults.length ≤ 15) && c.fResults.all fun r => decide (r.fGames.length ≤ 5)
def form (c : Ref09Cup) : Bool := decide (c.fForm ≤ 1) && (inr c.fPlayers 2 16 && (decide (c.fGames = 1) || (decide (c.fGames = 3) || decide (c.fGames = 5))))
def rghtR (c : Ref09Cup) (r : Ref09Result) : Bool := inr r.fMatch 0 (c.fPlayers - 2) && decide (0 < r.fGames.length)
def rght (c : Ref09Cup) : Bool := c.fResults.all (rghtR c)
def dup : List Ref09Result → List Ref09Result → Bool
 | _, [] => false
 | pre, x :: r => pre.any (fun y => decide (x.fMatch = y.fMatch)) || dup (pre ++ [x]) r
def lawf (c : Ref09Cup) : Bool := c.fResults.all (lawful c (T c))
def flt (c : Ref09Cup) : Int := if lims c then (if form c && rght c then (if dup [] c.fResults then 6 else if lawf c then 0 else 10) else 1) else 3
theorem form_iff {c : Ref09Cup} : form c = true ↔ c.fForm ≤ 1 ∧ 2 ≤ c.fPlayers ∧ c.fPlayers ≤ 16 ∧ (c.fGames = 1 ∨ c.fGames = 3 ∨ c.fGames = 5) := by
 unfold form; simp [inr, and_assoc]
theorem T_ok {c : Ref09Cup} (h : form c = true) : TOK (T c) c.fPlayers.toNat := by
 have := form_iff.1 h
 exact tre_ok _ (by omega) (by omega)
theorem T_len {c : Ref09Cup} (h : form c = true) : ((T c).length : Int) = c.fPlayers - 1 := by
 have := form_iff.1 h
 have := (T_ok h).len
 omega
section
variable {N : Nat}
theorem within_eq (n a b : Int) : ladderWithin N n a b = some (inr n a b) := by
 unfold ladderWithin inr
 cases decide (a ≤ n) <;> rfl
theorem getT {T : Tr} {n : Nat} (h : n < T.length) : T[n]? = some (T.getD n dP) := by
 rw [List.getD_eq_getElem?_getD, List.getElem?_eq_getElem h]; rfl
variable (hN : 4000 ≤ N)
include hN
end
end Go.Proofs.YtignpdbcgjllkaaGreat.L
set_option linter.all false
namespace Go.Proofs.YtignpdbcgjllkaaGreat.L
open Go.Kp
def cr (r : Ref09Result) : LadderResult := ⟨r.fMatch, r.fGames, r.fProtested⟩
def cc (c : Ref09Cup) : LadderCup := ⟨c.fForm, c.fPlayers, c.fGames, c.fResults.map cr⟩
def rm (l : List Ref09Result) : List (Int × LadderResult) := l.map fun r => (r.fMatch, cr r)
def decP (G a b : Int) (l : List Int) : Int := if G < 2 * cnt a l then a else if G < 2 * cnt b l then b else -1
def ply (c : Ref09Cup) (n : Nat) : Ar2 Int := ⟨known c (fs (T c) n), known c (sn (T c) n)⟩
def plys (c : Ref09Cup) (k : Nat) : List (Ar2 Int) := (List.range k).map (ply c)
abbrev Drw := Int × Int × Int × Int × List LadderResult × List LadderPair × List (Int × LadderResult) × List (Ar2 Int)
def drw (c : Ref09Cup) : Drw := (0, c.fForm, c.fPlayers, c.fGames, c.fResults.map cr, (T c).map cpr, rm c.fResults, plys c (T c).length)
theorem mget_rm (c : Ref09Cup) (m : Int) : mget (rm c.fResults) m = (res c m).map cr := by
 unfold res rm
 induction c.fResults with
 | nil => rfl
 | cons r l ih =>
  rw [List.map_cons, mget, List.find?_cons, ih]
  by_cases h : m = r.fMatch
  ·simp [h]
  ·simp [h, show ¬ r.fMatch = m from fun e => h e.symm]
theorem mput_new {K V : Type} [DecidableEq K] {m : List (K × V)} {k : K} {v : V} (h : mget m k = none) : mput m k v = m ++ [(k, v)] := by
 induction m with
 | nil => rfl
 | cons p m ih =>
  rw [mget] at h
  by_cases e : k = p.1
  ·rw [if_pos e] at h; cases h
  ·rw [if_neg e] at h
   rw [mput, if_neg e, ih h]; rfl
theorem find_dec {G : Int} {l : List Int} : (∃ x, l.find? (fun x => decide (G < 2 * cnt x l)) = some x ∧ x ∈ l ∧ G < 2 * cnt x l ∧ dec G l = x) ∨ ((∀ x ∈ l, ¬ G < 2 * cnt x l) ∧ dec G l = -1) := by
 unfold dec
 cases h : l.find? (fun x => decide (G < 2 * cnt x l)) with
 | none => exact .inr ⟨fun x hx => by have := List.find?_eq_none.1 h x hx; simpa using this, rfl⟩
 | some x => exact .inl ⟨x, rfl, List.mem_of_find?_eq_some h, by have := List.find?_some h; simpa using this, rfl⟩
theorem mem_of_cnt {G x : Int} {l : List Int} (hG : 0 ≤ G) (h : G < 2 * cnt x l) : x ∈ l := by
 unfold cnt at h
 exact List.count_pos_iff.1 (by omega)
theorem dec_open {G a b : Int} {l : List Int} (hG : 0 ≤ G) (ha : 0 ≤ a) (hb : 0 ≤ b) (hl : ∀ x ∈ l, x = a ∨ x = b) : decP G a b l = -1 ↔ dec G l < 0 := by
 unfold decP
 rcases find_dec (G := G) (l := l) with ⟨x, _, hx, hc, hd⟩ | ⟨hn, hd⟩
 ·rw [hd]
  rcases hl x hx with rfl | rfl
  ·rw [if_pos hc]; omega
  ·by_cases h : G < 2 * cnt a l
   ·rw [if_pos h]; omega
   ·rw [if_neg h, if_pos hc]; omega
 ·rw [hd]
  rw [if_neg (fun h => hn a (mem_of_cnt hG h) h), if_neg (fun h => hn b (mem_of_cnt hG h) h)]
  omega
theorem cnt_snoc {x w : Int} {l : List Int} : cnt x (l ++ [w]) = cnt x l + if x = w then 1 else 0 := by
 unfold cnt
 rw [List.count_append, List.count_singleton]
 by_cases h : x = w
 ·simp [h]
 ·simp [h, show ¬ w = x from fun e => h e.symm]
theorem lg_iff {G a b : Int} : ∀ {l pre : List Int}, lg G a b pre l = true ↔ (∀ x ∈ l, x = a ∨ x = b) ∧ ∀ k, k < l.length → dec G (pre ++ l.take k) < 0
 | [], pre => by simp [lg]
 | x :: l, pre => by
  simp only [lg, Bool.and_eq_true, Bool.or_eq_true, decide_eq_true_eq, lg_iff (l := l)]
  constructor
  ·rintro ⟨h1, h2, h3, h4⟩
   refine ⟨fun y hy => ?_, fun k hk => ?_⟩
   ·rcases List.mem_cons.1 hy with rfl | hy
    ·exact h1
    ·exact h3 y hy
   ·cases k with
    | zero => simpa using h2
    | succ k => have := h4 k (by simpa using hk); simpa using this
  ·rintro ⟨h1, h2⟩
   refine ⟨h1 x (by simp), by simpa using h2 0 (by simp), fun y hy => h1 y (by simp [hy]), fun k hk => ?_⟩
   have := h2 (k + 1) (by simpa using hk)
   simpa using this
theorem dec_lawful {G a b : Int} {l : List Int} (hG : 0 ≤ G) (ha : 0 ≤ a) (hb : 0 ≤ b) (h : lg G a b [] l = true) : decP G a b l = dec G l := by
 obtain ⟨h1, h2⟩ := lg_iff.1 h
 have ho := dec_open hG ha hb h1
 rcases find_dec (G := G) (l := l) with ⟨x, _, hx, hc, hd⟩ | ⟨hn, hd⟩
 ·rw [hd]
  rcases List.eq_nil_or_concat l with rfl | ⟨i, w, hw⟩
  ·cases hx
  rw [List.concat_eq_append] at hw
  have hpre := h2 i.length (by rw [hw]; simp)
  rw [hw] at hpre
  simp only [List.nil_append, List.take_left] at hpre
  have uniq : ∀ y, G < 2 * cnt y l → y = w := by
   intro y hy
   refine Classical.byContradiction fun hne => ?_
   rw [hw, cnt_snoc, if_neg hne] at hy
   have hyi := mem_of_cnt hG (by omega : G < 2 * cnt y i)
   rcases find_dec (G := G) (l := i) with ⟨z, _, hz, _, hd'⟩ | ⟨hn, _⟩
   ·rcases h1 z (by rw [hw]; simp [hz]) with rfl | rfl <;> omega
   ·exact hn y hyi (by omega)
  have hxw := uniq x hc
  unfold decP
  by_cases q : G < 2 * cnt a l
  ·rw [if_pos q, uniq a q, hxw]
  ·rw [if_neg q]
   rcases h1 x hx with rfl | rfl
   ·exact absurd hc q
   ·rw [if_pos hc]
 ·rw [hd]; exact ho.2 (by omega)
section
variable {N : Nat} (hN : 4000 ≤ N)
include hN
theorem sum2 {x y : Int} (hx : 0 ≤ x ∧ x ≤ 1000000) (hy : 0 ≤ y ∧ y ≤ 1000000) : ladderSum N [x, y] = some (x + y) := by
 unfold ladderSum
 have := sum_shape (N := N) [x, y] (fun z hz => by simp at hz; omega) (by simp) (by simp; omega)
 have e : (loopN (fun rec3 z => ladderSum_b1 N [x, y] rec3 z.1 z.2.1 z.2.2) N (0, (([x, y] : List Int).length : Int), 0)) = some (([x, y] : List Int).sum) := this
 rw [e, Option.bind_some]
 simp
theorem list_eq {xs : List Int} (h : xs.length ≤ 1000) : law09List N xs = some xs := by
 unfold law09List
 rw [app_ok (by simp; omega)]
 simp
theorem cup_eq (c : Ref09Cup) (h : Sz c) : law09Cup N c = some (cc c) := by
 unfold law09Cup
 have := loop_list (N := N) (B := fun rec3 x => law09Cup_b1 N c rec3 x.1 x.2) c.fResults (fun i (a : List LadderResult) => ((i : Int), a)) (fun r a => some (a ++ r.map cr)) (fun i a => a.length = i)
  (fun a rec _ => by simp [law09Cup_b1])
  (fun i x a rec hx hok hh => by
   have hlt := len_lt hx
   have := h.r
   show law09Cup_b1 N c rec i a = _
   unfold law09Cup_b1
   simp only [show ((i : Int) < (c.fResults.length : Int)) from by omega, decide_true, if_true, idx_at hx, Option.bind_some, w64_succ (i := i) (by omega), list_eq hN (h.g x (List.mem_of_getElem? hx))]
   rw [app_ok (by simp; omega), Option.bind_some, hh _ (by simp [hok])]
   simp [cr]) (by have := h.r; omega) [] rfl
 rw [show ((0 : Int), ([] : List LadderResult)) = (((0 : Nat) : Int), []) from rfl, this]
 simp [cc]
theorem score_eq {m : Int} {games : List Int} (c1 c2 c3 : Int) (c4 : List LadderResult) (c5 : List LadderPair) (m1 : List (Int × LadderResult)) {l1 : List (Ar2 Int)} {p : Ar2 Int} (hg : games.length ≤ 1000) (hp : idx l1 m = some p) :
  ladderDrawScoreXXXXX N m games c1 c2 c3 c4 c5 m1 l1 = some ⟨cnt p.a0 games, cnt p.a1 games⟩ := by
 unfold ladderDrawScoreXXXXX
 rw [hp, Option.bind_some]
 have k1 := loop_list (N := N) (B := fun rec7 x => ladderDrawScoreXXXXX_b1 N games p rec7 x.1 x.2.1 x.2.2) games (fun i (a : Int) => ((games.length : Int), (i : Int), (Ar2.mk a 0))) (fun r a => some (Ar2.mk (a + cnt p.a0 r) 0)) (fun i a => 0 ≤ a ∧ a ≤ i)
  (fun a rec _ => by simp [ladderDrawScoreXXXXX_b1, cnt])
  (fun i x a rec hx hok hh => by
   have hlt := len_lt hx
   show ladderDrawScoreXXXXX_b1 N games p rec _ i _ = _
   unfold ladderDrawScoreXXXXX_b1
   simp only [show ((i : Int) < (games.length : Int)) from by omega, decide_true, if_true, idx_at hx, Option.bind_some, w64_succ (i := i) (by omega)]
   by_cases e : x = p.a0
   ·simp only [e, decide_true, if_true]
    rw [sum2 hN (by omega) (by omega), Option.bind_some, Option.bind_some, hh _ (by omega)]
    simp only [cnt, List.count_cons_self]
    congr 2; omega
   ·simp only [e, decide_false, Bool.false_eq_true, if_false, Option.bind_some]
    rw [hh _ (by omega)]
    simp only [cnt, List.count_cons_of_ne e]) (by omega) 0 (by simp)
 have k1' : loopN (fun rec7 x => ladderDrawScoreXXXXX_b1 N games p rec7 x.1 x.2.1 x.2.2) N ((games.length : Int), 0, (Ar2.mk 0 0)) = some (Ar2.mk (cnt p.a0 games) 0) := by
  have := k1; simp only [Int.zero_add] at this; exact this
 rw [k1', Option.bind_some]
 have k2 := loop_list (N := N) (B := fun rec9 x => ladderDrawScoreXXXXX_b2 N games p rec9 x.1 x.2.1 x.2.2) games (fun i (a : Int) => ((games.length : Int), (i : Int), (Ar2.mk (cnt p.a0 games) a))) (fun r a => some (Ar2.mk (cnt p.a0 games) (a + cnt p.a1 r))) (fun i a => 0 ≤ a ∧ a ≤ i)
  (fun a rec _ => by simp [ladderDrawScoreXXXXX_b2, cnt])
  (fun i x a rec hx hok hh => by
   have hlt := len_lt hx
   show ladderDrawScoreXXXXX_b2 N games p rec _ i _ = _
   unfold ladderDrawScoreXXXXX_b2
   simp only [show ((i : Int) < (games.length : Int)) from by omega, decide_true, if_true, idx_at hx, Option.bind_some, w64_succ (i := i) (by omega)]
   by_cases e : x = p.a1
   ·simp only [e, decide_true, if_true]
    rw [sum2 hN (by omega) (by omega), Option.bind_some, Option.bind_some, hh _ (by omega)]
    simp only [cnt, List.count_cons_self]
    congr 2; omega
   ·simp only [e, decide_false, Bool.false_eq_true, if_false, Option.bind_some]
    rw [hh _ (by omega)]
    simp only [cnt, List.count_cons_of_ne e]) (by omega) 0 (by simp)
 have k2' : loopN (fun rec9 x => ladderDrawScoreXXXXX_b2 N games p rec9 x.1 x.2.1 x.2.2) N ((games.length : Int), 0, (Ar2.mk (cnt p.a0 games) 0)) = some (Ar2.mk (cnt p.a0 games) (cnt p.a1 games)) := by
  have := k2; simp only [Int.zero_add] at this; exact this
 rw [k2', Option.bind_some]
theorem decidedP_eq {m : Int} {games : List Int} (c1 c2 c3 : Int) (c4 : List LadderResult) (c5 : List LadderPair) (m1 : List (Int × LadderResult)) {l1 : List (Ar2 Int)} {p : Ar2 Int} (hg : games.length ≤ 1000) (hp : idx l1 m = some p) :
  ladderDrawDecidedXXXXX N m games c1 c2 c3 c4 c5 m1 l1 = some (decP c3 p.a0 p.a1 games) := by
 unfold ladderDrawDecidedXXXXX decP
 have h0 := cnt_bd p.a0 games
 have h1 := cnt_bd p.a1 games
 rw [score_eq hN c1 c2 c3 c4 c5 m1 hg hp, Option.bind_some]
 simp only [hp, Option.bind_some]
 rw [w64_id (by omega) (by omega), w64_id (by omega) (by omega)]
 by_cases q1 : c3 < 2 * cnt p.a0 games <;> by_cases q2 : c3 < 2 * cnt p.a1 games <;> simp [q1, q2]
theorem lawfulP_eq {r : LadderResult} (c1 c2 c3 : Int) (c4 : List LadderResult) (c5 : List LadderPair) (m1 : List (Int × LadderResult)) {l1 : List (Ar2 Int)} {p : Ar2 Int} (hg : r.fGames.length ≤ 1000) (hp : idx l1 r.fMatch = some p)
  (hG : 0 ≤ c3) (h0 : p.a0 = -1 ∨ 0 ≤ p.a0) (h1 : p.a1 = -1 ∨ 0 ≤ p.a1) :
  ladderDrawLawfulXXX N r c1 c2 c3 c4 c5 m1 l1 = some (decide (0 ≤ p.a0) && (decide (0 ≤ p.a1) && lg c3 p.a0 p.a1 [] r.fGames)) := by
 unfold ladderDrawLawfulXXX
 rw [hp, Option.bind_some]
 by_cases ha : p.a0 = -1
 ·simp [ha]
 by_cases hb : p.a1 = -1
 ·simp [hb]
 have ha' : 0 ≤ p.a0 := by omega
 have hb' : 0 ≤ p.a1 := by omega
 simp only [ha, hb, decide_false, Bool.false_eq_true, if_false, Option.bind_some, ha', hb', decide_true, Bool.true_and]
 -- as long as all games so far are won by the two
 have key := loop_list (N := N) (A := Nat) (B := fun rec3 x => ladderDrawLawfulXXX_b1 N r c1 c2 c3 c4 c5 m1 l1 p rec3 x.1 x.2) r.fGames (fun i _ => ((r.fGames.length : Int), (i : Int))) (fun l a => some (lg c3 p.a0 p.a1 (r.fGames.take a) l)) (fun i a => a = i ∧ ∀ x ∈ r.fGames.take i, x = p.a0 ∨ x = p.a1)
  (fun a rec _ => by simp [ladderDrawLawfulXXX_b1, lg])
  (fun i x a rec hx hok hh => by
   have hlt := len_lt hx
   obtain ⟨rfl, hall⟩ := hok
   show ladderDrawLawfulXXX_b1 N r c1 c2 c3 c4 c5 m1 l1 p rec _ (a : Int) = _
   unfold ladderDrawLawfulXXX_b1
   have hcon : slicesContains N ([p.a0, p.a1] : List Int) x = some (decide (x ∈ [p.a0, p.a1])) := contains_eq _ _ (by simp; omega) (by simp)
   simp only [show ((a : Int) < (r.fGames.length : Int)) from by omega, decide_true, if_true, idx_at hx, Option.bind_some, w64_succ (i := a) (by omega), hcon]
   rw [slc_ok (by omega) (by omega) (by omega), Option.bind_some]
   simp only [Int.toNat_natCast, Int.toNat_zero, List.drop_zero]
   rw [decidedP_eq hN c1 c2 c3 c4 c5 m1 (by simp; omega) hp, Option.bind_some]
   have ht : r.fGames.take (a + 1) = r.fGames.take a ++ [x] := by rw [List.take_add_one, hx]; rfl
   have hd := dec_open hG ha' hb' hall
   by_cases hm : x = p.a0 ∨ x = p.a1
   ·have hmem : x ∈ [p.a0, p.a1] := by simpa using hm
    have hm2 : (decide (x = p.a0) || decide (x = p.a1)) = true := by simpa using hm
    simp only [hmem, decide_true, Bool.not_true, Bool.false_eq_true, if_false, lg, hm2, Bool.true_and, Option.bind_some]
    have hh := hh (a + 1) ⟨rfl, fun y hy => by rw [ht] at hy; rcases List.mem_append.1 hy with hy | hy; exact hall y hy; rw [List.mem_singleton.1 hy]; exact hm⟩
    rw [hh, ht]
    by_cases q : dec c3 (r.fGames.take a) < 0
    ·simp [q, hd.2 q]
    ·simp [q, show ¬ decP c3 p.a0 p.a1 (r.fGames.take a) = -1 from fun e => q (hd.1 e)]
   ·have hmem : ¬ x ∈ [p.a0, p.a1] := by simpa using hm
    have hm2 : (decide (x = p.a0) || decide (x = p.a1)) = false := by simpa using hm
    simp only [hmem, decide_false, Bool.not_false, if_true, lg, hm2, Bool.false_and, Option.bind_some]) (by omega) 0 (by simp)
 simp only [List.take_zero] at key
 rw [show ((r.fGames.length : Int), (0 : Int)) = ((r.fGames.length : Int), ((0 : Nat) : Int)) from rfl, key]
 rfl
theorem wonP_eq {m : Int} (c : Ref09Cup) (c1 c2 : Int) (c4 : List LadderResult) (c5 : List LadderPair) {l1 : List (Ar2 Int)} {p : Ar2 Int} (hs : Sz c) (hp : idx l1 m = some p)
  (hG : 0 ≤ c.fGames) (hl : ∀ r, res c m = some r → 0 ≤ p.a0 ∧ 0 ≤ p.a1 ∧ lg c.fGames p.a0 p.a1 [] r.fGames = true) :
  ladderDrawWonXXXXX N m c1 c2 c.fGames c4 c5 (rm c.fResults) l1 = some (won c m) := by
 unfold ladderDrawWonXXXXX mgt
 rw [mget_rm, Option.bind_some]
 unfold won
 cases e : res c m with
 | none => simp
 | some r =>
  obtain ⟨a, b, h⟩ := hl r e
  simp only [Option.map_some, Option.getD_some, Option.isSome_some, Bool.not_true, Bool.false_eq_true, if_false]
  rw [decidedP_eq hN c1 c2 c.fGames c4 c5 _ (by exact hs.g r (res_mem e).1) hp, Option.bind_some, show (cr r).fGames = r.fGames from rfl, dec_lawful hG a b h]
end
end Go.Proofs.YtignpdbcgjllkaaGreat.L
set_option linter.all false
namespace Go.Proofs.YtignpdbcgjllkaaGreat.L
open Go.Kp
def lwb (c : Ref09Cup) (m : Nat) : Bool := match res c (m : Int) with | none => true | some r => lawful c (T c) r
def fl (c : Ref09Cup) : Nat → Tr → Bool × List (Ar2 Int)
 | i, [] => (true, plys c i)
 | i, _ :: r => if lwb c i then fl c (i + 1) r else (false, plys c (i + 1))
theorem lw_res {c : Ref09Cup} {m : Nat} (h : lwb c m = true) {r : Ref09Result} (hr : res c (m : Int) = some r) :
  0 ≤ known c (fs (T c) m) ∧ 0 ≤ known c (sn (T c) m) ∧ lg c.fGames (known c (fs (T c) m)) (known c (sn (T c) m)) [] r.fGames = true := by
 unfold lwb at h
 rw [hr] at h
 have hm := (res_mem hr).2
 simp only [lawful, hm, Int.toNat_natCast, Bool.and_eq_true, decide_eq_true_eq] at h
 exact h
theorem won_bd {c : Ref09Cup} {m : Nat} (h : lwb c m = true) : won c (m : Int) = -1 ∨ 0 ≤ won c (m : Int) := by
 unfold won
 cases e : res c (m : Int) with
 | none => exact .inl rfl
 | some r =>
  obtain ⟨ha, hb, h⟩ := lw_res h e
  have h1 := (lg_iff.1 h).1
  rcases find_dec (G := c.fGames) (l := r.fGames) with ⟨x, _, hx, _, hd⟩ | ⟨_, hd⟩
  ·right; show 0 ≤ dec _ _; rw [hd]; rcases h1 x hx with rfl | rfl <;> assumption
  ·left; exact hd
theorem known_bd {c : Ref09Cup} {P n : Nat} {s : Ref09Side} (hs : sok P n s) (h : ∀ m, m < n → lwb c m = true) : known c s = -1 ∨ 0 ≤ known c s := by
 unfold known
 rcases hs with ⟨h1, h2, h3⟩ | ⟨h1, h2, h3⟩
 ·rw [if_pos (by omega)]; exact .inr h2
 ·rw [if_neg (by omega)]
  have := won_bd (h s.fMatch.toNat (by omega))
  rwa [show ((s.fMatch.toNat : Nat) : Int) = s.fMatch from by omega] at this
theorem plys_succ (c : Ref09Cup) (i : Nat) : plys c (i + 1) = plys c i ++ [ply c i] := by
 unfold plys; rw [List.range_succ, List.map_append]; rfl
theorem plys_len (c : Ref09Cup) (i : Nat) : (plys c i).length = i := by unfold plys; simp
theorem plys_idx {c : Ref09Cup} {i m : Nat} (h : m < i) : idx (plys c i) (m : Int) = some (ply c m) := by
 refine idx_at ?_
 unfold plys
 simp [List.getElem?_map, List.getElem?_range h]
theorem fl_true {c : Ref09Cup} : ∀ {l : Tr} {i : Nat}, (fl c i l).1 = true ↔ ∀ k, i ≤ k → k < i + l.length → lwb c k = true
 | [], i => by simp [fl]; intro k h1 h2; omega
 | x :: l, i => by
  unfold fl
  by_cases h : lwb c i = true
  ·rw [if_pos h, fl_true]
   constructor
   ·intro hh k h1 h2
    rcases Nat.lt_or_ge i k with q | q
    ·exact hh k q (by simp at h2; omega)
    ·rw [show k = i by omega]; exact h
   ·intro hh k h1 h2; exact hh k (by omega) (by simp; omega)
  ·rw [if_neg h]
   constructor
   ·intro hh; cases hh
   ·intro hh; exact absurd (hh i (Nat.le_refl _) (by simp)) h
theorem fl_snd {c : Ref09Cup} : ∀ {l : Tr} {i : Nat}, (fl c i l).1 = true → (fl c i l).2 = plys c (i + l.length)
 | [], i, _ => rfl
 | x :: l, i, h => by
  unfold fl at h ⊢
  by_cases q : lwb c i = true
  ·rw [if_pos q] at h ⊢
   rw [fl_snd h]; congr 1; simp; omega
  ·rw [if_neg q] at h; cases h
theorem dup_find : ∀ {l pre : List Ref09Result}, dup pre l = false → ∀ r ∈ l, (∀ y ∈ pre, y.fMatch ≠ r.fMatch) ∧ l.find? (fun x => decide (x.fMatch = r.fMatch)) = some r
 | [], pre, _, r, hr => by cases hr
 | x :: l, pre, h, r, hr => by
  simp only [dup, Bool.or_eq_false_iff, List.any_eq_false, decide_eq_true_eq] at h
  rcases List.mem_cons.1 hr with rfl | hr
  ·exact ⟨fun y hy e => h.1 y hy e.symm, by simp⟩
  ·obtain ⟨h1, h2⟩ := dup_find h.2 r hr
   refine ⟨fun y hy => h1 y (by simp [hy]), ?_⟩
   have := h1 x (by simp)
   rw [List.find?_cons]
   simp [this, h2]
theorem res_of_mem {c : Ref09Cup} (h : dup [] c.fResults = false) {r : Ref09Result} (hr : r ∈ c.fResults) : res c r.fMatch = some r := (dup_find h r hr).2
theorem lawf_fl {c : Ref09Cup} (hf : form c = true) (hr : rght c = true) (hd : dup [] c.fResults = false) : (fl c 0 (T c)).1 = lawf c := by
 rw [Bool.eq_iff_iff, fl_true]
 unfold lawf
 rw [List.all_eq_true]
 constructor
 ·intro h r hm
  have hq := List.all_eq_true.1 hr r hm
  simp only [rghtR, Bool.and_eq_true, inr_iff] at hq
  have hl := T_len hf
  have := h r.fMatch.toNat (by omega) (by omega)
  unfold lwb at this
  rw [show ((r.fMatch.toNat : Nat) : Int) = r.fMatch from by omega, res_of_mem hd hm] at this
  exact this
 ·intro h k _ hk
  unfold lwb
  cases e : res c (k : Int) with
  | none => rfl
  | some r => exact h r (res_mem e).1
section
variable {N : Nat} (hN : 4000 ≤ N)
include hN
theorem fill_eq (c : Ref09Cup) (hs : Sz c) (hf : form c = true) (c4 : List LadderResult) :
  ladderDrawFillX N c.fForm c.fPlayers c.fGames c4 ((T c).map cpr) (rm c.fResults) = some ((fl c 0 (T c)).1, c.fForm, c.fPlayers, c.fGames, c4, (T c).map cpr, (fl c 0 (T c)).2) := by
 unfold ladderDrawFillX
 have ff := form_iff.1 hf
 have hG : 0 ≤ c.fGames := by omega
 have ht := T_ok hf
 have htl := T_len hf
 have key := loop_list (N := N) (A := Nat) (B := fun rec3 x => ladderDrawFillX_b2 N c.fForm c.fPlayers c.fGames c4 ((T c).map cpr) (rm c.fResults) rec3 x.1 x.2.1 x.2.2) (T c) (fun i _ => ((((T c).map cpr).length : Int), (i : Int), plys c i))
  (fun l a => some ((fl c a l).1, c.fForm, c.fPlayers, c.fGames, c4, (T c).map cpr, (fl c a l).2)) (fun i a => a = i ∧ ∀ m, m < i → lwb c m = true)
  (fun a rec hok => by obtain ⟨rfl, _⟩ := hok; simp [ladderDrawFillX_b2, ladderDrawFillX_k1, fl])
  (fun i x a rec hx hok hh => by
   have hlt := len_lt hx
   obtain ⟨rfl, hall⟩ := hok
   show ladderDrawFillX_b2 N _ _ _ _ _ _ rec _ (a : Int) (plys c a) = _
   have hx2 : x = (T c).getD a dP := by have := getT hlt; rw [hx] at this; exact Option.some.inj this
   have hxi : ((T c).map cpr)[a]? = some (cpr x) := by simp [hx]
   have hs1 := (ht.side a hlt).1
   have hs2 := (ht.side a hlt).2
   have hside : ∀ s : Ref09Side, sok c.fPlayers.toNat a s → (if decide ((csd s).fMatch = -1) then some (csd s).fPlayer else ladderDrawWonXXXXX N (csd s).fMatch c.fForm c.fPlayers c.fGames c4 ((T c).map cpr) (rm c.fResults) (plys c a)) = some (known c s) := by
    intro s hs'
    unfold known csd
    rcases hs' with ⟨h1, h2, h3⟩ | ⟨h1, h2, h3⟩
    ·simp [h1]
    ·have : ¬ s.fMatch = -1 := by omega
     have h4 : ¬ s.fMatch < 0 := by omega
     simp only [this, decide_false, Bool.false_eq_true, if_false, h4]
     have em : ((s.fMatch.toNat : Nat) : Int) = s.fMatch := by omega
     have hp : idx (plys c a) s.fMatch = some (ply c s.fMatch.toNat) := by have := plys_idx (c := c) (i := a) (m := s.fMatch.toNat) (by omega); rwa [em] at this
     refine wonP_eq hN c _ _ _ _ hs hp hG fun r hr => ?_
     exact lw_res (hall s.fMatch.toNat (by omega)) (by rw [em]; exact hr)
   have e1 := hside (fs (T c) a) hs1
   have e2 := hside (sn (T c) a) hs2
   unfold ladderDrawFillX_b2
   simp only [show ((a : Int) < (((T c).map cpr).length : Int)) from by simp; omega, decide_true, if_true, idx_at hxi, Option.bind_some, w64_succ (i := a) (by omega), ladderSides, ladderPairFirst, ladderPairSecond]
   have f1 : (cpr x).fFirst = csd (fs (T c) a) := by rw [hx2]; rfl
   have f2 : (cpr x).fSecond = csd (sn (T c) a) := by rw [hx2]; rfl
   rw [f1, f2]
   have g1 : (if decide ((csd (fs (T c) a)).fMatch = -1) then some (Ar2.mk (csd (fs (T c) a)).fPlayer (-1)) else Option.bind (ladderDrawWonXXXXX N (csd (fs (T c) a)).fMatch c.fForm c.fPlayers c.fGames c4 ((T c).map cpr) (rm c.fResults) (plys c a)) fun r304 => some (Ar2.mk r304 (-1))) = some (Ar2.mk (known c (fs (T c) a)) (-1)) := by
    by_cases q : (csd (fs (T c) a)).fMatch = -1
    ·simp only [q, decide_true, if_true] at e1 ⊢; rw [Option.some.inj e1]
    ·simp only [q, decide_false, Bool.false_eq_true, if_false] at e1 ⊢; rw [e1]; rfl
   have g2 : ∀ z : Int, (if decide ((csd (sn (T c) a)).fMatch = -1) then some (Ar2.mk z (csd (sn (T c) a)).fPlayer) else Option.bind (ladderDrawWonXXXXX N (csd (sn (T c) a)).fMatch c.fForm c.fPlayers c.fGames c4 ((T c).map cpr) (rm c.fResults) (plys c a)) fun r310 => some (Ar2.mk z r310)) = some (Ar2.mk z (known c (sn (T c) a))) := by
    intro z
    by_cases q : (csd (sn (T c) a)).fMatch = -1
    ·simp only [q, decide_true, if_true] at e2 ⊢; rw [Option.some.inj e2]
    ·simp only [q, decide_false, Bool.false_eq_true, if_false] at e2 ⊢; rw [e2]; rfl
   rw [g1, Option.bind_some, g2, Option.bind_some, app_ok (by rw [plys_len]; simp; omega), Option.bind_some]
   rw [show plys c a ++ [Ar2.mk (known c (fs (T c) a)) (known c (sn (T c) a))] = plys c (a + 1) from (plys_succ c a).symm]
   unfold mgt
   rw [mget_rm, Option.bind_some]
   unfold fl
   cases er : res c (a : Int) with
   | none =>
    have hl : lwb c a = true := by unfold lwb; rw [er]
    simp only [Option.map_none, Option.isSome_none, Bool.false_eq_true, if_false, Option.bind_some]
    rw [if_pos hl]
    exact hh (a + 1) ⟨rfl, fun m hm => by rcases Nat.lt_or_ge m a with q | q; exact hall m q; rw [show m = a by omega]; exact hl⟩
   | some r =>
    have hrm := res_mem er
    have em : (cr r).fMatch = (a : Int) := hrm.2
    have el := lawfulP_eq hN (r := cr r) (p := ply c a) (l1 := plys c (a + 1)) c.fForm c.fPlayers c.fGames c4 ((T c).map cpr) (rm c.fResults) (hs.g r hrm.1) (by rw [em]; exact plys_idx (by omega)) hG (known_bd hs1 hall) (known_bd hs2 hall)
    simp only [Option.map_some, Option.isSome_some, if_true, Option.getD_some, el, Option.bind_some]
    have hl : lwb c a = (decide (0 ≤ (ply c a).a0) && (decide (0 ≤ (ply c a).a1) && lg c.fGames (ply c a).a0 (ply c a).a1 [] (cr r).fGames)) := by
     unfold lwb; rw [er]; show lawful c (T c) r = _; unfold lawful; rw [hrm.2]; rfl
    rw [← hl]
    by_cases q : lwb c a = true
    ·simp only [q, Bool.not_true, Bool.false_eq_true, if_false, if_true]
     exact hh (a + 1) ⟨rfl, fun m hm => by rcases Nat.lt_or_ge m a with q' | q'; exact hall m q'; rw [show m = a by omega]; exact q⟩
    ·simp [q]) (by omega) 0 ⟨rfl, fun m hm => by omega⟩
 exact key
theorem all_eq (c : Ref09Cup) (h : c.fResults.length ≤ 1000) : ladderAll N (c.fResults.map cr) = some (c.fResults.all fun r => decide (r.fGames.length ≤ 5)) := by
 unfold ladderAll slicesContainsFuncXXXXXX slicesIndexFuncXXXXXX
 have := all_shape (N := N) (c.fResults.map cr) (ladderAll1 N) (fun r => decide (r.fGames.length ≤ 5)) (fun x _ => by unfold ladderAll1 ladderCupDraw1; simp; omega) (by simp; omega) (by simp; omega)
 refine Eq.trans this ?_
 rw [List.all_map]; rfl
theorem allX_eq (c : Ref09Cup) (h : c.fResults.length ≤ 1000) (hf : form c = true) : ladderAllX N (c.fResults.map cr) (cc c) = some (rght c) := by
 have ff := form_iff.1 hf
 unfold ladderAllX slicesContainsFuncXXXXXXX slicesIndexFuncXXXXXXX
 have := all_shape (N := N) (c.fResults.map cr) (fun x => ladderAll1X N x (cc c)) (fun x => inr x.fMatch 0 (c.fPlayers - 2) && decide (0 < x.fGames.length)) (fun x _ => by
  unfold ladderAll1X ladderCupDraw2
  rw [within_eq, show (cc c).fPlayers = c.fPlayers from rfl, w64_id (by omega) (by omega)]
  by_cases q : inr x.fMatch 0 (c.fPlayers - 2) = true
  ·by_cases q2 : 0 < x.fGames.length
   ·simp [q, q2]
   ·have : x.fGames.length = 0 := by omega
    simp [q, this]
  ·simp [q]) (by simp; omega) (by simp; omega)
 refine Eq.trans this ?_
 rw [List.all_map]; rfl
theorem check_eq (c : Ref09Cup) : ladderCupCheck N (cc c) = some (if form c then 0 else 1) := by
 unfold ladderCupCheck
 simp only [within_eq, Option.bind_some]
 have e1 : (cc c).fForm = c.fForm := rfl
 have e2 : (cc c).fPlayers = c.fPlayers := rfl
 have e3 : (cc c).fGames = c.fGames := rfl
 rw [e1, e2, e3]
 by_cases h1 : c.fForm ≤ 1
 ·have d1 : ¬ 1 < c.fForm := by omega
  unfold form
  by_cases h2 : inr c.fPlayers 2 16 = true
  ·by_cases h3 : inr c.fGames 1 5 = true
   ·have h3' := inr_iff.1 h3
    have : c.fGames = 1 ∨ c.fGames = 2 ∨ c.fGames = 3 ∨ c.fGames = 4 ∨ c.fGames = 5 := by omega
    rw [h2]; simp only [h3, d1, h1, decide_false, decide_true, Bool.false_eq_true, if_false, Bool.not_true, Option.bind_some, Bool.true_and]
    rcases this with h | h | h | h | h <;> rw [h] <;> rfl
   ·have h3' : ¬ (1 ≤ c.fGames ∧ c.fGames ≤ 5) := fun q => h3 (inr_iff.2 q)
    simp [d1, h1, h2, h3, show ¬ c.fGames = 1 from by omega, show ¬ c.fGames = 3 from by omega, show ¬ c.fGames = 5 from by omega]
  ·simp [d1, h1, h2]
 ·have d1 : 1 < c.fForm := by omega
  unfold form
  simp [d1, h1]
theorem sz_of (c : Ref09Cup) (h : lims c = true) : Sz c := by
 simp only [lims, Bool.and_eq_true, decide_eq_true_eq, List.all_eq_true] at h
 exact ⟨by omega, fun r hr => by have := h.2 r hr; omega⟩
theorem draw_eq (c : Ref09Cup) (h : c.fResults.length ≤ 1000) : ladderCupDraw N (cc c) = some (if flt c = 0 then .inr (drw c) else .inl (flt c)) := by
 unfold ladderCupDraw flt
 have e1 : (cc c).fResults = c.fResults.map cr := rfl
 rw [e1, all_eq hN c h, List.length_map]
 by_cases c1 : c.fResults.length ≤ 15
 rotate_left
 ·have : (15 : Int) < (c.fResults.length : Int) := by omega
  simp [this, c1, lims]
 have d1 : ¬ (15 : Int) < (c.fResults.length : Int) := by omega
 simp only [d1, decide_false, Bool.false_eq_true, if_false, Option.bind_some]
 by_cases c2 : c.fResults.all (fun r => decide (r.fGames.length ≤ 5)) = true
 rotate_left
 ·have : lims c = false := by unfold lims; simp only [c1, decide_true, Bool.true_and]; exact Bool.not_eq_true _ ▸ c2
  simp [this, c2]
 have hl : lims c = true := by unfold lims; simp only [c1, decide_true, Bool.true_and]; exact c2
 have hs := sz_of hN c hl
 rw [hl, check_eq hN c]
 simp only [c2, Bool.not_true, Bool.false_eq_true, if_false, if_true, Option.bind_some]
 by_cases c3 : form c = true
 rotate_left
 ·simp [c3]
 have ff := form_iff.1 c3
 rw [allX_eq hN c h c3]
 simp only [c3, if_true, decide_true, Bool.not_true, Bool.false_eq_true, if_false, Option.bind_some, Bool.true_and]
 by_cases c4 : rght c = true
 rotate_left
 ·simp [c4]
 simp only [c4, Bool.not_true, Bool.false_eq_true, if_false, if_true]
 rw [ptree_eq hN (cc c) ff.2.1 ff.2.2.1, Option.bind_some]
 have e2 : (tre (decide ((cc c).fForm = 1)) (cc c).fPlayers.toNat) = T c := rfl
 rw [e2]
 have key := loop_list (N := N) (A := Nat) (B := fun rec3 x => ladderCupDraw_b2 N (cc c) ((T c).map cpr) rec3 x.1 x.2.1 x.2.2) c.fResults (fun i _ => ((c.fResults.length : Int), (i : Int), rm (c.fResults.take i)))
  (fun l a => if dup (c.fResults.take a) l then some (.inl 6) else ladderCupDraw_k1 N (cc c) ((T c).map cpr) (rm c.fResults)) (fun i a => a = i)
  (fun a rec hok => by subst hok; simp [ladderCupDraw_b2, dup])
  (fun i x a rec hx hok hh => by
   have hlt := len_lt hx
   subst hok
   show ladderCupDraw_b2 N _ _ rec _ (a : Int) (rm (c.fResults.take a)) = _
   unfold ladderCupDraw_b2
   have hx' : (cc c).fResults[a]? = some (cr x) := by rw [e1]; simp [hx]
   unfold mgt
   simp only [show ((a : Int) < (c.fResults.length : Int)) from by omega, decide_true, if_true, idx_at hx', Option.bind_some, w64_succ (i := a) (by omega)]
   have hg : mget (rm (c.fResults.take a)) (cr x).fMatch = ((c.fResults.take a).find? fun r => decide (r.fMatch = x.fMatch)).map cr := mget_rm ⟨0, 0, 0, c.fResults.take a⟩ x.fMatch
   have ht : c.fResults.take (a + 1) = c.fResults.take a ++ [x] := by rw [List.take_add_one, hx]; rfl
   unfold dup
   cases hq : (c.fResults.take a).find? (fun r => decide (r.fMatch = x.fMatch)) with
   | none =>
    have hany : (c.fResults.take a).any (fun y => decide (x.fMatch = y.fMatch)) = false := by
     rw [List.any_eq_false]; intro y hy; have := List.find?_eq_none.1 hq y hy; simp at this ⊢; exact fun e => this e.symm
    rw [hq] at hg
    rw [hany, mput_new hg, hg]
    simp only [Option.map_none, Option.isSome_none, Bool.false_eq_true, if_false, Bool.false_or]
    have e3 : rm (c.fResults.take a) ++ [((cr x).fMatch, cr x)] = rm (c.fResults.take (a + 1)) := by rw [ht]; unfold rm; simp [cr]
    rw [e3, hh (a + 1) rfl, ht]
   | some y =>
    have hany : (c.fResults.take a).any (fun y => decide (x.fMatch = y.fMatch)) = true := by
     rw [List.any_eq_true]; exact ⟨y, List.mem_of_find?_eq_some hq, by have := List.find?_some hq; simp at this ⊢; exact this.symm⟩
    rw [hq] at hg
    rw [hany, hg]
    simp) (by omega) 0 rfl
 have key' : loopN (fun rec3 x => ladderCupDraw_b2 N (cc c) ((T c).map cpr) rec3 x.1 x.2.1 x.2.2) N ((c.fResults.length : Int), 0, ([] : List (Int × LadderResult))) = (if dup [] c.fResults then some (.inl 6) else ladderCupDraw_k1 N (cc c) ((T c).map cpr) (rm c.fResults)) := key
 refine Eq.trans key' ?_
 by_cases c5 : dup [] c.fResults = true
 ·simp [c5]
 have c5' : dup [] c.fResults = false := by simpa using c5
 simp only [c5', Bool.false_eq_true, if_false]
 unfold ladderCupDraw_k1
 have hfill := fill_eq hN c hs c3 (cc c).fResults
 have e3 : (cc c).fForm = c.fForm := rfl
 have e4 : (cc c).fPlayers = c.fPlayers := rfl
 have e5 : (cc c).fGames = c.fGames := rfl
 rw [e3, e4, e5, hfill, Option.bind_some]
 simp only [lawf_fl c3 c4 c5']
 by_cases c6 : lawf c = true
 ·simp only [c6, Bool.not_true, Bool.false_eq_true, if_false, if_true]
  have := fl_snd (c := c) (l := T c) (i := 0) (by rw [lawf_fl c3 c4 c5']; exact c6)
  rw [this, Nat.zero_add]
  rfl
 ·simp [c6]
end
end Go.Proofs.YtignpdbcgjllkaaGreat.L
set_option linter.all false
namespace Go.Proofs.YtignpdbcgjllkaaGreat.L
open Go.Kp
abbrev BM := List (LadderSpot × LadderCheapest)
def prot (c : Ref09Cup) (n : Nat) : Bool := match res c (n : Int) with | none => false | some r => r.fProtested
def sett (c : Ref09Cup) (n : Nat) (a b : Int) : Int := if ply c n = ⟨a, b⟩ ∧ prot c n = false then won c (n : Int) else -1
def up (s p o : Int) : Int := if s = -1 ∧ o < p then 1 else 0
def cand (c : Ref09Cup) (n : Nat) (e f : Int × Int) (p x o : Int) : Prop :=
 ((p = e.1 ∧ o = f.1) ∨ (p = f.1 ∧ o = e.1)) ∧ (sett c n e.1 f.1 = -1 ∨ sett c n e.1 f.1 = p) ∧ x = e.2 + f.2 + up (sett c n e.1 f.1) p o
def imp (n : Nat) (w o x : Int) (m : BM) : BM :=
 match mget m ⟨n, w⟩ with
 | none => mput m ⟨n, w⟩ ⟨x, o⟩
 | some old => if x < old.fUpsets then mput m ⟨n, w⟩ ⟨x, o⟩ else m
def stp1 (n : Nat) (s w o x : Int) (m : BM) : BM := if s = -1 ∨ s = w then imp n w o (x + up s w o) m else m
def stp (c : Ref09Cup) (n : Nat) (e f : Int × Int) (m : BM) : BM :=
 stp1 n (sett c n e.1 f.1) f.1 e.1 (e.2 + f.2) (stp1 n (sett c n e.1 f.1) e.1 f.1 (e.2 + f.2) m)
structure RI (n : Nat) (C : Int → Int → Int → Prop) (m0 m : BM) : Prop where
 sound : ∀ p x, mget m ⟨n, p⟩ = some x → C p x.fUpsets x.fOther
 compl : ∀ p x o, C p x o → ∃ y, mget m ⟨n, p⟩ = some y ∧ y.fUpsets ≤ x
 frame : ∀ (k p : Int), k ≠ (n : Int) → mget m ⟨k, p⟩ = mget m0 ⟨k, p⟩
theorem RI.congr {n : Nat} {C C' : Int → Int → Int → Prop} {m0 m : BM} (h : RI n C m0 m) (hc : ∀ p x o, C p x o ↔ C' p x o) : RI n C' m0 m :=
 ⟨fun p x hx => (hc _ _ _).1 (h.sound p x hx), fun p x o hx => h.compl p x o ((hc _ _ _).2 hx), h.frame⟩
theorem RI.imp {n : Nat} {C : Int → Int → Int → Prop} {m0 m : BM} (h : RI n C m0 m) (w o x : Int) : RI n (fun p y q => C p y q ∨ (p = w ∧ y = x ∧ q = o)) m0 (imp n w o x m) := by
 have hput : ∀ k p, mget (mput m ⟨n, w⟩ ⟨x, o⟩) ⟨k, p⟩ = if k = (n : Int) ∧ p = w then some ⟨x, o⟩ else mget m ⟨k, p⟩ := by
  intro k p
  rw [mget_mput]
  by_cases e : k = (n : Int) ∧ p = w
  ·rw [if_pos e, if_pos (by rw [e.1, e.2])]
  ·rw [if_neg e, if_neg (by intro q; cases q; exact e ⟨rfl, rfl⟩)]
 unfold Go.Proofs.YtignpdbcgjllkaaGreat.L.imp
 cases hg : mget m ⟨n, w⟩ with
 | none =>
  refine ⟨fun p y hy => ?_, fun p y q hc => ?_, fun k p hk => ?_⟩
  ·rw [hput] at hy
   split at hy
   ·rename_i e; cases hy; exact .inr ⟨e.2, rfl, rfl⟩
   ·exact .inl (h.sound p y hy)
  ·show ∃ z, mget (mput m ⟨n, w⟩ ⟨x, o⟩) ⟨n, p⟩ = some z ∧ z.fUpsets ≤ y
   rw [hput]
   rcases hc with hc | ⟨rfl, rfl, rfl⟩
   ·obtain ⟨z, hz, hl⟩ := h.compl p y q hc
    by_cases e : p = w
    ·subst e; rw [hg] at hz; cases hz
    ·rw [if_neg (fun q => e q.2)]; exact ⟨z, hz, hl⟩
   ·rw [if_pos ⟨rfl, rfl⟩]; exact ⟨_, rfl, Int.le_refl _⟩
  ·show mget (mput m ⟨n, w⟩ ⟨x, o⟩) ⟨k, p⟩ = _
   rw [hput, if_neg (fun q => hk q.1)]; exact h.frame k p hk
 | some old =>
  simp only
  by_cases hlt : x < old.fUpsets
  ·rw [if_pos hlt]
   refine ⟨fun p y hy => ?_, fun p y q hc => ?_, fun k p hk => ?_⟩
   ·rw [hput] at hy
    split at hy
    ·rename_i e; cases hy; exact .inr ⟨e.2, rfl, rfl⟩
    ·exact .inl (h.sound p y hy)
   ·rw [hput]
    rcases hc with hc | ⟨rfl, rfl, rfl⟩
    ·obtain ⟨z, hz, hl⟩ := h.compl p y q hc
     by_cases e : p = w
     ·subst e; rw [if_pos ⟨rfl, rfl⟩]; rw [hg] at hz; cases hz; exact ⟨_, rfl, by show x ≤ y; omega⟩
     ·rw [if_neg (fun q => e q.2)]; exact ⟨z, hz, hl⟩
    ·rw [if_pos ⟨rfl, rfl⟩]; exact ⟨_, rfl, Int.le_refl _⟩
   ·rw [hput, if_neg (fun q => hk q.1)]; exact h.frame k p hk
  ·rw [if_neg hlt]
   refine ⟨fun p y hy => .inl (h.sound p y hy), fun p y q hc => ?_, h.frame⟩
   rcases hc with hc | ⟨rfl, rfl, rfl⟩
   ·exact h.compl p y q hc
   ·exact ⟨old, hg, by omega⟩
theorem RI.stp1 {n : Nat} {C : Int → Int → Int → Prop} {m0 m : BM} (h : RI n C m0 m) (s w o x : Int) : RI n (fun p y q => C p y q ∨ ((s = -1 ∨ s = w) ∧ p = w ∧ y = x + up s w o ∧ q = o)) m0 (stp1 n s w o x m) := by
 unfold Go.Proofs.YtignpdbcgjllkaaGreat.L.stp1
 by_cases e : s = -1 ∨ s = w
 ·rw [if_pos e]
  exact (h.imp w o (x + up s w o)).congr fun p y q => by simp [e]
 ·rw [if_neg e]
  exact h.congr fun p y q => by simp [e]
theorem RI.stp {c : Ref09Cup} {n : Nat} {C : Int → Int → Int → Prop} {m0 m : BM} (h : RI n C m0 m) (e f : Int × Int) : RI n (fun p y q => C p y q ∨ cand c n e f p y q) m0 (stp c n e f m) := by
 unfold Go.Proofs.YtignpdbcgjllkaaGreat.L.stp
 refine ((h.stp1 (sett c n e.1 f.1) e.1 f.1 (e.2 + f.2)).stp1 (sett c n e.1 f.1) f.1 e.1 (e.2 + f.2)).congr fun p y q => ?_
 unfold cand
 constructor
 ·rintro ((hc | ⟨h1, rfl, h2, rfl⟩) | ⟨h1, rfl, h2, rfl⟩)
  ·exact .inl hc
  ·exact .inr ⟨.inl ⟨rfl, rfl⟩, h1, h2⟩
  ·exact .inr ⟨.inr ⟨rfl, rfl⟩, h1, h2⟩
 ·rintro (hc | ⟨⟨rfl, rfl⟩ | ⟨rfl, rfl⟩, h1, h2⟩)
  ·exact .inl (.inl hc)
  ·exact .inl (.inr ⟨h1, rfl, h2, rfl⟩)
  ·exact .inr ⟨h1, rfl, h2, rfl⟩
def frl (m : BM) (k : Int) (j : Nat) : List (Int × Int) := (List.range j).filterMap fun (p : Nat) => (mget m ⟨k, (p : Int)⟩).map fun x => ((p : Int), x.fUpsets)
def frm (c : Ref09Cup) (m : BM) (s : Ref09Side) : List (Int × Int) := if s.fMatch = -1 then [(s.fPlayer, 0)] else frl m s.fMatch c.fPlayers.toNat
theorem frl_congr {m m' : BM} {k : Int} {j : Nat} (h : ∀ p, mget m ⟨k, p⟩ = mget m' ⟨k, p⟩) : frl m k j = frl m' k j := by
 unfold frl; congr 1; funext p; rw [h]
theorem frm_congr {c : Ref09Cup} {m m' : BM} {s : Ref09Side} {P n : Nat} (hs : sok P n s) (h : ∀ k p, 0 ≤ k → k < (n : Int) → mget m ⟨k, p⟩ = mget m' ⟨k, p⟩) : frm c m s = frm c m' s := by
 unfold frm
 rcases hs with ⟨h1, _, _⟩ | ⟨_, h2, h3⟩
 ·rw [if_pos h1, if_pos h1]
 ·rw [if_neg (by omega), if_neg (by omega), frl_congr fun p => h _ p h2 h3]
theorem mem_frl {m : BM} {k : Int} {j : Nat} {e : Int × Int} : e ∈ frl m k j ↔ 0 ≤ e.1 ∧ e.1 < j ∧ ∃ x, mget m ⟨k, e.1⟩ = some x ∧ x.fUpsets = e.2 := by
 unfold frl
 rw [List.mem_filterMap]
 constructor
 ·rintro ⟨p, hp, h⟩
  rw [Option.map_eq_some_iff] at h
  obtain ⟨x, hx, rfl⟩ := h
  have := List.mem_range.1 hp
  exact ⟨by simp, by simpa using this, x, hx, rfl⟩
 ·rintro ⟨h0, h1, x, hx, h2⟩
  refine ⟨e.1.toNat, List.mem_range.2 (by omega), ?_⟩
  rw [show ((e.1.toNat : Nat) : Int) = e.1 from by omega, hx]
  simp [h2]
structure GB (c : Ref09Cup) (n : Nat) (m : BM) : Prop where
 row : ∀ k, k < n → RI k (fun p x o => ∃ e ∈ frm c m (fs (T c) k), ∃ f ∈ frm c m (sn (T c) k), cand c k e f p x o) m m
 none : ∀ k p, ¬ (0 ≤ k ∧ k < (n : Int)) → mget m ⟨k, p⟩ = none
 bd : ∀ k p x, mget m ⟨k, p⟩ = some x → 0 ≤ p ∧ p < c.fPlayers ∧ 0 ≤ x.fUpsets ∧ x.fUpsets < 2 ^ (k.toNat + 1)
theorem frm_bd {c : Ref09Cup} {n : Nat} {m : BM} {s : Ref09Side} (hs : sok c.fPlayers.toNat n s) (hb : ∀ k p x, mget m ⟨k, p⟩ = some x → 0 ≤ p ∧ p < c.fPlayers ∧ 0 ≤ x.fUpsets ∧ x.fUpsets < 2 ^ (k.toNat + 1)) {e : Int × Int} (he : e ∈ frm c m s) :
  0 ≤ e.1 ∧ e.1 < c.fPlayers ∧ 0 ≤ e.2 ∧ e.2 < 2 ^ n := by
 have hp : (0 : Int) < 2 ^ n := Int.pow_pos (by omega)
 unfold frm at he
 rcases hs with ⟨h1, h2, h3⟩ | ⟨_, h2, h3⟩
 ·rw [if_pos h1, List.mem_singleton] at he
  subst he
  exact ⟨h2, by show s.fPlayer < _; omega, Int.le_refl _, hp⟩
 ·rw [if_neg (by omega), mem_frl] at he
  obtain ⟨h4, h5, x, hx, h6⟩ := he
  have := hb _ _ _ hx
  refine ⟨h4, by omega, by omega, ?_⟩
  have h7 : (2 : Int) ^ (s.fMatch.toNat + 1) ≤ 2 ^ n := by
   have : s.fMatch.toNat + 1 ≤ n := by omega
   exact_mod_cast Nat.pow_le_pow_right (n := 2) (by omega) this
  omega
theorem cand_bd {c : Ref09Cup} {n : Nat} {e f : Int × Int} {p x o : Int} (h : cand c n e f p x o) (he : 0 ≤ e.1 ∧ e.1 < c.fPlayers ∧ 0 ≤ e.2 ∧ e.2 < 2 ^ n) (hf : 0 ≤ f.1 ∧ f.1 < c.fPlayers ∧ 0 ≤ f.2 ∧ f.2 < 2 ^ n) :
  0 ≤ p ∧ p < c.fPlayers ∧ 0 ≤ x ∧ x < 2 ^ (n + 1) := by
 obtain ⟨h1, _, h3⟩ := h
 have hu : 0 ≤ up (sett c n e.1 f.1) p o ∧ up (sett c n e.1 f.1) p o ≤ 1 := by unfold up; split <;> omega
 rw [Int.pow_succ]
 rcases h1 with ⟨rfl, rfl⟩ | ⟨rfl, rfl⟩ <;> omega
theorem GB.step {c : Ref09Cup} {n : Nat} {m m' : BM} (ht : TOK (T c) c.fPlayers.toNat) (hn : n < (T c).length) (h : GB c n m)
  (hr : RI n (fun p x o => ∃ e ∈ frm c m (fs (T c) n), ∃ f ∈ frm c m (sn (T c) n), cand c n e f p x o) m m') : GB c (n + 1) m' := by
 have hs := ht.side n hn
 have hlow : ∀ (k p : Int), 0 ≤ k → k < (n : Int) → mget m' ⟨k, p⟩ = mget m ⟨k, p⟩ := fun k p _ h2 => hr.frame k p (by omega)
 have ec1 : frm c m' (fs (T c) n) = frm c m (fs (T c) n) := frm_congr hs.1 hlow
 have ec2 : frm c m' (sn (T c) n) = frm c m (sn (T c) n) := frm_congr hs.2 hlow
 refine ⟨fun k hk => ?_, fun k p hk => ?_, fun k p x hx => ?_⟩
 ·rcases Nat.lt_or_ge k n with q | q
  ·have hs' := ht.side k (by omega)
   have hl2 : ∀ (k' p : Int), 0 ≤ k' → k' < (k : Int) → mget m' ⟨k', p⟩ = mget m ⟨k', p⟩ := fun k' p h1 h2 => hlow k' p h1 (by omega)
   have r := h.row k q
   rw [frm_congr hs'.1 hl2, frm_congr hs'.2 hl2]
   have e : ∀ p, mget m' ⟨k, p⟩ = mget m ⟨k, p⟩ := fun p => hlow k p (by omega) (by omega)
   exact ⟨fun p x hx => r.sound p x (by rw [← e]; exact hx), fun p x o hc => by rw [e]; exact r.compl p x o hc, fun _ _ _ => rfl⟩
  ·have : k = n := by omega
   subst this
   rw [ec1, ec2]
   exact ⟨hr.sound, hr.compl, fun _ _ _ => rfl⟩
 ·rw [hr.frame k p (by omega)]
  exact h.none k p (by omega)
 ·by_cases e : k = (n : Int)
  ·subst e
   obtain ⟨e', he, f, hf, hc⟩ := hr.sound p x hx
   rw [Int.toNat_natCast]
   exact cand_bd hc (frm_bd hs.1 h.bd he) (frm_bd hs.2 h.bd hf)
  ·rw [hr.frame k p e] at hx
   exact h.bd k p x hx
theorem GB.zero (c : Ref09Cup) : GB c 0 [] := ⟨fun k hk => by omega, fun _ _ _ => rfl, fun _ _ _ h => by cases h⟩
theorem RI.zero {c : Ref09Cup} {n : Nat} {m : BM} (h : GB c n m) : RI n (fun _ _ _ => False) m m :=
 ⟨fun p x hx => (by rw [h.none n p (by omega)] at hx; cases hx), fun _ _ _ hf => hf.elim, fun _ _ _ => rfl⟩
def brow (c : Ref09Cup) (m : BM) (n : Nat) : BM :=
 (frm c m (fs (T c) n)).foldl (fun m1 e => (frm c m (sn (T c) n)).foldl (fun m2 f => stp c n e f m2) m1) m
def bmap (c : Ref09Cup) : BM := (List.range (T c).length).foldl (brow c) []
theorem inner_fold {c : Ref09Cup} {n : Nat} {m0 : BM} {e : Int × Int} : ∀ (l : List (Int × Int)) {C : Int → Int → Int → Prop} {m : BM}, RI n C m0 m → RI n (fun p x o => C p x o ∨ ∃ f ∈ l, cand c n e f p x o) m0 (l.foldl (fun m2 f => stp c n e f m2) m)
 | [], C, m, h => h.congr fun p x o => by simp
 | f :: l, C, m, h => by
  rw [List.foldl_cons]
  refine (inner_fold l (h.stp e f)).congr fun p x o => ?_
  simp [or_assoc]
theorem outer_fold {c : Ref09Cup} {n : Nat} {m0 : BM} {S : List (Int × Int)} : ∀ (l : List (Int × Int)) {C : Int → Int → Int → Prop} {m : BM}, RI n C m0 m → RI n (fun p x o => C p x o ∨ ∃ e ∈ l, ∃ f ∈ S, cand c n e f p x o) m0 (l.foldl (fun m1 e => S.foldl (fun m2 f => stp c n e f m2) m1) m)
 | [], C, m, h => h.congr fun p x o => by simp
 | e :: l, C, m, h => by
  rw [List.foldl_cons]
  refine (outer_fold l (inner_fold S h)).congr fun p x o => ?_
  simp [or_assoc]
theorem bmap_good {c : Ref09Cup} (ht : TOK (T c) c.fPlayers.toNat) : GB c (T c).length (bmap c) := by
 unfold bmap
 have key : ∀ n, n ≤ (T c).length → GB c n ((List.range n).foldl (brow c) []) := by
  intro n
  induction n with
  | zero => intro _; exact GB.zero c
  | succ n ih =>
   intro hn
   have h := ih (by omega)
   rw [List.range_succ, List.foldl_append]
   refine h.step ht (by omega) ?_
   refine (outer_fold (S := frm c _ (sn (T c) n)) (frm c _ (fs (T c) n)) (RI.zero h)).congr fun p x o => ?_
   simp
 exact key _ (Nat.le_refl _)
def cst (m : BM) (k p : Int) : Option Int := (mget m ⟨k, p⟩).map (·.fUpsets)
theorem frl_cst {m m' : BM} {k : Int} {j : Nat} (h : ∀ p, cst m k p = cst m' k p) : frl m k j = frl m' k j := by
 unfold frl
 congr 1; funext p
 have := h p
 unfold cst at this
 cases h1 : mget m ⟨k, (p : Int)⟩ <;> cases h2 : mget m' ⟨k, (p : Int)⟩ <;> simp_all
theorem GB.uniq {c : Ref09Cup} {m m' : BM} (ht : TOK (T c) c.fPlayers.toNat) (h : GB c (T c).length m) (h' : GB c (T c).length m') : ∀ k p, cst m k p = cst m' k p := by
 have key : ∀ n : Nat, ∀ p, cst m n p = cst m' n p := by
  intro n
  induction n using Nat.strongRecOn with
  | ind n ih =>
   intro p
   rcases Nat.lt_or_ge n (T c).length with hn | hn
   ·have hs := ht.side n hn
    have hfr : ∀ s, sok c.fPlayers.toNat n s → frm c m s = frm c m' s := by
     intro s hs
     unfold frm
     rcases hs with ⟨h1, _, _⟩ | ⟨_, h2, h3⟩
     ·rw [if_pos h1, if_pos h1]
     ·rw [if_neg (by omega), if_neg (by omega)]
      refine frl_cst fun p => ?_
      have := ih s.fMatch.toNat (by omega) p
      rwa [show ((s.fMatch.toNat : Nat) : Int) = s.fMatch from by omega] at this
    have r := h.row n hn
    have r' := h'.row n hn
    rw [← hfr _ hs.1, ← hfr _ hs.2] at r'
    unfold cst
    cases h1 : mget m ⟨n, p⟩ with
    | none =>
     cases h2 : mget m' ⟨n, p⟩ with
     | none => rfl
     | some y => obtain ⟨z, hz, _⟩ := r.compl _ _ _ (r'.sound p y h2); rw [h1] at hz; cases hz
    | some x =>
     obtain ⟨y, hy, hl⟩ := r'.compl _ _ _ (r.sound p x h1)
     obtain ⟨x', hx', hl'⟩ := r.compl _ _ _ (r'.sound p y hy)
     rw [h1] at hx'; cases hx'
     rw [hy]
     simp only [Option.map_some]
     congr 1; omega
   ·unfold cst
    rw [h.none n p (by omega), h'.none n p (by omega)]
 intro k p
 by_cases h0 : 0 ≤ k
 ·have := key k.toNat p
  rwa [show ((k.toNat : Nat) : Int) = k from by omega] at this
 ·unfold cst
  rw [h.none k p (by omega), h'.none k p (by omega)]
end Go.Proofs.YtignpdbcgjllkaaGreat.L
set_option linter.all false
namespace Go.Proofs.YtignpdbcgjllkaaGreat.L
open Go.Kp
structure Val (c : Ref09Cup) : Prop where
 lim : lims c = true
 form : form c = true
 rght : rght c = true
 dup : dup [] c.fResults = false
 law : lawf c = true
theorem val_iff {c : Ref09Cup} : flt c = 0 ↔ Val c := by
 unfold flt
 constructor
 ·intro h
  by_cases c1 : lims c = true
  ·by_cases c2 : (form c && rght c) = true
   ·by_cases c3 : Go.Proofs.YtignpdbcgjllkaaGreat.L.dup [] c.fResults = true
    ·simp [c1, c2, c3] at h
    ·by_cases c4 : lawf c = true
     ·rw [Bool.and_eq_true] at c2
      exact ⟨c1, c2.1, c2.2, by simpa using c3, c4⟩
     ·simp [c1, c2, c3, c4] at h
   ·simp [c1, c2] at h
  ·simp [c1] at h
 ·rintro ⟨a, b, c, d, e⟩
  simp [a, b, c, d, e]
section
variable {c : Ref09Cup} (hv : Val c)
include hv
theorem Val.sz : Sz c := by
 have h := hv.lim
 simp only [lims, Bool.and_eq_true, decide_eq_true_eq, List.all_eq_true] at h
 exact ⟨by omega, fun r hr => by have := h.2 r hr; omega⟩
theorem Val.ff : c.fForm ≤ 1 ∧ 2 ≤ c.fPlayers ∧ c.fPlayers ≤ 16 ∧ (c.fGames = 1 ∨ c.fGames = 3 ∨ c.fGames = 5) := form_iff.1 hv.form
theorem Val.ok : TOK (T c) c.fPlayers.toNat := T_ok hv.form
theorem Val.len : ((T c).length : Int) = c.fPlayers - 1 := T_len hv.form
theorem Val.lw (m : Nat) : lwb c m = true := by
 unfold lwb
 cases e : res c (m : Int) with
 | none => rfl
 | some r => exact List.all_eq_true.1 hv.law r (res_mem e).1
theorem Val.res (m : Nat) {r : Ref09Result} (hr : Go.Proofs.YtignpdbcgjllkaaGreat.L.res c (m : Int) = some r) :
  0 ≤ known c (fs (T c) m) ∧ 0 ≤ known c (sn (T c) m) ∧ lg c.fGames (known c (fs (T c) m)) (known c (sn (T c) m)) [] r.fGames = true := lw_res (hv.lw m) hr
theorem Val.won (m : Nat) : won c (m : Int) = -1 ∨ 0 ≤ won c (m : Int) := won_bd (hv.lw m)
theorem Val.known {n : Nat} (hn : n < (T c).length) : (known c (fs (T c) n) = -1 ∨ 0 ≤ known c (fs (T c) n)) ∧ (known c (sn (T c) n) = -1 ∨ 0 ≤ known c (sn (T c) n)) :=
 ⟨known_bd (hv.ok.side n hn).1 fun m _ => hv.lw m, known_bd (hv.ok.side n hn).2 fun m _ => hv.lw m⟩
end
theorem bindO_some {α R : Type} (a : α) (k : α → WP R) : bindO (some a) k = k a := by
 funext Q
 unfold bindO
 apply propext
 constructor
 ·rintro ⟨b, h, q⟩; cases h; exact q
 ·intro q; exact ⟨a, rfl, q⟩
section
variable {N : Nat} (hN : 4000 ≤ N)
include hN
theorem wonD_eq {c : Ref09Cup} (hv : Val c) {n : Nat} (hn : n < (T c).length) (c1 c2 : Int) (c4 : List LadderResult) (c5 : List LadderPair) :
  ladderDrawWonXXXXX N (n : Int) c1 c2 c.fGames c4 c5 (rm c.fResults) (plys c (T c).length) = some (won c (n : Int)) := by
 have := hv.ff
 exact wonP_eq hN c c1 c2 c4 c5 hv.sz (plys_idx hn) (by omega) fun r hr => hv.res n hr
theorem settled_eq {c : Ref09Cup} (hv : Val c) {n : Nat} (hn : n < (T c).length) (a b c1 c2 : Int) (c4 : List LadderResult) (c5 : List LadderPair) :
  ladderDrawSettled N (n : Int) a b c1 c2 c.fGames c4 c5 (rm c.fResults) (plys c (T c).length) = some (sett c n a b) := by
 unfold ladderDrawSettled sett prot mgt
 rw [plys_idx hn, Option.bind_some, mget_rm, Option.bind_some, wonD_eq hN hv hn]
 by_cases q : ply c n = ⟨a, b⟩
 ·cases e : res c (n : Int) with
  | none => simp [q]
  | some r => cases hp : r.fProtested <;> simp [q, hp, cr]
 ·simp [q]
theorem from_eq {c : Ref09Cup} (hf : form c = true) (m : BM) (s : Ref09Side) (c1 c3 : Int) (c4 : List LadderResult) (c5 : List LadderPair) (m2 : List (Int × LadderResult)) (l1 : List (Ar2 Int)) :
  ladderDrawFromX N (csd s) c1 c.fPlayers c3 c4 c5 m m2 l1 = some (frm c m s) := by
 have ff := form_iff.1 hf
 unfold ladderDrawFromX frm
 by_cases q : s.fMatch = -1
 ·have : (csd s).fMatch = -1 := q
  simp only [this, q, decide_true, if_true]
  rfl
 ·have q' : ¬ (csd s).fMatch = -1 := q
  simp only [q', q, decide_false, Bool.false_eq_true, if_false]
  have key := loop_list (N := N) (B := fun rec3 x => ladderDrawFromX_b1 N (csd s) c.fPlayers m rec3 x.1 x.2) (List.range c.fPlayers.toNat) (fun i (a : List (Int × Int)) => ((i : Int), a)) (fun _ _ => some (frl m s.fMatch c.fPlayers.toNat)) (fun i a => a = frl m s.fMatch i)
   (fun a rec hok => by
    subst hok
    show ladderDrawFromX_b1 N _ _ _ rec _ _ = _
    unfold ladderDrawFromX_b1
    simp only [List.length_range, show ¬ ((c.fPlayers.toNat : Int) < c.fPlayers) from by omega, decide_false, Bool.false_eq_true, if_false])
   (fun i x a rec hx hok hh => by
    have hlt := len_lt hx
    simp only [List.length_range] at hlt
    subst hok
    show ladderDrawFromX_b1 N _ _ _ rec (i : Int) _ = _
    unfold ladderDrawFromX_b1 mgt
    simp only [show ((i : Int) < c.fPlayers) from by omega, decide_true, if_true, Option.bind_some, w64_succ (i := i) (by omega), show (csd s).fMatch = s.fMatch from rfl]
    have hs : frl m s.fMatch (i + 1) = frl m s.fMatch i ++ ((mget m ⟨s.fMatch, (i : Int)⟩).map fun x => ((i : Int), x.fUpsets)).toList := by
     unfold frl; rw [List.range_succ, List.filterMap_append]
     congr 1
    have hnew : mget (frl m s.fMatch i) (i : Int) = none := by
     cases e : mget (frl m s.fMatch i) (i : Int) with
     | none => rfl
     | some y =>
      exfalso
      have : ∀ (l : List (Int × Int)) (k y : Int), mget l k = some y → (k, y) ∈ l := by
       intro l
       induction l with
       | nil => intro k y h; cases h
       | cons p l ih =>
        intro k y h
        rw [mget] at h
        by_cases e : k = p.1
        ·rw [if_pos e] at h; cases h; simp [e]
        ·rw [if_neg e] at h; simp [ih k y h]
      have := (mem_frl.1 (this _ _ _ e)).2.1
      simp at this
    cases e : mget m ⟨s.fMatch, (i : Int)⟩ with
    | none =>
     rw [e] at hs
     simp only [Option.map_none, Option.toList_none, List.append_nil] at hs
     simp only [Option.isSome_none, Bool.false_eq_true, if_false]
     exact hh _ hs.symm
    | some y =>
     rw [e] at hs
     simp only [Option.map_some, Option.toList_some] at hs
     simp only [Option.isSome_some, if_true, Option.getD_some]
     refine hh _ ?_
     rw [mput_new hnew, hs]) (by simp; omega) [] rfl
  have key' : loopN (fun rec3 x => ladderDrawFromX_b1 N (csd s) c.fPlayers m rec3 x.1 x.2) N ((0 : Int), ([] : List (Int × Int))) = some (frl m s.fMatch c.fPlayers.toNat) := key
  rw [key', Option.bind_some]
abbrev Rc := BM × List (Int × Int) → WP BM
theorem k5_eq (n : Nat) (rc : Rc) (rem : List (Int × Int)) (m : BM) (x : Ar2 Int) (cost : Int) : ladderDrawBest_k5 N (n : Int) rc rem m x cost = rc (imp n x.a0 x.a1 cost m, rem) := by
 unfold ladderDrawBest_k5 mgt
 rw [bindO_some]
 unfold imp ladderDrawBest_k4 ladderDrawBest_k3
 cases h : mget m ⟨(n : Int), x.a0⟩ with
 | none => rfl
 | some old =>
  simp only [Option.isSome_some, Option.getD_some, Bool.not_true, Bool.false_eq_true, if_false, decide_eq_true_eq]
  by_cases q : cost < old.fUpsets
  ·simp [q]
  ·simp [q]
theorem k8_eq (n : Nat) (a b x y s : Int) (rc : Rc) (rem : List (Int × Int)) (m : BM) (hx : 0 ≤ x ∧ x ≤ 100000) (hy : 0 ≤ y ∧ y ≤ 100000) :
  ladderDrawBest_k8 N (n : Int) x rc y rem s m [⟨a, b⟩, ⟨b, a⟩] = rc (stp1 n s b a (x + y) m, rem) := by
 unfold ladderDrawBest_k8
 rw [show idx ([⟨a, b⟩, ⟨b, a⟩] : List (Ar2 Int)) 1 = some ⟨b, a⟩ from rfl, bindO_some]
 unfold ladderDrawBest_k7 ladderDrawBest_k6 ladderDrawBest_k3 stp1 up
 by_cases h1 : s = -1
 ·subst h1
  simp only [decide_true, Bool.not_true, Bool.false_eq_true, if_false, if_true, true_or, true_and]
  rw [sum2 hN (x := x) (y := y) (by omega) (by omega), bindO_some]
  by_cases h2 : a < b
  ·simp only [h2, decide_true, if_true]
   rw [sum2 hN (x := x + y) (y := 1) (by omega) (by omega), bindO_some, k5_eq hN]
  ·simp only [h2, decide_false, Bool.false_eq_true, if_false]
   rw [k5_eq hN, Int.add_zero]
 ·by_cases h2 : s = b
  ·subst h2
   simp only [h1, decide_true, decide_false, Bool.not_true, Bool.not_false, Bool.false_eq_true, if_false, if_true, or_true, false_and, Int.add_zero]
   rw [sum2 hN (x := x) (y := y) (by omega) (by omega), bindO_some, k5_eq hN]
  ·simp only [h1, h2, decide_false, Bool.not_false, if_true, if_false, or_self]
theorem k12_eq (n : Nat) (a b x y s : Int) (rc : Rc) (rem : List (Int × Int)) (m : BM) (hx : 0 ≤ x ∧ x ≤ 100000) (hy : 0 ≤ y ∧ y ≤ 100000) :
  (if !decide (s = -1) then ladderDrawBest_k12 N (n : Int) x m rc y rem s ⟨a, b⟩ (!decide (s = a)) [⟨a, b⟩, ⟨b, a⟩] else ladderDrawBest_k12 N (n : Int) x m rc y rem s ⟨a, b⟩ false [⟨a, b⟩, ⟨b, a⟩])
   = rc (stp1 n s b a (x + y) (stp1 n s a b (x + y) m), rem) := by
 have e10 : ∀ cost, ladderDrawBest_k10 N (n : Int) x m rc y rem s ⟨a, b⟩ [⟨a, b⟩, ⟨b, a⟩] cost = rc (stp1 n s b a (x + y) (imp n a b cost m), rem) := by
  intro cost
  unfold ladderDrawBest_k10 mgt
  rw [bindO_some]
  unfold imp ladderDrawBest_k9
  cases h : mget m ⟨(n : Int), a⟩ with
  | none => simp [k8_eq hN n a b x y s rc rem _ hx hy]
  | some old =>
   simp only [Option.isSome_some, Option.getD_some, Bool.not_true, Bool.false_eq_true, if_false, decide_eq_true_eq, k8_eq hN n a b x y s rc rem _ hx hy]
   by_cases q : cost < old.fUpsets
   ·simp [q]
   ·simp [q]
 unfold ladderDrawBest_k12 ladderDrawBest_k11
 by_cases h1 : s = -1
 ·subst h1
  simp only [decide_true, Bool.not_true, Bool.false_eq_true, if_false, if_true]
  rw [sum2 hN (x := x) (y := y) (by omega) (by omega), bindO_some]
  by_cases h2 : b < a
  ·simp only [h2, decide_true, if_true]
   rw [sum2 hN (x := x + y) (y := 1) (by omega) (by omega), bindO_some, e10]
   congr 3
   unfold stp1 up
   simp [h2]
  ·simp only [h2, decide_false, Bool.false_eq_true, if_false]
   rw [e10]
   congr 3
   unfold stp1 up
   simp [h2]
 ·by_cases h2 : s = a
  ·subst h2
   simp only [h1, decide_true, decide_false, Bool.not_true, Bool.not_false, Bool.false_eq_true, if_false, if_true]
   rw [sum2 hN (x := x) (y := y) (by omega) (by omega), bindO_some, e10]
   congr 3
   unfold stp1 up
   simp [h1]
  ·simp only [h1, h2, decide_false, Bool.not_false, if_true]
   rw [k8_eq hN n a b x y s rc rem _ hx hy]
   congr 3
   unfold stp1
   simp [h1, h2]
theorem pow_le {n : Nat} (h : n ≤ 15) : (2 : Int) ^ n ≤ 32768 := by
 have h1 : (2 : Nat) ^ n ≤ 2 ^ 15 := Nat.pow_le_pow_right (by omega) h
 have h2 : (2 : Nat) ^ n ≤ 32768 := Nat.le_trans h1 (by decide)
 have h3 : ((2 ^ n : Nat) : Int) = (2 : Int) ^ n := by rw [Int.natCast_pow]; rfl
 rw [← h3]; omega
theorem inner_wp {c : Ref09Cup} (hv : Val c) {n : Nat} (hn : n < (T c).length) (c1 : Int) (c4 : List LadderResult) (c5 : List LadderPair) (rec50 : Rc) (e : Int × Int) (he : 0 ≤ e.2 ∧ e.2 ≤ 100000) (rem470 : List (Int × Int)) (Q : BM → Prop) {m0 : BM} {C : Int → Int → Int → Prop} (S : List (Int × Int)) (hS : ∀ f ∈ S, 0 ≤ f.2 ∧ f.2 ≤ 100000)
  (hk : ∀ m', RI n (fun p x o => C p x o ∨ ∃ f ∈ S, cand c n e f p x o) m0 m' → rec50 (m', rem470) Q) :
  ∀ (fuel : Nat) (rem done : List (Int × Int)) (m : BM), rem.length < fuel → (done ++ rem).Perm S → RI n (fun p x o => C p x o ∨ ∃ f ∈ done, cand c n e f p x o) m0 m →
   loopW (fun rec51 x => ladderDrawBest_b13 N c1 c.fPlayers c.fGames c4 c5 (rm c.fResults) (plys c (T c).length) (n : Int) rec50 e.1 e.2 rem470 rec51 x.1 x.2) fuel (m, rem) Q := by
 intro fuel
 induction fuel with
 | zero => intro rem done m h; omega
 | succ fuel ih =>
  intro rem done m hlen hp hr
  show ladderDrawBest_b13 N _ _ _ _ _ _ _ _ rec50 e.1 e.2 rem470 (loopW _ fuel) m rem Q
  rw [ladderDrawBest_b13]
  refine ⟨fun h0 => ?_, fun pre f post hs => ?_⟩
  ·subst h0
   rw [List.append_nil] at hp
   exact hk m (hr.congr fun p x o => by
    constructor
    ·rintro (h | ⟨f, hf, h⟩)
     ·exact .inl h
     ·exact .inr ⟨f, hp.mem_iff.1 hf, h⟩
    ·rintro (h | ⟨f, hf, h⟩)
     ·exact .inl h
     ·exact .inr ⟨f, hp.mem_iff.2 hf, h⟩)
  ·subst hs
   have hfS : f ∈ S := hp.mem_iff.1 (by simp)
   have hf := hS f hfS
   simp only
   rw [settled_eq hN hv hn, bindO_some, show idx ([⟨e.1, f.1⟩, ⟨f.1, e.1⟩] : List (Ar2 Int)) 0 = some ⟨e.1, f.1⟩ from rfl, bindO_some, k12_eq hN n e.1 f.1 e.2 f.2 (sett c n e.1 f.1) _ _ _ he hf]
   refine ih (pre ++ post) (done ++ [f]) _ (by simp at hlen ⊢; omega) ?_ ?_
   ·refine List.Perm.trans ?_ hp
    rw [List.append_assoc]
    exact (List.perm_append_left_iff _).2 (by rw [List.singleton_append]; exact List.perm_middle.symm)
   ·exact (hr.stp e f).congr fun p x o => by
     simp only [List.mem_append, List.mem_singleton, or_assoc]
     constructor
     ·rintro (h | ⟨g, hg, h⟩ | h)
      ·exact .inl h
      ·exact .inr ⟨g, .inl hg, h⟩
      ·exact .inr ⟨f, .inr rfl, h⟩
     ·rintro (h | ⟨g, hg | rfl, h⟩)
      ·exact .inl h
      ·exact .inr (.inl ⟨g, hg, h⟩)
      ·exact .inr (.inr h)
theorem outer_wp {c : Ref09Cup} (hv : Val c) {n : Nat} (hn : n < (T c).length) (c1 : Int) (c4 : List LadderResult) (c5 : List LadderPair) (rec43 : Int × Int × BM → WP BM) (v2897 : Int) (x816 : LadderPair) (hx : x816.fSecond = csd (sn (T c) n)) (Q : BM → Prop) {m0 : BM} (hg : GB c n m0) (F : List (Int × Int)) (hF : ∀ f ∈ F, 0 ≤ f.2 ∧ f.2 ≤ 100000) (hS : ∀ f ∈ frm c m0 (sn (T c) n), 0 ≤ f.2 ∧ f.2 ≤ 100000)
  (hk : ∀ m', RI n (fun p x o => ∃ e ∈ F, ∃ f ∈ frm c m0 (sn (T c) n), cand c n e f p x o) m0 m' → rec43 (v2897, w64 ((n : Int) + 1), m') Q) :
  ∀ (fuel : Nat) (rem done : List (Int × Int)) (m : BM), rem.length < fuel → (done ++ rem).Perm F → RI n (fun p x o => ∃ e ∈ done, ∃ f ∈ frm c m0 (sn (T c) n), cand c n e f p x o) m0 m →
   loopW (fun rec50 x => ladderDrawBest_b14 N c1 c.fPlayers c.fGames c4 c5 (rm c.fResults) (plys c (T c).length) v2897 (n : Int) rec43 x816 rec50 x.1 x.2) fuel (m, rem) Q := by
 intro fuel
 induction fuel with
 | zero => intro rem done m h; omega
 | succ fuel ih =>
  intro rem done m hlen hp hr
  show ladderDrawBest_b14 N _ _ _ _ _ _ _ _ _ rec43 x816 (loopW _ fuel) m rem Q
  rw [ladderDrawBest_b14]
  refine ⟨fun h0 => ?_, fun pre e post hs => ?_⟩
  ·subst h0
   rw [List.append_nil] at hp
   unfold ladderDrawBest_k2
   exact hk m (hr.congr fun p x o => ⟨fun ⟨e, he, h⟩ => ⟨e, hp.mem_iff.1 he, h⟩, fun ⟨e, he, h⟩ => ⟨e, hp.mem_iff.2 he, h⟩⟩)
  ·subst hs
   have heF : e ∈ F := hp.mem_iff.1 (by simp)
   simp only
   have ht := hv.ok
   have hside := (ht.side n hn).2
   rw [hx, from_eq hN hv.form, bindO_some]
   have efr : frm c m (sn (T c) n) = frm c m0 (sn (T c) n) := frm_congr hside fun k p _ h2 => hr.frame k p (by omega)
   rw [efr]
   have hff := hv.ff
   have hlenS : (frm c m0 (sn (T c) n)).length < N := by
    unfold frm frl
    split
    ·simp; omega
    ·have := List.length_filterMap_le (fun (p : Nat) => (mget m0 ⟨(sn (T c) n).fMatch, (p : Int)⟩).map fun x => ((p : Int), x.fUpsets)) (List.range c.fPlayers.toNat)
     rw [List.length_range] at this
     omega
   refine inner_wp hN hv hn c1 c4 c5 _ e (hF e heF) (pre ++ post) Q (C := fun p x o => ∃ e ∈ done, ∃ f ∈ frm c m0 (sn (T c) n), cand c n e f p x o) (frm c m0 (sn (T c) n)) hS (fun m' hr' => ?_) N _ [] m hlenS (List.Perm.refl _) (hr.congr fun p x o => by simp)
   refine ih (pre ++ post) (done ++ [e]) m' (by simp at hlen ⊢; omega) ?_ ?_
   ·refine List.Perm.trans ?_ hp
    rw [List.append_assoc]
    exact (List.perm_append_left_iff _).2 (by rw [List.singleton_append]; exact List.perm_middle.symm)
   ·exact hr'.congr fun p x o => by
     simp only [List.mem_append, List.mem_singleton]
     constructor
     ·rintro (⟨g, hg, h⟩ | h)
      ·exact ⟨g, .inl hg, h⟩
      ·exact ⟨e, .inr rfl, h⟩
     ·rintro ⟨g, hg | rfl, h⟩
      ·exact .inl ⟨g, hg, h⟩
      ·exact .inr h
theorem best_wp {c : Ref09Cup} (hv : Val c) (c1 : Int) (c4 : List LadderResult) (Q : BM → Prop) (hQ : ∀ m, GB c (T c).length m → Q m) :
  ladderDrawBest N c1 c.fPlayers c.fGames c4 ((T c).map cpr) (rm c.fResults) (plys c (T c).length) Q := by
 unfold ladderDrawBest
 have ht := hv.ok
 have hff := hv.ff
 have hlen := hv.len
 have key : ∀ (fuel n : Nat) (m : BM), n ≤ (T c).length → (T c).length - n < fuel → GB c n m →
   loopW (fun rec43 x => ladderDrawBest_b15 N c1 c.fPlayers c.fGames c4 ((T c).map cpr) (rm c.fResults) (plys c (T c).length) rec43 x.1 x.2.1 x.2.2) fuel ((((T c).map cpr).length : Int), (n : Int), m) Q := by
  intro fuel
  induction fuel with
  | zero => intro n m _ h; omega
  | succ fuel ih =>
   intro n m hn hfu hg
   show ladderDrawBest_b15 N _ _ _ _ _ _ _ (loopW _ fuel) _ (n : Int) m Q
   rw [ladderDrawBest_b15]
   rcases Nat.lt_or_ge n (T c).length with hlt | hge
   ·rw [if_pos (decide_eq_true (show ((n : Int) < (((T c).map cpr).length : Int)) from by rw [List.length_map]; omega))]
    have hxi : ((T c).map cpr)[n]? = some (cpr ((T c).getD n dP)) := by rw [List.getElem?_map, getT hlt]; rfl
    rw [idx_at hxi, bindO_some, show (cpr ((T c).getD n dP)).fFirst = csd (fs (T c) n) from rfl, from_eq hN hv.form, bindO_some]
    have hpw : (2 : Int) ^ n ≤ 32768 := pow_le hN (by omega)
    have hs := ht.side n hlt
    have hb1 : ∀ f ∈ frm c m (fs (T c) n), 0 ≤ f.2 ∧ f.2 ≤ 100000 := fun f hf => by have := frm_bd hs.1 hg.bd hf; omega
    have hb2 : ∀ f ∈ frm c m (sn (T c) n), 0 ≤ f.2 ∧ f.2 ≤ 100000 := fun f hf => by have := frm_bd hs.2 hg.bd hf; omega
    have hlenF : (frm c m (fs (T c) n)).length < N := by
     unfold frm frl
     split
     ·simp; omega
     ·have := List.length_filterMap_le (fun (p : Nat) => (mget m ⟨(fs (T c) n).fMatch, (p : Int)⟩).map fun x => ((p : Int), x.fUpsets)) (List.range c.fPlayers.toNat)
      rw [List.length_range] at this
      omega
    refine outer_wp hN hv hlt c1 c4 _ _ _ (cpr ((T c).getD n dP)) rfl Q hg _ hb1 hb2 (fun m' hr => ?_) N _ [] m hlenF (List.Perm.refl _) ((RI.zero hg).congr fun p x o => by simp)
    rw [w64_succ (by omega)]
    exact ih (n + 1) m' (by omega) (by omega) (hg.step ht hlt hr)
   ·have : n = (T c).length := by omega
    subst this
    simp only [List.length_map, Int.lt_irrefl, decide_false, Bool.false_eq_true, if_false]
    exact hQ m hg
 exact key N 0 [] (by omega) (by omega) (GB.zero c)
end
end Go.Proofs.YtignpdbcgjllkaaGreat.L
set_option linter.all false
namespace Go.Proofs.YtignpdbcgjllkaaGreat.L
open Go.Kp
theorem WGood.bindW {α R : Type} {x : WP α} {k : α → WP R} (hx : WGood x) (h : ∀ a, WGood (k a)) : WGood (Go.Kp.bindW x k) :=
 ⟨fun q => hx.no (hx.mono _ _ (fun a => (h a).no) q), fun P Q p q => hx.mono _ _ (fun a ⟨p, q⟩ => (h a).and P Q p q) (hx.and _ _ p q), fun P Q m q => hx.mono _ _ (fun a => (h a).mono P Q m) q⟩
section
variable {N : Nat}
theorem k3_good {rc : Rc} (h : ∀ y, WGood (rc y)) (rem m) : WGood (ladderDrawBest_k3 N rc rem m) := by unfold ladderDrawBest_k3; exact h _
theorem k4_good {rc : Rc} (h : ∀ y, WGood (rc y)) (v rem m x cost b) : WGood (ladderDrawBest_k4 N v rc rem m x cost b) := by unfold ladderDrawBest_k4; exact .ite (k3_good h _ _) (k3_good h _ _)
theorem k5_good {rc : Rc} (h : ∀ y, WGood (rc y)) (v rem m x cost) : WGood (ladderDrawBest_k5 N v rc rem m x cost) := by unfold ladderDrawBest_k5; exact .bindO fun ⟨_, _⟩ => .ite (k4_good h ..) (k4_good h ..)
theorem k6_good {rc : Rc} (h : ∀ y, WGood (rc y)) (v rem m x r b) : WGood (ladderDrawBest_k6 N v rc rem m x r b) := by unfold ladderDrawBest_k6; exact .ite (.bindO fun _ => k5_good h ..) (k5_good h ..)
theorem k7_good {rc : Rc} (h : ∀ y, WGood (rc y)) (v a b rem r m x q) : WGood (ladderDrawBest_k7 N v a rc b rem r m x q) := by unfold ladderDrawBest_k7; exact .ite (k3_good h ..) (.bindO fun _ => .ite (k6_good h ..) (k6_good h ..))
theorem k8_good {rc : Rc} (h : ∀ y, WGood (rc y)) (v a b rem r m x) : WGood (ladderDrawBest_k8 N v a rc b rem r m x) := by unfold ladderDrawBest_k8; exact .bindO fun _ => .ite (k7_good h ..) (k7_good h ..)
theorem k9_good {rc : Rc} (h : ∀ y, WGood (rc y)) (v a m b rem r x l cost q) : WGood (ladderDrawBest_k9 N v a m rc b rem r x l cost q) := by unfold ladderDrawBest_k9; exact .ite (k8_good h ..) (k8_good h ..)
theorem k10_good {rc : Rc} (h : ∀ y, WGood (rc y)) (v a m b rem r x l cost) : WGood (ladderDrawBest_k10 N v a m rc b rem r x l cost) := by unfold ladderDrawBest_k10; exact .bindO fun ⟨_, _⟩ => .ite (k9_good h ..) (k9_good h ..)
theorem k11_good {rc : Rc} (h : ∀ y, WGood (rc y)) (v a m b rem r x l z q) : WGood (ladderDrawBest_k11 N v a m rc b rem r x l z q) := by unfold ladderDrawBest_k11; exact .ite (.bindO fun _ => k10_good h ..) (k10_good h ..)
theorem k12_good {rc : Rc} (h : ∀ y, WGood (rc y)) (v a m b rem r x q l) : WGood (ladderDrawBest_k12 N v a m rc b rem r x q l) := by unfold ladderDrawBest_k12; exact .ite (k8_good h ..) (.bindO fun _ => .ite (k11_good h ..) (k11_good h ..))
theorem best_good (c1 c2 c3 : Int) (c4 : List LadderResult) (c5 : List LadderPair) (m1 : List (Int × LadderResult)) (l1 : List (Ar2 Int)) : WGood (ladderDrawBest N c1 c2 c3 c4 c5 m1 l1) := by
 unfold ladderDrawBest
 refine WGood.loop (fun rec x hr => ?_) _ _
 rw [ladderDrawBest_b15]
 refine .ite (.bindO fun _ => .bindO fun _ => WGood.loop (fun rec2 y hr2 => ?_) _ _) (by unfold ladderDrawBest_k1; exact .ret _)
 rw [ladderDrawBest_b14]
 refine .next (by unfold ladderDrawBest_k2; exact hr _) (fun ⟨_, _⟩ _ => .bindO fun _ => WGood.loop (fun rec3 z hr3 => ?_) _ _)
 rw [ladderDrawBest_b13]
 exact .next (hr2 _) (fun ⟨_, _⟩ _ => .bindO fun _ => .bindO fun _ => .ite (k12_good hr3 ..) (k12_good hr3 ..))
theorem may_good (c1 c2 c3 : Int) (c4 : List LadderResult) (c5 : List LadderPair) (m1 : List (Int × LadderResult)) (l1 : List (Ar2 Int)) : WGood (ladderDrawMayW N c1 c2 c3 c4 c5 m1 l1) := by
 unfold ladderDrawMayW
 refine WGood.bindW (best_good ..) fun m => WGood.loop (fun rec x hr => ?_) _ _
 rw [ladderDrawMayW_b3]
 exact .ite (.bindO fun _ => .bindO fun ⟨_, _⟩ => .ite (.bindO fun _ => hr _) (hr _)) (.ret _)
theorem asked_good (c : LadderCup) (p : Int) : WGood (ladderCupAsked N c p) := by
 unfold ladderCupAsked
 refine .bindO fun z => ?_
 rcases z with r | ⟨a, b, c, d, e, f, g, h⟩
 ·exact .ite (.ret _) (.bindO fun _ => .ite (.ret _) .fail)
 ·exact .ite (.ret _) (.bindO fun _ => .ite (.ret _) (WGood.bindW (best_good ..) fun _ => .bindO fun _ => .bindO fun ⟨_, _⟩ => .ite (.ret _) (.ret _)))
theorem upsets_good (c : LadderCup) (p : Int) : WGood (ladderUpsetsW N c p) := by
 unfold ladderUpsetsW
 refine WGood.bindW (asked_good ..) fun z => ?_
 rcases z with r | ⟨a, b, c, d, e, f, g, h, i⟩
 ·exact .ite (.ret _) .fail
 ·exact .ite (.ret _) (.bindO fun _ => .bindO fun ⟨_, _⟩ => .ret _)
end
def lst (c : Ref09Cup) : Nat := (T c).length - 1
def mayl (c : Ref09Cup) (m : BM) (j : Nat) : List Int := (List.range j).filterMap fun (p : Nat) => if (mget m ⟨(lst c : Int), (p : Int)⟩).isSome then some (p : Int) else none
def mays (c : Ref09Cup) : List Int := mayl c (bmap c) c.fPlayers.toNat
def gm (c : Ref09Cup) (n : Nat) : List Int := match res c (n : Int) with | none => [] | some r => r.fGames
def opn (c : Ref09Cup) (n : Nat) : Bool := decide (known c (fs (T c) n) ≠ -1) && (decide (known c (sn (T c) n) ≠ -1) && decide (won c (n : Int) = -1))
def nextl (c : Ref09Cup) (j : Nat) : List LadderMatch := (List.range j).filterMap fun (n : Nat) =>
 if opn c n then some ⟨(n : Int), known c (fs (T c) n), known c (sn (T c) n), cnt (known c (fs (T c) n)) (gm c n), cnt (known c (sn (T c) n)) (gm c n)⟩ else none
def nexts (c : Ref09Cup) : List LadderMatch := nextl c (T c).length
def ups (c : Ref09Cup) (p : Int) : Int × Int :=
 if flt c = 0 then (if inr p 0 (c.fPlayers - 1) then (match cst (bmap c) (lst c : Int) p with | none => (0, 9) | some x => (x, 0)) else (0, 2)) else (0, flt c)
def winner (c : Ref09Cup) : Int × Int := if flt c = 0 then (if won c (lst c : Int) = -1 then (0, 7) else if 1 < (mays c).length then (0, 8) else (won c (lst c : Int), 0)) else (0, flt c)
theorem isSome_cst {m : BM} {k p : Int} : (mget m ⟨k, p⟩).isSome = (cst m k p).isSome := by unfold cst; cases mget m ⟨k, p⟩ <;> rfl
theorem mayl_uniq {c : Ref09Cup} (hv : Val c) {m : BM} (h : GB c (T c).length m) (j : Nat) : mayl c m j = mayl c (bmap c) j := by
 unfold mayl; congr 1; funext p; rw [isSome_cst, isSome_cst, h.uniq hv.ok (bmap_good hv.ok)]
theorem fmap_succ {α : Type} (f : Nat → Option α) (i : Nat) : (List.range (i + 1)).filterMap f = (List.range i).filterMap f ++ (f i).toList := by
 rw [List.range_succ, List.filterMap_append]; congr 1
section
variable {N : Nat} (hN : 4000 ≤ N)
include hN
theorem last_eq {c : Ref09Cup} (hv : Val c) (c1 c2 c3 : Int) (c4 : List LadderResult) (m1 : List (Int × LadderResult)) (l1 : List (Ar2 Int)) : ladderDrawLast N c1 c2 c3 c4 ((T c).map cpr) m1 l1 = some (lst c : Int) := by
 have := hv.ff; have hl := hv.len
 unfold ladderDrawLast lst
 rw [List.length_map, w64_id (by omega) (by omega)]
 congr 1; omega
theorem mayD_eq {c : Ref09Cup} (hv : Val c) (c1 : Int) (c4 : List LadderResult) : ladderDrawMay N c1 c.fPlayers c.fGames c4 ((T c).map cpr) (rm c.fResults) (plys c (T c).length) = some (mays c) := by
 have ff := hv.ff
 refine det_eq (may_good ..) ?_
 unfold ladderDrawMayW
 refine best_wp hN hv c1 c4 _ fun m hg => ?_
 have key : ∀ (fuel i : Nat), i ≤ c.fPlayers.toNat → c.fPlayers.toNat - i < fuel →
   loopW (fun rec3 x => ladderDrawMayW_b3 N c1 c.fPlayers c.fGames c4 ((T c).map cpr) (rm c.fResults) (plys c (T c).length) m rec3 x.1 x.2) fuel ((i : Int), mayl c m i) (fun x => x = mays c) := by
  intro fuel
  induction fuel with
  | zero => intro i _ h; omega
  | succ fuel ih =>
   intro i hi hf
   show ladderDrawMayW_b3 N _ _ _ _ _ _ _ m (loopW _ fuel) (i : Int) (mayl c m i) _
   rw [ladderDrawMayW_b3]
   rcases Nat.lt_or_ge i c.fPlayers.toNat with hlt | hge
   ·have hs : mayl c m (i + 1) = mayl c m i ++ (if (mget m ⟨(lst c : Int), (i : Int)⟩).isSome then some (i : Int) else none).toList := fmap_succ _ i
    have hl : (mayl c m i).length ≤ i := by unfold mayl; exact Nat.le_trans (List.length_filterMap_le _ _) (by simp)
    rw [if_pos (decide_eq_true (show (i : Int) < c.fPlayers from by omega)), last_eq hN hv, bindO_some]
    unfold mgt
    rw [bindO_some]
    simp only [ladderDrawMayW_k2, w64_succ (i := i) (by omega)]
    by_cases e : (mget m ⟨(lst c : Int), (i : Int)⟩).isSome = true
    ·rw [if_pos e, app_ok (by simp; omega), bindO_some]
     rw [e] at hs
     have := ih (i + 1) (by omega) (by omega)
     rw [hs] at this
     exact this
    ·rw [if_neg e]
     rw [if_neg e] at hs
     have := ih (i + 1) (by omega) (by omega)
     rw [hs] at this
     simpa using this
   ·have : i = c.fPlayers.toNat := by omega
    subst this
    rw [if_neg (by simp; omega)]
    unfold ladderDrawMayW_k1
    show mayl c m _ = mays c
    exact mayl_uniq hv hg _
 exact key N 0 (by omega) (by omega)
theorem winner_eq (c : Ref09Cup) (h : c.fResults.length ≤ 1000) : ladderWinner N (cc c) = some (winner c) := by
 unfold ladderWinner winner
 rw [draw_eq hN c h, Option.bind_some]
 by_cases q : flt c = 0
 ·have hv := val_iff.1 q
  have ff := hv.ff; have hl := hv.len
  rw [if_pos q, if_pos q]
  simp only [drw, decide_true, Bool.not_true, Bool.false_eq_true, if_false]
  rw [last_eq hN hv, Option.bind_some, wonD_eq hN hv (by unfold lst; omega), Option.bind_some, mayD_eq hN hv, Option.bind_some]
  by_cases e : won c (lst c : Int) = -1
  ·simp [e]
  ·by_cases e2 : 1 < (mays c).length
   ·have e3 : (1 : Int) < ((mays c).length : Int) := by omega
    simp [e, e2, e3]
   ·have e3 : ¬ (1 : Int) < ((mays c).length : Int) := by omega
    simp only [e, e2, e3, decide_false, Bool.false_eq_true, if_false]
 ·rw [if_neg q, if_neg q]
  simp [q]
theorem upsets_eq (c : Ref09Cup) (h : c.fResults.length ≤ 1000) (p : Int) : ladderUpsets N (cc c) p = some (ups c p) := by
 refine det_eq (upsets_good ..) ?_
 unfold ladderUpsetsW ladderCupAsked ups
 rw [draw_eq hN c h, bindO_some]
 by_cases q : flt c = 0
 ·have hv := val_iff.1 q
  have ff := hv.ff; have hl := hv.len
  have ew : w64 ((cc c).fPlayers - 1) = c.fPlayers - 1 := w64_id (by show -9223372036854775808 ≤ c.fPlayers - 1; omega) (by show c.fPlayers - 1 ≤ _; omega)
  rw [if_pos q, if_pos q]
  simp only [drw, decide_true, Bool.not_true, Bool.false_eq_true, if_false]
  rw [within_eq, bindO_some, ew]
  by_cases e : inr p 0 (c.fPlayers - 1) = true
  ·rw [e]
   simp only [Bool.not_true, Bool.false_eq_true, if_false, if_true]
   refine best_wp hN hv _ _ _ fun m hg => ?_
   simp only [last_eq hN hv, bindO_some, mgt]
   have hu := hg.uniq hv.ok (bmap_good hv.ok) (lst c : Int) p
   rw [← hu]
   unfold cst
   cases e2 : mget m ⟨(lst c : Int), p⟩ with
   | none => simp [retW]
   | some x =>
    simp only [Option.isSome_some, Bool.not_true, Bool.false_eq_true, if_false, Option.map_some]
    show (bindO (ladderDrawLast N _ _ _ _ _ _ _) _) _
    rw [last_eq hN hv, bindO_some]
    simp only [e2, bindO_some]
    rfl
  ·simp [e, retW, Go.Kp.bindW]
 ·rw [if_neg q, if_neg q]
  simp [q, Go.Kp.bindW, retW]
theorem next_eq (c : Ref09Cup) (h : c.fResults.length ≤ 1000) : ladderNext N (cc c) = some (if flt c = 0 then (nexts c, 0) else ([], flt c)) := by
 unfold ladderNext
 rw [draw_eq hN c h, Option.bind_some]
 by_cases q : flt c = 0
 ·have hv := val_iff.1 q
  have ff := hv.ff; have hl := hv.len
  rw [if_pos q, if_pos q]
  simp only [drw, decide_true, Bool.not_true, Bool.false_eq_true, if_false, ladderDrawOpen, Option.bind_some]
  unfold slicesCollect slicesAppendSeq
  have key := loop_list (N := N) (B := fun rec3 x => slicesAppendSeq_b1 N c.fForm c.fPlayers c.fGames (c.fResults.map cr) ((T c).map cpr) (rm c.fResults) (plys c (T c).length) rec3 x.1 x.2.1 x.2.2) (plys c (T c).length) (fun i (a : List LadderMatch) => (((plys c (T c).length).length : Int), (i : Int), a)) (fun _ _ => some (nexts c)) (fun i a => a = nextl c i)
   (fun a rec hok => by subst hok; simp [slicesAppendSeq_b1, nexts, plys_len])
   (fun i x a rec hx hok hh => by
    have hlt := len_lt hx
    have hlt' := hlt
    rw [plys_len] at hlt
    subst hok
    show slicesAppendSeq_b1 N _ _ _ _ _ _ _ rec _ (i : Int) _ = _
    have hs : nextl c (i + 1) = nextl c i ++ (if opn c i then some (LadderMatch.mk (i : Int) (known c (fs (T c) i)) (known c (sn (T c) i)) (cnt (known c (fs (T c) i)) (gm c i)) (cnt (known c (sn (T c) i)) (gm c i))) else none).toList := fmap_succ _ i
    have hll : (nextl c i).length ≤ i := by unfold nextl; exact Nat.le_trans (List.length_filterMap_le _ _) (by simp)
    have hgl : (gm c i).length ≤ 1000 := by
     unfold gm
     cases e : res c (i : Int) with
     | none => simp
     | some r => exact hv.sz.g r (res_mem e).1
    have hg : (Option.getD (Option.map cr (res c (i : Int))) (LadderResult.mk 0 ([]) false)).fGames = gm c i := by
     unfold gm; cases res c (i : Int) <;> rfl
    unfold slicesAppendSeq_b1 mgt
    rw [if_pos (decide_eq_true (show (i : Int) < ((plys c (T c).length).length : Int) from by omega)), plys_idx hlt, Option.bind_some, mget_rm]
    simp only [Option.bind_some, wonD_eq hN hv hlt, w64_succ (i := i) (by omega)]
    rw [hg, score_eq hN c.fForm c.fPlayers c.fGames _ _ _ hgl (plys_idx hlt)]
    have ea : (ply c i).a0 = known c (fs (T c) i) := rfl
    have eb : (ply c i).a1 = known c (sn (T c) i) := rfl
    simp only [ea, eb, Option.bind_some]
    have hno : opn c i = false → rec (((plys c (T c).length).length : Int), ((i + 1 : Nat) : Int), nextl c i) = some (nexts c) := by
     intro ho
     rw [ho] at hs
     refine hh _ ?_
     simpa using hs.symm
    by_cases w1 : known c (fs (T c) i) = -1
    ·simp only [w1, decide_true, if_true, Option.bind_some]
     exact hno (by unfold opn; simp [w1])
    ·by_cases w2 : known c (sn (T c) i) = -1
     ·simp only [w1, w2, decide_true, decide_false, Bool.false_eq_true, if_false, if_true, Option.bind_some]
      exact hno (by unfold opn; simp [w2])
     ·by_cases w3 : won c (i : Int) = -1
      ·have ho : opn c i = true := by unfold opn; simp [w1, w2, w3]
       simp only [w1, w2, w3, decide_true, decide_false, Bool.not_true, Bool.false_eq_true, if_false, Option.bind_some]
       rw [app_ok (by simp; omega), Option.bind_some, Option.bind_some]
       refine hh _ ?_
       rw [hs, ho]; rfl
      ·simp only [w1, w2, w3, decide_false, Bool.not_false, Bool.false_eq_true, if_false, if_true, Option.bind_some]
       exact hno (by unfold opn; simp [w3])) (by rw [plys_len]; omega) [] rfl
  have key' : loopN (fun rec3 x => slicesAppendSeq_b1 N c.fForm c.fPlayers c.fGames (c.fResults.map cr) ((T c).map cpr) (rm c.fResults) (plys c (T c).length) rec3 x.1 x.2.1 x.2.2) N (((plys c (T c).length).length : Int), (0 : Int), ([] : List LadderMatch)) = some (nexts c) := key
  rw [key']; rfl
 ·rw [if_neg q, if_neg q]
  simp [q]
end
end Go.Proofs.YtignpdbcgjllkaaGreat.L
/-
 Leagues: books of games, numbers of teams by the rules.
-/
set_option linter.all false
namespace Go.Proofs.YtignpdbcgjllkaaGreat.S
open Go.Kp
def inr (n a b : Int) : Bool := decide (a ≤ n) && decide (n ≤ b)
theorem inr_iff {n a b : Int} : inr n a b = true ↔ a ≤ n ∧ n ≤ b := by simp [inr]
def cg (g : Ref08Game) : LeagueGame := ⟨g.fA, g.fB, g.fPinsA, g.fPinsB, g.fOpen⟩
def cl (l : Ref08League) : LeagueLeague := ⟨l.fTeams, l.fGames.map cg⟩
def gok (T : Int) (g : LeagueGame) : Bool := inr g.fPinsA 0 3000 && (inr g.fPinsB 0 3000 && (inr g.fA 0 (T - 1) && (inr g.fB 0 (T - 1) && (!decide (g.fA = g.fB) && (!g.fOpen || (decide (g.fPinsA = 0) && decide (g.fPinsB = 0)))))))
structure Val (l : LeagueLeague) : Prop where
 t : 2 ≤ l.fTeams ∧ l.fTeams ≤ 6
 n : l.fGames.length ≤ 20
 g : ∀ x ∈ l.fGames, gok l.fTeams x = true
structure GV (T : Int) (g : LeagueGame) : Prop where
 pa : 0 ≤ g.fPinsA ∧ g.fPinsA ≤ 3000
 pb : 0 ≤ g.fPinsB ∧ g.fPinsB ≤ 3000
 a : 0 ≤ g.fA ∧ g.fA < T
 b : 0 ≤ g.fB ∧ g.fB < T
 ne : g.fA ≠ g.fB
theorem gok_gv {T : Int} {g : LeagueGame} (h : gok T g = true) : GV T g := by
 simp only [gok, Bool.and_eq_true, inr_iff, Bool.not_eq_true', decide_eq_false_iff_not] at h
 obtain ⟨h1, h2, h3, h4, h5, _⟩ := h
 exact ⟨h1, h2, ⟨h3.1, by omega⟩, ⟨h4.1, by omega⟩, h5⟩
def gv (g : LeagueGame) : Int × Int := if g.fOpen then (0, 0) else if g.fPinsB < g.fPinsA then (2, 0) else if g.fPinsA < g.fPinsB then (0, 2) else (1, 1)
theorem gives_eq (N : Nat) (g : LeagueGame) : leagueGameGives N g = some (gv g) := by
 unfold leagueGameGives gv
 cases g.fOpen with
 | true => rfl
 | false =>
  by_cases h1 : g.fPinsB < g.fPinsA
  ·simp [h1]
  ·by_cases h2 : g.fPinsA < g.fPinsB <;> simp [h1, h2]
theorem gv_bd (g : LeagueGame) : (0 ≤ (gv g).1 ∧ (gv g).1 ≤ 2) ∧ (0 ≤ (gv g).2 ∧ (gv g).2 ≤ 2) := by
 unfold gv; split <;> (try split) <;> (try split) <;> decide
def sv (o : Int) (grp : List Int) (x : LeagueSide) : Int := if o = 0 then x.fPoints else if o = 1 then x.fPoints / 2 else if o = 2 then (if x.fOther ∈ grp then x.fPoints else 0) else x.fPins
def ct (o : Int) (grp : List Int) (tm : Int) (g : LeagueGame) : Int := (if g.fA = tm then sv o grp ⟨g.fB, (gv g).1, g.fPinsA⟩ else 0) + (if g.fB = tm then sv o grp ⟨g.fA, (gv g).2, g.fPinsB⟩ else 0)
def num (o : Int) (grp : List Int) (gs : List LeagueGame) (tm : Int) : Int := (gs.map (ct o grp tm)).sum
def genB (sd : LeagueSide → Option Int) (gs : List LeagueGame) (tm : Int) (rec3 : (Int × Int × Int) → Option (Int)) (x30 : Int) (v28 : Int) (c19 : Int) : Option (Int) :=
 if decide (v28 < x30) then
  Option.bind (idx gs v28) fun x34 =>
  Option.bind (some (gv x34)) fun (ra28, rb28) =>
  Option.bind (
   if decide (x34.fA = tm) then
    Option.bind (sd (LeagueSide.mk x34.fB ra28 x34.fPinsA)) fun r70 =>
    if decide (x34.fB = tm) then
     Option.bind (sd (LeagueSide.mk x34.fA rb28 x34.fPinsB)) fun r71 =>
     some ((decide (x34.fB = tm), true, w64 ((w64 (c19 + r70)) + r71)))
    else
     some ((decide (x34.fB = tm), false, w64 (c19 + r70)))
   else
    if decide (x34.fB = tm) then
     Option.bind (sd (LeagueSide.mk x34.fA rb28 x34.fPinsB)) fun r72 =>
     some ((decide (x34.fB = tm), true, w64 (c19 + r72)))
    else
     some ((decide (x34.fB = tm), false, c19))
  ) fun (v31, v32, c21) =>
  rec3 ((x30, w64 (v28 + 1), c21))
 else
  some c19
theorem sv_bd {o : Int} {grp : List Int} {x : LeagueSide} (h1 : 0 ≤ x.fPoints ∧ x.fPoints ≤ 2) (h2 : 0 ≤ x.fPins ∧ x.fPins ≤ 3000) : 0 ≤ sv o grp x ∧ sv o grp x ≤ 3000 := by
 unfold sv; split
 ·omega
 ·split
  ·omega
  ·split
   ·split <;> omega
   ·omega
theorem ct_bd {T o : Int} {grp : List Int} {tm : Int} {g : LeagueGame} (h : GV T g) : 0 ≤ ct o grp tm g ∧ ct o grp tm g ≤ 6000 := by
 have hb := gv_bd g
 have h1 := sv_bd (o := o) (grp := grp) (x := ⟨g.fB, (gv g).1, g.fPinsA⟩) hb.1 h.pa
 have h2 := sv_bd (o := o) (grp := grp) (x := ⟨g.fA, (gv g).2, g.fPinsB⟩) hb.2 h.pb
 unfold ct
 split <;> split <;> omega
theorem num_bd {T o : Int} {grp : List Int} {tm : Int} : ∀ {gs : List LeagueGame}, (∀ g ∈ gs, GV T g) → 0 ≤ num o grp gs tm ∧ num o grp gs tm ≤ 6000 * gs.length
 | [], _ => by simp [num]
 | g :: gs, h => by
  have h1 := ct_bd (o := o) (grp := grp) (tm := tm) (h g (by simp))
  have h2 := num_bd (o := o) (grp := grp) (tm := tm) (gs := gs) fun x hx => h x (by simp [hx])
  unfold num at *
  rw [List.map_cons, List.sum_cons, List.length_cons]
  omega
section
variable {N : Nat} (hN : 4000 ≤ N)
include hN
theorem gen_eq {T : Int} {o : Int} {grp : List Int} (sd : LeagueSide → Option Int) (hs : ∀ x : LeagueSide, 0 ≤ x.fPoints ∧ x.fPoints ≤ 2 → sd x = some (sv o grp x)) (gs : List LeagueGame) (hg : ∀ g ∈ gs, GV T g) (hl : gs.length ≤ 20) (tm : Int) :
  loopN (fun rec3 x => genB sd gs tm rec3 x.1 x.2.1 x.2.2) N ((gs.length : Int), 0, 0) = some (num o grp gs tm) := by
 have := loop_list (N := N) (B := fun rec3 x => genB sd gs tm rec3 x.1 x.2.1 x.2.2) gs (fun i (a : Int) => ((gs.length : Int), (i : Int), a)) (fun r a => some (a + num o grp r tm)) (fun i a => 0 ≤ a ∧ a ≤ 6000 * i)
  (fun a rec _ => by simp [genB, num])
  (fun i x a rec hx hok h => by
   have hlt := len_lt hx
   have hm : x ∈ gs := List.mem_of_getElem? hx
   have hv := hg x hm
   have hb := gv_bd x
   have hc := ct_bd (o := o) (grp := grp) (tm := tm) hv
   have h1 := sv_bd (o := o) (grp := grp) (x := ⟨x.fB, (gv x).1, x.fPinsA⟩) hb.1 hv.pa
   have h2 := sv_bd (o := o) (grp := grp) (x := ⟨x.fA, (gv x).2, x.fPinsB⟩) hb.2 hv.pb
   have q1 := hs ⟨x.fB, (gv x).1, x.fPinsA⟩ hb.1
   have q2 := hs ⟨x.fA, (gv x).2, x.fPinsB⟩ hb.2
   have hh := h (a + ct o grp tm x) (by constructor <;> omega)
   have fin : rec ((gs.length : Int), ((i + 1 : Nat) : Int), a + ct o grp tm x) = some (a + num o grp (x :: gs.drop (i + 1)) tm) := by
    rw [hh]; unfold num; rw [List.map_cons, List.sum_cons, Int.add_assoc]
   rw [← fin]
   unfold genB
   simp only [show ((i : Int) < (gs.length : Int)) from by omega, decide_true, if_true, idx_at hx, Option.bind_some, w64_succ (i := i) (by omega)]
   unfold ct at *
   by_cases e1 : x.fA = tm
   ·have e2 : ¬ x.fB = tm := fun e => hv.ne (e1.trans e.symm)
    simp only [e1, e2, decide_true, decide_false, if_true, if_false, Bool.false_eq_true, q1, Option.bind_some]
    rw [w64_id (by omega) (by omega), Int.add_zero]
   ·by_cases e2 : x.fB = tm
    ·simp only [e1, e2, decide_true, decide_false, if_true, if_false, Bool.false_eq_true, q2, Option.bind_some]
     rw [w64_id (by omega) (by omega), Int.zero_add]
    ·simp only [e1, e2, decide_false, if_false, Bool.false_eq_true, Option.bind_some, Int.add_zero])
  (by omega) 0 ⟨by omega, by omega⟩
 rw [Int.zero_add] at this
 exact this
theorem cont_eq {grp : List Int} (hl : grp.length ≤ 1000) (v : Int) : slicesContains N grp v = some (decide (v ∈ grp)) := by
 unfold slicesContains slicesIndex
 have := contains_shape (N := N) grp (fun y => some (decide (v = y))) (fun y => decide (v = y)) (fun _ _ => rfl) (by omega) (by omega)
 simp only [Option.bind_some] at this
 have e : (grp.any fun y => decide (v = y)) = decide (v ∈ grp) := by
  rw [Bool.eq_iff_iff]; simp
 rw [← e, ← this]
 congr 2
theorem number_eq {l : LeagueLeague} (hv : Val l) {o : Int} (ho : o = 0 ∨ o = 1 ∨ o = 2 ∨ o = 3) {grp : List Int} (hl : grp.length ≤ 1000) (tm : Int) :
  leagueTableNumber N ⟨l⟩ ⟨o⟩ tm grp = some (num o grp l.fGames tm) := by
 have hg : ∀ g ∈ l.fGames, GV l.fTeams g := fun g h => gok_gv (hv.g g h)
 unfold leagueTableNumber
 rcases ho with rfl | rfl | rfl | rfl
 ·rw [if_pos rfl]
  have := gen_eq hN (o := 0) (grp := grp) (fun x => leagueSideAll N x grp) (fun x _ => rfl) l.fGames hg hv.n tm
  unfold leagueTableNumberV0 leagueLeagueOf
  simp only [Option.bind_some]
  rw [show (fun rec3 (x : Int × Int × Int) => leagueTableNumberV0_b1 N grp l tm rec3 x.1 x.2.1 x.2.2) = (fun rec3 x => genB (fun x => leagueSideAll N x grp) l.fGames tm rec3 x.1 x.2.1 x.2.2) from by
   funext rec x; unfold leagueTableNumberV0_b1 genB; simp only [gives_eq], this]
  rfl
 ·rw [if_neg (by decide), if_pos rfl]
  have := gen_eq hN (o := 1) (grp := grp) (fun x => leagueSideWon N x grp) (fun x h => by
   unfold leagueSideWon sv
   rw [Int.tdiv_eq_ediv_of_nonneg h.1, w64_id (by omega) (by omega)]; rfl) l.fGames hg hv.n tm
  unfold leagueTableNumberV1 leagueLeagueOf
  simp only [Option.bind_some]
  rw [show (fun rec3 (x : Int × Int × Int) => leagueTableNumberV1_b1 N grp l tm rec3 x.1 x.2.1 x.2.2) = (fun rec3 x => genB (fun x => leagueSideWon N x grp) l.fGames tm rec3 x.1 x.2.1 x.2.2) from by
   funext rec x; unfold leagueTableNumberV1_b1 genB; simp only [gives_eq], this]
  rfl
 ·rw [if_neg (by decide), if_neg (by decide), if_pos rfl]
  have := gen_eq hN (o := 2) (grp := grp) (fun x => leagueSideDirect N x grp) (fun x h => by
   unfold leagueSideDirect sv
   rw [cont_eq hN hl, Option.bind_some]
   by_cases e : x.fOther ∈ grp <;> simp [e]) l.fGames hg hv.n tm
  unfold leagueTableNumberV2 leagueLeagueOf
  simp only [Option.bind_some]
  rw [show (fun rec3 (x : Int × Int × Int) => leagueTableNumberV2_b1 N grp l tm rec3 x.1 x.2.1 x.2.2) = (fun rec3 x => genB (fun x => leagueSideDirect N x grp) l.fGames tm rec3 x.1 x.2.1 x.2.2) from by
   funext rec x; unfold leagueTableNumberV2_b1 genB; simp only [gives_eq], this]
  rfl
 ·rw [if_neg (by decide), if_neg (by decide), if_neg (by decide), if_pos rfl]
  have := gen_eq hN (o := 3) (grp := grp) (fun x => leagueSideFelled N x grp) (fun x _ => rfl) l.fGames hg hv.n tm
  unfold leagueTableNumberV3 leagueLeagueOf
  simp only [Option.bind_some]
  rw [show (fun rec3 (x : Int × Int × Int) => leagueTableNumberV3_b1 N grp l tm rec3 x.1 x.2.1 x.2.2) = (fun rec3 x => genB (fun x => leagueSideFelled N x grp) l.fGames tm rec3 x.1 x.2.1 x.2.2) from by
   funext rec x; unfold leagueTableNumberV3_b1 genB; simp only [gives_eq], this]
  rfl
theorem max_eq (a b : Int) : leagueGreatest N [a, b] = some (max a b) := by
 obtain ⟨M, rfl⟩ : ∃ M, N = M + 2 := ⟨N - 2, by omega⟩
 unfold leagueGreatest slicesMax
 have e0 : idx [a, b] 0 = some a := rfl
 have e1 : idx [a, b] 1 = some b := rfl
 simp only [e0, Option.bind_some]
 rw [if_neg (by simp)]
 show Option.bind (Option.bind (slicesMax_b1 (M + 2) [a, b] (loopN (fun rec3 x => slicesMax_b1 (M + 2) [a, b] rec3 x.1 x.2) (M + 1)) a 1) _) _ = _
 unfold slicesMax_b1
 rw [if_pos (by simp), e1, Option.bind_some]
 show Option.bind (Option.bind (slicesMax_b1 (M + 2) [a, b] (loopN (fun rec3 x => slicesMax_b1 (M + 2) [a, b] rec3 x.1 x.2) M) (max a b) (w64 (1 + 1))) _) _ = _
 unfold slicesMax_b1
 rw [if_neg (by simp; decide)]
 rfl
end
end Go.Proofs.YtignpdbcgjllkaaGreat.S
/-
 Leagues: groups fall into groups; ranks.
-/
set_option linter.all false
namespace Go.Proofs.YtignpdbcgjllkaaGreat.S
open Go.Kp
theorem fperm {α : Type} (p : α → Bool) : ∀ l : List α, (l.filter p ++ l.filter fun x => !p x).Perm l
 | [] => .refl _
 | x :: l => by
  have ih := fperm p l
  cases h : p x with
  | true => simp only [List.filter_cons, h, if_true, Bool.not_true, Bool.false_eq_true, if_false, List.cons_append]; exact ih.cons x
  | false =>
   simp only [List.filter_cons, h, Bool.not_false, Bool.false_eq_true, if_false, if_true]
   exact List.perm_middle.trans (ih.cons x)
def bst (nf : Int → Int) (l : List Int) (b : Int) : Int := l.foldl (fun b t => max b (nf t)) b
theorem bst_spec (nf : Int → Int) : ∀ (l : List Int) (b : Int), (∀ t ∈ l, nf t ≤ bst nf l b) ∧ b ≤ bst nf l b ∧ (bst nf l b = b ∨ ∃ t ∈ l, nf t = bst nf l b)
 | [], b => ⟨by simp, Int.le_refl _, .inl rfl⟩
 | x :: l, b => by
  obtain ⟨h1, h2, h3⟩ := bst_spec nf l (max b (nf x))
  have e : bst nf (x :: l) b = bst nf l (max b (nf x)) := rfl
  rw [e]
  refine ⟨fun t ht => ?_, by omega, ?_⟩
  ·rcases List.mem_cons.1 ht with rfl | ht
   ·omega
   ·exact h1 t ht
  ·rcases h3 with h3 | ⟨t, ht, h3⟩
   ·by_cases c : nf x ≤ b
    ·left; rw [h3]; omega
    ·right; exact ⟨x, by simp, by rw [h3]; omega⟩
   ·right; exact ⟨t, by simp [ht], h3⟩
def falls (nf : Int → Int) : Nat → List Int → List (List Int)
 | 0, _ => []
 | n + 1, rest => if rest = [] then [] else (rest.filter fun t => decide (nf t = bst nf rest (-1))) :: falls nf n (rest.filter fun t => !decide (nf t = bst nf rest (-1)))
theorem best_mem {nf : Int → Int} (h0 : ∀ t, 0 ≤ nf t) {rest : List Int} (hr : rest ≠ []) : ∃ t ∈ rest, nf t = bst nf rest (-1) := by
 obtain ⟨h1, h2, h3⟩ := bst_spec nf rest (-1)
 rcases h3 with h3 | h3
 ·cases rest with
  | nil => exact absurd rfl hr
  | cons x r => have := h1 x (by simp); have := h0 x; omega
 ·exact h3
theorem rest_lt {nf : Int → Int} (h0 : ∀ t, 0 ≤ nf t) {rest : List Int} (hr : rest ≠ []) : (rest.filter fun t => !decide (nf t = bst nf rest (-1))).length < rest.length := by
 obtain ⟨t, ht, e⟩ := best_mem h0 hr
 have h1 := (fperm (fun t => decide (nf t = bst nf rest (-1))) rest).length_eq
 have h2 : 0 < (rest.filter fun t => decide (nf t = bst nf rest (-1))).length := List.length_pos_of_mem (List.mem_filter.2 ⟨ht, by simpa using e⟩)
 rw [List.length_append] at h1
 omega
theorem falls_spec {nf : Int → Int} (h0 : ∀ t, 0 ≤ nf t) : ∀ (n : Nat) (rest : List Int), rest.length ≤ n → (falls nf n rest).flatten.Perm rest ∧ (∀ g ∈ falls nf n rest, g ≠ []) ∧ (falls nf n rest).length ≤ n ∧
  ∀ g r, falls nf n rest = g :: r → ∀ x ∈ g, ∀ y ∈ rest, nf y ≤ nf x
 | 0, rest, h => by
  have : rest = [] := List.eq_nil_of_length_eq_zero (by omega)
  subst this
  exact ⟨.refl _, by simp [falls], by simp [falls], by simp [falls]⟩
 | n + 1, rest, h => by
  by_cases e : rest = []
  ·subst e; exact ⟨by simp [falls], by simp [falls], by simp [falls], by simp [falls]⟩
  ·have hl := rest_lt h0 e
   obtain ⟨a, b, c, _⟩ := falls_spec h0 n (rest.filter fun t => !decide (nf t = bst nf rest (-1))) (by omega)
   have he : falls nf (n + 1) rest = (rest.filter fun t => decide (nf t = bst nf rest (-1))) :: falls nf n (rest.filter fun t => !decide (nf t = bst nf rest (-1))) := by rw [falls, if_neg e]
   rw [he]
   refine ⟨?_, fun g hg => ?_, by simp; exact c, fun g r hg x hx y hy => ?_⟩
   ·rw [List.flatten_cons]
    exact (a.append_left _).trans (fperm _ rest)
   ·rcases List.mem_cons.1 hg with rfl | hg
    ·obtain ⟨t, ht, e⟩ := best_mem h0 e
     exact List.ne_nil_of_mem (List.mem_filter.2 ⟨ht, by simpa using e⟩)
    ·exact b g hg
   ·cases hg
    have := of_decide_eq_true (List.mem_filter.1 hx).2
    have := (bst_spec nf rest (-1)).1 y hy
    omega
def teams (T : Nat) : List Int := (List.range T).map fun (n : Nat) => (n : Int)
theorem mem_teams {T : Nat} {t : Int} : t ∈ teams T ↔ 0 ≤ t ∧ t < T := by
 unfold teams
 rw [List.mem_map]
 constructor
 ·rintro ⟨n, hn, rfl⟩; have := List.mem_range.1 hn; omega
 ·intro h; exact ⟨t.toNat, List.mem_range.2 (by omega), by omega⟩
structure Inv (T : Nat) (G : List (List Int)) : Prop where
 perm : G.flatten.Perm (teams T)
 ne : ∀ g ∈ G, g ≠ []
theorem len_flat : ∀ {G : List (List Int)}, (∀ g ∈ G, g ≠ []) → G.length ≤ G.flatten.length
 | [], _ => by simp
 | g :: G, h => by
  have h1 := len_flat (G := G) fun x hx => h x (by simp [hx])
  have h2 : 0 < g.length := List.length_pos_iff.2 (h g (by simp))
  rw [List.flatten_cons, List.length_append, List.length_cons]; omega
theorem Inv.len {T : Nat} {G : List (List Int)} (h : Inv T G) : G.length ≤ T := by
 have := len_flat h.ne
 rw [h.perm.length_eq] at this
 simpa [teams] using this
theorem Inv.mem {T : Nat} {G : List (List Int)} (h : Inv T G) {g : List Int} (hg : g ∈ G) {t : Int} (ht : t ∈ g) : 0 ≤ t ∧ t < T :=
 mem_teams.1 (h.perm.mem_iff.1 (List.mem_flatten.2 ⟨g, hg, ht⟩))
theorem glen_le : ∀ {G : List (List Int)} {g : List Int}, g ∈ G → g.length ≤ G.flatten.length
 | x :: G, g, h => by
  rw [List.flatten_cons, List.length_append]
  rcases List.mem_cons.1 h with rfl | h
  ·omega
  ·have := glen_le h; omega
theorem Inv.glen {T : Nat} {G : List (List Int)} (h : Inv T G) {g : List Int} (hg : g ∈ G) : g.length ≤ T := by
 have h1 := glen_le hg
 rw [h.perm.length_eq] at h1
 simpa [teams] using h1
def ro (c : Int) : Int := if c = 1 then 0 else if c = 2 then 1 else if c = 3 then 2 else 3
def fl (gs : List LeagueGame) (c : Int) (g : List Int) : List (List Int) := falls (num (ro c) g gs) g.length g
def stp (gs : List LeagueGame) (G : List (List Int)) (c : Int) : List (List Int) := G.flatMap (fl gs c)
theorem num_ge {l : LeagueLeague} (hv : Val l) {o : Int} {grp : List Int} (t : Int) : 0 ≤ num o grp l.fGames t := (num_bd fun g h => gok_gv (hv.g g h)).1
theorem flat_perm {f : List Int → List (List Int)} : ∀ {G : List (List Int)}, (∀ g ∈ G, (f g).flatten.Perm g) → (G.flatMap f).flatten.Perm G.flatten
 | [], _ => .refl _
 | g :: G, h => by
  rw [List.flatMap_cons, List.flatten_append, List.flatten_cons]
  exact (h g (by simp)).append (flat_perm fun x hx => h x (by simp [hx]))
theorem stp_inv {l : LeagueLeague} (hv : Val l) {T : Nat} {G : List (List Int)} (h : Inv T G) (c : Int) : Inv T (stp l.fGames G c) := by
 refine ⟨(flat_perm fun g hg => (falls_spec (fun t => num_ge hv t) g.length g (Nat.le_refl _)).1).trans h.perm, fun x hx => ?_⟩
 obtain ⟨g, hg, hx⟩ := List.mem_flatMap.1 hx
 exact (falls_spec (fun t => num_ge hv t) g.length g (Nat.le_refl _)).2.1 x hx
def Hd (G : List (List Int)) (p : Int → Prop) : Prop := ∀ g r, G = g :: r → ∀ x ∈ g, p x
theorem stp_hd {l : LeagueLeague} (hv : Val l) {G : List (List Int)} (hne : ∀ g ∈ G, g ≠ []) {p : Int → Prop} (h : Hd G p) (c : Int) : Hd (stp l.fGames G c) p := by
 intro g r e x hx
 cases G with
 | nil => cases e
 | cons g0 G =>
  have hs := falls_spec (nf := num (ro c) g0 l.fGames) (fun t => num_ge hv t) g0.length g0 (Nat.le_refl _)
  have e2 : stp l.fGames (g0 :: G) c = falls (num (ro c) g0 l.fGames) g0.length g0 ++ stp l.fGames G c := by unfold stp; rw [List.flatMap_cons]; rfl
  rw [e2] at e
  cases hf : falls (num (ro c) g0 l.fGames) g0.length g0 with
  | nil =>
   have := hs.1
   rw [hf] at this
   exact absurd this.symm.eq_nil (hne g0 (by simp))
  | cons a b =>
   rw [hf] at e
   cases e
   have : x ∈ (falls (num (ro c) g0 l.fGames) g0.length g0).flatten := List.mem_flatten.2 ⟨g, by rw [hf]; simp, hx⟩
   exact h g0 G rfl x (hs.1.mem_iff.1 this)
theorem stp_first {l : LeagueLeague} (hv : Val l) (T : Nat) : Hd (stp l.fGames [teams T] 1) fun x => ∀ y ∈ teams T, num 0 (teams T) l.fGames y ≤ num 0 (teams T) l.fGames x := by
 intro g r e
 have e2 : stp l.fGames [teams T] 1 = falls (num 0 (teams T) l.fGames) (teams T).length (teams T) := by simp [stp, fl, ro]
 rw [e2] at e
 exact (falls_spec (fun t => num_ge hv t) _ (teams T) (Nat.le_refl _)).2.2.2 g r e
theorem fold_inv {l : LeagueLeague} (hv : Val l) {T : Nat} {p : Int → Prop} : ∀ (rs : List Int) {G : List (List Int)}, Inv T G → Hd G p → Inv T (rs.foldl (stp l.fGames) G) ∧ Hd (rs.foldl (stp l.fGames) G) p
 | [], _, h, hp => ⟨h, hp⟩
 | c :: rs, G, h, hp => fold_inv hv rs (stp_inv hv h c) (stp_hd hv h.ne hp c)
section
variable {N : Nat} (hN : 4000 ≤ N)
include hN
theorem fall_eq {l : LeagueLeague} (hv : Val l) {o : Int} (ho : o = 0 ∨ o = 1 ∨ o = 2 ∨ o = 3) {grp : List Int} (hl : grp.length ≤ 6) :
  leagueTableFall N ⟨l⟩ ⟨o⟩ grp = some (falls (num o grp l.fGames) grp.length grp) := by
 have hnum := fun t => number_eq hN hv ho (grp := grp) (by omega) t
 have h0 : ∀ t, 0 ≤ num o grp l.fGames t := fun t => num_ge hv t
 have b1 : ∀ rest : List Int, rest.length ≤ 6 → loopN (fun rec25 x => leagueTableFall_b1 N ⟨l⟩ ⟨o⟩ grp rest rec25 x.1 x.2.1 x.2.2) N (-1, (rest.length : Int), 0) = some (bst (num o grp l.fGames) rest (-1)) := by
  intro rest hr
  exact loop_list (N := N) (B := fun rec25 x => leagueTableFall_b1 N ⟨l⟩ ⟨o⟩ grp rest rec25 x.1 x.2.1 x.2.2) rest (fun i (a : Int) => (a, (rest.length : Int), (i : Int))) (fun r a => some (bst (num o grp l.fGames) r a)) (fun _ _ => True)
   (fun a rec _ => by simp [leagueTableFall_b1, bst])
   (fun i x a rec hx _ h => by
    have hlt := len_lt hx
    show leagueTableFall_b1 N ⟨l⟩ ⟨o⟩ grp rest rec a _ _ = _
    unfold leagueTableFall_b1
    simp only [show ((i : Int) < (rest.length : Int)) from by omega, decide_true, if_true, idx_at hx, Option.bind_some, hnum, max_eq hN, w64_succ (i := i) (by omega)]
    rw [h _ trivial]; rfl) (by omega) (-1) trivial
 have b2 : ∀ (rest : List Int) (best : Int), rest.length ≤ 6 → loopN (fun rec27 x => leagueTableFall_b2 N ⟨l⟩ ⟨o⟩ grp rest best rec27 x.1 x.2.1 x.2.2.1 x.2.2.2) N ((rest.length : Int), 0, [], []) =
   some (rest.filter fun t => decide (num o grp l.fGames t = best), rest.filter fun t => !decide (num o grp l.fGames t = best)) := by
  intro rest best hr
  have := loop_list (N := N) (B := fun rec27 x => leagueTableFall_b2 N ⟨l⟩ ⟨o⟩ grp rest best rec27 x.1 x.2.1 x.2.2.1 x.2.2.2) rest (fun i (a : List Int × List Int) => ((rest.length : Int), (i : Int), a.1, a.2))
   (fun r a => some (a.1 ++ r.filter fun t => decide (num o grp l.fGames t = best), a.2 ++ r.filter fun t => !decide (num o grp l.fGames t = best))) (fun i a => a.1.length + a.2.length = i)
   (fun a rec _ => by simp [leagueTableFall_b2])
   (fun i x a rec hx hok h => by
    have hlt := len_lt hx
    show leagueTableFall_b2 N ⟨l⟩ ⟨o⟩ grp rest best rec _ _ a.1 a.2 = _
    unfold leagueTableFall_b2
    simp only [show ((i : Int) < (rest.length : Int)) from by omega, decide_true, if_true, idx_at hx, Option.bind_some, hnum, w64_succ (i := i) (by omega)]
    by_cases e : num o grp l.fGames x = best
    ·simp only [e, decide_true, if_true]
     rw [app_ok (by simp; omega)]
     simp only [Option.bind_some]
     rw [h (a.1 ++ [x], a.2) (by simp; omega)]
     simp [e]
    ·simp only [e, decide_false, Bool.false_eq_true, if_false]
     rw [app_ok (by simp; omega)]
     simp only [Option.bind_some]
     rw [h (a.1, a.2 ++ [x]) (by simp; omega)]
     simp [e]) (by omega) ([], []) rfl
  simpa using this
 have key : ∀ (n fuel : Nat) (rest : List Int) (out : List (List Int)), rest.length ≤ n → n ≤ 6 → n < fuel → out.length + n ≤ 6 → loopN (fun rec23 x => leagueTableFall_b4 N ⟨l⟩ ⟨o⟩ grp rec23 x.1 x.2) fuel (rest, out) = some (out ++ falls (num o grp l.fGames) n rest) := by
  intro n
  induction n with
  | zero =>
   intro fuel rest out hr _ hf _
   obtain ⟨f, rfl⟩ : ∃ f, fuel = f + 1 := ⟨fuel - 1, by omega⟩
   have : rest = [] := List.eq_nil_of_length_eq_zero (by omega)
   subst this
   show leagueTableFall_b4 N _ _ _ _ [] out = _
   unfold leagueTableFall_b4; simp [falls]
  | succ n ih =>
   intro fuel rest out hr hn hf ho2
   obtain ⟨f, rfl⟩ : ∃ f, fuel = f + 1 := ⟨fuel - 1, by omega⟩
   show leagueTableFall_b4 N ⟨l⟩ ⟨o⟩ grp (loopN (fun rec23 x => leagueTableFall_b4 N ⟨l⟩ ⟨o⟩ grp rec23 x.1 x.2) f) rest out = _
   rw [leagueTableFall_b4]
   by_cases e : rest = []
   ·subst e; simp [falls]
   ·have hpos : 0 < rest.length := List.length_pos_iff.2 e
    have hlt := rest_lt h0 e
    rw [if_pos (decide_eq_true (by omega))]
    unfold leagueTableFall_k3
    rw [b1 rest (by omega), Option.bind_some, b2 rest _ (by omega), Option.bind_some]
    simp only
    rw [app_ok (by simp; omega), Option.bind_some, ih f _ _ (by omega) (by omega) (by omega) (by simp; omega), falls, if_neg e]
    simp
 unfold leagueTableFall slicesClone slicesClone1
 rw [app_ok (by simp; omega)]
 simp only [Option.bind_some, List.nil_append]
 rw [key grp.length N grp [] (Nat.le_refl _) hl (by omega) (by simpa using hl)]
 rfl
end
end Go.Proofs.YtignpdbcgjllkaaGreat.S
/-
 Leagues: the ranks.
-/
set_option linter.all false
namespace Go.Proofs.YtignpdbcgjllkaaGreat.S
open Go.Kp
def asg1 (rank : Int) (g : List Int) (l : List Int) : List Int := g.foldl (fun l t => l.set t.toNat rank) l
def asg : List (List Int) → Int → List Int → List Int
 | [], _, l => l
 | g :: gs, rank, l => asg gs (rank + g.length) (asg1 rank g l)
theorem asg1_len (rank : Int) : ∀ (g l : List Int), (asg1 rank g l).length = l.length
 | [], l => rfl
 | t :: g, l => by
  show (asg1 rank g (l.set t.toNat rank)).length = _
  rw [asg1_len rank g]; simp
theorem asg1_out (rank : Int) : ∀ (g l : List Int) (n : Nat), (∀ t ∈ g, 0 ≤ t) → (n : Int) ∉ g → (asg1 rank g l)[n]? = l[n]?
 | [], l, n, _, _ => rfl
 | t :: g, l, n, h0, hn => by
  show (asg1 rank g (l.set t.toNat rank))[n]? = _
  have ht := h0 t (by simp)
  have hne : t.toNat ≠ n := fun e => hn (by rw [← e]; simp; left; omega)
  rw [asg1_out rank g _ n (fun x hx => h0 x (by simp [hx])) fun h => hn (by simp [h]), List.getElem?_set_ne hne]
theorem asg1_in (rank : Int) : ∀ (g l : List Int) (n : Nat), (∀ t ∈ g, 0 ≤ t) → (n : Int) ∈ g → n < l.length → (asg1 rank g l)[n]? = some rank
 | t :: g, l, n, h0, hn, hl => by
  show (asg1 rank g (l.set t.toNat rank))[n]? = _
  by_cases hg : (n : Int) ∈ g
  ·exact asg1_in rank g _ n (fun x hx => h0 x (by simp [hx])) hg (by simpa using hl)
  ·have e : t = (n : Int) := by rcases List.mem_cons.1 hn with h | h; exact h.symm; exact absurd h hg
   rw [asg1_out rank g _ n (fun x hx => h0 x (by simp [hx])) hg, e]
   simp [hl]
theorem asg_len : ∀ (gs : List (List Int)) (rank : Int) (l : List Int), (asg gs rank l).length = l.length
 | [], _, _ => rfl
 | g :: gs, rank, l => by rw [asg, asg_len gs, asg1_len]
theorem asg_out : ∀ (gs : List (List Int)) (rank : Int) (l : List Int) (n : Nat), (∀ g ∈ gs, ∀ t ∈ g, 0 ≤ t) → (n : Int) ∉ gs.flatten → (asg gs rank l)[n]? = l[n]?
 | [], _, _, _, _, _ => rfl
 | g :: gs, rank, l, n, h0, hn => by
  rw [List.flatten_cons, List.mem_append, not_or] at hn
  rw [asg, asg_out gs _ _ n (fun x hx => h0 x (by simp [hx])) hn.2, asg1_out rank g l n (h0 g (by simp)) hn.1]
theorem asg_in : ∀ (gs : List (List Int)) (rank : Int) (l : List Int) (n : Nat), (∀ g ∈ gs, ∀ t ∈ g, 0 ≤ t) → gs.flatten.Nodup → (n : Int) ∈ gs.flatten → n < l.length → ∃ v, (asg gs rank l)[n]? = some v ∧ rank ≤ v ∧ v < rank + gs.flatten.length
 | g :: gs, rank, l, n, h0, hd, hn, hl => by
  rw [List.flatten_cons] at hd hn ⊢
  rw [List.nodup_append] at hd
  rw [asg, List.length_append]
  rcases List.mem_append.1 hn with h | h
  ·have h2 : (n : Int) ∉ gs.flatten := fun h' => hd.2.2 _ h _ h' rfl
   rw [asg_out gs _ _ n (fun x hx => h0 x (by simp [hx])) h2, asg1_in rank g l n (h0 g (by simp)) h hl]
   have : 0 < g.length := List.length_pos_of_mem h
   exact ⟨rank, rfl, Int.le_refl _, by omega⟩
  ·obtain ⟨v, h1, h2, h3⟩ := asg_in gs (rank + g.length) (asg1 rank g l) n (fun x hx => h0 x (by simp [hx])) hd.2.1 h (by rw [asg1_len]; exact hl)
   exact ⟨v, h1, by omega, by omega⟩
theorem asg_head {g : List Int} {gs : List (List Int)} {rank : Int} {l : List Int} {n : Nat} (h0 : ∀ x ∈ g :: gs, ∀ t ∈ x, 0 ≤ t) (hg : g ≠ []) (hd : (g :: gs).flatten.Nodup) (hn : (n : Int) ∈ (g :: gs).flatten) (hl : n < l.length) :
  (asg (g :: gs) rank l)[n]? = some rank ↔ (n : Int) ∈ g := by
 rw [List.flatten_cons] at hd hn
 rw [List.nodup_append] at hd
 rw [asg]
 constructor
 ·intro e
  rcases List.mem_append.1 hn with h | h
  ·exact h
  ·obtain ⟨v, h1, h2, h3⟩ := asg_in gs (rank + g.length) (asg1 rank g l) n (fun x hx => h0 x (by simp [hx])) hd.2.1 h (by rw [asg1_len]; exact hl)
   rw [h1] at e
   have : 0 < g.length := List.length_pos_iff.2 hg
   have := Option.some.inj e
   omega
 ·intro h
  have h2 : (n : Int) ∉ gs.flatten := fun h' => hd.2.2 _ h _ h' rfl
  rw [asg_out gs _ _ n (fun x hx => h0 x (by simp [hx])) h2, asg1_in rank g l n (h0 g (by simp)) h hl]
def grps (gs : List LeagueGame) (T : Nat) (rules : List Int) : List (List Int) := rules.foldl (stp gs) [teams T]
def ranks (gs : List LeagueGame) (T : Nat) (rules : List Int) : List Int := asg (grps gs T rules) 1 (List.replicate T 0)
theorem inv0 {T : Nat} (hT : 2 ≤ T) : Inv T [teams T] := ⟨by simp, fun g hg => by
 rw [List.mem_singleton.1 hg]
 intro e
 have : (teams T).length = 0 := by rw [e]; rfl
 simp [teams] at this; omega⟩
theorem teams_nodup (T : Nat) : (teams T).Nodup := by
 unfold teams List.Nodup
 rw [List.pairwise_map]
 exact (List.nodup_range (n := T)).imp fun h e => h (by omega)
section
variable {N : Nat} (hN : 4000 ≤ N)
include hN
theorem within_eq (n a b : Int) : leagueWithin N n a b = some (inr n a b) := by
 unfold leagueWithin inr
 by_cases h : a ≤ n <;> simp [h]
theorem game_eq {l : LeagueLeague} (hT : 2 ≤ l.fTeams ∧ l.fTeams ≤ 6) (g : LeagueGame) : leagueLeagueGame N l g = some (gok l.fTeams g) := by
 unfold leagueLeagueGame leagueLeagueTeam gok
 rw [w64_id (by omega) (by omega)]
 simp only [within_eq hN, Option.bind_some]
 cases h1 : inr g.fPinsA 0 3000 <;> cases h2 : inr g.fPinsB 0 3000 <;> cases h3 : inr g.fA 0 (l.fTeams - 1) <;> cases h4 : inr g.fB 0 (l.fTeams - 1) <;> cases h5 : g.fOpen <;> by_cases h6 : g.fA = g.fB <;> by_cases h7 : g.fPinsA = 0 <;> simp [h6, h7]
theorem check_eq {l : LeagueLeague} (hv : Val l) : leagueCheckLeague N l = some 0 := by
 unfold leagueCheckLeague leagueTeams
 rw [if_neg (by simpa using (show ¬ (20 : Int) < (l.fGames.length : Int) from by have := hv.n; omega)), within_eq hN]
 have h1 : inr l.fTeams 2 6 = true := inr_iff.2 hv.t
 simp only [Option.bind_some, h1, Bool.not_true, Bool.false_eq_true, if_false]
 have h2 : leagueAll N l.fGames l = some (l.fGames.all (gok l.fTeams)) :=
  all_shape l.fGames (fun x => leagueAll1 N x l) (gok l.fTeams) (fun x _ => by unfold leagueAll1; rw [game_eq hN hv.t]; rfl) (by have := hv.n; omega) (by have := hv.n; omega)
 have h3 : l.fGames.all (gok l.fTeams) = true := List.all_eq_true.2 hv.g
 rw [h2, h3]
 rfl
theorem allR_eq {rules : List Int} (hl : rules.length ≤ 6) (h : ∀ c ∈ rules, 1 ≤ c ∧ c ≤ 4) : leagueAllX N rules = some true := by
 have h2 : leagueAllX N rules = some (rules.all fun c => inr c 1 4) :=
  all_shape rules (fun x => leagueAll1X N x) (fun c => inr c 1 4) (fun x _ => by
   unfold leagueAll1X leagueRank1 inr
   by_cases h : (1 : Int) ≤ x <;> simp [h]) (by omega) (by omega)
 rw [h2, List.all_eq_true.2 fun c hc => inr_iff.2 (h c hc)]
theorem whole_eq {l : LeagueLeague} {T : Nat} (hT : l.fTeams = (T : Int)) (h6 : T ≤ 6) : loopN (fun rec3 x => leagueRank_b1 N l rec3 x.1 x.2) N (0, List.replicate T 0) = some (teams T) := by
 have key : ∀ (d fuel i : Nat), T - i = d → i ≤ T → d < fuel → loopN (fun rec3 x => leagueRank_b1 N l rec3 x.1 x.2) fuel ((i : Int), teams i ++ List.replicate (T - i) 0) = some (teams T) := by
  intro d
  induction d with
  | zero =>
   intro fuel i hd hi hf
   obtain ⟨f, rfl⟩ : ∃ f, fuel = f + 1 := ⟨fuel - 1, by omega⟩
   have : i = T := by omega
   subst this
   show leagueRank_b1 N l _ _ _ = _
   unfold leagueRank_b1
   rw [if_neg (by rw [hT]; simp)]
   simp
  | succ d ih =>
   intro fuel i hd hi hf
   obtain ⟨f, rfl⟩ : ∃ f, fuel = f + 1 := ⟨fuel - 1, by omega⟩
   show leagueRank_b1 N l (loopN _ f) _ _ = _
   have hlen : (teams i).length = i := by simp [teams]
   have hrep : List.replicate (T - i) (0 : Int) = 0 :: List.replicate (T - (i + 1)) 0 := by
    rw [show T - i = (T - (i + 1)) + 1 from by omega, List.replicate_succ]
   rw [leagueRank_b1, if_pos (decide_eq_true (by rw [hT]; omega)), idx_at (x := 0) (by rw [List.getElem?_append_right (by omega), hlen, Nat.sub_self, hrep]; rfl), Option.bind_some]
   have hset : (teams i ++ List.replicate (T - i) 0).set (Int.toNat (i : Int)) (i : Int) = teams (i + 1) ++ List.replicate (T - (i + 1)) 0 := by
    rw [List.set_append_right _ _ (by rw [hlen]; simp), hlen, hrep]
    simp [teams, List.range_succ]
   rw [hset, w64_succ (by omega)]
   exact ih f (i + 1) (by omega) (by omega) (by omega)
 have := key T N 0 (by omega) (by omega) (by omega)
 simpa [teams] using this
theorem rank_eq {l : LeagueLeague} (hv : Val l) {T : Nat} (hT : l.fTeams = (T : Int)) {rules : List Int} (hl : rules.length ≤ 6) (hr : ∀ c ∈ rules, 1 ≤ c ∧ c ≤ 4) : leagueRank N l rules = some (ranks l.fGames T rules, 0) := by
 have ht := hv.t
 have hi0 := inv0 (T := T) (by omega)
 have hp0 : Hd [teams T] fun _ => True := fun _ _ _ _ _ => trivial
 unfold leagueRank
 rw [check_eq hN hv, Option.bind_some, if_neg (by decide), if_neg (by simpa using (show ¬ (6 : Int) < (rules.length : Int) from by omega)), allR_eq hN hl hr, Option.bind_some]
 have hm : mkl N l.fTeams (0 : Int) = some (List.replicate T 0) := by
  unfold mkl; rw [if_pos ⟨by omega, by omega⟩, hT]; rfl
 simp only [Bool.not_true, Bool.false_eq_true, if_false, hm, Option.bind_some]
 rw [whole_eq hN hT (by omega), Option.bind_some]
 -- the rules
 have b2 : ∀ (G : List (List Int)) (c : Int), Inv T G → (1 ≤ c ∧ c ≤ 4) → loopN (fun rec29 x => leagueRank_b2 N l G c rec29 x.1 x.2.1 x.2.2) N ((G.length : Int), 0, []) = some (stp l.fGames G c) := by
  intro G c hG hc
  have hGl := hG.len
  have := loop_list (N := N) (B := fun rec29 x => leagueRank_b2 N l G c rec29 x.1 x.2.1 x.2.2) G (fun i (a : List (List Int)) => ((G.length : Int), (i : Int), a)) (fun r a => some (a ++ r.flatMap (fl l.fGames c))) (fun i a => a.length ≤ 6 * i)
   (fun a rec _ => by simp [leagueRank_b2])
   (fun i x a rec hx hok h => by
    have hlt := len_lt hx
    have hgl := hG.glen (List.mem_of_getElem? hx)
    have hro : leagueRule N c = some ⟨ro c⟩ := by
     unfold leagueRule ro
     by_cases e1 : c = 1
     ·simp [e1]
     ·by_cases e2 : c = 2
      ·simp [e2]
      ·by_cases e3 : c = 3 <;> simp [e1, e2, e3]
    have hro2 : ro c = 0 ∨ ro c = 1 ∨ ro c = 2 ∨ ro c = 3 := by unfold ro; split <;> (try split) <;> (try split) <;> simp
    have hfl := (falls_spec (nf := num (ro c) x l.fGames) (fun t => num_ge hv t) x.length x (Nat.le_refl _)).2.2.1
    show leagueRank_b2 N l G c rec _ _ a = _
    unfold leagueRank_b2
    simp only [show ((i : Int) < (G.length : Int)) from by omega, decide_true, if_true, idx_at hx, Option.bind_some, hro, w64_succ (i := i) (by omega)]
    rw [fall_eq hN hv hro2 (by omega), Option.bind_some, app_ok (by omega), Option.bind_some, h _ (by simp; omega)]
    rw [List.flatMap_cons, List.append_assoc]; rfl) (by omega) [] (by simp)
  unfold stp
  simpa using this
 have b3 := loop_list (N := N) (B := fun rec25 x => leagueRank_b3 N l rules rec25 x.1 x.2.1 x.2.2) rules (fun i (a : List (List Int)) => ((rules.length : Int), (i : Int), a)) (fun r a => some (r.foldl (stp l.fGames) a)) (fun _ a => Inv T a)
  (fun a rec _ => by simp [leagueRank_b3])
  (fun i x a rec hx hok h => by
   have hlt := len_lt hx
   show leagueRank_b3 N l rules rec _ _ a = _
   unfold leagueRank_b3
   simp only [show ((i : Int) < (rules.length : Int)) from by omega, decide_true, if_true, idx_at hx, Option.bind_some, w64_succ (i := i) (by omega)]
   rw [b2 a x hok (hr x (List.mem_of_getElem? hx)), Option.bind_some]
   simp only [Option.bind_some]
   rw [h _ (stp_inv hv hok x)]; rfl) (by omega) [teams T] hi0
 have e3 : loopN (fun rec25 x => leagueRank_b3 N l rules rec25 x.1 x.2.1 x.2.2) N ((rules.length : Int), 0, [teams T]) = some (grps l.fGames T rules) := b3
 rw [e3, Option.bind_some]
 have hG : Inv T (grps l.fGames T rules) := (fold_inv hv rules hi0 hp0).1
 generalize hGG : grps l.fGames T rules = G at hG ⊢
 have hGl := hG.len
 -- a rank for each
 have b4 : ∀ (g : List Int) (rank : Int) (l0 : List Int), (∀ t ∈ g, 0 ≤ t ∧ t.toNat < T) → g.length ≤ 6 → l0.length = T → loopN (fun rec55 x => leagueRank_b4 N rank g rec55 x.1 x.2.1 x.2.2) N ((g.length : Int), 0, l0) = some (asg1 rank g l0) := by
  intro g rank l0 hg hg6 hl0
  exact loop_list (N := N) (B := fun rec55 x => leagueRank_b4 N rank g rec55 x.1 x.2.1 x.2.2) g (fun i (a : List Int) => ((g.length : Int), (i : Int), a)) (fun r a => some (asg1 rank r a)) (fun _ a => a.length = T)
   (fun a rec _ => by simp [leagueRank_b4, asg1])
   (fun i x a rec hx hok h => by
    have hlt := len_lt hx
    obtain ⟨h0, h1⟩ := hg x (List.mem_of_getElem? hx)
    show leagueRank_b4 N rank g rec _ _ a = _
    unfold leagueRank_b4
    obtain ⟨z, hz⟩ : ∃ z, a[x.toNat]? = some z := ⟨_, List.getElem?_eq_getElem (by omega)⟩
    simp only [show ((i : Int) < (g.length : Int)) from by omega, decide_true, if_true, idx_at hx, Option.bind_some, idx_int h0 hz, w64_succ (i := i) (by omega)]
    rw [h _ (by simpa using hok)]; rfl) (by omega) l0 hl0
 have b5 := loop_list (N := N) (B := fun rec51 x => leagueRank_b5 N G rec51 x.1 x.2.1 x.2.2.1 x.2.2.2) G (fun i (a : Int × List Int) => (a.1, (G.length : Int), (i : Int), a.2)) (fun r a => some (asg r a.1 a.2)) (fun i a => a.2.length = T ∧ 0 ≤ a.1 ∧ a.1 ≤ 1 + 6 * i)
  (fun a rec _ => by simp [leagueRank_b5, asg])
  (fun i x a rec hx hok h => by
   have hlt := len_lt hx
   have hm := List.mem_of_getElem? hx
   have hgl := hG.glen hm
   show leagueRank_b5 N G rec a.1 _ _ a.2 = _
   unfold leagueRank_b5
   simp only [show ((i : Int) < (G.length : Int)) from by omega, decide_true, if_true, idx_at hx, Option.bind_some, w64_succ (i := i) (by omega)]
   rw [b4 x a.1 a.2 (fun t ht => by have := hG.mem hm ht; omega) (by omega) hok.1]
   simp only [Option.bind_some]
   rw [w64_id (n := a.1 + (x.length : Int)) (by omega) (by omega)]
   exact h (a.1 + x.length, asg1 a.1 x a.2) ⟨by rw [asg1_len]; exact hok.1, by simp; omega, by simp; omega⟩) (by omega) (1, List.replicate T 0) ⟨by simp, by simp, by simp⟩
 have e5 : loopN (fun rec51 x => leagueRank_b5 N G rec51 x.1 x.2.1 x.2.2.1 x.2.2.2) N (1, (G.length : Int), 0, List.replicate T 0) = some (asg G 1 (List.replicate T 0)) := b5
 rw [e5, Option.bind_some]
 unfold ranks
 rw [hGG]
end
theorem ranks_len (gs : List LeagueGame) (T : Nat) (rules : List Int) : (ranks gs T rules).length = T := by unfold ranks; rw [asg_len]; simp
theorem ranks_bd {l : LeagueLeague} (hv : Val l) {T : Nat} (hT : 2 ≤ T) (rules : List Int) {n : Nat} (hn : n < T) : ∃ v, (ranks l.fGames T rules)[n]? = some v ∧ 1 ≤ v ∧ v ≤ T := by
 have hG : Inv T (grps l.fGames T rules) := (fold_inv hv rules (inv0 hT) (p := fun _ => True) fun _ _ _ _ _ => trivial).1
 obtain ⟨v, h1, h2, h3⟩ := asg_in (grps l.fGames T rules) 1 (List.replicate T 0) n (fun g hg t ht => (hG.mem hg ht).1) (hG.perm.nodup_iff.2 (teams_nodup T)) (hG.perm.mem_iff.2 (mem_teams.2 (by omega))) (by simpa using hn)
 rw [hG.perm.length_eq] at h3
 simp only [teams, List.length_map, List.length_range] at h3
 exact ⟨v, h1, h2, by omega⟩
theorem ranks_one {l : LeagueLeague} (hv : Val l) {T : Nat} (hT : 2 ≤ T) (rules : List Int) : ∃ g : List Int, (∃ n : Nat, n < T ∧ (n : Int) ∈ g) ∧ (∀ n : Nat, n < T → ((ranks l.fGames T rules)[n]? = some 1 ↔ (n : Int) ∈ g)) ∧
  (∀ c rs, rules = c :: rs → c = 1 → ∀ x ∈ g, ∀ y ∈ teams T, num 0 (teams T) l.fGames y ≤ num 0 (teams T) l.fGames x) := by
 have hG : Inv T (grps l.fGames T rules) := (fold_inv hv rules (inv0 hT) (p := fun _ => True) fun _ _ _ _ _ => trivial).1
 cases e : grps l.fGames T rules with
 | nil =>
  have := hG.perm
  rw [e] at this
  have := this.length_eq
  simp [teams] at this; omega
 | cons g r =>
  rw [e] at hG
  have hg := hG.ne g (by simp)
  refine ⟨g, ?_, fun n hn => ?_, fun c rs he hc => ?_⟩
  ·obtain ⟨t, ht⟩ := List.exists_mem_of_ne_nil g hg
   have := hG.mem (show g ∈ g :: r from by simp) ht
   exact ⟨t.toNat, by omega, by rwa [show ((t.toNat : Nat) : Int) = t from by omega]⟩
  ·unfold ranks
   rw [e]
   exact asg_head (fun x hx t ht => (hG.mem hx ht).1) hg (hG.perm.nodup_iff.2 (teams_nodup T)) (hG.perm.mem_iff.2 (mem_teams.2 (by omega))) (by simpa using hn)
  ·subst hc
   have h := (fold_inv hv rs (stp_inv hv (inv0 hT) 1) (stp_first hv T)).2
   unfold grps at e
   rw [he, List.foldl_cons] at e
   exact h g r e
end Go.Proofs.YtignpdbcgjllkaaGreat.S
/-
 Leagues: sums, who can be first; seeds; books.
-/
set_option linter.all false
namespace Go.Proofs.YtignpdbcgjllkaaGreat.S
open Go.Kp
set_option maxRecDepth 20000
def pts (l : LeagueLeague) (t : Int) : Int := num 0 [] l.fGames t
theorem pts_out {l : LeagueLeague} (hv : Val l) {t : Int} (ht : l.fTeams ≤ t) : pts l t = 0 := by
 have key : ∀ gs : List LeagueGame, (∀ g ∈ gs, GV l.fTeams g) → num 0 [] gs t = 0 := by
  intro gs
  induction gs with
  | nil => intro _; rfl
  | cons g gs ih =>
   intro h
   have hg := h g (by simp)
   have := ih fun x hx => h x (by simp [hx])
   unfold num at *
   rw [List.map_cons, List.sum_cons, this]
   unfold ct
   have h1 := hg.a
   have h2 := hg.b
   rw [if_neg (by omega), if_neg (by omega)]; rfl
 exact key _ fun g h => gok_gv (hv.g g h)
def upd (v : Ar6 Int) (t d : Int) : Ar6 Int := ⟨if t = 0 then v.a0 + d else v.a0, if t = 1 then v.a1 + d else v.a1, if t = 2 then v.a2 + d else v.a2, if t = 3 then v.a3 + d else v.a3, if t = 4 then v.a4 + d else v.a4, if t = 5 then v.a5 + d else v.a5⟩
def bd6 (v : Ar6 Int) (b : Int) : Prop := (0 ≤ v.a0 ∧ v.a0 ≤ b) ∧ (0 ≤ v.a1 ∧ v.a1 ≤ b) ∧ (0 ≤ v.a2 ∧ v.a2 ≤ b) ∧ (0 ≤ v.a3 ∧ v.a3 ≤ b) ∧ (0 ≤ v.a4 ∧ v.a4 ≤ b) ∧ (0 ≤ v.a5 ∧ v.a5 ≤ b)
theorem upd_eq {v : Ar6 Int} {t d b : Int} (ht : 0 ≤ t ∧ t < 6) (hb : bd6 v b) (hb2 : b ≤ 1000000) (hd : 0 ≤ d ∧ d ≤ 2) :
  (if decide (t = 0) then some ((Ar6.mk (w64 (v.a0 + d)) v.a1 v.a2 v.a3 v.a4 v.a5)) else
   if decide (t = 1) then some ((Ar6.mk v.a0 (w64 (v.a1 + d)) v.a2 v.a3 v.a4 v.a5)) else
   if decide (t = 2) then some ((Ar6.mk v.a0 v.a1 (w64 (v.a2 + d)) v.a3 v.a4 v.a5)) else
   if decide (t = 3) then some ((Ar6.mk v.a0 v.a1 v.a2 (w64 (v.a3 + d)) v.a4 v.a5)) else
   if decide (t = 4) then some ((Ar6.mk v.a0 v.a1 v.a2 v.a3 (w64 (v.a4 + d)) v.a5)) else
   if decide (t = 5) then some ((Ar6.mk v.a0 v.a1 v.a2 v.a3 v.a4 (w64 (v.a5 + d)))) else none) = some (upd v t d) := by
 obtain ⟨h0, h1, h2, h3, h4, h5⟩ := hb
 have : t = 0 ∨ t = 1 ∨ t = 2 ∨ t = 3 ∨ t = 4 ∨ t = 5 := by omega
 rcases this with rfl | rfl | rfl | rfl | rfl | rfl
 ·rw [w64_id (n := v.a0 + d) (by omega) (by omega)]; rfl
 ·rw [w64_id (n := v.a1 + d) (by omega) (by omega)]; rfl
 ·rw [w64_id (n := v.a2 + d) (by omega) (by omega)]; rfl
 ·rw [w64_id (n := v.a3 + d) (by omega) (by omega)]; rfl
 ·rw [w64_id (n := v.a4 + d) (by omega) (by omega)]; rfl
 ·rw [w64_id (n := v.a5 + d) (by omega) (by omega)]; rfl
theorem upd_bd {v : Ar6 Int} {t d b : Int} (hb : bd6 v b) (hd : 0 ≤ d ∧ d ≤ 2) : bd6 (upd v t d) (b + 2) := by
 obtain ⟨h0, h1, h2, h3, h4, h5⟩ := hb
 refine ⟨?_, ?_, ?_, ?_, ?_, ?_⟩ <;> (unfold upd; dsimp only; split <;> omega)
def addA (a : Ar6 Int) (r : List LeagueGame) : Ar6 Int := ⟨a.a0 + num 0 [] r 0, a.a1 + num 0 [] r 1, a.a2 + num 0 [] r 2, a.a3 + num 0 [] r 3, a.a4 + num 0 [] r 4, a.a5 + num 0 [] r 5⟩
theorem add_cons (a : Ar6 Int) (x : LeagueGame) (r : List LeagueGame) : addA (upd (upd a x.fA (gv x).1) x.fB (gv x).2) r = addA a (x :: r) := by
 unfold addA upd num
 simp only [List.map_cons, List.sum_cons, ct, sv, if_pos]
 congr 1 <;> (split <;> split <;> omega)
section
variable {N : Nat} (hN : 4000 ≤ N)
include hN
theorem sums_eq {l : LeagueLeague} (hv : Val l) : leagueLeagueSums N l = some ⟨pts l 0, pts l 1, pts l 2, pts l 3, pts l 4, pts l 5⟩ := by
 have ht := hv.t
 have hn := hv.n
 have := loop_list (N := N) (B := fun rec3 x => leagueLeagueSums_b1 N l rec3 x.1 x.2.1 x.2.2) l.fGames (fun i (a : Ar6 Int) => ((l.fGames.length : Int), (i : Int), a)) (fun r a => some (addA a r)) (fun i a => bd6 a (4 * i))
  (fun a rec _ => by simp [leagueLeagueSums_b1, addA, num])
  (fun i x a rec hx hok h => by
   have hlt := len_lt hx
   have hg := gok_gv (hv.g x (List.mem_of_getElem? hx))
   have hb := gv_bd x
   have h1 := hg.a
   have h2 := hg.b
   show leagueLeagueSums_b1 N l rec _ _ a = _
   unfold leagueLeagueSums_b1
   simp only [show ((i : Int) < (l.fGames.length : Int)) from by omega, decide_true, if_true, idx_at hx, Option.bind_some, gives_eq, w64_succ (i := i) (by omega)]
   rw [upd_eq (b := 4 * i) ⟨h1.1, by omega⟩ hok (by omega) hb.1, Option.bind_some]
   have hb1 := upd_bd (t := x.fA) hok hb.1
   rw [upd_eq (b := 4 * i + 2) ⟨h2.1, by omega⟩ hb1 (by omega) hb.2, Option.bind_some]
   have hb2 := upd_bd (t := x.fB) hb1 hb.2
   rw [h _ (by rw [show (4 * ((i + 1 : Nat) : Int)) = 4 * i + 2 + 2 from by omega]; exact hb2), add_cons]) (by omega) ⟨0, 0, 0, 0, 0, 0⟩ ⟨by simp, by simp, by simp, by simp, by simp, by simp⟩
 unfold leagueLeagueSums
 have e : loopN (fun rec3 x => leagueLeagueSums_b1 N l rec3 x.1 x.2.1 x.2.2) N ((l.fGames.length : Int), 0, Ar6.mk 0 0 0 0 0 0) = some (addA ⟨0, 0, 0, 0, 0, 0⟩ l.fGames) := this
 rw [e, Option.bind_some]
 simp [addA, pts]
theorem open_eq {l : LeagueLeague} (hl : l.fGames.length ≤ 1000) (hc : ∀ g ∈ l.fGames, g.fOpen = false) : leagueLeagueOpen N l = some [] := by
 unfold leagueLeagueOpen slicesCloneX slicesCloneX1
 rw [app_ok (by simp; omega)]
 simp only [Option.bind_some, List.nil_append]
 generalize l.fGames = gs at *
 obtain ⟨M, hM⟩ : ∃ M, N = M + 1 := ⟨N - 1, by omega⟩
 unfold slicesDeleteFunc
 cases gs with
 | nil =>
  have e : slicesIndexFuncXXXXXXXX N ([] : List LeagueGame) = some (-1) := by
   unfold slicesIndexFuncXXXXXXXX
   rw [hM]; rfl
  rw [e]; rfl
 | cons g r =>
  have e : slicesIndexFuncXXXXXXXX N (g :: r) = some 0 := by
   unfold slicesIndexFuncXXXXXXXX
   rw [hM]
   show slicesIndexFuncXXXXXXXX_b2 (M + 1) (g :: r) (loopN _ M) _ 0 = _
   unfold slicesIndexFuncXXXXXXXX_b2 leagueLeagueOpen1
   rw [if_pos (decide_eq_true (by simp <;> omega)), show idx (g :: r) 0 = some g from rfl, Option.bind_some]
   simp [hc g (by simp)]
  have hb := loop_from (N := N) (B := fun rec3 x => slicesDeleteFunc_b1 N rec3 x.1 x.2.1 x.2.2) (g :: r) (fun i => ((0 : Int), (i : Int), g :: r)) (fun _ _ => some ((0 : Int), g :: r))
   (fun rec => by simp [slicesDeleteFunc_b1])
   (fun i x rec hx h => by
    have hlt := len_lt hx
    show slicesDeleteFunc_b1 N rec _ _ _ = _
    unfold slicesDeleteFunc_b1 leagueLeagueOpen1
    simp only [show ((i : Int) < ((g :: r).length : Int)) from by omega, decide_true, if_true, idx_at hx, Option.bind_some, hc x (List.mem_of_getElem? hx), Bool.not_false, Bool.not_true, Bool.false_eq_true, if_false, w64_succ (i := i) (by omega)]
    exact h) (by omega) 1 (by simp)
  have hb' : loopN (fun rec3 x => slicesDeleteFunc_b1 N rec3 x.1 x.2.1 x.2.2) N ((0 : Int), w64 (0 + 1), g :: r) = some (0, g :: r) := hb
  rw [e, Option.bind_some, if_neg (by decide), hb', Option.bind_some]
  simp only
  rw [slc_ok (by omega) (by omega) (Int.le_refl _), Option.bind_some, show zro 0 = some () from rfl, Option.bind_some, slc_ok (by omega) (by omega) (by omega), Option.bind_some]
  simp
theorem race_eq {l : LeagueLeague} (hv : Val l) (hc : ∀ g ∈ l.fGames, g.fOpen = false) {t : Int} (ht : 0 ≤ t ∧ t < l.fTeams) :
  leagueLeagueRace N l t = some (t, pts l t, pts l 0, pts l 1, pts l 2, pts l 3, pts l 4, pts l 5, []) := by
 have h6 := hv.t
 have hn := hv.n
 obtain ⟨M, hM⟩ : ∃ M, N = M + 1 := ⟨N - 1, by omega⟩
 unfold leagueLeagueRace
 rw [sums_eq hN hv, Option.bind_some, open_eq hN (by omega) hc, Option.bind_some]
 have hl : loopN (fun rec3 x => leagueLeagueRace_b1 N [] rec3 x) N ((([] : List LeagueGame).length : Int)) = some () := by
  rw [hM]; rfl
 rw [hl]
 have : t = 0 ∨ t = 1 ∨ t = 2 ∨ t = 3 ∨ t = 4 ∨ t = 5 := by omega
 rcases this with rfl | rfl | rfl | rfl | rfl | rfl <;> rfl
theorem runs_eq {t r s0 s1 s2 s3 s4 s5 : Int} (h0 : s0 ≤ r) (h1 : s1 ≤ r) (h2 : s2 ≤ r) (h3 : s3 ≤ r) (h4 : s4 ≤ r) (h5 : s5 ≤ r) :
  leagueRaceRuns N t r s0 s1 s2 s3 s4 s5 [] = some (true, t, r, s0, s1, s2, s3, s4, s5, [], []) := by
 obtain ⟨M, hM⟩ : ∃ M, N = M + 1 := ⟨N - 1, by omega⟩
 have g : ∀ {k s : Int}, s ≤ r → (if !decide (k = t) then some (decide (r < s)) else some false : Option Bool) = some false := by
  intro k s h
  by_cases e : k = t <;> simp [e]; omega
 have hm : mkl N ((([] : List LeagueGame).length : Int)) (0 : Int) = some [] := by unfold mkl; rw [if_pos ⟨by simp, by simp⟩]; rfl
 have hl : loopN (fun rec3 x => leagueRaceRuns_b1 N [] rec3 x) N ((([] : List LeagueGame).length : Int)) = some () := by rw [hM]; rfl
 have l2 : loopN (fun rec x => leagueRaceRuns_b2 N t r s0 rec) N () = some () := by
  rw [hM]; show leagueRaceRuns_b2 (M + 1) t r s0 (loopN (fun rec x => leagueRaceRuns_b2 (M + 1) t r s0 rec) M) = _; unfold leagueRaceRuns_b2; rw [g h0]; rfl
 have l3 : loopN (fun rec x => leagueRaceRuns_b3 N t r s1 rec) N () = some () := by
  rw [hM]; show leagueRaceRuns_b3 (M + 1) t r s1 (loopN (fun rec x => leagueRaceRuns_b3 (M + 1) t r s1 rec) M) = _; unfold leagueRaceRuns_b3; rw [g h1]; rfl
 have l4 : loopN (fun rec x => leagueRaceRuns_b4 N t r s2 rec) N () = some () := by
  rw [hM]; show leagueRaceRuns_b4 (M + 1) t r s2 (loopN (fun rec x => leagueRaceRuns_b4 (M + 1) t r s2 rec) M) = _; unfold leagueRaceRuns_b4; rw [g h2]; rfl
 have l5 : loopN (fun rec x => leagueRaceRuns_b5 N t r s3 rec) N () = some () := by
  rw [hM]; show leagueRaceRuns_b5 (M + 1) t r s3 (loopN (fun rec x => leagueRaceRuns_b5 (M + 1) t r s3 rec) M) = _; unfold leagueRaceRuns_b5; rw [g h3]; rfl
 have l6 : loopN (fun rec x => leagueRaceRuns_b6 N t r s4 rec) N () = some () := by
  rw [hM]; show leagueRaceRuns_b6 (M + 1) t r s4 (loopN (fun rec x => leagueRaceRuns_b6 (M + 1) t r s4 rec) M) = _; unfold leagueRaceRuns_b6; rw [g h4]; rfl
 have l7 : loopN (fun rec x => leagueRaceRuns_b7 N t r s5 rec) N () = some () := by
  rw [hM]; show leagueRaceRuns_b7 (M + 1) t r s5 (loopN (fun rec x => leagueRaceRuns_b7 (M + 1) t r s5 rec) M) = _; unfold leagueRaceRuns_b7; rw [g h5]; rfl
 unfold leagueRaceRuns
 rw [if_neg (by simpa using h0), if_neg (by simpa using h1), if_neg (by simpa using h2), if_neg (by simpa using h3), if_neg (by simpa using h4), if_neg (by simpa using h5), hm, Option.bind_some, hl, Option.bind_some, l2, Option.bind_some, l3, Option.bind_some, l4, Option.bind_some, l5, Option.bind_some, l6, Option.bind_some, l7, Option.bind_some]
theorem first_eq {l : LeagueLeague} (hv : Val l) (hc : ∀ g ∈ l.fGames, g.fOpen = false) {t : Int} (ht : 0 ≤ t ∧ t < l.fTeams) (hm : ∀ y, 0 ≤ y → y < l.fTeams → pts l y ≤ pts l t) : leagueCanFirst N l t = some (true, 0) := by
 have h6 := hv.t
 have hp : 0 ≤ pts l t := num_ge hv t
 have hall : ∀ y : Int, 0 ≤ y → pts l y ≤ pts l t := fun y hy => by
  by_cases h : y < l.fTeams
  ·exact hm y hy h
  ·rw [pts_out hv (by omega)]; exact hp
 have ha : leagueLeagueAsked N l t = some 0 := by
  unfold leagueLeagueAsked leagueLeagueTeam
  rw [check_eq hN hv, Option.bind_some, if_neg (by decide), w64_id (by omega) (by omega), within_eq hN, Option.bind_some, inr_iff.2 ⟨ht.1, by omega⟩]
  rfl
 unfold leagueCanFirst
 rw [ha, Option.bind_some, if_neg (by decide), race_eq hN hv hc ht, Option.bind_some]
 simp only
 rw [runs_eq hN (hall 0 (by omega)) (hall 1 (by omega)) (hall 2 (by omega)) (hall 3 (by omega)) (hall 4 (by omega)) (hall 5 (by omega))]
 rfl
theorem thin_eq (l : Ref08League) : law08Thin N l = some (decide (l.fGames.length ≤ 24)) := by
 unfold law08Thin
 congr 1
 by_cases h : l.fGames.length ≤ 24
 ·rw [decide_eq_true h, decide_eq_true (by omega)]
 ·rw [decide_eq_false h, decide_eq_false (by omega)]
theorem fault_eq (l : Ref08League) (hl : l.fGames.length ≤ 1000) : ref08Fault N l = some (if 20 < l.fGames.length then 3 else if inr l.fTeams 2 6 then (if l.fGames.all (fun g => gok l.fTeams (cg g)) then 0 else 1) else 1) := by
 have hin : ∀ n a b : Int, ref08In N n a b = some (inr n a b) := by
  intro n a b
  unfold ref08In inr
  by_cases h : a ≤ n <;> simp [h]
 unfold ref08Fault
 by_cases h : 20 < l.fGames.length
 ·rw [if_pos (by simpa using (show (20 : Int) < (l.fGames.length : Int) from by omega)), if_pos h]
 rw [if_neg (by simpa using (show ¬ (20 : Int) < (l.fGames.length : Int) from by omega)), if_neg h, hin, Option.bind_some]
 by_cases ht : inr l.fTeams 2 6 = true
 rotate_left
 ·simp [ht]
 have htt := inr_iff.1 ht
 rw [ht]
 simp only [Bool.not_true, Bool.false_eq_true, if_false, if_true]
 have := loop_list0 (N := N) (B := fun rec3 x => ref08Fault_b2 N l rec3 x) l.fGames (fun i => (i : Int)) (fun r => some (if r.all (fun g => gok l.fTeams (cg g)) then 0 else 1))
  (fun rec => by simp [ref08Fault_b2, ref08Fault_k1])
  (fun i x rec hx h => by
   have hlt := len_lt hx
   unfold ref08Fault_b2
   rw [w64_id (n := l.fTeams - 1) (by omega) (by omega)]
   simp only [show ((i : Int) < (l.fGames.length : Int)) from by omega, decide_true, if_true, idx_at hx, Option.bind_some, hin, w64_succ (i := i) (by omega), h]
   rw [List.all_cons]
   by_cases h1 : inr x.fA 0 (l.fTeams - 1) = true
   rotate_left
   ·simp [gok, cg, h1]
   by_cases h2 : inr x.fB 0 (l.fTeams - 1) = true
   rotate_left
   ·simp [gok, cg, h1, h2]
   by_cases h3 : x.fA = x.fB
   ·simp [gok, cg, h1, h2, h3]
   by_cases h4 : inr x.fPinsA 0 3000 = true
   rotate_left
   ·simp [gok, cg, h1, h2, h3, h4]
   by_cases h5 : inr x.fPinsB 0 3000 = true
   rotate_left
   ·simp [gok, cg, h1, h2, h3, h4, h5]
   have p1 := inr_iff.1 h4
   have p2 := inr_iff.1 h5
   rw [w64_id (n := x.fPinsA + x.fPinsB) (by omega) (by omega)]
   cases h6 : x.fOpen with
   | false => simp [gok, cg, h1, h2, h3, h4, h5, h6]
   | true =>
    by_cases h7 : 0 < x.fPinsA + x.fPinsB
    ·have : ¬ (x.fPinsA = 0 ∧ x.fPinsB = 0) := by omega
     simp [gok, cg, h1, h2, h3, h4, h5, h6, h7, this]
    ·have e1 : x.fPinsA = 0 := by omega
     have e2 : x.fPinsB = 0 := by omega
     have e4 : inr 0 0 3000 = true := rfl
     simp [gok, cg, h1, h2, h3, h6, e1, e2, e4]) (by omega)
 exact this
theorem league_eq (l : Ref08League) (hl : l.fGames.length ≤ 1000) : law08League N l = some (cl l) := by
 have := loop_list (N := N) (B := fun rec3 x => law08League_b1 N l rec3 x.1 x.2) l.fGames (fun i (a : List LeagueGame) => ((i : Int), a)) (fun r a => some (a ++ r.map cg)) (fun i a => a.length = i)
  (fun a rec _ => by simp [law08League_b1])
  (fun i x a rec hx hok h => by
   have hlt := len_lt hx
   show law08League_b1 N l rec i a = _
   unfold law08League_b1
   simp only [show ((i : Int) < (l.fGames.length : Int)) from by omega, decide_true, if_true, idx_at hx, Option.bind_some, w64_succ (i := i) (by omega)]
   rw [app_ok (by simp; omega), Option.bind_some, h _ (by simp [hok])]
   simp [cg]) (by omega) [] rfl
 unfold law08League
 rw [show ((0, []) : Int × List LeagueGame) = ((((0 : Nat)) : Int), []) from rfl, this]
 rfl
theorem ropen_eq (l : Ref08League) (hl : l.fGames.length ≤ 1000) : ref08Open N l = some (((l.fGames.filter (·.fOpen)).length : Nat) : Int) := by
 have := loop_list (N := N) (B := fun rec3 x => ref08Open_b1 N l rec3 x.1 x.2) l.fGames (fun i (a : Int) => (a, (i : Int))) (fun r a => some (a + ((r.filter (·.fOpen)).length : Nat))) (fun i a => 0 ≤ a ∧ a ≤ i)
  (fun a rec _ => by simp [ref08Open_b1])
  (fun i x a rec hx hok h => by
   have hlt := len_lt hx
   show ref08Open_b1 N l rec a i = _
   unfold ref08Open_b1
   simp only [show ((i : Int) < (l.fGames.length : Int)) from by omega, decide_true, if_true, idx_at hx, Option.bind_some, w64_succ (i := i) (by omega)]
   cases ho : x.fOpen with
   | true =>
    simp only [if_true, Option.bind_some]
    rw [w64_id (by omega) (by omega), h _ ⟨by omega, by omega⟩]
    simp [List.filter_cons, ho]; omega
   | false =>
    simp only [Bool.false_eq_true, if_false, Option.bind_some]
    rw [h _ ⟨by omega, by omega⟩]
    simp [List.filter_cons, ho]) (by omega) 0 ⟨by simp, by simp⟩
 unfold ref08Open
 rw [show ((0, 0) : Int × Int) = (0, ((0 : Nat) : Int)) from rfl, this]
 simp
end
theorem val_of {l : Ref08League} (h : (if 20 < l.fGames.length then 3 else if inr l.fTeams 2 6 then (if l.fGames.all (fun g => gok l.fTeams (cg g)) then 0 else 1) else 1 : Int) = 0) : Val (cl l) := by
 split at h
 ·cases h
 ·split at h
  ·rename_i h1 h2
   split at h
   ·rename_i h3
    exact ⟨inr_iff.1 h2, by unfold cl; simp; omega, fun x hx => by
     obtain ⟨g, hg, rfl⟩ := List.mem_map.1 hx
     exact List.all_eq_true.1 h3 g hg⟩
   ·cases h
  ·cases h
end Go.Proofs.YtignpdbcgjllkaaGreat.S
