/-
  Books: what is valid; the program's and the document's errors are the same.
-/
import Derived.Test.YtmencjafjcmbaaaDef
import Derived.Test.YtmencjafjcmbaaaLib
set_option linter.all false
namespace Go.Proofs.Ytmencjafjcmbaaa
open Go.Kp

def cs (s : Ref07Sheet) : RateSheet := ⟨s.fNumber, s.fBowler, s.fWeek, s.fGames⟩
def cl (l : Ref07Law) : RateLaw := ⟨l.fBase, l.fPercent, l.fCap, l.fLeast, l.fBlind⟩
def cb (b : Ref07Book) : RateBook := ⟨cl b.fLaw, b.fBowlers, b.fSheets.map cs, b.fWithdrawn⟩

def inr (n a b : Int) : Bool := decide (a ≤ n) && decide (n ≤ b)
theorem inr_iff {n a b : Int} : inr n a b = true ↔ a ≤ n ∧ n ≤ b := by simp [inr]

section
variable {N : Nat}
theorem within_eq (n a b : Int) : rateWithin N n a b = some (inr n a b) := by
  unfold rateWithin inr
  cases decide (a ≤ n) <;> rfl
theorem in_eq (n a b : Int) : ref07In N n a b = some (inr n a b) := by
  unfold ref07In inr
  cases decide (a ≤ n) <;> rfl
theorem count_eq (n : Int) : rateCount N n = some (inr n 0 300) := by unfold rateCount; rw [within_eq]; rfl
theorem number_eq (n : Int) : rateNumber N n = some (inr n 1 999) := by unfold rateNumber; rw [within_eq]; rfl
theorem week_eq (n : Int) : rateWeek N n = some (inr n 1 30) := by unfold rateWeek; rw [within_eq]; rfl

def lawOk (l : Ref07Law) : Bool := inr l.fBase 0 300 && (inr l.fPercent 0 100 && (inr l.fCap 0 300 && (inr l.fLeast 1 30 && inr l.fBlind 0 300)))
theorem isLaw_eq (l : Ref07Law) : ref07IsLaw N l = some (lawOk l) := by
  unfold ref07IsLaw lawOk
  simp only [in_eq, Option.bind_some]
  cases inr l.fBase 0 300 <;> cases inr l.fPercent 0 100 <;> cases inr l.fCap 0 300 <;> cases inr l.fLeast 1 30 <;> cases inr l.fBlind 0 300 <;> rfl
theorem lawValid_eq (l : Ref07Law) : rateLawValid N (cl l) = some (lawOk l) := by
  unfold rateLawValid lawOk cl
  simp only [within_eq, count_eq, Option.bind_some]
  cases inr l.fBase 0 300 <;> cases inr l.fPercent 0 100 <;> cases inr l.fCap 0 300 <;> cases inr l.fLeast 1 30 <;> cases inr l.fBlind 0 300 <;> rfl

def gamesOk (g : Ar3 Int) : Bool := inr g.a0 0 300 && (inr g.a1 0 300 && inr g.a2 0 300)
def sheetOk (n : Nat) (s : Ref07Sheet) : Bool := inr s.fNumber 1 999 && (inr s.fBowler 0 ((n : Int) - 1) && (inr s.fWeek 1 30 && gamesOk s.fGames))
def lims (b : Ref07Book) : Bool := decide (b.fBowlers.length ≤ 8) && (decide (b.fSheets.length ≤ 40) && decide (b.fWithdrawn.length ≤ 40))
def argsOk (b : Ref07Book) : Bool := lawOk b.fLaw && (ris b.fWithdrawn && (b.fBowlers.all (fun n => inr n 0 300) && (b.fWithdrawn.all (fun n => inr n 1 999) && b.fSheets.all (sheetOk b.fBowlers.length))))
def two (s t : Ref07Sheet) : Bool := decide (s.fNumber = t.fNumber) && !decide (s = t)
def dup : List Ref07Sheet → List Ref07Sheet → Bool
  | _, [] => false
  | pre, x :: r => pre.any (two x) || dup (pre ++ [x]) r
def flt (b : Ref07Book) : Int := if lims b then (if argsOk b then (if dup [] b.fSheets then 6 else 0) else 1) else 3

theorem two_eq (s t : Ref07Sheet) : (if decide ((cs s).fNumber = (cs t).fNumber) then (if !decide ((cs s).fBowler = (cs t).fBowler) then some true else if !decide ((cs s).fWeek = (cs t).fWeek) then some true else some (!decide ((cs s).fGames = (cs t).fGames))) else some false) = some (two s t) := by
  obtain ⟨a, b, c, d⟩ := s
  obtain ⟨a', b', c', d'⟩ := t
  simp only [cs, two, Ref07Sheet.mk.injEq]
  by_cases h1 : a = a' <;> by_cases h2 : b = b' <;> by_cases h3 : c = c' <;> by_cases h4 : d = d' <;> simp [h1, h2, h3, h4]
theorem two_eq' (s t : Ref07Sheet) : (if decide (s.fNumber = t.fNumber) then some (!decide (s = t)) else some false) = some (two s t) := by
  unfold two; cases decide (s.fNumber = t.fNumber) <;> rfl

variable (hN : 4000 ≤ N)
include hN

theorem list_eq {xs : List Int} (h : xs.length ≤ 1000) : law07List N xs = some xs := by
  unfold law07List
  rw [app_ok (by simp; omega)]
  simp

theorem book_eq (b : Ref07Book) (h1 : b.fBowlers.length ≤ 1000) (h2 : b.fSheets.length ≤ 1000) (h3 : b.fWithdrawn.length ≤ 1000) : law07Book N b = some (cb b) := by
  unfold law07Book
  rw [list_eq hN h1, list_eq hN h3]
  have := loop_list (N := N) (B := fun rec3 x => law07Book_b1 N b rec3 x.1 x.2) b.fSheets (fun i (a : List RateSheet) => ((i : Int), a)) (fun r a => some (a ++ r.map cs)) (fun i a => a.length = i)
    (fun a rec _ => by simp [law07Book_b1])
    (fun i x a rec hx hok h => by
      have hlt := len_lt hx
      show law07Book_b1 N b rec i a = _
      unfold law07Book_b1
      simp only [show ((i : Int) < (b.fSheets.length : Int)) from by omega, decide_true, if_true, idx_at hx, Option.bind_some, w64_succ (i := i) (by omega)]
      rw [app_ok (by simp; omega), Option.bind_some, h _ (by simp [hok])]
      simp [cs]) (by omega) [] rfl
  simp only [Option.bind_some]
  rw [show ((0 : Int), ([] : List RateSheet)) = (((0 : Nat) : Int), []) from rfl, this]
  simp [cb, cl]

theorem rising_eq (l : List Int) (h : l.length ≤ 1000) : rateRising N l = some (ris l) := by
  unfold rateRising; exact rising_shape l (by omega) (by omega)
theorem risingX_eq (l : List Int) (h : l.length ≤ 1000) : rateRisingX N l = some (ris l) := by
  unfold rateRisingX; exact rising_shape l (by omega) (by omega)
theorem rrising_eq (l : List Int) (h : l.length ≤ 1000) : ref07Rising N l = some (ris l) := by
  unfold ref07Rising; exact rising_shape1 l (by omega) (by omega)
theorem all_eq (l : List Int) (h : l.length ≤ 1000) : rateAll N l = some (l.all fun n => inr n 0 300) := by
  unfold rateAll slicesContainsFunc slicesIndexFunc
  exact all_shape l (rateAll1 N) _ (fun x _ => by unfold rateAll1; rw [count_eq]; rfl) (by omega) (by omega)
theorem allXX_eq (l : List Int) (h : l.length ≤ 1000) : rateAllXX N l = some (l.all fun n => inr n 1 999) := by
  unfold rateAllXX slicesContainsFuncXX slicesIndexFuncXX
  exact all_shape l (rateAll1XX N) _ (fun x _ => by unfold rateAll1XX; rw [number_eq]; rfl) (by omega) (by omega)
theorem bowler_eq (b : RateBook) (h : b.fBowlers.length ≤ 1000) (n : Int) : rateBookBowler N b n = some (inr n 0 ((b.fBowlers.length : Int) - 1)) := by
  unfold rateBookBowler
  rw [within_eq, w64_id (by omega) (by omega)]; rfl
theorem sheet_eq (b : Ref07Book) (h : b.fBowlers.length ≤ 1000) (s : Ref07Sheet) : rateBookSheet N (cb b) (cs s) = some (sheetOk b.fBowlers.length s) := by
  unfold rateBookSheet sheetOk gamesOk
  simp only [number_eq, week_eq, bowler_eq hN (cb b) h, Option.bind_some]
  rw [all_eq hN _ (by simp)]
  have e : (cb b).fBowlers = b.fBowlers := rfl
  rw [e]
  simp only [cs, List.all_cons, List.all_nil, Bool.and_true, Option.bind_some]
  cases inr s.fNumber 1 999 <;> cases inr s.fBowler 0 ((b.fBowlers.length : Int) - 1) <;> cases inr s.fWeek 1 30 <;> rfl
theorem allX_eq (b : Ref07Book) (h : b.fBowlers.length ≤ 1000) (l : List Ref07Sheet) (hl : l.length ≤ 1000) : rateAllX N (l.map cs) (cb b) = some (l.all (sheetOk b.fBowlers.length)) := by
  unfold rateAllX slicesContainsFuncX slicesIndexFuncX
  have := all_shape (N := N) (l.map cs) (fun x => rateAll1X N x (cb b)) (fun x => sheetOk b.fBowlers.length ⟨x.fNumber, x.fBowler, x.fWeek, x.fGames⟩) (fun x hx => by
    obtain ⟨s, _, rfl⟩ := List.mem_map.1 hx
    unfold rateAll1X
    rw [sheet_eq hN b h s]; rfl) (by simp; omega) (by simp; omega)
  refine Eq.trans this ?_
  rw [List.all_map]; rfl

theorem check_eq (b : Ref07Book) : rateCheckBook N (cb b) = some (flt b) := by
  unfold rateCheckBook flt lims
  simp only [cb, List.length_map]
  by_cases c1 : b.fBowlers.length ≤ 8
  · by_cases c2 : b.fSheets.length ≤ 40
    · by_cases c3 : b.fWithdrawn.length ≤ 40
      · have d1 : ¬ ((8 : Int) < (b.fBowlers.length : Int)) := by omega
        have d2 : ¬ ((40 : Int) < (b.fSheets.length : Int)) := by omega
        have d3 : ¬ ((40 : Int) < (b.fWithdrawn.length : Int)) := by omega
        simp only [d1, d2, d3, c1, c2, c3, decide_true, decide_false, Bool.and_self, Bool.false_eq_true, if_false, if_true, Option.bind_some]
        have e1 := lawValid_eq (N := N) b.fLaw
        have e2 := all_eq hN b.fBowlers (by omega)
        have e3 := allX_eq hN b (by omega) b.fSheets (by omega)
        have e4 := allXX_eq hN b.fWithdrawn (by omega)
        have e5 := rising_eq hN b.fWithdrawn (by omega)
        simp only [cb] at e3
        simp only [e1, e2, e3, e4, e5, Option.bind_some]
        have e6 : loopN (fun rec13 x => rateCheckBook_b4 N { fLaw := cl b.fLaw, fBowlers := b.fBowlers, fSheets := b.fSheets.map cs, fWithdrawn := b.fWithdrawn } rec13 x.1 x.2) N (((b.fSheets.length : Int), 0)) = some (if dup [] b.fSheets then 6 else 0) := by
          have := loop_from (N := N) (B := fun rec13 x => rateCheckBook_b4 N { fLaw := cl b.fLaw, fBowlers := b.fBowlers, fSheets := b.fSheets.map cs, fWithdrawn := b.fWithdrawn } rec13 x.1 x.2) b.fSheets (fun i => ((b.fSheets.length : Int), (i : Int)))
            (fun i r => some (if dup (b.fSheets.take i) r then 6 else 0))
            (fun rec => by simp [rateCheckBook_b4, rateCheckBook_k1, dup])
            (fun i x rec hx h => by
              have hlt := len_lt hx
              show rateCheckBook_b4 N _ rec (b.fSheets.length : Int) (i : Int) = _
              unfold rateCheckBook_b4
              have hx' : (b.fSheets.map cs)[i]? = some (cs x) := by simp [hx]
              simp only [show ((i : Int) < (b.fSheets.length : Int)) from by omega, decide_true, if_true, idx_at hx', Option.bind_some]
              rw [slc_ok (by omega) (by omega) (by simp; omega), Option.bind_some]
              simp only [Int.toNat_natCast, Int.toNat_zero, List.drop_zero, ← List.map_take]
              have hin := loop_list0 (N := N) (B := fun rec15 x_1 => rateCheckBook_b3 N (b.fSheets.length : Int) (i : Int) rec (cs x) ((b.fSheets.take i).map cs) rec15 x_1.1 x_1.2) (b.fSheets.take i)
                (fun k => ((((b.fSheets.take i).map cs).length : Int), (k : Int))) (fun r => if r.any (two x) then some 6 else rec ((b.fSheets.length : Int), w64 ((i : Int) + 1)))
                (fun rec' => by simp [rateCheckBook_b3, rateCheckBook_k2])
                (fun k y rec' hy h' => by
                  have hlt' := len_lt hy
                  show rateCheckBook_b3 N _ _ rec (cs x) _ rec' _ (k : Int) = _
                  unfold rateCheckBook_b3
                  have hy' : ((b.fSheets.take i).map cs)[k]? = some (cs y) := by simp only [List.getElem?_map, hy]; rfl
                  simp only [show ((k : Int) < (((b.fSheets.take i).map cs).length : Int)) from by rw [List.length_map]; omega, decide_true, if_true, idx_at hy', Option.bind_some, two_eq, w64_succ (i := k) (by simp at hlt'; omega), h', List.any_cons]
                  by_cases hq : two x y = true <;> simp [hq]) (by simp; omega)
              refine Eq.trans hin ?_
              simp only [w64_succ (i := i) (by omega), h, dup]
              have ht : b.fSheets.take (i + 1) = b.fSheets.take i ++ [x] := by rw [List.take_add_one, hx]; rfl
              rw [ht]
              by_cases hq : (b.fSheets.take i).any (two x) = true <;> simp only [hq, if_true, if_false, Bool.true_or, Bool.false_or, Bool.false_eq_true]) (by omega) 0 (by omega)
          simpa using this
        simp only [e6, argsOk]
        by_cases q1 : lawOk b.fLaw = true <;> by_cases q2 : ris b.fWithdrawn = true <;> by_cases q3 : (b.fBowlers.all fun n => inr n 0 300) = true <;> by_cases q4 : (b.fWithdrawn.all fun n => inr n 1 999) = true <;> by_cases q5 : b.fSheets.all (sheetOk b.fBowlers.length) = true <;> simp only [q1, q2, q3, q4, q5, Bool.not_true, Bool.not_false, Bool.false_eq_true, if_true, if_false, Bool.true_and, Bool.and_true, Bool.and_false, Bool.false_and, Option.bind_some, Bool.not_eq_true] at * <;> simp [*]
      · have d1 : ¬ ((8 : Int) < (b.fBowlers.length : Int)) := by omega
        have d2 : ¬ ((40 : Int) < (b.fSheets.length : Int)) := by omega
        have d3 : ((40 : Int) < (b.fWithdrawn.length : Int)) := by omega
        simp [d1, d2, d3, c1, c2, c3]
    · have d1 : ¬ ((8 : Int) < (b.fBowlers.length : Int)) := by omega
      have d2 : ((40 : Int) < (b.fSheets.length : Int)) := by omega
      simp [d1, d2, c1, c2]
  · have d1 : ((8 : Int) < (b.fBowlers.length : Int)) := by omega
    simp [d1, c1]

theorem rgames (g : Ar3 Int) {α : Type} (A B : Option α) : (Option.bind (ref07In N g.a0 0 300) fun r => if !r then A else Option.bind (ref07In N g.a1 0 300) fun r => if !r then A else Option.bind (ref07In N g.a2 0 300) fun r => if !r then A else B) = if gamesOk g then B else A := by
  simp only [in_eq, Option.bind_some, gamesOk]
  by_cases q1 : inr g.a0 0 300 = true <;> by_cases q2 : inr g.a1 0 300 = true <;> by_cases q3 : inr g.a2 0 300 = true <;> simp [q1, q2, q3]

theorem fault_dup (b : Ref07Book) (h2 : b.fSheets.length ≤ 40) : ref07Fault_k5 N b = some (if dup [] b.fSheets then 6 else 0) := by
  unfold ref07Fault_k5
  have := loop_from (N := N) (B := fun rec12 x => ref07Fault_b4 N b rec12 x) b.fSheets (fun i => (i : Int)) (fun i r => some (if dup (b.fSheets.take i) r then 6 else 0))
    (fun rec => by simp [ref07Fault_b4, ref07Fault_k1, dup])
    (fun i x rec hx h => by
      have hlt := len_lt hx
      show ref07Fault_b4 N b rec (i : Int) = _
      unfold ref07Fault_b4
      simp only [show ((i : Int) < (b.fSheets.length : Int)) from by omega, decide_true, if_true]
      have hin := loop_list0 (N := N) (B := fun rec14 x => ref07Fault_b3 N b (i : Int) rec rec14 x) (b.fSheets.take i) (fun k => (k : Int)) (fun r => if r.any (two x) then some 6 else rec (w64 ((i : Int) + 1)))
        (fun rec' => by
          show ref07Fault_b3 N b (i : Int) rec rec' _ = _
          have e : (b.fSheets.take i).length = i := by simp; omega
          simp [ref07Fault_b3, ref07Fault_k2, e])
        (fun k y rec' hy h' => by
          have hlt' := len_lt hy
          have hki : k < i := by simp at hlt'; omega
          show ref07Fault_b3 N b (i : Int) rec rec' (k : Int) = _
          unfold ref07Fault_b3
          have hy' : b.fSheets[k]? = some y := by rw [List.getElem?_take] at hy; simpa [hki] using hy
          simp only [show ((k : Int) < (i : Int)) from by omega, decide_true, if_true, idx_at hx, idx_at hy', Option.bind_some, two_eq', w64_succ (i := k) (by omega), h', List.any_cons]
          by_cases hq : two x y = true <;> simp [hq]) (by simp; omega)
      refine Eq.trans hin ?_
      simp only [w64_succ (i := i) (by omega), h, dup]
      have ht : b.fSheets.take (i + 1) = b.fSheets.take i ++ [x] := by rw [List.take_add_one, hx]; rfl
      rw [ht]
      by_cases hq : (b.fSheets.take i).any (two x) = true <;> simp only [hq, if_true, if_false, Bool.true_or, Bool.false_or, Bool.false_eq_true]) (by omega) 0 (by omega)
  simpa using this

theorem fault_sheets (b : Ref07Book) (h1 : b.fBowlers.length ≤ 8) (h2 : b.fSheets.length ≤ 40) : ref07Fault_k7 N b = some (if b.fSheets.all (sheetOk b.fBowlers.length) then (if dup [] b.fSheets then 6 else 0) else 1) := by
  unfold ref07Fault_k7
  have := loop_list0 (N := N) (B := fun rec15 x => ref07Fault_b6 N b rec15 x) b.fSheets (fun i => (i : Int)) (fun r => some (if r.all (sheetOk b.fBowlers.length) then (if dup [] b.fSheets then 6 else 0) else 1))
    (fun rec => by
      show ref07Fault_b6 N b rec _ = _
      unfold ref07Fault_b6
      simp [fault_dup hN b h2])
    (fun i x rec hx h => by
      have hlt := len_lt hx
      show ref07Fault_b6 N b rec (i : Int) = _
      unfold ref07Fault_b6
      simp only [show ((i : Int) < (b.fSheets.length : Int)) from by omega, decide_true, if_true, idx_at hx, Option.bind_some, rgames hN]
      simp only [in_eq, Option.bind_some, w64_succ (i := i) (by omega), h, List.all_cons]
      rw [w64_id (n := (b.fBowlers.length : Int) - 1) (by omega) (by omega)]
      unfold sheetOk
      by_cases q1 : inr x.fNumber 1 999 = true <;> by_cases q2 : inr x.fBowler 0 ((b.fBowlers.length : Int) - 1) = true <;> by_cases q3 : inr x.fWeek 1 30 = true <;> by_cases q4 : gamesOk x.fGames = true <;> simp [q1, q2, q3, q4]) (by omega)
  simpa using this

theorem fault_wd (b : Ref07Book) (h1 : b.fBowlers.length ≤ 8) (h2 : b.fSheets.length ≤ 40) (h3 : b.fWithdrawn.length ≤ 40) : ref07Fault_k9 N b = some (if (b.fWithdrawn.all fun n => inr n 1 999) && b.fSheets.all (sheetOk b.fBowlers.length) then (if dup [] b.fSheets then 6 else 0) else 1) := by
  unfold ref07Fault_k9
  have := loop_list0 (N := N) (B := fun rec16 x => ref07Fault_b8 N b rec16 x) b.fWithdrawn (fun i => (i : Int)) (fun r => some (if (r.all fun n => inr n 1 999) && b.fSheets.all (sheetOk b.fBowlers.length) then (if dup [] b.fSheets then 6 else 0) else 1))
    (fun rec => by
      show ref07Fault_b8 N b rec _ = _
      unfold ref07Fault_b8
      simp [fault_sheets hN b h1 h2])
    (fun i x rec hx h => by
      have hlt := len_lt hx
      show ref07Fault_b8 N b rec (i : Int) = _
      unfold ref07Fault_b8
      simp only [show ((i : Int) < (b.fWithdrawn.length : Int)) from by omega, decide_true, if_true, idx_at hx, Option.bind_some, in_eq, w64_succ (i := i) (by omega), h, List.all_cons]
      by_cases q1 : inr x 1 999 = true <;> simp [q1]) (by omega)
  simpa using this

theorem fault_eq (b : Ref07Book) : ref07Fault N b = some (flt b) := by
  unfold ref07Fault flt lims
  by_cases c1 : b.fBowlers.length ≤ 8
  · by_cases c2 : b.fSheets.length ≤ 40
    · by_cases c3 : b.fWithdrawn.length ≤ 40
      · have d1 : ¬ ((8 : Int) < (b.fBowlers.length : Int)) := by omega
        have d2 : ¬ ((40 : Int) < (b.fSheets.length : Int)) := by omega
        have d3 : ¬ ((40 : Int) < (b.fWithdrawn.length : Int)) := by omega
        simp only [d1, d2, d3, c1, c2, c3, decide_true, decide_false, Bool.and_self, Bool.false_eq_true, if_false, if_true, Option.bind_some]
        rw [isLaw_eq, rrising_eq hN b.fWithdrawn (by omega)]
        have := loop_list0 (N := N) (B := fun rec17 x => ref07Fault_b10 N b rec17 x) b.fBowlers (fun i => (i : Int)) (fun r => some (if (r.all fun n => inr n 0 300) && ((b.fWithdrawn.all fun n => inr n 1 999) && b.fSheets.all (sheetOk b.fBowlers.length)) then (if dup [] b.fSheets then 6 else 0) else 1))
          (fun rec => by
            show ref07Fault_b10 N b rec _ = _
            unfold ref07Fault_b10
            simp [fault_wd hN b c1 c2 c3])
          (fun i x rec hx h => by
            have hlt := len_lt hx
            show ref07Fault_b10 N b rec (i : Int) = _
            unfold ref07Fault_b10
            simp only [show ((i : Int) < (b.fBowlers.length : Int)) from by omega, decide_true, if_true, idx_at hx, Option.bind_some, in_eq, w64_succ (i := i) (by omega), h, List.all_cons]
            by_cases q1 : inr x 0 300 = true <;> simp [q1]) (by omega)
        have this' : loopN (fun rec17 x => ref07Fault_b10 N b rec17 x) N 0 = _ := this
        rw [this']
        simp only [Option.bind_some, argsOk]
        by_cases q1 : lawOk b.fLaw = true <;> by_cases q2 : ris b.fWithdrawn = true <;> simp [q1, q2]
      · have d1 : ¬ ((8 : Int) < (b.fBowlers.length : Int)) := by omega
        have d2 : ¬ ((40 : Int) < (b.fSheets.length : Int)) := by omega
        have d3 : ((40 : Int) < (b.fWithdrawn.length : Int)) := by omega
        simp [d1, d2, d3, c1, c2, c3]
    · have d1 : ¬ ((8 : Int) < (b.fBowlers.length : Int)) := by omega
      have d2 : ((40 : Int) < (b.fSheets.length : Int)) := by omega
      simp [d1, d2, c1, c2]
  · have d1 : ((8 : Int) < (b.fBowlers.length : Int)) := by omega
    simp [d1, c1]

theorem lfault_eq (b : Ref07Book) : law07Fault N b = some (flt b) := by unfold law07Fault; rw [fault_eq hN]; rfl
end

theorem dup_false : ∀ (l pre : List Ref07Sheet), dup pre l = false ↔ (∀ x ∈ l, ∀ y ∈ pre, x.fNumber = y.fNumber → x = y) ∧ l.Pairwise (fun y x => x.fNumber = y.fNumber → x = y)
  | [], pre => by simp [dup]
  | x :: l, pre => by
    rw [dup, Bool.or_eq_false_iff, dup_false l, List.pairwise_cons]
    simp only [List.any_eq_false, two, Bool.and_eq_true, decide_eq_true_eq, Bool.not_eq_true', decide_eq_false_iff_not, not_and, Decidable.not_not, List.mem_append, List.mem_singleton, List.mem_cons]
    constructor
    · rintro ⟨h1, h2, h3⟩
      refine ⟨?_, fun z hz e => h2 z hz x (.inr (.inl rfl)) e, h3⟩
      rintro z (rfl | hz) y hy e
      · exact h1 y hy e
      · exact h2 z hz y (.inl hy) e
    · rintro ⟨h1, h2, h3⟩
      refine ⟨fun y hy e => h1 x (.inl rfl) y hy e, ?_, h3⟩
      rintro z hz y (hy | rfl | hy) e
      · exact h1 z (.inr hz) y hy e
      · exact h2 z hz e
      · cases hy

/-- the same number: the same sheet -/
def Once (l : List Ref07Sheet) : Prop := ∀ s ∈ l, ∀ t ∈ l, s.fNumber = t.fNumber → s = t
theorem once_iff : ∀ (l : List Ref07Sheet), l.Pairwise (fun y x => x.fNumber = y.fNumber → x = y) ↔ Once l
  | [] => by simp [Once]
  | x :: l => by
    rw [List.pairwise_cons, once_iff l]
    constructor
    · rintro ⟨h1, h2⟩ s hs t ht e
      rcases List.mem_cons.1 hs with hs' | hs' <;> rcases List.mem_cons.1 ht with ht' | ht'
      · rw [hs', ht']
      · subst hs'; exact (h1 t ht' e.symm).symm
      · subst ht'; exact h1 s hs' e
      · exact h2 s hs' t ht' e
    · intro h
      exact ⟨fun y hy e => h y (by simp [hy]) x (by simp) e, fun s hs t ht e => h s (by simp [hs]) t (by simp [ht]) e⟩
theorem dup_once (l : List Ref07Sheet) : dup [] l = false ↔ Once l := by rw [dup_false, once_iff]; simp

/-- a valid book -/
structure Val (b : Ref07Book) : Prop where
  nb : b.fBowlers.length ≤ 8
  ns : b.fSheets.length ≤ 40
  nw : b.fWithdrawn.length ≤ 40
  law : lawOk b.fLaw = true
  ris : b.fWithdrawn.Pairwise (· < ·)
  bow : ∀ n ∈ b.fBowlers, 0 ≤ n ∧ n ≤ 300
  wd : ∀ n ∈ b.fWithdrawn, 1 ≤ n ∧ n ≤ 999
  sh : ∀ s ∈ b.fSheets, sheetOk b.fBowlers.length s = true
  once : Once b.fSheets
theorem flt_zero {b : Ref07Book} : flt b = 0 ↔ Val b := by
  unfold flt
  constructor
  · intro h
    split at h
    · rename_i h1
      split at h
      · rename_i h2
        split at h
        · cases h
        · rename_i h3
          simp only [lims, Bool.and_eq_true, decide_eq_true_eq] at h1
          simp only [argsOk, Bool.and_eq_true, List.all_eq_true] at h2
          exact ⟨h1.1, h1.2.1, h1.2.2, h2.1, (ris_iff _).1 h2.2.1, fun n hn => inr_iff.1 (h2.2.2.1 n hn), fun n hn => inr_iff.1 (h2.2.2.2.1 n hn), fun s hs => h2.2.2.2.2 s hs, (dup_once _).1 (by simpa using h3)⟩
      · cases h
    · cases h
  · intro v
    have h1 : lims b = true := by simp [lims, v.nb, v.ns, v.nw]
    have h2 : argsOk b = true := by
      simp only [argsOk, Bool.and_eq_true, List.all_eq_true]
      exact ⟨v.law, (ris_iff _).2 v.ris, fun n hn => inr_iff.2 (v.bow n hn), fun n hn => inr_iff.2 (v.wd n hn), fun s hs => v.sh s hs⟩
    rw [if_pos h1, if_pos h2, if_neg (by rw [(dup_once _).2 v.once]; simp)]
theorem flt_cases (b : Ref07Book) : flt b = 0 ∨ flt b = 1 ∨ flt b = 3 ∨ flt b = 6 := by
  unfold flt; split <;> (try split) <;> (try split) <;> simp
end Go.Proofs.Ytmencjafjcmbaaa
