/-
  The law LadderLast, typed.
-/
import Derived.Test.YtbceakhnnnfiaaaDef
namespace Go.Proofs.Ytbceakhnnnfiaaa
open Go.Kp
set_option linter.all false
noncomputable section
def law09LadderLast_k1 (N : Nat)   : WP (Bool) :=
  bindO (law09Wakes N) fun r131 =>
  retW r131
def law09LadderLast_b2 (N : Nat) (c1 : Ref09Cup) (l70 : List Ref09Result) (ra8 : List Int) (rec5 : (Int) → WP (Bool)) (k12 : Int) : WP (Bool) :=
  if decide (k12 < (ra8.length : Int)) then
    bindO (idx ra8 k12) fun x245 =>
    bindO (ref09WonX N c1.fForm c1.fPlayers c1.fGames k12 l70) fun r143 =>
    if !decide (x245 = r143) then
      retW false
    else
      rec5 (w64 (k12 + 1))
  else
    law09LadderLast_k1 N
def law09LadderLast_k3 (N : Nat) (c1 : Ref09Cup) (l70 : List Ref09Result) (ra8 : List Int) (v42 : Bool) : WP (Bool) :=
  if v42 then
    retW false
  else
    loopW (fun rec5 x => law09LadderLast_b2 N c1 l70 ra8 rec5 x) N 0
def law09LadderLast_k4 (N : Nat) (c1 : Ref09Cup) (l70 : List Ref09Result) (ra2 : Int) (v40 : Bool) : WP (Bool) :=
  if v40 then
    retW false
  else
    bindO (law09CupX N c1.fForm c1.fPlayers c1.fGames l70) fun r115 =>
    bindO (ladderUpsets N r115 ra2) fun (ra6, rb6) =>
    bindO (law09CupX N c1.fForm c1.fPlayers c1.fGames l70) fun r117 =>
    bindW (ladderWay N r117 ra2) fun (ra8, rb8) =>
    if !decide (rb6 = 0) then
      law09LadderLast_k3 N c1 l70 ra8 true
    else
      if !decide (ra6 = 0) then
        law09LadderLast_k3 N c1 l70 ra8 true
      else
        if !decide (rb8 = 0) then
          law09LadderLast_k3 N c1 l70 ra8 true
        else
          law09LadderLast_k3 N c1 l70 ra8 (!decide ((ra8.length : Int) = (w64 (c1.fPlayers - 1))))
def law09LadderLast_k5 (N : Nat) (c1 : Ref09Cup) (l70 : List Ref09Result) : WP (Bool) :=
  bindO (law09CupX N c1.fForm c1.fPlayers c1.fGames l70) fun r105 =>
  bindO (ladderWinnerX N r105) fun (ra2, rb2) =>
  bindO (law09CupX N c1.fForm c1.fPlayers c1.fGames l70) fun r107 =>
  bindO (ladderMayWin N r107) fun (ra4, rb4) =>
  if !decide (rb2 = 0) then
    law09LadderLast_k4 N c1 l70 ra2 true
  else
    if !decide (rb4 = 0) then
      law09LadderLast_k4 N c1 l70 ra2 true
    else
      bindO (law09Ints N ra4 ([ra2])) fun r144 =>
      if !r144 then
        law09LadderLast_k4 N c1 l70 ra2 true
      else
        bindO (ref09WonX N c1.fForm c1.fPlayers c1.fGames (w64 (c1.fPlayers - 2)) l70) fun r145 =>
        law09LadderLast_k4 N c1 l70 ra2 (!decide (ra2 = r145))
def law09LadderLast_k6 (N : Nat) (k16 : Int) (rec6 : (Int × (List Ref09Result)) → WP (Bool)) (l87 : List Ref09Result) : WP (Bool) :=
  rec6 ((w64 (k16 + 1), l87))
def law09LadderLast_k7 (N : Nat) (c1 : Ref09Cup) (k16 : Int) (l84 : List Ref09Result) (rec6 : (Int × (List Ref09Result)) → WP (Bool)) (r172 : List Ref09Match) (p25 : Int) : WP (Bool) :=
  bindO (idx r172 0) fun x307 =>
  bindO (ref09FindX N c1.fForm c1.fPlayers c1.fGames x307.fNumber l84) fun r174 =>
  if decide (0 ≤ r174) then
    bindO (idx l84 r174) fun x308 =>
    bindO (law09List N x308.fGames) fun r175 =>
    bindO (app N r175 ([p25])) fun l88 =>
    law09LadderLast_k6 N k16 rec6 ((List.set l84 (Int.toNat r174) (Ref09Result.mk x308.fMatch l88 x308.fProtested)))
  else
    bindO (app N l84 ([(Ref09Result.mk x307.fNumber ([p25]) false)])) fun l89 =>
    law09LadderLast_k6 N k16 rec6 l89
def law09LadderLast_k8 (N : Nat) (c1 : Ref09Cup) (k16 : Int) (l84 : List Ref09Result) (rec6 : (Int × (List Ref09Result)) → WP (Bool)) (r172 : List Ref09Match) (x302 : Ref09Match) (v54 : Bool) : WP (Bool) :=
  if v54 then
    bindO (idx r172 0) fun x310 =>
    law09LadderLast_k7 N c1 k16 l84 rec6 r172 x310.fSecond
  else
    law09LadderLast_k7 N c1 k16 l84 rec6 r172 x302.fFirst
def law09LadderLast_b9 (N : Nat) (c1 : Ref09Cup) (words1 : List Int) (rec6 : (Int × (List Ref09Result)) → WP (Bool)) (k16 : Int) (l84 : List Ref09Result) : WP (Bool) :=
  if decide (k16 < 99) then
    bindO (ref09NextX N c1.fForm c1.fPlayers c1.fGames l84) fun r172 =>
    if decide ((r172.length : Int) = 0) then
      law09LadderLast_k5 N c1 l84
    else
      bindO (idx r172 0) fun x302 =>
      if decide (0 < (words1.length : Int)) then
        bindO (nz (words1.length : Int)) fun _ =>
        bindO (idx words1 (Int.tmod k16 (words1.length : Int))) fun x311 =>
        law09LadderLast_k8 N c1 k16 l84 rec6 r172 x302 (decide ((Int.tmod x311 2) = 1))
      else
        law09LadderLast_k8 N c1 k16 l84 rec6 r172 x302 false
  else
    law09LadderLast_k5 N c1 l84
def law09LadderLast_k10 (N : Nat) (c1 : Ref09Cup) (words1 : List Int) (l11 : List Ref09Result) : WP (Bool) :=
  loopW (fun rec6 x => law09LadderLast_b9 N c1 words1 rec6 x.1 x.2) N (0, l11)
def law09LadderLast_b11 (N : Nat) (c1 : Ref09Cup) (words1 : List Int) (rec7 : (Int × (List Ref09Result)) → WP (Bool)) (i8 : Int) (l97 : List Ref09Result) : WP (Bool) :=
  if decide (i8 < (c1.fResults.length : Int)) then
    bindO (idx c1.fResults i8) fun x323 =>
    bindO (app N l97 ([(Ref09Result.mk x323.fMatch x323.fGames false)])) fun l99 =>
    rec7 ((w64 (i8 + 1), l99))
  else
    law09LadderLast_k10 N c1 words1 l97
def law09LadderLast (N : Nat) (c1 : Ref09Cup) (words1 : List Int) : WP (Bool) :=
  bindO (law09Ready N c1) fun r6 =>
  if !r6 then
    bindO (law09Wakes N) fun r8 =>
    retW r8
  else
    loopW (fun rec7 x => law09LadderLast_b11 N c1 words1 rec7 x.1 x.2) N (0, [])
end
end Go.Proofs.Ytbceakhnnnfiaaa
