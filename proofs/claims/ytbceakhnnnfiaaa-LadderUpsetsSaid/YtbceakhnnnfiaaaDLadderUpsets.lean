/-
  The law LadderUpsets, typed.
-/
import Derived.Test.YtbceakhnnnfiaaaDef
namespace Go.Proofs.Ytbceakhnnnfiaaa
open Go.Kp
set_option linter.all false
noncomputable section

def law09LadderUpsets_k1 (N : Nat)  (v3 : Bool) : WP (Bool) :=
  retW v3

def law09LadderUpsets_k2 (N : Nat)  (v4 : Bool) : WP (Bool) :=
  retW v4

def law09LadderUpsets_k3 (N : Nat) (c1 : Ref09Cup) (player1 : Int) (ra2 : Int) (rb2 : Int) (ra4 : List Int) (rb4 : Int) (want2 : Int) (due1 : Int) : WP (Bool) :=
  if !decide (want2 = 0) then
    if decide (rb2 = want2) then
      if decide (rb4 = want2) then
        if decide (ra2 = 0) then
          if decide ((ra4.length : Int) = 0) then
            bindO (law09Wakes N) fun r22 =>
            law09LadderUpsets_k1 N r22
          else
            law09LadderUpsets_k1 N false
        else
          law09LadderUpsets_k1 N false
      else
        law09LadderUpsets_k1 N false
    else
      law09LadderUpsets_k1 N false
  else
    if decide (rb2 = 0) then
      if decide (ra2 = due1) then
        if decide (rb4 = 0) then
          bindO (ref09IsCourse N c1 ra4) fun r26 =>
          if r26 then
            bindO (idx ra4 (w64 ((ra4.length : Int) - 1))) fun x4 =>
            if decide (x4 = player1) then
              bindO (ref09Upsets N c1 ra4) fun r27 =>
              if decide (r27 = due1) then
                bindO (law09Wakes N) fun r28 =>
                law09LadderUpsets_k2 N r28
              else
                law09LadderUpsets_k2 N false
            else
              law09LadderUpsets_k2 N false
          else
            law09LadderUpsets_k2 N false
        else
          law09LadderUpsets_k2 N false
      else
        law09LadderUpsets_k2 N false
    else
      law09LadderUpsets_k2 N false

def law09LadderUpsets_k4 (N : Nat) (c1 : Ref09Cup) (player1 : Int) (ra2 : Int) (rb2 : Int) (ra4 : List Int) (rb4 : Int) (want1 : Int) : WP (Bool) :=
  if decide (want1 = 0) then
    bindO (ref09Least N c1) fun r30 =>
    bindO (idx r30 player1) fun x6 =>
    if decide (x6 < 0) then
      law09LadderUpsets_k3 N c1 player1 ra2 rb2 ra4 rb4 9 0
    else
      law09LadderUpsets_k3 N c1 player1 ra2 rb2 ra4 rb4 want1 x6
  else
    law09LadderUpsets_k3 N c1 player1 ra2 rb2 ra4 rb4 want1 0

def law09LadderUpsets_k5 (N : Nat) (c1 : Ref09Cup) (player1 : Int) (ra2 : Int) (rb2 : Int) (ra4 : List Int) (rb4 : Int) (r14 : Int) (v5 : Bool) : WP (Bool) :=
  if v5 then
    law09LadderUpsets_k4 N c1 player1 ra2 rb2 ra4 rb4 2
  else
    law09LadderUpsets_k4 N c1 player1 ra2 rb2 ra4 rb4 r14

def law09LadderUpsets (N : Nat) (c1 : Ref09Cup) (player1 : Int) : WP (Bool) :=
  bindO (law09Few N c1) fun r6 =>
  if !r6 then
    bindO (law09Wakes N) fun r8 =>
    retW r8
  else
    bindO (law09Cup N c1) fun r10 =>
    bindO (ladderUpsets N r10 player1) fun (ra2, rb2) =>
    bindO (law09Cup N c1) fun r12 =>
    bindW (ladderWay N r12 player1) fun (ra4, rb4) =>
    bindO (law09Fault N c1) fun r14 =>
    if decide (r14 = 0) then
      bindO (ref09In N player1 0 (w64 (c1.fPlayers - 1))) fun r32 =>
      law09LadderUpsets_k5 N c1 player1 ra2 rb2 ra4 rb4 r14 (!r32)
    else
      law09LadderUpsets_k5 N c1 player1 ra2 rb2 ra4 rb4 r14 false
end
end Go.Proofs.Ytbceakhnnnfiaaa
