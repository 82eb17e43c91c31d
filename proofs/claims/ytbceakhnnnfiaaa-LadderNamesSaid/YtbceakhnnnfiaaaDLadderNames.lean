/-
  The law LadderNames, typed.
-/
import Derived.Test.YtbceakhnnnfiaaaDef
namespace Go.Proofs.Ytbceakhnnnfiaaa
open Go.Kp
set_option linter.all false
noncomputable section

def law09LadderNames_k1 (N : Nat)  (v3 : Bool) : WP (Bool) :=
  retW v3

def law09LadderNames_k2 (N : Nat) (r24 : LadderCup) (v2 : Bool) : WP (Bool) :=
  if v2 then
    retW false
  else
    bindO (app N ([]) r24.fResults) fun l2 =>
    bindO (idx l2 0) fun x14 =>
    bindO (law09Five N ([])) fun r35 =>
    bindO (ladderWinnerX N r35) fun (ra12, rb12) =>
    bindO (ladderWinnerX N ((LadderCup.mk r24.fForm r24.fPlayers r24.fGames (List.set l2 (Int.toNat 0) (LadderResult.mk x14.fMatch x14.fGames true))))) fun (ra14, rb14) =>
    bindO (ladderUpsets N r24 5) fun (ra16, rb16) =>
    bindW (ladderWay N r24 1) fun (ra18, rb18) =>
    bindO (law09Five N ([])) fun r42 =>
    bindO (law09Result N 0 false ([])) fun r43 =>
    bindO (law09Five N ([r43])) fun r44 =>
    bindO (law09Result N 0 false ([4])) fun r45 =>
    bindO (law09Result N 0 false ([4])) fun r46 =>
    bindO (law09Five N ([r45, r46])) fun r47 =>
    bindO (mkl N 16 ((LadderResult.mk 0 ([]) false))) fun l4 =>
    bindO (ladderTree N ((LadderCup.mk 0 5 2 ([])))) fun (ra20, rb20) =>
    if decide (rb12 = 7) then
      if decide (rb14 = 8) then
        if decide (rb16 = 2) then
          if decide (rb18 = 9) then
            if decide (rb20 = 1) then
              bindO (ladderCheckCup N (LadderCup.mk r42.fForm r42.fPlayers r42.fGames l4)) fun r64 =>
              if decide (r64 = 3) then
                bindO (ladderCheckCup N r44) fun r65 =>
                if decide (r65 = 1) then
                  bindO (ladderCheckCup N r47) fun r66 =>
                  if decide (r66 = 6) then
                    bindO (law09Result N 1 false ([0])) fun r67 =>
                    bindO (law09Five N ([r67])) fun r68 =>
                    bindO (ladderCheckCup N r68) fun r69 =>
                    if decide (r69 = 10) then
                      bindO (law09Result N 0 false ([4, 4, 3])) fun r70 =>
                      bindO (law09Five N ([r70])) fun r71 =>
                      bindO (ladderCheckCup N r71) fun r72 =>
                      if decide (r72 = 10) then
                        bindO (law09Result N 0 false ([2])) fun r73 =>
                        bindO (law09Five N ([r73])) fun r74 =>
                        bindO (ladderCheckCup N r74) fun r75 =>
                        if decide (r75 = 10) then
                          bindO (law09Result N 4 false ([2])) fun r76 =>
                          bindO (law09Five N ([r76])) fun r77 =>
                          bindO (ladderCheckCup N r77) fun r78 =>
                          if decide (r78 = 1) then
                            bindO (law09Wakes N) fun r79 =>
                            law09LadderNames_k1 N r79
                          else
                            law09LadderNames_k1 N false
                        else
                          law09LadderNames_k1 N false
                      else
                        law09LadderNames_k1 N false
                    else
                      law09LadderNames_k1 N false
                  else
                    law09LadderNames_k1 N false
                else
                  law09LadderNames_k1 N false
              else
                law09LadderNames_k1 N false
            else
              law09LadderNames_k1 N false
          else
            law09LadderNames_k1 N false
        else
          law09LadderNames_k1 N false
      else
        law09LadderNames_k1 N false
    else
      law09LadderNames_k1 N false

def law09LadderNames (N : Nat)  : WP (Bool) :=
  bindO (law09Five N ([])) fun r2 =>
  bindO (ladderTree N r2) fun (ra2, rb2) =>
  bindO (ladderTree N ((LadderCup.mk 1 3 1 ([])))) fun (ra4, rb4) =>
  bindO (law09Result N 0 false ([4, 3, 4])) fun r6 =>
  bindO (law09Result N 2 false ([1])) fun r7 =>
  bindO (law09Five N ([r6, r7])) fun r8 =>
  bindO (ladderUpsets N r8 2) fun (ra6, rb6) =>
  bindO (law09Result N 0 true ([4, 3, 4])) fun r12 =>
  bindO (law09Result N 1 false ([4, 4])) fun r13 =>
  bindO (law09Five N ([r12, r13])) fun r14 =>
  bindO (ladderMayWin N r14) fun (ra8, rb8) =>
  bindO (law09Result N 0 false ([4, 4])) fun r20 =>
  bindO (law09Result N 1 false ([0, 0])) fun r21 =>
  bindO (law09Result N 2 false ([2, 1, 2])) fun r22 =>
  bindO (law09Result N 3 false ([2, 2])) fun r23 =>
  bindO (law09Five N ([r20, r21, r22, r23])) fun r24 =>
  bindO (ladderWinnerX N r24) fun (ra10, rb10) =>
  if !decide (rb2 = 0) then
    law09LadderNames_k2 N r24 true
  else
    if !decide ((ra2.length : Int) = 4) then
      law09LadderNames_k2 N r24 true
    else
      bindO (idx ra2 0) fun x15 =>
      if !decide (x15 = ((LadderPair.mk (LadderSide.mk 3 (-1)) (LadderSide.mk 4 (-1))))) then
        law09LadderNames_k2 N r24 true
      else
        bindO (idx ra2 1) fun x16 =>
        if !decide (x16 = ((LadderPair.mk (LadderSide.mk 0 (-1)) (LadderSide.mk (-1) 0)))) then
          law09LadderNames_k2 N r24 true
        else
          bindO (idx ra2 3) fun x17 =>
          if !decide (x17 = ((LadderPair.mk (LadderSide.mk (-1) 1) (LadderSide.mk (-1) 2)))) then
            law09LadderNames_k2 N r24 true
          else
            if !decide (rb4 = 0) then
              law09LadderNames_k2 N r24 true
            else
              if !decide ((ra4.length : Int) = 2) then
                law09LadderNames_k2 N r24 true
              else
                bindO (idx ra4 1) fun x18 =>
                if !decide (x18 = ((LadderPair.mk (LadderSide.mk 0 (-1)) (LadderSide.mk (-1) 0)))) then
                  law09LadderNames_k2 N r24 true
                else
                  if !decide (rb6 = 0) then
                    law09LadderNames_k2 N r24 true
                  else
                    if !decide (ra6 = 2) then
                      law09LadderNames_k2 N r24 true
                    else
                      if !decide (rb8 = 0) then
                        law09LadderNames_k2 N r24 true
                      else
                        bindO (law09Ints N ra8 ([0, 1, 2, 3, 4])) fun r80 =>
                        if !r80 then
                          law09LadderNames_k2 N r24 true
                        else
                          if !decide (rb10 = 0) then
                            law09LadderNames_k2 N r24 true
                          else
                            if !decide (ra10 = 2) then
                              law09LadderNames_k2 N r24 true
                            else
                              bindO (ladderProveWay N r24 ([4, 0, 2, 2]) 0) fun r81 =>
                              if !r81 then
                                law09LadderNames_k2 N r24 true
                              else
                                bindO (ladderProveWay N r24 ([4, 4, 2, 2]) 9) fun r82 =>
                                law09LadderNames_k2 N r24 r82
end
end Go.Proofs.Ytbceakhnnnfiaaa
