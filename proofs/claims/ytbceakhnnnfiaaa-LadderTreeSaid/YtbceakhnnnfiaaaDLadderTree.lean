/-
  The law LadderTree, typed.
-/
import Derived.Test.YtbceakhnnnfiaaaDef
namespace Go.Proofs.Ytbceakhnnnfiaaa
open Go.Kp
set_option linter.all false
noncomputable section

def law09LadderTree_k1 (N : Nat) (c1 : Ref09Cup) (ra2 : List LadderPair) (meet5 : Int) (l17 : List Int)  : Option (Bool) :=
  Option.bind (idx ra2 (w64 ((ra2.length : Int) - 1))) fun x62 =>
  Option.bind (
    Option.bind (idx l17 (w64 ((l17.length : Int) - 1))) fun x64 =>
    if decide (x64 = 0) then
      if decide (meet5 = 1) then
        if !decide (c1.fForm = 1) then
          Option.bind (law09Wakes N) fun r14 =>
          some r14
        else
          if decide (x62.fFirst = ((LadderSide.mk 0 (-1)))) then
            Option.bind (law09Wakes N) fun r13 =>
            some r13
          else
            some false
      else
        some false
    else
      some false
  ) fun v105 =>
  some v105

def law09LadderTree_b2 (N : Nat) (c1 : Ref09Cup) (ra2 : List LadderPair) (meet5 : Int) (players77 : Ar16 Int) (matches77 : Ar16 Int) (l17 : List Int) (rec4 : (Int) → Option (Bool)) (k8 : Int) : Option (Bool) :=
  if decide (k8 < c1.fPlayers) then
    Option.bind (
      if decide (k8 = 0) then
        if !decide (players77.a0 = 1) then
          some true
        else
          if decide (k8 < (w64 (c1.fPlayers - 2))) then
            some (!decide (matches77.a0 = 1))
          else
            some false
      else
        if decide (k8 = 1) then
          if !decide (players77.a1 = 1) then
            some true
          else
            if decide (k8 < (w64 (c1.fPlayers - 2))) then
              some (!decide (matches77.a1 = 1))
            else
              some false
        else
          if decide (k8 = 2) then
            if !decide (players77.a2 = 1) then
              some true
            else
              if decide (k8 < (w64 (c1.fPlayers - 2))) then
                some (!decide (matches77.a2 = 1))
              else
                some false
          else
            if decide (k8 = 3) then
              if !decide (players77.a3 = 1) then
                some true
              else
                if decide (k8 < (w64 (c1.fPlayers - 2))) then
                  some (!decide (matches77.a3 = 1))
                else
                  some false
            else
              if decide (k8 = 4) then
                if !decide (players77.a4 = 1) then
                  some true
                else
                  if decide (k8 < (w64 (c1.fPlayers - 2))) then
                    some (!decide (matches77.a4 = 1))
                  else
                    some false
              else
                if decide (k8 = 5) then
                  if !decide (players77.a5 = 1) then
                    some true
                  else
                    if decide (k8 < (w64 (c1.fPlayers - 2))) then
                      some (!decide (matches77.a5 = 1))
                    else
                      some false
                else
                  if decide (k8 = 6) then
                    if !decide (players77.a6 = 1) then
                      some true
                    else
                      if decide (k8 < (w64 (c1.fPlayers - 2))) then
                        some (!decide (matches77.a6 = 1))
                      else
                        some false
                  else
                    if decide (k8 = 7) then
                      if !decide (players77.a7 = 1) then
                        some true
                      else
                        if decide (k8 < (w64 (c1.fPlayers - 2))) then
                          some (!decide (matches77.a7 = 1))
                        else
                          some false
                    else
                      if decide (k8 = 8) then
                        if !decide (players77.a8 = 1) then
                          some true
                        else
                          if decide (k8 < (w64 (c1.fPlayers - 2))) then
                            some (!decide (matches77.a8 = 1))
                          else
                            some false
                      else
                        if decide (k8 = 9) then
                          if !decide (players77.a9 = 1) then
                            some true
                          else
                            if decide (k8 < (w64 (c1.fPlayers - 2))) then
                              some (!decide (matches77.a9 = 1))
                            else
                              some false
                        else
                          if decide (k8 = 10) then
                            if !decide (players77.a10 = 1) then
                              some true
                            else
                              if decide (k8 < (w64 (c1.fPlayers - 2))) then
                                some (!decide (matches77.a10 = 1))
                              else
                                some false
                          else
                            if decide (k8 = 11) then
                              if !decide (players77.a11 = 1) then
                                some true
                              else
                                if decide (k8 < (w64 (c1.fPlayers - 2))) then
                                  some (!decide (matches77.a11 = 1))
                                else
                                  some false
                            else
                              if decide (k8 = 12) then
                                if !decide (players77.a12 = 1) then
                                  some true
                                else
                                  if decide (k8 < (w64 (c1.fPlayers - 2))) then
                                    some (!decide (matches77.a12 = 1))
                                  else
                                    some false
                              else
                                if decide (k8 = 13) then
                                  if !decide (players77.a13 = 1) then
                                    some true
                                  else
                                    if decide (k8 < (w64 (c1.fPlayers - 2))) then
                                      some (!decide (matches77.a13 = 1))
                                    else
                                      some false
                                else
                                  if decide (k8 = 14) then
                                    if !decide (players77.a14 = 1) then
                                      some true
                                    else
                                      if decide (k8 < (w64 (c1.fPlayers - 2))) then
                                        some (!decide (matches77.a14 = 1))
                                      else
                                        some false
                                  else
                                    if decide (k8 = 15) then
                                      if !decide (players77.a15 = 1) then
                                        some true
                                      else
                                        if decide (k8 < (w64 (c1.fPlayers - 2))) then
                                          some (!decide (matches77.a15 = 1))
                                        else
                                          some false
                                    else
                                      none
    ) fun v111 =>
    if v111 then
      some false
    else
      rec4 (w64 (k8 + 1))
  else
    law09LadderTree_k1 N c1 ra2 meet5 l17

def law09LadderTree_k3 (N : Nat) (c1 : Ref09Cup) (ra2 : List LadderPair) (meet5 : Int) (players77 : Ar16 Int) (matches77 : Ar16 Int) (l17 : List Int) : Option (Bool) :=
  loopN (fun rec4 x => law09LadderTree_b2 N c1 ra2 meet5 players77 matches77 l17 rec4 x) N 0

def law09LadderTree_k4 (N : Nat) (n11 : Int) (l29 : List Int) (rec5 : (Int × Int × (Ar16 Int) × (Ar16 Int) × (List Int)) → Option (Bool)) (players151 : Ar16 Int) (matches151 : Ar16 Int) (p48 : Ar2 Int) : Option (Bool) :=
  Option.bind (app N l29 ([min p48.a0 p48.a1])) fun l33 =>
  rec5 ((max p48.a0 p48.a1, w64 (n11 + 1), players151, matches151, l33))

def law09LadderTree_k5 (N : Nat) (c1 : Ref09Cup) (n11 : Int) (l29 : List Int) (rec5 : (Int × Int × (Ar16 Int) × (Ar16 Int) × (List Int)) → Option (Bool)) (both12 : Ar2 LadderSide) (players149 : Ar16 Int) (matches149 : Ar16 Int) (p47 : Ar2 Int) : Option (Bool) :=
  Option.bind (
    if decide (both12.a1.fMatch = (-1)) then
      if decide (0 ≤ both12.a1.fPlayer) then
        some (decide (both12.a1.fPlayer < c1.fPlayers))
      else
        some false
    else
      some false
  ) fun v204 =>
  if v204 then
    Option.bind (
      if decide (both12.a1.fPlayer = 0) then
        some ((Ar16.mk (w64 (players149.a0 + 1)) players149.a1 players149.a2 players149.a3 players149.a4 players149.a5 players149.a6 players149.a7 players149.a8 players149.a9 players149.a10 players149.a11 players149.a12 players149.a13 players149.a14 players149.a15))
      else
        if decide (both12.a1.fPlayer = 1) then
          some ((Ar16.mk players149.a0 (w64 (players149.a1 + 1)) players149.a2 players149.a3 players149.a4 players149.a5 players149.a6 players149.a7 players149.a8 players149.a9 players149.a10 players149.a11 players149.a12 players149.a13 players149.a14 players149.a15))
        else
          if decide (both12.a1.fPlayer = 2) then
            some ((Ar16.mk players149.a0 players149.a1 (w64 (players149.a2 + 1)) players149.a3 players149.a4 players149.a5 players149.a6 players149.a7 players149.a8 players149.a9 players149.a10 players149.a11 players149.a12 players149.a13 players149.a14 players149.a15))
          else
            if decide (both12.a1.fPlayer = 3) then
              some ((Ar16.mk players149.a0 players149.a1 players149.a2 (w64 (players149.a3 + 1)) players149.a4 players149.a5 players149.a6 players149.a7 players149.a8 players149.a9 players149.a10 players149.a11 players149.a12 players149.a13 players149.a14 players149.a15))
            else
              if decide (both12.a1.fPlayer = 4) then
                some ((Ar16.mk players149.a0 players149.a1 players149.a2 players149.a3 (w64 (players149.a4 + 1)) players149.a5 players149.a6 players149.a7 players149.a8 players149.a9 players149.a10 players149.a11 players149.a12 players149.a13 players149.a14 players149.a15))
              else
                if decide (both12.a1.fPlayer = 5) then
                  some ((Ar16.mk players149.a0 players149.a1 players149.a2 players149.a3 players149.a4 (w64 (players149.a5 + 1)) players149.a6 players149.a7 players149.a8 players149.a9 players149.a10 players149.a11 players149.a12 players149.a13 players149.a14 players149.a15))
                else
                  if decide (both12.a1.fPlayer = 6) then
                    some ((Ar16.mk players149.a0 players149.a1 players149.a2 players149.a3 players149.a4 players149.a5 (w64 (players149.a6 + 1)) players149.a7 players149.a8 players149.a9 players149.a10 players149.a11 players149.a12 players149.a13 players149.a14 players149.a15))
                  else
                    if decide (both12.a1.fPlayer = 7) then
                      some ((Ar16.mk players149.a0 players149.a1 players149.a2 players149.a3 players149.a4 players149.a5 players149.a6 (w64 (players149.a7 + 1)) players149.a8 players149.a9 players149.a10 players149.a11 players149.a12 players149.a13 players149.a14 players149.a15))
                    else
                      if decide (both12.a1.fPlayer = 8) then
                        some ((Ar16.mk players149.a0 players149.a1 players149.a2 players149.a3 players149.a4 players149.a5 players149.a6 players149.a7 (w64 (players149.a8 + 1)) players149.a9 players149.a10 players149.a11 players149.a12 players149.a13 players149.a14 players149.a15))
                      else
                        if decide (both12.a1.fPlayer = 9) then
                          some ((Ar16.mk players149.a0 players149.a1 players149.a2 players149.a3 players149.a4 players149.a5 players149.a6 players149.a7 players149.a8 (w64 (players149.a9 + 1)) players149.a10 players149.a11 players149.a12 players149.a13 players149.a14 players149.a15))
                        else
                          if decide (both12.a1.fPlayer = 10) then
                            some ((Ar16.mk players149.a0 players149.a1 players149.a2 players149.a3 players149.a4 players149.a5 players149.a6 players149.a7 players149.a8 players149.a9 (w64 (players149.a10 + 1)) players149.a11 players149.a12 players149.a13 players149.a14 players149.a15))
                          else
                            if decide (both12.a1.fPlayer = 11) then
                              some ((Ar16.mk players149.a0 players149.a1 players149.a2 players149.a3 players149.a4 players149.a5 players149.a6 players149.a7 players149.a8 players149.a9 players149.a10 (w64 (players149.a11 + 1)) players149.a12 players149.a13 players149.a14 players149.a15))
                            else
                              if decide (both12.a1.fPlayer = 12) then
                                some ((Ar16.mk players149.a0 players149.a1 players149.a2 players149.a3 players149.a4 players149.a5 players149.a6 players149.a7 players149.a8 players149.a9 players149.a10 players149.a11 (w64 (players149.a12 + 1)) players149.a13 players149.a14 players149.a15))
                              else
                                if decide (both12.a1.fPlayer = 13) then
                                  some ((Ar16.mk players149.a0 players149.a1 players149.a2 players149.a3 players149.a4 players149.a5 players149.a6 players149.a7 players149.a8 players149.a9 players149.a10 players149.a11 players149.a12 (w64 (players149.a13 + 1)) players149.a14 players149.a15))
                                else
                                  if decide (both12.a1.fPlayer = 14) then
                                    some ((Ar16.mk players149.a0 players149.a1 players149.a2 players149.a3 players149.a4 players149.a5 players149.a6 players149.a7 players149.a8 players149.a9 players149.a10 players149.a11 players149.a12 players149.a13 (w64 (players149.a14 + 1)) players149.a15))
                                  else
                                    if decide (both12.a1.fPlayer = 15) then
                                      some ((Ar16.mk players149.a0 players149.a1 players149.a2 players149.a3 players149.a4 players149.a5 players149.a6 players149.a7 players149.a8 players149.a9 players149.a10 players149.a11 players149.a12 players149.a13 players149.a14 (w64 (players149.a15 + 1))))
                                    else
                                      none
    ) fun players152 =>
    law09LadderTree_k4 N n11 l29 rec5 players152 matches149 (Ar2.mk p47.a0 both12.a1.fPlayer)
  else
    Option.bind (
      if decide (both12.a1.fPlayer = (-1)) then
        if decide (0 ≤ both12.a1.fMatch) then
          some (decide (both12.a1.fMatch < n11))
        else
          some false
      else
        some false
    ) fun v205 =>
    if v205 then
      Option.bind (
        if decide (both12.a1.fMatch = 0) then
          some ((Ar16.mk (w64 (matches149.a0 + 1)) matches149.a1 matches149.a2 matches149.a3 matches149.a4 matches149.a5 matches149.a6 matches149.a7 matches149.a8 matches149.a9 matches149.a10 matches149.a11 matches149.a12 matches149.a13 matches149.a14 matches149.a15))
        else
          if decide (both12.a1.fMatch = 1) then
            some ((Ar16.mk matches149.a0 (w64 (matches149.a1 + 1)) matches149.a2 matches149.a3 matches149.a4 matches149.a5 matches149.a6 matches149.a7 matches149.a8 matches149.a9 matches149.a10 matches149.a11 matches149.a12 matches149.a13 matches149.a14 matches149.a15))
          else
            if decide (both12.a1.fMatch = 2) then
              some ((Ar16.mk matches149.a0 matches149.a1 (w64 (matches149.a2 + 1)) matches149.a3 matches149.a4 matches149.a5 matches149.a6 matches149.a7 matches149.a8 matches149.a9 matches149.a10 matches149.a11 matches149.a12 matches149.a13 matches149.a14 matches149.a15))
            else
              if decide (both12.a1.fMatch = 3) then
                some ((Ar16.mk matches149.a0 matches149.a1 matches149.a2 (w64 (matches149.a3 + 1)) matches149.a4 matches149.a5 matches149.a6 matches149.a7 matches149.a8 matches149.a9 matches149.a10 matches149.a11 matches149.a12 matches149.a13 matches149.a14 matches149.a15))
              else
                if decide (both12.a1.fMatch = 4) then
                  some ((Ar16.mk matches149.a0 matches149.a1 matches149.a2 matches149.a3 (w64 (matches149.a4 + 1)) matches149.a5 matches149.a6 matches149.a7 matches149.a8 matches149.a9 matches149.a10 matches149.a11 matches149.a12 matches149.a13 matches149.a14 matches149.a15))
                else
                  if decide (both12.a1.fMatch = 5) then
                    some ((Ar16.mk matches149.a0 matches149.a1 matches149.a2 matches149.a3 matches149.a4 (w64 (matches149.a5 + 1)) matches149.a6 matches149.a7 matches149.a8 matches149.a9 matches149.a10 matches149.a11 matches149.a12 matches149.a13 matches149.a14 matches149.a15))
                  else
                    if decide (both12.a1.fMatch = 6) then
                      some ((Ar16.mk matches149.a0 matches149.a1 matches149.a2 matches149.a3 matches149.a4 matches149.a5 (w64 (matches149.a6 + 1)) matches149.a7 matches149.a8 matches149.a9 matches149.a10 matches149.a11 matches149.a12 matches149.a13 matches149.a14 matches149.a15))
                    else
                      if decide (both12.a1.fMatch = 7) then
                        some ((Ar16.mk matches149.a0 matches149.a1 matches149.a2 matches149.a3 matches149.a4 matches149.a5 matches149.a6 (w64 (matches149.a7 + 1)) matches149.a8 matches149.a9 matches149.a10 matches149.a11 matches149.a12 matches149.a13 matches149.a14 matches149.a15))
                      else
                        if decide (both12.a1.fMatch = 8) then
                          some ((Ar16.mk matches149.a0 matches149.a1 matches149.a2 matches149.a3 matches149.a4 matches149.a5 matches149.a6 matches149.a7 (w64 (matches149.a8 + 1)) matches149.a9 matches149.a10 matches149.a11 matches149.a12 matches149.a13 matches149.a14 matches149.a15))
                        else
                          if decide (both12.a1.fMatch = 9) then
                            some ((Ar16.mk matches149.a0 matches149.a1 matches149.a2 matches149.a3 matches149.a4 matches149.a5 matches149.a6 matches149.a7 matches149.a8 (w64 (matches149.a9 + 1)) matches149.a10 matches149.a11 matches149.a12 matches149.a13 matches149.a14 matches149.a15))
                          else
                            if decide (both12.a1.fMatch = 10) then
                              some ((Ar16.mk matches149.a0 matches149.a1 matches149.a2 matches149.a3 matches149.a4 matches149.a5 matches149.a6 matches149.a7 matches149.a8 matches149.a9 (w64 (matches149.a10 + 1)) matches149.a11 matches149.a12 matches149.a13 matches149.a14 matches149.a15))
                            else
                              if decide (both12.a1.fMatch = 11) then
                                some ((Ar16.mk matches149.a0 matches149.a1 matches149.a2 matches149.a3 matches149.a4 matches149.a5 matches149.a6 matches149.a7 matches149.a8 matches149.a9 matches149.a10 (w64 (matches149.a11 + 1)) matches149.a12 matches149.a13 matches149.a14 matches149.a15))
                              else
                                if decide (both12.a1.fMatch = 12) then
                                  some ((Ar16.mk matches149.a0 matches149.a1 matches149.a2 matches149.a3 matches149.a4 matches149.a5 matches149.a6 matches149.a7 matches149.a8 matches149.a9 matches149.a10 matches149.a11 (w64 (matches149.a12 + 1)) matches149.a13 matches149.a14 matches149.a15))
                                else
                                  if decide (both12.a1.fMatch = 13) then
                                    some ((Ar16.mk matches149.a0 matches149.a1 matches149.a2 matches149.a3 matches149.a4 matches149.a5 matches149.a6 matches149.a7 matches149.a8 matches149.a9 matches149.a10 matches149.a11 matches149.a12 (w64 (matches149.a13 + 1)) matches149.a14 matches149.a15))
                                  else
                                    if decide (both12.a1.fMatch = 14) then
                                      some ((Ar16.mk matches149.a0 matches149.a1 matches149.a2 matches149.a3 matches149.a4 matches149.a5 matches149.a6 matches149.a7 matches149.a8 matches149.a9 matches149.a10 matches149.a11 matches149.a12 matches149.a13 (w64 (matches149.a14 + 1)) matches149.a15))
                                    else
                                      if decide (both12.a1.fMatch = 15) then
                                        some ((Ar16.mk matches149.a0 matches149.a1 matches149.a2 matches149.a3 matches149.a4 matches149.a5 matches149.a6 matches149.a7 matches149.a8 matches149.a9 matches149.a10 matches149.a11 matches149.a12 matches149.a13 matches149.a14 (w64 (matches149.a15 + 1))))
                                      else
                                        none
      ) fun matches152 =>
      Option.bind (idx l29 both12.a1.fMatch) fun x123 =>
      law09LadderTree_k4 N n11 l29 rec5 players149 matches152 (Ar2.mk p47.a0 x123)
    else
      some false

def law09LadderTree_b6 (N : Nat) (c1 : Ref09Cup) (ra2 : List LadderPair) (rec5 : (Int × Int × (Ar16 Int) × (Ar16 Int) × (List Int)) → Option (Bool)) (meet9 : Int) (n11 : Int) (players129 : Ar16 Int) (matches129 : Ar16 Int) (l29 : List Int) : Option (Bool) :=
  if decide (n11 < (ra2.length : Int)) then
    Option.bind (
      Option.bind (idx ra2 n11) fun x116 =>
      some (Ar2.mk x116.fFirst x116.fSecond)
    ) fun both12 =>
    Option.bind (
      if decide (both12.a0.fMatch = (-1)) then
        if decide (0 ≤ both12.a0.fPlayer) then
          some (decide (both12.a0.fPlayer < c1.fPlayers))
        else
          some false
      else
        some false
    ) fun v206 =>
    if v206 then
      Option.bind (
        if decide (both12.a0.fPlayer = 0) then
          some ((Ar16.mk (w64 (players129.a0 + 1)) players129.a1 players129.a2 players129.a3 players129.a4 players129.a5 players129.a6 players129.a7 players129.a8 players129.a9 players129.a10 players129.a11 players129.a12 players129.a13 players129.a14 players129.a15))
        else
          if decide (both12.a0.fPlayer = 1) then
            some ((Ar16.mk players129.a0 (w64 (players129.a1 + 1)) players129.a2 players129.a3 players129.a4 players129.a5 players129.a6 players129.a7 players129.a8 players129.a9 players129.a10 players129.a11 players129.a12 players129.a13 players129.a14 players129.a15))
          else
            if decide (both12.a0.fPlayer = 2) then
              some ((Ar16.mk players129.a0 players129.a1 (w64 (players129.a2 + 1)) players129.a3 players129.a4 players129.a5 players129.a6 players129.a7 players129.a8 players129.a9 players129.a10 players129.a11 players129.a12 players129.a13 players129.a14 players129.a15))
            else
              if decide (both12.a0.fPlayer = 3) then
                some ((Ar16.mk players129.a0 players129.a1 players129.a2 (w64 (players129.a3 + 1)) players129.a4 players129.a5 players129.a6 players129.a7 players129.a8 players129.a9 players129.a10 players129.a11 players129.a12 players129.a13 players129.a14 players129.a15))
              else
                if decide (both12.a0.fPlayer = 4) then
                  some ((Ar16.mk players129.a0 players129.a1 players129.a2 players129.a3 (w64 (players129.a4 + 1)) players129.a5 players129.a6 players129.a7 players129.a8 players129.a9 players129.a10 players129.a11 players129.a12 players129.a13 players129.a14 players129.a15))
                else
                  if decide (both12.a0.fPlayer = 5) then
                    some ((Ar16.mk players129.a0 players129.a1 players129.a2 players129.a3 players129.a4 (w64 (players129.a5 + 1)) players129.a6 players129.a7 players129.a8 players129.a9 players129.a10 players129.a11 players129.a12 players129.a13 players129.a14 players129.a15))
                  else
                    if decide (both12.a0.fPlayer = 6) then
                      some ((Ar16.mk players129.a0 players129.a1 players129.a2 players129.a3 players129.a4 players129.a5 (w64 (players129.a6 + 1)) players129.a7 players129.a8 players129.a9 players129.a10 players129.a11 players129.a12 players129.a13 players129.a14 players129.a15))
                    else
                      if decide (both12.a0.fPlayer = 7) then
                        some ((Ar16.mk players129.a0 players129.a1 players129.a2 players129.a3 players129.a4 players129.a5 players129.a6 (w64 (players129.a7 + 1)) players129.a8 players129.a9 players129.a10 players129.a11 players129.a12 players129.a13 players129.a14 players129.a15))
                      else
                        if decide (both12.a0.fPlayer = 8) then
                          some ((Ar16.mk players129.a0 players129.a1 players129.a2 players129.a3 players129.a4 players129.a5 players129.a6 players129.a7 (w64 (players129.a8 + 1)) players129.a9 players129.a10 players129.a11 players129.a12 players129.a13 players129.a14 players129.a15))
                        else
                          if decide (both12.a0.fPlayer = 9) then
                            some ((Ar16.mk players129.a0 players129.a1 players129.a2 players129.a3 players129.a4 players129.a5 players129.a6 players129.a7 players129.a8 (w64 (players129.a9 + 1)) players129.a10 players129.a11 players129.a12 players129.a13 players129.a14 players129.a15))
                          else
                            if decide (both12.a0.fPlayer = 10) then
                              some ((Ar16.mk players129.a0 players129.a1 players129.a2 players129.a3 players129.a4 players129.a5 players129.a6 players129.a7 players129.a8 players129.a9 (w64 (players129.a10 + 1)) players129.a11 players129.a12 players129.a13 players129.a14 players129.a15))
                            else
                              if decide (both12.a0.fPlayer = 11) then
                                some ((Ar16.mk players129.a0 players129.a1 players129.a2 players129.a3 players129.a4 players129.a5 players129.a6 players129.a7 players129.a8 players129.a9 players129.a10 (w64 (players129.a11 + 1)) players129.a12 players129.a13 players129.a14 players129.a15))
                              else
                                if decide (both12.a0.fPlayer = 12) then
                                  some ((Ar16.mk players129.a0 players129.a1 players129.a2 players129.a3 players129.a4 players129.a5 players129.a6 players129.a7 players129.a8 players129.a9 players129.a10 players129.a11 (w64 (players129.a12 + 1)) players129.a13 players129.a14 players129.a15))
                                else
                                  if decide (both12.a0.fPlayer = 13) then
                                    some ((Ar16.mk players129.a0 players129.a1 players129.a2 players129.a3 players129.a4 players129.a5 players129.a6 players129.a7 players129.a8 players129.a9 players129.a10 players129.a11 players129.a12 (w64 (players129.a13 + 1)) players129.a14 players129.a15))
                                  else
                                    if decide (both12.a0.fPlayer = 14) then
                                      some ((Ar16.mk players129.a0 players129.a1 players129.a2 players129.a3 players129.a4 players129.a5 players129.a6 players129.a7 players129.a8 players129.a9 players129.a10 players129.a11 players129.a12 players129.a13 (w64 (players129.a14 + 1)) players129.a15))
                                    else
                                      if decide (both12.a0.fPlayer = 15) then
                                        some ((Ar16.mk players129.a0 players129.a1 players129.a2 players129.a3 players129.a4 players129.a5 players129.a6 players129.a7 players129.a8 players129.a9 players129.a10 players129.a11 players129.a12 players129.a13 players129.a14 (w64 (players129.a15 + 1))))
                                      else
                                        none
      ) fun players153 =>
      law09LadderTree_k5 N c1 n11 l29 rec5 both12 players153 matches129 (Ar2.mk both12.a0.fPlayer 0)
    else
      Option.bind (
        if decide (both12.a0.fPlayer = (-1)) then
          if decide (0 ≤ both12.a0.fMatch) then
            some (decide (both12.a0.fMatch < n11))
          else
            some false
        else
          some false
      ) fun v207 =>
      if v207 then
        Option.bind (
          if decide (both12.a0.fMatch = 0) then
            some ((Ar16.mk (w64 (matches129.a0 + 1)) matches129.a1 matches129.a2 matches129.a3 matches129.a4 matches129.a5 matches129.a6 matches129.a7 matches129.a8 matches129.a9 matches129.a10 matches129.a11 matches129.a12 matches129.a13 matches129.a14 matches129.a15))
          else
            if decide (both12.a0.fMatch = 1) then
              some ((Ar16.mk matches129.a0 (w64 (matches129.a1 + 1)) matches129.a2 matches129.a3 matches129.a4 matches129.a5 matches129.a6 matches129.a7 matches129.a8 matches129.a9 matches129.a10 matches129.a11 matches129.a12 matches129.a13 matches129.a14 matches129.a15))
            else
              if decide (both12.a0.fMatch = 2) then
                some ((Ar16.mk matches129.a0 matches129.a1 (w64 (matches129.a2 + 1)) matches129.a3 matches129.a4 matches129.a5 matches129.a6 matches129.a7 matches129.a8 matches129.a9 matches129.a10 matches129.a11 matches129.a12 matches129.a13 matches129.a14 matches129.a15))
              else
                if decide (both12.a0.fMatch = 3) then
                  some ((Ar16.mk matches129.a0 matches129.a1 matches129.a2 (w64 (matches129.a3 + 1)) matches129.a4 matches129.a5 matches129.a6 matches129.a7 matches129.a8 matches129.a9 matches129.a10 matches129.a11 matches129.a12 matches129.a13 matches129.a14 matches129.a15))
                else
                  if decide (both12.a0.fMatch = 4) then
                    some ((Ar16.mk matches129.a0 matches129.a1 matches129.a2 matches129.a3 (w64 (matches129.a4 + 1)) matches129.a5 matches129.a6 matches129.a7 matches129.a8 matches129.a9 matches129.a10 matches129.a11 matches129.a12 matches129.a13 matches129.a14 matches129.a15))
                  else
                    if decide (both12.a0.fMatch = 5) then
                      some ((Ar16.mk matches129.a0 matches129.a1 matches129.a2 matches129.a3 matches129.a4 (w64 (matches129.a5 + 1)) matches129.a6 matches129.a7 matches129.a8 matches129.a9 matches129.a10 matches129.a11 matches129.a12 matches129.a13 matches129.a14 matches129.a15))
                    else
                      if decide (both12.a0.fMatch = 6) then
                        some ((Ar16.mk matches129.a0 matches129.a1 matches129.a2 matches129.a3 matches129.a4 matches129.a5 (w64 (matches129.a6 + 1)) matches129.a7 matches129.a8 matches129.a9 matches129.a10 matches129.a11 matches129.a12 matches129.a13 matches129.a14 matches129.a15))
                      else
                        if decide (both12.a0.fMatch = 7) then
                          some ((Ar16.mk matches129.a0 matches129.a1 matches129.a2 matches129.a3 matches129.a4 matches129.a5 matches129.a6 (w64 (matches129.a7 + 1)) matches129.a8 matches129.a9 matches129.a10 matches129.a11 matches129.a12 matches129.a13 matches129.a14 matches129.a15))
                        else
                          if decide (both12.a0.fMatch = 8) then
                            some ((Ar16.mk matches129.a0 matches129.a1 matches129.a2 matches129.a3 matches129.a4 matches129.a5 matches129.a6 matches129.a7 (w64 (matches129.a8 + 1)) matches129.a9 matches129.a10 matches129.a11 matches129.a12 matches129.a13 matches129.a14 matches129.a15))
                          else
                            if decide (both12.a0.fMatch = 9) then
                              some ((Ar16.mk matches129.a0 matches129.a1 matches129.a2 matches129.a3 matches129.a4 matches129.a5 matches129.a6 matches129.a7 matches129.a8 (w64 (matches129.a9 + 1)) matches129.a10 matches129.a11 matches129.a12 matches129.a13 matches129.a14 matches129.a15))
                            else
                              if decide (both12.a0.fMatch = 10) then
                                some ((Ar16.mk matches129.a0 matches129.a1 matches129.a2 matches129.a3 matches129.a4 matches129.a5 matches129.a6 matches129.a7 matches129.a8 matches129.a9 (w64 (matches129.a10 + 1)) matches129.a11 matches129.a12 matches129.a13 matches129.a14 matches129.a15))
                              else
                                if decide (both12.a0.fMatch = 11) then
                                  some ((Ar16.mk matches129.a0 matches129.a1 matches129.a2 matches129.a3 matches129.a4 matches129.a5 matches129.a6 matches129.a7 matches129.a8 matches129.a9 matches129.a10 (w64 (matches129.a11 + 1)) matches129.a12 matches129.a13 matches129.a14 matches129.a15))
                                else
                                  if decide (both12.a0.fMatch = 12) then
                                    some ((Ar16.mk matches129.a0 matches129.a1 matches129.a2 matches129.a3 matches129.a4 matches129.a5 matches129.a6 matches129.a7 matches129.a8 matches129.a9 matches129.a10 matches129.a11 (w64 (matches129.a12 + 1)) matches129.a13 matches129.a14 matches129.a15))
                                  else
                                    if decide (both12.a0.fMatch = 13) then
                                      some ((Ar16.mk matches129.a0 matches129.a1 matches129.a2 matches129.a3 matches129.a4 matches129.a5 matches129.a6 matches129.a7 matches129.a8 matches129.a9 matches129.a10 matches129.a11 matches129.a12 (w64 (matches129.a13 + 1)) matches129.a14 matches129.a15))
                                    else
                                      if decide (both12.a0.fMatch = 14) then
                                        some ((Ar16.mk matches129.a0 matches129.a1 matches129.a2 matches129.a3 matches129.a4 matches129.a5 matches129.a6 matches129.a7 matches129.a8 matches129.a9 matches129.a10 matches129.a11 matches129.a12 matches129.a13 (w64 (matches129.a14 + 1)) matches129.a15))
                                      else
                                        if decide (both12.a0.fMatch = 15) then
                                          some ((Ar16.mk matches129.a0 matches129.a1 matches129.a2 matches129.a3 matches129.a4 matches129.a5 matches129.a6 matches129.a7 matches129.a8 matches129.a9 matches129.a10 matches129.a11 matches129.a12 matches129.a13 matches129.a14 (w64 (matches129.a15 + 1))))
                                        else
                                          none
        ) fun matches153 =>
        Option.bind (idx l29 both12.a0.fMatch) fun x124 =>
        law09LadderTree_k5 N c1 n11 l29 rec5 both12 players129 matches153 (Ar2.mk x124 0)
      else
        some false
  else
    law09LadderTree_k3 N c1 ra2 meet9 players129 matches129 l29

def law09LadderTree (N : Nat) (c1 : Ref09Cup) : Option (Bool) :=
  Option.bind (ref09IsForm N ((Ref09Cup.mk c1.fForm c1.fPlayers c1.fGames ([])))) fun r6 =>
  if !r6 then
    Option.bind (law09Wakes N) fun r8 =>
    some r8
  else
    Option.bind (law09Cup N ((Ref09Cup.mk c1.fForm c1.fPlayers c1.fGames ([])))) fun r10 =>
    Option.bind (ladderTree N r10) fun (ra2, rb2) =>
    Option.bind (
      if !decide (rb2 = 0) then
        some true
      else
        some (!decide ((ra2.length : Int) = (w64 (c1.fPlayers - 1))))
    ) fun v2 =>
    if v2 then
      some false
    else
      loopN (fun rec5 x => law09LadderTree_b6 N c1 ra2 rec5 x.1 x.2.1 x.2.2.1 x.2.2.2.1 x.2.2.2.2) N ((0, 0, (Ar16.mk 0 0 0 0 0 0 0 0 0 0 0 0 0 0 0 0), (Ar16.mk 0 0 0 0 0 0 0 0 0 0 0 0 0 0 0 0), []))
end
end Go.Proofs.Ytbceakhnnnfiaaa
