/-
  The law TopRated, typed.
-/
import Derived.Test.YthbifolpofillaaDef
namespace Go.Proofs.Ythbifolpofillaa
open Go.Kp
set_option linter.all false

def kingpintopTopRated (N : Nat) (a1 : Ref01Law) (a2 : List (List Int)) (a3 : List Int) : Option (Bool) :=
  Option.bind (
    Option.bind (ref01IsLaw N a1) fun r6 =>
    if !r6 then
      some true
    else
      some (!decide ((a2.length : Int) = 3))
  ) fun v2 =>
  if v2 then
    Option.bind (kingpintopRated N) fun r8 =>
    some r8
  else
    Option.bind (
      Option.bind (idx a2 0) fun x81 =>
      if decide (40 < (x81.length : Int)) then
        some true
      else
        Option.bind (ref01Is N a1 x81) fun r112 =>
        some (!r112)
    ) fun v53 =>
    if v53 then
      Option.bind (kingpintopRated N) fun r114 =>
      some r114
    else
      Option.bind (
        if decide (0 < (a3.length : Int)) then
          Option.bind (idx a3 0) fun x83 =>
          Option.bind (slc a3 1 (a3.length : Int)) fun l45 =>
          Option.bind (appB l45 ([x83])) fun l46 =>
          some l46
        else
          some a3
      ) fun v54 =>
      Option.bind (
        Option.bind (idx a2 0) fun x85 =>
        Option.bind (law01Law N a1) fun r116 =>
        Option.bind (app N ([]) x85) fun l48 =>
        Option.bind (frameSpan N r116 l48) fun (ra30, rb30) =>
        some (rb30, ra30)
      ) fun (v55, c15) =>
      Option.bind (
        Option.bind (idx a2 0) fun x87 =>
        Option.bind (law01Law N a1) fun r119 =>
        Option.bind (law01Ended N a1 x87 v54) fun r120 =>
        Option.bind (frameRead N r119 r120) fun (ra32, rb32) =>
        some (rb32, ra32)
      ) fun (v56, c16) =>
      Option.bind (
        if !decide (v55 = 0) then
          some true
        else
          if !decide (v56 = 0) then
            some true
          else
            if !c16.fDone then
              some true
            else
              if !decide ((c16.fCounts.length : Int) = a1.fFrames) then
                some true
              else
                if decide (c15.fLo < 0) then
                  some true
                else
                  some (decide (300 < c15.fHi))
      ) fun v58 =>
      if v58 then
        some false
      else
        Option.bind (idx c16.fCounts (w64 (a1.fFrames - 1))) fun x88 =>
        Option.bind (
          Option.bind (idx a2 1) fun x103 =>
          if decide (40 < (x103.length : Int)) then
            some true
          else
            Option.bind (ref01Is N a1 x103) fun r140 =>
            some (!r140)
        ) fun v67 =>
        if v67 then
          Option.bind (kingpintopRated N) fun r142 =>
          some r142
        else
          Option.bind (
            if decide (0 < (v54.length : Int)) then
              Option.bind (idx v54 0) fun x105 =>
              Option.bind (slc v54 1 (v54.length : Int)) fun l57 =>
              Option.bind (appB l57 ([x105])) fun l58 =>
              some l58
            else
              some v54
          ) fun v68 =>
          Option.bind (
            Option.bind (idx a2 1) fun x107 =>
            Option.bind (law01Law N a1) fun r144 =>
            Option.bind (app N ([]) x107) fun l60 =>
            Option.bind (frameSpan N r144 l60) fun (ra38, rb38) =>
            some (rb38, ra38)
          ) fun (v69, c19) =>
          Option.bind (
            Option.bind (idx a2 1) fun x109 =>
            Option.bind (law01Law N a1) fun r147 =>
            Option.bind (law01Ended N a1 x109 v68) fun r148 =>
            Option.bind (frameRead N r147 r148) fun (ra40, rb40) =>
            some (rb40, ra40)
          ) fun (v70, c20) =>
          Option.bind (
            if !decide (v69 = 0) then
              some true
            else
              if !decide (v70 = 0) then
                some true
              else
                if !c20.fDone then
                  some true
                else
                  if !decide ((c20.fCounts.length : Int) = a1.fFrames) then
                    some true
                  else
                    if decide (c19.fLo < 0) then
                      some true
                    else
                      some (decide (300 < c19.fHi))
          ) fun v72 =>
          if v72 then
            some false
          else
            Option.bind (idx c20.fCounts (w64 (a1.fFrames - 1))) fun x110 =>
            Option.bind (
              Option.bind (idx a2 2) fun x125 =>
              if decide (40 < (x125.length : Int)) then
                some true
              else
                Option.bind (ref01Is N a1 x125) fun r168 =>
                some (!r168)
            ) fun v81 =>
            if v81 then
              Option.bind (kingpintopRated N) fun r170 =>
              some r170
            else
              Option.bind (
                if decide (0 < (v68.length : Int)) then
                  Option.bind (idx v68 0) fun x127 =>
                  Option.bind (slc v68 1 (v68.length : Int)) fun l69 =>
                  Option.bind (appB l69 ([x127])) fun l70 =>
                  some l70
                else
                  some v68
              ) fun v82 =>
              Option.bind (
                Option.bind (idx a2 2) fun x129 =>
                Option.bind (law01Law N a1) fun r172 =>
                Option.bind (app N ([]) x129) fun l72 =>
                Option.bind (frameSpan N r172 l72) fun (ra46, rb46) =>
                some (rb46, ra46)
              ) fun (v83, c23) =>
              Option.bind (
                Option.bind (idx a2 2) fun x131 =>
                Option.bind (law01Law N a1) fun r175 =>
                Option.bind (law01Ended N a1 x131 v82) fun r176 =>
                Option.bind (frameRead N r175 r176) fun (ra48, rb48) =>
                some (rb48, ra48)
              ) fun (v84, c24) =>
              Option.bind (
                if !decide (v83 = 0) then
                  some true
                else
                  if !decide (v84 = 0) then
                    some true
                  else
                    if !c24.fDone then
                      some true
                    else
                      if !decide ((c24.fCounts.length : Int) = a1.fFrames) then
                        some true
                      else
                        if decide (c23.fLo < 0) then
                          some true
                        else
                          some (decide (300 < c23.fHi))
              ) fun v86 =>
              if v86 then
                some false
              else
                Option.bind (idx c24.fCounts (w64 (a1.fFrames - 1))) fun x132 =>
                Option.bind (kingpintopHouse N (Ar3.mk c15.fLo c19.fLo c23.fLo)) fun r178 =>
                Option.bind (rateAverage N r178 0 2) fun (ra50, rb50) =>
                Option.bind (kingpintopHouse N (Ar3.mk x88 x110 x132)) fun r180 =>
                Option.bind (rateAverage N r180 0 2) fun (ra52, rb52) =>
                Option.bind (kingpintopHouse N (Ar3.mk c15.fHi c19.fHi c23.fHi)) fun r182 =>
                Option.bind (rateAverage N r182 0 2) fun (ra54, rb54) =>
                Option.bind (kingpintopHouse N (Ar3.mk c15.fLo c19.fLo c23.fLo)) fun r184 =>
                Option.bind (rateHandicap N r184 0 2) fun (ra56, rb56) =>
                Option.bind (kingpintopHouse N (Ar3.mk x88 x110 x132)) fun r186 =>
                Option.bind (rateHandicap N r186 0 2) fun (ra58, rb58) =>
                Option.bind (kingpintopHouse N (Ar3.mk c15.fHi c19.fHi c23.fHi)) fun r188 =>
                Option.bind (rateHandicap N r188 0 2) fun (ra60, rb60) =>
                Option.bind (
                  if decide (rb50 = 0) then
                    if decide (rb52 = 0) then
                      if decide (rb54 = 0) then
                        if decide (rb56 = 0) then
                          if decide (rb58 = 0) then
                            if decide (rb60 = 0) then
                              if decide (ra50 ≤ ra52) then
                                if decide (ra52 ≤ ra54) then
                                  if decide (ra58 ≤ ra56) then
                                    if decide (ra60 ≤ ra58) then
                                      Option.bind (kingpintopRated N) fun r190 =>
                                      some r190
                                    else
                                      some false
                                  else
                                    some false
                                else
                                  some false
                              else
                                some false
                            else
                              some false
                          else
                            some false
                        else
                          some false
                      else
                        some false
                    else
                      some false
                  else
                    some false
                ) fun v87 =>
                some v87
end Go.Proofs.Ythbifolpofillaa
