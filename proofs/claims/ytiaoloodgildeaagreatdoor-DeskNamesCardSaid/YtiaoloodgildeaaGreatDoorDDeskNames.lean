/-
 The law DeskNames, typed.
-/
import Derived.Test.YtiaoloodgildeaaGreatDoorDef
namespace Go.Proofs.YtiaoloodgildeaaGreatDoor
open Go.Kp
set_option linter.all false
noncomputable section
def law12DeskNames (N : Nat)  : Option (Bool) :=
 Option.bind (law12Game N) fun r2 =>
 Option.bind (deskBoard N r2 0) fun (ra2, rb2, rc2, rd2) =>
 Option.bind (law12Game N) fun r4 =>
 Option.bind (deskWorth N r4 2 1) fun (ra4, rb4, rc4) =>
 Option.bind (law12Game N) fun r6 =>
 Option.bind (deskWorth N r6 0 31) fun (ra6, rb6, rc6) =>
 Option.bind (mkl N 51 ([])) fun l2 =>
 Option.bind (deskReport N l2) fun (ra8, rb8) =>
 Option.bind (law12Game N) fun r8 =>
 Option.bind (app N r8 ([([99, 108, 111, 115, 101, 32, 49] : List UInt8), ([100, 117, 101, 108, 32, 49] : List UInt8), ([100, 111, 117, 98, 116, 32, 48] : List UInt8)])) fun l4 =>
 Option.bind (deskPlayX N l4) fun (ra10, rb10, rc8) =>
 Option.bind (
  if !decide (rd2 = 7) then
   some true
  else
   if !decide (rc4 = 7) then
    some true
   else
    if !decide (rc6 = 2) then
     some true
    else
     if !decide (rb8 = 3) then
      some true
     else
      if !decide (rc8 = 0) then
       some true
      else
       if !decide ((ra10.fKept.length : Int) = 2) then
        some true
       else
        Option.bind (idx ra10.fKept 0) fun x7 =>
        Option.bind (law12Ints N x7 ([43])) fun r15 =>
        if !r15 then
         some true
        else
         if !decide ((ra10.fResults.length : Int) = 1) then
          some true
         else
          Option.bind (idx ra10.fResults 0) fun x8 =>
          if !x8.fProtested then
           some true
          else
           Option.bind (law12Ints N x8.fGames ([1])) fun r16 =>
           some (!r16)
 ) fun v4 =>
 if v4 then
  none
 else
  Option.bind (
   Option.bind (law12ErrorOf N ([98, 111, 119, 108, 101, 114, 32, 51, 48, 49] : List UInt8)) fun r37 =>
   if decide (r37 = 2) then
    Option.bind (law12ErrorOf N ([111, 112, 101, 110, 32, 52, 32, 49] : List UInt8)) fun r38 =>
    if decide (r38 = 7) then
     Option.bind (law12ErrorOf N ([111, 112, 101, 110, 32, 48, 32, 50] : List UInt8)) fun r39 =>
     if decide (r39 = 7) then
      Option.bind (law12ErrorOf N ([111, 112, 101, 110, 32, 48, 32, 48] : List UInt8)) fun r40 =>
      if decide (r40 = 6) then
       Option.bind (law12ErrorOf N ([111, 112, 101, 110, 32, 48, 32, 49] : List UInt8)) fun r41 =>
       if decide (r41 = 0) then
        Option.bind (law12ErrorOf N ([98, 97, 108, 108, 32, 48, 32, 51] : List UInt8)) fun r42 =>
        if decide (r42 = 8) then
         Option.bind (law12ErrorOf N ([98, 97, 108, 108, 32, 52, 32, 51] : List UInt8)) fun r43 =>
         if decide (r43 = 7) then
          Option.bind (law12ErrorOf N ([98, 97, 99, 107, 32, 49] : List UInt8)) fun r44 =>
          if decide (r44 = 0) then
           Option.bind (law12ErrorOf N ([98, 97, 99, 107, 32, 48] : List UInt8)) fun r45 =>
           if decide (r45 = 8) then
            Option.bind (law12ErrorOf N ([115, 104, 101, 101, 116, 32, 49, 32, 48] : List UInt8)) fun r46 =>
            if decide (r46 = 8) then
             Option.bind (law12ErrorOf N ([115, 104, 101, 101, 116, 32, 48, 32, 48] : List UInt8)) fun r47 =>
             if decide (r47 = 2) then
              Option.bind (law12ErrorOf N ([115, 104, 101, 101, 116, 32, 49, 32, 50] : List UInt8)) fun r48 =>
              if decide (r48 = 7) then
               Option.bind (law12ErrorOf N ([115, 116, 114, 105, 107, 101, 32, 49] : List UInt8)) fun r49 =>
               if decide (r49 = 7) then
                Option.bind (law12ErrorOf N ([100, 117, 101, 108, 32, 50] : List UInt8)) fun r50 =>
                if decide (r50 = 10) then
                 Option.bind (law12ErrorOf N ([100, 117, 101, 108, 32, 48] : List UInt8)) fun r51 =>
                 if decide (r51 = 0) then
                  Option.bind (law12ErrorOf N ([100, 111, 117, 98, 116, 32, 48] : List UInt8)) fun r52 =>
                  if decide (r52 = 7) then
                   Option.bind (law12ErrorOf N ([99, 108, 111, 115, 101, 32, 48, 49] : List UInt8)) fun r53 =>
                   if decide (r53 = 4) then
                    Option.bind (law12ErrorOf N ([99, 108, 111, 115, 101] : List UInt8)) fun r54 =>
                    if decide (r54 = 4) then
                     Option.bind (law12ErrorOf N ([] : List UInt8)) fun r55 =>
                     if decide (r55 = 4) then
                      Option.bind (law12Wakes N) fun r56 =>
                      some r56
                     else
                      some false
                    else
                     some false
                   else
                    some false
                  else
                   some false
                 else
                  some false
                else
                 some false
               else
                some false
              else
               some false
             else
              some false
            else
             some false
           else
            some false
          else
           some false
         else
          some false
        else
         some false
       else
        some false
      else
       some false
     else
      some false
    else
     some false
   else
    some false
  ) fun v6 =>
  some v6
end
end Go.Proofs.YtiaoloodgildeaaGreatDoor
