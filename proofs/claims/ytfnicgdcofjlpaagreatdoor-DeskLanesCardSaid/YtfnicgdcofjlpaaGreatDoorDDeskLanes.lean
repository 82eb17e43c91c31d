/-
 The law DeskLanes, typed.
-/
import Derived.Test.YtfnicgdcofjlpaaGreatDoorDef
namespace Go.Proofs.YtfnicgdcofjlpaaGreatDoor
open Go.Kp
set_option linter.all false
noncomputable section
def yN (N:Nat)(lines1:List (List UInt8)):Option (Bool) :=
 Option.bind (
  Option.bind (j0 N lines1) fun r9 =>
  if !r9 then
   some true
  else
   Option.bind (gz N lines1) fun r10 =>
   some (!r10)
 ) fun v4 =>
 if v4 then
  Option.bind (cL N) fun r12 =>
  some r12
 else
  Option.bind (yK N lines1) fun(ra2,rb2,rc2) =>
  Option.bind (
   if !rc2 then
    some true
   else
    some (!decide ((ra2.fLanes.length:Int)=4))
  ) fun v8 =>
  if v8 then
   some false
  else
   Option.bind (idx ra2.fLanes 0) fun x68 =>
   Option.bind (
    if decide (x68.fBowler<(-1))then
     some true
    else
     if decide ((ra2.fBowlers.length:Int)≤x68.fBowler)then
      some true
     else
      if decide (x68.fBowler<0)then
       some (decide (0<(x68.fBalls.length:Int)))
      else
       some false
   ) fun v96 =>
   if v96 then
    some false
   else
    Option.bind (
     Option.bind (zD N) fun r52 =>
     Option.bind (app N ([]) x68.fBalls) fun l40 =>
     Option.bind (gm N r52 l40) fun(ra42,rb42) =>
     some rb42
    ) fun e40 =>
    if !decide (e40=0)then
     some false
    else
     Option.bind (idx ra2.fLanes 1) fun x76 =>
     Option.bind (
      if decide (x76.fBowler<(-1))then
       some true
      else
       if decide ((ra2.fBowlers.length:Int)≤x76.fBowler)then
        some true
       else
        if decide (x76.fBowler<0)then
         some (decide (0<(x76.fBalls.length:Int)))
        else
         some false
     ) fun v108 =>
     if v108 then
      some false
     else
      Option.bind (
       Option.bind (zD N) fun r60 =>
       Option.bind (app N ([]) x76.fBalls) fun l48 =>
       Option.bind (gm N r60 l48) fun(ra50,rb50) =>
       some rb50
      ) fun e48 =>
      if !decide (e48=0)then
       some false
      else
       Option.bind (
        if decide (0≤x76.fBowler)then
         Option.bind (idx ra2.fLanes 0) fun x80 =>
         some (decide (x80.fBowler=x76.fBowler))
        else
         some false
       ) fun v112 =>
       if v112 then
        some false
       else
        Option.bind (idx ra2.fLanes 2) fun x92 =>
        Option.bind (
         if decide (x92.fBowler<(-1))then
          some true
         else
          if decide ((ra2.fBowlers.length:Int)≤x92.fBowler)then
           some true
          else
           if decide (x92.fBowler<0)then
            some (decide (0<(x92.fBalls.length:Int)))
           else
            some false
        ) fun v128 =>
        if v128 then
         some false
        else
         Option.bind (
          Option.bind (zD N) fun r68 =>
          Option.bind (app N ([]) x92.fBalls) fun l56 =>
          Option.bind (gm N r68 l56) fun(ra58,rb58) =>
          some rb58
         ) fun e56 =>
         if !decide (e56=0)then
          some false
         else
          Option.bind (
           if decide (0≤x92.fBowler)then
            Option.bind (idx ra2.fLanes 0) fun x96 =>
            some (decide (x96.fBowler=x92.fBowler))
           else
            some false
          ) fun v132 =>
          if v132 then
           some false
          else
           Option.bind (
            if decide (0≤x92.fBowler)then
             Option.bind (idx ra2.fLanes 1) fun x100 =>
             some (decide (x100.fBowler=x92.fBowler))
            else
             some false
           ) fun v136 =>
           if v136 then
            some false
           else
            Option.bind (idx ra2.fLanes 3) fun x116 =>
            Option.bind (
             if decide (x116.fBowler<(-1))then
              some true
             else
              if decide ((ra2.fBowlers.length:Int)≤x116.fBowler)then
               some true
              else
               if decide (x116.fBowler<0)then
                some (decide (0<(x116.fBalls.length:Int)))
               else
                some false
            ) fun v156 =>
            if v156 then
             some false
            else
             Option.bind (
              Option.bind (zD N) fun r76 =>
              Option.bind (app N ([]) x116.fBalls) fun l64 =>
              Option.bind (gm N r76 l64) fun(ra66,rb66) =>
              some rb66
             ) fun e64 =>
             if !decide (e64=0)then
              some false
             else
              Option.bind (
               if decide (0≤x116.fBowler)then
                Option.bind (idx ra2.fLanes 0) fun x120 =>
                some (decide (x120.fBowler=x116.fBowler))
               else
                some false
              ) fun v160 =>
              if v160 then
               some false
              else
               Option.bind (
                if decide (0≤x116.fBowler)then
                 Option.bind (idx ra2.fLanes 1) fun x124 =>
                 some (decide (x124.fBowler=x116.fBowler))
                else
                 some false
               ) fun v164 =>
               if v164 then
                some false
               else
                Option.bind (
                 if decide (0≤x116.fBowler)then
                  Option.bind (idx ra2.fLanes 2) fun x128 =>
                  some (decide (x128.fBowler=x116.fBowler))
                 else
                  some false
                ) fun v168 =>
                if v168 then
                 some false
                else
                 Option.bind (cL N) fun r78 =>
                 some r78
end
end Go.Proofs.YtfnicgdcofjlpaaGreatDoor
