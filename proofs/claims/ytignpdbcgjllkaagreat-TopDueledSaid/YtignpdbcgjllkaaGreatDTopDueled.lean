/-
 The law TopDueled, typed.
-/
import Derived.Test.YtignpdbcgjllkaaGreatDef
namespace Go.Proofs.YtignpdbcgjllkaaGreat
open Go.Kp
set_option linter.all false
noncomputable section
def kingpintopTopDueled_k1 (N : Nat) (n2 : Int) (c8 : Int) (l15 : List Ref09Result) : Option (Bool) :=
 Option.bind (law09Cup N (Ref09Cup.mk c8 n2 1 l15)) fun r46 =>
 Option.bind (ladderNext N r46) fun (ra34, rb34) =>
 Option.bind (law09Cup N (Ref09Cup.mk c8 n2 1 l15)) fun r48 =>
 Option.bind (ladderWinner N r48) fun (ra36, rb36) =>
 Option.bind (law09Cup N (Ref09Cup.mk c8 n2 1 l15)) fun r50 =>
 Option.bind (ladderMayWin N r50) fun (ra38, rb38) =>
 Option.bind (
  if !decide (rb34 = 0) then
   some true
  else
   if !decide ((ra34.length : Int) = 0) then
    some true
   else
    if !decide (rb36 = 0) then
     some true
    else
     if !decide (rb38 = 0) then
      some true
     else
      if !decide ((ra38.length : Int) = 1) then
       some true
      else
       Option.bind (idx ra38 0) fun x20 =>
       some (!decide (x20 = ra36))
 ) fun v36 =>
 if v36 then
  some false
 else
  Option.bind (law09Cup N (Ref09Cup.mk c8 n2 1 l15)) fun r52 =>
  Option.bind (ladderUpsets N r52 ra36) fun (ra40, rb40) =>
  Option.bind (
   if decide (rb40 = 0) then
    if decide (ra40 = 0) then
     Option.bind (kingpintopDueled N) fun r54 =>
     some r54
    else
     some false
   else
    some false
  ) fun v37 =>
  some v37
def kingpintopTopDueled_b2 (N : Nat) (b1 : Ref07Book) (n2 : Int) (rec3 : (Int × Int × (List Ref09Result)) → Option (Bool)) (k12 : Int) (c15 : Int) (l27 : List Ref09Result) : Option (Bool) :=
 if decide (k12 < (w64 (n2 - 1))) then
  Option.bind (law09Cup N (Ref09Cup.mk c15 n2 1 l27)) fun r84 =>
  Option.bind (ladderNext N r84) fun (ra70, rb70) =>
  Option.bind (
   if !decide (rb70 = 0) then
    some true
   else
    some (decide ((ra70.length : Int) = 0))
  ) fun v67 =>
  if v67 then
   some false
  else
   Option.bind (idx ra70 0) fun x36 =>
   Option.bind (
    Option.bind (law07Book N b1) fun r86 =>
    Option.bind (rateMatch N r86 (w64 (1 + x36.fNumber)) ([x36.fFirst]) ([x36.fSecond])) fun (ra72, rb72, rc32) =>
    some (ra72, rb72, rc32)
   ) fun (p16, q16, f16) =>
   Option.bind (
    if !decide (f16 = 0) then
     some true
    else
     some (!decide ((w64 (p16 + q16)) = 8))
   ) fun v69 =>
   if v69 then
    some false
   else
    Option.bind (
     if decide (q16 < p16) then
      some x36.fFirst
     else
      if decide (p16 < q16) then
       some x36.fSecond
      else
       some (min x36.fFirst x36.fSecond)
    ) fun w16 =>
    Option.bind (app N l27 ([(Ref09Result.mk x36.fNumber ([w16]) false)])) fun l29 =>
    rec3 ((w64 (k12 + 1), c15, l29))
 else
  kingpintopTopDueled_k1 N n2 c15 l27
def kingpintopTopDueled (N : Nat) (b1 : Ref07Book) (form1 : Int) : Option (Bool) :=
 Option.bind (
  Option.bind (law07Thin N b1) fun r9 =>
  if !r9 then
   some (((b1.fBowlers.length : Int), true))
  else
   Option.bind (ref07Fault N b1) fun r10 =>
   if !decide (r10 = 0) then
    some (((b1.fBowlers.length : Int), true))
   else
    some (((b1.fBowlers.length : Int), decide ((b1.fBowlers.length : Int) < 2)))
 ) fun (n2, v2) =>
 if v2 then
  Option.bind (kingpintopDueled N) fun r12 =>
  some r12
 else
  loopN (fun rec3 x => kingpintopTopDueled_b2 N b1 n2 rec3 x.1 x.2.1 x.2.2) N (0, Int.tmod form1 2, [])
end
end Go.Proofs.YtignpdbcgjllkaaGreat
