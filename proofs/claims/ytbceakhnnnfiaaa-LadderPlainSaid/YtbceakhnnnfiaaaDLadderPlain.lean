/-
  The law LadderPlain, typed.
-/
import Derived.Test.YtbceakhnnnfiaaaDef
namespace Go.Proofs.Ytbceakhnnnfiaaa
open Go.Kp
set_option linter.all false
noncomputable section

def law09LadderPlain_b1 (N : Nat) (c1 : Ref09Cup) (r10 : List Ref09Pair) (rec3 : (Int × Int × (List Int) × (List Ref09Result)) → Option (Int × (List Int) × (List Ref09Result))) (decided14 : Int) (i8 : Int) (l39 : List Int) (l40 : List Ref09Result) : Option (Int × (List Int) × (List Ref09Result)) :=
  if decide (i8 < (l40.length : Int)) then
    Option.bind (
      Option.bind (idx l40 i8) fun x57 =>
      Option.bind (idx ((List.set l40 (Int.toNat i8) (Ref09Result.mk x57.fMatch x57.fGames false))) i8) fun x59 =>
      Option.bind (ref09Won N c1 x59.fMatch) fun r56 =>
      if decide (0 ≤ r56) then
        Option.bind (idx r10 x59.fMatch) fun x60 =>
        Option.bind (ref09Known N c1 x60.fFirst) fun r57 =>
        Option.bind (ref09Known N c1 x60.fSecond) fun r58 =>
        Option.bind (app N l39 ([w64 ((w64 (r57 + r58)) - r56)])) fun l44 =>
        some ((w64 (decided14 + 1), l44, (List.set l40 (Int.toNat i8) (Ref09Result.mk x57.fMatch x57.fGames false))))
      else
        some ((decided14, l39, (List.set l40 (Int.toNat i8) (Ref09Result.mk x57.fMatch x57.fGames false))))
    ) fun (decided15, l42, l43) =>
    rec3 ((decided15, w64 (i8 + 1), l42, l43))
  else
    some (decided14, l39, l40)

def law09LadderPlain_k2 (N : Nat)   : Option (Bool) :=
  Option.bind (law09Wakes N) fun r76 =>
  some r76

def law09LadderPlain_b3 (N : Nat) (ra4 : List Int) (rec5 : (Int × (List Int)) → Option (Bool)) (i16 : Int) (l52 : List Int) : Option (Bool) :=
  if decide (i16 < (ra4.length : Int)) then
    Option.bind (idx ra4 i16) fun x84 =>
    Option.bind (law09Has N l52 x84) fun r88 =>
    if r88 then
      some false
    else
      rec5 ((w64 (i16 + 1), l52))
  else
    law09LadderPlain_k2 N

def law09LadderPlain (N : Nat) (c1 : Ref09Cup) : Option (Bool) :=
  Option.bind (law09Ready N c1) fun r6 =>
  if !r6 then
    Option.bind (law09Wakes N) fun r8 =>
    some r8
  else
    Option.bind (app N ([]) c1.fResults) fun l2 =>
    Option.bind (ref09Tree N c1) fun r10 =>
    Option.bind (
      loopN (fun rec3 x => law09LadderPlain_b1 N c1 r10 rec3 x.1 x.2.1 x.2.2.1 x.2.2.2) N (0, 0, [], l2)
    ) fun (decided8, l23, l24) =>
    Option.bind (law09Cup N (Ref09Cup.mk c1.fForm c1.fPlayers c1.fGames l24)) fun r60 =>
    Option.bind (ladderHangs N r60) fun (ra2, rb2) =>
    Option.bind (law09Cup N (Ref09Cup.mk c1.fForm c1.fPlayers c1.fGames l24)) fun r62 =>
    Option.bind (ladderMayWin N r62) fun (ra4, rb4) =>
    Option.bind (
      if !decide (rb2 = 0) then
        some true
      else
        if !decide ((ra2.length : Int) = 0) then
          some true
        else
          if !decide (rb4 = 0) then
            some true
          else
            some (!decide ((ra4.length : Int) = (w64 (c1.fPlayers - decided8))))
    ) fun v2 =>
    if v2 then
      some false
    else
      loopN (fun rec5 x => law09LadderPlain_b3 N ra4 rec5 x.1 x.2) N (0, l23)
end
end Go.Proofs.Ytbceakhnnnfiaaa
