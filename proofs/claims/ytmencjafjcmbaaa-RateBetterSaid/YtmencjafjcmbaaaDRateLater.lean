/-
  The law RateLater, typed.
-/
import Derived.Test.YtmencjafjcmbaaaDef
namespace Go.Proofs.Ytmencjafjcmbaaa
open Go.Kp
set_option linter.all false
noncomputable section

def law07RateLater_b1 (N : Nat) (b1 : Ref07Book) (rec3 : (Int × Int × Int × (List Ref07Sheet)) → Option (Int × Int × (List Ref07Sheet))) (k11 : Int) (w11 : Int) (i8 : Int) (l24 : List Ref07Sheet) : Option (Int × Int × (List Ref07Sheet)) :=
  if decide (i8 < (b1.fSheets.length : Int)) then
    Option.bind (
      Option.bind (idx b1.fSheets i8) fun x24 =>
      Option.bind (
        if decide (x24.fBowler = k11) then
          some (decide (x24.fWeek < w11))
        else
          some false
      ) fun v14 =>
      if v14 then
        Option.bind (app N l24 ([x24])) fun l27 =>
        some l27
      else
        some l24
    ) fun l26 =>
    rec3 ((k11, w11, w64 (i8 + 1), l26))
  else
    some (k11, w11, l24)

def law07RateLater (N : Nat) (b1 : Ref07Book) (bowler1 : Int) (week1 : Int) : Option (Bool) :=
  Option.bind (
    Option.bind (law07Ready N b1) fun r6 =>
    if !r6 then
      some true
    else
      some (decide ((b1.fBowlers.length : Int) = 0))
  ) fun v2 =>
  if v2 then
    Option.bind (law07Wakes N) fun r8 =>
    some r8
  else
    Option.bind (nz (b1.fBowlers.length : Int)) fun _ =>
    Option.bind (
      loopN (fun rec3 x => law07RateLater_b1 N b1 rec3 x.1 x.2.1 x.2.2.1 x.2.2.2) N ((Int.tmod (w64 bowler1) (b1.fBowlers.length : Int), w64 (1 + (Int.tmod (w64 week1) 30)), 0, []))
    ) fun (k6, w6, l14) =>
    Option.bind (
      Option.bind (law07Same N b1 (Ref07Book.mk b1.fLaw b1.fBowlers l14 b1.fWithdrawn) k6 w6) fun r11 =>
      if r11 then
        Option.bind (law07Wakes N) fun r12 =>
        some r12
      else
        some false
    ) fun v15 =>
    some v15
end
end Go.Proofs.Ytmencjafjcmbaaa
