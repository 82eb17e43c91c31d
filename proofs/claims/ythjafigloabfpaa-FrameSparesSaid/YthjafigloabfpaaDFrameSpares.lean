/-
  The law FrameSpares, typed.
-/
import Derived.Test.YthjafigloabfpaaDef
namespace Go.Proofs.Ythjafigloabfpaa
open Go.Kp
set_option linter.all false

def law01FrameSpares_b1 (N : Nat) (a1 : Ref01Law) (rec3 : (Int × Int × (List Int)) → Option (Int × (List Int))) (v18 : Int) (v19 : Int) (l19 : List Int) : Option (Int × (List Int)) :=
  if decide (v19 < a1.fFrames) then
    Option.bind (app N l19 ([v18, w64 (a1.fPins - v18)])) fun l21 =>
    rec3 ((v18, w64 (v19 + 1), l21))
  else
    some (v18, l19)

def law01FrameSpares (N : Nat) (a1 : Ref01Law) (a2 : Int) : Option (Bool) :=
  Option.bind (ref01IsLaw N a1) fun r6 =>
  if !r6 then
    Option.bind (law01Wakes N) fun r8 =>
    some r8
  else
    Option.bind (nz a1.fTap) fun _ =>
    Option.bind (
      loopN (fun rec3 x => law01FrameSpares_b1 N a1 rec3 x.1 x.2.1 x.2.2) N ((Int.tmod (w64 a2) a1.fTap, 0, []))
    ) fun (v10, l11) =>
    Option.bind (law01Law N a1) fun r10 =>
    Option.bind (app N l11 ([v10])) fun l23 =>
    Option.bind (frameRead N r10 l23) fun (ra2, rb2) =>
    Option.bind (
      if decide (rb2 = 0) then
        if ra2.fDone then
          if decide ((ra2.fCounts.length : Int) = a1.fFrames) then
            Option.bind (idx ra2.fCounts (w64 (a1.fFrames - 1))) fun x2 =>
            if decide (x2 = (w64 (a1.fFrames * (w64 (a1.fPins + v10))))) then
              Option.bind (law01Wakes N) fun r12 =>
              some r12
            else
              some false
          else
            some false
        else
          some false
      else
        some false
    ) fun v20 =>
    some v20
end Go.Proofs.Ythjafigloabfpaa
