/-
  The law FrameFouls, typed.
-/
import Derived.Test.YthjafigloabfpaaDef
namespace Go.Proofs.Ythjafigloabfpaa
open Go.Kp
set_option linter.all false

def law01FrameFouls_b1 (N : Nat) (a3 : Int) (rec3 : (Int × (List Int)) → Option ((List Int))) (v8 : Int) (l14 : List Int) : Option ((List Int)) :=
  if decide (v8 < (l14.length : Int)) then
    Option.bind (
      Option.bind (idx l14 v8) fun x24 =>
      if decide (x24 ≤ 0) then
        Option.bind (nng (Go.IntKind.wrap .u64 (Int.tmod v8 32))) fun _ =>
        some ((List.set l14 (Int.toNat v8) (w64 ((-(w64 (Int.tmod (shrI .u32 a3 (Go.IntKind.wrap .u64 (Int.tmod v8 32))) 2)))))))
      else
        some l14
    ) fun l15 =>
    rec3 ((w64 (v8 + 1), l15))
  else
    some l14

def law01FrameFouls_b2 (N : Nat) (ra4 : FrameGame) (rec5 : (Int × (List Int)) → Option ((List Int))) (v18 : Int) (l34 : List Int) : Option ((List Int)) :=
  if decide (v18 < (ra4.fFrames.length : Int)) then
    Option.bind (idx ra4.fFrames v18) fun x36 =>
    Option.bind (app N l34 x36) fun l36 =>
    rec5 ((w64 (v18 + 1), l36))
  else
    some l34

def law01FrameFouls (N : Nat) (a1 : Ref01Law) (a2 : List Int) (a3 : Int) : Option (Bool) :=
  Option.bind (law01Ready N a1 a2) fun r6 =>
  if !r6 then
    Option.bind (law01Wakes N) fun r8 =>
    some r8
  else
    Option.bind (law01List N a2) fun r10 =>
    Option.bind (
      loopN (fun rec3 x => law01FrameFouls_b1 N a3 rec3 x.1 x.2) N (0, r10)
    ) fun l8 =>
    Option.bind (law01Law N a1) fun r13 =>
    Option.bind (law01List N a2) fun r14 =>
    Option.bind (frameRead N r13 r14) fun (ra2, rb2) =>
    Option.bind (law01Law N a1) fun r17 =>
    Option.bind (law01List N l8) fun r18 =>
    Option.bind (frameRead N r17 r18) fun (ra4, rb4) =>
    Option.bind (
      if !decide (rb2 = 0) then
        some true
      else
        if !decide (rb4 = 0) then
          some true
        else
          Option.bind (law01Ints N ra2.fCounts ra4.fCounts) fun r22 =>
          if !r22 then
            some true
          else
            if !decide (ra2.fStanding = ra4.fStanding) then
              some true
            else
              some (ra2.fDone != ra4.fDone)
    ) fun v10 =>
    if v10 then
      some false
    else
      Option.bind (
        loopN (fun rec5 x => law01FrameFouls_b2 N ra4 rec5 x.1 x.2) N (0, [])
      ) fun l26 =>
      Option.bind (
        Option.bind (law01Ints N l26 l8) fun r25 =>
        if r25 then
          Option.bind (law01Wakes N) fun r26 =>
          some r26
        else
          some false
      ) fun v19 =>
      some v19
end Go.Proofs.Ythjafigloabfpaa
