/-
 The law TopSeeded, typed.
-/
import Derived.Test.YtignpdbcgjllkaaGreatDef
namespace Go.Proofs.YtignpdbcgjllkaaGreat
open Go.Kp
set_option linter.all false
noncomputable section
def kingpintopTopSeeded_b1 (N : Nat) (l1 : Ref08League) (ra2 : List Int) (rank8 : Int) (rec16 : (Int × (List Int)) → Option ((List Int))) (t48 : Int) (l171 : List Int) : Option ((List Int)) :=
 if decide (t48 < l1.fTeams) then
  Option.bind (
   Option.bind (idx ra2 t48) fun x156 =>
   if decide (x156 = rank8) then
    Option.bind (app N l171 ([t48])) fun l174 =>
    some l174
   else
    some l171
  ) fun l173 =>
  rec16 ((w64 (t48 + 1), l173))
 else
  some l171
def kingpintopTopSeeded_b2 (N : Nat) (l1 : Ref08League) (ra2 : List Int) (rec14 : (Int × (List Int)) → Option ((List Int))) (rank8 : Int) (l147 : List Int) : Option ((List Int)) :=
 if decide (rank8 ≤ l1.fTeams) then
  Option.bind (
   loopN (fun rec16 x => kingpintopTopSeeded_b1 N l1 ra2 rank8 rec16 x.1 x.2) N (0, l147)
  ) fun l161 =>
  rec14 ((w64 (rank8 + 1), l161))
 else
  some l147
def kingpintopTopSeeded_b3 (N : Nat) (l1 : Ref08League) (rec18 : (Int × Int × (List Ref09Result)) → Option (Int × (List Ref09Result))) (k12 : Int) (c15 : Int) (l201 : List Ref09Result) : Option (Int × (List Ref09Result)) :=
 if decide (k12 < (w64 (l1.fTeams - 1))) then
  Option.bind (law09Cup N (Ref09Cup.mk c15 l1.fTeams 1 l201)) fun r60 =>
  Option.bind (ladderNext N r60) fun (ra36, rb36) =>
  Option.bind (
   if !decide (rb36 = 0) then
    some true
   else
    some (decide ((ra36.length : Int) = 0))
  ) fun v42 =>
  if v42 then
   none
  else
   Option.bind (idx ra36 0) fun x172 =>
   Option.bind (app N l201 ([(Ref09Result.mk x172.fNumber ([min x172.fFirst x172.fSecond]) false)])) fun l203 =>
   rec18 ((w64 (k12 + 1), c15, l203))
 else
  some (c15, l201)
def kingpintopTopSeeded_k4 (N : Nat) (l1 : Ref08League) (rules1 : List Int) (form1 : Int)  : Option (Bool) :=
 Option.bind (law08League N l1) fun r26 =>
 Option.bind (app N ([]) rules1) fun l3 =>
 Option.bind (leagueRank N r26 l3) fun (ra2, rb2) =>
 Option.bind (
  if !decide (rb2 = 0) then
   some true
  else
   some (!decide ((ra2.length : Int) = l1.fTeams))
 ) fun v10 =>
 if v10 then
  none
 else
  Option.bind (
   loopN (fun rec14 x => kingpintopTopSeeded_b2 N l1 ra2 rec14 x.1 x.2) N (1, [])
  ) fun l89 =>
  if !decide ((l89.length : Int) = l1.fTeams) then
   none
  else
   Option.bind (law09Cup N ((Ref09Cup.mk (Int.tmod form1 2) l1.fTeams 1 ([])))) fun r28 =>
   Option.bind (ladderUpsets N r28 (w64 (l1.fTeams - 1))) fun (ra4, rb4) =>
   Option.bind (
    loopN (fun rec18 x => kingpintopTopSeeded_b3 N l1 rec18 x.1 x.2.1 x.2.2) N (0, Int.tmod form1 2, [])
   ) fun (c8, l189) =>
   Option.bind (law09Cup N (Ref09Cup.mk c8 l1.fTeams 1 l189)) fun r62 =>
   Option.bind (ladderWinner N r62) fun (ra38, rb38) =>
   Option.bind (
    if !decide (rb4 = 0) then
     some true
    else
     if decide (ra4 < 1) then
      some true
     else
      if !decide (rb38 = 0) then
       some true
      else
       if decide (ra38 < 0) then
        some true
       else
        if decide (l1.fTeams ≤ ra38) then
         some true
        else
         Option.bind (idx l89 ra38) fun x179 =>
         Option.bind (idx ra2 x179) fun x180 =>
         some (!decide (x180 = 1))
   ) fun v44 =>
   if v44 then
    none
   else
    Option.bind (
     Option.bind (
      Option.bind (ref08Open N l1) fun r68 =>
      if decide (r68 = 0) then
       if decide (0 < (rules1.length : Int)) then
        Option.bind (idx rules1 0) fun x186 =>
        some (decide (x186 = 1))
       else
        some false
      else
       some false
     ) fun v47 =>
     if v47 then
      Option.bind (idx l89 ra38) fun x188 =>
      Option.bind (law08League N l1) fun r70 =>
      Option.bind (leagueCanFirst N r70 x188) fun (ra42, rb42) =>
      Option.bind (
       if !decide (rb42 = 0) then
        some true
       else
        some (!ra42)
      ) fun v48 =>
      if v48 then
       none
      else
       some ()
     else
      some ()
    ) fun _ =>
    Option.bind (kingpintopDueled N) fun r72 =>
    some r72
def kingpintopTopSeeded_b5 (N : Nat) (l1 : Ref08League) (rules1 : List Int) (form1 : Int) (rec19 : (Int) → Option (Bool)) (i8 : Int) : Option (Bool) :=
 if decide (i8 < (rules1.length : Int)) then
  Option.bind (
   Option.bind (idx rules1 i8) fun x200 =>
   if decide (x200 < 1) then
    some true
   else
    some (decide (4 < x200))
  ) fun v54 =>
  if v54 then
   Option.bind (kingpintopDueled N) fun r84 =>
   some r84
  else
   rec19 (w64 (i8 + 1))
 else
  kingpintopTopSeeded_k4 N l1 rules1 form1
def kingpintopTopSeeded (N : Nat) (l1 : Ref08League) (rules1 : List Int) (form1 : Int) : Option (Bool) :=
 Option.bind (
  Option.bind (law08Thin N l1) fun r9 =>
  if !r9 then
   some true
  else
   Option.bind (ref08Fault N l1) fun r10 =>
   if !decide (r10 = 0) then
    some true
   else
    some (decide (6 < (rules1.length : Int)))
 ) fun v2 =>
 if v2 then
  Option.bind (kingpintopDueled N) fun r12 =>
  some r12
 else
  loopN (fun rec19 x => kingpintopTopSeeded_b5 N l1 rules1 form1 rec19 x) N 0
end
end Go.Proofs.YtignpdbcgjllkaaGreat
