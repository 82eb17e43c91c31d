/-
 Arguments: cells that fit a type are a typed value.
-/
import Derived.Test.YtdodahpkpeodfaaGreatDoorWe
import Derived.Test.YtdodahpkpeodfaaGreatDoorOpen
namespace Go.Proofs.YtdodahpkpeodfaaGreatDoor
open Go Go.Abs Go.Kp
set_option maxRecDepth 100000
set_option maxHeartbeats 64000000
set_option linter.all false
theorem xp{F:Nat}(hF:1≤F){ds:List D}(h:Fit Tryz.prog F 9 ds):∃x:List UInt8,ds=cellsOf (.str x)∧(True):=by
 obtain⟨F,rfl⟩:∃G,F=G+1:=⟨F-1,by omega⟩
 unfold Fit at h
 rw[Tryz.underlying9]at h
 obtain⟨n,rfl⟩:=h
 exact⟨n,rfl,trivial⟩
theorem xg{F:Nat}(hF:2≤F){ds:List D}(h:Fit Tryz.prog F 22 ds):∃x:List (List UInt8),ds=cellsOf (.list 1 (List.map D.str x))∧(∀y0∈x,True):=by
 obtain⟨F,rfl⟩:∃G,F=G+1:=⟨F-1,by omega⟩
 unfold Fit at h
 rw[Tryz.underlying22]at h
 obtain⟨xs,rfl,hx⟩:=h
 have e1:KC Tryz.prog 9=false:=by unfold KC;rw[Tryz.underlying9]
 have e2:Tryz.prog.cellsOf 9=1:=by kernel_rfl
 rw[e1]at hx
 rw[e2]
 obtain⟨ys,rfl,hy⟩:∃ys:List (List UInt8),xs=List.map D.str ys∧∀y0∈ys,True:=by
  clear e1 e2
  induction xs with
  | nil=>exact⟨[],rfl,fun _ h=>by cases h⟩
  | cons x xs ih =>
   obtain⟨es,rfl,_,he⟩:=hx x (by simp)
   obtain⟨y,rfl,hy⟩:=xp (F:=F) (by omega) he
   obtain⟨ys,rfl,hys⟩:=ih fun z hz=>hx z (by simp[hz])
   refine⟨y::ys,rfl,fun z hz=>?_⟩
   rcases List.mem_cons.1 hz with rfl | hz
   ·exact hy
   ·exact hys z hz
 exact⟨ys,rfl,hy⟩
theorem Kz{F:Nat}(hF:1≤F){ds:List D}(h:Fit Tryz.prog F 3 ds):∃x:Int,ds=cellsOf (I x)∧(fits .i64 x):=by
 obtain⟨F,rfl⟩:∃G,F=G+1:=⟨F-1,by omega⟩
 unfold Fit at h
 rw[Tryz.underlying3]at h
 obtain⟨n,rfl,hn⟩:=h
 exact⟨n,rfl,hn⟩
