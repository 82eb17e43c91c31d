/-
  The plain part.
-/
import Derived.Test.YtdodahpkpeodfaaGreatDoorDDeskPlays
import Derived.Test.YtdodahpkpeodfaaGreatDoorDef
import Derived.Test.YtdodahpkpeodfaaGreatDoorLib
import Derived.KernelRfl
set_option linter.all false
namespace Go.Proofs.YtdodahpkpeodfaaGreatDoor.F
open Go.Kp
structure FrameGoal where
 fAt:FrameAt
 fLeft:Int
 deriving DecidableEq
structure Ref01Tail where
 fStand:Ref01Stand
 fOne:Int
 fTwo:Int
 deriving DecidableEq
theorem bE{n:Int}(h1:-9223372036854775808≤n)(h2:n≤9223372036854775807):w64 n=n:=by
 unfold w64 Go.IntKind.wrap
 simp only[Go.IntKind.bits,Go.IntKind.signed,Bool.true_and]
 split
 ·rename_i h
  simp only[ge_iff_le,decide_eq_true_eq]at h
  omega
 ·rename_i h
  simp only[ge_iff_le,decide_eq_true_eq]at h
  omega
theorem IR{α R:Type}{x:Option α}{a:α}(F:α→Option R)(hx:x=some a):(Option.bind x fun p=>F p)=F a:=by subst hx;rfl
structure V(l:Ref01Law):Prop where
 f1:1≤l.fFrames
 f2:l.fFrames≤10
 p1:1≤l.fPins
 p2:l.fPins≤10
 b1:2≤l.fBalls
 b2:l.fBalls≤3
 t1:1≤l.fTap
 t2:l.fTap≤l.fPins
instance (l:Ref01Law):Decidable (V l):=decidable_of_iff (1≤l.fFrames∧l.fFrames≤10∧1≤l.fPins∧l.fPins≤10∧2≤l.fBalls∧l.fBalls≤3∧1≤l.fTap∧l.fTap≤l.fPins)
 ⟨fun⟨a,b,c,d,e,f,g,h⟩=>⟨a,b,c,d,e,f,g,h⟩,fun h=>⟨h.f1,h.f2,h.p1,h.p2,h.b1,h.b2,h.t1,h.t2⟩⟩
def fl (l:Ref01Law):FrameLaw:=⟨l.fFrames,l.fPins,l.fBalls,l.fTap⟩
theorem AB(n a b:Int):db 30000 n a b=some (decide (a≤n∧n≤b)):=by
 unfold db
 by_cases h:a≤n<;>simp[h]
theorem GD(n a b:Int):Ef 30000 n a b=some (decide (a≤n∧n≤b)):=by
 unfold Ef
 by_cases h:a≤n<;>simp[h]
theorem checkLaw_eq(l:Ref01Law):Cr 30000 (fl l)=some (if V l then 0 else 1):=by
 unfold Cr fl
 simp only[AB,Option.bind_some]
 by_cases h:V l
 ·have:=h.f1;have:=h.f2;have:=h.p1;have:=h.p2;have:=h.b1;have:=h.b2;have:=h.t1;have:=h.t2
  simp[*]
 ·have h2:¬(1≤l.fFrames∧l.fFrames≤10∧1≤l.fPins∧l.fPins≤10∧2≤l.fBalls∧l.fBalls≤3∧1≤l.fTap∧l.fTap≤l.fPins):=fun⟨a,b,c,d,e,f,g,h'⟩=>h ⟨a,b,c,d,e,f,g,h'⟩
  simp only[h,if_false]
  by_cases c1:1≤l.fFrames∧l.fFrames≤10<;>by_cases c2:1≤l.fPins∧l.fPins≤10<;>by_cases c3:2≤l.fBalls∧l.fBalls≤3<;>by_cases c4:1≤l.fTap∧l.fTap≤l.fPins<;>simp[c1,c2,c3,c4]<;>omega
structure S where
 f:Int
 h:Int
 p:Int
 fr:Bool
 nd:Int
 a:Int
 c:Int
 deriving DecidableEq
def S.stand(s:S):Ref01Stand:=⟨s.f,s.h,s.p,s.fr,s.nd⟩
def S.tail(s:S):Ref01Tail:=⟨s.stand,s.a,s.c⟩
def S.at (s:S):FrameAt:=⟨s.f,s.h,s.p,s.fr,s.nd,⟨s.a,s.c⟩⟩
def S.play(l:Ref01Law)(s:S):FramePlay:=⟨fl l,s.at⟩
def s0 (l:Ref01Law):S:=⟨0,0,l.fPins,true,l.fBalls,0,0⟩
def cnt (l:Ref01Law)(s:S)(b:Int):Int:=if s.fr=true∧l.fTap≤max 0 b then l.fPins else max 0 b
def wor (l:Ref01Law)(s:S)(b:Int):Int:=cnt l s b*(1+s.a)
def CC (l:Ref01Law)(s:S)(n:Int):S :=
 if s.f=l.fFrames-1 then
  if s.p=n∧s.h+1<3 then⟨s.f,s.h+1,l.fPins,true,3,s.c,0⟩
  else if s.h+1=s.nd then⟨s.f+1,0,l.fPins,true,l.fBalls,s.c,0⟩
  else⟨s.f,s.h+1,s.p-n,false,s.nd,s.c,0⟩
 else if s.p=n then⟨s.f+1,0,l.fPins,true,l.fBalls,s.c+(if s.h+1≤2 then 1 else 0),if s.h+1=1 then 1 else 0⟩
 else if s.h+1=s.nd then⟨s.f+1,0,l.fPins,true,l.fBalls,s.c,0⟩
 else⟨s.f,s.h+1,s.p-n,false,s.nd,s.c,0⟩
def nxt (l:Ref01Law)(s:S)(b:Int):S:=CC l s (cnt l s b)
structure Inv(l:Ref01Law)(s:S):Prop where
 f0:0≤s.f
 f1:s.f≤l.fFrames
 h0:0≤s.h
 hn:s.h<s.nd
 nd:s.nd=l.fBalls∨(s.nd=3∧s.f=l.fFrames-1)
 p0:1≤s.p
 p1:s.p≤l.fPins
 fr:s.fr=true→s.p=l.fPins
 h00:s.h=0→s.fr=true
 hfr:s.fr=true→s.h=0∨(s.f=l.fFrames-1∧s.nd=3)
 a0:0≤s.a
 a2:s.a≤2
 c0:0≤s.c
 c1:s.c≤1
 dn:s.f=l.fFrames→s.h=0
def may (l:Ref01Law)(s:S)(b:Int):Prop:=s.f<l.fFrames∧-1≤b∧b≤s.p
instance (l:Ref01Law) (s:S) (b:Int):Decidable (may l s b):=inferInstanceAs (Decidable (_∧_))
theorem inv0{l:Ref01Law}(h:V l):Inv l (s0 l):=by
 have:=h.f1;have:=h.p1;have:=h.b1
 constructor<;>simp[s0]<;>omega
theorem DS{l:Ref01Law}{s:S}(hV:V l)(hi:Inv l s){b:Int}(hb:b≤s.p):0≤cnt l s b∧cnt l s b≤s.p:=by
 have:=hi.p0;have:=hi.fr;have:=hV.p1
 unfold cnt
 split
 ·rename_i h;have:=hi.fr h.1;omega
 ·omega
theorem HZ{l:Ref01Law}{s:S}(hV:V l)(hi:Inv l s)(hf:s.f<l.fFrames){n:Int}(h0:0≤n)(h1:n≤s.p):Inv l (CC l s n):=by
 obtain⟨f0,f1,h0',hn,nd,p0,p1,fr,h00,hfr,a0,a2,c0,c1,dn⟩:=hi
 obtain⟨v1,v2,v3,v4,v5,v6,v7,v8⟩:=hV
 unfold CC
 split
 ·split
  ·constructor<;>simp<;>omega
  ·split
   ·constructor<;>simp<;>omega
   ·constructor<;>simp<;>omega
 ·split
  ·constructor<;>simp<;>(try split)<;>(try split)<;>omega
  ·split
   ·constructor<;>simp<;>omega
   ·constructor<;>simp<;>omega
theorem D0{l:Ref01Law}{s:S}(hV:V l)(hi:Inv l s){b:Int}(hf:s.f<l.fFrames)(hb:b≤s.p):Inv l (nxt l s b) :=
 HZ hV hi hf (DS hV hi hb).1 (DS hV hi hb).2
theorem Jf{n a:Int}(h0:0≤n)(h1:n≤10)(h2:0≤a)(h3:a≤2):w64 (n*w64 (1+a))=n*(1+a):=by
 rw[bE (n:=1+a) (by omega) (by omega)]
 have:a=0∨a=1∨a=2:=by omega
 rcases this with rfl | rfl | rfl<;>exact bE (by omega) (by omega)
theorem B9{l:Ref01Law}{s:S}(hV:V l)(hi:Inv l s){b:Int}(hf:s.f<l.fFrames)(hb:b≤s.p) :
  bA 30000 (s.play l) b=some ((nxt l s b).play l,cnt l s b,wor l s b):=by
 have hc:=DS hV hi hb
 unfold bA
 have e1:(Option.bind (if(S.play l s).fAt.fFresh=true then some (max 0 b,decide ((S.play l s).fLaw.fTap≤max 0 b))else some (max 0 b,false)) fun(v4,v5)=>if v5=true then some (S.play l s).fLaw.fPins else some v4)=some (cnt l s b):=by
  show(Option.bind (if s.fr=true then some (max 0 b,decide (l.fTap≤max 0 b))else some (max 0 b,false)) fun(v4,v5)=>if v5=true then some l.fPins else some v4)=some (cnt l s b)
  unfold cnt
  by_cases h1:s.fr=true
  ·by_cases h2:l.fTap≤max 0 b<;>simp[h1,h2]
  ·simp[h1]
 rw[e1]
 unfold nxt wor
 generalize cnt l s b=n at hc ⊢
 clear e1
 obtain⟨f0,f1,h0',hn,nd,p0,p1,fr,h00,hfr,a0,a2,c0,c1,dn⟩:=hi
 obtain⟨v1,v2,v3,v4,v5,v6,v7,v8⟩:=hV
 obtain⟨f,h,p,fr',nd',a,c⟩:=s
 simp only at *
 simp only[Option.bind_some,S.play,S.at,fl]
 have e2:=Jf hc.1 (by omega) a0 a2
 have e3:=bE (n:=l.fFrames-1) (by omega) (by omega)
 have e4:=bE (n:=p-n) (by omega) (by omega)
 have e5:=bE (n:=h+1) (by omega) (by omega)
 have e6:=bE (n:=c+1) (by omega) (by omega)
 have e7:=bE (n:=f+1) (by omega) (by omega)
 have e8:w64 (0+1)=1:=by decide
 have e0:w64 1=1:=by decide
 have e9:=bE (n:=l.fFrames) (by omega) (by omega)
 simp only[e2,e3,e4,e5]
 unfold CC
 have hh:h=0∨h=1∨h=2:=by omega
 have hnd3:nd'=2∨nd'=3:=by omega
 by_cases hl:f=l.fFrames-1
 ·by_cases hd:p=n
  ·have hd':p-n=0:=by omega
   rcases hh with rfl | rfl | rfl
   ·simp[hl,hd,e7]
   ·simp[hl,hd,e7]
   ·have:nd'=3:=by omega
    subst this
    simp[hl,hd,e9]
  ·have hd':¬p-n=0:=by omega
   by_cases hq:h+1=nd'
   ·simp[hl,hd,hd',e9,hq]
   ·simp[hl,hd,hd',e9,hq]
 ·by_cases hd:p=n
  ·have hd':p-n=0:=by omega
   have:¬f=l.fFrames-1:=hl
   rcases hh with rfl | rfl | rfl
   ·simp[hl,hd,e7,e6,e8,e0]
   ·simp[hl,hd,e7,e6,e8,e0]
   ·simp[hl,hd,e7,e6,e8,e0]
  ·have hd':¬p-n=0:=by omega
   by_cases hq:h+1=nd'
   ·simp[hl,hd,hd',e7,hq]
   ·simp[hl,hd,hd',e7,hq]
theorem H0{l:Ref01Law}{s:S}(hV:V l)(hi:Inv l s){b:Int}(hf:s.f<l.fFrames)(hb:b≤s.p) :
  Di 30000 l s.stand b=some ((nxt l s b).stand,cnt l s b):=by
 have hc:=DS hV hi hb
 unfold Di
 have e1:(Option.bind (if decide (b<0)=true then some 0 else some b) fun v1=>Option.bind (Option.bind (if s.stand.fSet=true then some (decide (l.fTap≤v1))else some false) fun v4=>if v4=true then some l.fPins else some v1) fun v3=>some v3)=some (cnt l s b):=by
  have hm:(if decide (b<0)=true then some (0:Int)else some b)=some (max 0 b):=by
   by_cases h:b<0
   ·have:max 0 b=0:=by omega
    simp[h,this]
   ·have:max 0 b=b:=by omega
    simp[h,this]
  rw[hm]
  show(Option.bind (some (max 0 b)) fun v1=>Option.bind (Option.bind (if s.fr=true then some (decide (l.fTap≤v1))else some false) fun v4=>if v4=true then some l.fPins else some v1) fun v3=>some v3)=some (cnt l s b)
  unfold cnt
  by_cases h1:s.fr=true
  ·by_cases h2:l.fTap≤max 0 b<;>simp[h1,h2]
  ·simp[h1]
 obtain⟨v1,q1,q2⟩:=obind e1
 obtain⟨v3,q3,q4⟩:=obind q2
 cases q4
 rw[q1]
 simp only[Option.bind_some]
 rw[q3]
 unfold nxt
 generalize cnt l s b=n at hc ⊢
 clear e1 q1 q2 q3
 obtain⟨f0,f1,h0',hn,nd,p0,p1,fr,h00,hfr,a0,a2,c0,c1,dn⟩:=hi
 obtain⟨v1,v2,v3,v4,v5,v6,v7,v8⟩:=hV
 obtain⟨f,h,p,fr',nd',a,c⟩:=s
 simp only at *
 simp only[Option.bind_some,S.stand]
 have e3:=bE (n:=l.fFrames-1) (by omega) (by omega)
 have e4:=bE (n:=p-n) (by omega) (by omega)
 have e5:=bE (n:=h+1) (by omega) (by omega)
 have e7:=bE (n:=f+1) (by omega) (by omega)
 have e9:=bE (n:=l.fFrames) (by omega) (by omega)
 simp only[e3,e4,e5,e7]
 unfold CC
 have hh:h=0∨h=1∨h=2:=by omega
 by_cases hl:f=l.fFrames-1
 ·have hl':¬f<l.fFrames-1:=by omega
  by_cases hd:p=n
  ·have hd':p-n=0:=by omega
   rcases hh with rfl | rfl | rfl
   ·simp[hl,hd]
   ·simp[hl,hd]
   ·have:nd'=3:=by omega
    subst this
    simp[hl,hd]
  ·have hd':¬p-n=0:=by omega
   by_cases hq:h+1=nd'
   ·simp[hl,hd,hd',hq]
   ·simp[hl,hd,hd',hq]
 ·have hl':f<l.fFrames-1:=by omega
  have:nd'=l.fBalls:=by omega
  subst this
  by_cases hd:p=n
  ·have hd':p-n=0:=by omega
   simp[hl,hl',hd]
  ·have hd':¬p-n=0:=by omega
   by_cases hq:h+1=l.fBalls
   ·simp[hl,hl',hd,hd',hq]
   ·simp[hl,hl',hd,hd',hq]
theorem Is{l:Ref01Law}{s:S}{n:Int}(hh:s.h=0∨s.h=1∨s.h=2) :
  (CC l s n).a=s.c+(if s.f≠l.fFrames-1∧s.p=n∧s.h+1≤2 then 1 else 0)∧(CC l s n).c=if s.f≠l.fFrames-1∧s.p=n∧s.h+1=1 then 1 else 0:=by
 unfold CC
 by_cases hl:s.f=l.fFrames-1
 ·simp only[hl,ne_eq,not_true,false_and,if_false,if_true]
  split
  ·simp
  ·split<;>simp
 ·by_cases hd:s.p=n
  ·simp[hl,hd]
  ·simp only[hl,hd,if_false,false_and,and_false]
   split<;>simp
end Go.Proofs.YtdodahpkpeodfaaGreatDoor.F
namespace Go.Proofs.YtdodahpkpeodfaaGreatDoor.F
open Go.Kp
theorem Al{l:Ref01Law}{s:S}(hi:Inv l s)(b:Int):dx 30000 (s.play l) b=some (decide (may l s b)):=by
 unfold dx cT
 simp only[AB,Option.bind_some]
 have:=hi.f1
 show(Option.bind (if(!decide (s.f=l.fFrames))=true then some (decide (-1≤b∧b≤s.p))else some false) fun v1=>some v1)=_
 unfold may
 by_cases h:s.f=l.fFrames
 ·simp[h]
 ·have:s.f<l.fFrames:=by omega
  simp[h,this]
theorem It(l:Ref01Law)(s:S)(b:Int):Dv 30000 l s.stand b=some (decide (may l s b)):=by
 unfold Dv
 simp only[GD,Option.bind_some]
 show(Option.bind (if decide (s.f<l.fFrames)=true then some (decide (-1≤b∧b≤s.p))else some false) fun v1=>some v1)=_
 unfold may
 by_cases h:s.f<l.fFrames<;>simp[h]
def zu (l:Ref01Law):S→List Int→Nat
 | _,[]=>0
 | s,b::bs=>if may l s b then zu l (nxt l s b) bs+1 else 0
def run (l:Ref01Law):S→List Int→S
 | s,[]=>s
 | s,b::bs=>run l (nxt l s b) bs
def Ok (l:Ref01Law):S→List Int→Prop
 | _,[]=>True
 | s,b::bs=>may l s b∧Ok l (nxt l s b) bs
instance instOk (l:Ref01Law):(s:S)→(bs:List Int)→Decidable (Ok l s bs)
 | _,[]=>isTrue trivial
 | s,b::bs=>match inferInstanceAs (Decidable (may l s b)),instOk l (nxt l s b) bs with
  | isTrue h,isTrue k=>isTrue ⟨h,k⟩
  | isFalse h,_=>isFalse fun x=>h x.1
  | _,isFalse k=>isFalse fun x=>k x.2
def DF (l:Ref01Law):S→List Int→List Ref01Ball
 | _,[]=>[]
 | s,b::bs=>⟨s.f,cnt l s b⟩::DF l (nxt l s b) bs
theorem AM(l:Ref01Law):∀(s:S) (bs:List Int),zu l s bs≤bs.length
 | _,[]=>Nat.le_refl _
 | s,b::bs=>by
  unfold zu
  split
  ·have:=AM l (nxt l s b) bs;simp;omega
  ·simp
theorem EA(l:Ref01Law):∀(s:S) (bs:List Int),Ok l s bs↔zu l s bs=bs.length
 | _,[]=>by simp[Ok,zu]
 | s,b::bs=>by
  unfold zu Ok
  have:=EA l (nxt l s b) bs
  split
  ·rename_i h;simp[h,this]
  ·rename_i h;simp[h]
theorem ok_app(l:Ref01Law):∀(s:S) (xs ys:List Int),Ok l s (xs++ys)↔Ok l s xs∧Ok l (run l s xs) ys
 | _,[],ys=>by simp[Ok,run]
 | s,x::xs,ys=>by
  show(may l s x∧Ok l (nxt l s x) (xs++ys))↔(may l s x∧Ok l (nxt l s x) xs)∧Ok l (run l (nxt l s x) xs) ys
  rw[ok_app l (nxt l s x) xs ys,and_assoc]
theorem we(l:Ref01Law):∀(s:S) (xs ys:List Int),run l s (xs++ys)=run l (run l s xs) ys
 | _,[],ys=>rfl
 | s,x::xs,ys=>we l (nxt l s x) xs ys
theorem Ei(l:Ref01Law):∀(s:S) (xs:List Int),(DF l s xs).length=xs.length
 | _,[]=>rfl
 | s,x::xs=>by show _+1=_;rw[Ei l (nxt l s x) xs];rfl
theorem GI{l:Ref01Law}(hV:V l):∀{s:S} {bs:List Int},Inv l s→Ok l s bs→Inv l (run l s bs)
 | _,[],hi,_=>hi
 | s,b::bs,hi,hk=>by
  have:=GI hV (s:=nxt l s b) (bs:=bs) (D0 hV hi hk.1.1 hk.1.2.2) hk.2
  exact this
theorem ij{α:Type}{l:List α}{i:Nat}{x:α}(h:l[i]? = some x):idx l (i:Int)=some x:=by
 unfold idx;simp[h]
theorem E5{α:Type}{l:List α}{i:Nat}(h:i<l.length):∃x,l[i]? = some x∧l.drop i=x::l.drop (i+1):=by
 refine⟨l[i],by simp[h],?_⟩
 rw[List.drop_eq_getElem_cons h]
theorem Aq{σ R ι:Type}{b:(σ→Option R)→σ→Option R}(x:ι→σ)(f:ι→Option R)(μ:ι→Nat)(ok:ι→Prop)
  (h:∀i rec,ok i→(∀j,ok j→μ j<μ i→rec (x j)=f j)→b rec (x i)=f i):∀(n:Nat) (i:ι),ok i→μ i<n→loopN b n (x i)=f i:=by
 intro n
 induction n with
 | zero=>intro x _ hx;omega
 | succ n ih=>intro x hx hn;exact h x _ hx fun y hy hlt=>ih y hy (by omega)
theorem Hb{l:Ref01Law}(hV:V l)(sheet:List Int)(hn:sheet.length≤45):jy 30000 (fl l) sheet=some (zu l (s0 l) sheet:Int):=by
 have key:loopN (fun rec3 x=>de 30000 sheet rec3 x.1 x.2.1 x.2.2.1 x.2.2.2) 30000 ((sheet.length:Int),0,(s0 l).play l,0)=some (zu l (s0 l) sheet:Int):=by
  have h:=Aq (ι:=Nat×S) (b:=fun rec3 x=>de 30000 sheet rec3 x.1 x.2.1 x.2.2.1 x.2.2.2) (fun i=>((sheet.length:Int),(i.1:Int),i.2.play l,(i.1:Int))) (fun i=>some ((i.1+zu l i.2 (sheet.drop i.1):Nat):Int))
   (fun i=>sheet.length-i.1) (fun i=>i.1≤sheet.length∧Inv l i.2) ?_ 30000 (0,s0 l) ⟨Nat.zero_le _,inv0 hV⟩ (by simp;omega)
  ·simpa using h
  ·rintro⟨i,s⟩ rec ⟨hi,hI⟩ ih
   simp only at hi hI ih ⊢
   unfold de
   by_cases hlt2:i<sheet.length
   ·obtain⟨x,hx,hd⟩:=E5 hlt2
    rw[if_pos (by simpa using hlt2),ij hx]
    simp only[Option.bind_some,Al hI]
    rw[hd]
    by_cases hm:may l s x
    ·simp only[hm,decide_true,Bool.not_true,Bool.false_eq_true,if_false]
     rw[B9 hV hI hm.1 hm.2.2]
     simp only[Option.bind_some]
     rw[bE (by omega) (by omega)]
     have:=ih (i+1,nxt l s x) ⟨by omega,D0 hV hI hm.1 hm.2.2⟩ (by simp only;omega)
     simp only at this
     rw[show((i:Int)+1)=((i+1:Nat):Int) by omega,this]
     simp only[zu,hm,if_true]
     congr 2
     omega
    ·simp[hm,zu]
   ·rw[if_neg (by simpa using hlt2),List.drop_eq_nil_of_le (by omega)]
    simp[zu]
 unfold jy cS bL
 simp only[Option.bind_some]
 have e:(FramePlay.mk (fl l) (FrameAt.mk 0 0 (fl l).fPins true (fl l).fBalls (Ar2.mk 0 0)))=(s0 l).play l:=rfl
 rw[e,key]
 rfl
theorem nL{α:Type}{l m:List α}(h:l.length+m.length≤30000):app 30000 l m=some (l++m):=by
 unfold app;rw[if_pos h]
theorem Cb{xs:List Int}(h:xs.length≤30000):gc 30000 xs=some xs:=by
 unfold gc
 rw[nL (by simpa using h)]
 rfl
theorem Ca{l:Ref01Law}(hV:V l)(sheet:List Int)(hn:sheet.length≤90) :
  Ct 30000 l sheet=some ((run l (s0 l) (sheet.take (zu l (s0 l) sheet))).stand,DF l (s0 l) (sheet.take (zu l (s0 l) sheet))):=by
 have key:loopN (fun rec3 x=>CG 30000 l sheet rec3 x.1 x.2.1 x.2.2) 30000 (0,(s0 l).stand,[]) =
   some ((run l (s0 l) (sheet.take (zu l (s0 l) sheet))).stand,DF l (s0 l) (sheet.take (zu l (s0 l) sheet))):=by
  have h:=Aq (ι:=Nat×S×List Ref01Ball) (b:=fun rec3 x=>CG 30000 l sheet rec3 x.1 x.2.1 x.2.2) (fun i=>((i.1:Int),i.2.1.stand,i.2.2))
   (fun i=>some ((run l i.2.1 ((sheet.drop i.1).take (zu l i.2.1 (sheet.drop i.1)))).stand,i.2.2++DF l i.2.1 ((sheet.drop i.1).take (zu l i.2.1 (sheet.drop i.1)))))
   (fun i=>sheet.length-i.1) (fun i=>i.1≤sheet.length∧Inv l i.2.1∧i.2.2.length≤i.1) ?_ 30000 (0,s0 l,[]) ⟨Nat.zero_le _,inv0 hV,Nat.le_refl _⟩ (by simp;omega)
  ·simpa using h
  ·rintro⟨i,s,o⟩ rec ⟨hi,hI,ho⟩ ih
   simp only at hi hI ho ih ⊢
   unfold CG
   by_cases hlt2:i<sheet.length
   ·obtain⟨x,hx,hd⟩:=E5 hlt2
    rw[if_pos (by simpa using hlt2),ij hx]
    simp only[Option.bind_some,It]
    rw[hd]
    by_cases hm:may l s x
    ·simp only[hm,decide_true,if_true]
     rw[H0 hV hI hm.1 hm.2.2]
     simp only[Option.bind_some]
     rw[bE (by omega) (by omega),nL (by simp;omega)]
     simp only[Option.bind_some]
     have:=ih (i+1,nxt l s x,o++[⟨s.f,cnt l s x⟩]) ⟨by omega,D0 hV hI hm.1 hm.2.2,by simp;omega⟩ (by simp only;omega)
     simp only at this
     show rec ((i:Int)+1,(nxt l s x).stand,o++[⟨s.f,cnt l s x⟩])=_
     rw[show((i:Int)+1)=((i+1:Nat):Int) by omega,this]
     simp[zu,hm,run,DF]
    ·simp[hm,zu,run,DF]
   ·rw[if_neg (by simpa using hlt2),List.drop_eq_nil_of_le (by omega)]
    simp[zu,run,DF]
 unfold Ct DK
 simp only[Option.bind_some]
 have e:(Ref01Stand.mk 0 0 l.fPins true l.fBalls)=(s0 l).stand:=rfl
 rw[e,key]
 rfl
theorem H1{l:Ref01Law}{s:S}{sheet:List Int}(h:Ok l s sheet):sheet.take (zu l s sheet)=sheet:=by
 rw[(EA l s sheet).1 h,List.take_length]
theorem play_ok{l:Ref01Law}(hV:V l){sheet:List Int}(hn:sheet.length≤90)(h:Ok l (s0 l) sheet):Ct 30000 l sheet=some ((run l (s0 l) sheet).stand,DF l (s0 l) sheet):=by
 rw[Ca hV sheet hn,H1 h]
theorem is_eq{l:Ref01Law}(hV:V l)(sheet:List Int)(hn:sheet.length≤90):DX 30000 l sheet=some (decide (Ok l (s0 l) sheet)):=by
 unfold DX
 rw[Ca hV sheet hn]
 simp only[Option.bind_some,Ei,List.length_take]
 have h1:=AM l (s0 l) sheet
 have h2:=EA l (s0 l) sheet
 rw[Nat.min_eq_left h1]
 congr 1
 rw[decide_eq_decide,h2]
 omega
def flt (l:Ref01Law)(sheet:List Int):Int:=if ¬V l then 1 else if 40<sheet.length then 3 else if ¬Ok l (s0 l) sheet then 10 else 0
theorem vA(l:Ref01Law)(sheet:List Int)(hn:sheet.length≤45):fj 30000 (fl l) sheet=some (flt l sheet):=by
 unfold fj flt
 simp only[checkLaw_eq,Option.bind_some]
 by_cases hV:V l
 ·simp only[hV,if_true,decide_true,Bool.not_true,Bool.false_eq_true,if_false,not_true]
  by_cases h:40<sheet.length
  ·rw[if_pos (by simpa using(by omega:(40:Int)<(sheet.length:Int)))];simp[h]
  ·have h':¬(40:Int)<sheet.length:=by omega
   rw[Hb hV sheet hn]
   have h1:=AM l (s0 l) sheet
   have h2:=EA l (s0 l) sheet
   by_cases hk:Ok l (s0 l) sheet
   ·have:=h2.1 hk
    simp[h,h',hk,this]
   ·have:zu l (s0 l) sheet<sheet.length:=by
     have:zu l (s0 l) sheet≠sheet.length:=fun e=>hk (h2.2 e)
     omega
    simp[h,h',hk,this]
 ·simp[hV]
theorem flt_ok{l:Ref01Law}{sheet:List Int}:flt l sheet=0↔V l∧sheet.length≤40∧Ok l (s0 l) sheet:=by
 unfold flt
 by_cases hV:V l<;>by_cases h:40<sheet.length<;>by_cases hk:Ok l (s0 l) sheet<;>simp[hV,h,hk]<;>omega
end Go.Proofs.YtdodahpkpeodfaaGreatDoor.F
namespace Go.Proofs.YtdodahpkpeodfaaGreatDoor
open Go.Kp
theorem zh{σ R:Type}{B:(σ→Option R)→σ→Option R}(I:Nat→σ→Prop)(Q:R→Prop)
  (h:∀k x rec,I k x→(∀k' y,k'<k→I k' y→∃r,rec y=some r∧Q r)→∃r,B rec x=some r∧Q r) :
  ∀(n k:Nat) (x:σ),I k x→k<n→∃r,loopN B n x=some r∧Q r:=by
 intro n
 induction n with
 | zero=>intro k x _ hk;omega
 | succ n ih=>intro k x hI hk;exact h k x _ hI fun k' y hk' hy=>ih k' y hy (by omega)
/-! The house's games. -/
def zk:FrameLaw:=FrameLaw.mk 3 10 2 10
abbrev L0:Ref01Law:=Ref01Law.mk 3 10 2 10
def fit (l:List Int):Bool:=decide (F.Ok L0 (F.s0 L0) l)
structure GX(N:Nat):Prop where
 rd:∀l:List Int,l.length≤80→∃g e,gm N zk l=some (g,e)∧(decide (e=0)=fit l)∧g.fCounts.length≤3∧(g.fDone=true→g.fCounts≠[])∧∀c,g.fCounts.getLast? = some c→0≤c∧c≤300
end Go.Proofs.YtdodahpkpeodfaaGreatDoor
namespace Go.Proofs.YtdodahpkpeodfaaGreatDoor
open Go.Kp
variable {N:Nat}
/-! What each word does with its numbers, in plain words. -/
theorem zi(n a b:Int):cJ N n a b=some (decide (a≤n)&&decide (n≤b)):=by
 unfold cJ
 by_cases h:a≤n<;>simp[h]
theorem yl(b:Bool)(e:Int):b7 N b e=some (if b then .inr ()else .inl (DeskRefusal.mk e)):=by cases b<;>rfl
theorem yS(l:List Int)(h:l.length≤N):cG N l=some l:=by
 unfold cG gc;rw[nL (by simpa using h)];rfl
theorem zX(l:List (List Int))(h:l.length≤N):gd N l=some l:=by
 unfold gd ff;rw[nL (by simpa using h)];rfl
theorem Ao(l:List DeskLane)(h:l.length≤N):fh N l=some l:=by
 unfold fh eA;rw[nL (by simpa using h)];rfl
theorem Aa(l:List RateSheet)(h:l.length≤N):gD N l=some l:=by
 unfold gD dR;rw[nL (by simpa using h)];rfl
theorem zM(l:List LadderResult)(h:l.length≤N):yk N l=some l:=by
 unfold yk yp;rw[nL (by simpa using h)];rfl
theorem AN(l:List Int)(x:Int)(h:l.length<N):jw N l x=some (l++[x]):=by
 unfold jw;rw[yS l (by omega),Option.bind_some,nL (by simp;omega)];rfl
theorem BR(l:List (List Int))(x:List Int)(h:l.length<N):lH N l x=some (l++[x]):=by
 unfold lH;rw[zX l (by omega),Option.bind_some,nL (by simp;omega)];rfl
theorem BC(l:List RateSheet)(x:RateSheet)(h:l.length<N):ze N l x=some (l++[x]):=by
 unfold ze;rw[Aa l (by omega),Option.bind_some,nL (by simp;omega)];rfl
theorem Bp(l:List LadderResult)(x:LadderResult)(h:l.length<N):yY N l x=some (l++[x]):=by
 unfold yY;rw[zM l (by omega),Option.bind_some,nL (by simp;omega)];rfl
structure SI(i:Nat)(s:DeskState):Prop where
 la:s.fLanes.length=4
 lb:∀x∈s.fLanes,-1≤x.fBowler∧x.fBowler<s.fBowlers.length∧x.fBalls.length≤i
 bl:s.fBowlers.length≤8
 kl:s.fKept.length=s.fBowlers.length
 kb:∀x∈s.fKept,x.length≤i
 sl:s.fSheets.length≤40
 wl:s.fWithdrawn.length≤i
 rl:s.fResults.length≤i
 rg:∀r∈s.fResults,r.fGames.length=1
def emb (s:DeskState):Int⊕DeskState→(DeskRefusal×DeskWork)⊕DeskWork
 | .inl e=>.inl (DeskRefusal.mk e,DeskWork.mk s)
 | .inr t=>.inr (DeskWork.mk t)
def lane (s:DeskState)(n:Int):Option DeskLane:=if 0≤n then s.fLanes[n.toNat]? else none
def put (s:DeskState)(n:Int)(x:DeskLane):DeskState:={s with fLanes:=s.fLanes.set n.toNat x}
def zN (s:DeskState)(a:Int):Int⊕DeskState :=
 if ¬(0≤a∧a≤300)then .inl 2 else if ¬s.fBowlers.length<8 then .inl 3 else if s.fResults.length≠0 then .inl 8
 else .inr {s with fBowlers:=s.fBowlers++[a],fKept:=s.fKept++[[]]}
def known(s:DeskState)(b:Int):Prop:=0≤b∧b<s.fBowlers.length
instance (s:DeskState) (b:Int):Decidable (known s b):=inferInstanceAs (Decidable (_∧_))
def AO (s:DeskState)(n b:Int):Int⊕DeskState:=match lane s n with
 | none=>.inl 7
 | some x=>if ¬known s b then .inl 7 else if x.fBowler=-1∧¬(∃y∈s.fLanes,y.fBowler=b)then .inr (put s n (DeskLane.mk b []))else .inl 6
def AP (s:DeskState)(n p:Int):Int⊕DeskState:=match lane s n with
 | none=>.inl 7
 | some x=>if x.fBowler=-1 then .inl 8 else if fit (x.fBalls++[p])then .inr (put s n (DeskLane.mk x.fBowler (x.fBalls++[p])))else .inl 10
def AQ (s:DeskState)(n:Int):Int⊕DeskState:=match lane s n with
 | none=>.inl 7
 | some x=>if x.fBowler=-1 then .inl 8 else if x.fBalls=[] then .inl 8 else .inr (put s n (DeskLane.mk x.fBowler x.fBalls.dropLast))
theorem Bv{s:DeskState}(h:s.fLanes.length=4)(n:Int):Cl N n (DeskWork.mk s)=some (match lane s n with | none=>.inl (DeskRefusal.mk 7) | some x=>.inr x):=by
 unfold Cl lane
 simp only[h,zi,Option.bind_some,yl]
 have e:w64 (((4:Nat):Int)-1)=3:=by decide
 rw[e]
 by_cases h0:0≤n
 ·by_cases h3:n≤3
  ·simp only[h0,h3,decide_true,Bool.and_true,if_true]
   have hlt:n.toNat<s.fLanes.length:=by omega
   rw[yy h0 (List.getElem?_eq_getElem hlt),List.getElem?_eq_getElem hlt]
   rfl
  ·have:s.fLanes.length≤n.toNat:=by omega
   simp[h0,h3,List.getElem?_eq_none this]
 ·simp[h0]
theorem AR{s:DeskState}(h:s.fLanes.length=4)(n:Int):gf N n (DeskWork.mk s)=some (match lane s n with | none=>.inl (DeskRefusal.mk 7) | some x=>if x.fBowler=-1 then .inl (DeskRefusal.mk 8)else .inr x):=by
 unfold gf
 rw[Bv h]
 cases lane s n with
 | none=>rfl
 | some x =>
  simp only[Option.bind_some,yl]
  by_cases hb:x.fBowler=-1<;>simp[hb]
theorem A8{s:DeskState}(h:s.fBowlers.length≤8)(b:Int):fg N b (DeskWork.mk s)=some (decide (known s b)):=by
 unfold fg
 dsimp only
 rw[bE (by omega) (by omega),zi,Option.bind_some]
 congr 1
 unfold known
 by_cases h0:0≤b
 ·by_cases h1:b<s.fBowlers.length
  ·simp[h0,h1];omega
  ·simp[h0,h1];omega
 ·simp[h0]
theorem zr{s:DeskState}{n:Int}{x:DeskLane}(h:lane s n=some x):0≤n∧n.toNat<s.fLanes.length∧s.fLanes[n.toNat]? = some x:=by
 unfold lane at h
 split at h
 ·rename_i h0;exact⟨h0,(List.getElem?_eq_some_iff.1 h).1,h⟩
 ·cases h
theorem put_eq{s:DeskState}(h:s.fLanes.length=4)(hN:100≤N){n:Int}{x:DeskLane}(hx:lane s n=some x)(y:DeskLane):gU N n y (DeskWork.mk s)=some (DeskWork.mk (put s n y)):=by
 obtain⟨h0,_,hx⟩:=zr hx
 unfold gU
 rw[Ao _ (by simp only[h];omega),Option.bind_some,yy h0 hx,Option.bind_some]
 rfl
theorem BD{i:Nat}{s:DeskState}(h:SI i s)(hi:i≤60)(hN:20000≤N){l:List Int}{a:Int}(hl:l[0]? = some a):gB N l (DeskWork.mk s)=some (emb s (zN s a)):=by
 unfold gB zN
 have e0:idx l 0=some a:=ij (i:=0) hl
 rw[e0]
 simp only[Option.bind_some,zi,yl]
 have hb:=h.bl
 have hk:=h.kl
 by_cases h1:0≤a∧a≤300
 ·simp only[h1.1,h1.2,decide_true,Bool.and_self,if_true,and_self,not_true_eq_false,if_false]
  by_cases h2:s.fBowlers.length<8
  ·rw[decide_eq_true (by omega:((s.fBowlers.length:Int)<8))]
   simp only[h2,if_true,not_true_eq_false,if_false]
   by_cases h3:s.fResults.length=0
   ·rw[decide_eq_true (by omega:((s.fResults.length:Int)=0))]
    simp only[h3,if_true,ne_eq,not_true_eq_false,if_false]
    rw[AN _ _ (by omega),Option.bind_some,BR _ _ (by omega),Option.bind_some]
    rfl
   ·rw[decide_eq_false (by omega:¬((s.fResults.length:Int)=0))]
    simp[h3,emb]
  ·rw[decide_eq_false (by omega:¬((s.fBowlers.length:Int)<8))]
   simp[h2,emb]
 ·rw[if_pos h1]
  have:(decide (0≤a)&&decide (a≤300))=false:=by
   rw[Bool.eq_false_iff];intro e;simp only[Bool.and_eq_true,decide_eq_true_eq]at e;exact h1 e
  rw[this]
  rfl
theorem B1{i:Nat}{s:DeskState}(h:SI i s)(hi:i≤60)(hN:20000≤N){l:List Int}{a b:Int}(hl:l[0]? = some a)(hl1:l[1]? = some b):iO N l (DeskWork.mk s)=some (emb s (AO s a b)):=by
 unfold iO dP AO
 have e0:idx l 0=some a:=ij (i:=0) hl
 have e1:idx l 1=some b:=ij (i:=1) hl1
 rw[e0,Option.bind_some,Bv h.la,Option.bind_some]
 cases hx:lane s a with
 | none=>rfl
 | some x =>
  simp only[e1,e0,Option.bind_some,A8 h.bl,yl]
  by_cases hk:known s b
  ·simp only[hk,decide_true,if_true,not_true_eq_false,if_false]
   by_cases hb:x.fBowler=-1
   ·have hcf:dD N s.fLanes l=some (s.fLanes.any fun y=>decide (y.fBowler=b)) :=
     nM (N:=N) s.fLanes (fun y=>gZ N y l) (fun y=>decide (y.fBowler=b)) (fun y _=>by unfold gZ;rw[e1];rfl) (by rw[h.la];omega) (by rw[h.la];omega)
    simp only[hb,decide_true,if_true,hcf,Option.bind_some,true_and]
    by_cases ha:∃y∈s.fLanes,y.fBowler=b
    ·have:(s.fLanes.any fun y=>decide (y.fBowler=b))=true:=by simpa using ha
     simp only[this,Bool.not_true,Bool.false_eq_true,if_false,ha,not_true_eq_false]
     rfl
    ·have:(s.fLanes.any fun y=>decide (y.fBowler=b))=false:=by simpa using ha
     simp only[this,Bool.not_false,if_true,ha,not_false_eq_true]
     rw[put_eq h.la (by omega) hx]
     rfl
   ·simp only[hb,decide_false,Bool.false_eq_true,if_false,false_and]
    rfl
  ·simp only[hk,decide_false,Bool.false_eq_true,if_false,not_false_eq_true,if_true]
   rfl
theorem B2{i:Nat}{s:DeskState}(hG:GX N)(h:SI i s)(hi:i≤60)(hN:20000≤N){l:List Int}{a b:Int}(hl:l[0]? = some a)(hl1:l[1]? = some b):iQ N l (DeskWork.mk s)=some (emb s (AP s a b)):=by
 unfold iQ AP
 have e0:idx l 0=some a:=ij (i:=0) hl
 have e1:idx l 1=some b:=ij (i:=1) hl1
 rw[e0,Option.bind_some,AR h.la,Option.bind_some]
 cases hx:lane s a with
 | none=>rfl
 | some x =>
  by_cases hb:x.fBowler=-1
  ·simp only[hb,if_true];rfl
  ·have hlb:=h.lb x (List.mem_of_getElem? (zr hx).2.2)
   simp only[hb,if_false,e1,e0,Option.bind_some]
   rw[AN _ _ (by omega),Option.bind_some]
   obtain⟨g,e,hr,hf,_,_⟩:=hG.rd (x.fBalls++[b]) (by simp;omega)
   rw[show iP N=some zk from rfl,Option.bind_some,hr,Option.bind_some]
   simp only[Option.bind_some,yl,hf]
   cases fit (x.fBalls++[b])with
   | false=>rfl
   | true =>
    simp only[if_true]
    rw[put_eq h.la (by omega) hx]
    rfl
theorem B3{i:Nat}{s:DeskState}(h:SI i s)(hi:i≤60)(hN:20000≤N){l:List Int}{a:Int}(hl:l[0]? = some a):yO N l (DeskWork.mk s)=some (emb s (AQ s a)):=by
 unfold yO AQ
 have e0:idx l 0=some a:=ij (i:=0) hl
 rw[e0,Option.bind_some,AR h.la,Option.bind_some]
 cases hx:lane s a with
 | none=>rfl
 | some x =>
  by_cases hb:x.fBowler=-1
  ·simp only[hb,if_true];rfl
  ·have hlb:=h.lb x (List.mem_of_getElem? (zr hx).2.2)
   simp only[hb,if_false,yl,Option.bind_some]
   by_cases hn:x.fBalls=[]
   ·simp[hn,emb]
   ·have hpos:0<x.fBalls.length:=List.length_pos_iff.2 hn
    rw[decide_eq_true (by omega:(0:Int)<(x.fBalls.length:Int))]
    simp only[if_true,hn,if_false]
    have e1:w64 ((x.fBalls.length:Int)-1)=((x.fBalls.length-1:Nat):Int):=by rw[bE (by omega) (by omega)];omega
    rw[e1,rX (by omega) (by omega) (by omega),Option.bind_some]
    have e2:(x.fBalls.take ((x.fBalls.length-1:Nat):Int).toNat).drop (0:Int).toNat=x.fBalls.dropLast:=by rw[List.dropLast_eq_take];simp
    rw[e2,yS _ (by simp;omega),Option.bind_some,put_eq h.la (by omega) hx]
    rfl
end Go.Proofs.YtdodahpkpeodfaaGreatDoor
namespace Go.Proofs.YtdodahpkpeodfaaGreatDoor
open Go.Kp
variable {N:Nat}
def fin (N:Nat)(l:List Int):Option Int:=match gm N zk l with
 | some (g,_)=>if g.fDone then g.fCounts.getLast? else none
 | none=>none
def Af (N:Nat)(s:DeskState)(n:Int):Int⊕DeskState:=match lane s n with
 | none=>.inl 7
 | some x=>if x.fBowler=-1 then .inl 8 else match fin N x.fBalls,s.fKept[x.fBowler.toNat]? with
  | some c,some k=>.inr (put {s with fKept:=s.fKept.set x.fBowler.toNat (k++[c])} n (DeskLane.mk (-1) []))
  | _,_=>.inl 8
theorem BS{i:Nat}{s:DeskState}(hG:GX N)(h:SI i s)(hi:i≤60)(hN:20000≤N){l:List Int}{a:Int}(hl:l[0]? = some a):g8 N l (DeskWork.mk s)=some (emb s (Af N s a)):=by
 unfold g8 Af
 have e0:idx l 0=some a:=ij (i:=0) hl
 rw[e0,Option.bind_some,AR h.la,Option.bind_some]
 cases hx:lane s a with
 | none=>rfl
 | some x =>
  by_cases hb:x.fBowler=-1
  ·simp only[hb,if_true];rfl
  ·have hlb:=h.lb x (List.mem_of_getElem? (zr hx).2.2)
   simp only[hb,if_false]
   obtain⟨g,e,hr,hf,hln,hd,_⟩:=hG.rd x.fBalls (by omega)
   unfold fin
   rw[show iP N=some zk from rfl,Option.bind_some,hr,Option.bind_some]
   simp only[Option.bind_some,yl]
   cases hdn:g.fDone with
   | false=>rfl
   | true =>
    have hne:=hd hdn
    have hpos:0<g.fCounts.length:=List.length_pos_iff.2 hne
    simp only[if_true]
    have hk:=h.kl
    have hbl:=h.bl
    have hkl:x.fBowler.toNat<s.fKept.length:=by omega
    have hkx:=List.getElem?_eq_getElem hkl
    have hkb:=h.kb _ (List.getElem_mem hkl)
    generalize s.fKept[x.fBowler.toNat]=k at hkx hkb
    have el:w64 ((g.fCounts.length:Int)-1)=((g.fCounts.length-1:Nat):Int):=by rw[bE (by omega) (by omega)];omega
    have hlast:g.fCounts[g.fCounts.length-1]? = g.fCounts.getLast?:=by rw[List.getLast?_eq_getElem?]
    rw[hkx,zX _ (by omega),Option.bind_some,yy (by omega) hkx,Option.bind_some,el]
    cases hgl:g.fCounts.getLast? with
    | none=>rw[List.getLast?_eq_none_iff]at hgl;exact absurd hgl hne
    | some c =>
     rw[ij (hlast.trans hgl),Option.bind_some,AN _ _ (by omega),Option.bind_some]
     unfold iR
     obtain⟨h0,_,hx2⟩:=zr hx
     rw[Ao _ (by simp only[h.la];omega),Option.bind_some,yy h0 hx2,Option.bind_some,Option.bind_some]
     rfl
end Go.Proofs.YtdodahpkpeodfaaGreatDoor
namespace Go.Proofs.YtdodahpkpeodfaaGreatDoor
open Go.Kp
variable {N:Nat}
def Ag (s:DeskState)(w b:Int):Int⊕DeskState :=
 if ¬(1≤w∧w≤30)then .inl 2 else if ¬known s b then .inl 7 else match s.fKept[b.toNat]? with
 | none=>.inl 7
 | some k=>if k.length<3 then .inl 8 else if ¬s.fSheets.length<40 then .inl 3 else
  .inr {s with fKept:=s.fKept.set b.toNat (k.take (k.length-3)),fSheets:=s.fSheets++[RateSheet.mk (s.fSheets.length+1) b w (Ar3.mk (k.getD (k.length-3) 0) (k.getD (k.length-2) 0) (k.getD (k.length-1) 0))]}
theorem BT{i:Nat}{s:DeskState}(h:SI i s)(hi:i≤60)(hN:20000≤N){l:List Int}{a b:Int}(hl:l[0]? = some a)(hl1:l[1]? = some b):yF N l (DeskWork.mk s)=some (emb s (Ag s a b)):=by
 unfold yF Ag
 have e0:idx l 0=some a:=ij (i:=0) hl
 have e1:idx l 1=some b:=ij (i:=1) hl1
 rw[e0,Option.bind_some,zi,Option.bind_some,yl,Option.bind_some]
 by_cases hw:1≤a∧a≤30
 ·simp only[hw.1,hw.2,decide_true,Bool.and_self,if_true,and_self,not_true_eq_false,if_false]
  rw[e1,Option.bind_some,A8 h.bl,Option.bind_some,yl,Option.bind_some]
  by_cases hk:known s b
  ·simp only[hk,decide_true,if_true,not_true_eq_false,if_false]
   have hb:=h.bl
   have hkl:=h.kl
   have hlt:b.toNat<s.fKept.length:=by unfold known at hk;omega
   have hkx:=List.getElem?_eq_getElem hlt
   have hkb:=h.kb _ (List.getElem_mem hlt)
   generalize s.fKept[b.toNat]=k at hkx hkb
   rw[hkx,yy hk.1 hkx,Option.bind_some,yl,Option.bind_some]
   by_cases h3:k.length<3
   ·rw[decide_eq_false (by omega:¬((3:Int)≤(k.length:Int)))]
    simp[h3,emb]
   ·rw[decide_eq_true (by omega:((3:Int)≤(k.length:Int)))]
    simp only[if_true,h3,if_false,yl,Option.bind_some]
    have hsl:=h.sl
    by_cases h40:s.fSheets.length<40
    ·rw[decide_eq_true (by omega:((s.fSheets.length:Int)<40))]
     simp only[h40,if_true,not_true_eq_false,if_false]
     have e3:w64 ((k.length:Int)-3)=((k.length-3:Nat):Int):=by rw[bE (by omega) (by omega)];omega
     have e4:w64 ((s.fSheets.length:Int)+1)=(s.fSheets.length:Int)+1:=bE (by omega) (by omega)
     rw[e3,e4,rX (by omega) (by omega) (by omega),Option.bind_some]
     have hx:∀j,j<3→idx (((k.take (k.length:Int).toNat).drop ((k.length-3:Nat):Int).toNat)) (j:Nat)=some (k.getD (k.length-3+j) 0):=fun j hj=>by
      refine ij ?_
      rw[List.getElem?_drop]
      simp only[Int.toNat_natCast]
      rw[List.take_length,List.getD_eq_getElem?_getD,List.getElem?_eq_getElem (by omega)]
      simp
     have x0:=hx 0 (by omega)
     have x1:=hx 1 (by omega)
     have x2:=hx 2 (by omega)
     simp only[Int.natCast_zero,Nat.add_zero]at x0
     have c1:(((1:Nat):Int))=1:=rfl
     have c2:(((2:Nat):Int))=2:=rfl
     rw[c1]at x1
     rw[c2]at x2
     rw[x0,Option.bind_some,x1,Option.bind_some,x2,Option.bind_some,Option.bind_some]
     rw[zX _ (by omega),Option.bind_some,rX (by omega) (by omega) (by omega),Option.bind_some,yS _ (by simp;omega),Option.bind_some,yy hk.1 hkx,Option.bind_some,BC _ _ (by omega),Option.bind_some]
     have f1:k.length-3+1=k.length-2:=by omega
     have f2:k.length-3+2=k.length-1:=by omega
     rw[f1,f2]
     simp[emb]
    ·rw[decide_eq_false (by omega:¬((s.fSheets.length:Int)<40))]
     simp[h40,emb]
  ·simp only[hk,decide_false,Bool.false_eq_true,if_false,not_false_eq_true,if_true]
   rfl
 ·rw[if_pos hw]
  have:(decide (1≤a)&&decide (a≤30))=false:=by
   rw[Bool.eq_false_iff];intro e;simp only[Bool.and_eq_true,decide_eq_true_eq]at e;exact hw e
  rw[this]
  rfl
theorem half{a b:Nat}(h1:a<b)(h2:b<100000):w64 (Bs .u64 (Go.IntKind.wrap .u64 (w64 ((a:Int)+(b:Int)))) 1)=(((a+b) / 2:Nat):Int):=by
 rw[bE (n:=(a:Int)+b) (by omega) (by omega)]
 have e:Go.IntKind.wrap .u64 ((a:Int)+b)=(a:Int)+b:=by
  unfold Go.IntKind.wrap
  simp only[Go.IntKind.bits,Go.IntKind.signed,Bool.false_and,Bool.false_eq_true,if_false]
  omega
 rw[e]
 unfold Bs
 have e2:Int.fdiv ((a:Int)+b) (2 ^ min (1:Int).toNat Go.IntKind.u64.bits)=(((a+b) / 2:Nat):Int):=by
  have:(2:Int) ^ min (1:Int).toNat Go.IntKind.u64.bits=2:=by rfl
  rw[this,Int.fdiv_eq_ediv_of_nonneg _ (by omega)]
  omega
 rw[e2,bE (by omega) (by omega)]
theorem Cj(l:List Int)(t:Int)(hl:l.length<1000)(hN:20000≤N):∃i:Nat,i≤l.length∧xX N l t=some ((i:Int),decide (l[i]? = some t))∧(l.Pairwise (·<·)→(∀k x,l[k]? = some x→k<i→x<t)∧(∀k x,l[k]? = some x→i≤k→t≤x)):=by
 have key:=zh (B:=fun rec3 x=>ls N l t rec3 x.1 x.2.1 x.2.2) (fun k (x:Int×Int×Int)=>x.1=l.length∧∃a b:Nat,x.2.1=a∧x.2.2=b∧a≤b∧b≤l.length∧k=b-a∧(l.Pairwise (·<·)→(∀k x,l[k]? = some x→k<a→x<t)∧(∀k x,l[k]? = some x→b≤k→t≤x)))
  (fun r=>∃i:Nat,r=((l.length:Int),(i:Int))∧i≤l.length∧(l.Pairwise (·<·)→(∀k x,l[k]? = some x→k<i→x<t)∧(∀k x,l[k]? = some x→i≤k→t≤x)))
  (fun k x rec hI ih=>by
   obtain⟨n,v,w⟩:=x
   obtain⟨hn,a,b,hv,hw,hab,hbl,hk,hs⟩:=hI
   simp only at hn hv hw
   subst hn hv hw
   unfold ls yi
   by_cases h:a<b
   ·rw[if_pos (by simp only[decide_eq_true_eq];omega)]
    simp only[half h (by omega)]
    have hm:(a+b) / 2<l.length:=by omega
    have hx:=List.getElem?_eq_getElem hm
    generalize l[(a+b) / 2]=y at hx
    simp only[ij hx,Option.bind_some]
    have hc:zK N y t=some (decide (y<t)):=by
     unfold zK zw
     simp
    rw[hc,Option.bind_some]
    by_cases hyt:y<t
    ·rw[if_pos (by simp only[decide_eq_true_eq];exact hyt)]
     refine ih (b-((a+b) / 2+1)) _ (by omega) ⟨rfl,(a+b) / 2+1,b,by rw[fN (by omega)],rfl,by omega,hbl,rfl,fun hp=>⟨fun k x hkx hlt=>?_,(hs hp).2⟩⟩
     by_cases he:k=(a+b) / 2
     ·subst he;rw[hx]at hkx;cases hkx;exact hyt
     ·have hlt2:k<(a+b) / 2:=by omega
      have:=List.pairwise_iff_getElem.1 hp k ((a+b) / 2) (by omega) hm hlt2
      rw[(List.getElem?_eq_some_iff.1 hkx).2,(List.getElem?_eq_some_iff.1 hx).2]at this
      omega
    ·rw[if_neg (by simp only[decide_eq_true_eq];exact hyt)]
     refine ih ((a+b) / 2-a) _ (by omega) ⟨rfl,a,(a+b) / 2,rfl,rfl,by omega,by omega,rfl,fun hp=>⟨(hs hp).1,fun k x hkx hlt=>?_⟩⟩
     by_cases he:k=(a+b) / 2
     ·subst he;rw[hx]at hkx;cases hkx;omega
     ·have:=List.pairwise_iff_getElem.1 hp ((a+b) / 2) k hm (List.getElem?_eq_some_iff.1 hkx).1 (by omega)
      rw[(List.getElem?_eq_some_iff.1 hkx).2,(List.getElem?_eq_some_iff.1 hx).2]at this
      omega
   ·rw[if_neg (by simp only[decide_eq_true_eq];omega)]
    have:a=b:=by omega
    subst this
    exact⟨_,rfl,a,rfl,hbl,hs⟩)
  N l.length ((l.length:Int),0,(l.length:Int)) ⟨rfl,0,l.length,rfl,rfl,by omega,by omega,rfl,fun _=>⟨fun k x _ h=>by omega,fun k x h1 h2=>by have:=(List.getElem?_eq_some_iff.1 h1).1;omega⟩⟩ (by omega)
 obtain⟨r,hr,i,rfl,hi,hs⟩:=key
 refine⟨i,hi,?_,hs⟩
 unfold xX
 rw[hr,Option.bind_some]
 dsimp only
 by_cases h:i<l.length
 ·rw[if_pos (by simp only[decide_eq_true_eq];omega)]
  have hx:=List.getElem?_eq_getElem h
  generalize l[i]=y at hx
  rw[ij hx,hx]
  unfold yX
  by_cases he:y=t<;>simp[he]
 ·rw[if_neg (by simp only[decide_eq_true_eq];omega),List.getElem?_eq_none (by omega)]
  simp
def zO (N:Nat)(s:DeskState)(n:Int):Int⊕DeskState :=
 if ¬(1≤n∧n≤s.fSheets.length)then .inl 7 else match xX N s.fWithdrawn n with
 | some (i,false)=>.inr {s with fWithdrawn:=s.fWithdrawn.take i.toNat++[n]++s.fWithdrawn.drop i.toNat}
 | _=>.inl 6
theorem BE{i:Nat}{s:DeskState}(h:SI i s)(hi:i≤60)(hN:20000≤N){l:List Int}{a:Int}(hl:l[0]? = some a):yz N l (DeskWork.mk s)=some (emb s (zO N s a)):=by
 unfold yz zO
 have e0:idx l 0=some a:=ij (i:=0) hl
 rw[e0,Option.bind_some,zi,Option.bind_some,yl,Option.bind_some]
 by_cases hw:1≤a∧a≤s.fSheets.length
 ·simp only[hw.1,hw.2,decide_true,Bool.and_self,if_true,and_self,not_true_eq_false,if_false]
  have hwl:=h.wl
  obtain⟨j,hj,hb,_⟩:=Cj (N:=N) s.fWithdrawn a (by omega) hN
  rw[hb,Option.bind_some]
  simp only[yl,Option.bind_some]
  cases decide (s.fWithdrawn[j]? = some a)with
  | true=>rfl
  | false =>
   simp only[Bool.not_false,if_true]
   rw[yS _ (by omega),Option.bind_some]
   have:BJ N (j:Int) s.fWithdrawn [a]=some (s.fWithdrawn.take (j:Int).toNat++[a]++s.fWithdrawn.drop (j:Int).toNat):=by
    unfold BJ
    rw[if_pos ⟨by omega,by omega,by simp,by simp;omega⟩]
   rw[this,Option.bind_some]
   rfl
 ·rw[if_pos hw]
  have:(decide (1≤a)&&decide (a≤(s.fSheets.length:Int)))=false:=by
   rw[Bool.eq_false_iff];intro e;simp only[Bool.and_eq_true,decide_eq_true_eq]at e;exact hw e
  rw[this]
  rfl
end Go.Proofs.YtdodahpkpeodfaaGreatDoor
namespace Go.Proofs.YtdodahpkpeodfaaGreatDoor
open Go.Kp
variable {N:Nat}
theorem A9{α:Type}(s:List α)(p:α→Option Bool)(q:α→Bool)(hp:∀x∈s,p x=some (q x))(hN:s.length<N)(hs:s.length<4611686018427387904) :
  loopN (fun(rec:Int×Int→Option Int) (x:Int×Int)=>if decide (x.2<x.1)then Option.bind (idx s x.2) fun y=>Option.bind (p y) fun r=>if r then some x.2 else rec (x.1,w64 (x.2+1))else some (-1)) N ((s.length:Int),0)=some (match s.findIdx? q with | some i=>(i:Int) | none=>-1):=by
 have key:=o6 (N:=N) (B:=fun(rec:Int×Int→Option Int) (x:Int×Int)=>if decide (x.2<x.1)then Option.bind (idx s x.2) fun y=>Option.bind (p y) fun r=>if r then some x.2 else rec (x.1,w64 (x.2+1))else some (-1))
  s (fun i=>((s.length:Int),(i:Int))) (fun i r=>some (match r.findIdx? q with | some j=>((i+j:Nat):Int) | none=>-1))
  (fun rec=>by simp)
  (fun i x rec hx h=>by
   have hlt:=lP hx
   have hm:x∈s:=List.mem_of_getElem? hx
   simp only[show((i:Int)<(s.length:Int))from by omega,decide_true,if_true,ij hx,Option.bind_some,hp x hm,fN (i:=i) (by omega),h]
   rw[List.findIdx?_cons]
   cases hq:q x with
   | true=>simp
   | false =>
    simp only[Bool.false_eq_true,if_false]
    cases(s.drop (i+1)).findIdx? q with
    | none=>rfl
    | some j=>simp only[Option.map_some];rw[show i+1+j=i+(j+1)from by omega])
  hN 0 (by omega)
 simp only[Int.natCast_zero,Nat.zero_add,List.drop_zero]at key
 rw[key]
def cup (s:DeskState):LadderCup:=LadderCup.mk 1 (s.fBowlers.length:Int) 1 s.fResults
def AS (s:DeskState)(l:List LadderMatch)(n:Int):Int⊕DeskState:=match l with
 | []=>.inl 8
 | m::_=>if n=m.fFirst∨n=m.fSecond then .inr {s with fResults:=s.fResults++[LadderResult.mk m.fNumber [n] false]}else .inl 10
theorem B4{i:Nat}{s:DeskState}(h:SI i s)(hi:i≤60)(hN:20000≤N){ms:List LadderMatch}{e:Int}(hL:yh N (cup s)=some (ms,e)){l:List Int}{a:Int}(hl:l[0]? = some a):yR N l (DeskWork.mk s)=some (emb s (AS s ms a)):=by
 unfold yR yw AS
 have e0:idx l 0=some a:=ij (i:=0) hl
 have hrl:=h.rl
 rw[show jB N (DeskWork.mk s)=some (cup s)from rfl,Option.bind_some,hL,Option.bind_some]
 simp only[yl,Option.bind_some]
 cases ms with
 | nil=>rfl
 | cons m r =>
  rw[decide_eq_true (by simp:(0:Int)<((m::r).length:Int))]
  have em:idx (m::r) 0=some m:=rfl
  simp only[if_true,e0,em,Option.bind_some]
  rw[Bp _ _ (by omega)]
  by_cases h1:a=m.fFirst
  ·rw[if_pos (by simp only[decide_eq_true_eq];exact h1),if_pos (.inl h1)]
   rfl
  ·rw[if_neg (by simp only[decide_eq_true_eq];exact h1)]
   by_cases h2:a=m.fSecond
   ·rw[if_pos (show a=m.fFirst∨a=m.fSecond from .inr h2),if_pos (by simp only[decide_eq_true_eq];exact h2)]
    rfl
   ·have h3:¬(a=m.fFirst∨a=m.fSecond):=fun h=>h.elim h1 h2
    rw[if_neg h3,if_neg (by simp only[decide_eq_true_eq];exact h2)]
    rfl
def Ah (s:DeskState)(n:Int):Int⊕DeskState:=match s.fResults.findIdx? (fun r=>decide (r.fMatch=n))with
 | none=>.inl 7
 | some i=>match s.fResults[i]? with
  | none=>.inl 7
  | some r=>if r.fProtested then .inl 6 else .inr {s with fResults:=s.fResults.set i (LadderResult.mk r.fMatch r.fGames true)}
theorem BU{i:Nat}{s:DeskState}(h:SI i s)(hi:i≤60)(hN:20000≤N){l:List Int}{a:Int}(hl:l[0]? = some a):yH N l (DeskWork.mk s)=some (emb s (Ah s a)):=by
 unfold yH Ah
 have e0:idx l 0=some a:=ij (i:=0) hl
 have hrl:=h.rl
 have hi:dE N s.fResults l=some (match s.fResults.findIdx? (fun r=>decide (r.fMatch=a))with | some i=>(i:Int) | none=>-1) :=
  A9 (N:=N) s.fResults (fun y=>yB N y l) (fun r=>decide (r.fMatch=a)) (fun y _=>by unfold yB;rw[e0];rfl) (by omega) (by omega)
 rw[hi,Option.bind_some,yl,Option.bind_some]
 cases hf:s.fResults.findIdx? (fun r=>decide (r.fMatch=a))with
 | none=>rfl
 | some j =>
  have hj:j<s.fResults.length:=by
   have:=List.findIdx?_eq_some_iff_findIdx_eq.1 hf
   omega
  have hx:=List.getElem?_eq_getElem hj
  generalize s.fResults[j]=r at hx
  simp only[show(0:Int)≤(j:Int)from by omega,decide_true,if_true,ij hx,hx,Option.bind_some,yl]
  cases r.fProtested with
  | true=>rfl
  | false =>
   simp only[Bool.not_false,if_true]
   rw[zM _ (by omega),Option.bind_some,ij hx,Option.bind_some]
   rfl
/-! A line. -/
theorem AT(c:UInt8):∀l:List UInt8,se c l≠[]
 | []=>by simp[se]
 | b::l=>by
  unfold se
  split
  ·simp
  ·split<;>simp
theorem Ba(c:UInt8):∀l:List UInt8,(se c l).length≤l.length+1∧∀x∈se c l,x.length≤l.length
 | []=>by simp[se]
 | b::l=>by
  have ih:=Ba c l
  unfold se
  split
  ·refine⟨by simp only[List.length_cons];omega,fun x hx=>?_⟩
   rcases List.mem_cons.1 hx with rfl | hx
   ·simp
   ·have:=ih.2 x hx;simp only[List.length_cons];omega
  ·split
   ·rename_i h;exact absurd h (AT c l)
   ·rename_i y r h
    rw[h]at ih
    refine⟨by simp only[List.length_cons]at *;omega,fun x hx=>?_⟩
    rcases List.mem_cons.1 hx with rfl | hx
    ·have:=ih.2 y (by simp);simp only[List.length_cons];omega
    ·have:=ih.2 x (by simp[hx]);simp only[List.length_cons];omega
theorem BV{l:List UInt8}{v:Int}(h:Go.Lib.atoiAll l=.ok v):-9223372036854775808≤v∧v≤9223372036854775807:=by
 unfold Go.Lib.atoiAll at h
 split at h
 ·cases h
 ·dsimp only at h
  split at h
  ·cases h
  ·cases h
  ·split at h
   ·cases h
   ·split at h
    ·cases h
    ·injection h with h
     split at h<;>omega
def B5 (s:List UInt8):Option Int:=match Go.Lib.atoiAll s with
 | .ok v=>if w7 v=s∧((if([45]:List UInt8).isPrefixOf s then s.drop 1 else s).length≤9)then some v else none
 | _=>none
theorem number_eq(s:List UInt8)(hs:s.length≤N):C6 N s=some (match B5 s with | some v=>.inl v | none=>.inr (DeskRefusal.mk 4)):=by
 unfold C6 fe gY B5 nV
 rw[if_pos hs]
 cases ha:Go.Lib.atoiAll s with
 | ok v =>
  have hb:=BV ha
  simp only[Option.bind_some,yl]
  have e1:nU N v=some (w7 v):=by unfold nU;rw[if_pos hb]
  rw[e1,Option.bind_some]
  by_cases h1:w7 v=s
  ·simp only[h1,decide_true,if_true,true_and]
   unfold Ig
   rw[Option.bind_some]
   by_cases h2:(if([45]:List UInt8).isPrefixOf s then s.drop 1 else s).length≤9
   ·have h3:((if([45]:List UInt8).isPrefixOf s=true then List.drop ([45]:List UInt8).length s else s).length:Int)≤9:=by
     have:([45]:List UInt8).length=1:=rfl
     rw[this];omega
    rw[decide_eq_true h3,if_pos h2]
    rfl
   ·have h3:¬((if([45]:List UInt8).isPrefixOf s=true then List.drop ([45]:List UInt8).length s else s).length:Int)≤9:=by
     have:([45]:List UInt8).length=1:=rfl
     rw[this];omega
    rw[decide_eq_false h3,if_neg h2]
    rfl
  ·simp only[h1,decide_false,Bool.false_eq_true,if_false,false_and]
 | range=>simp only[Option.bind_some,yl];rfl
 | _=>simp only[Option.bind_some,yl];rfl
def Ap:List (List UInt8)→Option (List Int)
 | []=>some []
 | x::r=>match B5 x with
  | none=>none
  | some v=>match Ap r with
   | none=>none
   | some l=>some (v::l)
theorem E4:∀{r:List (List UInt8)} {l:List Int},Ap r=some l→l.length=r.length
 | [],l,h=>by simp[Ap]at h;subst h;rfl
 | x::r,l,h=>by
  unfold Ap at h
  cases hn:B5 x with
  | none=>rw[hn]at h;simp at h
  | some v =>
   rw[hn]at h
   cases hr:Ap r with
   | none=>rw[hr]at h;simp at h
   | some l' =>
    rw[hr]at h
    simp at h
    subst h
    simp[E4 hr]
def AD (N:Nat)(s:DeskState)(ms:List LadderMatch)(d:Int)(l:List Int):Int⊕DeskState :=
 let a:=l.getD 0 0;let b:=l.getD 1 0
 if d=0 then zN s a else if d=1 then AO s a b else if d=2 then AP s a b else if d=3 then AQ s a else if d=4 then Af N s a
 else if d=5 then Ag s a b else if d=6 then zO N s a else if d=7 then AS s ms a else Ah s a
def pick:(DeskRefusal×DeskWork)⊕DeskWork→Option ((DeskRefusal×DeskWork)⊕DeskWork)
 | .inl (a,b)=>some (.inl (a,b))
 | .inr r=>some (.inr r)
theorem Cg{i:Nat}{s:DeskState}(hG:GX N)(h:SI i s)(hi:i≤60)(hN:20000≤N){ms:List LadderMatch}{e:Int}(hL:yh N (cup s)=some (ms,e)){c:DeskAct}{l:List Int}(hd:0≤c.fDo∧c.fDo≤8)(h1:1≤l.length)(h2:c.fDo=1∨c.fDo=2∨c.fDo=5→2≤l.length) :
  fV N (DeskWork.mk s) c l=some (emb s (AD N s ms c.fDo l)):=by
 obtain⟨many,d⟩:=c
 simp only at hd h2
 have g0:l[0]? = some (l.getD 0 0):=by rw[List.getD_eq_getElem?_getD,List.getElem?_eq_getElem (by omega)];rfl
 have g1:d=1∨d=2∨d=5→l[1]? = some (l.getD 1 0):=fun hh=>by have:=h2 hh;rw[List.getD_eq_getElem?_getD,List.getElem?_eq_getElem (by omega)];rfl
 have pk:∀z:Int⊕DeskState,(match emb s z with | .inl (ra1,rb1)=>some (.inl (ra1,rb1)) | .inr r=>some (.inr r))=some (emb s z):=fun z=>by cases z<;>rfl
 have hd9:d=0∨d=1∨d=2∨d=3∨d=4∨d=5∨d=6∨d=7∨d=8:=by omega
 unfold fV
 rcases hd9 with rfl | rfl | rfl | rfl | rfl | rfl | rfl | rfl | rfl
 ·rw[BD h hi hN g0];exact pk _
 ·rw[B1 h hi hN g0 (g1 (by simp))];exact pk _
 ·rw[B2 hG h hi hN g0 (g1 (by simp))];exact pk _
 ·rw[B3 h hi hN g0];exact pk _
 ·rw[BS hG h hi hN g0];exact pk _
 ·rw[BT h hi hN g0 (g1 (by simp))];exact pk _
 ·rw[BE h hi hN g0];exact pk _
 ·rw[B4 h hi hN hL g0];exact pk _
 ·rw[BU h hi hN g0];exact pk _
end Go.Proofs.YtdodahpkpeodfaaGreatDoor
namespace Go.Proofs.YtdodahpkpeodfaaGreatDoor
open Go.Kp
variable {N:Nat}
theorem B6{k:List UInt8}{c:DeskAct}(h:mget aM9 k=some c):(0≤c.fDo∧c.fDo≤8)∧(c.fMany=1∨c.fMany=2)∧(c.fDo=1∨c.fDo=2∨c.fDo=5→c.fMany=2):=by
 unfold aM9 aM8 aM7 aM6 aM5 aM4 aM3 aM2 aM1 at h
 simp only[Az]at h
 repeat' (split at h)
 all_goals first | (injection h with h;subst h;simp) | cases h
def zJ (N:Nat)(s:DeskState)(ms:List LadderMatch)(line:List UInt8):Int⊕DeskState :=
 match mget aM9 ((se 32 line).headD [])with
 | none=>.inl 4
 | some c=>if((se 32 line).length:Int)≠c.fMany+1 then .inl 4 else match Ap (se 32 line).tail with
  | none=>.inl 4
  | some l=>AD N s ms c.fDo l
theorem BF{i:Nat}{s:DeskState}(hG:GX N)(h:SI i s)(hi:i≤60)(hN:20000≤N){ms:List LadderMatch}{e:Int}(hL:yh N (cup s)=some (ms,e)){c:DeskAct}(q:List (List UInt8))(hq:q.length≤1000)(hx:∀x∈q,x.length≤N)(hd:0≤c.fDo∧c.fDo≤8)(h1:1≤q.length)(h2:c.fDo=1∨c.fDo=2∨c.fDo=5→2≤q.length) :
  loopN (fun rec3 x=>cN N (DeskWork.mk s) c q rec3 x.1 x.2.1 x.2.2) N ((q.length:Int),0,[])=some (emb s (match Ap q with | none=>.inl 4 | some l=>AD N s ms c.fDo l)):=by
 have key:=lO (N:=N) (B:=fun rec3 x=>cN N (DeskWork.mk s) c q rec3 x.1 x.2.1 x.2.2) q (fun i (a:List Int)=>((q.length:Int),(i:Int),a))
  (fun r a=>some (emb s (match Ap r with | none=>.inl 4 | some l=>AD N s ms c.fDo (a++l)))) (fun i a=>a.length=i)
  (fun a rec ha=>by
   unfold cN
   rw[if_neg (by simp)]
   have ha':a.length=q.length:=ha
   dsimp only
   rw[Cg hG h hi hN hL hd (by omega) (by omega)]
   simp[Ap])
  (fun i x a rec hx' ha ih=>by
   have hlt:=lP hx'
   unfold cN
   rw[if_pos (by simp only[decide_eq_true_eq];omega),ij hx',Option.bind_some,number_eq x (hx x (List.mem_of_getElem? hx')),Option.bind_some]
   unfold Ap
   cases B5 x with
   | none=>rfl
   | some v =>
    simp only
    rw[nL (by simp;omega),Option.bind_some,fN (by omega),ih _ (by simp[ha])]
    cases Ap (q.drop (i+1))with
    | none=>rfl
    | some l=>simp)
  (by omega) [] rfl
 simpa using key
theorem B7{i:Nat}{s:DeskState}(hG:GX N)(h:SI i s)(hi:i≤60)(hN:20000≤N){ms:List LadderMatch}{e:Int}(hL:yh N (cup s)=some (ms,e))(line:List UInt8)(hl:line.length≤210):iS N line (DeskWork.mk s)=some (emb s (zJ N s ms line)):=by
 unfold iS zJ
 have hsl:=Ba 32 line
 rw[show wA N line ([32]:List UInt8)=some (se 32 line)from by unfold wA;dsimp only;rw[if_pos (by omega)],Option.bind_some]
 generalize hp:se 32 line=p at hsl
 have hne:p≠[]:=hp▸AT 32 line
 cases p with
 | nil=>exact absurd rfl hne
 | cons x r =>
  have e0:idx (x::r) 0=some x:=rfl
  rw[e0,Option.bind_some,show nD N=some aM9 from rfl,Option.bind_some]
  unfold mgt
  rw[Option.bind_some]
  simp only[List.headD_cons,List.tail_cons]
  cases hm:mget aM9 x with
  | none=>simp only[Option.isSome_none,Option.bind_some,Bool.false_eq_true,if_false,yl];rfl
  | some c =>
   obtain⟨hd,hmany,h2⟩:=B6 hm
   simp only[Option.isSome_some,Option.getD_some,Option.bind_some,if_true,yl]
   have ew:w64 (c.fMany+1)=c.fMany+1:=bE (by omega) (by omega)
   rw[ew]
   by_cases hlen:((x::r).length:Int)=c.fMany+1
   ·rw[decide_eq_true hlen]
    simp only[if_true,ne_eq,hlen,not_true_eq_false,if_false]
    have hrl:(r.length:Int)=c.fMany:=by simp at hlen;omega
    unfold dQ
    rw[rX (by omega) (by simp;omega) (by simp),Option.bind_some]
    have er:((x::r).take ((x::r).length:Int).toNat).drop (1:Int).toNat=r:=by
     rw[Int.toNat_natCast,List.take_length];rfl
    rw[er]
    exact BF hG h hi hN hL r (by omega) (fun y hy=>by have:=hsl.2 y (by simp[hy]);omega) hd (by omega) (fun hh=>by have:=h2 hh;omega)
   ·rw[decide_eq_false hlen]
    simp only[ne_eq,hlen,not_false_eq_true,if_true]
    rfl
/-! Sizes go on. -/
theorem SI.mono{i j:Nat}{s:DeskState}(h:SI i s)(hij:i≤j):SI j s :=
 ⟨h.la,fun x hx=>by have:=h.lb x hx;omega,h.bl,h.kl,fun x hx=>by have:=h.kb x hx;omega,h.sl,by have:=h.wl;omega,by have:=h.rl;omega,h.rg⟩
theorem SI.put{i:Nat}{s:DeskState}(h:SI i s)(n:Int)(y:DeskLane)(hy:-1≤y.fBowler∧y.fBowler<s.fBowlers.length∧y.fBalls.length≤i):SI i (put s n y) :=
 ⟨by simp[Proofs.YtdodahpkpeodfaaGreatDoor.put,h.la],fun x hx=>(List.mem_or_eq_of_mem_set hx).elim (h.lb x) (fun e=>e▸hy),h.bl,h.kl,h.kb,h.sl,h.wl,h.rl,h.rg⟩
def okR (i:Nat):Int⊕DeskState→Prop
 | .inl e=>e≠0
 | .inr t=>SI (i+1) t
theorem Ch{i:Nat}{s:DeskState}(h:SI i s)(hi:i≤60)(hN:20000≤N)(ms:List LadderMatch)(d:Int)(l:List Int):okR i (AD N s ms d l):=by
 have h':=h.mono (Nat.le_succ i)
 have hl4:=h.la
 unfold AD
 simp only
 split
 ·unfold zN
  split
  ·show(2:Int)≠0;decide
  split
  ·show(3:Int)≠0;decide
  rename_i h2
  split
  ·show(8:Int)≠0;decide
  refine⟨h'.la,fun x hx=>?_,by simp;omega,by simp[h.kl],fun x hx=>?_,h'.sl,h'.wl,h'.rl,h'.rg⟩
  ·have:=h'.lb x hx;simp;omega
  ·rcases List.mem_append.1 hx with hx | hx
   ·exact h'.kb x hx
   ·simp at hx;subst hx;simp
 split
 ·unfold AO
  split
  ·show(7:Int)≠0;decide
  ·split
   ·show(7:Int)≠0;decide
   ·rename_i hk
    split
    ·exact h'.put _ _ ⟨by simp only[Classical.not_not,known]at hk;simp only;omega,by simp only[Classical.not_not,known]at hk;simp only;omega,by simp⟩
    ·show(6:Int)≠0;decide
 split
 ·unfold AP
  split
  ·show(7:Int)≠0;decide
  ·rename_i x hx
   have hlb:=h.lb x (List.mem_of_getElem? (zr hx).2.2)
   split
   ·show(8:Int)≠0;decide
   ·split
    ·exact h'.put _ _ ⟨hlb.1,hlb.2.1,by simp;omega⟩
    ·show(10:Int)≠0;decide
 split
 ·unfold AQ
  split
  ·show(7:Int)≠0;decide
  ·rename_i x hx
   have hlb:=h.lb x (List.mem_of_getElem? (zr hx).2.2)
   split
   ·show(8:Int)≠0;decide
   ·split
    ·show(8:Int)≠0;decide
    ·exact h'.put _ _ ⟨hlb.1,hlb.2.1,by simp;omega⟩
 split
 ·unfold Af
  split
  ·show(7:Int)≠0;decide
  ·rename_i x hx
   split
   ·show(8:Int)≠0;decide
   ·split
    ·rename_i c k _ hk
     have:SI (i+1) {s with fKept:=s.fKept.set x.fBowler.toNat (k++[c])}:=⟨h'.la,h'.lb,h'.bl,by simp[h.kl],fun y hy=>(List.mem_or_eq_of_mem_set hy).elim (h'.kb y) (fun e=>by have:=h.kb k (List.mem_of_getElem? hk);subst e;simp;omega),h'.sl,h'.wl,h'.rl,h'.rg⟩
     exact this.put _ _ ⟨by simp,by simp;omega,by simp⟩
    ·show(8:Int)≠0;decide
 split
 ·unfold Ag
  split
  ·show(2:Int)≠0;decide
  ·split
   ·show(7:Int)≠0;decide
   ·split
    ·show(7:Int)≠0;decide
    ·rename_i k hk
     split
     ·show(8:Int)≠0;decide
     ·split
      ·show(3:Int)≠0;decide
      ·rename_i h40
       exact⟨h'.la,h'.lb,h'.bl,by simp[h.kl],fun y hy=>(List.mem_or_eq_of_mem_set hy).elim (h'.kb y) (fun e=>by have:=h.kb k (List.mem_of_getElem? hk);subst e;simp;omega),by simp;omega,h'.wl,h'.rl,h'.rg⟩
 split
 ·unfold zO
  split
  ·show(7:Int)≠0;decide
  ·split
   ·have:=h.wl
    refine⟨h'.la,h'.lb,h'.bl,h'.kl,h'.kb,h'.sl,?_,h'.rl,h'.rg⟩
    simp;omega
   ·show(6:Int)≠0;decide
 split
 ·unfold AS
  split
  ·show(8:Int)≠0;decide
  ·split
   ·have:=h.rl
    refine⟨h'.la,h'.lb,h'.bl,h'.kl,h'.kb,h'.sl,h'.wl,by simp;omega,fun r hr=>?_⟩
    rcases List.mem_append.1 hr with hr | hr
    ·exact h'.rg r hr
    ·simp at hr;subst hr;rfl
   ·show(10:Int)≠0;decide
 ·unfold Ah
  split
  ·show(7:Int)≠0;decide
  ·split
   ·show(7:Int)≠0;decide
   ·rename_i r hr
    split
    ·show(6:Int)≠0;decide
    ·exact⟨h'.la,h'.lb,h'.bl,h'.kl,h'.kb,h'.sl,h'.wl,by simp;exact h'.rl,fun y hy=>(List.mem_or_eq_of_mem_set hy).elim (h'.rg y) (fun e=>by have:=h.rg r (List.mem_of_getElem? hr);subst e;exact this)⟩
theorem B8{i:Nat}{s:DeskState}(h:SI i s)(hi:i≤60)(hN:20000≤N)(ms:List LadderMatch)(line:List UInt8):okR i (zJ N s ms line):=by
 unfold zJ
 split
 ·show(4:Int)≠0;decide
 ·split
  ·show(4:Int)≠0;decide
  ·split
   ·show(4:Int)≠0;decide
   ·exact Ch h hi hN ms _ _
end Go.Proofs.YtdodahpkpeodfaaGreatDoor
namespace Go.Proofs.YtdodahpkpeodfaaGreatDoor
open Go.Kp
variable {N:Nat}
def nxl (N:Nat)(s:DeskState):List LadderMatch:=match yh N (cup s)with
 | some (ms,_)=>ms
 | none=>[]
def stepW(N:Nat)(s:DeskState)(line:List UInt8):Int×DeskState:=match zJ N s (nxl N s) line with
 | .inl e=>(e,s)
 | .inr t=>(0,t)
theorem step_ok{i:Nat}{s:DeskState}(h:SI i s)(hi:i≤60)(hN:20000≤N)(line:List UInt8):SI (i+1) (stepW N s line).2∧((stepW N s line).1≠0→(stepW N s line).2=s):=by
 have:=B8 h hi hN (nxl N s) line
 unfold stepW
 cases hs:zJ N s (nxl N s) line with
 | inl e=>exact⟨h.mono (Nat.le_succ i),fun _=>rfl⟩
 | inr t=>rw[hs]at this;exact⟨this,fun hh=>absurd rfl hh⟩
def zv (N:Nat):DeskState→List (List UInt8)→DeskState
 | s,[]=>s
 | s,x::r=>zv N (stepW N s x).2 r
def zB (N:Nat):DeskState→List (List UInt8)→List Int
 | _,[]=>[]
 | s,x::r=>(stepW N s x).1::zB N (stepW N s x).2 r
def st0:DeskState:=DeskState.mk [] [DeskLane.mk (-1) [],DeskLane.mk (-1) [],DeskLane.mk (-1) [],DeskLane.mk (-1) []] [] [] [] []
theorem AU:SI 0 st0:=⟨rfl,fun x hx=>by simp[st0]at hx;subst hx;simp[st0],by simp[st0],rfl,by simp[st0],by simp[st0],by simp[st0],by simp[st0],by simp[st0]⟩
theorem Bq(hN:20000≤N):∀(l:List (List UInt8)) {i:Nat} {s:DeskState},SI i s→i+l.length≤60→SI (i+l.length) (zv N s l)
 | [],i,s,h,_=>h
 | x::r,i,s,h,hl=>by
  simp only[List.length_cons]at hl ⊢
  have:=Bq hN r (step_ok h (by omega) hN x).1 (by omega)
  rw[show i+(r.length+1)=i+1+r.length by omega]
  exact this
theorem Bb:∀(l:List (List UInt8)) (s:DeskState),(zB N s l).length=l.length
 | [],_=>rfl
 | x::r,s=>by simp[zB,Bb r]
theorem BW(hN:20000≤N):lG N=some (DeskWork.mk st0):=by
 unfold lG
 rw[nL (by simp;omega),Option.bind_some,nL (by simp;omega),Option.bind_some,nL (by simp;omega),Option.bind_some,nL (by simp;omega),Option.bind_some]
 rfl
theorem BG{i:Nat}{s:DeskState}(h:SI i s)(hi:i≤60)(hN:20000≤N):fW N s=some s:=by
 have hb:=h.bl
 have hsl:=h.sl
 have hwl:=h.wl
 have hkl:=h.kl
 have hrl:=h.rl
 have hla:=h.la
 have k1:=lO (N:=N) (B:=fun rec3 x=>bR N s rec3 x.1 x.2.1 x.2.2) s.fLanes (fun i (a:List DeskLane)=>((s.fLanes.length:Int),(i:Int),a)) (fun r a=>some (a++r)) (fun i a=>a.length=i)
  (fun a rec _=>by simp[bR])
  (fun j x a rec hx ha ih=>by
   have hlt:=lP hx
   have:=h.lb x (List.mem_of_getElem? hx)
   unfold bR
   rw[if_pos (by simp only[decide_eq_true_eq];omega),ij hx,Option.bind_some,yS _ (by omega),Option.bind_some,nL (by simp;omega),Option.bind_some,fN (by omega),ih _ (by simp[ha])]
   simp)
  (by omega) [] rfl
 have k2:=lO (N:=N) (B:=fun rec5 x=>bS N s rec5 x.1 x.2.1 x.2.2) s.fKept (fun i (a:List (List Int))=>((s.fKept.length:Int),(i:Int),a)) (fun r a=>some (a++r)) (fun i a=>a.length=i)
  (fun a rec _=>by simp[bS])
  (fun j x a rec hx ha ih=>by
   have hlt:=lP hx
   have:=h.kb x (List.mem_of_getElem? hx)
   unfold bS
   rw[if_pos (by simp only[decide_eq_true_eq];omega),ij hx,Option.bind_some,yS _ (by omega),Option.bind_some,nL (by simp;omega),Option.bind_some,fN (by omega),ih _ (by simp[ha])]
   simp)
  (by omega) [] rfl
 have k3:=lO (N:=N) (B:=fun rec7 x=>bT N s rec7 x.1 x.2.1 x.2.2) s.fResults (fun i (a:List LadderResult)=>((s.fResults.length:Int),(i:Int),a)) (fun r a=>some (a++r)) (fun i a=>a.length=i)
  (fun a rec _=>by simp[bT])
  (fun j x a rec hx ha ih=>by
   have hlt:=lP hx
   have:=h.rg x (List.mem_of_getElem? hx)
   unfold bT
   rw[if_pos (by simp only[decide_eq_true_eq];omega),ij hx,Option.bind_some,yS _ (by omega),Option.bind_some,nL (by simp;omega),Option.bind_some,fN (by omega),ih _ (by simp[ha])]
   simp)
  (by omega) [] rfl
 simp only[Int.natCast_zero,List.nil_append]at k1 k2 k3
 unfold fW
 rw[yS _ (by omega),Option.bind_some,Aa _ (by omega),Option.bind_some,yS _ (by omega),Option.bind_some,Option.bind_some]
 dsimp only
 rw[k1,Option.bind_some,k2,Option.bind_some,k3,Option.bind_some]
end Go.Proofs.YtdodahpkpeodfaaGreatDoor
namespace Go.Proofs.YtdodahpkpeodfaaGreatDoor
open Go.Kp
variable {N:Nat}
/-! The knock-out's next matches are told, whatever the results. -/
theorem zg{α A σ R:Type}{N:Nat}{B:(σ→Option R)→σ→Option R}(l:List α)(X:Nat→A→σ)(ok:Nat→A→Prop)(Q:R→Prop)
  (h0:∀a rec,ok l.length a→∃r,B rec (X l.length a)=some r∧Q r)
  (h1:∀i x a rec,l[i]? = some x→ok i a→(∀a',ok (i+1) a'→∃r,rec (X (i+1) a')=some r∧Q r)→∃r,B rec (X i a)=some r∧Q r)
  (hN:l.length<N) (a:A) (ha:ok 0 a):∃r,loopN B N (X 0 a)=some r∧Q r:=by
 refine zh (fun k x=>∃i a,x=X i a∧i+k=l.length∧ok i a) Q ?_ N l.length _ ⟨0,a,rfl,by omega,ha⟩ hN
 rintro k x rec ⟨i,a,rfl,hk,hok⟩ ih
 by_cases h:i<l.length
 ·exact h1 i _ a rec (List.getElem?_eq_getElem h) hok fun a' h'=>ih (k-1) _ (by omega) ⟨i+1,a',rfl,by omega,h'⟩
 ·have:i=l.length:=by omega
  subst this
  exact h0 a rec hok
theorem zI(n a b:Int):eH N n a b=some (decide (a≤n)&&decide (n≤b)):=by
 unfold eH
 by_cases h:a≤n<;>simp[h]
end Go.Proofs.YtdodahpkpeodfaaGreatDoor
namespace Go.Proofs.YtdodahpkpeodfaaGreatDoor
open Go.Kp
variable {N:Nat}
theorem vC(lines:List (List UInt8))(hN:20000≤N):∃b,j0 N lines=some b∧(b=true→lines.length≤55∧∀s∈lines,s.length≤210):=by
 have key:∀(n i:Nat),i≤56→57-i≤n→∃b,loopN (fun rec3 x=>bK N lines rec3 x) n (i:Int)=some b∧(b=true→lines.length≤55∧∀j x,i≤j→lines[j]? = some x→x.length≤210):=by
  intro n
  induction n with
  | zero=>intro i h1 h2;omega
  | succ n ih =>
   intro i h1 h2
   show ∃b,bK N lines (loopN (fun rec3 x=>bK N lines rec3 x) n) (i:Int)=some b∧_
   unfold bK
   by_cases hi:i<lines.length
   ·rw[if_pos (by simp only[decide_eq_true_eq];omega),Option.bind_some]
    by_cases h56:i<56
    ·rw[if_pos (by simp only[decide_eq_true_eq];omega)]
     have hx:lines[i]? = some lines[i]:=List.getElem?_eq_getElem hi
     rw[ij hx,Option.bind_some]
     by_cases h210:210<lines[i].length
     ·rw[if_pos (by simp only[decide_eq_true_eq];omega)]
      exact⟨false,rfl,fun h=>by cases h⟩
     ·rw[if_neg (by simp only[decide_eq_true_eq];omega),fN (by omega)]
      obtain⟨b,hb,hq⟩:=ih (i+1) (by omega) (by omega)
      refine⟨b,hb,fun h=>⟨(hq h).1,fun j x hj hx'=>?_⟩⟩
      rcases Nat.lt_or_ge i j with h3 | h3
      ·exact(hq h).2 j x (by omega) hx'
      ·have:j=i:=by omega
       subst this
       rw[hx]at hx';cases hx';omega
    ·rw[if_neg (by simp only[decide_eq_true_eq];omega)]
     refine⟨_,rfl,fun h=>?_⟩
     simp only[decide_eq_true_eq]at h
     omega
   ·rw[if_neg (by simp only[decide_eq_true_eq];omega),Option.bind_some]
    refine⟨_,rfl,fun h=>⟨by simp only[decide_eq_true_eq]at h;omega,fun j x hj hx'=>?_⟩⟩
    have:=lP hx'
    omega
 obtain⟨b,hb,hq⟩:=key N 0 (by omega) (by omega)
 refine⟨b,hb,fun h=>⟨(hq h).1,fun s hs=>?_⟩⟩
 obtain⟨j,hj⟩:=List.getElem?_of_mem hs
 exact(hq h).2 j s (Nat.zero_le _) hj
theorem ud(lines:List (List UInt8))(hl:lines.length≤55)(hN:20000≤N):gz N lines=some (lines.all (fun s=>decide (s.length≤200))&&decide (lines.length≤50)):=by
 have key:=rY (N:=N) (R:=Bool) (B:=fun rec3 x=>bf N lines rec3 x) lines (fun(k:Nat)=>(k:Int)) (fun r=>some (r.all (fun s=>decide (s.length≤200))&&decide (lines.length≤50)))
  (fun rec=>by
   show bf N lines rec (lines.length:Int)=_
   unfold bf
   rw[if_neg (by simp)]
   simp[fc]
   omega)
  (fun i x rec hx h=>by
   have hlt:=lP hx
   show bf N lines rec (i:Int)=_
   unfold bf
   rw[if_pos (by simp only[decide_eq_true_eq];omega),ij hx,Option.bind_some]
   by_cases h200:200<x.length
   ·rw[if_pos (by simp only[decide_eq_true_eq];omega)]
    simp
    omega
   ·rw[if_neg (by simp only[decide_eq_true_eq];omega),fN (by omega),h]
    have:decide (x.length≤200)=true:=by simp only[decide_eq_true_eq];omega
    simp[this])
  (by omega)
 unfold gz
 simpa using key
theorem vA(lines:List (List UInt8))(hl:lines.length≤50)(hs:∀s∈lines,s.length≤200)(hN:20000≤N):dw N lines=some 0:=by
 have hall:mV N lines 200=some (lines.all fun s=>decide ((s.length:Int)≤200)) :=
  tZ lines (fun y=>kV N y 200) (fun s=>decide ((s.length:Int)≤200)) (fun x _=>rfl) (by omega) (by omega)
 have ht:(lines.all fun s=>decide ((s.length:Int)≤200))=true:=List.all_eq_true.2 fun s hm=>by have:=hs s hm;simp only[decide_eq_true_eq];omega
 unfold dw
 rw[if_neg (by simp only[decide_eq_true_eq];omega),hall,ht]
 rfl
end Go.Proofs.YtdodahpkpeodfaaGreatDoor
namespace Go.Proofs.YtdodahpkpeodfaaGreatDoor
open Go.Kp
variable {N:Nat}
theorem Cb(lines:List (List UInt8))(hl:lines.length≤N):iw N lines=some lines:=by
 unfold iw;rw[nL (by simpa using hl)];rfl
theorem zP(a b:List Int)(ha:a.length≤1000)(hN:20000≤N):lN N a b=some (decide (a=b)) :=
 Bl (N:=N) a b (by omega) (by omega)
end Go.Proofs.YtdodahpkpeodfaaGreatDoor
namespace Go.Proofs.YtdodahpkpeodfaaGreatDoor
open Go.Kp
variable {N:Nat}
/-! What is on lanes. -/
structure LI(s:DeskState):Prop where
 fb:∀x∈s.fLanes,fit x.fBalls=true∧(x.fBowler<0→x.fBalls=[])
 dj:∀(i j:Nat) (x y:DeskLane),s.fLanes[i]? = some x→s.fLanes[j]? = some y→0≤x.fBowler→x.fBowler=y.fBowler→i=j
theorem Fh:fit []=true:=by decide
theorem HC{l:List Int}{b:Int}(h:fit (l++[b])=true):fit l=true:=by
 unfold fit at *
 rw[decide_eq_true_eq]at *
 exact((F.ok_app L0 (F.s0 L0) l [b]).1 h).1
theorem Fi{l:List Int}(h:fit l=true)(hn:l≠[]):fit l.dropLast=true:=by
 refine HC (b:=l.getLast hn) ?_
 rw[List.dropLast_concat_getLast];exact h
theorem LI.put{s:DeskState}(h:LI s)(n:Int)(y:DeskLane)(h1:fit y.fBalls=true)(h2:y.fBowler<0→y.fBalls=[])(h3:∀(j:Nat) (z:DeskLane),s.fLanes[j]? = some z→0≤y.fBowler→z.fBowler=y.fBowler→j=n.toNat):LI (put s n y):=by
 refine⟨fun x hx=>(List.mem_or_eq_of_mem_set hx).elim (h.fb x) (fun e=>e▸⟨h1,h2⟩),fun i j a b ha hb h0 he=>?_⟩
 have ha':(s.fLanes.set n.toNat y)[i]? = some a:=ha
 have hb':(s.fLanes.set n.toNat y)[j]? = some b:=hb
 rw[List.getElem?_set]at ha' hb'
 split at ha'
 ·rename_i hi
  split at hb'
  ·rename_i hj;omega
  ·split at ha'
   ·cases ha'
    exact(h3 j b hb' h0 he.symm).symm▸hi.symm
   ·cases ha'
 ·rename_i hi
  split at hb'
  ·rename_i hj
   split at hb'
   ·cases hb'
    exact(h3 i a ha' (by omega) he).trans hj
   ·cases hb'
  ·exact h.dj i j a b ha' hb' h0 he
theorem IM{i:Nat}{s:DeskState}(hS:SI i s)(h:LI s)(ms:List LadderMatch)(d:Int)(l:List Int){t:DeskState}(ht:AD N s ms d l=.inr t):LI t:=by
 have same:∀{t:DeskState},t.fLanes=s.fLanes→LI t:=fun e=>⟨fun x hx=>h.fb x (e▸hx),fun i j x y hx hy=>h.dj i j x y (e▸hx) (e▸hy)⟩
 unfold AD at ht
 simp only at ht
 split at ht
 ·unfold zN at ht
  split at ht
  ·cases ht
  split at ht
  ·cases ht
  split at ht
  ·cases ht
  cases ht;exact same rfl
 split at ht
 ·unfold AO at ht
  split at ht
  ·cases ht
  split at ht
  ·cases ht
  split at ht
  ·rename_i hx
   cases ht
   exact h.put _ _ Fh (fun _=>rfl) fun j z hz _ he=>absurd ⟨z,List.mem_of_getElem? hz,he⟩ hx.2
  ·cases ht
 split at ht
 ·unfold AP at ht
  split at ht
  ·cases ht
  ·rename_i x hx
   have hl:=zr hx
   have hm:=List.mem_of_getElem? hl.2.2
   have hb:=hS.lb x hm
   split at ht
   ·cases ht
   split at ht
   ·rename_i hf
    cases ht
    exact h.put _ _ hf (fun hn=>absurd hn (by simp only;omega)) fun j z hz h0 he=>(h.dj _ _ x z hl.2.2 hz h0 he.symm).symm
   ·cases ht
 split at ht
 ·unfold AQ at ht
  split at ht
  ·cases ht
  ·rename_i x hx
   have hl:=zr hx
   have hm:=List.mem_of_getElem? hl.2.2
   split at ht
   ·cases ht
   split at ht
   ·cases ht
   ·rename_i hn
    cases ht
    exact h.put _ _ (Fi (h.fb x hm).1 hn) (fun hneg=>absurd ((h.fb x hm).2 hneg) hn) fun j z hz h0 he=>(h.dj _ _ x z hl.2.2 hz h0 he.symm).symm
 split at ht
 ·unfold Af at ht
  split at ht
  ·cases ht
  split at ht
  ·cases ht
  split at ht
  ·cases ht
   have key:∀(kk:List (List Int)) (n:Int),LI (put {s with fKept:=kk} n (DeskLane.mk (-1) [])):=fun kk n=>LI.put (s:={s with fKept:=kk}) (same rfl) n (DeskLane.mk (-1) []) Fh (fun _=>rfl) fun j z hz h0 _=>absurd h0 (by simp)
   exact key _ _
  ·cases ht
 split at ht
 ·unfold Ag at ht
  split at ht
  ·cases ht
  split at ht
  ·cases ht
  split at ht
  ·cases ht
  split at ht
  ·cases ht
  split at ht
  ·cases ht
  cases ht;exact same rfl
 split at ht
 ·unfold zO at ht
  split at ht
  ·cases ht
  split at ht
  ·cases ht;exact same rfl
  ·cases ht
 split at ht
 ·unfold AS at ht
  split at ht
  ·cases ht
  split at ht
  ·cases ht;exact same rfl
  ·cases ht
 ·unfold Ah at ht
  split at ht
  ·cases ht
  split at ht
  ·cases ht
  split at ht
  ·cases ht
  ·cases ht;exact same rfl
theorem Ir{i:Nat}{s:DeskState}(hS:SI i s)(h:LI s)(line:List UInt8):LI (stepW N s line).2:=by
 unfold stepW
 cases hs:zJ N s (nxl N s) line with
 | inl e=>exact h
 | inr t =>
  unfold zJ at hs
  split at hs
  ·cases hs
  split at hs
  ·cases hs
  split at hs
  ·cases hs
  ·exact IM hS h _ _ _ hs
theorem IN:LI st0:=by
 refine⟨fun x hx=>?_,fun i j x y hx hy h0 _=>?_⟩
 ·simp[st0]at hx;subst hx;exact⟨Fh,fun _=>rfl⟩
 ·have:=List.mem_of_getElem? hx
  simp[st0]at this;subst this;simp at h0
end Go.Proofs.YtdodahpkpeodfaaGreatDoor
namespace Go.Proofs.YtdodahpkpeodfaaGreatDoor
open Go.Kp
variable {N:Nat}
/-! The book of averages is a valid one. -/
structure ShOK(s:DeskState)(i:Nat)(x:RateSheet):Prop where
 n:x.fNumber=(i:Int)+1
 b:0≤x.fBowler∧x.fBowler<s.fBowlers.length
 w:1≤x.fWeek∧x.fWeek≤30
 g:(0≤x.fGames.a0∧x.fGames.a0≤300)∧(0≤x.fGames.a1∧x.fGames.a1≤300)∧(0≤x.fGames.a2∧x.fGames.a2≤300)
structure RI(s:DeskState):Prop where
 b:∀x∈s.fBowlers,0≤x∧x≤300
 k:∀l∈s.fKept,∀x∈l,0≤x∧x≤300
 rs:∀(i:Nat) (x:RateSheet),s.fSheets[i]? = some x→ShOK s i x
 wp:s.fWithdrawn.Pairwise (·<·)
 wb:∀x∈s.fWithdrawn,1≤x∧x≤s.fSheets.length
theorem HX{l:List Int}{c:Int}(hG:GX N)(hl:l.length≤80)(h:fin N l=some c):0≤c∧c≤300:=by
 obtain⟨g,e,hr,_,_,_,hb⟩:=hG.rd l hl
 unfold fin at h
 rw[hr]at h
 simp only at h
 split at h
 ·exact hb c h
 ·cases h
theorem IP{i:Nat}{s:DeskState}(hG:GX N)(hS:SI i s)(hi:i≤60)(hN:20000≤N)(h:RI s)(ms:List LadderMatch)(d:Int)(l:List Int){t:DeskState}(ht:AD N s ms d l=.inr t):RI t:=by
 have same:∀{t:DeskState},t.fBowlers=s.fBowlers→t.fKept=s.fKept→t.fSheets=s.fSheets→t.fWithdrawn=s.fWithdrawn→RI t:=fun {t} e1 e2 e3 e4 =>
  ⟨by rw[e1];exact h.b,by rw[e2];exact h.k,fun i x hx=>by have:=h.rs i x (e3▸hx);exact⟨this.n,by rw[e1];exact this.b,this.w,this.g⟩,by rw[e4];exact h.wp,by rw[e4,e3];exact h.wb⟩
 unfold AD at ht
 simp only at ht
 split at ht
 ·unfold zN at ht
  split at ht
  ·cases ht
  rename_i h1
  split at ht
  ·cases ht
  split at ht
  ·cases ht
  cases ht
  refine⟨fun x hx=>?_,fun k hk x hx=>?_,fun i x hx=>?_,h.wp,h.wb⟩
  ·rcases List.mem_append.1 hx with hx | hx
   ·exact h.b x hx
   ·have hx:=List.mem_singleton.1 hx;subst hx;omega
  ·rcases List.mem_append.1 hk with hk | hk
   ·exact h.k k hk x hx
   ·simp at hk;subst hk;simp at hx
  ·have:=h.rs i x hx
   exact⟨this.n,by have:=this.b;simp;omega,this.w,this.g⟩
 split at ht
 ·unfold AO at ht
  split at ht
  ·cases ht
  split at ht
  ·cases ht
  split at ht
  ·cases ht;exact same rfl rfl rfl rfl
  ·cases ht
 split at ht
 ·unfold AP at ht
  split at ht
  ·cases ht
  split at ht
  ·cases ht
  split at ht
  ·cases ht;exact same rfl rfl rfl rfl
  ·cases ht
 split at ht
 ·unfold AQ at ht
  split at ht
  ·cases ht
  split at ht
  ·cases ht
  split at ht
  ·cases ht
  ·cases ht;exact same rfl rfl rfl rfl
 split at ht
 ·unfold Af at ht
  split at ht
  ·cases ht
  rename_i x hx
  split at ht
  ·cases ht
  split at ht
  ·rename_i c k hc hk
   cases ht
   have hlb:=hS.lb x (List.mem_of_getElem? (zr hx).2.2)
   have hcb:=HX hG (by omega) hc
   refine⟨h.b,fun k' hk' y hy=>?_,fun i x hx=>⟨(h.rs i x hx).n,(h.rs i x hx).b,(h.rs i x hx).w,(h.rs i x hx).g⟩,h.wp,h.wb⟩
   rcases List.mem_or_eq_of_mem_set hk' with hk' | rfl
   ·exact h.k k' hk' y hy
   ·rcases List.mem_append.1 hy with hy | hy
    ·exact h.k k (List.mem_of_getElem? hk) y hy
    ·simp at hy;subst hy;exact hcb
  ·cases ht
 split at ht
 ·unfold Ag at ht
  split at ht
  ·cases ht
  rename_i hw
  split at ht
  ·cases ht
  rename_i hkn
  split at ht
  ·cases ht
  rename_i k hk
  split at ht
  ·cases ht
  rename_i h3
  split at ht
  ·cases ht
  cases ht
  have hkb:=h.k k (List.mem_of_getElem? hk)
  have hgd:∀j,j<k.length→0≤k.getD j 0∧k.getD j 0≤300:=fun j hj=>by
   rw[List.getD_eq_getElem?_getD,List.getElem?_eq_getElem hj]
   exact hkb _ (List.getElem_mem hj)
  refine⟨h.b,fun k' hk' y hy=>?_,fun i x hx=>?_,h.wp,fun x hx=>by have:=h.wb x hx;simp;omega⟩
  ·rcases List.mem_or_eq_of_mem_set hk' with hk' | rfl
   ·exact h.k k' hk' y hy
   ·exact hkb y (List.mem_of_mem_take hy)
  ·have hx':(s.fSheets++[RateSheet.mk (s.fSheets.length+1) (l.getD 1 0) (l.getD 0 0) (Ar3.mk (k.getD (k.length-3) 0) (k.getD (k.length-2) 0) (k.getD (k.length-1) 0))])[i]? = some x:=hx
   rw[List.getElem?_append]at hx'
   split at hx'
   ·exact⟨(h.rs i x hx').n,(h.rs i x hx').b,(h.rs i x hx').w,(h.rs i x hx').g⟩
   ·rename_i hi
    have hi2:i=s.fSheets.length:=by have:=(List.getElem?_eq_some_iff.1 hx').1;simp at this;omega
    subst hi2
    simp at hx'
    subst hx'
    refine⟨rfl,?_,?_,hgd _ (by omega),hgd _ (by omega),hgd _ (by omega)⟩
    ·simp only[Classical.not_not,known]at hkn;exact hkn
    ·simp only[Classical.not_not]at hw;exact hw
 split at ht
 ·unfold zO at ht
  split at ht
  ·cases ht
  rename_i hn
  have hwl:=hS.wl
  obtain⟨j,hj,hb,hs⟩:=Cj (N:=N) s.fWithdrawn (l.getD 0 0) (by omega) hN
  rw[hb]at ht
  have hs:=hs h.wp
  generalize l.getD 0 0=n at ht hs hn
  by_cases hf:s.fWithdrawn[j]? = some n
  ·rw[decide_eq_true hf]at ht;cases ht
  ·rw[decide_eq_false hf]at ht
   simp only[Int.toNat_natCast]at ht
   cases ht
   refine⟨h.b,h.k,fun i x hx=>⟨(h.rs i x hx).n,(h.rs i x hx).b,(h.rs i x hx).w,(h.rs i x hx).g⟩,?_,fun x hx=>?_⟩
   ·have hlo:∀a∈s.fWithdrawn.take j,a<n:=fun a ha=>by
     obtain⟨q,hq⟩:=List.getElem?_of_mem ha
     rw[List.getElem?_take]at hq
     split at hq
     ·rename_i hqj;exact hs.1 q a hq hqj
     ·cases hq
    have hhi:∀a∈s.fWithdrawn.drop j,n<a:=fun a ha=>by
     obtain⟨q,hq⟩:=List.getElem?_of_mem ha
     rw[List.getElem?_drop]at hq
     have h1:=hs.2 (j+q) a hq (by omega)
     by_cases he:n=a
     ·exfalso
      subst he
      rcases Nat.eq_zero_or_pos q with h0 | h0
      ·subst h0;exact hf hq
      ·have hjl:j<s.fWithdrawn.length:=by have:=(List.getElem?_eq_some_iff.1 hq).1;omega
       have h2:=List.pairwise_iff_getElem.1 h.wp j (j+q) hjl (List.getElem?_eq_some_iff.1 hq).1 (by omega)
       rw[(List.getElem?_eq_some_iff.1 hq).2]at h2
       have h3:=hs.2 j _ (List.getElem?_eq_getElem hjl) (Nat.le_refl _)
       omega
     ·omega
    show(s.fWithdrawn.take j++[n]++s.fWithdrawn.drop j).Pairwise (·<·)
    rw[List.append_assoc,List.pairwise_append]
    refine⟨h.wp.take,?_,fun a ha b hb=>?_⟩
    ·rw[List.singleton_append,List.pairwise_cons]
     exact⟨hhi,h.wp.drop⟩
    ·have:=hlo a ha
     rcases List.mem_append.1 hb with hb | hb
     ·simp at hb;omega
     ·have:=hhi b hb;omega
   ·have hx':x∈s.fWithdrawn.take j++[n]++s.fWithdrawn.drop j:=hx
    rcases List.mem_append.1 hx' with hx' | hx'
    ·rcases List.mem_append.1 hx' with hx' | hx'
     ·exact h.wb x (List.mem_of_mem_take hx')
     ·simp at hx';subst hx';simp only[Classical.not_not]at hn;exact hn
    ·exact h.wb x (List.mem_of_mem_drop hx')
 split at ht
 ·unfold AS at ht
  split at ht
  ·cases ht
  split at ht
  ·cases ht;exact same rfl rfl rfl rfl
  ·cases ht
 ·unfold Ah at ht
  split at ht
  ·cases ht
  split at ht
  ·cases ht
  split at ht
  ·cases ht
  ·cases ht;exact same rfl rfl rfl rfl
theorem HY(hG:GX N)(hN:20000≤N):∀(l:List (List UInt8)) {i:Nat} {s:DeskState},SI i s→RI s→i+l.length≤60→RI (zv N s l)
 | [],_,_,_,h,_=>h
 | x::r,i,s,hS,h,hl=>by
  simp only[List.length_cons]at hl
  refine HY hG hN r (step_ok hS (by omega) hN x).1 ?_ (by omega)
  unfold stepW
  cases hs:zJ N s (nxl N s) x with
  | inl e=>exact h
  | inr t =>
   unfold zJ at hs
   split at hs
   ·cases hs
   split at hs
   ·cases hs
   split at hs
   ·cases hs
   ·exact IP hG hS (by omega) hN h _ _ _ hs
theorem IQ:RI st0:=⟨by simp[st0],by simp[st0],fun i x hx=>by simp[st0]at hx,by simp[st0],by simp[st0]⟩
/-! Averages and handicaps are told. -/
end Go.Proofs.YtdodahpkpeodfaaGreatDoor
namespace Go.Proofs.YtdodahpkpeodfaaGreatDoor
open Go.Kp
variable {N:Nat}
/-! The house's knock-out: a ladder, whose matches are played one after the other. -/
def fs (K:Nat)(i:Nat):Int:=(K:Int)-2-i
def wn (R:List LadderResult)(i:Nat):Int:=match R[i]? with
 | some r=>r.fGames.headD (-1)
 | none=>-1
def sn (K:Nat)(R:List LadderResult)(i:Nat):Int:=if i=0 then(K:Int)-1 else wn R (i-1)
structure DI(K:Nat)(R:List LadderResult):Prop where
 len:R.length=0∨R.length+1≤K
 r:∀(i:Nat) (x:LadderResult),R[i]? = some x→x.fMatch=i∧x.fGames=[wn R i]∧(wn R i=fs K i∨wn R i=sn K R i)
theorem DI.wb{K:Nat}{R:List LadderResult}(h:DI K R):∀i,i<R.length→0≤wn R i∧wn R i<K
 | 0,hi=>by
  have h1:=(h.r 0 _ (List.getElem?_eq_getElem hi)).2.2
  have h2:=h.len
  unfold fs sn at h1
  rw[if_pos rfl]at h1
  omega
 | i+1,hi=>by
  have h1:=(h.r (i+1) _ (List.getElem?_eq_getElem hi)).2.2
  have h2:=h.wb i (by omega)
  have:=h.len
  unfold fs sn at h1
  rw[if_neg (by omega),Nat.add_sub_cancel]at h1
  omega
theorem DY{R:List LadderResult}{i:Nat}(h:R.length≤i):wn R i=-1:=by unfold wn;rw[List.getElem?_eq_none h]
theorem Jb(hN:20000≤N):gq N [0,1]=some 1:=by
 obtain⟨n,rfl⟩:∃n,N=n+3:=⟨N-3,by omega⟩
 rfl
theorem EZ{m:Int}{x:Ar2 Int}{c1 c2 c3:Int}{c4:List LadderResult}{c5:List LadderPair}{m1:List (Int×LadderResult)}{l1:List (Ar2 Int)}(hx:idx l1 m=some x)(hN:20000≤N):xS N m [] c1 c2 c3 c4 c5 m1 l1=some (Ar2.mk 0 0):=by
 obtain⟨n,rfl⟩:∃n,N=n+1:=⟨N-1,by omega⟩
 unfold xS
 rw[hx]
 rfl
theorem GQ{m w:Int}{x:Ar2 Int}{c1 c2 c3:Int}{c4:List LadderResult}{c5:List LadderPair}{m1:List (Int×LadderResult)}{l1:List (Ar2 Int)}(hx:idx l1 m=some x)(hN:20000≤N):xS N m [w] c1 c2 c3 c4 c5 m1 l1=some (Ar2.mk (if w=x.a0 then 1 else 0) (if w=x.a1 then 1 else 0)):=by
 have s01:=Jb hN
 unfold xS
 rw[hx,Option.bind_some]
 have k1:loopN (fun rec7 y=>eE N [w] x rec7 y.1 y.2.1 y.2.2) N ((([w]:List Int).length:Int),0,(Ar2.mk 0 0))=some (Ar2.mk (if w=x.a0 then 1 else 0) 0):=by
  obtain⟨n,hn⟩:∃n,N=n+2:=⟨N-2,by omega⟩
  have e:∀B:((Int×Int×Ar2 Int)→Option (Ar2 Int))→(Int×Int×Ar2 Int)→Option (Ar2 Int),∀y,loopN B N y=B (loopN B (n+1)) y:=fun B y=>by rw[hn];rfl
  rw[e]
  show eE N [w] x (loopN (fun rec7 y=>eE N [w] x rec7 y.1 y.2.1 y.2.2) (n+1)) 1 0 (Ar2.mk 0 0)=_
  have nxt:∀c,loopN (fun rec7 y=>eE N [w] x rec7 y.1 y.2.1 y.2.2) (n+1) (1,w64 (0+1),c)=some c:=fun c=>rfl
  unfold eE
  rw[if_pos (by decide),show idx [w] 0=some w from rfl,Option.bind_some]
  by_cases h:w=x.a0
  ·rw[if_pos (by simp only[decide_eq_true_eq];exact h),if_pos h,s01,Option.bind_some,Option.bind_some];exact nxt _
  ·rw[if_neg (by simp only[decide_eq_true_eq];exact h),if_neg h,Option.bind_some];exact nxt _
 rw[k1,Option.bind_some]
 have k2:∀a:Int,loopN (fun rec9 y=>eS N [w] x rec9 y.1 y.2.1 y.2.2) N ((([w]:List Int).length:Int),0,(Ar2.mk a 0))=some (Ar2.mk a (if w=x.a1 then 1 else 0)):=fun a=>by
  obtain⟨n,hn⟩:∃n,N=n+2:=⟨N-2,by omega⟩
  have e:∀B:((Int×Int×Ar2 Int)→Option (Ar2 Int))→(Int×Int×Ar2 Int)→Option (Ar2 Int),∀y,loopN B N y=B (loopN B (n+1)) y:=fun B y=>by rw[hn];rfl
  rw[e]
  show eS N [w] x (loopN (fun rec9 y=>eS N [w] x rec9 y.1 y.2.1 y.2.2) (n+1)) 1 0 (Ar2.mk a 0)=_
  have nxt:∀c,loopN (fun rec9 y=>eS N [w] x rec9 y.1 y.2.1 y.2.2) (n+1) (1,w64 (0+1),c)=some c:=fun c=>rfl
  unfold eS
  rw[if_pos (by decide),show idx [w] 0=some w from rfl,Option.bind_some]
  by_cases h:w=x.a1
  ·rw[if_pos (by simp only[decide_eq_true_eq];exact h),if_pos h,s01,Option.bind_some,Option.bind_some];exact nxt _
  ·rw[if_neg (by simp only[decide_eq_true_eq];exact h),if_neg h,Option.bind_some];exact nxt _
 rw[k2,Option.bind_some]
theorem Fv{m:Int}{x:Ar2 Int}{c1 c2:Int}{c4:List LadderResult}{c5:List LadderPair}{m1:List (Int×LadderResult)}{l1:List (Ar2 Int)}(hx:idx l1 m=some x)(hN:20000≤N):xP N m [] c1 c2 1 c4 c5 m1 l1=some (-1):=by
 unfold xP
 rw[EZ hx hN,Option.bind_some]
 rfl
theorem Fw{m w:Int}{x:Ar2 Int}{c1 c2:Int}{c4:List LadderResult}{c5:List LadderPair}{m1:List (Int×LadderResult)}{l1:List (Ar2 Int)}(hx:idx l1 m=some x)(hw:w=x.a0∨w=x.a1)(hN:20000≤N):xP N m [w] c1 c2 1 c4 c5 m1 l1=some w:=by
 unfold xP
 rw[GQ hx hN,Option.bind_some,hx]
 by_cases h:w=x.a0
 ·simp only[if_pos h]
  rw[if_pos (by decide),Option.bind_some,h]
 ·have h1:=hw.resolve_left h
  simp only[if_neg h,if_pos h1]
  rw[if_neg (by decide),if_pos (by decide),Option.bind_some,h1]
def MR (R:List LadderResult)(n:Nat)(m:List (Int×LadderResult)):Prop:=∀k:Int,mget m k=if 0≤k∧k<n then R[k.toNat]? else none
theorem MR.at{R:List LadderResult}{n:Nat}{m:List (Int×LadderResult)}(h:MR R n m)(hn:R.length≤n)(i:Nat):mget m (i:Int)=R[i]?:=by
 rw[h]
 by_cases hi:i<n
 ·rw[if_pos ⟨by omega,by omega⟩,Int.toNat_natCast]
 ·rw[if_neg (by omega),List.getElem?_eq_none (by omega)]
theorem Hv{K:Nat}{R:List LadderResult}(hd:DI K R){m1:List (Int×LadderResult)}(hm:MR R R.length m1){i:Nat}{x:Ar2 Int}{c1 c2:Int}{c4:List LadderResult}{c5:List LadderPair}{l1:List (Ar2 Int)}(hx:idx l1 (i:Int)=some x)(h0:x.a0=fs K i)(h1:x.a1=sn K R i)(hN:20000≤N):dq N (i:Int) c1 c2 1 c4 c5 m1 l1=some (wn R i):=by
 unfold dq mgt
 rw[Option.bind_some]
 dsimp only
 rw[hm.at (Nat.le_refl _)]
 cases hr:R[i]? with
 | none =>
  have:R.length≤i:=by
   rcases Nat.lt_or_ge i R.length with h | h
   ·rw[List.getElem?_eq_getElem h]at hr;cases hr
   ·exact h
  rw[DY this];rfl
 | some r =>
  obtain⟨_,hg,hw⟩:=hd.r i r hr
  simp only[Option.isSome_some,Option.getD_some,Bool.not_true,Bool.false_eq_true,if_false,hg]
  rw[Fw hx (by rw[h0,h1];exact hw) hN]
  rfl
theorem GY{K:Nat}{R:List LadderResult}(hd:DI K R){r:LadderResult}{m1:List (Int×LadderResult)}{i:Nat}(hr:R[i]? = some r){x:Ar2 Int}{c1 c2:Int}{c4:List LadderResult}{c5:List LadderPair}{l1:List (Ar2 Int)}(hx:idx l1 (i:Int)=some x)(h0:x.a0=fs K i)(h1:x.a1=sn K R i)(hN:20000≤N):yg N r c1 c2 1 c4 c5 m1 l1=some true:=by
 obtain⟨hm,hg,hw⟩:=hd.r i r hr
 have hil:=(List.getElem?_eq_some_iff.1 hr).1
 have hl:=hd.len
 have b0:¬x.a0=-1:=by rw[h0];unfold fs;omega
 have b1:¬x.a1=-1:=by
  rw[h1];unfold sn
  split
  ·omega
  ·have:=hd.wb (i-1) (by omega);omega
 unfold yg
 rw[hm,hx,Option.bind_some,if_neg (by simp only[decide_eq_true_eq];exact b0),Option.bind_some,if_neg (by simp only[decide_eq_true_eq];exact b1),hg]
 have hc:yP N [x.a0,x.a1] (wn R i)=some true:=by
  have:yP N [x.a0,x.a1] (wn R i)=some (decide (wn R i∈[x.a0,x.a1])):=AZ (N:=N) [x.a0,x.a1] (wn R i) (by simp;omega) (by simp)
  rw[this,h0,h1]
  simp[hw]
 obtain⟨n,hn⟩:∃n,N=n+2:=⟨N-2,by omega⟩
 have key:loopN (fun rec3 y=>fw N r c1 c2 1 c4 c5 m1 l1 x rec3 y.1 y.2) N ((([wn R i]:List Int).length:Int),0)=some true:=by
  have e:∀B:((Int×Int)→Option Bool)→(Int×Int)→Option Bool,∀y,loopN B N y=B (loopN B (n+1)) y:=fun B y=>by rw[hn];rfl
  rw[e]
  show fw N r c1 c2 1 c4 c5 m1 l1 x (loopN (fun rec3 y=>fw N r c1 c2 1 c4 c5 m1 l1 x rec3 y.1 y.2) (n+1)) 1 0=_
  have nxt:loopN (fun rec3 y=>fw N r c1 c2 1 c4 c5 m1 l1 x rec3 y.1 y.2) (n+1) (1,w64 (0+1))=some true:=rfl
  unfold fw
  rw[if_pos (by decide),hg,show idx [wn R i] 0=some (wn R i)from rfl,Option.bind_some,hc,Option.bind_some]
  simp only[Bool.not_true,Bool.false_eq_true,if_false]
  rw[show slc [wn R i] 0 0=some [] from rfl,Option.bind_some,hm,Fv hx hN,Option.bind_some,Option.bind_some]
  rw[if_neg (by decide)]
  exact nxt
 rw[key];rfl
def pair (K i:Nat):LadderPair:=LadderPair.mk (LadderSide.mk (fs K i) (-1)) (if i=0 then LadderSide.mk ((K:Int)-1) (-1)else LadderSide.mk (-1) ((i:Int)-1))
structure TE(K:Nat)(t:List LadderPair):Prop where
 len:t.length+1=K
 el:∀(i:Nat) (p:LadderPair),t[i]? = some p→p=pair K i
structure PE(K:Nat)(R:List LadderResult)(l:List (Ar2 Int)):Prop where
 len:l.length+1=K
 el:∀i,i+1<K→idx l (i:Int)=some (Ar2.mk (fs K i) (sn K R i))
theorem Il{K:Nat}{R:List LadderResult}(hK:2≤K∧K≤8)(hN:20000≤N):∃t,ie N (LadderCup.mk 1 (K:Int) 1 R)=some t∧TE K t:=by
 unfold ie fX gi
 dsimp only
 rw[if_pos (show(decide ((1:Int)=1))=true from rfl),Option.bind_some,Option.bind_some]
 have e1:w64 ((K:Int)-1)=(K:Int)-1:=bE (by omega) (by omega)
 have e2:w64 ((K:Int)-1-1)=fs K 0:=by rw[bE (by omega) (by omega)];unfold fs;omega
 rw[e1,e2]
 have key:=zh (B:=fun rec3 x=>bV N rec3 x.1 x.2.1 x.2.2) (fun k (x:Int×Int×List LadderPair)=>x.1=(K:Int)-1∧∃n:Nat,x.2.1=n∧1≤n∧n+k+1=K∧x.2.2.length=n∧∀(i:Nat) (p:LadderPair),x.2.2[i]? = some p→p=pair K i) (TE K)
  (fun k x rec hI ih=>by
   obtain⟨v,n',t⟩:=x
   obtain⟨hv,n,hn,h1,h3,h4,h5⟩:=hI
   simp only at hv hn h4 h5
   subst hv hn
   unfold bV gi y8
   by_cases h:(n:Int)<(K:Int)-1
   ·rw[if_pos (by simp only[decide_eq_true_eq];exact h),Option.bind_some,Option.bind_some,nL (by simp;omega),Option.bind_some]
    have e3:w64 ((n:Int)-1)=(n:Int)-1:=bE (by omega) (by omega)
    have e4:w64 (w64 ((K:Int)-1-1)-(n:Int))=fs K n:=by rw[bE (n:=(K:Int)-1-1) (by omega) (by omega),bE (by omega) (by omega)];unfold fs;omega
    dsimp only
    rw[e3,fN (by omega),e4]
    refine ih (k-1) _ (by omega) ⟨rfl,n+1,rfl,by omega,by omega,by simp[h4],fun i p hx=>?_⟩
    rw[List.getElem?_append]at hx
    split at hx
    ·exact h5 i p hx
    ·rename_i hi
     have hi2:i=n:=by have:=(List.getElem?_eq_some_iff.1 hx).1;simp at this;omega
     subst hi2
     rw[h4,Nat.sub_self]at hx
     simp at hx
     subst hx
     unfold pair
     rw[if_neg (by omega)]
   ·rw[if_neg (by simp only[decide_eq_true_eq];exact h)]
    exact⟨_,rfl,⟨by simp only;omega,h5⟩⟩)
  N (K-2) ((K:Int)-1,1,[LadderPair.mk (LadderSide.mk (fs K 0) (-1)) (LadderSide.mk ((K:Int)-1) (-1))]) ⟨rfl,1,rfl,by omega,by omega,rfl,fun i p hx=>by
   have hi:=(List.getElem?_eq_some_iff.1 hx).1
   simp at hi;subst hi;simp at hx;subst hx;rfl⟩ (by omega)
 obtain⟨t,ht,hT⟩:=key
 rw[ht]
 exact⟨t,rfl,hT⟩
theorem Im{K:Nat}{R:List LadderResult}(hd:DI K R){m1:List (Int×LadderResult)}(hm:MR R R.length m1){t:List LadderPair}(ht:TE K t)(hK:K≤8)(hN:20000≤N):∃l,fZ N 1 (K:Int) 1 R t m1=some (true,1,(K:Int),1,R,t,l)∧PE K R l:=by
 have htl:=ht.len
 have key:=zg (N:=N) (B:=fun rec3 y=>yM N 1 (K:Int) 1 R t m1 rec3 y.1 y.2.1 y.2.2) t (fun i (a:List (Ar2 Int))=>((t.length:Int),(i:Int),a)) (fun i a=>a.length=i∧∀j,j<i→idx a (j:Int)=some (Ar2.mk (fs K j) (sn K R j))) (fun z=>∃l,z=(true,1,(K:Int),1,R,t,l)∧PE K R l)
  (fun a rec ha=>⟨_,by unfold yM yJ;rw[if_neg (by simp)],a,rfl,⟨by omega,fun i hi=>ha.2 i (by omega)⟩⟩)
  (fun i p a rec hx ha ih=>by
   have hlt:=lP hx
   have hp:=ht.el i p hx
   subst hp
   unfold yM
   rw[if_pos (by simp only[decide_eq_true_eq];omega),ij hx,Option.bind_some,show jD N=some ()from rfl,Option.bind_some]
   have e1:(Option.bind (fY N (pair K i)) fun r303=>if decide (r303.fMatch=(-1))then some ((Ar2.mk r303.fPlayer (-1)))else Option.bind (dq N r303.fMatch 1 (K:Int) 1 R t m1 a) fun r304=>some ((Ar2.mk r304 (-1))))=some (Ar2.mk (fs K i) (-1)):=rfl
   rw[e1,Option.bind_some]
   have e2:(Option.bind (zQ N (pair K i)) fun r309=>if decide (r309.fMatch=(-1))then some (Ar2.mk (Ar2.mk (fs K i) (-1)).a0 r309.fPlayer)else Option.bind (dq N r309.fMatch 1 (K:Int) 1 R t m1 a) fun r310=>some (Ar2.mk (Ar2.mk (fs K i) (-1)).a0 r310))=some (Ar2.mk (fs K i) (sn K R i)):=by
    rw[show zQ N (pair K i)=some (pair K i).fSecond from rfl,Option.bind_some]
    unfold pair sn
    by_cases h0:i=0
    ·subst h0;rfl
    ·simp only[if_neg h0]
     rw[if_neg (by simp only[decide_eq_true_eq];omega)]
     have e3:((i:Int)-1)=((i-1:Nat):Int):=by omega
     have hpr:=ha.2 (i-1) (by omega)
     rw[e3,Hv hd hm hpr rfl rfl hN]
     rfl
   rw[e2,Option.bind_some,nL (by simp;omega),Option.bind_some]
   have hnew:∀j,j<i+1→idx (a++[Ar2.mk (fs K i) (sn K R i)]) (j:Int)=some (Ar2.mk (fs K j) (sn K R j)):=fun j hj=>by
    by_cases hji:j<i
    ·have:=ha.2 j hji
     unfold idx at this ⊢
     rw[if_pos (by omega)]at this ⊢
     rw[List.getElem?_append_left (by rw[Int.toNat_natCast];omega)];exact this
    ·have:j=i:=by omega
     subst this
     refine ij ?_
     rw[List.getElem?_append_right (by omega),ha.1,Nat.sub_self];rfl
   unfold mgt
   rw[Option.bind_some]
   dsimp only
   rw[hm.at (Nat.le_refl _)]
   cases hr:R[i]? with
   | none =>
    simp only[Option.isSome_none,Bool.false_eq_true,if_false,Option.bind_some]
    rw[fN (by omega)]
    exact ih _ ⟨by simp[ha.1],hnew⟩
   | some r =>
    simp only[Option.isSome_some,Option.getD_some,if_true]
    rw[GY hd hr (hnew i (by omega)) rfl rfl hN,Option.bind_some,Option.bind_some]
    simp only[Bool.not_true,Bool.false_eq_true,if_false]
    rw[fN (by omega)]
    exact ih _ ⟨by simp[ha.1],hnew⟩)
  (by omega) [] ⟨rfl,fun j hj=>by omega⟩
 obtain⟨z,hz,l,rfl,hl⟩:=key
 exact⟨l,hz,hl⟩
theorem Io{K:Nat}{R:List LadderResult}(hd:DI K R)(hK:2≤K∧K≤8)(hN:20000≤N):∃t m l,ig N (LadderCup.mk 1 (K:Int) 1 R)=some (.inr (0,1,(K:Int),1,R,t,m,l))∧TE K t∧MR R R.length m∧PE K R l:=by
 have hl:=hd.len
 have hg:∀r∈R,r.fGames.length=1∧0≤r.fMatch∧r.fMatch≤(K:Int)-2:=fun r hr=>by
  obtain⟨i,hi⟩:=List.getElem?_of_mem hr
  obtain⟨h1,h2,_⟩:=hd.r i r hi
  have:=(List.getElem?_eq_some_iff.1 hi).1
  rw[h2,h1]
  exact⟨rfl,by omega,by omega⟩
 have hall:(R.all fun _=>true)=true:=List.all_eq_true.2 fun _ _=>rfl
 unfold ig
 have ha:lM N R=some (R.all fun _=>true) :=
  tZ R (fun y=>kD N y) (fun _=>true) (fun x hx=>by
   show kD N x=_
   unfold kD gI
   have:=(hg x hx).1
   rw[Option.bind_some,decide_eq_true (by omega:(x.fGames.length:Int)≤5)]) (by omega) (by omega)
 have ha2:kE N R (LadderCup.mk 1 (K:Int) 1 R)=some (R.all fun _=>true) :=
  tZ R (fun y=>jC N y (LadderCup.mk 1 (K:Int) 1 R)) (fun _=>true) (fun x hx=>by
   show jC N x _=_
   unfold jC gK
   have h1:=hg x hx
   have e1:w64 ((K:Int)-2)=(K:Int)-2:=bE (by omega) (by omega)
   dsimp only
   rw[zI,Option.bind_some,e1,decide_eq_true h1.2.1,decide_eq_true h1.2.2]
   simp only[Bool.and_self,if_true]
   rw[decide_eq_true (by omega:0<(x.fGames.length:Int))];rfl) (by omega) (by omega)
 have hck:gJ N (LadderCup.mk 1 (K:Int) 1 R)=some 0:=by
  unfold gJ
  dsimp only
  rw[if_neg (show ¬((decide ((1:Int)<1))=true) by decide),zI,Option.bind_some,decide_eq_true (by omega:2≤(K:Int)),decide_eq_true (by omega:(K:Int)≤16)]
  simp only[Bool.and_self,Bool.not_true,Bool.false_eq_true,if_false]
  rw[zI]
  rfl
 dsimp only
 rw[if_neg (by simp only[decide_eq_true_eq];omega),ha,Option.bind_some,Option.bind_some]
 rw[hall]
 simp only[Bool.not_true,Bool.false_eq_true,if_false]
 rw[hck,Option.bind_some]
 simp only[decide_true,Bool.not_true,Bool.false_eq_true,if_false]
 rw[ha2,Option.bind_some,Option.bind_some]
 rw[hall]
 simp only[Bool.not_true,Bool.false_eq_true,if_false]
 obtain⟨t,ht,hT⟩:=Il (N:=N) (R:=R) hK hN
 rw[ht,Option.bind_some]
 obtain⟨z,hz,hq⟩:=zg (N:=N) (B:=fun rec3 x=>dy N (LadderCup.mk 1 (K:Int) 1 R) t rec3 x.1 x.2.1 x.2.2) R (fun i (a:List (Int×LadderResult))=>((R.length:Int),(i:Int),a)) (fun i a=>MR R i a) (fun z=>∃m l,z=.inr (0,1,(K:Int),1,R,t,m,l)∧MR R R.length m∧PE K R l)
  (fun a rec hm=>by
   unfold dy yC
   rw[if_neg (by simp)]
   obtain⟨l,hf,hp⟩:=Im (N:=N) hd hm hT hK.2 hN
   dsimp only
   rw[hf,Option.bind_some]
   exact⟨_,rfl,a,l,rfl,hm,hp⟩)
  (fun i x a rec hx hm ih=>by
   have hlt:=lP hx
   obtain⟨h1,_,_⟩:=hd.r i x hx
   unfold dy mgt
   dsimp only
   rw[if_pos (by simp only[decide_eq_true_eq];omega),ij hx,Option.bind_some,Option.bind_some,Option.bind_some,fN (by omega),h1]
   have:mget a (i:Int)=none:=by rw[hm,if_neg (by omega)]
   rw[this]
   simp only[Option.isSome_none,Bool.false_eq_true,if_false]
   refine ih _ fun k=>?_
   rw[Az]
   by_cases hk:k=(i:Int)
   ·subst hk
    rw[if_pos rfl,if_pos ⟨by omega,by omega⟩,Int.toNat_natCast,hx]
   ·rw[if_neg hk,hm]
    by_cases hk2:0≤k∧k<i
    ·rw[if_pos hk2,if_pos ⟨hk2.1,by omega⟩]
    ·rw[if_neg hk2,if_neg (by omega)])
  (by omega) [] (fun k=>by
   show none=_
   rw[if_neg (by omega)])
 simp only[Int.natCast_zero]at hz
 obtain⟨m,l,rfl,hm,hp⟩:=hq
 exact⟨t,m,l,hz,hT,hm,hp⟩
end Go.Proofs.YtdodahpkpeodfaaGreatDoor
namespace Go.Proofs.YtdodahpkpeodfaaGreatDoor
open Go.Kp
variable {N:Nat}
def Do (K:Nat)(R:List LadderResult):List LadderMatch:=if R.length+1<K then [LadderMatch.mk R.length (fs K R.length) (sn K R R.length) 0 0] else []
theorem GB{K:Nat}{R:List LadderResult}(hd:DI K R){i:Nat}(hi:i≤R.length)(hK:i+1<K):0≤sn K R i∧sn K R i<K:=by
 unfold sn
 split
 ·omega
 ·exact hd.wb (i-1) (by omega)
theorem F4{K:Nat}{R:List LadderResult}(hd:DI K R)(hK:2≤K∧K≤8){t:List LadderPair}{m:List (Int×LadderResult)}{l:List (Ar2 Int)}(hm:MR R R.length m)(hl:PE K R l)(hN:20000≤N):yG N 1 (K:Int) 1 R t m l=some (Do K R):=by
 have hll:=hl.len
 have hlen:=hd.len
 unfold yG yI
 have key:=lO (N:=N) (B:=fun rec3 x=>rc N 1 (K:Int) 1 R t m l rec3 x.1 x.2.1 x.2.2) l (fun i (a:List LadderMatch)=>((l.length:Int),(i:Int),a)) (fun _ _=>some (Do K R)) (fun i a=>a=if R.length<i∧R.length+1<K then Do K R else [])
  (fun a rec ha=>by
   unfold rc
   rw[if_neg (by simp),ha]
   split
   ·rfl
   ·rename_i hh
    unfold Do
    rw[if_neg (by omega)])
  (fun i x a rec hx ha ih=>by
   have hlt:=lP hx
   have hxe:x=Ar2.mk (fs K i) (sn K R i):=by
    have:=hl.el i (by omega)
    rw[ij hx]at this
    exact Option.some.inj this
   subst hxe
   have b0:¬fs K i=-1:=by unfold fs;omega
   unfold rc
   rw[if_pos (by simp only[decide_eq_true_eq];omega),ij hx,Option.bind_some,fN (by omega)]
   rw[if_neg (by simp only[decide_eq_true_eq];exact b0)]
   have hwon:=Hv (c1:=1) (c2:=(K:Int)) (c4:=R) (c5:=t) hd hm (hl.el i (by omega)) rfl rfl hN
   rcases Nat.lt_trichotomy i R.length with hi | hi | hi
   ·have h1:=GB hd (i:=i) (by omega) (by omega)
    have h2:=hd.wb i hi
    rw[if_neg (by simp only[decide_eq_true_eq];omega),hwon,Option.bind_some,Option.bind_some]
    rw[if_pos (by simp only[Bool.not_eq_true',decide_eq_false_iff_not];omega),Option.bind_some]
    refine ih _ ?_
    rw[ha,if_neg (by omega),if_neg (by omega)]
   ·have h1:=GB hd (i:=i) (by omega) (by omega)
    rw[if_neg (by simp only[decide_eq_true_eq];omega),hwon,Option.bind_some,Option.bind_some,DY (by omega)]
    rw[if_neg (by decide)]
    unfold mgt
    rw[Option.bind_some]
    dsimp only
    rw[hm.at (Nat.le_refl _),List.getElem?_eq_none (by omega:R.length≤i)]
    simp only[Option.getD_none]
    rw[EZ (hl.el i (by omega)) hN,Option.bind_some,Option.bind_some]
    rw[ha,if_neg (by omega),nL (by simp;omega),Option.bind_some,Option.bind_some]
    refine ih _ ?_
    rw[if_pos ⟨by omega,by omega⟩]
    subst hi
    unfold Do
    rw[if_pos (by omega)]
    rfl
   ·have h1:sn K R i=-1:=by unfold sn;rw[if_neg (by omega),DY (by omega)]
    rw[if_pos (by simp only[decide_eq_true_eq];exact h1),Option.bind_some]
    simp only[if_true,Option.bind_some]
    refine ih _ ?_
    rw[ha,if_pos ⟨hi,by omega⟩,if_pos ⟨by omega,by omega⟩])
  (by omega) [] (by rw[if_neg (by omega)])
 simp only[Int.natCast_zero]at key
 rw[key];rfl
theorem Ip{K:Nat}{R:List LadderResult}(hd:DI K R)(hK:2≤K∧K≤8)(hN:20000≤N):yh N (LadderCup.mk 1 (K:Int) 1 R)=some (Do K R,0):=by
 obtain⟨t,m,l,hdr,_,hm,hl⟩:=Io (N:=N) hd hK hN
 unfold yh
 rw[hdr,Option.bind_some]
 dsimp only
 rw[if_neg (by decide),show yQ N 1 (K:Int) 1 R t m l=some ()from rfl,Option.bind_some,F4 hd hK hm hl hN,Option.bind_some]
theorem Hw{K:Nat}(hK:K<2)(hN:20000≤N):yh N (LadderCup.mk 1 (K:Int) 1 [])=some ([],1):=by
 obtain⟨n,rfl⟩:∃n,N=n+1:=⟨N-1,by omega⟩
 have:K=0∨K=1:=by omega
 rcases this with rfl | rfl<;>rfl
theorem Hx{i:Nat}{s:DeskState}(hS:SI i s)(hd:DI s.fBowlers.length s.fResults)(hN:20000≤N):nxl N s=if 2≤s.fBowlers.length then Do s.fBowlers.length s.fResults else []:=by
 have hb:=hS.bl
 unfold nxl cup
 by_cases h:2≤s.fBowlers.length
 ·rw[Ip hd ⟨h,hb⟩ hN,if_pos h]
 ·have hr:s.fResults=[]:=List.eq_nil_of_length_eq_zero (by have:=hd.len;omega)
  rw[hr,Hw (by omega) hN,if_neg h]
theorem DI.snoc{K:Nat}{R:List LadderResult}(h:DI K R)(hm:R.length+1<K){n:Int}(hn:n=fs K R.length∨n=sn K R R.length):DI K (R++[LadderResult.mk R.length [n] false]):=by
 have hw:∀i,i<R.length→wn (R++[LadderResult.mk R.length [n] false]) i=wn R i:=fun i hi=>by unfold wn;rw[List.getElem?_append_left hi]
 have hwl:wn (R++[LadderResult.mk R.length [n] false]) R.length=n:=by unfold wn;rw[List.getElem?_append_right (Nat.le_refl _),Nat.sub_self];rfl
 have hs:∀i,i≤R.length→sn K (R++[LadderResult.mk R.length [n] false]) i=sn K R i:=fun i hi=>by
  unfold sn
  split
  ·rfl
  ·exact hw (i-1) (by omega)
 refine⟨.inr (by simp;omega),fun i x hx=>?_⟩
 rcases Nat.lt_or_ge i R.length with hi | hi
 ·rw[List.getElem?_append_left hi]at hx
  obtain⟨h1,h2,h3⟩:=h.r i x hx
  rw[hw i hi,hs i (by omega)]
  exact⟨h1,h2,h3⟩
 ·have hie:i=R.length:=by have:=(List.getElem?_eq_some_iff.1 hx).1;simp at this;omega
  subst hie
  rw[List.getElem?_append_right (Nat.le_refl _),Nat.sub_self]at hx
  simp at hx
  subst hx
  rw[hwl,hs _ (Nat.le_refl _)]
  exact⟨rfl,rfl,hn⟩
theorem IJ{R:List LadderResult}{j:Nat}{r:LadderResult}(hr:R[j]? = some r)(p:Bool)(i:Nat):wn (R.set j (LadderResult.mk r.fMatch r.fGames p)) i=wn R i:=by
 unfold wn
 rw[List.getElem?_set]
 by_cases h:j=i
 ·subst h
  rw[if_pos rfl,if_pos (List.getElem?_eq_some_iff.1 hr).1,hr]
 ·rw[if_neg h]
theorem DI.set{K:Nat}{R:List LadderResult}(h:DI K R){j:Nat}{r:LadderResult}(hr:R[j]? = some r)(p:Bool):DI K (R.set j (LadderResult.mk r.fMatch r.fGames p)):=by
 have hw:=IJ hr p
 have hs:∀i,sn K (R.set j (LadderResult.mk r.fMatch r.fGames p)) i=sn K R i:=fun i=>by unfold sn;rw[hw]
 refine⟨by rw[List.length_set];exact h.len,fun i x hx=>?_⟩
 rw[hw,hs]
 rw[List.getElem?_set]at hx
 split at hx
 ·rename_i hji
  subst hji
  split at hx
  ·cases hx
   exact h.r j r hr
  ·cases hx
 ·exact h.r i x hx
theorem IK{i:Nat}{s:DeskState}(hS:SI i s)(hN:20000≤N)(h:DI s.fBowlers.length s.fResults)(d:Int)(l:List Int){t:DeskState}(ht:AD N s (nxl N s) d l=.inr t):DI t.fBowlers.length t.fResults:=by
 have same:∀{t:DeskState},t.fBowlers=s.fBowlers→t.fResults=s.fResults→DI t.fBowlers.length t.fResults:=fun e1 e2=>by rw[e1,e2];exact h
 unfold AD at ht
 simp only at ht
 split at ht
 ·unfold zN at ht
  split at ht
  ·cases ht
  split at ht
  ·cases ht
  split at ht
  ·cases ht
  rename_i hr
  cases ht
  simp only[ne_eq,Classical.not_not]at hr
  have hr':s.fResults=[]:=List.eq_nil_of_length_eq_zero hr
  simp only[hr']
  exact⟨.inl rfl,fun i x hx=>by simp at hx⟩
 split at ht
 ·unfold AO at ht
  split at ht
  ·cases ht
  split at ht
  ·cases ht
  split at ht
  ·cases ht;exact same rfl rfl
  ·cases ht
 split at ht
 ·unfold AP at ht
  split at ht
  ·cases ht
  split at ht
  ·cases ht
  split at ht
  ·cases ht;exact same rfl rfl
  ·cases ht
 split at ht
 ·unfold AQ at ht
  split at ht
  ·cases ht
  split at ht
  ·cases ht
  split at ht
  ·cases ht
  ·cases ht;exact same rfl rfl
 split at ht
 ·unfold Af at ht
  split at ht
  ·cases ht
  split at ht
  ·cases ht
  split at ht
  ·cases ht;exact same rfl rfl
  ·cases ht
 split at ht
 ·unfold Ag at ht
  split at ht
  ·cases ht
  split at ht
  ·cases ht
  split at ht
  ·cases ht
  split at ht
  ·cases ht
  split at ht
  ·cases ht
  cases ht;exact same rfl rfl
 split at ht
 ·unfold zO at ht
  split at ht
  ·cases ht
  split at ht
  ·cases ht;exact same rfl rfl
  ·cases ht
 split at ht
 ·rw[Hx hS h hN]at ht
  unfold AS at ht
  by_cases hb:2≤s.fBowlers.length
  ·rw[if_pos hb]at ht
   unfold Do at ht
   by_cases hm:s.fResults.length+1<s.fBowlers.length
   ·rw[if_pos hm]at ht
    simp only at ht
    split at ht
    ·rename_i hn
     cases ht
     exact h.snoc hm hn
    ·cases ht
   ·rw[if_neg hm]at ht;cases ht
  ·rw[if_neg hb]at ht;cases ht
 ·unfold Ah at ht
  split at ht
  ·cases ht
  split at ht
  ·cases ht
  rename_i r hr
  split at ht
  ·cases ht
  ·cases ht
   exact h.set hr true
theorem Hy(hN:20000≤N):∀(l:List (List UInt8)) {i:Nat} {s:DeskState},SI i s→DI s.fBowlers.length s.fResults→i+l.length≤60→DI (zv N s l).fBowlers.length (zv N s l).fResults
 | [],_,_,_,h,_=>h
 | x::r,i,s,hS,h,hl=>by
  simp only[List.length_cons]at hl
  refine Hy hN r (step_ok hS (by omega) hN x).1 ?_ (by omega)
  unfold stepW
  cases hs:zJ N s (nxl N s) x with
  | inl e=>exact h
  | inr t =>
   unfold zJ at hs
   split at hs
   ·cases hs
   split at hs
   ·cases hs
   split at hs
   ·cases hs
   ·exact IK hS hN h _ _ hs
theorem IL:DI st0.fBowlers.length st0.fResults:=⟨.inl rfl,fun i x hx=>by simp[st0]at hx⟩
end Go.Proofs.YtdodahpkpeodfaaGreatDoor
namespace Go.Proofs.YtdodahpkpeodfaaGreatDoor
open Go.Kp
variable {N:Nat}
/-! The document's state. -/
def Cv (x:DeskLane):Ref12Lane:=Ref12Lane.mk x.fBowler x.fBalls
def Dr (x:RateSheet):Ref07Sheet:=Ref07Sheet.mk x.fNumber x.fBowler x.fWeek x.fGames
def Db (x:LadderResult):Ref09Result:=Ref09Result.mk x.fMatch x.fGames x.fProtested
def HD:List DeskLane→Ar4 Ref12Lane
 | [a,b,c,d]=>Ar4.mk (Cv a) (Cv b) (Cv c) (Cv d)
 | _=>Ar4.mk (Ref12Lane.mk (-1) []) (Ref12Lane.mk (-1) []) (Ref12Lane.mk (-1) []) (Ref12Lane.mk (-1) [])
def tr (s:DeskState):Ref12State:=Ref12State.mk s.fBowlers (HD s.fLanes) s.fKept (s.fSheets.map Dr) s.fWithdrawn (s.fResults.map Db)
def emr (s:DeskState):Int⊕DeskState→Ref12State×Int
 | .inl e=>(tr s,e)
 | .inr t=>(tr t,0)
theorem GD(n a b:Int):Bw N n a b=some (decide (a≤n)&&decide (n≤b)):=by
 unfold Bw
 by_cases h:a≤n<;>simp[h]
theorem Fj{n a b:Int}(h:a≤n∧n≤b):Bw N n a b=some true:=by rw[GD,decide_eq_true h.1,decide_eq_true h.2];rfl
theorem Fk{n a b:Int}(h:¬(a≤n∧n≤b)):Bw N n a b=some false:=by
 rw[GD]
 congr 1
 rw[Bool.eq_false_iff];intro e;simp only[Bool.and_eq_true,decide_eq_true_eq]at e;exact h e
theorem F8{s:DeskState}(h:s.fLanes.length=4):∃a b c d,s.fLanes=[a,b,c,d]:=by
 match hl:s.fLanes,h with
 | [a,b,c,d],_=>exact⟨a,b,c,d,rfl⟩
theorem De{s:DeskState}(h:s.fLanes.length=4)(n:Int):(lane s n=none↔¬(0≤n∧n≤3)):=by
 unfold lane
 by_cases h0:0≤n
 ·rw[if_pos h0,List.getElem?_eq_none_iff];omega
 ·rw[if_neg h0];exact⟨fun _ h=>h0 h.1,fun _=>rfl⟩
theorem F9{i:Nat}{s:DeskState}(hS:SI i s)(hi:i≤60)(hN:20000≤N)(a:Int):CZ N (tr s) a=some (emr s (zN s a)):=by
 have hb:=hS.bl
 have hk:=hS.kl
 unfold CZ zN
 by_cases h:0≤a∧a≤300
 ·rw[Fj h,Option.bind_some,if_neg (show ¬(¬(0≤a∧a≤300))from fun e=>e h)]
  simp only[Bool.not_true,Bool.false_eq_true,if_false]
  have e1:(tr s).fBowlers=s.fBowlers:=rfl
  have e2:(tr s).fResults.length=s.fResults.length:=by simp[tr]
  have e3:(tr s).fKept=s.fKept:=rfl
  rw[e1,e2,e3]
  by_cases h8:s.fBowlers.length<8
  ·rw[if_neg (by simp only[decide_eq_true_eq];omega),if_neg (show ¬ ¬s.fBowlers.length<8 from fun e=>e h8)]
   by_cases hr:s.fResults.length=0
   ·rw[if_neg (by simp only[decide_eq_true_eq];omega),if_neg (show ¬s.fResults.length≠0 from fun e=>e hr),nL (by simp;omega),Option.bind_some,nL (by simp;omega),Option.bind_some,nL (by simp;omega),Option.bind_some,nL (by simp;omega),Option.bind_some]
    rfl
   ·rw[if_pos (by simp only[decide_eq_true_eq];omega),if_pos (show s.fResults.length≠0 from hr)];rfl
  ·rw[if_pos (by simp only[decide_eq_true_eq];omega),if_pos h8];rfl
 ·rw[Fk h,Option.bind_some,if_pos h];rfl
theorem Jd{R:Type}(y b k a:Int)(z E:Option R):Option.bind (if decide (y=b)then some true else if decide (k=a)then some (decide (0≤y))else some false) (fun v=>if v then z else E)=if y=b∨(k=a∧0≤y)then z else E:=by
 by_cases h1:y=b<;>by_cases h2:k=a<;>by_cases h3:0≤y<;>simp[h1,h2,h3]
  <;> (try (subst h1;simp[h3]))
theorem HE{i:Nat}{s:DeskState}(hS:SI i s)(a b:Int):Du N (tr s) a b=some (emr s (AO s a b)):=by
 have hb:=hS.bl
 have hla:=hS.la
 have hlb:=hS.lb
 unfold Du AO
 have e1:(tr s).fBowlers=s.fBowlers:=rfl
 rw[e1,bE (by omega) (by omega)]
 cases hx:lane s a with
 | none =>
  rw[Fk ((De hla a).1 hx),Option.bind_some];rfl
 | some x =>
  have h03:0≤a∧a≤3:=Classical.byContradiction fun h=>by rw[(De hla a).2 h]at hx;cases hx
  rw[Fj h03,Option.bind_some]
  simp only[Bool.not_true,Bool.false_eq_true,if_false]
  by_cases hk:known s b
  ·rw[Fj (by unfold known at hk;omega),Option.bind_some,Option.bind_some,if_neg (show ¬ ¬known s b from fun e=>e hk)]
   simp only[Bool.not_true,Bool.false_eq_true,if_false]
   obtain⟨l0,l1,l2,l3,hl⟩:=F8 hla
   have b0:=(hlb l0 (by rw[hl];simp)).1
   have b1:=(hlb l1 (by rw[hl];simp)).1
   have b2:=(hlb l2 (by rw[hl];simp)).1
   have b3:=(hlb l3 (by rw[hl];simp)).1
   have et:(tr s).fLanes=Ar4.mk (Cv l0) (Cv l1) (Cv l2) (Cv l3):=by unfold tr;rw[hl];rfl
   have hex:(∃y∈s.fLanes,y.fBowler=b)↔(l0.fBowler=b∨l1.fBowler=b∨l2.fBowler=b∨l3.fBowler=b):=by rw[hl];simp
   have hput:∀y,tr (put s a y)=Ref12State.mk s.fBowlers (HD (s.fLanes.set a.toNat y)) s.fKept (s.fSheets.map Dr) s.fWithdrawn (s.fResults.map Db):=fun y=>rfl
   have hxa:x=if a=0 then l0 else if a=1 then l1 else if a=2 then l2 else l3:=by
    unfold lane at hx
    rw[if_pos h03.1,hl]at hx
    have:a=0∨a=1∨a=2∨a=3:=by omega
    rcases this with rfl | rfl | rfl | rfl<;>exact(Option.some.inj hx).symm
   have q0:(tr s).fLanes.a0.fBowler=l0.fBowler:=by rw[et];rfl
   have q1:(tr s).fLanes.a1.fBowler=l1.fBowler:=by rw[et];rfl
   have q2:(tr s).fLanes.a2.fBowler=l2.fBowler:=by rw[et];rfl
   have q3:(tr s).fLanes.a3.fBowler=l3.fBowler:=by rw[et];rfl
   have h4:a=0∨a=1∨a=2∨a=3:=by omega
   have hc4:(a=0→x=l0)∧(a=1→x=l1)∧(a=2→x=l2)∧(a=3→x=l3):=by
    rcases h4 with rfl | rfl | rfl | rfl<;>simp at hxa<;>simp[hxa]
   have hk0:=hk.1
   simp only[Jd]
   by_cases hcond:x.fBowler=-1∧¬(∃y∈s.fLanes,y.fBowler=b)
   ·rw[if_pos hcond]
    rw[hex]at hcond
    obtain⟨hxb,hno⟩:=hcond
    have w0:a=0→l0.fBowler=-1:=fun e=>by rw[← hc4.1 e];exact hxb
    have w1:a=1→l1.fBowler=-1:=fun e=>by rw[← hc4.2.1 e];exact hxb
    have w2:a=2→l2.fBowler=-1:=fun e=>by rw[← hc4.2.2.1 e];exact hxb
    have w3:a=3→l3.fBowler=-1:=fun e=>by rw[← hc4.2.2.2 e];exact hxb
    show _=some (tr (put s a _),0)
    rw[hput,hl,if_neg (by rw[q0];omega),if_neg (by rw[q1];omega),if_neg (by rw[q2];omega),if_neg (by rw[q3];omega),et]
    rcases h4 with rfl | rfl | rfl | rfl<;>rfl
   ·rw[if_neg hcond]
    show _=some (tr s,6)
    rw[hex]at hcond
    by_cases n0:(tr s).fLanes.a0.fBowler=b∨(0=a∧0≤(tr s).fLanes.a0.fBowler)
    ·rw[if_pos n0]
    rw[if_neg n0]
    by_cases n1:(tr s).fLanes.a1.fBowler=b∨(1=a∧0≤(tr s).fLanes.a1.fBowler)
    ·rw[if_pos n1]
    rw[if_neg n1]
    by_cases n2:(tr s).fLanes.a2.fBowler=b∨(2=a∧0≤(tr s).fLanes.a2.fBowler)
    ·rw[if_pos n2]
    rw[if_neg n2]
    by_cases n3:(tr s).fLanes.a3.fBowler=b∨(3=a∧0≤(tr s).fLanes.a3.fBowler)
    ·rw[if_pos n3]
    exfalso
    rw[q0]at n0
    rw[q1]at n1
    rw[q2]at n2
    rw[q3]at n3
    apply hcond
    refine⟨?_,by omega⟩
    rcases h4 with h | h | h | h
    ·rw[hc4.1 h];omega
    ·rw[hc4.2.1 h];omega
    ·rw[hc4.2.2.1 h];omega
    ·rw[hc4.2.2.2 h];omega
  ·rw[Fk (by unfold known at hk;omega),Option.bind_some,Option.bind_some,if_pos hk];rfl
end Go.Proofs.YtdodahpkpeodfaaGreatDoor
namespace Go.Proofs.YtdodahpkpeodfaaGreatDoor
open Go.Kp
variable {N:Nat}
structure FX(N:Nat):Prop where
 is:∀l:List Int,l.length≤80→DX N L0 l=some (fit l)
 fin:∀l:List Int,fit l=true→Cq N L0 l=some ((fin N l).getD (-1))
def st4 (s:DeskState)(a b c d:DeskLane):Ref12State:=Ref12State.mk s.fBowlers (Ar4.mk (Cv a) (Cv b) (Cv c) (Cv d)) s.fKept (s.fSheets.map Dr) s.fWithdrawn (s.fResults.map Db)
theorem D2{s:DeskState}{a b c d:DeskLane}(hl:s.fLanes=[a,b,c,d]):tr s=st4 s a b c d:=by unfold tr st4;rw[hl];rfl
theorem Ga{s:DeskState}{a b c d:DeskLane}(hl:s.fLanes=[a,b,c,d])(y:DeskLane):tr (put s 0 y)=st4 s y b c d∧tr (put s 1 y)=st4 s a y c d∧tr (put s 2 y)=st4 s a b y d∧tr (put s 3 y)=st4 s a b c y:=by
 unfold tr put st4
 rw[hl]
 exact⟨rfl,rfl,rfl,rfl⟩
theorem Er{s:DeskState}(h:s.fLanes.length=4){n:Int}{x:DeskLane}(hx:lane s n=some x):∃a b c d,s.fLanes=[a,b,c,d]∧((n=0∧x=a)∨(n=1∧x=b)∨(n=2∧x=c)∨(n=3∧x=d)):=by
 obtain⟨a,b,c,d,hl⟩:=F8 h
 refine⟨a,b,c,d,hl,?_⟩
 have h03:0≤n∧n≤3:=Classical.byContradiction fun q=>by rw[(De h n).2 q]at hx;cases hx
 unfold lane at hx
 rw[if_pos h03.1,hl]at hx
 have:n=0∨n=1∨n=2∨n=3:=by omega
 rcases this with rfl | rfl | rfl | rfl
 ·exact .inl ⟨rfl,(Option.some.inj hx).symm⟩
 ·exact .inr (.inl ⟨rfl,(Option.some.inj hx).symm⟩)
 ·exact .inr (.inr (.inl ⟨rfl,(Option.some.inj hx).symm⟩))
 ·exact .inr (.inr (.inr ⟨rfl,(Option.some.inj hx).symm⟩))
theorem HF{i:Nat}{s:DeskState}(hF:FX N)(hS:SI i s)(hi:i≤60)(hN:20000≤N)(a p:Int):Dw N (tr s) a p=some (emr s (AP s a p)):=by
 have hla:=hS.la
 unfold Dw AP
 cases hx:lane s a with
 | none=>rw[Fk ((De hla a).1 hx),Option.bind_some];rfl
 | some x =>
  obtain⟨l0,l1,l2,l3,hl,hc⟩:=Er hla hx
  have hlb:=hS.lb x (List.mem_of_getElem? (zr hx).2.2)
  obtain⟨p0,p1,p2,p3⟩:=Ga hl (DeskLane.mk x.fBowler (x.fBalls++[p]))
  have k1:app N [] x.fBalls=some x.fBalls:=by rw[nL (by simp;omega)];rfl
  have k2:app N x.fBalls [p]=some (x.fBalls++[p]):=by rw[nL (by simp;omega)]
  have hIs:=hF.is (x.fBalls++[p]) (by simp;omega)
  have hlw:Dh N=some L0:=rfl
  rw[Fj (by omega),Option.bind_some,D2 hl]
  simp only[Bool.not_true,Bool.false_eq_true,if_false]
  by_cases hb:x.fBowler=-1
  ·rw[if_pos hb]
   have hn:x.fBowler<0:=by omega
   rcases hc with⟨rfl,rfl⟩ | ⟨rfl,rfl⟩ | ⟨rfl,rfl⟩ | ⟨rfl,rfl⟩<;>simp[st4,Cv,hn,emr,D2 hl]
  ·rw[if_neg hb]
   have hn:¬x.fBowler<0:=by omega
   cases hf:fit (x.fBalls++[p])with
   | false =>
    rw[hf]at hIs
    rcases hc with⟨rfl,rfl⟩ | ⟨rfl,rfl⟩ | ⟨rfl,rfl⟩ | ⟨rfl,rfl⟩<;>simp[st4,Cv,hn,emr,D2 hl,k1,k2,hlw,hIs]
   | true =>
    rw[hf]at hIs
    rcases hc with⟨rfl,rfl⟩ | ⟨rfl,rfl⟩ | ⟨rfl,rfl⟩ | ⟨rfl,rfl⟩<;>simp[st4,Cv,hn,emr,p0,p1,p2,p3,k1,k2,hlw,hIs]
theorem HG{i:Nat}{s:DeskState}(hS:SI i s)(hi:i≤60)(hN:20000≤N)(a:Int):Dx N (tr s) a=some (emr s (AQ s a)):=by
 have hla:=hS.la
 unfold Dx AQ
 cases hx:lane s a with
 | none=>rw[Fk ((De hla a).1 hx),Option.bind_some];rfl
 | some x =>
  obtain⟨l0,l1,l2,l3,hl,hc⟩:=Er hla hx
  have hlb:=hS.lb x (List.mem_of_getElem? (zr hx).2.2)
  obtain⟨p0,p1,p2,p3⟩:=Ga hl (DeskLane.mk x.fBowler x.fBalls.dropLast)
  rw[Fj (by omega),Option.bind_some,D2 hl]
  simp only[Bool.not_true,Bool.false_eq_true,if_false]
  by_cases hb:x.fBowler=-1
  ·rw[if_pos hb]
   have hn:x.fBowler<0:=by omega
   rcases hc with⟨rfl,rfl⟩ | ⟨rfl,rfl⟩ | ⟨rfl,rfl⟩ | ⟨rfl,rfl⟩<;>simp[st4,Cv,hn,emr,D2 hl]
  ·rw[if_neg hb]
   have hn:¬x.fBowler<0:=by omega
   by_cases he:x.fBalls=[]
   ·rw[if_pos he]
    rcases hc with⟨rfl,rfl⟩ | ⟨rfl,rfl⟩ | ⟨rfl,rfl⟩ | ⟨rfl,rfl⟩<;>simp[st4,Cv,hn,emr,D2 hl,he]
   ·rw[if_neg he]
    have hpos:0<x.fBalls.length:=List.length_pos_iff.2 he
    have e1:w64 ((x.fBalls.length:Int)-1)=((x.fBalls.length-1:Nat):Int):=by rw[bE (by omega) (by omega)];omega
    have e2:(x.fBalls.take ((x.fBalls.length-1:Nat):Int).toNat).drop (0:Int).toNat=x.fBalls.dropLast:=by rw[List.dropLast_eq_take];simp
    have k1:slc x.fBalls 0 (w64 ((x.fBalls.length:Int)-1))=some x.fBalls.dropLast:=by rw[e1,rX (by omega) (by omega) (by omega),e2]
    have k2:app N [] x.fBalls.dropLast=some x.fBalls.dropLast:=by rw[nL (by simp;omega)];rfl
    rcases hc with⟨rfl,rfl⟩ | ⟨rfl,rfl⟩ | ⟨rfl,rfl⟩ | ⟨rfl,rfl⟩<;>simp[st4,Cv,hn,emr,p0,p1,p2,p3,k1,k2,he]
theorem G0{i:Nat}{s:DeskState}(hG:GX N)(hF:FX N)(hS:SI i s)(hL:LI s)(hi:i≤60)(hN:20000≤N)(a:Int):Dj N (tr s) a=some (emr s (Af N s a)):=by
 have hla:=hS.la
 have hbl:=hS.bl
 have hkl:=hS.kl
 unfold Dj Af
 cases hx:lane s a with
 | none=>rw[Fk ((De hla a).1 hx),Option.bind_some];rfl
 | some x =>
  obtain⟨l0,l1,l2,l3,hl,hc⟩:=Er hla hx
  have hm:=List.mem_of_getElem? (zr hx).2.2
  have hlb:=hS.lb x hm
  have hfin:=hF.fin x.fBalls (hL.fb x hm).1
  have hlw:Dh N=some L0:=rfl
  rw[Fj (by omega),Option.bind_some,D2 hl]
  simp only[Bool.not_true,Bool.false_eq_true,if_false]
  by_cases hb:x.fBowler=-1
  ·rw[if_pos hb]
   have hn:x.fBowler<0:=by omega
   rcases hc with⟨rfl,rfl⟩ | ⟨rfl,rfl⟩ | ⟨rfl,rfl⟩ | ⟨rfl,rfl⟩<;>simp[st4,Cv,hn,emr,D2 hl]
  ·rw[if_neg hb]
   have hn:¬x.fBowler<0:=by omega
   have hlt:x.fBowler.toNat<s.fKept.length:=by omega
   have hk:=List.getElem?_eq_getElem hlt
   have hkb:=hS.kb _ (List.getElem_mem hlt)
   generalize s.fKept[x.fBowler.toNat]=k at hk hkb
   cases hf:fin N x.fBalls with
   | none =>
    rw[hf]at hfin
    have hq:(-1:Int)<0:=by decide
    rcases hc with⟨rfl,rfl⟩ | ⟨rfl,rfl⟩ | ⟨rfl,rfl⟩ | ⟨rfl,rfl⟩<;>simp[st4,Cv,hn,emr,D2 hl,hlw,hfin]
   | some c =>
    rw[hf]at hfin
    have hfb:=HX hG (by omega) hf
    have hq:¬c<0:=by omega
    simp only[hk]
    obtain⟨p0,p1,p2,p3⟩:=Ga (s:={s with fKept:=s.fKept.set x.fBowler.toNat (k++[c])}) hl (DeskLane.mk (-1) [])
    have k1:app N [] s.fKept=some s.fKept:=by rw[nL (by simp;omega)];rfl
    have k2:app N [] k=some k:=by rw[nL (by simp;omega)];rfl
    have k3:app N k [c]=some (k++[c]):=by rw[nL (by simp;omega)]
    have k4:idx s.fKept x.fBowler=some k:=yy (by omega) hk
    simp only[Option.getD_some]at hfin
    rcases hc with⟨rfl,rfl⟩ | ⟨rfl,rfl⟩ | ⟨rfl,rfl⟩ | ⟨rfl,rfl⟩<;>simp[st4,Cv,hn,emr,p0,p1,p2,p3,k1,k2,k3,k4,hlw,hfin,hq]
end Go.Proofs.YtdodahpkpeodfaaGreatDoor
namespace Go.Proofs.YtdodahpkpeodfaaGreatDoor
open Go.Kp
variable {N:Nat}
theorem Gb{i:Nat}{s:DeskState}(hS:SI i s)(hi:i≤60)(hN:20000≤N)(w b:Int):Dk N (tr s) w b=some (emr s (Ag s w b)):=by
 have hbl:=hS.bl
 have hkl:=hS.kl
 have hsl:=hS.sl
 unfold Dk Ag
 have e1:(tr s).fBowlers=s.fBowlers:=rfl
 have e2:(tr s).fKept=s.fKept:=rfl
 have e3:(tr s).fSheets=s.fSheets.map Dr:=rfl
 rw[e1,e2,e3,List.length_map]
 by_cases hw:1≤w∧w≤30
 ·rw[Fj hw,Option.bind_some,if_neg (show ¬ ¬(1≤w∧w≤30)from fun e=>e hw)]
  simp only[Bool.not_true,Bool.false_eq_true,if_false]
  rw[bE (n:=(s.fBowlers.length:Int)-1) (by omega) (by omega)]
  by_cases hk:known s b
  ·have hk2:0≤b∧b≤(s.fBowlers.length:Int)-1:=by unfold known at hk;omega
   rw[Fj hk2,Option.bind_some,if_neg (show ¬ ¬known s b from fun e=>e hk)]
   simp only[Bool.not_true,Bool.false_eq_true,if_false]
   have hlt:b.toNat<s.fKept.length:=by omega
   have hkx:=List.getElem?_eq_getElem hlt
   have hkb:=hS.kb _ (List.getElem_mem hlt)
   generalize s.fKept[b.toNat]=k at hkx hkb
   have hkx2:=yy (i:=b) (by omega) hkx
   rw[hkx2,Option.bind_some]
   simp only[hkx]
   by_cases h3:k.length<3
   ·rw[if_pos (by simp only[decide_eq_true_eq];omega),if_pos h3];rfl
   ·rw[if_neg (by simp only[decide_eq_true_eq];omega),if_neg h3]
    by_cases h40:s.fSheets.length<40
    ·rw[if_neg (by simp only[decide_eq_true_eq];omega),if_neg (show ¬ ¬s.fSheets.length<40 from fun e=>e h40)]
     have f3:w64 ((k.length:Int)-3)=((k.length-3:Nat):Int):=by rw[bE (by omega) (by omega)];omega
     have f2:w64 ((k.length:Int)-2)=((k.length-2:Nat):Int):=by rw[bE (by omega) (by omega)];omega
     have f1:w64 ((k.length:Int)-1)=((k.length-1:Nat):Int):=by rw[bE (by omega) (by omega)];omega
     have f4:w64 (1+(s.fSheets.length:Int))=(s.fSheets.length:Int)+1:=by rw[bE (by omega) (by omega)];omega
     have g:∀j,j<k.length→idx k (j:Int)=some (k.getD j 0):=fun j hj=>by
      refine ij ?_
      rw[List.getD_eq_getElem?_getD,List.getElem?_eq_getElem hj];rfl
     have a1:app N [] s.fKept=some s.fKept:=by rw[nL (by simp;omega)];rfl
     have a2:app N [] (s.fSheets.map Dr)=some (s.fSheets.map Dr):=by rw[nL (by simp;omega)];rfl
     rw[a1,Option.bind_some,f3,rX (by omega) (by omega) (by omega),Option.bind_some]
     have a3:app N [] ((k.take ((k.length-3:Nat):Int).toNat).drop (0:Int).toNat)=some (k.take (k.length-3)):=by rw[nL (by simp;omega)];simp
     rw[a3,Option.bind_some,hkx2,Option.bind_some,Option.bind_some]
     dsimp only
     rw[f3,f2,f1,f4,g _ (by omega),Option.bind_some,g _ (by omega),Option.bind_some,g _ (by omega),Option.bind_some,a2,Option.bind_some,nL (by simp;omega),Option.bind_some,Option.bind_some]
     simp[emr,tr,Dr]
    ·rw[if_pos (by simp only[decide_eq_true_eq];omega),if_pos h40];rfl
  ·have hk2:¬(0≤b∧b≤(s.fBowlers.length:Int)-1):=by unfold known at hk;omega
   rw[Fk hk2,Option.bind_some,if_pos hk];rfl
 ·rw[Fk hw,Option.bind_some,if_pos hw];rfl
theorem EJ:∀{l m:List Int},l.Pairwise (·<·)→m.Pairwise (·<·)→(∀x,x∈l↔x∈m)→l=m
 | [],[],_,_,_=>rfl
 | [],y::m,_,_,h=>by have:=(h y).2 (List.mem_cons_self ..);cases this
 | x::l,[],_,_,h=>by have:=(h x).1 (List.mem_cons_self ..);cases this
 | x::l,y::m,hl,hm,h=>by
  rw[List.pairwise_cons]at hl hm
  have hxy:x=y:=by
   rcases List.mem_cons.1 ((h x).1 (List.mem_cons_self ..))with e | e
   ·exact e
   ·rcases List.mem_cons.1 ((h y).2 (List.mem_cons_self ..))with e2 | e2
    ·exact e2.symm
    ·have:=hm.1 x e;have:=hl.1 y e2;omega
  subst hxy
  rw[EJ hl.2 hm.2 fun z=>⟨fun hz=>?_,fun hz=>?_⟩]
  ·rcases List.mem_cons.1 ((h z).1 (List.mem_cons_of_mem _ hz))with e | e
   ·subst e;have:=hl.1 z hz;omega
   ·exact e
  ·rcases List.mem_cons.1 ((h z).2 (List.mem_cons_of_mem _ hz))with e | e
   ·subst e;have:=hm.1 z hz;omega
   ·exact e
theorem has_eq(l:List Int)(n:Int)(hl:l.length≤1000)(hN:20000≤N):DP N l n=some (decide (n∈l)) :=
 GW (N:=N) l n (by omega) (by omega)
theorem Gc{i:Nat}{s:DeskState}(hS:SI i s)(hR:RI s)(hi:i≤60)(hN:20000≤N)(a:Int):C1 N (tr s) a=some (emr s (zO N s a)):=by
 have hwl:=hS.wl
 have hsl:=hS.sl
 unfold C1 zO
 have e2:(tr s).fWithdrawn=s.fWithdrawn:=rfl
 have e3:(tr s).fSheets.length=s.fSheets.length:=by simp[tr]
 rw[e2,e3]
 by_cases hw:1≤a∧a≤s.fSheets.length
 ·rw[Fj hw,Option.bind_some,if_neg (show ¬ ¬(1≤a∧a≤s.fSheets.length)from fun e=>e hw)]
  simp only[Bool.not_true,Bool.false_eq_true,if_false]
  rw[has_eq _ _ (by omega) hN,Option.bind_some]
  obtain⟨j,hj,hb,hs⟩:=Cj (N:=N) s.fWithdrawn a (by omega) hN
  obtain⟨hs1,hs2⟩:=hs hR.wp
  rw[hb]
  have hmem:a∈s.fWithdrawn↔s.fWithdrawn[j]? = some a:=by
   constructor
   ·intro hm
    obtain⟨k,hk⟩:=List.getElem?_of_mem hm
    rcases Nat.lt_trichotomy k j with h | h | h
    ·have:=hs1 k a hk h;omega
    ·exact h▸hk
    ·have hkl:=(List.getElem?_eq_some_iff.1 hk).1
     have hjl:j<s.fWithdrawn.length:=by omega
     have h1:=hs2 j _ (List.getElem?_eq_getElem hjl) (Nat.le_refl _)
     have h2:=List.pairwise_iff_getElem.1 hR.wp j k hjl hkl h
     rw[(List.getElem?_eq_some_iff.1 hk).2]at h2
     omega
   ·exact List.mem_of_getElem?
  by_cases hin:a∈s.fWithdrawn
  ·rw[decide_eq_true hin,decide_eq_true (hmem.1 hin)];rfl
  ·rw[decide_eq_false hin,decide_eq_false (fun e=>hin (hmem.2 e))]
   simp only[Bool.false_eq_true,if_false]
   obtain⟨r,hr,hrp,hrm⟩:=zh (B:=fun rec3 x=>CK N (tr s) a rec3 x.1 x.2)
    (fun g (x:Int×List Int)=>∃n:Nat,x.1=n∧1≤n∧n+g=s.fSheets.length+1∧x.2.length<n∧x.2.Pairwise (·<·)∧∀y,y∈x.2↔(1≤y∧y<n)∧(y=a∨y∈s.fWithdrawn))
    (fun r=>r.Pairwise (·<·)∧∀y,y∈r↔(1≤y∧y≤s.fSheets.length)∧(y=a∨y∈s.fWithdrawn))
    (fun g x rec hI ih=>by
     obtain⟨x1,x2⟩:=x
     obtain⟨n,hn,h1,hg,hlen,hp,hm⟩:=hI
     simp only at hn hlen hp hm
     subst hn
     unfold CK
     rw[e3,e2]
     by_cases h:n≤s.fSheets.length
     ·rw[if_pos (by simp only[decide_eq_true_eq];omega),has_eq _ _ (by omega) hN]
      have hcond:(if decide ((n:Int)=a)then some true else Option.bind (some (decide ((n:Int)∈s.fWithdrawn))) fun r32=>some r32)=some (decide ((n:Int)=a∨(n:Int)∈s.fWithdrawn)):=by
       by_cases h2:(n:Int)=a<;>simp[h2]
      rw[hcond,Option.bind_some]
      by_cases hc:(n:Int)=a∨(n:Int)∈s.fWithdrawn
      ·rw[decide_eq_true hc]
       simp only[if_true]
       rw[nL (by simp;omega),Option.bind_some,Option.bind_some,fN (by omega)]
       refine ih (g-1) _ (by omega) ⟨n+1,rfl,by omega,by omega,by simp;omega,?_,fun y=>?_⟩
       ·rw[List.pairwise_append]
        refine⟨hp,List.pairwise_singleton _ _,fun u hu v hv=>?_⟩
        have:=((hm u).1 hu).1
        have hv:=List.mem_singleton.1 hv
        omega
       ·simp only[List.mem_append,List.mem_singleton]
        rw[hm y]
        constructor
        ·rintro(⟨h1,h2⟩ | h1)
         ·exact⟨by omega,h2⟩
         ·subst h1;exact⟨by omega,hc⟩
        ·rintro⟨h1,h2⟩
         by_cases hy:y=n
         ·exact .inr hy
         ·exact .inl ⟨by omega,h2⟩
      ·rw[decide_eq_false hc]
       simp only[Bool.false_eq_true,if_false,Option.bind_some]
       rw[fN (by omega)]
       refine ih (g-1) _ (by omega) ⟨n+1,rfl,by omega,by omega,by simp only;omega,hp,fun y=>?_⟩
       simp only
       rw[hm y]
       constructor
       ·rintro⟨h1,h2⟩;exact⟨by omega,h2⟩
       ·rintro⟨h1,h2⟩
        by_cases hy:y=n
        ·subst hy;exact absurd h2 hc
        ·exact⟨by omega,h2⟩
     ·rw[if_neg (by simp only[decide_eq_true_eq];omega)]
      refine⟨_,rfl,hp,fun y=>?_⟩
      rw[hm y]
      constructor
      ·rintro⟨h1,h2⟩;exact⟨by omega,h2⟩
      ·rintro⟨h1,h2⟩;exact⟨by omega,h2⟩)
    N s.fSheets.length (1,[]) ⟨1,rfl,Nat.le_refl _,by omega,by simp,List.Pairwise.nil,fun y=>by
     constructor
     ·intro h;cases h
     ·rintro⟨h1,_⟩;omega⟩ (by omega)
   rw[hr,Option.bind_some]
   have hjn:((j:Int)).toNat=j:=Int.toNat_natCast j
   have heq:r=s.fWithdrawn.take (j:Int).toNat++[a]++s.fWithdrawn.drop (j:Int).toNat:=by
    rw[hjn]
    refine EJ hrp ?_ fun y=>?_
    ·have hsplit:=hR.wp
     rw[← List.take_append_drop j s.fWithdrawn,List.pairwise_append]at hsplit
     obtain⟨s1,s2,s3⟩:=hsplit
     have t1:∀u∈s.fWithdrawn.take j,u<a:=fun u hu=>by
      obtain⟨k,hk⟩:=List.getElem?_of_mem hu
      rw[List.getElem?_take]at hk
      split at hk
      ·rename_i hkj;exact hs1 k u hk hkj
      ·cases hk
     have t2:∀u∈s.fWithdrawn.drop j,a<u:=fun u hu=>by
      obtain⟨k,hk⟩:=List.getElem?_of_mem hu
      rw[List.getElem?_drop]at hk
      have h1:=hs2 (j+k) u hk (by omega)
      have h2:a≠u:=fun e=>hin (e▸List.mem_of_mem_drop hu)
      omega
     rw[List.append_assoc,List.pairwise_append]
     refine⟨s1,?_,fun u hu v hv=>?_⟩
     ·rw[List.singleton_append,List.pairwise_cons]
      exact⟨t2,s2⟩
     ·rcases List.mem_append.1 hv with hv | hv
      ·rw[List.mem_singleton.1 hv];exact t1 u hu
      ·exact s3 u hu v hv
    ·rw[hrm y]
     have hm2:y∈s.fWithdrawn↔y∈s.fWithdrawn.take j∨y∈s.fWithdrawn.drop j:=by rw[← List.mem_append,List.take_append_drop]
     rw[List.mem_append,List.mem_append,List.mem_singleton,hm2]
     constructor
     ·rintro⟨_,h | h | h⟩
      ·exact .inl (.inr h)
      ·exact .inl (.inl h)
      ·exact .inr h
     ·intro h
      have hy:y=a∨y∈s.fWithdrawn:=by
       rw[hm2]
       rcases h with(h | h) | h
       ·exact .inr (.inl h)
       ·exact .inl h
       ·exact .inr (.inr h)
      refine⟨?_,by rw[hm2]at hy;exact hy⟩
      rcases hy with h | h
      ·subst h;exact hw
      ·exact hR.wb y h
   rw[heq]
   rfl
 ·rw[Fk hw,Option.bind_some,if_pos hw];rfl
theorem G2{i:Nat}{s:DeskState}(hS:SI i s)(hi:i≤60)(hN:20000≤N)(a:Int):Dl N (tr s) a=some (emr s (Ah s a)):=by
 have hrl:=hS.rl
 have e3:(tr s).fResults=s.fResults.map Db:=rfl
 unfold Dl Ah
 have key:=o6 (N:=N) (B:=fun rec3 x=>Cy N (tr s) a rec3 x) s.fResults (fun i=>(i:Int))
  (fun i r=>some (emr s (match r.findIdx? (fun r=>decide (r.fMatch=a))with
   | none=>.inl 7
   | some j=>match s.fResults[i+j]? with
    | none=>.inl 7
    | some r=>if r.fProtested then .inl 6 else .inr {s with fResults:=s.fResults.set (i+j) (LadderResult.mk r.fMatch r.fGames true)})))
  (fun rec=>by
   unfold Cy
   rw[e3,List.length_map,if_neg (by simp)];rfl)
  (fun i x rec hx h=>by
   have hlt:=lP hx
   have hx2:(s.fResults.map Db)[i]? = some (Db x):=by rw[List.getElem?_map,hx];rfl
   unfold Cy
   rw[e3,List.length_map,if_pos (by simp only[decide_eq_true_eq];omega),ij hx2,Option.bind_some,fN (by omega),List.findIdx?_cons]
   have em:(Db x).fMatch=x.fMatch:=rfl
   rw[em]
   by_cases hm:x.fMatch=a
   ·rw[if_neg (by simp[hm]),decide_eq_true hm]
    simp only[if_true,Nat.add_zero,hx]
    have ep:(Db x).fProtested=x.fProtested:=rfl
    rw[ep]
    cases x.fProtested with
    | true=>rfl
    | false =>
     simp only[Bool.false_eq_true,if_false]
     rw[nL (by simp;omega),Option.bind_some,List.nil_append,ij hx2,Option.bind_some]
     simp[emr,tr,Db,List.map_set]
   ·rw[if_pos (by simp[hm]),decide_eq_false hm,h]
    simp only[Bool.false_eq_true,if_false]
    cases(s.fResults.drop (i+1)).findIdx? (fun r=>decide (r.fMatch=a))with
    | none=>rfl
    | some j=>simp only[Option.map_some];rw[show i+1+j=i+(j+1)from by omega])
  (by omega) 0 (by omega)
 simp only[Int.natCast_zero,Nat.zero_add,List.drop_zero]at key
 exact key
end Go.Proofs.YtdodahpkpeodfaaGreatDoor
namespace Go.Proofs.YtdodahpkpeodfaaGreatDoor
open Go.Kp
variable {N:Nat}
/-! The matches that can be played, by the document. -/
def DE (K:Nat)(R:List LadderResult):Ref09Cup:=Ref09Cup.mk 1 (K:Int) 1 (R.map Db)
theorem Fz{K:Nat}{R:List LadderResult}(hd:DI K R)(hK:K≤8)(hN:20000≤N)(i:Nat):Dd N (DE K R) i=some (if i<R.length then(i:Int)else -1):=by
 have hl:=hd.len
 unfold Dd
 have key:=o6 (N:=N) (B:=fun rec3 x=>CL N (DE K R) i rec3 x) R (fun k=>(k:Int))
  (fun k r=>some (if k≤i∧i<R.length then(i:Int)else -1))
  (fun rec=>by
   unfold CL C9
   have:(DE K R).fResults.length=R.length:=by simp[DE]
   rw[this,if_neg (by simp),if_neg (by omega)])
  (fun k x rec hx h=>by
   have hlt:=lP hx
   have e1:(DE K R).fResults=R.map Db:=rfl
   have hx2:(R.map Db)[k]? = some (Db x):=by rw[List.getElem?_map,hx];rfl
   have hm:=(hd.r k x hx).1
   have em:(Db x).fMatch=k:=hm
   unfold CL
   rw[e1,List.length_map,if_pos (by simp only[decide_eq_true_eq];omega),ij hx2,Option.bind_some,em]
   by_cases hk:k=i
   ·subst hk
    rw[if_pos (by simp),if_pos ⟨Nat.le_refl _,hlt⟩]
   ·rw[if_neg (by simp only[decide_eq_true_eq];omega),fN (by omega),h]
    by_cases h2:k≤i∧i<R.length
    ·rw[if_pos h2,if_pos (by omega)]
    ·rw[if_neg h2,if_neg (by omega)])
  (by omega) 0 (by omega)
 simp only[Int.natCast_zero]at key
 rw[key]
 congr 1
 by_cases h:i<R.length
 ·rw[if_pos ⟨by omega,h⟩,if_pos h]
 ·rw[if_neg (by omega),if_neg h]
theorem G3(hN:20000≤N)(w:Int):CU N [w] w=some 1:=by
 obtain⟨n,rfl⟩:∃n,N=n+2:=⟨N-2,by omega⟩
 unfold CU
 show Option.bind (zG (n+2) [w] w (loopN (fun rec3 x=>zG (n+2) [w] w rec3 x.1 x.2) (n+1)) 0 0) _=_
 have nxt:loopN (fun rec3 x=>zG (n+2) [w] w rec3 x.1 x.2) (n+1) (w64 (0+1),w64 (0+1))=some 1:=rfl
 have e:zG (n+2) [w] w (loopN (fun rec3 x=>zG (n+2) [w] w rec3 x.1 x.2) (n+1)) 0 0=some 1:=by
  unfold zG
  rw[if_pos (by simp),show idx [w] 0=some w from rfl,Option.bind_some,if_pos (by simp),Option.bind_some]
  exact nxt
 rw[e];rfl
theorem HH{K:Nat}{R:List LadderResult}(hN:20000≤N)(w:Int):CM N (DE K R) [w]=some w:=by
 obtain⟨n,hn⟩:∃n,N=n+1:=⟨N-1,by omega⟩
 unfold CM
 have e:loopN (fun rec3 x=>zc N (DE K R) [w] rec3 x) N 0=zc N (DE K R) [w] (loopN (fun rec3 x=>zc N (DE K R) [w] rec3 x) n) 0:=by
  conv=>lhs;rw[hn]
  subst hn;rfl
 rw[e]
 unfold zc
 rw[if_pos (by simp),show idx [w] 0=some w from rfl,Option.bind_some,G3 hN,Option.bind_some,if_pos (by show decide ((1:Int)<w64 (2*1))=true;decide)]
theorem GF{K:Nat}{R:List LadderResult}(hd:DI K R)(hK:K≤8)(hN:20000≤N)(i:Nat):Dz N (DE K R) i=some (wn R i):=by
 unfold Dz
 rw[Fz hd hK hN,Option.bind_some]
 by_cases h:i<R.length
 ·have hx:=List.getElem?_eq_getElem h
  have hg:=(hd.r i _ hx).2.1
  generalize R[i]=x at hx hg
  have hx2:(DE K R).fResults[i]? = some (Db x):=by show(R.map Db)[i]? = _;rw[List.getElem?_map,hx];rfl
  rw[if_pos h,if_neg (by simp only[decide_eq_true_eq];omega),ij hx2,Option.bind_some,show(Db x).fGames=x.fGames from rfl,hg,HH hN,Option.bind_some]
 ·rw[if_neg h,DY (by omega)];rfl
def DQ (K i:Nat):Ref09Pair:=Ref09Pair.mk (Ref09Side.mk (fs K i) (-1)) (if i=0 then Ref09Side.mk ((K:Int)-1) (-1)else Ref09Side.mk (-1) ((i:Int)-1))
theorem HI{K:Nat}{R:List LadderResult}(hK:2≤K∧K≤8)(hN:20000≤N):Dy N (DE K R)=some ((List.range (K-1)).map (DQ K)):=by
 unfold Dy
 rw[if_pos (show decide ((DE K R).fForm=1)=true from rfl)]
 have ep:(DE K R).fPlayers=(K:Int):=rfl
 have e1:w64 ((K:Int)-1)=(K:Int)-1:=bE (by omega) (by omega)
 have e2:w64 ((K:Int)-2)=(K:Int)-2:=bE (by omega) (by omega)
 obtain⟨r,hr,hq⟩:=zh (B:=fun rec5 x=>C8 N (DE K R) rec5 x.1 x.2) (fun g (x:Int×List Ref09Pair)=>∃n:Nat,x.1=n∧n+g=K-1∧x.2=(List.range n).map (DQ K)) (fun r=>r=(List.range (K-1)).map (DQ K))
  (fun g x rec hI ih=>by
   obtain⟨x1,x2⟩:=x
   obtain⟨n,hn,hg,hx⟩:=hI
   simp only at hn hx
   subst hn hx
   unfold C8
   rw[ep,e1,e2]
   by_cases h:n<K-1
   ·rw[if_pos (by simp only[decide_eq_true_eq];omega)]
    have e3:w64 ((K:Int)-2-n)=fs K n:=by rw[bE (by omega) (by omega)];rfl
    have es:(if decide ((n:Int)=0)then some (Ref09Side.mk ((K:Int)-1) (-1))else some (Ref09Side.mk (-1) (w64 ((n:Int)-1))))=some (DQ K n).fSecond:=by
     unfold DQ
     by_cases h0:n=0
     ·subst h0;rfl
     ·rw[if_neg (by simp only[decide_eq_true_eq];omega),if_neg h0,bE (by omega) (by omega)]
    rw[es,Option.bind_some,nL (by simp;omega),Option.bind_some,fN (by omega),e3]
    exact ih (g-1) _ (by omega) ⟨n+1,rfl,by omega,by rw[List.range_succ,List.map_append];rfl⟩
   ·rw[if_neg (by simp only[decide_eq_true_eq];omega)]
    have:n=K-1:=by omega
    subst this
    exact⟨_,rfl,rfl⟩)
  N (K-1) (0,[]) ⟨0,rfl,by omega,rfl⟩ (by omega)
 rw[hr,hq];rfl
theorem HJ{K:Nat}{R:List LadderResult}(i:Nat):CA N (DE K R) (DQ K i).fFirst=some (fs K i):=rfl
theorem HK{K:Nat}{R:List LadderResult}(hd:DI K R)(hK:K≤8)(hN:20000≤N)(i:Nat):CA N (DE K R) (DQ K i).fSecond=some (sn K R i):=by
 unfold CA DQ sn
 by_cases h:i=0
 ·subst h;rfl
 ·simp only[if_neg h]
  rw[if_neg (by simp only[decide_eq_true_eq];omega),show(i:Int)-1=((i-1:Nat):Int) by omega,GF hd hK hN,Option.bind_some]
def Fl (x:LadderMatch):Ref09Match:=Ref09Match.mk x.fNumber x.fFirst x.fSecond x.fWon x.fLost
theorem HL{K:Nat}{R:List LadderResult}(hd:DI K R)(hK:2≤K∧K≤8)(hN:20000≤N):DA N (DE K R)=some ((Do K R).map Fl):=by
 have hlen:=hd.len
 unfold DA
 rw[HI hK hN,Option.bind_some]
 have key:=lO (N:=N) (B:=fun rec3 x=>CN N (DE K R) ((List.range (K-1)).map (DQ K)) rec3 x.1 x.2) (List.range (K-1)) (fun i (a:List Ref09Match)=>((i:Int),a)) (fun _ _=>some ((Do K R).map Fl)) (fun i a=>a=if R.length<i∧R.length+1<K then(Do K R).map Fl else [])
  (fun a rec ha=>by
   unfold CN
   simp only[List.length_map,List.length_range]at ha ⊢
   rw[if_neg (by simp),ha]
   split
   ·rfl
   ·rename_i hh
    unfold Do
    rw[if_neg (by omega)];rfl)
  (fun i x a rec hx ha ih=>by
   have hlt:=lP hx
   rw[List.length_range]at hlt
   have hxi:x=i:=by rw[List.getElem?_range hlt]at hx;exact(Option.some.inj hx).symm
   subst hxi
   have hp:((List.range (K-1)).map (DQ K))[x]? = some (DQ K x):=by rw[List.getElem?_map,hx];rfl
   unfold CN
   rw[List.length_map,List.length_range,if_pos (by simp only[decide_eq_true_eq];omega),ij hp,Option.bind_some,HJ,Option.bind_some,HK hd hK.2 hN,Option.bind_some,fN (by omega)]
   have b0:¬fs K x<0:=by unfold fs;omega
   rw[if_neg (by simp only[decide_eq_true_eq];exact b0)]
   have hwon:=GF (N:=N) hd hK.2 hN x
   rcases Nat.lt_trichotomy x R.length with hi | hi | hi
   ·have h1:=GB hd (i:=x) (by omega) (by omega)
    have h2:=hd.wb x hi
    rw[if_neg (by simp only[decide_eq_true_eq];omega),hwon,Option.bind_some,Option.bind_some,decide_eq_true h2.1]
    simp only[if_true,Option.bind_some]
    refine ih _ ?_
    rw[ha,if_neg (by omega),if_neg (by omega)]
   ·have h1:=GB hd (i:=x) (by omega) (by omega)
    rw[if_neg (by simp only[decide_eq_true_eq];omega),hwon,Option.bind_some,Option.bind_some,DY (by omega),decide_eq_false (by decide)]
    simp only[Bool.false_eq_true,if_false]
    rw[Fz hd hK.2 hN,Option.bind_some,if_neg (show ¬x<R.length by omega),if_neg (by decide),Option.bind_some,ha,if_neg (by omega),nL (by simp;omega),Option.bind_some,Option.bind_some]
    refine ih _ ?_
    rw[if_pos ⟨by omega,by omega⟩]
    unfold Do
    rw[if_pos (by omega),← hi]
    rfl
   ·have h1:sn K R x=-1:=by unfold sn;rw[if_neg (by omega),DY (by omega)]
    rw[h1,if_pos (by decide),Option.bind_some]
    simp only[if_true,Option.bind_some]
    refine ih _ ?_
    rw[ha,if_pos ⟨hi,by omega⟩,if_pos ⟨by omega,by omega⟩])
  (by rw[List.length_range];omega) [] (by rw[if_neg (by omega)])
 simp only[Int.natCast_zero]at key
 rw[key];rfl
theorem HM{i:Nat}{s:DeskState}(hS:SI i s)(hD:DI s.fBowlers.length s.fResults)(hi:i≤60)(hN:20000≤N)(a:Int):DB N (tr s) a=some (emr s (AS s (nxl N s) a)):=by
 have hbl:=hS.bl
 have hrl:=hS.rl
 rw[Hx hS hD hN]
 unfold DB AS
 have e1:(tr s).fBowlers=s.fBowlers:=rfl
 have ec:Eg N (tr s)=some (DE s.fBowlers.length s.fResults):=rfl
 rw[e1,ec]
 by_cases h2:2≤s.fBowlers.length
 ·rw[if_neg (by simp only[decide_eq_true_eq];omega),Option.bind_some,HL hD ⟨h2,hbl⟩ hN,Option.bind_some,if_pos h2,List.length_map]
  unfold Do
  by_cases hm:s.fResults.length+1<s.fBowlers.length
  ·rw[if_pos hm]
   simp only
   generalize fs s.fBowlers.length s.fResults.length=f
   generalize sn s.fBowlers.length s.fResults s.fResults.length=g
   obtain⟨m,hm0,hm1,hm2,hm3⟩:∃m,List.map Fl [LadderMatch.mk s.fResults.length f g 0 0]=[m]∧m.fNumber=s.fResults.length∧m.fFirst=f∧m.fSecond=g:=⟨_,rfl,rfl,rfl,rfl⟩
   have ei:idx [m] 0=some m:=rfl
   rw[hm0,if_neg (by simp),ei,Option.bind_some]
   by_cases ha:a=f∨a=g
   ·rw[if_pos ha]
    have hc:(if !decide (m.fFirst=a)then some (!decide (m.fSecond=a))else some false)=some false:=by
     rcases ha with rfl | rfl
     ·simp[hm2]
     ·simp[hm3]
    rw[hc,Option.bind_some]
    simp only[Bool.false_eq_true,if_false]
    rw[Option.bind_some]
    have er:(tr s).fResults=s.fResults.map Db:=rfl
    rw[er,nL (by simp;omega),Option.bind_some,nL (by simp;omega),Option.bind_some,Option.bind_some,hm1]
    simp[emr,tr,Db]
   ·rw[if_neg ha]
    have hc:(if !decide (m.fFirst=a)then some (!decide (m.fSecond=a))else some false)=some true:=by
     have h1:¬m.fFirst=a:=fun e=>ha (.inl (by rw[← e,hm2]))
     have h2:¬m.fSecond=a:=fun e=>ha (.inr (by rw[← e,hm3]))
     simp[h1,h2]
    rw[hc,Option.bind_some]
    rfl
  ·rw[if_neg hm];rfl
 ·rw[if_pos (by simp only[decide_eq_true_eq];omega),if_neg h2];rfl
end Go.Proofs.YtdodahpkpeodfaaGreatDoor
namespace Go.Proofs.YtdodahpkpeodfaaGreatDoor
open Go.Kp
variable {N:Nat}
/-! The desk plays lines. -/
structure AI(i:Nat)(s:DeskState):Prop where
 si:SI i s
 di:DI s.fBowlers.length s.fResults
 li:LI s
 ri:RI s
theorem P3:AI 0 st0:=⟨AU,IL,IN,IQ⟩
theorem AI.step{i:Nat}{s:DeskState}(hG:GX N)(h:AI i s)(hi:i≤59)(hN:20000≤N)(line:List UInt8):AI (i+1) (stepW N s line).2:=by
 refine⟨(step_ok h.si (by omega) hN line).1,?_,Ir h.si h.li line,?_⟩
 ·have:=Hy hN [line] h.si h.di (by simp;omega)
  exact this
 ·have:=HY hG hN [line] h.si h.ri (by simp;omega)
  exact this
theorem AI.run(hG:GX N)(hN:20000≤N):∀(l:List (List UInt8)) {i:Nat} {s:DeskState},AI i s→i+l.length≤60→AI (i+l.length) (zv N s l)
 | [],i,s,h,_=>h
 | x::r,i,s,h,hl=>by
  simp only[List.length_cons]at hl ⊢
  have:=AI.run hG hN r (h.step hG (by omega) hN x) (by omega)
  rw[show i+(r.length+1)=i+1+r.length by omega]
  exact this
theorem B9{i:Nat}{s:DeskState}(hG:GX N)(hx:∃ms e,yh N (cup s)=some (ms,e))(h:SI i s)(hi:i≤60)(hN:20000≤N)(line:List UInt8)(hl:line.length≤210):iT N line (DeskWork.mk s)=some ((stepW N s line).1,DeskWork.mk (stepW N s line).2):=by
 obtain⟨ms,e,hL⟩:=hx
 have hn:nxl N s=ms:=by unfold nxl;rw[hL]
 unfold iT stepW
 rw[B7 hG h hi hN hL line hl,hn]
 cases zJ N s ms line<;>rfl
theorem AI.nx{i:Nat}{s:DeskState}(h:AI i s)(hN:20000≤N):∃ms e,yh N (cup s)=some (ms,e):=by
 unfold cup
 by_cases h2:2≤s.fBowlers.length
 ·exact⟨_,_,Ip h.di ⟨h2,h.si.bl⟩ hN⟩
 ·have hr:s.fResults=[]:=List.eq_nil_of_length_eq_zero (by have:=h.di.len;omega)
  rw[hr]
  exact⟨_,_,Hw (by omega) hN⟩
theorem Ca(hG:GX N)(hN:20000≤N)(lines:List (List UInt8))(hl:lines.length≤55)(hs:∀s∈lines,s.length≤210):gn N lines=some (zB N st0 lines,DeskWork.mk (zv N st0 lines)):=by
 have key:=lO (N:=N) (B:=fun rec3 x=>eD N lines rec3 x.1 x.2.1 x.2.2.1 x.2.2.2) lines (fun i (a:DeskState×List Int)=>((lines.length:Int),(i:Int),DeskWork.mk a.1,a.2))
  (fun r a=>some (DeskWork.mk (zv N a.1 r),a.2++zB N a.1 r)) (fun i a=>AI i a.1∧a.2.length=i)
  (fun a rec _=>by
   unfold eD
   rw[if_neg (by simp)]
   simp[zv,zB])
  (fun i x a rec hx' ha ih=>by
   have hlt:=lP hx'
   unfold eD
   rw[if_pos (by simp only[decide_eq_true_eq];omega),ij hx',Option.bind_some,B9 hG (ha.1.nx hN) ha.1.si (by omega) hN x (hs x (List.mem_of_getElem? hx')),Option.bind_some]
   dsimp only
   rw[nL (by simp;omega),Option.bind_some,fN (by omega),ih (_,_) ⟨ha.1.step hG (by omega) hN x,by simp[ha.2]⟩]
   simp[zv,zB])
  (by omega) (st0,[]) ⟨P3,rfl⟩
 unfold gn
 rw[BW hN,Option.bind_some]
 simp only[Int.natCast_zero]at key
 rw[key]
 simp
theorem BX(hG:GX N)(hN:20000≤N)(lines:List (List UInt8))(hl:lines.length≤50)(hs:∀s∈lines,s.length≤200):nE N lines=some (zv N st0 lines,zB N st0 lines,0):=by
 unfold nE
 rw[vA lines hl hs hN,Option.bind_some,if_neg (by decide),Ca hG hN lines (by omega) (fun s h=>by have:=hs s h;omega),Option.bind_some]
 dsimp only
 have h:=Bq (N:=N) hN lines AU (by omega)
 rw[BG h (by omega) hN,Option.bind_some]
end Go.Proofs.YtdodahpkpeodfaaGreatDoor
namespace Go.Proofs.YtdodahpkpeodfaaGreatDoor
open Go.Kp
variable {N:Nat}
/-! The document's parse of a line that is accepted. -/
def vst (a:Nat)(c:UInt8):Nat:=10*a+(c.toNat-48)
def vl (a:Nat)(l:List UInt8):Nat:=l.foldl vst a
theorem Eo(a:Nat):vl a []=a:=by unfold vl;exact List.foldl_nil
theorem DZ(a:Nat)(c:UInt8)(r:List UInt8):vl a (c::r)=vl (10*a+(c.toNat-48)) r:=by
 have e:10*a+(c.toNat-48)=vst a c:=by unfold vst;exact Eq.refl _
 rw[e];unfold vl;exact List.foldl_cons ..
theorem IB(l:List UInt8):∀a:Nat,a≤vl a l:=by
 induction l with
 | nil=>intro a;rw[Eo];exact Nat.le_refl a
 | cons c r ih =>
  intro a
  rw[DZ]
  exact Nat.le_trans (by omega) (ih (10*a+(c.toNat-48)))
theorem Hz(l:List UInt8)(a:Nat)(c:UInt8):vl a (l++[c])=10*vl a l+(c.toNat-48):=by
 have e:10*vl a l+(c.toNat-48)=vst (vl a l) c:=by unfold vst;exact Eq.refl _
 rw[e];unfold vl;rw[List.foldl_append];exact List.foldl_cons ..
theorem Jc(l:List UInt8):∀(a:Nat),(∀c∈l,48≤c.toNat∧c.toNat≤57)→vl a l<(a+1)*10 ^ l.length:=by
 induction l with
 | nil =>
  intro a _
  rw[Eo,List.length_nil,Nat.pow_zero,Nat.mul_one]
  exact Nat.lt_succ_self a
 | cons c r ih =>
  intro a h
  have hc:=h c (List.mem_cons_self ..)
  rw[DZ]
  have h1:=ih (10*a+(c.toNat-48)) (fun d hd=>h d (List.mem_cons_of_mem c hd))
  rw[List.length_cons,Nat.pow_succ,Nat.mul_comm (10 ^ r.length) 10,← Nat.mul_assoc]
  refine Nat.lt_of_lt_of_le h1 (Nat.mul_le_mul_right _ ?_)
  omega
theorem Ff{l:List UInt8}{u:Nat}(i1:vl 0 l=u)(i2:∀c∈l,48≤c.toNat∧c.toNat≤57)(hl:l.length≤9):u<1000000000:=by
 have h:=Jc l 0 i2
 rw[i1,Nat.zero_add,Nat.one_mul]at h
 have:(10:Nat) ^ l.length≤10 ^ 9:=Nat.pow_le_pow_right (by omega) hl
 have e:(10:Nat) ^ 9=1000000000:=by decide
 omega
theorem IC:∀n<10,(UInt8.ofNat (48+n)).toNat=48+n:=by decide
theorem Fg:∀(f u:Nat),u<10 ^ f→1≤f→vl 0 (uf f u)=u∧(∀c∈uf f u,48≤c.toNat∧c.toNat≤57)∧1≤(uf f u).length∧(((uf f u).headD 0).toNat=48→(uf f u).length=1)∧(1≤u→((uf f u).headD 0).toNat≠48)
 | 0,_,_,h=>by omega
 | f+1,u,hu,_=>by
  unfold uf
  by_cases h:u<10
  ·rw[if_pos h]
   have e:=IC u h
   refine⟨by rw[DZ,Eo,e];omega,fun c hc=>?_,by simp,fun _=>by simp,fun h1=>?_⟩
   ·have hc:=List.mem_singleton.1 hc
    rw[hc,e];omega
   ·simp only[List.headD_cons];omega
  ·rw[if_neg h]
   have h2:u / 10<10 ^ f:=by
    rw[Nat.pow_succ]at hu;omega
   have hf:1≤f:=by
    rcases Nat.eq_zero_or_pos f with rfl | hf
    ·simp at hu;omega
    ·exact hf
   obtain⟨i1,i2,i3,i4,i5⟩:=Fg f (u / 10) h2 hf
   have e:=IC (u % 10) (by omega)
   have hd:(uf f (u / 10)++[UInt8.ofNat (48+u % 10)]).headD 0=(uf f (u / 10)).headD 0:=by
    cases hq:uf f (u / 10)with
    | nil=>rw[hq]at i3;simp at i3
    | cons a b=>rfl
   refine⟨by rw[Hz,i1,e];omega,fun c hc=>?_,by simp,fun h0=>?_,fun _=>?_⟩
   ·rcases List.mem_append.1 hc with hc | hc
    ·exact i2 c hc
    ·have hc:=List.mem_singleton.1 hc
     rw[hc,e];omega
   ·rw[hd]at h0
    exact absurd h0 (i5 (by omega))
   ·rw[hd];exact i5 (by omega)
theorem Fx(hN:20000≤N)(s:List UInt8)(less:Bool)(k u:Nat)(hs:s.length≤1000)(hk:k≤s.length)(hv:vl 0 (s.drop k)=u)(hu:u<1000000000)(hd:∀c∈s.drop k,48≤c.toNat∧c.toNat≤57) :
  loopN (fun rec3 x=>kW N s less rec3 x.1 x.2) N ((k:Int),0)=some (if less then -(u:Int)else u,true):=by
 obtain⟨r,hr,hq⟩:=zh (B:=fun rec3 x=>kW N s less rec3 x.1 x.2) (fun g (x:Int×Int)=>∃a m:Nat,x.1=a∧x.2=m∧k≤a∧a+g=s.length∧vl m (s.drop a)=u) (fun r=>r=(if less then -(u:Int)else(u:Int),true))
  (fun g x rec hI ih=>by
   obtain⟨x1,x2⟩:=x
   obtain⟨a,m,ha,hm,hka,hag,hval⟩:=hI
   simp only at ha hm
   subst ha hm
   unfold kW
   by_cases h:a<s.length
   ·rw[if_pos (by simp only[decide_eq_true_eq];omega)]
    have hx:=List.getElem?_eq_getElem h
    have hdrop:s.drop a=s[a]::s.drop (a+1):=List.drop_eq_getElem_cons h
    have hdc:48≤s[a].toNat∧s[a].toNat≤57:=hd _ (by
     rw[List.mem_iff_getElem?]
     refine⟨a-k,?_⟩
     rw[List.getElem?_drop,show k+(a-k)=a by omega,hx])
    rw[hdrop,DZ]at hval
    have hge:=IB (s.drop (a+1)) (10*m+(s[a].toNat-48))
    generalize hc:s[a]=c at hx hdc hval hge
    unfold Cm
    rw[ij hx,Option.bind_some,if_neg (by simp only[decide_eq_true_eq];omega),Option.bind_some]
    rw[if_neg (by simp only[decide_eq_true_eq];omega),Option.bind_some]
    have e1:w64 (10*(m:Int))=10*(m:Int):=bE (by omega) (by omega)
    have e2:w64 (Go.IntKind.wrap .u8 ((c.toNat:Int)-48))=(c.toNat:Int)-48:=by
     have:Go.IntKind.wrap .u8 ((c.toNat:Int)-48)=(c.toNat:Int)-48:=by
      have hw:∀n<10,Go.IntKind.wrap .u8 ((n:Nat):Int)=((n:Nat):Int):=by decide
      have:=hw (c.toNat-48) (by omega)
      rw[show(((c.toNat-48:Nat)):Int)=(c.toNat:Int)-48 by omega]at this
      exact this
     rw[this,bE (by omega) (by omega)]
    rw[e1,e2,fN (by omega),bE (by omega) (by omega)]
    exact ih (g-1) _ (by omega) ⟨a+1,10*m+(c.toNat-48),rfl,by simp only;omega,by omega,by omega,hval⟩
   ·rw[if_neg (by simp only[decide_eq_true_eq];omega)]
    have:a=s.length:=by omega
    subst this
    rw[List.drop_length,Eo]at hval
    subst hval
    unfold CF
    cases less with
    | true=>simp only[if_true,Option.bind_some];rw[bE (by omega) (by omega)];exact⟨_,rfl,rfl⟩
    | false=>exact⟨_,rfl,rfl⟩)
  N (s.length-k) ((k:Int),0) ⟨k,0,rfl,rfl,Nat.le_refl k,by omega,hv⟩ (by omega)
 rw[hr,hq]
theorem F5(hN:20000≤N){c:UInt8}{r:List UInt8}{u:Nat}(i1:vl 0 (c::r)=u)(i2:∀d∈c::r,48≤d.toNat∧d.toNat≤57)(h9:r.length+1≤9)(h5:c.toNat≠48):yW N (45::c::r)=some (-(u:Int),true):=by
 have hu:=Ff i1 i2 (by simpa using h9)
 have hl:(((45:UInt8)::c::r).length:Int)=(r.length:Int)+2:=by simp only[List.length_cons];omega
 unfold yW
 rw[hl]
 rw[if_pos (by simp only[decide_eq_true_eq];omega),show idx ((45:UInt8)::c::r) 0=some 45 from rfl,Option.bind_some,Option.bind_some]
 rw[if_pos (by decide),Option.bind_some]
 dsimp only
 rw[if_neg (by simp only[decide_eq_true_eq];omega),bE (by omega) (by omega)]
 rw[if_neg (by simp only[decide_eq_true_eq];omega),show idx ((45:UInt8)::c::r) 1=some c from rfl,Option.bind_some]
 rw[if_neg (by simp only[decide_eq_true_eq];omega),Option.bind_some]
 simp only[Bool.false_eq_true,if_false]
 have:=Fx hN ((45:UInt8)::c::r) true 1 u (by simp only[List.length_cons];omega) (by simp) i1 hu i2
 simp only[if_true]at this
 exact this
theorem F6(hN:20000≤N){c:UInt8}{r:List UInt8}{u:Nat}(i1:vl 0 (c::r)=u)(i2:∀d∈c::r,48≤d.toNat∧d.toNat≤57)(h9:r.length+1≤9)(i4:c.toNat=48→r.length=0):yW N (c::r)=some ((u:Int),true):=by
 have hu:=Ff i1 i2 (by simpa using h9)
 have hc:=i2 c (List.mem_cons_self ..)
 have hl:((c::r).length:Int)=(r.length:Int)+1:=by simp only[List.length_cons];omega
 unfold yW
 rw[hl]
 rw[if_pos (by simp only[decide_eq_true_eq];omega),show idx (c::r) 0=some c from rfl,Option.bind_some,Option.bind_some]
 rw[if_neg (by simp only[decide_eq_true_eq];omega),Option.bind_some]
 dsimp only
 rw[if_neg (by simp only[decide_eq_true_eq];omega),bE (by omega) (by omega)]
 rw[if_neg (by simp only[decide_eq_true_eq];omega),show idx (c::r) 0=some c from rfl,Option.bind_some]
 have hz:(if decide ((c.toNat:Int)=48)=true then some (decide (1<(r.length:Int)+1))else some false)=some false:=by
  split
  ·rename_i h48
   simp only[decide_eq_true_eq]at h48
   have:=i4 (by omega)
   simp only[Option.some.injEq,decide_eq_false_iff_not];omega
  ·rfl
 rw[hz,Option.bind_some]
 simp only[Bool.false_eq_true,if_false]
 have:=Fx hN (c::r) false 0 u (by simp only[List.length_cons];omega) (by simp) i1 hu i2
 simp only[Bool.false_eq_true,if_false]at this
 exact this
theorem EI(hN:20000≤N){s:List UInt8}{v:Int}(h:B5 s=some v):yW N s=some (v,true):=by
 unfold B5 at h
 have e20:(10:Nat) ^ 20=100000000000000000000:=by decide
 cases ha:Go.Lib.atoiAll s with
 | ok v' =>
  rw[ha]at h
  simp only at h
  by_cases hc:w7 v'=s∧((if([45]:List UInt8).isPrefixOf s then s.drop 1 else s).length≤9)
  ·rw[if_pos hc]at h
   have hv:v'=v:=Option.some.inj h
   subst hv
   obtain⟨h1,h2⟩:=hc
   have hb:=BV ha
   by_cases hneg:v'<0
   ·have es:45::uf 20 v'.natAbs=s:=by rw[← h1];unfold w7;rw[if_pos hneg]
    obtain⟨i1,i2,i3,i4,i5⟩:=Fg 20 v'.natAbs (by rw[e20];omega) (by omega)
    have h5:=i5 (by omega)
    generalize uf 20 v'.natAbs=l at es i1 i2 i3 i4 h5
    subst es
    rw[if_pos (by simp[List.isPrefixOf])]at h2
    cases l with
    | nil=>simp at i3
    | cons c r =>
     rw[F5 hN i1 i2 (by simpa using h2) h5]
     congr 2
     omega
   ·have es:uf 20 v'.toNat=s:=by rw[← h1];unfold w7;rw[if_neg hneg]
    obtain⟨i1,i2,i3,i4,i5⟩:=Fg 20 v'.toNat (by rw[e20];omega) (by omega)
    generalize uf 20 v'.toNat=l at es i1 i2 i3 i4
    subst es
    cases l with
    | nil=>simp at i3
    | cons c r =>
     have hc:=i2 c (List.mem_cons_self ..)
     have hpre:¬([45]:List UInt8).isPrefixOf (c::r)=true:=fun e=>by
      simp only[List.isPrefixOf,Bool.and_true,beq_iff_eq]at e
      subst e
      revert hc;decide
     rw[if_neg hpre]at h2
     rw[F6 hN i1 i2 (by simpa using h2) (fun e=>by have:=i4 e;simpa using this)]
     congr 2
     omega
  ·rw[if_neg hc]at h;cases h
 | range=>rw[ha]at h;cases h
 | _=>rw[ha]at h;cases h
end Go.Proofs.YtdodahpkpeodfaaGreatDoor
namespace Go.Proofs.YtdodahpkpeodfaaGreatDoor
open Go.Kp
variable {N:Nat}
def prp (p:List UInt8):List (List UInt8)→List (List UInt8)
 | []=>[p]
 | x::r=>(p++x)::r
theorem Ep(b:UInt8)(l:List UInt8):se 32 (b::l)=if b=32 then []::se 32 l else prp [b] (se 32 l):=by
 show(if b=32 then []::se 32 l else match se 32 l with | []=>[[b]] | x::r=>(b::x)::r)=_
 split
 ·rfl
 ·cases se 32 l<;>rfl
theorem Fy:∀l:List UInt8,se 32 l≠[]
 | []=>by simp[se]
 | b::l=>by
  rw[Ep]
  split
  ·simp
  ·cases se 32 l<;>simp[prp]
theorem Iq(p q:List UInt8)(l:List (List UInt8))(h:l≠[]):prp p (prp q l)=prp (p++q) l:=by
 cases l with
 | nil=>exact absurd rfl h
 | cons x r=>simp[prp]
theorem GC{l:List (List UInt8)}(h:l≠[]):prp [] l=l:=by
 cases l with
 | nil=>exact absurd rfl h
 | cons x r=>rfl
theorem F7:∀l:List UInt8,(se 32 l).length≤l.length+1
 | []=>by simp[se]
 | b::l=>by
  have ih:=F7 l
  rw[Ep]
  split
  ·simp;omega
  ·cases hq:se 32 l with
   | nil=>simp[prp]
   | cons x r=>rw[hq]at ih;simp[prp]at ih ⊢;omega
theorem HA{l:List UInt8}{f i:Nat}{c:UInt8}(hf:f≤i)(h:l[i]? = some c):(l.take (i+1)).drop f=(l.take i).drop f++[c]:=by
 have hi:=(List.getElem?_eq_some_iff.1 h).1
 rw[List.take_add_one,h]
 simp only[Option.toList]
 rw[List.drop_append_of_le_length (by rw[List.length_take];omega)]
theorem E1(hN:20000≤N)(line:List UInt8)(hl:line.length≤1000):loopN (fun rec3 x=>y7 N line rec3 x.1 x.2.1 x.2.2) N (0,0,[])=some (se 32 line):=by
 obtain⟨r,hr,hq⟩:=zh (B:=fun rec3 x=>y7 N line rec3 x.1 x.2.1 x.2.2) (fun g (x:Int×Int×List (List UInt8)) =>
   (∃f i:Nat,x.1=f∧x.2.1=i∧f≤i∧i≤line.length∧g=line.length+1-i∧x.2.2.length≤i∧se 32 line=x.2.2++prp ((line.take i).drop f) (se 32 (line.drop i)))∨(x.2.1=(line.length:Int)+1∧x.2.2=se 32 line)) (fun r=>r=se 32 line)
  (fun g x rec hI ih=>by
   obtain⟨x1,x2,x3⟩:=x
   unfold y7
   rcases hI with⟨f,i,hf,hi,hfi,hil,hg,hx3,hs⟩ | ⟨hi,hs⟩
   ·simp only at hf hi hx3 hs
    subst hf hi
    rw[if_pos (by simp only[decide_eq_true_eq];omega)]
    have hsl:Ib line (f:Int) (i:Int)=some ():=by unfold Ib;rw[if_pos ⟨by omega,by omega,by omega⟩]
    have hsub:IY line (f:Int) (i:Int)=(line.take i).drop f:=by unfold IY;rw[Int.toNat_natCast,Int.toNat_natCast]
    by_cases h:i=line.length
    ·subst h
     rw[if_pos (by simp only[decide_eq_true_eq]),Option.bind_some]
     simp only[if_true]
     rw[hsl,Option.bind_some,hsub,nL (by simp only[List.length_cons,List.length_nil];omega),Option.bind_some,Option.bind_some]
     dsimp only
     refine ih 0 _ (by omega) (.inr ⟨by simp only;rw[fN (by omega)];omega,?_⟩)
     simp only
     rw[hs,List.drop_length]
     simp[prp,se]
    ·have hlt:i<line.length:=by omega
     have hx:=List.getElem?_eq_getElem hlt
     have hdrop:line.drop i=line[i]::line.drop (i+1):=List.drop_eq_getElem_cons hlt
     generalize line[i]=c at hx hdrop
     rw[if_neg (by simp only[decide_eq_true_eq];omega),ij hx,Option.bind_some,Option.bind_some]
     rw[hdrop,Ep]at hs
     by_cases hc:c=32
     ·subst hc
      rw[if_pos rfl]at hs
      rw[if_pos (by decide)]
      rw[hsl,Option.bind_some,hsub,nL (by simp only[List.length_cons,List.length_nil];omega),Option.bind_some,Option.bind_some]
      dsimp only
      rw[fN (by omega)]
      refine ih (g-1) _ (by omega) (.inl ⟨i+1,i+1,rfl,rfl,Nat.le_refl _,hlt,by omega,by simp only[List.length_append,List.length_cons,List.length_nil];omega,?_⟩)
      simp only
      have e0:(line.take (i+1)).drop (i+1)=[]:=List.drop_eq_nil_of_le (by rw[List.length_take];omega)
      rw[hs,e0,GC (Fy _)]
      simp[prp]
     ·rw[if_neg hc]at hs
      have hc':¬((c.toNat:Int)=32):=fun e=>hc (by
       apply UInt8.toNat_inj.1
       have:(32:UInt8).toNat=32:=rfl
       omega)
      rw[if_neg (by simp only[decide_eq_true_eq];exact hc'),Option.bind_some]
      dsimp only
      rw[fN (by omega)]
      refine ih (g-1) _ (by omega) (.inl ⟨f,i+1,rfl,rfl,by omega,hlt,by omega,by simp only;omega,?_⟩)
      simp only
      rw[hs,Iq _ _ _ (Fy _),HA hfi hx]
   ·simp only at hi hs
    subst hi hs
    rw[if_neg (by simp only[decide_eq_true_eq];omega)]
    exact⟨_,rfl,rfl⟩)
  N (line.length+1) (0,0,[]) (.inl ⟨0,0,rfl,rfl,Nat.le_refl _,by omega,by omega,by simp,by simp[GC (Fy _)]⟩) (by omega)
 rw[hr,hq]
theorem HB(hN:20000≤N)(l:List (List UInt8))(hl:l.length≤1000){h0:List UInt8}(hh:l[0]? = some h0){ns:List Int}(hn:Ap l.tail=some ns):loopN (fun rec5 x=>xT N l rec5 x.1 x.2) N (1,[])=some (h0,ns,true):=by
 obtain⟨r,hr,hq⟩:=zh (B:=fun rec5 x=>xT N l rec5 x.1 x.2) (fun g (x:Int×List Int)=>∃i:Nat,x.1=i∧1≤i∧i+g=l.length∧x.2.length≤i∧∃rest,Ap (l.drop i)=some rest∧ns=x.2++rest) (fun r=>r=(h0,ns,true))
  (fun g x rec hI ih=>by
   obtain⟨x1,x2⟩:=x
   obtain⟨i,hi,h1,hg,hx2,rest,hrest,hns⟩:=hI
   simp only at hi hx2 hns
   subst hi
   unfold xT
   by_cases h:i<l.length
   ·rw[if_pos (by simp only[decide_eq_true_eq];omega)]
    have hx:=List.getElem?_eq_getElem h
    have hdrop:l.drop i=l[i]::l.drop (i+1):=List.drop_eq_getElem_cons h
    generalize l[i]=w at hx hdrop
    rw[hdrop]at hrest
    unfold Ap at hrest
    cases hw:B5 w with
    | none=>rw[hw]at hrest;cases hrest
    | some v =>
     rw[hw]at hrest
     simp only at hrest
     cases hr:Ap (l.drop (i+1))with
     | none=>rw[hr]at hrest;cases hrest
     | some r2 =>
      rw[hr]at hrest
      have hrest:=Option.some.inj hrest
      subst hrest
      rw[ij hx,Option.bind_some,EI hN hw,Option.bind_some]
      dsimp only
      rw[if_neg (by decide),nL (by simp only[List.length_cons,List.length_nil];omega),Option.bind_some,fN (by omega)]
      exact ih (g-1) _ (by omega) ⟨i+1,rfl,by omega,by omega,by simp only[List.length_append,List.length_cons,List.length_nil];omega,r2,hr,by simp only;rw[hns];simp⟩
   ·rw[if_neg (by simp only[decide_eq_true_eq];omega)]
    have:i=l.length:=by omega
    subst this
    rw[List.drop_length]at hrest
    have hrest:=Option.some.inj hrest
    subst hrest
    unfold CW
    rw[show(0:Int)=((0:Nat):Int)from rfl,ij hh,Option.bind_some]
    exact⟨_,rfl,by rw[hns];simp⟩)
  N (l.length-1) (1,[]) ⟨1,rfl,Nat.le_refl 1,by have:=lP hh;omega,by simp,ns,by rw[List.drop_one];exact hn,by simp⟩ (by omega)
 rw[hr,hq]
theorem D9{k:List UInt8}{c:DeskAct}(h:mget aM9 k=some c):(k=[98,111,119,108,101,114]∧c=DeskAct.mk 1 0)∨(k=[111,112,101,110]∧c=DeskAct.mk 2 1)∨(k=[98,97,108,108]∧c=DeskAct.mk 2 2)∨(k=[98,97,99,107]∧c=DeskAct.mk 1 3)∨(k=[99,108,111,115,101]∧c=DeskAct.mk 1 4)∨(k=[115,104,101,101,116]∧c=DeskAct.mk 2 5)∨(k=[115,116,114,105,107,101]∧c=DeskAct.mk 1 6)∨(k=[100,117,101,108]∧c=DeskAct.mk 1 7)∨(k=[100,111,117,98,116]∧c=DeskAct.mk 1 8):=by
 unfold aM9 aM8 aM7 aM6 aM5 aM4 aM3 aM2 aM1 at h
 simp only[Az]at h
 repeat' (split at h)
 all_goals first | (rename_i hk;injection h with h;subst h;simp[hk]) | cases h
theorem GZ(hN:20000≤N){line:List UInt8}(hl:line.length≤210){c:DeskAct}(hc:mget aM9 ((se 32 line).headD [])=some c)(hlen:((se 32 line).length:Int)=c.fMany+1){ns:List Int}(hn:Ap (se 32 line).tail=some ns):Cz N line=some ((se 32 line).headD [],ns,true):=by
 have hll:=F7 line
 unfold Cz
 rw[E1 hN line (by omega),Option.bind_some]
 have hh:(se 32 line)[0]? = some ((se 32 line).headD []):=by
  cases hq:se 32 line with
  | nil=>exact absurd hq (Fy _)
  | cons x r=>rfl
 have hfin:=HB hN (se 32 line) (by omega) hh hn
 rw[show(0:Int)=((0:Nat):Int)from rfl,ij hh,Option.bind_some]
 generalize(se 32 line).headD []=k at hc hfin
 generalize se 32 line=q at hlen hfin
 have fin1:∀m:Int,(q.length:Int)=m+1→0≤m→m≤2→(if !decide ((q.length:Int)=(w64 (m+1)))then some ((([]:List UInt8),[],false))else loopN (fun rec5 x=>xT N q rec5 x.1 x.2) N (1,[]))=some (k,ns,true):=fun m hm h0 h2=>by
  rw[bE (by omega) (by omega),if_neg (by simp[hm])]
  exact hfin
 rcases D9 hc with⟨rfl,rfl⟩ | ⟨rfl,rfl⟩ | ⟨rfl,rfl⟩ | ⟨rfl,rfl⟩ | ⟨rfl,rfl⟩ | ⟨rfl,rfl⟩ | ⟨rfl,rfl⟩ | ⟨rfl,rfl⟩ | ⟨rfl,rfl⟩
 ·exact fin1 1 hlen (by omega) (by omega)
 ·exact fin1 2 hlen (by omega) (by omega)
 ·exact fin1 2 hlen (by omega) (by omega)
 ·exact fin1 1 hlen (by omega) (by omega)
 ·exact fin1 1 hlen (by omega) (by omega)
 ·exact fin1 2 hlen (by omega) (by omega)
 ·exact fin1 1 hlen (by omega) (by omega)
 ·exact fin1 1 hlen (by omega) (by omega)
 ·exact fin1 1 hlen (by omega) (by omega)
end Go.Proofs.YtdodahpkpeodfaaGreatDoor
namespace Go.Proofs.YtdodahpkpeodfaaGreatDoor
open Go.Kp
variable {N:Nat}
/-! What the desk takes for no number, the document does not either. -/
theorem E2:∀(l:List UInt8) (a:Nat),(∀c∈l,48≤c.toNat∧c.toNat≤57)→(a+1)*10 ^ l.length≤10 ^ 18→Go.Lib.parseUint10 a l=.ok (vl a l)
 | [],a,_,_=>by rw[Eo];rfl
 | c::r,a,h,hb=>by
  have hc:=h c (List.mem_cons_self ..)
  rw[List.length_cons,Nat.pow_succ,Nat.mul_comm (10 ^ r.length) 10,← Nat.mul_assoc]at hb
  have hp:1≤10 ^ r.length:=Nat.one_le_pow _ _ (by decide)
  have h1:(a+1)*10≤(a+1)*10*10 ^ r.length:=Nat.le_mul_of_pos_right _ hp
  have e18:(10:Nat) ^ 18=1000000000000000000:=by decide
  have ha:(a+1)*10≤1000000000000000000:=by rw[← e18];exact Nat.le_trans h1 hb
  have hd:a*10+(c.toNat-48)=10*a+(c.toNat-48):=by omega
  unfold Go.Lib.parseUint10
  rw[if_pos hc,if_neg (by omega),if_neg (by omega),hd,DZ]
  exact E2 r _ (fun x hx=>h x (List.mem_cons_of_mem _ hx)) (Nat.le_trans (Nat.mul_le_mul_right _ (by omega)) hb)
theorem ID(c:UInt8)(h:48≤c.toNat):UInt8.ofNat (48+(c.toNat-48))=c:=by
 rw[show 48+(c.toNat-48)=c.toNat by omega];exact UInt8.ofNat_toNat
theorem HN{c:UInt8}(r:List UInt8)(h1:48≤c.toNat)(hc:c.toNat≠48):1≤vl 0 (c::r):=by
 rw[DZ]
 exact Nat.le_trans (by omega) (IB r _)
theorem EK:∀(f:Nat) (l:List UInt8),(∀c∈l,48≤c.toNat∧c.toNat≤57)→l≠[]→((l.headD 0).toNat=48→l.length=1)→l.length≤f→uf f (vl 0 l)=l
 | 0,l,_,hne,_,hl=>absurd (List.eq_nil_of_length_eq_zero (by omega)) hne
 | f+1,l,hd,hne,hz,hl=>by
  obtain⟨m,c,rfl⟩:∃m c,l=m++[c]:=⟨l.dropLast,l.getLast hne,(List.dropLast_concat_getLast hne).symm⟩
  have hc:=hd c (List.mem_append_right _ (List.mem_singleton.2 rfl))
  rw[Hz]
  cases m with
  | nil =>
   rw[Eo]
   show(if 10*0+(c.toNat-48)<10 then _ else _)=_
   rw[if_pos (by omega),show 48+(10*0+(c.toNat-48))=48+(c.toNat-48) by omega,ID c hc.1]
   exact List.nil_append _
  | cons x r =>
   have hx0:=hd x (List.mem_append_left _ (List.mem_cons_self ..))
   have hx:x.toNat≠48:=fun e=>by
    have:=hz (by simpa using e)
    simp at this
   have hp:=HN r hx0.1 hx
   have ih:=EK f (x::r) (fun y hy=>hd y (List.mem_append_left _ hy)) (by simp) (fun e=>absurd (by simpa using e) hx) (by simp at hl ⊢;omega)
   generalize vl 0 (x::r)=u at hp ih
   show(if 10*u+(c.toNat-48)<10 then _ else _)=_
   rw[if_neg (by omega),show(10*u+(c.toNat-48)) / 10=u by omega,show 48+(10*u+(c.toNat-48)) % 10=48+(c.toNat-48) by omega,ID c hc.1,ih]
theorem GG{l:List UInt8}(hd:∀c∈l,48≤c.toNat∧c.toNat≤57)(hne:l≠[])(h9:l.length≤9):Go.Lib.parseMag l=.ok (vl 0 l):=by
 unfold Go.Lib.parseMag
 rw[if_neg hne]
 refine E2 l 0 hd ?_
 rw[Nat.zero_add,Nat.one_mul]
 exact Nat.pow_le_pow_right (by omega) (by omega)
theorem HO{c:UInt8}{r:List UInt8}(hd:∀x∈c::r,48≤x.toNat∧x.toNat≤57)(h9:r.length+1≤9)(hz:c.toNat=48→r=[]):B5 (c::r)≠none:=by
 have hc:=hd c (List.mem_cons_self ..)
 have hm:=GG hd (by simp) (by simpa using h9)
 have hb:=Ff rfl hd (by simpa using h9)
 have hv:=EK 20 (c::r) hd (by simp) (fun e=>by simp at e;simp[hz e]) (by simp;omega)
 generalize vl 0 (c::r)=u at hm hb hv
 have ha:Go.Lib.atoiAll (c::r)=.ok (u:Int):=by
  unfold Go.Lib.atoiAll
  simp only
  rw[if_neg (by omega:¬(c.toNat=43∨c.toNat=45)),hm]
  simp only
  rw[if_neg (by omega),if_neg (by omega),if_neg (by omega)]
 have hi:w7 (u:Int)=c::r:=by
  unfold w7
  rw[if_neg (by omega),Int.toNat_natCast,hv]
 unfold B5
 rw[ha]
 simp only
 have hp:¬(([45]:List UInt8).isPrefixOf (c::r))=true:=fun e=>by
  simp only[List.isPrefixOf,Bool.and_true,beq_iff_eq]at e
  subst e
  revert hc;decide
 rw[if_pos ⟨hi,by rw[if_neg hp];simpa using h9⟩]
 simp
theorem HP{c:UInt8}{r:List UInt8}(hd:∀x∈c::r,48≤x.toNat∧x.toNat≤57)(h9:r.length+1≤9)(hz:c.toNat≠48):B5 (45::c::r)≠none:=by
 have hc:=hd c (List.mem_cons_self ..)
 have hm:=GG hd (by simp) (by simpa using h9)
 have hb:=Ff rfl hd (by simpa using h9)
 have hp:=HN r hc.1 hz
 have hv:=EK 20 (c::r) hd (by simp) (fun e=>absurd (by simpa using e) hz) (by simp;omega)
 generalize vl 0 (c::r)=u at hm hb hv hp
 have e45:(45:UInt8).toNat=45:=rfl
 have ha:Go.Lib.atoiAll (45::c::r)=.ok (-(u:Int)):=by
  unfold Go.Lib.atoiAll
  simp only
  rw[if_pos (Or.inr e45),hm]
  simp only
  rw[if_neg (by simp[e45]),if_neg (by omega),if_pos e45]
 have hi:w7 (-(u:Int))=45::c::r:=by
  unfold w7
  rw[if_pos (by omega),show(-(u:Int)).natAbs=u by omega,hv]
 unfold B5
 rw[ha]
 simp only
 rw[if_pos ⟨hi,by rw[if_pos (by simp[List.isPrefixOf])];simpa using h9⟩]
 simp
theorem GH(hN:20000≤N)(s:List UInt8)(less:Bool)(k:Nat)(n0:Int)(hs:s.length≤1000)(hd:¬ ∀c∈s.drop k,48≤c.toNat∧c.toNat≤57) :
  loopN (fun rec3 x=>kW N s less rec3 x.1 x.2) N ((k:Int),n0)=some (0,false):=by
 obtain⟨r,hr,hq⟩:=zh (B:=fun rec3 x=>kW N s less rec3 x.1 x.2) (fun g (x:Int×Int)=>∃a:Nat,x.1=a∧a+g=s.length∧¬ ∀c∈s.drop a,48≤c.toNat∧c.toNat≤57) (fun r=>r=((0:Int),false))
  (fun g x rec hI ih=>by
   obtain⟨x1,x2⟩:=x
   obtain⟨a,ha,hag,hbad⟩:=hI
   simp only at ha
   subst ha
   unfold kW
   have h:a<s.length:=by
    rcases Nat.lt_or_ge a s.length with h | h
    ·exact h
    ·rw[List.drop_eq_nil_of_le h]at hbad
     exact absurd (fun c hc=>by cases hc) hbad
   rw[if_pos (by simp only[decide_eq_true_eq];omega)]
   have hx:=List.getElem?_eq_getElem h
   rw[List.drop_eq_getElem_cons h]at hbad
   generalize s[a]=c at hx hbad
   unfold Cm
   rw[ij hx,Option.bind_some]
   by_cases h1:(c.toNat:Int)<48
   ·rw[if_pos (by simp only[decide_eq_true_eq];exact h1),Option.bind_some]
    exact⟨_,rfl,rfl⟩
   ·rw[if_neg (by simp only[decide_eq_true_eq];exact h1),Option.bind_some]
    by_cases h2:57<(c.toNat:Int)
    ·rw[if_pos (by simp only[decide_eq_true_eq];exact h2)]
     exact⟨_,rfl,rfl⟩
    ·rw[if_neg (by simp only[decide_eq_true_eq];exact h2),Option.bind_some,fN (by omega)]
     refine ih (g-1) _ (by omega) ⟨a+1,rfl,by omega,fun hall=>hbad fun y hy=>?_⟩
     rcases List.mem_cons.1 hy with rfl | hy
     ·omega
     ·exact hall y hy)
  N (s.length-k) ((k:Int),n0) ⟨k,rfl,by
   rcases Nat.lt_or_ge k s.length with h | h
   ·omega
   ·rw[List.drop_eq_nil_of_le h]at hd
    exact absurd (fun c hc=>by cases hc) hd,hd⟩ (by omega)
 rw[hr,hq]
theorem Gd(hN:20000≤N){s:List UInt8}(hs:s.length≤1000)(h:B5 s=none):yW N s=some (0,false):=by
 cases s with
 | nil=>rfl
 | cons c r =>
  simp only[List.length_cons]at hs
  have hl:((c::r).length:Int)=(r.length:Int)+1:=by simp only[List.length_cons];omega
  have e0:idx (c::r) 0=some c:=rfl
  unfold yW
  rw[hl,if_pos (by simp only[decide_eq_true_eq];omega),e0,Option.bind_some,Option.bind_some]
  by_cases hc:c=45
  ·subst hc
   rw[if_pos (by decide),Option.bind_some]
   dsimp only
   cases r with
   | nil=>rfl
   | cons d q =>
    have hl2:((d::q).length:Int)=(q.length:Int)+1:=by simp only[List.length_cons];omega
    have e1:idx ((45:UInt8)::d::q) 1=some d:=rfl
    rw[hl2,if_neg (by simp only[decide_eq_true_eq];omega),bE (by simp only[List.length_cons]at hs;omega) (by simp only[List.length_cons]at hs;omega)]
    by_cases h9:9<(q.length:Int)+1+1-1
    ·rw[if_pos (by simp only[decide_eq_true_eq];exact h9)];rfl
    ·rw[if_neg (by simp only[decide_eq_true_eq];exact h9),e1,Option.bind_some]
     by_cases h48:d.toNat=48
     ·rw[if_pos (by simp only[decide_eq_true_eq];omega),Option.bind_some,if_pos (by simp only[decide_eq_true_eq];omega)]
     ·rw[if_neg (by simp only[decide_eq_true_eq];omega),Option.bind_some]
      simp only[Bool.false_eq_true,if_false]
      by_cases hd:∀x∈d::q,48≤x.toNat∧x.toNat≤57
      ·exact absurd h (HP hd (by omega) h48)
      ·exact GH hN ((45:UInt8)::d::q) true 1 0 (by simp only[List.length_cons]at hs ⊢;omega) hd
  ·have hc':¬((c.toNat:Int)=45):=fun e=>hc (UInt8.toNat_inj.1 (by have:(45:UInt8).toNat=45:=rfl;omega))
   rw[if_neg (by simp only[decide_eq_true_eq];exact hc'),Option.bind_some]
   dsimp only
   rw[if_neg (by simp only[decide_eq_true_eq];omega),bE (by omega) (by omega)]
   by_cases h9:9<(r.length:Int)+1-0
   ·rw[if_pos (by simp only[decide_eq_true_eq];exact h9)];rfl
   ·rw[if_neg (by simp only[decide_eq_true_eq];exact h9),e0,Option.bind_some]
    have fin:∀b:Bool,(b=false→c.toNat=48→r=[])→Option.bind (some b) (fun v8=>if v8 then some ((0:Int),false)else loopN (fun rec3 x=>kW N (c::r) false rec3 x.1 x.2) N ((0:Int),0))=some (0,false):=fun b hb=>by
     cases b with
     | true=>rfl
     | false =>
      simp only[Option.bind_some,Bool.false_eq_true,if_false]
      by_cases hd:∀x∈c::r,48≤x.toNat∧x.toNat≤57
      ·exact absurd h (HO hd (by omega) (hb rfl))
      ·exact GH hN (c::r) false 0 0 (by simp only[List.length_cons];omega) hd
    by_cases h48:c.toNat=48
    ·rw[if_pos (by simp only[decide_eq_true_eq];omega)]
     refine fin _ fun hb _=>List.eq_nil_of_length_eq_zero ?_
     simp only[decide_eq_false_iff_not]at hb
     omega
    ·rw[if_neg (by simp only[decide_eq_true_eq];omega)]
     exact fin _ fun _ h=>absurd h h48
end Go.Proofs.YtdodahpkpeodfaaGreatDoor
namespace Go.Proofs.YtdodahpkpeodfaaGreatDoor
open Go.Kp
variable {N:Nat}
theorem HQ(hN:20000≤N)(l:List (List UInt8))(hl:l.length≤1000)(hx:∀x∈l,x.length≤1000)(hn:Ap l.tail=none):loopN (fun rec5 x=>xT N l rec5 x.1 x.2) N (1,[])=some ([],[],false):=by
 obtain⟨r,hr,hq⟩:=zh (B:=fun rec5 x=>xT N l rec5 x.1 x.2) (fun g (x:Int×List Int)=>∃i:Nat,x.1=i∧1≤i∧i+g=l.length∧x.2.length≤i∧Ap (l.drop i)=none) (fun r=>r=(([]:List UInt8),([]:List Int),false))
  (fun g x rec hI ih=>by
   obtain⟨x1,x2⟩:=x
   obtain⟨i,hi,h1,hg,hx2,hrest⟩:=hI
   simp only at hi hx2
   subst hi
   have h:i<l.length:=by
    rcases Nat.lt_or_ge i l.length with h | h
    ·exact h
    ·rw[List.drop_eq_nil_of_le h]at hrest;cases hrest
   unfold xT
   rw[if_pos (by simp only[decide_eq_true_eq];omega)]
   have hxx:=List.getElem?_eq_getElem h
   have hdrop:l.drop i=l[i]::l.drop (i+1):=List.drop_eq_getElem_cons h
   have hlen:=hx _ (List.getElem_mem h)
   generalize l[i]=w at hxx hdrop hlen
   rw[hdrop]at hrest
   unfold Ap at hrest
   rw[ij hxx,Option.bind_some]
   cases hw:B5 w with
   | none =>
    rw[Gd hN hlen hw,Option.bind_some]
    exact⟨_,rfl,rfl⟩
   | some v =>
    rw[EI hN hw,Option.bind_some]
    dsimp only
    rw[if_neg (by decide),nL (by simp only[List.length_cons,List.length_nil];omega),Option.bind_some,fN (by omega)]
    refine ih (g-1) _ (by omega) ⟨i+1,rfl,by omega,by omega,by simp only[List.length_append,List.length_cons,List.length_nil];omega,?_⟩
    rw[hw]at hrest
    simp only at hrest
    cases hr:Ap (l.drop (i+1))with
    | none=>rfl
    | some q=>rw[hr]at hrest;cases hrest)
  N (l.length-1) (1,[]) ⟨1,rfl,Nat.le_refl 1,by
   have:l≠[]:=fun e=>by subst e;cases hn
   have:=List.length_pos_iff.2 this
   omega,by simp,by rw[List.drop_one];exact hn⟩ (by omega)
 rw[hr,hq]
theorem G4{k:List UInt8}(h:mget aM9 k=none):k≠[98,111,119,108,101,114]∧k≠[111,112,101,110]∧k≠[98,97,108,108]∧k≠[98,97,99,107]∧k≠[99,108,111,115,101]∧k≠[115,104,101,101,116]∧k≠[115,116,114,105,107,101]∧k≠[100,117,101,108]∧k≠[100,111,117,98,116]:=by
 unfold aM9 aM8 aM7 aM6 aM5 aM4 aM3 aM2 aM1 at h
 simp only[Az]at h
 repeat' (split at h)
 all_goals first | cases h | skip
 rename_i h1 h2 h3 h4 h5 h6 h7 h8 h9
 exact⟨h9,h8,h7,h6,h5,h4,h3,h2,h1⟩
theorem Es(hN:20000≤N){line:List UInt8}(hl:line.length≤210)(h:match mget aM9 ((se 32 line).headD [])with | none=>True | some c=>((se 32 line).length:Int)≠c.fMany+1∨Ap (se 32 line).tail=none):Cz N line=some ([],[],false):=by
 have hll:=F7 line
 have hsl:=Ba 32 line
 unfold Cz
 rw[E1 hN line (by omega),Option.bind_some]
 have hh:(se 32 line)[0]? = some ((se 32 line).headD []):=by
  cases hq:se 32 line with
  | nil=>exact absurd hq (Fy _)
  | cons x r=>rfl
 have hpos:=lP hh
 rw[show(0:Int)=((0:Nat):Int)from rfl,ij hh,Option.bind_some]
 cases hc:mget aM9 ((se 32 line).headD [])with
 | none =>
  obtain⟨e1,e2,e3,e4,e5,e6,e7,e8,e9⟩:=G4 hc
  simp only[e1,e2,e3,e4,e5,e6,e7,e8,e9,decide_false,Bool.false_eq_true,if_false,Option.bind_some]
  rw[if_pos]
  rw[show w64 (-1+1)=0 by decide]
  simp only[Bool.not_eq_true',decide_eq_false_iff_not]
  omega
 | some c =>
  rw[hc]at h
  simp only at h
  have hfin:((se 32 line).length:Int)=c.fMany+1→loopN (fun rec5 x=>xT N (se 32 line) rec5 x.1 x.2) N (1,[])=some (([]:List UInt8),[],false):=fun e=>HQ hN _ (by omega) (fun x hx=>by have:=hsl.2 x hx;omega) (h.resolve_left fun h=>h e)
  generalize(se 32 line).headD []=k at hc
  generalize se 32 line=q at hfin
  have fin1:∀m:Int,m=c.fMany→0≤m→m≤2→(if !decide ((q.length:Int)=(w64 (m+1)))then some ((([]:List UInt8),[],false))else loopN (fun rec5 x=>xT N q rec5 x.1 x.2) N (1,[]))=some ([],[],false):=fun m hm h0 h2=>by
   rw[bE (by omega) (by omega)]
   by_cases e:(q.length:Int)=m+1
   ·rw[if_neg (by simp[e])]
    exact hfin (by omega)
   ·rw[if_pos (by simp[e])]
  rcases D9 hc with⟨rfl,rfl⟩ | ⟨rfl,rfl⟩ | ⟨rfl,rfl⟩ | ⟨rfl,rfl⟩ | ⟨rfl,rfl⟩ | ⟨rfl,rfl⟩ | ⟨rfl,rfl⟩ | ⟨rfl,rfl⟩ | ⟨rfl,rfl⟩
  ·exact fin1 1 rfl (by omega) (by omega)
  ·exact fin1 2 rfl (by omega) (by omega)
  ·exact fin1 2 rfl (by omega) (by omega)
  ·exact fin1 1 rfl (by omega) (by omega)
  ·exact fin1 1 rfl (by omega) (by omega)
  ·exact fin1 2 rfl (by omega) (by omega)
  ·exact fin1 1 rfl (by omega) (by omega)
  ·exact fin1 1 rfl (by omega) (by omega)
  ·exact fin1 1 rfl (by omega) (by omega)
end Go.Proofs.YtdodahpkpeodfaaGreatDoor
namespace Go.Proofs.YtdodahpkpeodfaaGreatDoor
open Go.Kp
variable {N:Nat}
/-! The document plays lines as the desk does. -/
theorem HT{s:DeskState}{line:List UInt8}:emr s (zJ N s (nxl N s) line)=(tr (stepW N s line).2,(stepW N s line).1):=by
 unfold stepW
 cases zJ N s (nxl N s) line<;>rfl
theorem Je{i:Nat}{s:DeskState}(hG:GX N)(hF:FX N)(h:AI i s)(hi:i≤59)(hN:20000≤N)(line:List UInt8)(hl:line.length≤210):Eh N (tr s) line=some (tr (stepW N s line).2,(stepW N s line).1):=by
 rw[← HT]
 unfold zJ Eh
 cases hc:mget aM9 ((se 32 line).headD [])with
 | none =>
  rw[Es hN hl (by rw[hc];trivial),Option.bind_some];rfl
 | some c =>
  simp only
  by_cases hlen:((se 32 line).length:Int)≠c.fMany+1
  ·rw[Es hN hl (by rw[hc];exact .inl hlen),Option.bind_some,if_pos hlen];rfl
  ·rw[if_neg hlen]
   cases hns:Ap (se 32 line).tail with
   | none=>rw[Es hN hl (by rw[hc];exact .inr hns),Option.bind_some];rfl
   | some ns =>
    simp only
    have hlen':=Classical.not_not.1 hlen
    have hnl:=E4 hns
    rw[List.length_tail]at hnl
    rw[GZ hN hl hc hlen' hns,Option.bind_some]
    dsimp only
    rw[if_neg (by decide)]
    obtain⟨hd,hmany,hm2⟩:=B6 hc
    have g0:idx ns 0=some (ns.getD 0 0):=ij (i:=0) (by rw[List.getD_eq_getElem?_getD,List.getElem?_eq_getElem (by omega)];rfl)
    have g1:c.fMany=2→idx ns 1=some (ns.getD 1 0):=fun e=>ij (i:=1) (by rw[List.getD_eq_getElem?_getD,List.getElem?_eq_getElem (by omega)];rfl)
    have pk:∀z:Int⊕DeskState,(Option.bind (some (emr s z)) fun(a,b)=>some (a,b))=some (emr s z):=fun z=>rfl
    generalize(se 32 line).headD []=k at hc
    unfold AD
    simp only
    rcases D9 hc with⟨rfl,rfl⟩ | ⟨rfl,rfl⟩ | ⟨rfl,rfl⟩ | ⟨rfl,rfl⟩ | ⟨rfl,rfl⟩ | ⟨rfl,rfl⟩ | ⟨rfl,rfl⟩ | ⟨rfl,rfl⟩ | ⟨rfl,rfl⟩
    ·rw[if_pos (by simp),g0,Option.bind_some,F9 h.si (by omega) hN];exact pk _
    ·rw[if_neg (by simp),if_pos (by simp),g0,Option.bind_some,g1 rfl,Option.bind_some,HE h.si];exact pk _
    ·rw[if_neg (by simp),if_neg (by simp),if_pos (by simp),g0,Option.bind_some,g1 rfl,Option.bind_some,HF hF h.si (by omega) hN];exact pk _
    ·rw[if_neg (by simp),if_neg (by simp),if_neg (by simp),if_pos (by simp),g0,Option.bind_some,HG h.si (by omega) hN];exact pk _
    ·rw[if_neg (by simp),if_neg (by simp),if_neg (by simp),if_neg (by simp),if_pos (by simp),g0,Option.bind_some,G0 hG hF h.si h.li (by omega) hN];exact pk _
    ·rw[if_neg (by simp),if_neg (by simp),if_neg (by simp),if_neg (by simp),if_neg (by simp),if_pos (by simp),g0,Option.bind_some,g1 rfl,Option.bind_some,Gb h.si (by omega) hN];exact pk _
    ·rw[if_neg (by simp),if_neg (by simp),if_neg (by simp),if_neg (by simp),if_neg (by simp),if_neg (by simp),if_pos (by simp),g0,Option.bind_some,Gc h.si h.ri (by omega) hN];exact pk _
    ·rw[if_neg (by simp),if_neg (by simp),if_neg (by simp),if_neg (by simp),if_neg (by simp),if_neg (by simp),if_neg (by simp),if_pos (by simp),g0,Option.bind_some,HM h.si h.di (by omega) hN];exact pk _
    ·rw[if_neg (by simp),if_neg (by simp),if_neg (by simp),if_neg (by simp),if_neg (by simp),if_neg (by simp),if_neg (by simp),if_neg (by simp),g0,Option.bind_some,G2 h.si (by omega) hN];exact pk _
theorem HU(hG:GX N)(hF:FX N)(hN:20000≤N)(lines:List (List UInt8))(hl:lines.length≤55)(hs:∀s∈lines,s.length≤210):DC N lines=some (tr (zv N st0 lines),zB N st0 lines):=by
 have key:=lO (N:=N) (B:=fun rec3 x=>CO N lines rec3 x.1 x.2.1 x.2.2) lines (fun i (a:DeskState×List Int)=>((i:Int),tr a.1,a.2))
  (fun r a=>some (tr (zv N a.1 r),a.2++zB N a.1 r)) (fun i a=>AI i a.1∧a.2.length=i)
  (fun a rec _=>by
   unfold CO
   rw[if_neg (by simp)]
   simp[zv,zB])
  (fun i x a rec hx ha ih=>by
   have hlt:=lP hx
   unfold CO
   rw[if_pos (by simp only[decide_eq_true_eq];omega),ij hx,Option.bind_some,Je hG hF ha.1 (by omega) hN x (hs x (List.mem_of_getElem? hx)),Option.bind_some]
   dsimp only
   rw[Option.bind_some]
   dsimp only
   rw[nL (by simp;omega),Option.bind_some,fN (by omega),ih (_,_) ⟨ha.1.step hG (by omega) hN x,by simp[ha.2]⟩]
   simp[zv,zB])
  (by omega) (st0,[]) ⟨P3,rfl⟩
 unfold DC
 rw[show DJ N=some (tr st0)from rfl,Option.bind_some]
 simp only[Int.natCast_zero]at key
 rw[key]
 simp
theorem G6(lines:List (List UInt8))(hl:lines.length≤55)(hN:20000≤N):dw N lines=some (if(lines.all (fun s=>decide (s.length≤200))&&decide (lines.length≤50))=true then 0 else 3):=by
 have hall:mV N lines 200=some (lines.all fun s=>decide ((s.length:Int)≤200)) :=
  tZ lines (fun y=>kV N y 200) (fun s=>decide ((s.length:Int)≤200)) (fun x _=>rfl) (by omega) (by omega)
 have he:(lines.all fun s=>decide ((s.length:Int)≤200))=lines.all (fun s=>decide (s.length≤200)):=by
  congr 1;funext s
  rw[decide_eq_decide];omega
 unfold dw
 by_cases h50:lines.length≤50
 ·rw[if_neg (by simp only[decide_eq_true_eq];omega),hall,he]
  cases hA:lines.all (fun s=>decide (s.length≤200))with
  | true=>simp[h50]
  | false=>simp
 ·rw[if_pos (by simp only[decide_eq_true_eq];omega)]
  simp[h50]
def Ea (lines:List (List UInt8)):Bool:=lines.all (fun s=>decide (s.length≤200))&&decide (lines.length≤50)
theorem Ge{lines:List (List UInt8)}:Ea lines=true↔(∀s∈lines,s.length≤200)∧lines.length≤50:=by simp[Ea]
theorem HW(lines:List (List UInt8))(hl:lines.length≤55)(hN:20000≤N):Dg N lines=some (if Ea lines=true then 0 else 3):=by
 unfold Dg
 rw[ud lines hl hN,Option.bind_some]
 show(if(!Ea lines)=true then _ else _)=_
 cases Ea lines<;>rfl
end Go.Proofs.YtdodahpkpeodfaaGreatDoor
namespace Go.Proofs.YtdodahpkpeodfaaGreatDoor.F
open Go.Kp
def sm:List Int→Int
 | []=>0
 | x::xs=>x+sm xs
theorem Dm:∀(xs ys:List Int),sm (xs++ys)=sm xs+sm ys
 | [],ys=>by simp[sm]
 | x::xs,ys=>by simp[sm,Dm xs ys];omega
theorem sm_bd{B:Int}(hB:0≤B):∀(xs:List Int),(∀x∈xs,0≤x∧x≤B)→0≤sm xs∧sm xs≤B*xs.length
 | [],_=>by simp[sm]
 | x::xs,h=>by
  have h1:=h x (by simp)
  have h2:=sm_bd hB xs fun y hy=>h y (by simp[hy])
  simp only[sm,List.length_cons]
  have:B*((xs.length+1:Nat):Int)=B*xs.length+B:=by rw[Int.natCast_add,Int.mul_add];simp
  omega
theorem Gh(xs:List Int)(hn:xs.length≤500)(hb:∀x∈xs,-1000000≤x∧x≤1000000):fL 30000 xs=some (sm xs):=by
 have bd:∀(ys:List Int),(∀x∈ys,-1000000≤x∧x≤1000000)→-1000000*(ys.length:Int)≤sm ys∧sm ys≤1000000*(ys.length:Int):=by
  intro ys
  induction ys with
  | nil=>intro _;simp[sm]
  | cons y ys ih =>
   intro h
   have h1:=h y (by simp)
   have h2:=ih fun z hz=>h z (by simp[hz])
   simp only[sm,List.length_cons]
   omega
 have key:loopN (fun rec3 x=>fK 30000 xs rec3 x.1 x.2.1 x.2.2) 30000 (0,(xs.length:Int),0)=some (sm xs):=by
  have h:=Aq (ι:=Nat) (b:=fun rec3 x=>fK 30000 xs rec3 x.1 x.2.1 x.2.2) (fun i=>(sm (xs.take i),(xs.length:Int),(i:Int)))
   (fun i=>some (sm xs)) (fun i=>xs.length-i) (fun i=>i≤xs.length) ?_ 30000 0 (Nat.zero_le _) (by omega)
  ·simpa [sm]using h
  ·intro i rec hi ih
   simp only at hi ih ⊢
   unfold fK
   by_cases hlt:i<xs.length
   ·have hx:xs[i]? = some xs[i]:=by simp[hlt]
    rw[if_pos (by simpa using hlt),ij hx]
    simp only[Option.bind_some]
    have e:sm (xs.take (i+1))=sm (xs.take i)+xs[i]:=by rw[List.take_succ_eq_append_getElem hlt,Dm];simp[sm]
    have b:=bd (xs.take (i+1)) fun z hz=>hb z (List.mem_of_mem_take hz)
    have:(xs.take (i+1)).length≤500:=by simp;omega
    rw[bE (by omega) (by omega),bE (by omega) (by omega)]
    have:=ih (i+1) (by omega) (by omega)
    rw[e]at this
    rw[show((i:Int)+1)=((i+1:Nat):Int) by omega,this]
   ·have:i=xs.length:=by omega
    subst this
    rw[if_neg (by simp),List.take_length]
 unfold fL
 rw[key]
 rfl
def bon (l:Ref01Law)(s:S)(n:Int):Nat:=if s.f≠l.fFrames-1∧s.p=n then(if s.h=0 then 2 else if s.h=1 then 1 else 0)else 0
structure A where
 s:S
 cs:List Int
 E:List (Nat×Nat)
 tr:List Ref01Ball
 tot:Int
def BK (l:Ref01Law)(A0:A)(b:Int):A :=
 ⟨nxt l A0.s b,A0.cs++[cnt l A0.s b],A0.E++(if A0.s.f<(nxt l A0.s b).f then [(A0.cs.length+1,bon l A0.s (cnt l A0.s b))] else []),A0.tr++[⟨A0.s.f,cnt l A0.s b⟩],A0.tot+wor l A0.s b⟩
def Hc (l:Ref01Law):A:=⟨s0 l,[],[],[],0⟩
def acc (l:Ref01Law)(bs:List Int):A:=bs.foldl (BK l) (Hc l)
theorem H2(l:Ref01Law)(bs:List Int)(b:Int):acc l (bs++[b])=BK l (acc l bs) b:=by simp[acc]
theorem GJ(l:Ref01Law):∀(bs:List Int) (A0:A),(bs.foldl (BK l) A0).s=run l A0.s bs
 | [],_=>rfl
 | b::bs,A0=>GJ l bs (BK l A0 b)
theorem FB(l:Ref01Law):∀(bs:List Int) (A0:A),(bs.foldl (BK l) A0).tr=A0.tr++DF l A0.s bs
 | [],A0=>by simp[DF]
 | b::bs,A0=>by
  show((bs.foldl (BK l) (BK l A0 b))).tr=_
  rw[FB l bs (BK l A0 b)]
  simp[BK,DF]
theorem acc_s(l:Ref01Law)(bs:List Int):(acc l bs).s=run l (s0 l) bs:=GJ l bs (Hc l)
theorem IT(l:Ref01Law)(bs:List Int):(acc l bs).tr=DF l (s0 l) bs:=by rw[acc,FB];simp[Hc]
def EV (cs:List Int)(p:Nat×Nat):Int:=sm ((cs.take (p.1+p.2)).drop p.1)
def C2 (E:List (Nat×Nat)):Nat:=match E.getLast? with | some p=>p.1 | none=>0
def upd (k:Int)(i:Nat)(a:Int×Int×Int)(x:Ref01Ball):Int×Int×Int:=if x.fFrame=k then(a.1+x.fCount,a.2.1+1,(i:Int))else a
def Dc (k:Int):Nat→Int×Int×Int→List Ref01Ball→Int×Int×Int
 | _,a,[]=>a
 | i,a,x::xs=>Dc k (i+1) (upd k i a x) xs
theorem D1(k:Int):∀(xs:List Ref01Ball) (i:Nat) (a:Int×Int×Int) (x:Ref01Ball),Dc k i a (xs++[x])=upd k (i+xs.length) (Dc k i a xs) x
 | [],i,a,x=>by simp[Dc]
 | y::ys,i,a,x=>by
  show Dc k (i+1) (upd k i a y) (ys++[x])=_
  rw[D1 k ys]
  simp only[Dc,List.length_cons]
  congr 1
  omega
def more (l:Ref01Law)(k:Int)(own balls:Int):Int:=if k<l.fFrames-1∧own=l.fPins∧balls=2 then 1 else if k<l.fFrames-1∧own=l.fPins∧balls=1 then 2 else 0
def Ar (E:List (Nat×Nat))(k:Nat):Nat:=C2 (E.take k)
structure AInv(l:Ref01Law)(a:A):Prop where
 inv:Inv l a.s
 fE:(a.E.length:Int)=a.s.f
 bd:∀x∈a.cs,0≤x∧x≤10
 ent:∀p∈a.E,1≤p.1∧p.1≤a.cs.length∧p.2≤2
 one:a.s.a=(a.E.countP fun p=>decide (a.cs.length<p.1+p.2):Nat)
 two:a.s.c=(a.E.countP fun p=>decide (a.cs.length+1<p.1+p.2):Nat)
 tot:a.tot=sm a.cs+sm (a.E.map (EV a.cs))
 len:(a.cs.length:Int)=C2 a.E+a.s.h
 own:a.s.f<l.fFrames-1→sm (a.cs.drop (C2 a.E))=l.fPins-a.s.p
 trl:a.tr.length=a.cs.length
 trc:a.tr.map (·.fCount)=a.cs
 trf:∀x∈a.tr,0≤x.fFrame∧x.fFrame≤a.s.f
 sc:∀(k:Nat) p,a.E[k]? = some p→∃own balls,Dc k 0 (0,0,0) a.tr=(own,balls,(p.1:Int)-1)∧own=sm ((a.cs.take p.1).drop (Ar a.E k))∧more l k own balls=p.2∧Ar a.E k<p.1∧1≤balls∧balls≤3
 so:Dc a.E.length 0 (0,0,0) a.tr=(sm (a.cs.drop (C2 a.E)),a.s.h,if a.s.h=0 then 0 else(a.cs.length:Int)-1)
 sz:∀k:Int,a.s.f<k→Dc k 0 (0,0,0) a.tr=(0,0,0)
 l1:a.s.f=l.fFrames-1→1≤a.s.h→a.s.c=0
 l2:a.s.f=l.fFrames-1→2≤a.s.h→a.s.a=0
 l3:a.s.f=l.fFrames→a.s.a=0∧a.s.c=0
theorem Jg{l:Ref01Law}(hV:V l):AInv l (Hc l):=by
 have:=hV.f1
 refine⟨inv0 hV,?_,?_,?_,?_,?_,?_,?_,?_,?_,?_,?_,?_,?_,?_,?_,?_,?_⟩<;>simp[Hc,s0,sm,C2,Dc]
theorem Hd{cs:List Int}{p:Nat×Nat}(h:p.1≤cs.length)(c:Int):EV (cs++[c]) p=EV cs p+if cs.length<p.1+p.2 then c else 0:=by
 unfold EV
 by_cases h2:cs.length<p.1+p.2
 ·rw[if_pos h2,List.take_of_length_le (by simp;omega),List.take_of_length_le (by omega),List.drop_append_of_le_length h,Dm]
  simp[sm]
 ·rw[if_neg h2,List.take_append_of_le_length (by omega)]
  omega
theorem EL(cs:List Int)(c:Int):∀(E:List (Nat×Nat)),(∀p∈E,p.1≤cs.length)→sm (E.map (EV (cs++[c])))=sm (E.map (EV cs))+c*(E.countP fun p=>decide (cs.length<p.1+p.2):Nat)
 | [],_=>by simp[sm]
 | p::E,h=>by
  have ih:=EL cs c E fun q hq=>h q (by simp[hq])
  simp only[List.map_cons,sm,ih,Hd (h p (by simp))]
  by_cases h2:cs.length<p.1+p.2
  ·rw[List.countP_cons_of_pos (by simpa using h2),if_pos h2,Int.natCast_add,Int.mul_add]
   simp;omega
  ·rw[List.countP_cons_of_neg (by simpa using h2),if_neg h2]
   omega
theorem DM(E:List (Nat×Nat))(p:Nat×Nat):C2 (E++[p])=p.1:=by simp[C2]
theorem FC{cs:List Int}:∀{E:List (Nat×Nat)},(∀p∈E,1≤p.1∧p.1≤cs.length∧p.2≤2)→C2 E≤cs.length:=by
 intro E h
 unfold C2
 split
 ·rename_i p hp;exact(h p (List.mem_of_getLast? hp)).2.1
 ·omega
theorem FD{α:Type}{p:α→Bool}{l:List α}(h:∀x∈l,p x=false):l.countP p=0:=by
 rw[List.countP_eq_zero]
 intro x hx;simp[h x hx]
theorem Fm{l:Ref01Law}{s:S}(hV:V l)(hi:Inv l s)(hf:s.f<l.fFrames){n:Int}(h0:0≤n)(h1:n≤s.p) :
  (s.f<(CC l s n).f→(CC l s n).f=s.f+1∧(CC l s n).h=0∧(CC l s n).p=l.fPins) ∧
  (¬s.f<(CC l s n).f→(CC l s n).f=s.f∧(CC l s n).h=s.h+1∧(s.f<l.fFrames-1→(CC l s n).p=s.p-n∧s.p≠n)∧s.h+1<(CC l s n).nd) ∧
  (s.f<(CC l s n).f→s.f<l.fFrames-1→s.p=n∨(s.p≠n∧s.h+1=s.nd)):=by
 obtain⟨f0,f1,h0',hn,nd,p0,p1,fr,h00,hfr,a0,a2,c0,c1,dn⟩:=hi
 obtain⟨v1,v2,v3,v4,v5,v6,v7,v8⟩:=hV
 unfold CC
 split
 ·split
  ·simp;omega
  ·split
   ·simp;omega
   ·simp;omega
 ·split
  ·simp;omega
  ·split
   ·simp;omega
   ·simp;omega
end Go.Proofs.YtdodahpkpeodfaaGreatDoor.F
namespace Go.Proofs.YtdodahpkpeodfaaGreatDoor.F
open Go.Kp
theorem He{l:Ref01Law}{s:S}{n:Int}(hf:s.f=l.fFrames-1)(hc:s.f<(CC l s n).f):s.h+1=s.nd:=by
 unfold CC at hc
 rw[if_pos hf]at hc
 split at hc
 ·simp at hc
 ·split at hc
  ·assumption
  ·simp at hc
theorem DG{α:Type}{l:List α}{k:Nat}(h:k≤l.length)(x:α):(l++[x]).drop k=l.drop k++[x]:=List.drop_append_of_le_length h
theorem upd_ne{k:Int}{i:Nat}{a:Int×Int×Int}{x:Ref01Ball}(h:x.fFrame≠k):upd k i a x=a:=by simp[upd,h]
theorem H3{k:Int}{i:Nat}{a:Int×Int×Int}{x:Ref01Ball}(h:x.fFrame=k):upd k i a x=(a.1+x.fCount,a.2.1+1,(i:Int)):=by simp[upd,h]
theorem Hf{l:Ref01Law}(hV:V l){a:A}(hi:AInv l a){b:Int}(hm:may l a.s b):AInv l (BK l a b):=by
 have hf:=hm.1
 have hc:=DS hV hi.inv hm.2.2
 have hin:=D0 hV hi.inv hf hm.2.2
 obtain⟨hF1,hF2,hF3⟩:=Fm hV hi.inv hf hc.1 hc.2
 have hh:a.s.h=0∨a.s.h=1∨a.s.h=2:=by have:=hi.inv.h0;have:=hi.inv.hn;have:=hi.inv.nd;have:=hV.b2;omega
 have hac:=Is (l:=l) (s:=a.s) (n:=cnt l a.s b) hh
 have hla:=@He l a.s (cnt l a.s b)
 have hp1:=hi.inv.p1
 have hv4:=hV.p2
 have hv5:=hV.b1
 have hh0:=hi.inv.h0
 have hnd:=hi.inv.nd
 have hle:=FC hi.ent
 unfold BK wor
 unfold nxt at hin ⊢
 generalize hn:cnt l a.s b=n at *
 clear hn
 obtain⟨inv,fE,bd,ent,one,two,tot,len,own,trl,trc,trf,sc,so,sz,l1,l2,l3⟩:=hi
 have e1:(a.E.countP fun p=>decide (a.cs.length+1+1<p.1+p.2))=0:=FD fun p hp=>by
  have:=ent p hp
  simp;omega
 have ebs:=EL a.cs n a.E fun p hp=>(ent p hp).2.1
 have scan_ne:∀(k:Int),k≠a.s.f→Dc k 0 (0,0,0) (a.tr++[⟨a.s.f,n⟩])=Dc k 0 (0,0,0) a.tr:=fun k hk=>by
  rw[D1];exact upd_ne (Ne.symm hk)
 have scan_f:Dc a.E.length 0 (0,0,0) (a.tr++[⟨a.s.f,n⟩])=(sm (a.cs.drop (C2 a.E))+n,a.s.h+1,(a.cs.length:Int)):=by
  rw[D1,so,H3 fE.symm,trl]
  simp
 by_cases hcl:a.s.f<(CC l a.s n).f
 ·obtain⟨q1,q2,q3⟩:=hF1 hcl
  simp only[if_pos hcl]
  refine⟨hin,?_,?_,?_,?_,?_,?_,?_,?_,?_,?_,?_,?_,?_,?_,?_,?_,?_⟩
  ·simp only[List.length_append,List.length_singleton];omega
  ·intro x hx
   rcases List.mem_append.1 hx with hx | hx
   ·exact bd x hx
   ·simp at hx;subst hx;omega
  ·intro p hp
   rcases List.mem_append.1 hp with hp | hp
   ·have:=ent p hp;simp;omega
   ·simp at hp;subst hp
    have:bon l a.s n≤2:=by unfold bon;split<;>(try split)<;>(try split)<;>omega
    simp;omega
  ·simp only[List.length_append,List.length_singleton,List.countP_append,List.countP_singleton,hac.1,two]
   unfold bon
   by_cases h1:a.s.f≠l.fFrames-1∧a.s.p=n
   ·rcases hh with h | h | h<;>simp[h1,h]<;>(try (rw[if_neg (by omega)];rfl))
   ·have:¬(a.s.f≠l.fFrames-1∧a.s.p=n∧a.s.h+1≤2):=fun x=>h1 ⟨x.1,x.2.1⟩
    rw[if_neg h1,if_neg this]
    all_goals (simp;try (rw[if_neg (by omega)];rfl))
  ·simp only[List.length_append,List.length_singleton,List.countP_append,List.countP_singleton,hac.2,e1]
   unfold bon
   by_cases h1:a.s.f≠l.fFrames-1∧a.s.p=n
   ·rcases hh with h | h | h<;>simp[h1,h]<;>(try (rw[if_neg (by omega)];rfl))
   ·have:¬(a.s.f≠l.fFrames-1∧a.s.p=n∧a.s.h+1=1):=fun x=>h1 ⟨x.1,x.2.1⟩
    rw[if_neg h1,if_neg this]
    all_goals (simp;try (rw[if_neg (by omega)];rfl))
  ·have e2:EV (a.cs++[n]) (a.cs.length+1,bon l a.s n)=0:=by
    unfold EV
    rw[List.drop_eq_nil_of_le (by simp)];rfl
   simp only[List.map_append,List.map_cons,List.map_nil,Dm,ebs,tot,sm,e2,one,Int.mul_add]
   omega
  ·simp only[List.length_append,List.length_singleton,DM,q2];omega
  ·intro _
   simp only[DM,q3]
   rw[List.drop_eq_nil_of_le (by simp)]
   simp[sm]
  ·simp[trl]
  ·simp[trc]
  ·intro x hx
   rcases List.mem_append.1 hx with hx | hx
   ·have:=trf x hx;simp only;omega
   ·simp at hx;subst hx;have:=inv.f0;simp only;omega
  ·intro k p hp
   by_cases hk:k<a.E.length
   ·rw[List.getElem?_append_left hk]at hp
    obtain⟨ow,ba,r1,r2,r3,r4,r5⟩:=sc k p hp
    have hpm:=ent p (List.mem_of_getElem? hp)
    have hst:Ar (a.E++[(a.cs.length+1,bon l a.s n)]) k=Ar a.E k:=by
     unfold Ar;rw[List.take_append_of_le_length (by omega)]
    refine⟨ow,ba,?_,?_,r3,?_,r5⟩
    ·simp only;rw[scan_ne _ (by omega)];exact r1
    ·simp only[hst];rw[List.take_append_of_le_length hpm.2.1];exact r2
    ·rw[hst];exact r4
   ·have hk2:k=a.E.length:=by
     have:=(List.getElem?_eq_some_iff.1 hp).1
     simp at this;omega
    subst hk2
    rw[List.getElem?_append_right (Nat.le_refl _)]at hp
    simp at hp
    subst hp
    have hst:Ar (a.E++[(a.cs.length+1,bon l a.s n)]) a.E.length=C2 a.E:=by
     unfold Ar;rw[List.take_append_of_le_length (Nat.le_refl _),List.take_length]
    refine⟨sm (a.cs.drop (C2 a.E))+n,a.s.h+1,?_,?_,?_,?_,?_⟩
    ·simp only[scan_f];congr 2;omega
    ·simp only[hst]
     rw[List.take_of_length_le (by simp),DG hle,Dm];simp[sm]
    ·unfold more bon
     rw[fE]
     by_cases hlt:a.s.f<l.fFrames-1
     ·have ho:=own hlt
      have hne:a.s.f≠l.fFrames-1:=by omega
      rw[ho]
      by_cases hpn:a.s.p=n
      ·rcases hh with h | h | h<;>simp[hlt,hpn,h,hne]<;>omega
      ·have:¬(l.fPins-a.s.p+n=l.fPins):=by omega
       simp[hpn,this]
     ·have hne:a.s.f=l.fFrames-1:=by omega
      simp[hne]
    ·rw[hst];simp only;omega
    ·rcases hh with h | h | h<;>omega
  ·have h1:=sz (a.s.f+1) (by omega)
   simp only[List.length_append,List.length_singleton,DM,q2]
   rw[show((a.E.length+1:Nat):Int)=a.s.f+1 by omega,scan_ne _ (by omega),h1,List.drop_eq_nil_of_le (by simp)]
   simp[sm]
  ·intro k hk
   simp only at hk ⊢
   rw[scan_ne _ (by omega)]
   exact sz k (by omega)
  ·intro h1 h2;simp only at h2;omega
  ·intro h1 h2;simp only at h2;omega
  ·intro h1
   simp only at h1 ⊢
   have hl:a.s.f=l.fFrames-1:=by omega
   have:=hla hl hcl
   have hc0:=l1 hl (by omega)
   rw[hac.1,hac.2,hc0]
   simp[hl]
 ·obtain⟨q1,q2,q3,q4⟩:=hF2 hcl
  simp only[if_neg hcl,List.append_nil]
  have hz:¬(a.s.f≠l.fFrames-1∧a.s.p=n):=fun⟨x,y⟩=>(q3 (by have:=inv.f1;omega)).2 y
  have hz1:¬(a.s.f≠l.fFrames-1∧a.s.p=n∧a.s.h+1≤2):=fun x=>hz ⟨x.1,x.2.1⟩
  have hz2:¬(a.s.f≠l.fFrames-1∧a.s.p=n∧a.s.h+1=1):=fun x=>hz ⟨x.1,x.2.1⟩
  rw[if_neg hz1]at hac
  rw[if_neg hz2]at hac
  refine⟨hin,?_,?_,?_,?_,?_,?_,?_,?_,?_,?_,?_,?_,?_,?_,?_,?_,?_⟩
  ·simp only;omega
  ·intro x hx
   rcases List.mem_append.1 hx with hx | hx
   ·exact bd x hx
   ·simp at hx;subst hx;omega
  ·intro p hp
   have:=ent p hp;simp;omega
  ·simp only[List.length_append,List.length_singleton,hac.1,two];simp
  ·simp only[List.length_append,List.length_singleton,hac.2,e1];simp
  ·simp only[Dm,ebs,tot,sm,one,Int.mul_add]
   omega
  ·simp only[List.length_append,List.length_singleton,q2];omega
  ·intro h1
   simp only at h1 ⊢
   rw[DG hle,Dm,own (by omega),(q3 (by omega)).1]
   simp[sm];omega
  ·simp[trl]
  ·simp[trc]
  ·intro x hx
   rcases List.mem_append.1 hx with hx | hx
   ·have:=trf x hx;simp only;omega
   ·simp at hx;subst hx;have:=inv.f0;simp only;omega
  ·intro k p hp
   simp only at hp
   have hk:=(List.getElem?_eq_some_iff.1 hp).1
   obtain⟨ow,ba,r1,r2,r3,r4,r5⟩:=sc k p hp
   have hpm:=ent p (List.mem_of_getElem? hp)
   refine⟨ow,ba,?_,?_,r3,r4,r5⟩
   ·simp only;rw[scan_ne _ (by omega)];exact r1
   ·simp only;rw[List.take_append_of_le_length hpm.2.1];exact r2
  ·simp only[scan_f,q2]
   rw[DG hle,Dm,if_neg (by omega)]
   simp[sm]
  ·intro k hk
   simp only at hk ⊢
   rw[scan_ne _ (by omega)]
   exact sz k (by omega)
  ·intro h1 h2;simp only at h1 h2 ⊢;exact hac.2
  ·intro h1 h2
   simp only at h1 h2 ⊢
   rw[hac.1,l1 (by omega) (by omega)];rfl
  ·intro h1
   simp only at h1
   omega
theorem E6{l:Ref01Law}(hV:V l):∀(bs:List Int) {a:A},AInv l a→Ok l a.s bs→AInv l (bs.foldl (BK l) a)
 | [],_,hi,_=>hi
 | b::bs,a,hi,hk=>E6 hV bs (a:=BK l a b) (Hf hV hi hk.1) hk.2
theorem ainv{l:Ref01Law}(hV:V l){bs:List Int}(hk:Ok l (s0 l) bs):AInv l (acc l bs):=E6 hV bs (Jg hV) hk
end Go.Proofs.YtdodahpkpeodfaaGreatDoor.F
namespace Go.Proofs.YtdodahpkpeodfaaGreatDoor.F
open Go.Kp
theorem Eb{l:Ref01Law}{s:S}{sheet:List Int}(hk:Ok l s sheet)(i:Nat):Ok l s (sheet.take i):=by
 have:=(ok_app l s (sheet.take i) (sheet.drop i)).1 (by rw[List.take_append_drop];exact hk)
 exact this.1
theorem IU{l:Ref01Law}{sheet:List Int}(hk:Ok l (s0 l) sheet){i:Nat}(hi:i<sheet.length) :
  ∃x,sheet[i]? = some x∧may l (acc l (sheet.take i)).s x∧acc l (sheet.take (i+1))=BK l (acc l (sheet.take i)) x:=by
 refine⟨sheet[i],by simp[hi],?_,?_⟩
 ·have h:=(ok_app l (s0 l) (sheet.take i) (sheet.drop i)).1 (by rw[List.take_append_drop];exact hk)
  rw[acc_s]
  have h2:=h.2
  rw[List.drop_eq_getElem_cons hi]at h2
  exact h2.1
 ·rw[List.take_succ_eq_append_getElem hi,H2]
theorem acc_len(l:Ref01Law)(bs:List Int):(acc l bs).cs.length=bs.length:=by
 have:∀(bs:List Int) (a:A),(bs.foldl (BK l) a).cs.length=a.cs.length+bs.length:=by
  intro bs
  induction bs with
  | nil=>intro a;rfl
  | cons b bs ih=>intro a;rw[List.foldl_cons,ih];simp[BK];omega
 rw[acc,this];simp[Hc]
theorem Iv{l:Ref01Law}{s:S}:cT 30000 (s.play l)=some (decide (s.f=l.fFrames)):=rfl
section
variable {l:Ref01Law}(hV:V l){sheet:List Int}(hk:Ok l (s0 l) sheet)(hn:sheet.length≤90)
include hV hk hn
theorem BB:dg 30000 (fl l) sheet=some ((acc l sheet).s.play l):=by
 have key:loopN (fun rec3 x=>cd 30000 sheet rec3 x.1 x.2.1 x.2.2.1 x.2.2.2) 30000 ((sheet.length:Int),0,(s0 l).play l,(s0 l).play l)=some ((acc l sheet).s.play l):=by
  have h:=Aq (ι:=Nat) (b:=fun rec3 x=>cd 30000 sheet rec3 x.1 x.2.1 x.2.2.1 x.2.2.2)
   (fun i=>((sheet.length:Int),(i:Int),(acc l (sheet.take i)).s.play l,(acc l (sheet.take i)).s.play l))
   (fun i=>some ((acc l sheet).s.play l)) (fun i=>sheet.length-i) (fun i=>i≤sheet.length) ?_ 30000 0 (Nat.zero_le _) (by omega)
  ·exact h
  ·intro i rec hi ih
   simp only at hi ih ⊢
   unfold cd
   by_cases hlt:i<sheet.length
   ·obtain⟨x,hx,hm,ha⟩:=IU hk hlt
    have hI:=(ainv hV (Eb hk i)).inv
    rw[if_pos (by simpa using hlt),ij hx]
    simp only[Option.bind_some,Al hI,hm,decide_true,Bool.not_true,Bool.false_eq_true,if_false]
    rw[B9 hV hI hm.1 hm.2.2]
    simp only[Option.bind_some]
    rw[bE (by omega) (by omega)]
    have:=ih (i+1) (by omega) (by omega)
    rw[ha]at this
    rw[show((i:Int)+1)=((i+1:Nat):Int) by omega]
    exact this
   ·have:i=sheet.length:=by omega
    subst this
    rw[if_neg (by simp),List.take_length]
 unfold dg cS bL
 simp only[Option.bind_some]
 have e:(FramePlay.mk (fl l) (FrameAt.mk 0 0 (fl l).fPins true (fl l).fBalls (Ar2.mk 0 0)))=(s0 l).play l:=rfl
 rw[e,key]
 rfl
end
def cts (cs:List Int):Nat→Int→List (Nat×Nat)→List Int
 | _,_,[]=>[]
 | fr,up,p::E=>if cs.length<p.1+p.2 then [] else(up+sm ((cs.take (p.1+p.2)).drop fr))::cts cs p.1 (up+sm ((cs.take (p.1+p.2)).drop fr)) E
def ctsA (a:A):List Int:=cts a.cs 0 0 a.E
def Bg (o:List Int):Int:=match o.getLast? with | some x=>x | none=>0
theorem Gi{α:Type}{L:List α}{i:Nat}{x:α}(h:i<L.length):idx (L.set i x) (i:Int)=some x:=ij (by simp[h])
theorem rX{α:Type}{L:List α}{a b:Nat}(h1:a≤b)(h2:b≤L.length):slc L (a:Int) (b:Int)=some ((L.take b).drop a):=by
 unfold slc
 rw[if_pos ⟨by omega,by omega,by omega⟩]
 simp
theorem DT{E:List (Nat×Nat)}{k:Nat}{p:Nat×Nat}(h:E[k]? = some p):Ar E (k+1)=p.1:=by
 have hk:=(List.getElem?_eq_some_iff.1 h).1
 have hx:=(List.getElem?_eq_some_iff.1 h).2
 unfold Ar
 rw[List.take_succ_eq_append_getElem hk,DM,hx]
theorem DU(E:List (Nat×Nat)):Ar E 0=0:=by simp[Ar,C2]
theorem Fo{l:Ref01Law}{a:A}(hi:AInv l a)(hn:a.cs.length≤90)(x y:Nat):0≤sm ((a.cs.take x).drop y)∧sm ((a.cs.take x).drop y)≤900:=by
 have h:=sm_bd (B:=10) (by omega) ((a.cs.take x).drop y) fun z hz=>hi.bd z (List.mem_of_mem_take (List.mem_of_mem_drop hz))
 have:((a.cs.take x).drop y).length≤90:=by simp;omega
 omega
theorem H4{l:Ref01Law}{a:A}(hi:AInv l a)(hn:a.cs.length≤90)(hE:a.E.length≤10) :
  loopN (fun rec5 x=>cb 30000 a.cs (a.E.map fun p=>(p.1:Int)) (a.E.map fun p=>(p.2:Int)) rec5 x.1 x.2.1 x.2.2.1 x.2.2.2) 30000 (0,((a.E.map fun p=>(p.1:Int)).length:Int),0,[])=some (ctsA a):=by
 have h:=Aq (ι:=Nat×List Int) (b:=fun rec5 x=>cb 30000 a.cs (a.E.map fun p=>(p.1:Int)) (a.E.map fun p=>(p.2:Int)) rec5 x.1 x.2.1 x.2.2.1 x.2.2.2)
  (fun i=>((Ar a.E i.1:Int),((a.E.map fun p=>(p.1:Int)).length:Int),(i.1:Int),i.2))
  (fun i=>some (i.2++cts a.cs (Ar a.E i.1) (Bg i.2) (a.E.drop i.1))) (fun i=>a.E.length-i.1)
  (fun i=>i.1≤a.E.length∧i.2.length=i.1∧0≤Bg i.2∧Bg i.2≤900*i.1) ?_ 30000 (0,[]) ⟨Nat.zero_le _,rfl,by simp[Bg],by simp[Bg]⟩ (by simp;omega)
 ·simpa [DU,Bg,ctsA]using h
 ·rintro⟨k,o⟩ rec ⟨h1,h2,h3,h4⟩ ih
  simp only at h1 h2 h3 h4 ih ⊢
  unfold cb
  by_cases hlt:k<a.E.length
  ·have hp:a.E[k]? = some a.E[k]:=by simp[hlt]
   generalize hpp:a.E[k]=pp at hp
   obtain⟨p1,p2⟩:=pp
   have hent:=hi.ent _ (List.mem_of_getElem? hp)
   simp only at hent
   obtain⟨_,_,_,_,_,hst,_⟩:=hi.sc k _ hp
   simp only at hst
   rw[if_pos (by simpa using hlt),ij (l:=a.E.map fun p=>(p.1:Int)) (x:=(p1:Int)) (by simp[hp]),ij (l:=a.E.map fun p=>(p.2:Int)) (x:=(p2:Int)) (by simp[hp])]
   simp only[Option.bind_some]
   rw[bE (by omega) (by omega),List.drop_eq_getElem_cons hlt,hpp]
   unfold cts
   simp only
   by_cases hset:a.cs.length<p1+p2
   ·rw[if_pos (by simp;omega),if_pos hset];simp
   ·rw[if_neg (by simp;omega),if_neg hset]
    rw[show((p1:Int)+(p2:Int))=((p1+p2:Nat):Int) by omega,rX (by omega) (by omega)]
    simp only[Option.bind_some]
    have hs:=Fo hi hn (p1+p2) (Ar a.E k)
    rw[Gh _ (by simp;omega) (fun z hz=>by have:=hi.bd z (List.mem_of_mem_take (List.mem_of_mem_drop hz));omega)]
    simp only[Option.bind_some]
    generalize hv:sm ((a.cs.take (p1+p2)).drop (Ar a.E k))=v at hs ⊢
    have e:(Option.bind (if decide (0<(k:Int))=true then(idx o (w64 ((k:Int)-1))).bind fun x400=>(fL 30000 [v,x400]).bind fun r188=>some r188 else some v) fun v100=>some v100)=some (Bg o+v):=by
     by_cases hk0:k=0
     ·subst hk0
      have:o=[]:=List.length_eq_zero_iff.1 h2
      subst this
      simp[Bg]
     ·have hlo:o[k-1]? = some (Bg o):=by
       unfold Bg
       rw[List.getLast?_eq_getElem?,h2]
       cases hq:o[k-1]? with
       | some z=>rfl
       | none=>rw[List.getElem?_eq_none_iff]at hq;omega
      rw[if_pos (by simp;omega),bE (by omega) (by omega),show((k:Int)-1)=((k-1:Nat):Int) by omega,ij hlo]
      simp only[Option.bind_some]
      rw[Gh _ (by simp) (by intro y hy;simp at hy;rcases hy with rfl | rfl<;>omega)]
      simp[sm];omega
    obtain⟨v100,q1,q2⟩:=obind e
    cases q2
    rw[q1]
    simp only[Option.bind_some]
    rw[nL (by simp;omega)]
    simp only[Option.bind_some]
    rw[bE (by omega) (by omega)]
    have hlast:Bg (o++[Bg o+v])=Bg o+v:=by simp[Bg]
    have:=ih (k+1,o++[Bg o+v]) ⟨by simp only;omega,by simp[h2],by simp only[hlast];omega,by simp only[hlast];omega⟩ (by simp only;omega)
    simp only[DT hp,hlast]at this
    rw[show((k:Int)+1)=((k+1:Nat):Int) by omega,this]
    simp
  ·have:k=a.E.length:=by omega
   subst this
   rw[if_neg (by simp),List.drop_length]
   unfold eB cts
   simp
end Go.Proofs.YtdodahpkpeodfaaGreatDoor.F
namespace Go.Proofs.YtdodahpkpeodfaaGreatDoor.F
open Go.Kp
def D3 (a:A):List Int:=a.E.map fun p=>(p.1:Int)
def Cw (a:A):List Int:=a.E.map fun p=>(p.2:Int)
structure FrL(l:Ref01Law)(s:S)(L:List Int):Prop where
 len:L.length=l.fFrames.toNat
 cur:s.f<l.fFrames→L[s.f.toNat]? = some s.h
 new:∀j:Nat,s.f<j→(j:Int)<l.fFrames→L[j]? = some 0
theorem H5{l:Ref01Law}(hV:V l){sheet:List Int}(hk:Ok l (s0 l) sheet)(hn:sheet.length≤90) :
  loopN (fun rec3 x=>ca 30000 (fl l) sheet rec3 x.1 x.2.1 x.2.2.1 x.2.2.2.1 x.2.2.2.2.1 x.2.2.2.2.2.1 x.2.2.2.2.2.2) 30000 ((sheet.length:Int),0,(s0 l).play l,[],[],[],List.replicate l.fFrames.toNat 0) =
   some ((acc l sheet).cs,D3 (acc l sheet),Cw (acc l sheet)):=by
 have h:=Aq (ι:=Nat×List Int) (b:=fun rec3 x=>ca 30000 (fl l) sheet rec3 x.1 x.2.1 x.2.2.1 x.2.2.2.1 x.2.2.2.2.1 x.2.2.2.2.2.1 x.2.2.2.2.2.2)
  (fun i=>((sheet.length:Int),(i.1:Int),(acc l (sheet.take i.1)).s.play l,(acc l (sheet.take i.1)).cs,D3 (acc l (sheet.take i.1)),Cw (acc l (sheet.take i.1)),i.2))
  (fun i=>some ((acc l sheet).cs,D3 (acc l sheet),Cw (acc l sheet))) (fun i=>sheet.length-i.1) (fun i=>i.1≤sheet.length∧FrL l (acc l (sheet.take i.1)).s i.2) ?_ 30000
  (0,List.replicate l.fFrames.toNat 0) ⟨Nat.zero_le _,?_⟩ (by simp;omega)
 ·exact h
 ·rintro⟨i,L⟩ rec ⟨h1,hL⟩ ih
  simp only at h1 hL ih ⊢
  unfold ca
  by_cases hlt:i<sheet.length
  ·obtain⟨x,hx,hm,ha⟩:=IU hk hlt
   have hA:=ainv hV (Eb hk i)
   have hi:=hA.inv
   have hc:=DS hV hi hm.2.2
   have hcl:(acc l (sheet.take i)).cs.length=i:=by rw[acc_len];simp;omega
   have ih1:=fun L'=>ih (i+1,L')
   simp only[ha]at ih1
   obtain⟨hF1,hF2,hF3⟩:=Fm hV hi hm.1 hc.1 hc.2
   rw[if_pos (by simpa using hlt),ij hx]
   simp only[Option.bind_some,Al hi,hm,decide_true,Bool.not_true,Bool.false_eq_true,if_false]
   rw[B9 hV hi hm.1 hm.2.2]
   simp only[Option.bind_some]
   generalize acc l (sheet.take i)=a at *
   have ep:(a.s.play l).fAt.fFrame=(a.E.length:Int):=hA.fE.symm
   have ep2:((nxt l a.s x).play l).fAt.fFrame=(nxt l a.s x).f:=rfl
   have ep3:(fl l).fFrames=l.fFrames:=rfl
   have ep4:(fl l).fPins=l.fPins:=rfl
   have hfE:=hA.fE
   have hlen:=hA.len
   have hh0:=hi.h0
   have hh:a.s.h=0∨a.s.h=1∨a.s.h=2:=by have:=hi.h0;have:=hi.hn;have:=hi.nd;have:=hV.b2;omega
   have hv1:=hV.f1
   have hv2:=hV.f2
   have hle:=FC hA.ent
   have hLl:a.E.length<L.length:=by rw[hL.len];have:=hm.1;omega
   have hcur:L[a.E.length]? = some a.s.h:=by
    have:=hL.cur hm.1
    rwa[show a.s.f.toNat=a.E.length by omega]at this
   simp only[ep,ep2,ep3,ep4]
   rw[nL (by simp;omega),ij hcur]
   simp only[Option.bind_some]
   rw[bE (n:=(i:Int)+1) (by omega) (by omega),bE (n:=a.s.h+1) (by omega) (by omega),bE (n:=l.fFrames-1) (by omega) (by omega)]
   have hset:idx (L.set (Int.toNat (a.E.length:Int)) (a.s.h+1)) (a.E.length:Int)=some (a.s.h+1):=by
    rw[Int.toNat_natCast];exact Gi hLl
   have hEl:a.E.length≤10:=by have:=hi.f1;omega
   by_cases hcl2:(a.E.length:Int)<(nxt l a.s x).f
   ·have hcl3:a.s.f<(CC l a.s (cnt l a.s x)).f:=by unfold nxt at hcl2;omega
    obtain⟨q1,q2,q3⟩:=hF1 hcl3
    rw[if_pos (by simpa using hcl2),nL (by simp[D3];omega),nL (by simp[Cw];omega),hset]
    simp only[Option.bind_some]
    rw[bE (n:=(i:Int)+1-(a.s.h+1)) (by omega) (by omega)]
    rw[show((i:Int)+1-(a.s.h+1))=((C2 a.E:Nat):Int) by omega,rX (by simp;omega) (Nat.le_refl _),List.take_length,DG hle]
    simp only[Option.bind_some]
    have hbd:∀z∈a.cs.drop (C2 a.E)++[cnt l a.s x],-1000000≤z∧z≤1000000:=by
     intro z hz
     rcases List.mem_append.1 hz with hz | hz
     ·have:=hA.bd z (List.mem_of_mem_drop hz);omega
     ·simp at hz;subst hz;have:=hi.p1;have:=hV.p2;omega
    rw[Gh _ (by simp;omega) hbd,Dm]
    simp only[Option.bind_some]
    have e:(Option.bind (if decide ((a.E.length:Int)<l.fFrames-1)=true then if decide (sm (a.cs.drop (C2 a.E))+sm [cnt l a.s x]=l.fPins)=true then some (decide (a.s.h+1<3),L.set (Int.toNat (a.E.length:Int)) (a.s.h+1))else some (false,L.set (Int.toNat (a.E.length:Int)) (a.s.h+1))else some (false,L.set (Int.toNat (a.E.length:Int)) (a.s.h+1))) fun(v66,l565) =>
      if v66=true then Option.bind (idx l565 (a.E.length:Int)) fun x311=>Option.bind (idx (Cw a++[0]) (a.E.length:Int)) fun x312=>some (a.cs++[cnt l a.s x],D3 a++[(i:Int)+1],List.set (Cw a++[0]) (Int.toNat (a.E.length:Int)) (w64 (3-x311)),l565)
      else some (a.cs++[cnt l a.s x],D3 a++[(i:Int)+1],Cw a++[0],l565)) =
      some (a.cs++[cnt l a.s x],D3 a++[(i:Int)+1],Cw a++[(bon l a.s (cnt l a.s x):Int)],L.set (Int.toNat (a.E.length:Int)) (a.s.h+1)):=by
     have hml:(Cw a).length=a.E.length:=by simp[Cw]
     have hmi:idx (Cw a++[0]) (a.E.length:Int)=some 0:=ij (by rw[List.getElem?_append_right (by omega)];simp[hml])
     have hms:∀z:Int,List.set (Cw a++[0]) (Int.toNat (a.E.length:Int)) z=Cw a++[z]:=by
      intro z
      rw[Int.toNat_natCast,List.set_append_right _ _ (by omega)]
      simp[hml]
     unfold bon
     by_cases h1:(a.E.length:Int)<l.fFrames-1
     ·have hne:a.s.f≠l.fFrames-1:=by omega
      have ho:=hA.own (by omega)
      rw[if_pos (by simpa using h1),ho]
      by_cases h2:a.s.p=cnt l a.s x
      ·have h2':l.fPins-a.s.p+sm [cnt l a.s x]=l.fPins:=by simp[sm];omega
       rw[if_pos (by simpa using h2')]
       simp only[Option.bind_some]
       rcases hh with h | h | h
       ·rw[h]at hset ⊢
        rw[if_pos (by decide),hset,hmi]
        simp only[Option.bind_some]
        rw[hms]
        simp[hne,h2];decide
       ·rw[h]at hset ⊢
        rw[if_pos (by decide),hset,hmi]
        simp only[Option.bind_some]
        rw[hms]
        simp[hne,h2];decide
       ·rw[h]
        simp[hne,h2]
      ·have h2':¬l.fPins-a.s.p+sm [cnt l a.s x]=l.fPins:=by simp[sm];omega
       rw[if_neg (by simpa using h2')]
       simp[h2]
     ·have hne:a.s.f=l.fFrames-1:=by have:=hm.1;omega
      rw[if_neg (by simpa using h1)]
      simp[hne]
    obtain⟨v,r1,r2⟩:=obind e
    rw[r1]
    simp only[Option.bind_some]
    obtain⟨v66,l565⟩:=v
    simp only at r2 ⊢
    rw[r2]
    simp only[Option.bind_some]
    have:=ih1 (L.set (Int.toNat (a.E.length:Int)) (a.s.h+1)) ⟨by omega,?_⟩ (by omega)
    ·simp only[BK,D3,Cw,hfE▸hcl2,if_true,List.map_append,List.map_cons,List.map_nil,hcl]at this
     rw[show((i:Int)+1)=((i+1:Nat):Int) by omega]
     exact this
    ·refine⟨by simp[hL.len],fun h3=>?_,fun j h3 h4=>?_⟩
     ·have e1:(BK l a x).s.f=(a.E.length+1:Nat):=by show(CC l a.s (cnt l a.s x)).f=_;omega
      have e2:(BK l a x).s.h=0:=q2
      rw[e1]at h3 ⊢
      rw[e2,Int.toNat_natCast,Int.toNat_natCast,List.getElem?_set_ne (by omega)]
      exact hL.new (a.E.length+1) (by omega) h3
     ·have e1:(BK l a x).s.f=(a.E.length+1:Nat):=by show(CC l a.s (cnt l a.s x)).f=_;omega
      rw[e1]at h3
      rw[Int.toNat_natCast,List.getElem?_set_ne (by omega)]
      exact hL.new j (by omega) h4
   ·have hcl3:¬a.s.f<(CC l a.s (cnt l a.s x)).f:=by unfold nxt at hcl2;omega
    obtain⟨q1,q2,q3,q4⟩:=hF2 hcl3
    rw[if_neg (by simpa using hcl2)]
    simp only[Option.bind_some]
    have:=ih1 (L.set (Int.toNat (a.E.length:Int)) (a.s.h+1)) ⟨by omega,?_⟩ (by omega)
    ·have hcl4:¬a.s.f<(nxt l a.s x).f:=hcl3
     simp only[BK,D3,Cw,hcl4,if_false,List.append_nil]at this
     rw[show((i:Int)+1)=((i+1:Nat):Int) by omega]
     exact this
    ·refine⟨by simp[hL.len],fun h3=>?_,fun j h3 h4=>?_⟩
     ·have e1:(BK l a x).s.f=(a.E.length:Nat):=by show(CC l a.s (cnt l a.s x)).f=_;omega
      have e2:(BK l a x).s.h=a.s.h+1:=q2
      rw[e1]at h3 ⊢
      rw[e2,Int.toNat_natCast]
      simp[hLl]
     ·have e1:(BK l a x).s.f=(a.E.length:Nat):=by show(CC l a.s (cnt l a.s x)).f=_;omega
      rw[e1]at h3
      rw[Int.toNat_natCast,List.getElem?_set_ne (by omega)]
      exact hL.new j (by omega) h4
  ·have:i=sheet.length:=by omega
   subst this
   rw[if_neg (by simp),List.take_length]
 ·have:=hV.f1
  refine⟨by simp,fun h3=>?_,fun j h3 h4=>?_⟩
  ·show(List.replicate _ _)[0]? = some 0
   rw[List.getElem?_replicate,if_pos (by omega)]
  ·rw[List.getElem?_replicate,if_pos (by omega)]
theorem Hg{l:Ref01Law}(hV:V l){sheet:List Int}(hk:Ok l (s0 l) sheet)(hn:sheet.length≤90):gC 30000 (fl l) sheet=some (ctsA (acc l sheet)):=by
 have hA:=ainv hV hk
 have h2:=H4 hA (by rw[acc_len];exact hn) (by have:=hA.fE;have:=hA.inv.f1;have:=hV.f2;omega)
 have h1:=H5 hV hk hn
 have hv1:=hV.f1
 have hv2:=hV.f2
 unfold gC cS bL
 have em:mkl 30000 (fl l).fFrames (0:Int)=some (List.replicate l.fFrames.toNat 0):=by
  have q:0≤(fl l).fFrames∧(fl l).fFrames≤((30000:Nat):Int):=⟨Int.le_trans (by decide) hv1,Int.le_trans hv2 (by decide)⟩
  unfold mkl
  rw[if_pos q]
  rfl
 rw[em]
 simp only[Option.bind_some]
 have e:(FramePlay.mk (fl l) (FrameAt.mk 0 0 (fl l).fPins true (fl l).fBalls (Ar2.mk 0 0)))=(s0 l).play l:=rfl
 rw[e]
 unfold D3 Cw at h1
 refine(IR _ h1).trans ?_
 exact h2
end Go.Proofs.YtdodahpkpeodfaaGreatDoor.F
namespace Go.Proofs.YtdodahpkpeodfaaGreatDoor.F
open Go.Kp
theorem GL(k:Int):∀(xs:List Ref01Ball) (i:Nat) (a:Int×Int×Int),(∀x∈xs,0≤x.fCount∧x.fCount≤10) →
  a.1≤(Dc k i a xs).1∧(Dc k i a xs).1≤a.1+10*xs.length∧a.2.1≤(Dc k i a xs).2.1∧(Dc k i a xs).2.1≤a.2.1+xs.length
 | [],i,a,_=>by simp[Dc]
 | x::xs,i,a,h=>by
  have h1:=h x (by simp)
  have h2:=GL k xs (i+1) (upd k i a x) fun y hy=>h y (by simp[hy])
  simp only[Dc,List.length_cons]
  unfold upd at h2 ⊢
  split at h2
  ·rename_i e;rw[if_pos e];simp only at h2;omega
  ·rename_i e;rw[if_neg e];omega
theorem Iw(tr:List Ref01Ball)(k:Int)(hn:tr.length≤90)(hb:∀x∈tr,0≤x.fCount∧x.fCount≤10) :
  loopN (fun rec49 x=>Cn 30000 tr k rec49 x.1 x.2.1 x.2.2.1 x.2.2.2) 30000 (0,0,0,0)=some (Dc k 0 (0,0,0) tr):=by
 have h:=Aq (ι:=Nat) (b:=fun rec49 x=>Cn 30000 tr k rec49 x.1 x.2.1 x.2.2.1 x.2.2.2)
  (fun i=>((Dc k 0 (0,0,0) (tr.take i)).1,(Dc k 0 (0,0,0) (tr.take i)).2.1,(Dc k 0 (0,0,0) (tr.take i)).2.2,(i:Int)))
  (fun i=>some (Dc k 0 (0,0,0) tr)) (fun i=>tr.length-i) (fun i=>i≤tr.length) ?_ 30000 0 (Nat.zero_le _) (by omega)
 ·exact h
 ·intro i rec hi ih
  simp only at hi ih ⊢
  unfold Cn
  by_cases hlt:i<tr.length
  ·have hx:tr[i]? = some tr[i]:=by simp[hlt]
   rw[if_pos (by simpa using hlt),ij hx]
   simp only[Option.bind_some]
   have h3:=GL k (tr.take i) 0 (0,0,0) fun x hx=>hb x (List.mem_of_mem_take hx)
   have hl:((tr.take i).length:Int)≤90:=by simp;omega
   have hc:=hb tr[i] (List.getElem_mem hlt)
   have:=ih (i+1) (by omega) (by omega)
   rw[List.take_succ_eq_append_getElem hlt,D1]at this
   simp only at h3
   rw[bE (n:=(i:Int)+1) (by omega) (by omega)]
   by_cases hf:tr[i].fFrame=k
   ·rw[H3 hf]at this
    simp only[hf,decide_true,if_true,Option.bind_some]
    rw[bE (by omega) (by omega),bE (by omega) (by omega)]
    rw[show((i:Int)+1)=((i+1:Nat):Int) by omega]
    rw[← this]
    simp only[List.length_take,Nat.zero_add]
    rw[Nat.min_eq_left hi]
   ·rw[upd_ne hf]at this
    simp only[hf,decide_false,Bool.false_eq_true,if_false,Option.bind_some]
    rw[show((i:Int)+1)=((i+1:Nat):Int) by omega]
    exact this
  ·have:i=tr.length:=by omega
   subst this
   rw[if_neg (by simp),List.take_length]
theorem Jh{l:Ref01Law}{a:A}(hA:AInv l a):∀x∈a.tr,0≤x.fCount∧x.fCount≤10:=by
 intro x hx
 have:x.fCount∈a.cs:=by rw[← hA.trc];exact List.mem_map_of_mem hx
 exact hA.bd _ this
theorem IV{l:Ref01Law}{a:A}(hA:AInv l a){i:Nat}(hi:i<a.cs.length):∃x,a.tr[i]? = some x∧x.fCount=a.cs[i]:=by
 have hl:i<a.tr.length:=by rw[hA.trl];exact hi
 refine⟨a.tr[i],by simp[hl],?_⟩
 have:(a.tr.map (·.fCount))[i]? = a.cs[i]?:=by rw[hA.trc]
 simp[hl,hi]at this
 exact this
theorem Ji{l:Ref01Law}{a:A}(hA:AInv l a)(hn:a.cs.length≤90)(own:Int)(h0:0≤own)(h1:own≤900)(p1 p2:Nat)(hp:1≤p1)(h2:p1+p2≤a.cs.length)(h3:p2≤2) :
  loopN (fun rec51 x=>Co 30000 a.tr ((p1:Int)-1) (p2:Int) rec51 x.1 x.2) 30000 (own,(p1:Int))=some (own+sm ((a.cs.take (p1+p2)).drop p1)):=by
 have h:=Aq (ι:=Nat) (b:=fun rec51 x=>Co 30000 a.tr ((p1:Int)-1) (p2:Int) rec51 x.1 x.2)
  (fun j=>(own+sm ((a.cs.take (p1+j)).drop p1),((p1+j:Nat):Int))) (fun j=>some (own+sm ((a.cs.take (p1+p2)).drop p1))) (fun j=>p2-j) (fun j=>j≤p2) ?_ 30000 0 (Nat.zero_le _) (by omega)
 ·have e:(a.cs.take (p1+0)).drop p1=[]:=List.drop_eq_nil_of_le (by simp;omega)
  simp only[e,sm]at h
  simpa using h
 ·intro j rec hj ih
  simp only at hj ih ⊢
  unfold Co
  rw[bE (n:=(p1:Int)-1+(p2:Int)) (by omega) (by omega)]
  by_cases hlt:j<p2
  ·obtain⟨x,hx,hxc⟩:=IV hA (i:=p1+j) (by omega)
   rw[if_pos (by simp;omega),ij hx]
   simp only[Option.bind_some]
   have hs:=Fo hA hn (p1+j) p1
   have hb:=hA.bd _ (List.getElem_mem (l:=a.cs) (n:=p1+j) (by omega))
   rw[hxc,bE (by omega) (by omega),bE (by omega) (by omega)]
   have:=ih (j+1) (by omega) (by omega)
   rw[show p1+(j+1)=p1+j+1 by omega,List.take_succ_eq_append_getElem (show p1+j<a.cs.length by omega),DG (by simp;omega),Dm]at this
   rw[show(((p1+j:Nat):Int)+1)=((p1+j+1:Nat):Int) by omega,← this]
   simp[sm,Int.add_assoc]
  ·have:j=p2:=by omega
   subst this
   rw[if_neg (by simp;omega)]
theorem Iy(l:Ref01Law)(hV:V l)(k:Nat)(own balls:Int) :
  (Option.bind (Option.bind (if decide ((k:Int)<w64 (l.fFrames-1))=true then if decide (own=l.fPins)=true then some (decide (balls=1))else some false else some false) fun v1128=>if v1128=true then some (2:Int)else some 0) fun v1127 =>
   Option.bind (Option.bind (if decide ((k:Int)<w64 (l.fFrames-1))=true then if decide (own=l.fPins)=true then some (decide (balls=2))else some false else some false) fun v1131=>if v1131=true then some (1:Int)else some v1127) fun v1130=>some v1130)=some (more l k own balls):=by
 have:=hV.f1;have:=hV.f2
 rw[bE (by omega) (by omega)]
 unfold more
 by_cases h1:(k:Int)<l.fFrames-1<;>by_cases h2:own=l.fPins<;>by_cases h3:balls=1<;>by_cases h4:balls=2<;>simp[h1,h2,h3,h4]<;>omega
theorem Et{cs:List Int}{x y z:Nat}(h1:x≤y)(h2:y≤z)(h3:z≤cs.length):sm ((cs.take y).drop x)+sm ((cs.take z).drop y)=sm ((cs.take z).drop x):=by
 rw[← Dm]
 congr 1
 have e:cs.take z=cs.take y++(cs.take z).drop y:=by
  have:cs.take y=(cs.take z).take y:=by rw[List.take_take,Nat.min_eq_left h2]
  rw[this,List.take_append_drop]
 conv=>rhs;rw[e]
 rw[List.drop_append_of_le_length (by simp;omega)]
theorem Hh{l:Ref01Law}(hV:V l){a:A}(hA:AInv l a)(hn:a.cs.length≤90) :
  loopN (fun rec43 x=>Cp 30000 l a.s.stand a.tr rec43 x.1 x.2.1 x.2.2) 30000 (0,0,[])=some (ctsA a):=by
 have hfE:=hA.fE
 have hE:a.E.length≤10:=by have:=hA.inv.f1;have:=hV.f2;omega
 have h:=Aq (ι:=Nat×List Int) (b:=fun rec43 x=>Cp 30000 l a.s.stand a.tr rec43 x.1 x.2.1 x.2.2)
  (fun i=>(Bg i.2,(i.1:Int),i.2))
  (fun i=>some (i.2++cts a.cs (Ar a.E i.1) (Bg i.2) (a.E.drop i.1))) (fun i=>a.E.length-i.1)
  (fun i=>i.1≤a.E.length∧i.2.length=i.1∧0≤Bg i.2∧Bg i.2≤900*i.1) ?_ 30000 (0,[]) ⟨Nat.zero_le _,rfl,by simp[Bg],by simp[Bg]⟩ (by simp;omega)
 ·simpa [DU,Bg,ctsA]using h
 ·rintro⟨k,o⟩ rec ⟨h1,h2,h3,h4⟩ ih
  simp only at h1 h2 h3 h4 ih ⊢
  unfold Cp
  have ef:a.s.stand.fFrame=(a.E.length:Int):=hfE.symm
  rw[ef]
  by_cases hlt:k<a.E.length
  ·have hp:a.E[k]? = some a.E[k]:=by simp[hlt]
   generalize hpp:a.E[k]=pp at hp
   obtain⟨p1,p2⟩:=pp
   have hent:=hA.ent _ (List.mem_of_getElem? hp)
   simp only at hent
   obtain⟨own,balls,r1,r2,r3,r4,r5⟩:=hA.sc k _ hp
   simp only at r1 r2 r4
   rw[if_pos (by simpa using hlt),Iw a.tr k (by rw[hA.trl];exact hn) (Jh hA),r1]
   simp only[Option.bind_some]
   have hm:=Iy l hV k own balls
   obtain⟨v1127,q1,q2⟩:=obind hm
   obtain⟨v1130,q3,q4⟩:=obind q2
   cases q4
   rw[q1]
   simp only[Option.bind_some]
   rw[q3]
   simp only[Option.bind_some,r3]
   rw[bE (n:=(p1:Int)-1+(p2:Int)) (by omega) (by omega),bE (n:=(p1:Int)-1+1) (by omega) (by omega),hA.trl,List.drop_eq_getElem_cons hlt,hpp]
   unfold cts
   simp only
   have hs1:=Fo hA hn p1 (Ar a.E k)
   by_cases hset:a.cs.length<p1+p2
   ·rw[if_pos (by simp;omega),if_pos hset];simp
   ·rw[if_neg (by simp;omega),if_neg hset,show((p1:Int)-1+1)=(p1:Int) by omega,Ji hA hn own (by omega) (by omega) p1 p2 hent.1 (by omega) hent.2.2]
    simp only[Option.bind_some]
    have hs:=Fo hA hn (p1+p2) (Ar a.E k)
    rw[r2,Et (by omega) (by omega) (by omega),bE (by omega) (by omega),nL (by simp;omega)]
    simp only[Option.bind_some]
    unfold CJ
    rw[bE (by omega) (by omega)]
    generalize hv:sm ((a.cs.take (p1+p2)).drop (Ar a.E k))=v at hs ⊢
    have hlast:Bg (o++[Bg o+v])=Bg o+v:=by simp[Bg]
    have:=ih (k+1,o++[Bg o+v]) ⟨by simp only;omega,by simp[h2],by simp only[hlast];omega,by simp only[hlast];omega⟩ (by simp only;omega)
    simp only[DT hp,hlast]at this
    rw[show((k:Int)+1)=((k+1:Nat):Int) by omega,this]
    simp
  ·have:k=a.E.length:=by omega
   subst this
   rw[if_neg (by simp),List.drop_length]
   unfold CH cts
   simp
section
variable {l:Ref01Law}(hV:V l){sheet:List Int}(hk:Ok l (s0 l) sheet)(hn:sheet.length≤90)
include hV hk hn
theorem FE:Ct 30000 l sheet=some ((acc l sheet).s.stand,(acc l sheet).tr):=by
 rw[play_ok hV hn hk,acc_s,IT]
theorem Gj:C0 30000 l sheet=some (ctsA (acc l sheet)):=by
 unfold C0
 rw[FE hV hk hn]
 exact Hh hV (ainv hV hk) (by rw[acc_len];exact hn)
end
end Go.Proofs.YtdodahpkpeodfaaGreatDoor.F
namespace Go.Proofs.YtdodahpkpeodfaaGreatDoor.F
open Go.Kp
def Ey (s:S)(G:List (List Int))(b:Int):List (List Int) :=
 let G1:=if s.f=(G.length:Int)then G++[[]] else G
 G1.set s.f.toNat ((G1[s.f.toNat]?.getD [])++[b])
def grp (l:Ref01Law):S→List (List Int)→List Int→List (List Int)
 | _,G,[]=>G
 | s,G,b::bs=>grp l (nxt l s b) (Ey s G b) bs
theorem FF(l:Ref01Law):∀(bs:List Int) (s:S) (G:List (List Int)) (b:Int),grp l s G (bs++[b])=Ey (run l s bs) (grp l s G bs) b
 | [],_,_,_=>rfl
 | x::xs,s,G,b=>FF l xs (nxt l s x) (Ey s G x) b
def grA (l:Ref01Law)(bs:List Int):List (List Int):=grp l (s0 l) [] bs
structure GInv(s:S)(G:List (List Int))(bs:List Int):Prop where
 len:(G.length:Int)=s.f+if s.h=0 then 0 else 1
 flat:G.flatten=bs
theorem IW{G:List (List Int)}{r:List Int}(h:r∈G):r.length≤G.flatten.length:=by
 induction G with
 | nil=>simp at h
 | cons x G ih =>
  rcases List.mem_cons.1 h with rfl | h
  ·simp
  ·have:=ih h;simp only[List.flatten_cons,List.length_append];omega
theorem H6{s:S}{G:List (List Int)}{b:Int}(h:(G.length:Int)=s.f):Ey s G b=G++[[b]]:=by
 unfold Ey
 have:s.f.toNat=G.length:=by omega
 rw[if_pos h.symm,this]
 simp
theorem H7{s:S}{G I:List (List Int)}{r:List Int}{b:Int}(hG:G=I++[r])(h:(I.length:Int)=s.f):Ey s G b=I++[r++[b]]:=by
 subst hG
 unfold Ey
 have:s.f.toNat=I.length:=by omega
 rw[if_neg (by simp;omega),this]
 simp
theorem Hi{l:Ref01Law}(hV:V l){s:S}(hi:Inv l s){G:List (List Int)}{bs:List Int}(hg:GInv s G bs){b:Int}(hm:may l s b):GInv (nxt l s b) (Ey s G b) (bs++[b]):=by
 have hc:=DS hV hi hm.2.2
 obtain⟨hF1,hF2,_⟩:=Fm hV hi hm.1 hc.1 hc.2
 have hh0:=hi.h0
 have hlen:(Ey s G b).length=s.f+1∧(Ey s G b).flatten=G.flatten++[b]:=by
  by_cases h:s.h=0
  ·have hl:=hg.len
   rw[if_pos h]at hl
   rw[H6 (by omega)]
   simp;omega
  ·have hl:=hg.len
   rw[if_neg h]at hl
   have hne:G≠[]:=by intro e;rw[e]at hl;have:=hi.f0;simp at hl;omega
   have hd:=(List.dropLast_concat_getLast hne).symm
   have hpos:1≤G.length:=by have:=hi.f0;omega
   rw[H7 hd (by rw[List.length_dropLast];omega)]
   refine⟨by simp only[List.length_append,List.length_dropLast,List.length_singleton];omega,?_⟩
   conv=>rhs;rw[hd]
   simp
 refine⟨?_,by rw[hlen.2,hg.flat]⟩
 rw[hlen.1]
 unfold nxt
 by_cases hcl:s.f<(CC l s (cnt l s b)).f
 ·obtain⟨q1,q2,_⟩:=hF1 hcl
  rw[q1,q2];simp
 ·obtain⟨q1,q2,_⟩:=hF2 hcl
  rw[q1,q2,if_neg (by omega)]
theorem E7{l:Ref01Law}(hV:V l):∀(ys:List Int) {s:S} {G:List (List Int)} {bs:List Int},Inv l s→GInv s G bs→Ok l s ys→GInv (run l s ys) (grp l s G ys) (bs++ys)
 | [],s,G,bs,_,hg,_=>by simpa [run,grp]using hg
 | y::ys,s,G,bs,hi,hg,hk=>by
  have h1:=E7 hV ys (D0 hV hi hk.1.1 hk.1.2.2) (Hi hV hi hg hk.1) hk.2
  simpa [run,grp]using h1
theorem Jj{l:Ref01Law}(hV:V l){bs:List Int}(hk:Ok l (s0 l) bs):GInv (acc l bs).s (grA l bs) bs:=by
 have h:=E7 hV bs (inv0 hV) (G:=[]) (bs:=[]) ⟨by simp[s0],rfl⟩ hk
 rw[acc_s]
 simpa [grA]using h
theorem H8{l:Ref01Law}{sheet:List Int}{i:Nat}{x:Int}(hx:sheet[i]? = some x):grA l (sheet.take (i+1))=Ey (acc l (sheet.take i)).s (grA l (sheet.take i)) x:=by
 have hlt:=(List.getElem?_eq_some_iff.1 hx).1
 rw[List.take_succ_eq_append_getElem hlt,grA,FF,acc_s,(List.getElem?_eq_some_iff.1 hx).2]
 rfl
theorem GN{α:Type}{L:List α}{x:α}(h:L.length≤900):app 30000 L [x]=some (L++[x]):=nL (by simp;omega)
section
variable {l:Ref01Law}(hV:V l){sheet:List Int}(hk:Ok l (s0 l) sheet)(hn:sheet.length≤90)
include hV hk hn
theorem Iz{i:Nat}{x:Int}(hx:sheet[i]? = some x) :
  ∃G1 r,(if(acc l (sheet.take i)).s.f=((grA l (sheet.take i)).length:Int)then grA l (sheet.take i)++[[]] else grA l (sheet.take i))=G1∧idx G1 (acc l (sheet.take i)).s.f=some r∧r.length≤90 ∧
   G1.set (Int.toNat (acc l (sheet.take i)).s.f) (r++[x])=grA l (sheet.take (i+1)):=by
 have hi:=(ainv hV (Eb hk i)).inv
 have hg:=Jj hV (Eb hk i)
 have hlt:=(List.getElem?_eq_some_iff.1 hx).1
 have hfl:(grA l (sheet.take i)).flatten.length≤90:=by rw[hg.flat];simp;omega
 rw[H8 hx]
 unfold Ey
 refine⟨_,((if(acc l (sheet.take i)).s.f=((grA l (sheet.take i)).length:Int)then grA l (sheet.take i)++[[]] else grA l (sheet.take i))[(acc l (sheet.take i)).s.f.toNat]?.getD []),rfl,?_,?_,rfl⟩
 ·have hf0:=hi.f0
  have hl:=hg.len
  have hb:(acc l (sheet.take i)).s.f.toNat<(if(acc l (sheet.take i)).s.f=((grA l (sheet.take i)).length:Int)then grA l (sheet.take i)++[[]] else grA l (sheet.take i)).length:=by
   split
   ·simp;omega
   ·rename_i hne
    split at hl<;>omega
  unfold idx
  rw[if_pos hf0]
  simp[hb]
 ·have key:∀(G:List (List Int)) (n:Nat),G.flatten.length≤90→(G[n]?.getD []).length≤90:=by
   intro G n hG
   cases h:G[n]? with
   | none=>simp
   | some r=>have:=IW (List.mem_of_getElem? h);simp;omega
  refine key _ _ ?_
  split
  ·simp;simpa using hfl
  ·exact hfl
theorem Gk{i:Nat}:(grA l (sheet.take i)).length≤11:=by
 have hA:=ainv hV (Eb hk i)
 have hg:=(Jj hV (Eb hk i)).len
 have:=hA.inv.f1
 have:=hV.f2
 split at hg<;>omega
theorem FG:loopN (fun rec3 x=>eC 30000 sheet rec3 x.1 x.2.1 x.2.2.1 x.2.2.2) 30000 ((sheet.length:Int),0,(s0 l).play l,[])=some (grA l sheet):=by
 have h:=Aq (ι:=Nat) (b:=fun rec3 x=>eC 30000 sheet rec3 x.1 x.2.1 x.2.2.1 x.2.2.2)
  (fun i=>((sheet.length:Int),(i:Int),(acc l (sheet.take i)).s.play l,grA l (sheet.take i)))
  (fun i=>some (grA l sheet)) (fun i=>sheet.length-i) (fun i=>i≤sheet.length) ?_ 30000 0 (Nat.zero_le _) (by omega)
 ·exact h
 ·intro i rec hi ih
  simp only at hi ih ⊢
  unfold eC
  by_cases hlt:i<sheet.length
  ·obtain⟨x,hx,hm,ha⟩:=IU hk hlt
   have hI:=(ainv hV (Eb hk i)).inv
   obtain⟨G1,r,r1,r2,r3,r4⟩:=Iz hV hk hn hx
   have hfl:=Gk hV hk hn (i:=i)
   rw[if_pos (by simpa using hlt),ij hx]
   simp -implicitDefEqProofs only[Option.bind_some,Al hI,hm,decide_true,Bool.not_true,Bool.false_eq_true,if_false]
   rw[B9 hV hI hm.1 hm.2.2]
   simp -implicitDefEqProofs only[Option.bind_some]
   have ep:((acc l (sheet.take i)).s.play l).fAt.fFrame=(acc l (sheet.take i)).s.f:=rfl
   simp only[ep]
   have e1:(if decide ((acc l (sheet.take i)).s.f=((grA l (sheet.take i)).length:Int))=true then Option.bind (app 30000 (grA l (sheet.take i)) [[]]) fun l168=>some l168 else some (grA l (sheet.take i)))=some G1:=by
    rw[← r1]
    by_cases h:(acc l (sheet.take i)).s.f=((grA l (sheet.take i)).length:Int)
    ·rw[if_pos (by simpa using h),if_pos h,GN (by omega)];rfl
    ·rw[if_neg (by simpa using h),if_neg h]
   rw[e1]
   simp -implicitDefEqProofs only[Option.bind_some]
   rw[r2]
   simp -implicitDefEqProofs only[Option.bind_some]
   rw[GN (by omega)]
   simp -implicitDefEqProofs only[Option.bind_some]
   rw[r4,bE (by omega) (by omega)]
   have:=ih (i+1) (by omega) (by omega)
   rw[ha]at this
   rw[show((i:Int)+1)=((i+1:Nat):Int) by omega]
   exact this
  ·have:i=sheet.length:=by omega
   subst this
   rw[if_neg (by simp),List.take_length]
end
def gameA(l:Ref01Law)(sheet:List Int):FrameGame:=⟨grA l sheet,ctsA (acc l sheet),if(acc l sheet).s.f=l.fFrames then 0 else(acc l sheet).s.p,decide ((acc l sheet).s.f=l.fFrames)⟩
theorem read_eq(l:Ref01Law)(sheet:List Int)(hn:sheet.length≤45):gm 30000 (fl l) sheet=some (if flt l sheet=0 then gameA l sheet else⟨[],[],0,false⟩,flt l sheet):=by
 unfold gm
 rw[vA l sheet hn]
 simp -implicitDefEqProofs only[Option.bind_some]
 by_cases h0:flt l sheet=0
 ·obtain⟨hV,_,hk⟩:=flt_ok.1 h0
  rw[if_neg (by simp[h0]),if_pos h0,h0,Hg hV hk (by omega),BB hV hk (by omega)]
  unfold cS bL
  simp -implicitDefEqProofs only[Option.bind_some]
  have e:(FramePlay.mk (fl l) (FrameAt.mk 0 0 (fl l).fPins true (fl l).fBalls (Ar2.mk 0 0)))=(s0 l).play l:=rfl
  rw[e,FG hV hk (by omega)]
  simp -implicitDefEqProofs only[Option.bind_some,Iv]
  unfold gameA
  by_cases hd:(acc l sheet).s.f=l.fFrames
  ·simp[hd]
  ·simp[hd];rfl
 ·rw[if_pos (by simp[h0]),if_neg h0]
theorem zP(a b:List Int)(hn:a.length≤900):lN 30000 a b=some (decide (a=b)):=by
 unfold lN
 by_cases hl:a.length=b.length
 ·rw[if_neg (by simp[hl])]
  have h:=Aq (ι:=Nat) (b:=fun rec3 x=>eN 30000 a b rec3 x) (fun i=>(i:Int)) (fun i=>some (decide (a.drop i=b.drop i))) (fun i=>a.length-i) (fun i=>i≤a.length) ?_ 30000 0 (Nat.zero_le _) (by omega)
  ·exact h
  ·intro i rec hi ih
   try simp only at hi ih ⊢
   unfold eN
   by_cases hlt:i<a.length
   ·have ha:a[i]? = some a[i]:=by simp[hlt]
    have hb:b[i]? = some b[i]:=by simp[← hl,hlt]
    rw[if_pos (by simpa using hlt),ij ha,ij hb]
    simp -implicitDefEqProofs only[Option.bind_some]
    rw[List.drop_eq_getElem_cons hlt,List.drop_eq_getElem_cons (show i<b.length by omega)]
    by_cases he:a[i]=b[i]
    ·rw[if_neg (by simp[he]),bE (by omega) (by omega)]
     have:=ih (i+1) (by omega) (by omega)
     rw[show((i:Int)+1)=((i+1:Nat):Int) by omega,this]
     simp only[he,List.cons.injEq,true_and]
    ·rw[if_pos (by simp[he])]
     simp only[he,List.cons.injEq,false_and,decide_false]
   ·have:i=a.length:=by omega
    subst this
    rw[if_neg (by simp),List.drop_length,hl,List.drop_length]
    simp[iY]
 ·rw[if_pos (by simp;omega)]
  have:a≠b:=fun e=>hl (by rw[e])
  simp[this]
theorem cts_len(cs:List Int):∀(E:List (Nat×Nat)) (fr:Nat) (up:Int),(cts cs fr up E).length≤E.length
 | [],_,_=>by simp[cts]
 | p::E,fr,up=>by
  unfold cts
  split
  ·simp
  ·have:=cts_len cs E p.1 (up+sm ((cs.take (p.1+p.2)).drop fr));simp;omega
end Go.Proofs.YtdodahpkpeodfaaGreatDoor.F
namespace Go.Proofs.YtdodahpkpeodfaaGreatDoor.F
open Go.Kp
theorem len_fold{l:Ref01Law}(hV:V l):∀(bs:List Int) {s:S} {n:Nat},Inv l s→Ok l s bs→(n:Int)≤3*s.f+s.h→((n+bs.length:Nat):Int)≤3*(run l s bs).f+(run l s bs).h
 | [],s,n,_,_,h=>by simpa [run]using h
 | b::bs,s,n,hi,hk,h=>by
  have hc:=DS hV hi hk.1.2.2
  obtain⟨hF1,hF2,_⟩:=Fm hV hi hk.1.1 hc.1 hc.2
  have hh:s.h≤2:=by have:=hi.hn;have:=hi.nd;have:=hV.b2;omega
  have h1:((n+1:Nat):Int)≤3*(nxt l s b).f+(nxt l s b).h:=by
   unfold nxt
   by_cases hcl:s.f<(CC l s (cnt l s b)).f
   ·obtain⟨q1,q2,_⟩:=hF1 hcl;omega
   ·obtain⟨q1,q2,_⟩:=hF2 hcl;omega
  have h2:=len_fold hV bs (D0 hV hi hk.1.1 hk.1.2.2) hk.2 h1
  simp only[run,List.length_cons]
  omega
theorem ok_len{l:Ref01Law}(hV:V l){bs:List Int}(hk:Ok l (s0 l) bs):bs.length≤30:=by
 have h:=len_fold hV bs (n:=0) (inv0 hV) hk (by simp[s0])
 have hi:=GI hV (inv0 hV) hk
 have:=hi.f1;have:=hi.dn;have:=hV.f2;have:=hi.hn;have:=hi.nd;have:=hV.b2
 by_cases hd:(run l (s0 l) bs).f=l.fFrames
 ·have:=hi.dn hd;omega
 ·omega
def incr:Nat→List (Nat×Nat)→Prop
 | _,[]=>True
 | a,p::E=>a<p.1∧incr p.1 E
theorem IA{l:Ref01Law}{a:A}(hA:AInv l a):∀(n k:Nat),k+n=a.E.length→incr (Ar a.E k) (a.E.drop k):=by
 intro n
 induction n with
 | zero=>intro k h;rw[List.drop_eq_nil_of_le (by omega)];trivial
 | succ n ih =>
  intro k h
  have hlt:k<a.E.length:=by omega
  have hp:a.E[k]? = some a.E[k]:=by simp[hlt]
  obtain⟨_,_,_,_,_,h4,_⟩:=hA.sc k _ hp
  rw[List.drop_eq_getElem_cons hlt]
  refine⟨h4,?_⟩
  have:=ih (k+1) (by omega)
  rwa[DT hp]at this
theorem incr_A{l:Ref01Law}{a:A}(hA:AInv l a):incr 0 a.E:=by
 have:=IA hA a.E.length 0 (by omega)
 rwa[DU,List.drop_zero]at this
theorem FI{cs:List Int}:∀{E:List (Nat×Nat)} {fr:Nat} {up:Int},(∀p∈E,¬cs.length<p.1+p.2)→(cts cs fr up E).length=E.length
 | [],_,_,_=>rfl
 | p::E,fr,up,h=>by
  unfold cts
  rw[if_neg (h p (by simp)),List.length_cons,List.length_cons,FI fun q hq=>h q (by simp[hq])]
def EN (up:Int)(o:List Int):Int:=match o.getLast? with | some x=>x | none=>up
theorem Gl(up x:Int)(o:List Int):EN up (x::o)=EN x o:=by
 cases o with
 | nil=>rfl
 | cons y o=>simp[EN,List.getLast?_cons_cons,List.getLast?_cons]
def D4 (fr:Nat)(E:List (Nat×Nat)):Nat:=match E.getLast? with | some p=>p.1 | none=>fr
theorem Ec(fr:Nat)(p:Nat×Nat)(E:List (Nat×Nat)):D4 fr (p::E)=D4 p.1 E:=by
 cases E with
 | nil=>rfl
 | cons q E=>simp[D4,List.getLast?_cons_cons,List.getLast?_cons]
theorem FJ:∀{E:List (Nat×Nat)} {fr:Nat},incr fr E→fr≤D4 fr E
 | [],_,_=>Nat.le_refl _
 | p::E,fr,h=>by rw[Ec];have:=FJ h.2;have:=h.1;omega
theorem FK:∀{E:List (Nat×Nat)} {fr n:Nat},(∀p∈E,p.1≤n)→fr≤n→D4 fr E≤n
 | [],_,_,_,h=>h
 | p::E,fr,n,h,_=>by rw[Ec];exact FK (fun q hq=>h q (by simp[hq])) (h p (by simp))
theorem FL{cs:List Int}:∀{E:List (Nat×Nat)} {fr:Nat} {up:Int},incr fr E→(∀p∈E,p.1≤cs.length∧¬cs.length<p.1+p.2) →
  EN up (cts cs fr up E)=up+sm ((cs.take (D4 fr E)).drop fr)+sm (E.map (EV cs))
 | [],fr,up,_,_=>by
  have:(cs.take fr).drop fr=[]:=List.drop_eq_nil_of_le (by simp;omega)
  simp[cts,EN,D4,this,sm]
 | p::E,fr,up,hi,hb=>by
  have h1:=hb p (by simp)
  unfold cts
  rw[if_neg h1.2,Gl,FL hi.2 fun q hq=>hb q (by simp[hq]),Ec]
  have e1:=Et (cs:=cs) (x:=fr) (y:=p.1) (z:=p.1+p.2) (by have:=hi.1;omega) (by omega) (by omega)
  have e2:=Et (cs:=cs) (x:=fr) (y:=p.1) (z:=D4 p.1 E) (by have:=hi.1;omega) (FJ hi.2) (FK (fun q hq=>(hb q (by simp[hq])).1) h1.1)
  simp only[List.map_cons,sm]
  unfold EV
  omega
section
variable {l:Ref01Law}(hV:V l)
include hV
theorem FM{xs:List Int}(hk:Ok l (s0 l) xs)(hd:(acc l xs).s.f=l.fFrames):∀p∈(acc l xs).E,¬(acc l xs).cs.length<p.1+p.2:=by
 have hA:=ainv hV hk
 have h1:=(hA.l3 hd).1
 rw[hA.one]at h1
 have h2:(acc l xs).E.countP (fun p=>decide ((acc l xs).cs.length<p.1+p.2))=0:=by omega
 intro p hp
 have:=List.countP_eq_zero.1 h2 p hp
 simpa using this
theorem done_len{xs:List Int}(hk:Ok l (s0 l) xs)(hd:(acc l xs).s.f=l.fFrames):((ctsA (acc l xs)).length:Int)=l.fFrames:=by
 have hA:=ainv hV hk
 unfold ctsA
 rw[FI (FM hV hk hd),hA.fE,hd]
theorem done_last{xs:List Int}(hk:Ok l (s0 l) xs)(hd:(acc l xs).s.f=l.fFrames):idx (ctsA (acc l xs)) (l.fFrames-1)=some (acc l xs).tot:=by
 have hA:=ainv hV hk
 have hf1:=hV.f1
 have hlen:=done_len hV hk hd
 have hl:=FL (cs:=(acc l xs).cs) (up:=0) (incr_A hA) fun p hp=>⟨(hA.ent p hp).2.1,FM hV hk hd p hp⟩
 have hh:=hA.inv.dn hd
 have hlF:D4 0 (acc l xs).E=(acc l xs).cs.length:=by
  have h1:=hA.len
  have:D4 0 (acc l xs).E=C2 (acc l xs).E:=rfl
  omega
 rw[hlF,List.take_length,List.drop_zero]at hl
 have hne:ctsA (acc l xs)≠[]:=by intro e;rw[e]at hlen;simp at hlen;omega
 have e:idx (ctsA (acc l xs)) (l.fFrames-1)=some (EN 0 (ctsA (acc l xs))):=by
  unfold EN
  rw[List.getLast?_eq_getElem?,show l.fFrames-1=(((ctsA (acc l xs)).length-1:Nat):Int) by omega]
  have hlt:(ctsA (acc l xs)).length-1<(ctsA (acc l xs)).length:=by omega
  have hx:(ctsA (acc l xs))[(ctsA (acc l xs)).length-1]? = some (ctsA (acc l xs))[(ctsA (acc l xs)).length-1]:=by simp[hlt]
  rw[ij hx,hx]
 rw[e]
 unfold ctsA
 rw[hl,hA.tot]
 simp
end
end Go.Proofs.YtdodahpkpeodfaaGreatDoor.F
namespace Go.Proofs.YtdodahpkpeodfaaGreatDoor.F
open Go.Kp
structure Inv2(l:Ref01Law)(s:S):Prop where
 inv:Inv l s
 c:s.f=l.fFrames-1→1≤s.h→s.c=0
def G (l:Ref01Law)(s:S):Int:=if s.f=l.fFrames then 0 else s.p*(1+s.a)+3*(l.fPins*(l.fFrames-1-s.f))+l.fPins*(s.c+2-s.h)
end Go.Proofs.YtdodahpkpeodfaaGreatDoor.F
namespace Go.Proofs.YtdodahpkpeodfaaGreatDoor.F
open Go.Kp
inductive Rch (l:Ref01Law):S→Int→Prop where
 | done {s:S} (h:s.f=l.fFrames):Rch l s 0
 | step {s:S} {b k:Int} (hm:may l s b) (hb:0≤b) (h:Rch l (nxt l s b) k):Rch l s (wor l s b+k)
def pad (o:List Bool)(m:Nat):List Bool:=o++List.replicate (m-o.length) false
def stp (n k:Nat)(x:Bool)(o:List Bool):List Bool:=(pad o (n+k+1)).set (n+k) ((pad o (n+k+1))[n+k]?.getD false||x)
theorem Az{K V:Type}[DecidableEq K](m:List (K×V))(k:K)(v:V)(k':K):mget (mput m k v) k'=if k'=k then some v else mget m k':=by
 induction m with
 | nil=>simp[mput,mget]
 | cons p m ih =>
  unfold mput
  by_cases h:k=p.1
  ·rw[if_pos h]
   simp only[mget]
   by_cases h2:k'=k
   ·simp[h2]
   ·rw[if_neg h2,if_neg h2,if_neg (by rw[← h];exact h2)]
  ·rw[if_neg h]
   simp only[mget,ih]
   by_cases h2:k'=p.1
   ·rw[if_pos h2,if_pos h2,if_neg (by rw[h2];exact fun e=>h e.symm)]
   ·rw[if_neg h2,if_neg h2]
structure Part(l:Ref01Law)(s:S)(v:Int)(o:List Bool):Prop where
 le:(o.length:Int)≤G l s+1
 ge:∀b,0≤b→b<v→b≤s.p→wor l s b+G l (nxt l s b)+1≤o.length
 tr:∀j:Nat,o[j]? = some true↔∃b k,0≤b∧b<v∧b≤s.p∧Rch l (nxt l s b) k∧(j:Int)=wor l s b+k
section
variable {l:Ref01Law}(hV:V l){sheet:List Int}(hk:Ok l (s0 l) sheet)(hn:sheet.length≤90)
include hV hk hn
end
end Go.Proofs.YtdodahpkpeodfaaGreatDoor.F
namespace Go.Proofs.YtdodahpkpeodfaaGreatDoor.F
open Go.Kp
def Jk (l:Ref01Law):S→List Int→Int
 | _,[]=>0
 | s,b::bs=>wor l s b+Jk l (nxt l s b) bs
structure Ext(l:Ref01Law)(s:S)(bs:List Int)(k:Int):Prop where
 ok:Ok l s bs
 dn:(run l s bs).f=l.fFrames
 nn:∀b∈bs,0≤b
 w:Jk l s bs=k
theorem rfinal_eq{l:Ref01Law}(hV:V l){sheet:List Int}(hk:Ok l (s0 l) sheet)(hn:sheet.length≤90)(hd:(acc l sheet).s.f=l.fFrames):Cq 30000 l sheet=some (acc l sheet).tot:=by
 have hA:=ainv hV hk
 have:=hV.f1;have:=hV.f2
 unfold Cq
 rw[FE hV hk hn]
 simp -implicitDefEqProofs only[Option.bind_some]
 have e:(acc l sheet).s.stand.fFrame=l.fFrames:=hd
 have e2:(acc l sheet).tr.length=sheet.length:=by rw[hA.trl,acc_len]
 rw[e,e2,if_neg (by simp)]
 simp -implicitDefEqProofs only[Option.bind_some]
 rw[if_neg (by simp),Gj hV hk hn]
 simp -implicitDefEqProofs only[Option.bind_some]
 rw[bE (by omega) (by omega),done_last hV hk hd]
 rfl
end Go.Proofs.YtdodahpkpeodfaaGreatDoor.F
namespace Go.Proofs.YtdodahpkpeodfaaGreatDoor
open Go.Kp
theorem v0:F.V L0:=by decide
theorem fl0:F.fl L0=zk:=rfl
theorem GE(l:List Int):fit l=true↔F.Ok L0 (F.s0 L0) l:=by unfold fit;rw[decide_eq_true_eq]
theorem Ic{cs:List Int}(hb:∀x∈cs,0≤x∧x≤10):∀(E:List (Nat×Nat)) (fr:Nat) (up:Int) (k:Nat),F.incr fr E→(∀p∈E,p.1≤cs.length∧p.2≤2)→0≤up→up≤10*((fr:Int)+2*k)→∀c∈F.cts cs fr up E,0≤c∧c≤10*((cs.length:Int)+2*(k+E.length))
 | [],_,_,_,_,_,_,_,c,h=>by cases h
 | p::E,fr,up,k,hi,hE,h0,h1,c,h=>by
  unfold F.cts at h
  have hp:=hE p (List.mem_cons_self ..)
  have hi1:=hi.1
  split at h
  ·cases h
  ·have hs:=F.sm_bd (B:=10) (by omega) ((cs.take (p.1+p.2)).drop fr) fun z hz=>hb z (List.mem_of_mem_take (List.mem_of_mem_drop hz))
   have hlen:(((cs.take (p.1+p.2)).drop fr).length:Int)≤(p.1:Int)-fr+2:=by
    rw[List.length_drop,List.length_take];omega
   simp only[List.length_cons]
   rcases List.mem_cons.1 h with rfl | h
   ·omega
   ·have:=Ic hb E p.1 _ (k+1) hi.2 (fun q hq=>hE q (List.mem_cons_of_mem _ hq)) (by omega) (by omega) c h
    omega
theorem gx:GX 30000:=by
 refine⟨fun l hl=>?_⟩
 by_cases h40:40<l.length
 ·have hc:fj 30000 zk l=some 3:=by
   unfold fj
   rw[← fl0,F.checkLaw_eq L0,if_pos v0,Option.bind_some]
   rw[if_neg (by decide),if_pos (by simp only[decide_eq_true_eq];omega)]
  refine⟨FrameGame.mk [] [] 0 false,3,?_,?_,by simp,by simp,by simp⟩
  ·unfold gm
   rw[hc];rfl
  ·have:¬fit l=true:=fun e=>by have:=F.ok_len v0 ((GE l).1 e);omega
   rw[Bool.not_eq_true]at this
   rw[this];rfl
 ·have hr:=F.read_eq L0 l (by omega)
  rw[fl0]at hr
  have hfl:F.flt L0 l=0↔fit l=true:=by
   rw[GE,F.flt_ok]
   exact⟨fun h=>h.2.2,fun h=>⟨v0,by omega,h⟩⟩
  refine⟨_,_,hr,?_,?_⟩
  ·rw[Bool.eq_iff_iff,decide_eq_true_eq];exact hfl
  ·by_cases h0:F.flt L0 l=0
   ·rw[if_pos h0]
    have hk:=(F.flt_ok.1 h0).2.2
    have hA:=F.ainv v0 hk
    have e2:(F.gameA L0 l).fCounts=F.ctsA (F.acc L0 l):=rfl
    have h30:=F.ok_len v0 hk
    have h1:(F.ctsA (F.acc L0 l)).length≤(F.acc L0 l).E.length:=F.cts_len _ _ _ _
    have h2:=hA.fE
    have h3:=hA.inv.f1
    have h4:(L0.fFrames:Int)=3:=rfl
    refine⟨by rw[e2];omega,fun hd=>?_,fun c hc=>?_⟩
    ·have hd:(F.acc L0 l).s.f=L0.fFrames:=by
      have:decide ((F.acc L0 l).s.f=L0.fFrames)=true:=hd
      simpa using this
     have:=F.done_len v0 hk hd
     rw[e2]
     intro e
     rw[e]at this
     simp at this
    ·have hl:=F.len_fold v0 l (n:=0) (F.inv0 v0) hk (by simp[F.s0])
     rw[← F.acc_s]at hl
     have hdn:=hA.inv.dn
     have hhn:=hA.inv.hn
     have hnd:=hA.inv.nd
     have h5:(L0.fBalls:Int)=2:=rfl
     have hcl:=F.acc_len L0 l
     have:=Ic hA.bd (F.acc L0 l).E 0 0 0 (F.incr_A hA) (fun p hp=>(hA.ent p hp).2) (Int.le_refl _) (Int.le_refl _) c (List.mem_of_getLast? hc)
     omega
   ·rw[if_neg h0]
    exact⟨by simp,by simp,by simp⟩
theorem fx:FX 30000:=by
 refine⟨fun l hl=>?_,fun l hf=>?_⟩
 ·rw[F.is_eq v0 l (by omega)]
  rfl
 ·have hk:=(GE l).1 hf
  have h40:=F.ok_len v0 hk
  have h0:F.flt L0 l=0:=F.flt_ok.2 ⟨v0,by omega,hk⟩
  have hr:=F.read_eq L0 l (by omega)
  rw[if_pos h0,h0,fl0]at hr
  have hA:=F.ainv v0 hk
  have hf1:=hA.inv.f1
  unfold fin
  rw[hr]
  by_cases hd:(F.acc L0 l).s.f=L0.fFrames
  ·rw[F.rfinal_eq v0 hk (by omega) hd]
   have h1:=F.done_len v0 hk hd
   have h2:=F.done_last v0 hk hd
   have e1:(F.gameA L0 l).fDone=true:=by show decide _=true;rw[decide_eq_true hd]
   have e2:(F.gameA L0 l).fCounts=F.ctsA (F.acc L0 l):=rfl
   simp only[e1,e2,if_true]
   have h3:(F.ctsA (F.acc L0 l)).length=3:=by
    have:(L0.fFrames:Int)=3:=rfl
    omega
   rw[List.getLast?_eq_getElem?,h3]
   have e3:(L0.fFrames-1:Int)=((2:Nat):Int):=rfl
   rw[e3]at h2
   unfold idx at h2
   rw[if_pos (by omega),Int.toNat_natCast]at h2
   rw[h2];rfl
  ·have e1:(F.gameA L0 l).fDone=false:=by show decide _=false;rw[decide_eq_false hd]
   simp only[e1,Bool.false_eq_true,if_false]
   unfold Cq
   rw[F.play_ok v0 (by omega) hk,Option.bind_some]
   have e2:(F.run L0 (F.s0 L0) l).f<L0.fFrames:=by
    rw[← F.acc_s];omega
   dsimp only
   rw[if_pos (by simp only[decide_eq_true_eq];exact e2),Option.bind_some]
   rfl
end Go.Proofs.YtdodahpkpeodfaaGreatDoor
namespace Go.Proofs.YtdodahpkpeodfaaGreatDoor
open Go.Kp
set_option maxRecDepth 100000
theorem dN{σ R:Type}{b:(σ→WP R)→σ→WP R}{n:Nat}{x:σ}{Q:R→Prop}(h:b (aG b n) x Q):aG b (n+1) x Q:=h
theorem br{α R:Type}{x:Option α}{a:α}{k:α→WP R}{Q:R→Prop}(e:x=some a)(h:k a Q):dO x k Q:=⟨a,e,h⟩
theorem lR{α R:Type}{a:WP R}{b:α→List α→WP R}{Q:R→Prop}(h:a Q):mq [] a b Q:=⟨fun _=>h,fun pre e post hs=>by cases pre<;>cases hs⟩
theorem o7{α R:Type}{x:α}{a:WP R}{b:α→List α→WP R}{Q:R→Prop}(h:b x [] Q):mq [x] a b Q:=by
 refine⟨fun e=>(by cases e),fun pre e post hs=>?_⟩
 cases pre with
 | nil=>cases hs;exact h
 | cons y l=>cases l<;>cases hs
theorem vo{α R:Type}{x:WP α}{k:α→WP R}{Q:R→Prop}(h:x fun a=>k a Q):Go.Kp.bindW x k Q:=h
theorem WGood.bindW{α R:Type}{x:WP α}{k:α→WP R}(hx:WGood x)(h:∀a,WGood (k a)):WGood (Go.Kp.bindW x k) :=
 ⟨fun q=>hx.no (hx.mono _ _ (fun a z=>((h a).no z).elim) q),fun P Q p q=>hx.mono _ _ (fun a z=>(h a).and P Q z.1 z.2) (hx.and _ _ p q),fun P Q m p=>hx.mono _ _ (fun a z=>(h a).mono P Q m z) p⟩
theorem wZ{R:Type}{c:Prop}[Decidable c]{a b:WP R}{Q:R→Prop}(hc:¬c)(h:b Q):(if c then a else b) Q:=by rw[if_neg hc];exact h
theorem qY:gh 30000 (RateBook.mk (RateLaw.mk 90 80 40 3 5) [70,60] [] [])=some ([],0):=by
 unfold gh
 refine vF ?_ ?_
 ·refine WGood.bindO fun z=>?_
  obtain⟨_,_,_,_,_,_,_,_,_,_⟩:=z
  refine .ite (.ret _) (WGood.loop (fun rec x hr=>?_) _ _)
  unfold bx cx
  exact .next (.bindO fun _=>.ret _) fun⟨_,_⟩ _=>.bindO fun _=>hr _
 ·unfold fp
  refine br (a:=(0,90,80,40,3,5,[70,60],[],[],[])) (by kernel_rfl) ?_
  dsimp only
  refine wZ (by decide) ?_
  refine dN (n:=29999) ?_
  unfold bx
  refine lR ?_
  unfold cx
  refine br (a:=[]) (by simp[sortI]) ?_
  rfl
theorem ua(N:Nat)(c1 c2 c3:Int)(c4:List LadderResult)(c5:List LadderPair)(m1:List (Int×LadderResult))(l1:List (Ar2 Int)):WGood (cB N c1 c2 c3 c4 c5 m1 l1):=by
 unfold cB
 refine WGood.loop (fun rec x hr=>?_) _ _
 unfold b8
 refine .ite (.bindO fun _=>.bindO fun _=>WGood.loop (fun rec2 y hr2=>?_) _ _) (by unfold yN;exact .ret _)
 unfold au
 refine .next (by unfold cY;exact hr _) (fun⟨_,_⟩ _=>.bindO fun _=>WGood.loop (fun rec3 z hr3=>?_) _ _)
 unfold aw
 have k3:∀a b,WGood (bi N rec3 a b):=fun a b=>by unfold bi;exact hr3 _
 have k4:∀a b c d e f,WGood (bj N a rec3 b c d e f):=fun a b c d e f=>by unfold bj;exact .ite (k3 _ _) (k3 _ _)
 have k5:∀a b c d e,WGood (yE N a rec3 b c d e):=fun a b c d e=>by unfold yE;exact .bindO fun⟨_,_⟩=>.ite (k4 ..) (k4 ..)
 have k6:∀a b c d e f,WGood (bn N a rec3 b c d e f):=fun a b c d e f=>by unfold bn;exact .ite (.bindO fun _=>k5 ..) (k5 ..)
 have k7:∀a b c d e f g h,WGood (bp N a b rec3 c d e f g h):=fun a b c d e f g h=>by unfold bp;exact .ite (k3 _ _) (.bindO fun _=>.ite (k6 ..) (k6 ..))
 have k8:∀a b c d e f g,WGood (aV N a b rec3 c d e f g):=fun a b c d e f g=>by unfold aV;exact .bindO fun _=>.ite (k7 ..) (k7 ..)
 have k9:∀a b c d e f g h i j,WGood (bq N a b c rec3 d e f g h i j):=fun a b c d e f g h i j=>by unfold bq;exact .ite (k8 ..) (k8 ..)
 have k10:∀a b c d e f g h i,WGood (aY N a b c rec3 d e f g h i):=fun a b c d e f g h i=>by unfold aY;exact .bindO fun⟨_,_⟩=>.ite (k9 ..) (k9 ..)
 have k11:∀a b c d e f g h i j,WGood (aZ N a b c rec3 d e f g h i j):=fun a b c d e f g h i j=>by unfold aZ;exact .ite (.bindO fun _=>k10 ..) (k10 ..)
 have k12:∀a b c d e f g h i,WGood (xV N a b c rec3 d e f g h i):=fun a b c d e f g h i=>by unfold xV;exact .ite (k8 ..) (.bindO fun _=>.ite (k11 ..) (k11 ..))
 exact .next (hr2 _) fun⟨_,_⟩ _=>.bindO fun _=>.bindO fun _=>.ite (k12 ..) (k12 ..)
theorem vp(N:Nat)(c1 c2 c3:Int)(c4:List LadderResult)(c5:List LadderPair)(m1:List (Int×LadderResult))(l1:List (Ar2 Int)):WGood (cC N c1 c2 c3 c4 c5 m1 l1):=by
 unfold cC
 refine WGood.bindW (ua ..) fun m=>WGood.loop (fun rec x hr=>?_) _ _
 unfold aO
 have k2:∀a b,WGood (bG N a rec b):=fun a b=>by unfold bG;exact hr _
 refine .ite (.bindO fun _=>.bindO fun⟨_,_⟩=>.ite (.bindO fun _=>k2 _ _) (k2 _ _)) (by unfold cg;exact .ret _)
theorem ift{R:Type}{c:Bool}{a b:WP R}{Q:R→Prop}(hc:c=true)(h:a Q):(if c=true then a else b) Q:=by rw[if_pos hc];exact h
theorem ife{R:Type}{c:Bool}{a b:WP R}{Q:R→Prop}(hc:c=false)(h:b Q):(if c=true then a else b) Q:=by rw[if_neg (by rw[hc];decide)];exact h
def P2:LadderPair:=LadderPair.mk (LadderSide.mk 0 (-1)) (LadderSide.mk 1 (-1))
theorem w6:fq 30000 1 2 1 [] [LadderPair.mk (LadderSide.mk 0 (-1)) (LadderSide.mk 1 (-1))] [] [Ar2.mk 0 1]=some [0,1]:=by
 unfold fq
 refine vF (vp ..) ?_
 unfold cC
 refine vo ?_
 unfold cB
 refine dN (n:=29999) ?_
 unfold b8
 refine ift (by kernel_rfl) ?_
 refine br (a:=P2) (by kernel_rfl) ?_
 refine br (a:=[(0,0)]) (by kernel_rfl) ?_
 refine dN (n:=29999) ?_
 unfold au
 refine o7 ?_
 dsimp only
 refine br (a:=[(1,0)]) (by kernel_rfl) ?_
 refine dN (n:=29999) ?_
 unfold aw
 refine o7 ?_
 dsimp only
 refine br (a:=-1) (by kernel_rfl) ?_
 refine br (a:=Ar2.mk 0 1) (by kernel_rfl) ?_
 refine ife (by kernel_rfl) ?_
 unfold xV
 refine ife (by kernel_rfl) ?_
 refine br (a:=0) (by kernel_rfl) ?_
 refine ift (by kernel_rfl) ?_
 unfold aZ
 refine ife (by kernel_rfl) ?_
 unfold aY
 refine br (a:=(LadderCheapest.mk 0 0,false)) (by kernel_rfl) ?_
 dsimp only
 refine ift (by kernel_rfl) ?_
 unfold bq
 refine ift (by kernel_rfl) ?_
 unfold aV
 refine br (a:=Ar2.mk 1 0) (by kernel_rfl) ?_
 refine ife (by kernel_rfl) ?_
 unfold bp
 refine ife (by kernel_rfl) ?_
 refine br (a:=0) (by kernel_rfl) ?_
 refine ift (by kernel_rfl) ?_
 unfold bn
 refine ift (by kernel_rfl) ?_
 refine br (a:=1) (by kernel_rfl) ?_
 unfold yE
 refine br (a:=(LadderCheapest.mk 0 0,false)) (by kernel_rfl) ?_
 dsimp only
 refine ift (by kernel_rfl) ?_
 unfold bj
 refine ift (by kernel_rfl) ?_
 change aG _ 29999 _ _
 refine dN (n:=29998) ?_
 try unfold aw
 refine lR ?_
 change aG _ 29999 _ _
 refine dN (n:=29998) ?_
 try unfold au
 refine lR ?_
 change aG _ 29999 _ _
 refine dN (n:=29998) ?_
 try unfold b8
 refine ife (by kernel_rfl) ?_
 try unfold yN ug
 change aG _ 30000 _ _
 refine dN (n:=29999) ?_
 try unfold aO
 refine ift (by kernel_rfl) ?_
 refine br (a:=0) (by kernel_rfl) ?_
 refine br (a:=(LadderCheapest.mk 0 1,true)) (by kernel_rfl) ?_
 dsimp only
 refine ift (by kernel_rfl) ?_
 refine br (a:=[0]) (by kernel_rfl) ?_
 change aG _ 29999 _ _
 refine dN (n:=29998) ?_
 try unfold aO
 refine ift (by kernel_rfl) ?_
 refine br (a:=0) (by kernel_rfl) ?_
 refine br (a:=(LadderCheapest.mk 1 0,true)) (by kernel_rfl) ?_
 dsimp only
 refine ift (by kernel_rfl) ?_
 refine br (a:=[0,1]) (by kernel_rfl) ?_
 change aG _ 29998 _ _
 refine dN (n:=29997) ?_
 try unfold aO
 refine ife (by kernel_rfl) ?_
 try unfold cg
 rfl
theorem bind_ok{α β:Type}{x:Option α}{a:α}{f:α→Option β}{r:Option β}(e:x=some a)(h:f a=r):Option.bind x f=r:=by rw[e];exact h
theorem ofe{β:Type}{c:Bool}{a b r:Option β}(hc:c=false)(h:b=r):(if c=true then a else b)=r:=by rw[if_neg (by rw[hc];decide)];exact h
theorem oft{β:Type}{c:Bool}{a b r:Option β}(hc:c=true)(h:a=r):(if c=true then a else b)=r:=by rw[if_pos hc];exact h
def G7:List (List UInt8):=[[98,111,119,108,101,114,32,55,48],[98,111,119,108,101,114,32,54,48],[111,112,101,110,32,49,32,48],[98,97,108,108,32,49,32,49,48],[98,97,108,108,32,49,32,55],[98,97,108,108,32,49,32,51],[98,97,108,108,32,49,32,52]]
def G8:List (List UInt8):=G7++[[98,97,108,108,32,49,32,53]]
def G12:List (List UInt8):=G8++[[98,97,108,108,32,49,32,50],[111,112,101,110,32,49,32,49],[99,108,111,115,101,32,49],[99,108,111,115,101,32,49]]
def W7:DeskWork:=DeskWork.mk (DeskState.mk [70,60] [(DeskLane.mk (-1) []),(DeskLane.mk 0 [10,7,3,4]),(DeskLane.mk (-1) []),(DeskLane.mk (-1) [])] [[],[]] [] [] [])
def R7:List UInt8:=[108,97,110,101,32,49,32,98,111,119,108,101,114,32,48,32,99,111,117,110,116,115,32,50,48,32,51,52,10,98,111,119,108,101,114,32,48,32,107,101,112,116,32,48,32,115,104,101,101,116,115,32,48,10,98,111,119,108,101,114,32,49,32,107,101,112,116,32,48,32,115,104,101,101,116,115,32,48,10,100,117,101,108,115,32,48,32,49,10]
theorem ub:eM 30000 (LadderCup.mk 1 2 1 [])=some ([0,1],0):=by
 unfold eM
 refine bind_ok (a:=Sum.inr (0,1,2,1,[],[LadderPair.mk (LadderSide.mk 0 (-1)) (LadderSide.mk 1 (-1))],[],[Ar2.mk 0 1])) (by kernel_rfl) ?_
 dsimp only
 refine ofe (by kernel_rfl) ?_
 exact bind_ok w6 rfl
theorem uc:gM 30000 G7=some (R7,0):=by
 unfold gM
 refine bind_ok (a:=0) (by kernel_rfl) ?_
 refine ofe (by kernel_rfl) ?_
 refine bind_ok (a:=([0,0,0,0,0,0,0],W7)) (by kernel_rfl) ?_
 dsimp only
 refine bind_ok (a:=[108,97,110,101,32,49,32,98,111,119,108,101,114,32,48,32,99,111,117,110,116,115,32,50,48,32,51,52,10]) (by kernel_rfl) ?_
 refine bind_ok (a:=RateBook.mk (RateLaw.mk 90 80 40 3 5) [70,60] [] []) (by kernel_rfl) ?_
 refine bind_ok qY ?_
 dsimp only
 refine bind_ok (a:=[108,97,110,101,32,49,32,98,111,119,108,101,114,32,48,32,99,111,117,110,116,115,32,50,48,32,51,52,10,98,111,119,108,101,114,32,48,32,107,101,112,116,32,48,32,115,104,101,101,116,115,32,48,10,98,111,119,108,101,114,32,49,32,107,101,112,116,32,48,32,115,104,101,101,116,115,32,48,10]) (by kernel_rfl) ?_
 refine bind_ok (a:=R7) ?_ (by kernel_rfl)
 refine oft (by kernel_rfl) ?_
 refine bind_ok (a:=LadderCup.mk 1 2 1 []) (by kernel_rfl) ?_
 refine bind_ok ub ?_
 kernel_rfl
theorem vr:cL 30000=some true:=by
 unfold cL
 refine bind_ok (a:=G8) (by kernel_rfl) ?_
 refine bind_ok (a:=G12) (by kernel_rfl) ?_
 refine bind_ok (a:=(DeskState.mk [70,60] [(DeskLane.mk (-1) []),(DeskLane.mk (-1) []),(DeskLane.mk (-1) []),(DeskLane.mk (-1) [])] [[43],[]] [] [] [],[0,0,0,0,0,0,0,0,10,6,0,8],0)) (by kernel_rfl) ?_
 dsimp only
 refine bind_ok (a:=G8) (by kernel_rfl) ?_
 refine bind_ok (a:=G7) (by kernel_rfl) ?_
 refine bind_ok (a:=([20,34],38,54,0)) (by kernel_rfl) ?_
 dsimp only
 refine bind_ok (a:=G8) (by kernel_rfl) ?_
 refine bind_ok (a:=(70,16,0)) (by kernel_rfl) ?_
 dsimp only
 refine bind_ok (a:=G8) (by kernel_rfl) ?_
 refine bind_ok (a:=G7) (by kernel_rfl) ?_
 refine bind_ok uc ?_
 dsimp only
 refine bind_ok (a:=([60,48,48,49,124,48,48,50,48,57,62,97,10],0)) (by kernel_rfl) ?_
 kernel_rfl
end Go.Proofs.YtdodahpkpeodfaaGreatDoor
namespace Go.Proofs.YtdodahpkpeodfaaGreatDoor
open Go.Kp
variable {N:Nat}
theorem G5{i:Nat}{s:DeskState}(h:SI i s)(hi:i≤60)(hN:20000≤N):DD N s (tr s)=some true:=by
 have hbl:=h.bl
 have hwl:=h.wl
 have hkl:=h.kl
 have hsl:=h.sl
 have hrl:=h.rl
 obtain⟨l0,l1,l2,l3,hl⟩:=F8 h.la
 have c0:=(h.lb l0 (by rw[hl];simp)).2.2
 have c1:=(h.lb l1 (by rw[hl];simp)).2.2
 have c2:=(h.lb l2 (by rw[hl];simp)).2.2
 have c3:=(h.lb l3 (by rw[hl];simp)).2.2
 have k1:CQ N s (st4 s l0 l1 l2 l3)=some true:=by
  unfold CQ
  exact rY (N:=N) (B:=fun rec5 x=>CP N s (st4 s l0 l1 l2 l3) rec5 x) s.fResults (fun i=>(i:Int)) (fun _=>some true)
   (fun rec=>by unfold CP Da;rw[if_neg (by simp)])
   (fun j x rec hx ih=>by
    have hlt:=lP hx
    have hg:=h.rg x (List.mem_of_getElem? hx)
    have hx2:(st4 s l0 l1 l2 l3).fResults[j]? = some (Db x):=by show(s.fResults.map Db)[j]? = _;rw[List.getElem?_map,hx];rfl
    unfold CP
    rw[if_pos (by simp only[decide_eq_true_eq];omega),ij hx,Option.bind_some,ij hx2,Option.bind_some,Option.bind_some]
    dsimp only
    rw[show(Db x).fMatch=x.fMatch from rfl,show(Db x).fGames=x.fGames from rfl,show(Db x).fProtested=x.fProtested from rfl,zP _ _ (by omega) hN]
    simp[fN (i:=j) (by omega)]
    exact ih)
   (by omega)
 have k2:CS N s (st4 s l0 l1 l2 l3)=some true:=by
  unfold CS
  exact rY (N:=N) (B:=fun rec6 x=>CR N s (st4 s l0 l1 l2 l3) rec6 x) s.fSheets (fun i=>(i:Int)) (fun _=>some true)
   (fun rec=>by unfold CR;rw[if_neg (by simp)];exact k1)
   (fun j x rec hx ih=>by
    have hlt:=lP hx
    have hx2:(st4 s l0 l1 l2 l3).fSheets[j]? = some (Dr x):=by show(s.fSheets.map Dr)[j]? = _;rw[List.getElem?_map,hx];rfl
    unfold CR
    rw[if_pos (by simp only[decide_eq_true_eq];omega),ij hx,Option.bind_some,ij hx2,Option.bind_some,Option.bind_some]
    simp[Dr,fN (i:=j) (by omega)]
    exact ih)
   (by omega)
 have k3:loopN (fun rec7 x=>Cu N s (st4 s l0 l1 l2 l3) rec7 x) N 0=some true :=
  rY (N:=N) (B:=fun rec7 x=>Cu N s (st4 s l0 l1 l2 l3) rec7 x) s.fKept (fun i=>(i:Int)) (fun _=>some true)
   (fun rec=>by unfold Cu;rw[if_neg (by simp)];exact k2)
   (fun j x rec hx ih=>by
    have hlt:=lP hx
    have hg:=h.kb x (List.mem_of_getElem? hx)
    have hx2:(st4 s l0 l1 l2 l3).fKept[j]? = some x:=hx
    unfold Cu
    rw[if_pos (by simp only[decide_eq_true_eq];omega),ij hx,Option.bind_some,ij hx2,Option.bind_some,zP _ _ (by omega) hN,Option.bind_some]
    simp[fN (i:=j) (by omega)]
    exact ih)
   (by omega)
 rw[D2 hl]
 unfold DD
 rw[k3]
 have i0:idx s.fLanes 0=some l0:=by rw[hl];rfl
 have i1:idx s.fLanes 1=some l1:=by rw[hl];rfl
 have i2:idx s.fLanes 2=some l2:=by rw[hl];rfl
 have i3:idx s.fLanes 3=some l3:=by rw[hl];rfl
 have e4:(s.fLanes.length:Int)=4:=by rw[h.la];rfl
 rw[i0,i1,i2,i3,e4]
 simp only[st4,Cv,Option.bind_some,List.length_map,zP _ _ (show s.fBowlers.length≤1000 by omega) hN,zP _ _ (show s.fWithdrawn.length≤1000 by omega) hN,zP _ _ (show l0.fBalls.length≤1000 by omega) hN,zP _ _ (show l1.fBalls.length≤1000 by omega) hN,zP _ _ (show l2.fBalls.length≤1000 by omega) hN,zP _ _ (show l3.fBalls.length≤1000 by omega) hN,decide_true,Bool.not_true,Bool.false_eq_true,if_false]
theorem Gf(N:Nat)(hG:GX N)(hF:FX N)(hN:20000≤N)(hw:cL N=some true)(lines:List (List UInt8)):BZ N lines=some true:=by
 unfold BZ
 obtain⟨b,hb,hs⟩:=vC (N:=N) lines hN
 rw[hb,Option.bind_some]
 cases b with
 | false=>simp only[Bool.not_false,if_true,hw,Option.bind_some]
 | true =>
  obtain⟨h55,h210⟩:=hs rfl
  simp only[Bool.not_true,Bool.false_eq_true,if_false]
  rw[Cb lines (by omega),Option.bind_some,HW lines h55 hN]
  cases hr:Ea lines with
  | false =>
   have hp:nE N lines=some (DeskState.mk [] [] [] [] [] [],[],3):=by
    unfold nE
    rw[G6 lines h55 hN]
    show Option.bind (some (if Ea lines=true then 0 else 3)) _=_
    rw[hr];rfl
   rw[hp,Option.bind_some]
   simp only[Bool.false_eq_true,if_false,Option.bind_some]
   rw[if_pos (by decide),if_pos (by decide),if_pos (by decide),show DW N (DeskState.mk [] [] [] [] [] [])=some true from rfl,Option.bind_some,if_pos rfl,hw]
   rfl
  | true =>
   obtain⟨h200,h50⟩:=Ge.1 hr
   rw[BX hG hN lines h50 h200,Option.bind_some]
   simp only[if_true,Option.bind_some]
   rw[if_neg (by decide),HU hG hF hN lines h55 h210,Option.bind_some]
   dsimp only
   have hA:=Bq (N:=N) hN lines AU (by omega)
   have hlen:=Bb (N:=N) lines st0
   rw[G5 hA (by omega) hN]
   simp only[decide_true,Bool.not_true,Bool.false_eq_true,if_false,Option.bind_some]
   generalize zB N st0 lines=es at hlen
   exact rY (N:=N) (B:=fun rec3 x=>zl N es es rec3 x) es (fun i=>(i:Int)) (fun _=>some true)
    (fun rec=>by unfold zl Bx;rw[if_neg (by simp),hw];rfl)
    (fun j x rec hx ih=>by
     have hlt:=lP hx
     unfold zl
     rw[if_pos (by simp only[decide_eq_true_eq];omega),ij hx,Option.bind_some,Option.bind_some]
     simp[fN (i:=j) (by omega)]
     exact ih)
    (by omega)
theorem G9(lines:List (List UInt8)):BZ 30000 lines=some true:=Gf 30000 gx fx (by omega) vr lines
end Go.Proofs.YtdodahpkpeodfaaGreatDoor
