/-
  The plain part.
-/
import Derived.Test.YtdodahpkpeodfaaGreatDoorDDeskReports
import Derived.Test.YtdodahpkpeodfaaGreatDoorDef
import Derived.Test.YtdodahpkpeodfaaGreatDoorLib
import Derived.KernelRfl
set_option linter.all false
open Bool renaming and_eq_true→wH,and_self→CS,and_true→Cf,eq_false_iff→xi,false_eq_true→IE,not_eq_true'→zZ,not_false→Da,not_true→yo
open Int renaming natCast_zero→yN,toNat_natCast→JD
open List renaming append_assoc→zb,dropLast_concat_getLast→G9,drop_append_of_le_length→GK,drop_eq_getElem_cons→zp,drop_eq_nil_of_le→AW,drop_length→Ci,drop_zero→Em,eq_nil_of_length_eq_zero→JB,foldl_cons→wx,getD_eq_getElem?_getD→A5,getElem?_append→JI,getElem?_append_left→za,getElem?_append_right→zL,getElem?_drop→A6,getElem?_eq_getElem→IX,getElem?_eq_none→AG,getElem?_map→Jr,getElem?_of_mem→AH,getElem?_set→Bq,getElem?_take→Am,getElem_mem→Be,isPrefixOf→Ez,length_append→Js,length_cons→IS,length_map→Ia,length_nil→yf,length_range→Bn,length_singleton→BG,length_take→JC,map_append→zR,map_cons→xZ,mem_append→AL,mem_append_left→EG,mem_cons_of_mem→AK,mem_cons_self→zV,mem_of_getElem?→Jm,mem_of_mem_drop→By,mem_of_mem_take→JA,mem_or_eq_of_mem_set→BP,mem_singleton→EP,nil_append→y9,pairwise_append→Gq,pairwise_cons→En,range→Jq,take_append_drop→BL,take_append_of_le_length→Ds,take_length→A4,take_of_length_le→Df
open Nat renaming eq_zero_or_pos→Cd,le_refl→H9,le_trans→zW,lt_or_ge→AC,mul_le_mul_right→BO,pow_le_pow_right→Gz,pow_succ→Ev,sub_self→El,zero_add→Jp,zero_le→ye
open Option renaming bind→Ha,bind_some→Hj,getD_some→Bf,map_some→zn
namespace Go.Proofs.YtdodahpkpeodfaaGreatDoor.F
open Go.Kp
structure FrameGoal where
 fAt:qZ
 fLeft:Int
 deriving DecidableEq
structure Ref01Tail where
 fStand:nT
 fOne:Int
 fTwo:Int
 deriving DecidableEq
theorem bE{n:Int}(h1:-9223372036854775808≤n)(h2:n≤9223372036854775807):w64 n=n:=by
 unfold w64 Go.IntKind.wrap
 simp only[Go.IntKind.bits,Go.IntKind.signed,Bool.true_and]
 split
 ·rename_i h
  simp only[ge_iff_le,decide_eq_true_eq]at h
  omega
 ·rename_i h
  simp only[ge_iff_le,decide_eq_true_eq]at h
  omega
theorem IR{α R:Type}{x:Option α}{a:α}(F:α→Option R)(hx:x=some a):(Ha x fun p=>F p)=F a:=by subst hx;rfl
structure V(l:bW):Prop where
 f1:1≤l.bv
 f2:l.bv≤10
 p1:1≤l.gV
 p2:l.gV≤10
 b1:2≤l.ar
 b2:l.ar≤3
 t1:1≤l.sd
 t2:l.sd≤l.gV
instance (l:bW):Decidable (V l):=decidable_of_iff (1≤l.bv∧l.bv≤10∧1≤l.gV∧l.gV≤10∧2≤l.ar∧l.ar≤3∧1≤l.sd∧l.sd≤l.gV)
 ⟨fun⟨a,b,c,d,e,f,g,h⟩=>⟨a,b,c,d,e,f,g,h⟩,fun h=>⟨h.f1,h.f2,h.p1,h.p2,h.b1,h.b2,h.t1,h.t2⟩⟩
def fl (l:bW):og:=⟨l.bv,l.gV,l.ar,l.sd⟩
theorem AB(n a b:Int):db 30000 n a b=some (decide (a≤n∧n≤b)):=by
 unfold db
 by_cases h:a≤n<;>simp[h]
theorem GD(n a b:Int):Ef 30000 n a b=some (decide (a≤n∧n≤b)):=by
 unfold Ef
 by_cases h:a≤n<;>simp[h]
theorem checkLaw_eq(l:bW):Lq 30000 (fl l)=some (if V l then 0 else 1):=by
 unfold Lq fl
 simp only[AB,Hj]
 by_cases h:V l
 ·have:=h.f1;have:=h.f2;have:=h.p1;have:=h.p2;have:=h.b1;have:=h.b2;have:=h.t1;have:=h.t2
  simp[*]
 ·have h2:¬(1≤l.bv∧l.bv≤10∧1≤l.gV∧l.gV≤10∧2≤l.ar∧l.ar≤3∧1≤l.sd∧l.sd≤l.gV):=fun⟨a,b,c,d,e,f,g,h'⟩=>h ⟨a,b,c,d,e,f,g,h'⟩
  simp only[h,if_false]
  by_cases c1:1≤l.bv∧l.bv≤10<;>by_cases c2:1≤l.gV∧l.gV≤10<;>by_cases c3:2≤l.ar∧l.ar≤3<;>by_cases c4:1≤l.sd∧l.sd≤l.gV<;>simp[c1,c2,c3,c4]<;>omega
structure S where
 f:Int
 h:Int
 p:Int
 fr:Bool
 nd:Int
 a:Int
 c:Int
 deriving DecidableEq
def S.stand(s:S):nT:=⟨s.f,s.h,s.p,s.fr,s.nd⟩
def S.tail(s:S):Ref01Tail:=⟨s.stand,s.a,s.c⟩
def S.at (s:S):qZ:=⟨s.f,s.h,s.p,s.fr,s.nd,⟨s.a,s.c⟩⟩
def S.play(l:bW)(s:S):ii:=⟨fl l,s.at⟩
def s0 (l:bW):S:=⟨0,0,l.gV,true,l.ar,0,0⟩
def cnt (l:bW)(s:S)(b:Int):Int:=if s.fr=true∧l.sd≤max 0 b then l.gV else max 0 b
def wor (l:bW)(s:S)(b:Int):Int:=cnt l s b*(1+s.a)
def CC (l:bW)(s:S)(n:Int):S :=
 if s.f=l.bv-1 then
  if s.p=n∧s.h+1<3 then⟨s.f,s.h+1,l.gV,true,3,s.c,0⟩
  else if s.h+1=s.nd then⟨s.f+1,0,l.gV,true,l.ar,s.c,0⟩
  else⟨s.f,s.h+1,s.p-n,false,s.nd,s.c,0⟩
 else if s.p=n then⟨s.f+1,0,l.gV,true,l.ar,s.c+(if s.h+1≤2 then 1 else 0),if s.h+1=1 then 1 else 0⟩
 else if s.h+1=s.nd then⟨s.f+1,0,l.gV,true,l.ar,s.c,0⟩
 else⟨s.f,s.h+1,s.p-n,false,s.nd,s.c,0⟩
def nxt (l:bW)(s:S)(b:Int):S:=CC l s (cnt l s b)
structure Inv(l:bW)(s:S):Prop where
 f0:0≤s.f
 f1:s.f≤l.bv
 h0:0≤s.h
 hn:s.h<s.nd
 nd:s.nd=l.ar∨(s.nd=3∧s.f=l.bv-1)
 p0:1≤s.p
 p1:s.p≤l.gV
 fr:s.fr=true→s.p=l.gV
 h00:s.h=0→s.fr=true
 hfr:s.fr=true→s.h=0∨(s.f=l.bv-1∧s.nd=3)
 a0:0≤s.a
 a2:s.a≤2
 c0:0≤s.c
 c1:s.c≤1
 dn:s.f=l.bv→s.h=0
def may (l:bW)(s:S)(b:Int):Prop:=s.f<l.bv∧-1≤b∧b≤s.p
instance (l:bW) (s:S) (b:Int):Decidable (may l s b):=inferInstanceAs (Decidable (_∧_))
theorem inv0{l:bW}(h:V l):Inv l (s0 l):=by
 have:=h.f1;have:=h.p1;have:=h.b1
 constructor<;>simp[s0]<;>omega
theorem DS{l:bW}{s:S}(hV:V l)(hi:Inv l s){b:Int}(hb:b≤s.p):0≤cnt l s b∧cnt l s b≤s.p:=by
 have:=hi.p0;have:=hi.fr;have:=hV.p1
 unfold cnt
 split
 ·rename_i h;have:=hi.fr h.1;omega
 ·omega
theorem HZ{l:bW}{s:S}(hV:V l)(hi:Inv l s)(hf:s.f<l.bv){n:Int}(h0:0≤n)(h1:n≤s.p):Inv l (CC l s n):=by
 obtain⟨f0,f1,h0',hn,nd,p0,p1,fr,h00,hfr,a0,a2,c0,c1,dn⟩:=hi
 obtain⟨v1,v2,v3,v4,v5,v6,v7,v8⟩:=hV
 unfold CC
 split
 ·split
  ·constructor<;>simp<;>omega
  ·split
   ·constructor<;>simp<;>omega
   ·constructor<;>simp<;>omega
 ·split
  ·constructor<;>simp<;>(try split)<;>(try split)<;>omega
  ·split
   ·constructor<;>simp<;>omega
   ·constructor<;>simp<;>omega
theorem D0{l:bW}{s:S}(hV:V l)(hi:Inv l s){b:Int}(hf:s.f<l.bv)(hb:b≤s.p):Inv l (nxt l s b) :=
 HZ hV hi hf (DS hV hi hb).1 (DS hV hi hb).2
theorem Jf{n a:Int}(h0:0≤n)(h1:n≤10)(h2:0≤a)(h3:a≤2):w64 (n*w64 (1+a))=n*(1+a):=by
 rw[bE (n:=1+a) (by omega) (by omega)]
 have:a=0∨a=1∨a=2:=by omega
 rcases this with rfl | rfl | rfl<;>exact bE (by omega) (by omega)
theorem B9{l:bW}{s:S}(hV:V l)(hi:Inv l s){b:Int}(hf:s.f<l.bv)(hb:b≤s.p) :
  bA 30000 (s.play l) b=some ((nxt l s b).play l,cnt l s b,wor l s b):=by
 have hc:=DS hV hi hb
 unfold bA
 have e1:(Ha (if(S.play l s).fAt.qk=true then some (max 0 b,decide ((S.play l s).fu.sd≤max 0 b))else some (max 0 b,false)) fun(v4,v5)=>if v5=true then some (S.play l s).fu.gV else some v4)=some (cnt l s b):=by
  show(Ha (if s.fr=true then some (max 0 b,decide (l.sd≤max 0 b))else some (max 0 b,false)) fun(v4,v5)=>if v5=true then some l.gV else some v4)=some (cnt l s b)
  unfold cnt
  by_cases h1:s.fr=true
  ·by_cases h2:l.sd≤max 0 b<;>simp[h1,h2]
  ·simp[h1]
 rw[e1]
 unfold nxt wor
 generalize cnt l s b=n at hc ⊢
 clear e1
 obtain⟨f0,f1,h0',hn,nd,p0,p1,fr,h00,hfr,a0,a2,c0,c1,dn⟩:=hi
 obtain⟨v1,v2,v3,v4,v5,v6,v7,v8⟩:=hV
 obtain⟨f,h,p,fr',nd',a,c⟩:=s
 simp only at *
 simp only[Hj,S.play,S.at,fl]
 have e2:=Jf hc.1 (by omega) a0 a2
 have e3:=bE (n:=l.bv-1) (by omega) (by omega)
 have e4:=bE (n:=p-n) (by omega) (by omega)
 have e5:=bE (n:=h+1) (by omega) (by omega)
 have e6:=bE (n:=c+1) (by omega) (by omega)
 have e7:=bE (n:=f+1) (by omega) (by omega)
 have e8:w64 (0+1)=1:=by decide
 have e0:w64 1=1:=by decide
 have e9:=bE (n:=l.bv) (by omega) (by omega)
 simp only[e2,e3,e4,e5]
 unfold CC
 have hh:h=0∨h=1∨h=2:=by omega
 have hnd3:nd'=2∨nd'=3:=by omega
 by_cases hl:f=l.bv-1
 ·by_cases hd:p=n
  ·have hd':p-n=0:=by omega
   rcases hh with rfl | rfl | rfl
   ·simp[hl,hd,e7]
   ·simp[hl,hd,e7]
   ·have:nd'=3:=by omega
    subst this
    simp[hl,hd,e9]
  ·have hd':¬p-n=0:=by omega
   by_cases hq:h+1=nd'
   ·simp[hl,hd,hd',e9,hq]
   ·simp[hl,hd,hd',e9,hq]
 ·by_cases hd:p=n
  ·have hd':p-n=0:=by omega
   have:¬f=l.bv-1:=hl
   rcases hh with rfl | rfl | rfl
   ·simp[hl,hd,e7,e6,e8,e0]
   ·simp[hl,hd,e7,e6,e8,e0]
   ·simp[hl,hd,e7,e6,e8,e0]
  ·have hd':¬p-n=0:=by omega
   by_cases hq:h+1=nd'
   ·simp[hl,hd,hd',e7,hq]
   ·simp[hl,hd,hd',e7,hq]
theorem H0{l:bW}{s:S}(hV:V l)(hi:Inv l s){b:Int}(hf:s.f<l.bv)(hb:b≤s.p) :
  Di 30000 l s.stand b=some ((nxt l s b).stand,cnt l s b):=by
 have hc:=DS hV hi hb
 unfold Di
 have e1:(Ha (if decide (b<0)=true then some 0 else some b) fun v1=>Ha (Ha (if s.stand.ww=true then some (decide (l.sd≤v1))else some false) fun v4=>if v4=true then some l.gV else some v1) fun v3=>some v3)=some (cnt l s b):=by
  have hm:(if decide (b<0)=true then some (0:Int)else some b)=some (max 0 b):=by
   by_cases h:b<0
   ·have:max 0 b=0:=by omega
    simp[h,this]
   ·have:max 0 b=b:=by omega
    simp[h,this]
  rw[hm]
  show(Ha (some (max 0 b)) fun v1=>Ha (Ha (if s.fr=true then some (decide (l.sd≤v1))else some false) fun v4=>if v4=true then some l.gV else some v1) fun v3=>some v3)=some (cnt l s b)
  unfold cnt
  by_cases h1:s.fr=true
  ·by_cases h2:l.sd≤max 0 b<;>simp[h1,h2]
  ·simp[h1]
 obtain⟨v1,q1,q2⟩:=obind e1
 obtain⟨v3,q3,q4⟩:=obind q2
 cases q4
 rw[q1]
 simp only[Hj]
 rw[q3]
 unfold nxt
 generalize cnt l s b=n at hc ⊢
 clear e1 q1 q2 q3
 obtain⟨f0,f1,h0',hn,nd,p0,p1,fr,h00,hfr,a0,a2,c0,c1,dn⟩:=hi
 obtain⟨v1,v2,v3,v4,v5,v6,v7,v8⟩:=hV
 obtain⟨f,h,p,fr',nd',a,c⟩:=s
 simp only at *
 simp only[Hj,S.stand]
 have e3:=bE (n:=l.bv-1) (by omega) (by omega)
 have e4:=bE (n:=p-n) (by omega) (by omega)
 have e5:=bE (n:=h+1) (by omega) (by omega)
 have e7:=bE (n:=f+1) (by omega) (by omega)
 have e9:=bE (n:=l.bv) (by omega) (by omega)
 simp only[e3,e4,e5,e7]
 unfold CC
 have hh:h=0∨h=1∨h=2:=by omega
 by_cases hl:f=l.bv-1
 ·have hl':¬f<l.bv-1:=by omega
  by_cases hd:p=n
  ·have hd':p-n=0:=by omega
   rcases hh with rfl | rfl | rfl
   ·simp[hl,hd]
   ·simp[hl,hd]
   ·have:nd'=3:=by omega
    subst this
    simp[hl,hd]
  ·have hd':¬p-n=0:=by omega
   by_cases hq:h+1=nd'
   ·simp[hl,hd,hd',hq]
   ·simp[hl,hd,hd',hq]
 ·have hl':f<l.bv-1:=by omega
  have:nd'=l.ar:=by omega
  subst this
  by_cases hd:p=n
  ·have hd':p-n=0:=by omega
   simp[hl,hl',hd]
  ·have hd':¬p-n=0:=by omega
   by_cases hq:h+1=l.ar
   ·simp[hl,hl',hd,hd',hq]
   ·simp[hl,hl',hd,hd',hq]
theorem Is{l:bW}{s:S}{n:Int}(hh:s.h=0∨s.h=1∨s.h=2) :
  (CC l s n).a=s.c+(if s.f≠l.bv-1∧s.p=n∧s.h+1≤2 then 1 else 0)∧(CC l s n).c=if s.f≠l.bv-1∧s.p=n∧s.h+1=1 then 1 else 0:=by
 unfold CC
 by_cases hl:s.f=l.bv-1
 ·simp only[hl,ne_eq,not_true,false_and,if_false,if_true]
  split
  ·simp
  ·split<;>simp
 ·by_cases hd:s.p=n
  ·simp[hl,hd]
  ·simp only[hl,hd,if_false,false_and,and_false]
   split<;>simp
end Go.Proofs.YtdodahpkpeodfaaGreatDoor.F
namespace Go.Proofs.YtdodahpkpeodfaaGreatDoor.F
open Go.Kp
theorem Al{l:bW}{s:S}(hi:Inv l s)(b:Int):dx 30000 (s.play l) b=some (decide (may l s b)):=by
 unfold dx cT
 simp only[AB,Hj]
 have:=hi.f1
 show(Ha (if(!decide (s.f=l.bv))=true then some (decide (-1≤b∧b≤s.p))else some false) fun v1=>some v1)=_
 unfold may
 by_cases h:s.f=l.bv
 ·simp[h]
 ·have:s.f<l.bv:=by omega
  simp[h,this]
theorem It(l:bW)(s:S)(b:Int):Dv 30000 l s.stand b=some (decide (may l s b)):=by
 unfold Dv
 simp only[GD,Hj]
 show(Ha (if decide (s.f<l.bv)=true then some (decide (-1≤b∧b≤s.p))else some false) fun v1=>some v1)=_
 unfold may
 by_cases h:s.f<l.bv<;>simp[h]
def zu (l:bW):S→List Int→Nat
 | _,[]=>0
 | s,b::bs=>if may l s b then zu l (nxt l s b) bs+1 else 0
def run (l:bW):S→List Int→S
 | s,[]=>s
 | s,b::bs=>run l (nxt l s b) bs
def Ok (l:bW):S→List Int→Prop
 | _,[]=>True
 | s,b::bs=>may l s b∧Ok l (nxt l s b) bs
instance instOk (l:bW):(s:S)→(bs:List Int)→Decidable (Ok l s bs)
 | _,[]=>isTrue trivial
 | s,b::bs=>match inferInstanceAs (Decidable (may l s b)),instOk l (nxt l s b) bs with
  | isTrue h,isTrue k=>isTrue ⟨h,k⟩
  | isFalse h,_=>isFalse fun x=>h x.1
  | _,isFalse k=>isFalse fun x=>k x.2
def DF (l:bW):S→List Int→List pf
 | _,[]=>[]
 | s,b::bs=>⟨s.f,cnt l s b⟩::DF l (nxt l s b) bs
theorem AM(l:bW):∀(s:S) (bs:List Int),zu l s bs≤bs.length
 | _,[]=>H9 _
 | s,b::bs=>by
  unfold zu
  split
  ·have:=AM l (nxt l s b) bs;simp;omega
  ·simp
theorem EA(l:bW):∀(s:S) (bs:List Int),Ok l s bs↔zu l s bs=bs.length
 | _,[]=>by simp[Ok,zu]
 | s,b::bs=>by
  unfold zu Ok
  have:=EA l (nxt l s b) bs
  split
  ·rename_i h;simp[h,this]
  ·rename_i h;simp[h]
theorem ok_app(l:bW):∀(s:S) (xs ys:List Int),Ok l s (xs++ys)↔Ok l s xs∧Ok l (run l s xs) ys
 | _,[],ys=>by simp[Ok,run]
 | s,x::xs,ys=>by
  show(may l s x∧Ok l (nxt l s x) (xs++ys))↔(may l s x∧Ok l (nxt l s x) xs)∧Ok l (run l (nxt l s x) xs) ys
  rw[ok_app l (nxt l s x) xs ys,and_assoc]
theorem we(l:bW):∀(s:S) (xs ys:List Int),run l s (xs++ys)=run l (run l s xs) ys
 | _,[],ys=>rfl
 | s,x::xs,ys=>we l (nxt l s x) xs ys
theorem Ei(l:bW):∀(s:S) (xs:List Int),(DF l s xs).length=xs.length
 | _,[]=>rfl
 | s,x::xs=>by show _+1=_;rw[Ei l (nxt l s x) xs];rfl
theorem GI{l:bW}(hV:V l):∀{s:S} {bs:List Int},Inv l s→Ok l s bs→Inv l (run l s bs)
 | _,[],hi,_=>hi
 | s,b::bs,hi,hk=>by
  have:=GI hV (s:=nxt l s b) (bs:=bs) (D0 hV hi hk.1.1 hk.1.2.2) hk.2
  exact this
theorem ij{α:Type}{l:List α}{i:Nat}{x:α}(h:l[i]? = some x):idx l (i:Int)=some x:=by
 unfold idx;simp[h]
theorem E5{α:Type}{l:List α}{i:Nat}(h:i<l.length):∃x,l[i]? = some x∧l.drop i=x::l.drop (i+1):=by
 refine⟨l[i],by simp[h],?_⟩
 rw[zp h]
theorem Aq{σ R ι:Type}{b:(σ→Option R)→σ→Option R}(x:ι→σ)(f:ι→Option R)(μ:ι→Nat)(ok:ι→Prop)
  (h:∀i rec,ok i→(∀j,ok j→μ j<μ i→rec (x j)=f j)→b rec (x i)=f i):∀(n:Nat) (i:ι),ok i→μ i<n→loopN b n (x i)=f i:=by
 intro n
 induction n with
 | zero=>intro x _ hx;omega
 | succ n ih=>intro x hx hn;exact h x _ hx fun y hy hlt=>ih y hy (by omega)
theorem Hb{l:bW}(hV:V l)(sheet:List Int)(hn:sheet.length≤45):jy 30000 (fl l) sheet=some (zu l (s0 l) sheet:Int):=by
 have key:loopN (fun rec3 x=>de 30000 sheet rec3 x.1 x.2.1 x.2.2.1 x.2.2.2) 30000 ((sheet.length:Int),0,(s0 l).play l,0)=some (zu l (s0 l) sheet:Int):=by
  have h:=Aq (ι:=Nat×S) (b:=fun rec3 x=>de 30000 sheet rec3 x.1 x.2.1 x.2.2.1 x.2.2.2) (fun i=>((sheet.length:Int),(i.1:Int),i.2.play l,(i.1:Int))) (fun i=>some ((i.1+zu l i.2 (sheet.drop i.1):Nat):Int))
   (fun i=>sheet.length-i.1) (fun i=>i.1≤sheet.length∧Inv l i.2) ?_ 30000 (0,s0 l) ⟨ye _,inv0 hV⟩ (by simp;omega)
  ·simpa using h
  ·rintro⟨i,s⟩ rec ⟨hi,hI⟩ ih
   simp only at hi hI ih ⊢
   unfold de
   by_cases hlt2:i<sheet.length
   ·obtain⟨x,hx,hd⟩:=E5 hlt2
    rw[if_pos (by simpa using hlt2),ij hx]
    simp only[Hj,Al hI]
    rw[hd]
    by_cases hm:may l s x
    ·simp only[hm,decide_true,yo,IE,if_false]
     rw[B9 hV hI hm.1 hm.2.2]
     simp only[Hj]
     rw[bE (by omega) (by omega)]
     have:=ih (i+1,nxt l s x) ⟨by omega,D0 hV hI hm.1 hm.2.2⟩ (by simp only;omega)
     simp only at this
     rw[show((i:Int)+1)=((i+1:Nat):Int) by omega,this]
     simp only[zu,hm,if_true]
     congr 2
     omega
    ·simp[hm,zu]
   ·rw[if_neg (by simpa using hlt2),AW (by omega)]
    simp[zu]
 unfold jy cS bL
 simp only[Hj]
 have e:(ii.mk (fl l) (qZ.mk 0 0 (fl l).gV true (fl l).ar (Ar2.mk 0 0)))=(s0 l).play l:=rfl
 rw[e,key]
 rfl
theorem nL{α:Type}{l m:List α}(h:l.length+m.length≤30000):app 30000 l m=some (l++m):=by
 unfold app;rw[if_pos h]
theorem Cb{xs:List Int}(h:xs.length≤30000):gc 30000 xs=some xs:=by
 unfold gc
 rw[nL (by simpa using h)]
 rfl
theorem Ca{l:bW}(hV:V l)(sheet:List Int)(hn:sheet.length≤90) :
  Ct 30000 l sheet=some ((run l (s0 l) (sheet.take (zu l (s0 l) sheet))).stand,DF l (s0 l) (sheet.take (zu l (s0 l) sheet))):=by
 have key:loopN (fun rec3 x=>CG 30000 l sheet rec3 x.1 x.2.1 x.2.2) 30000 (0,(s0 l).stand,[]) =
   some ((run l (s0 l) (sheet.take (zu l (s0 l) sheet))).stand,DF l (s0 l) (sheet.take (zu l (s0 l) sheet))):=by
  have h:=Aq (ι:=Nat×S×List pf) (b:=fun rec3 x=>CG 30000 l sheet rec3 x.1 x.2.1 x.2.2) (fun i=>((i.1:Int),i.2.1.stand,i.2.2))
   (fun i=>some ((run l i.2.1 ((sheet.drop i.1).take (zu l i.2.1 (sheet.drop i.1)))).stand,i.2.2++DF l i.2.1 ((sheet.drop i.1).take (zu l i.2.1 (sheet.drop i.1)))))
   (fun i=>sheet.length-i.1) (fun i=>i.1≤sheet.length∧Inv l i.2.1∧i.2.2.length≤i.1) ?_ 30000 (0,s0 l,[]) ⟨ye _,inv0 hV,H9 _⟩ (by simp;omega)
  ·simpa using h
  ·rintro⟨i,s,o⟩ rec ⟨hi,hI,ho⟩ ih
   simp only at hi hI ho ih ⊢
   unfold CG
   by_cases hlt2:i<sheet.length
   ·obtain⟨x,hx,hd⟩:=E5 hlt2
    rw[if_pos (by simpa using hlt2),ij hx]
    simp only[Hj,It]
    rw[hd]
    by_cases hm:may l s x
    ·simp only[hm,decide_true,if_true]
     rw[H0 hV hI hm.1 hm.2.2]
     simp only[Hj]
     rw[bE (by omega) (by omega),nL (by simp;omega)]
     simp only[Hj]
     have:=ih (i+1,nxt l s x,o++[⟨s.f,cnt l s x⟩]) ⟨by omega,D0 hV hI hm.1 hm.2.2,by simp;omega⟩ (by simp only;omega)
     simp only at this
     show rec ((i:Int)+1,(nxt l s x).stand,o++[⟨s.f,cnt l s x⟩])=_
     rw[show((i:Int)+1)=((i+1:Nat):Int) by omega,this]
     simp[zu,hm,run,DF]
    ·simp[hm,zu,run,DF]
   ·rw[if_neg (by simpa using hlt2),AW (by omega)]
    simp[zu,run,DF]
 unfold Ct DK
 simp only[Hj]
 have e:(nT.mk 0 0 l.gV true l.ar)=(s0 l).stand:=rfl
 rw[e,key]
 rfl
theorem H1{l:bW}{s:S}{sheet:List Int}(h:Ok l s sheet):sheet.take (zu l s sheet)=sheet:=by
 rw[(EA l s sheet).1 h,A4]
theorem play_ok{l:bW}(hV:V l){sheet:List Int}(hn:sheet.length≤90)(h:Ok l (s0 l) sheet):Ct 30000 l sheet=some ((run l (s0 l) sheet).stand,DF l (s0 l) sheet):=by
 rw[Ca hV sheet hn,H1 h]
theorem is_eq{l:bW}(hV:V l)(sheet:List Int)(hn:sheet.length≤90):DX 30000 l sheet=some (decide (Ok l (s0 l) sheet)):=by
 unfold DX
 rw[Ca hV sheet hn]
 simp only[Hj,Ei,JC]
 have h1:=AM l (s0 l) sheet
 have h2:=EA l (s0 l) sheet
 rw[Nat.min_eq_left h1]
 congr 1
 rw[decide_eq_decide,h2]
 omega
def flt (l:bW)(sheet:List Int):Int:=if ¬V l then 1 else if 40<sheet.length then 3 else if ¬Ok l (s0 l) sheet then 10 else 0
theorem vA(l:bW)(sheet:List Int)(hn:sheet.length≤45):fj 30000 (fl l) sheet=some (flt l sheet):=by
 unfold fj flt
 simp only[checkLaw_eq,Hj]
 by_cases hV:V l
 ·simp only[hV,if_true,decide_true,yo,IE,if_false,not_true]
  by_cases h:40<sheet.length
  ·rw[if_pos (by simpa using(by omega:(40:Int)<(sheet.length:Int)))];simp[h]
  ·have h':¬(40:Int)<sheet.length:=by omega
   rw[Hb hV sheet hn]
   have h1:=AM l (s0 l) sheet
   have h2:=EA l (s0 l) sheet
   by_cases hk:Ok l (s0 l) sheet
   ·have:=h2.1 hk
    simp[h,h',hk,this]
   ·have:zu l (s0 l) sheet<sheet.length:=by
     have:zu l (s0 l) sheet≠sheet.length:=fun e=>hk (h2.2 e)
     omega
    simp[h,h',hk,this]
 ·simp[hV]
theorem flt_ok{l:bW}{sheet:List Int}:flt l sheet=0↔V l∧sheet.length≤40∧Ok l (s0 l) sheet:=by
 unfold flt
 by_cases hV:V l<;>by_cases h:40<sheet.length<;>by_cases hk:Ok l (s0 l) sheet<;>simp[hV,h,hk]<;>omega
end Go.Proofs.YtdodahpkpeodfaaGreatDoor.F
namespace Go.Proofs.YtdodahpkpeodfaaGreatDoor
open Go.Kp
theorem zh{σ R:Type}{B:(σ→Option R)→σ→Option R}(I:Nat→σ→Prop)(Q:R→Prop)
  (h:∀k x rec,I k x→(∀k' y,k'<k→I k' y→∃r,rec y=some r∧Q r)→∃r,B rec x=some r∧Q r) :
  ∀(n k:Nat) (x:σ),I k x→k<n→∃r,loopN B n x=some r∧Q r:=by
 intro n
 induction n with
 | zero=>intro k x _ hk;omega
 | succ n ih=>intro k x hI hk;exact h k x _ hI fun k' y hk' hy=>ih k' y hy (by omega)
/-! The house's games. -/
def zk:og:=og.mk 3 10 2 10
abbrev L0:bW:=bW.mk 3 10 2 10
def fit (l:List Int):Bool:=decide (F.Ok L0 (F.s0 L0) l)
structure GX(N:Nat):Prop where
 rd:∀l:List Int,l.length≤80→∃g e,gm N zk l=some (g,e)∧(decide (e=0)=fit l)∧g.vg.length≤3∧(g.xk=true→g.vg≠[])∧∀c,g.vg.getLast? = some c→0≤c∧c≤300
end Go.Proofs.YtdodahpkpeodfaaGreatDoor
namespace Go.Proofs.YtdodahpkpeodfaaGreatDoor
open Go.Kp
variable {N:Nat}
/-! What each word does with its numbers, in plain words. -/
theorem zi(n a b:Int):cJ N n a b=some (decide (a≤n)&&decide (n≤b)):=by
 unfold cJ
 by_cases h:a≤n<;>simp[h]
theorem yl(b:Bool)(e:Int):Ih N b e=some (if b then .inr ()else .inl (da.mk e)):=by cases b<;>rfl
theorem yS(l:List Int)(h:l.length≤N):cG N l=some l:=by
 unfold cG gc;rw[nL (by simpa using h)];rfl
theorem zX(l:List (List Int))(h:l.length≤N):gd N l=some l:=by
 unfold gd ff;rw[nL (by simpa using h)];rfl
theorem Ao(l:List cA)(h:l.length≤N):fh N l=some l:=by
 unfold fh eA;rw[nL (by simpa using h)];rfl
theorem Aa(l:List aH)(h:l.length≤N):gD N l=some l:=by
 unfold gD dR;rw[nL (by simpa using h)];rfl
theorem zM(l:List ab)(h:l.length≤N):yk N l=some l:=by
 unfold yk yp;rw[nL (by simpa using h)];rfl
theorem AN(l:List Int)(x:Int)(h:l.length<N):jw N l x=some (l++[x]):=by
 unfold jw;rw[yS l (by omega),Hj,nL (by simp;omega)];rfl
theorem BR(l:List (List Int))(x:List Int)(h:l.length<N):lH N l x=some (l++[x]):=by
 unfold lH;rw[zX l (by omega),Hj,nL (by simp;omega)];rfl
theorem BC(l:List aH)(x:aH)(h:l.length<N):ze N l x=some (l++[x]):=by
 unfold ze;rw[Aa l (by omega),Hj,nL (by simp;omega)];rfl
theorem Bp(l:List ab)(x:ab)(h:l.length<N):yY N l x=some (l++[x]):=by
 unfold yY;rw[zM l (by omega),Hj,nL (by simp;omega)];rfl
structure SI(i:Nat)(s:aR):Prop where
 la:s.ag.length=4
 lb:∀x∈s.ag,-1≤x.af∧x.af<s.az.length∧x.ar.length≤i
 bl:s.az.length≤8
 kl:s.iZ.length=s.az.length
 kb:∀x∈s.iZ,x.length≤i
 sl:s.aD.length≤40
 wl:s.ak.length≤i
 rl:s.aP.length≤i
 rg:∀r∈s.aP,r.bg.length=1
def emb (s:aR):Int⊕aR→(da×aL)⊕aL
 | .inl e=>.inl (da.mk e,aL.mk s)
 | .inr t=>.inr (aL.mk t)
def lane (s:aR)(n:Int):Option cA:=if 0≤n then s.ag[n.toNat]? else none
def put (s:aR)(n:Int)(x:cA):aR:={s with ag:=s.ag.set n.toNat x}
def zN (s:aR)(a:Int):Int⊕aR :=
 if ¬(0≤a∧a≤300)then .inl 2 else if ¬s.az.length<8 then .inl 3 else if s.aP.length≠0 then .inl 8
 else .inr {s with az:=s.az++[a],iZ:=s.iZ++[[]]}
def known(s:aR)(b:Int):Prop:=0≤b∧b<s.az.length
instance (s:aR) (b:Int):Decidable (known s b):=inferInstanceAs (Decidable (_∧_))
def AO (s:aR)(n b:Int):Int⊕aR:=match lane s n with
 | none=>.inl 7
 | some x=>if ¬known s b then .inl 7 else if x.af=-1∧¬(∃y∈s.ag,y.af=b)then .inr (put s n (cA.mk b []))else .inl 6
def AP (s:aR)(n p:Int):Int⊕aR:=match lane s n with
 | none=>.inl 7
 | some x=>if x.af=-1 then .inl 8 else if fit (x.ar++[p])then .inr (put s n (cA.mk x.af (x.ar++[p])))else .inl 10
def AQ (s:aR)(n:Int):Int⊕aR:=match lane s n with
 | none=>.inl 7
 | some x=>if x.af=-1 then .inl 8 else if x.ar=[] then .inl 8 else .inr (put s n (cA.mk x.af x.ar.dropLast))
theorem Bv{s:aR}(h:s.ag.length=4)(n:Int):ge N n (aL.mk s)=some (match lane s n with | none=>.inl (da.mk 7) | some x=>.inr x):=by
 unfold ge lane
 simp only[h,zi,Hj,yl]
 have e:w64 (((4:Nat):Int)-1)=3:=by decide
 rw[e]
 by_cases h0:0≤n
 ·by_cases h3:n≤3
  ·simp only[h0,h3,decide_true,Cf,if_true]
   have hlt:n.toNat<s.ag.length:=by omega
   rw[yy h0 (IX hlt),IX hlt]
   rfl
  ·have:s.ag.length≤n.toNat:=by omega
   simp[h0,h3,AG this]
 ·simp[h0]
theorem AR{s:aR}(h:s.ag.length=4)(n:Int):gf N n (aL.mk s)=some (match lane s n with | none=>.inl (da.mk 7) | some x=>if x.af=-1 then .inl (da.mk 8)else .inr x):=by
 unfold gf
 rw[Bv h]
 cases lane s n with
 | none=>rfl
 | some x =>
  simp only[Hj,yl]
  by_cases hb:x.af=-1<;>simp[hb]
theorem A8{s:aR}(h:s.az.length≤8)(b:Int):fg N b (aL.mk s)=some (decide (known s b)):=by
 unfold fg
 dsimp only
 rw[bE (by omega) (by omega),zi,Hj]
 congr 1
 unfold known
 by_cases h0:0≤b
 ·by_cases h1:b<s.az.length
  ·simp[h0,h1];omega
  ·simp[h0,h1];omega
 ·simp[h0]
theorem zr{s:aR}{n:Int}{x:cA}(h:lane s n=some x):0≤n∧n.toNat<s.ag.length∧s.ag[n.toNat]? = some x:=by
 unfold lane at h
 split at h
 ·rename_i h0;exact⟨h0,(List.getElem?_eq_some_iff.1 h).1,h⟩
 ·cases h
theorem put_eq{s:aR}(h:s.ag.length=4)(hN:100≤N){n:Int}{x:cA}(hx:lane s n=some x)(y:cA):gU N n y (aL.mk s)=some (aL.mk (put s n y)):=by
 obtain⟨h0,_,hx⟩:=zr hx
 unfold gU
 rw[Ao _ (by simp only[h];omega),Hj,yy h0 hx,Hj]
 rfl
theorem BD{i:Nat}{s:aR}(h:SI i s)(hi:i≤60)(hN:20000≤N){l:List Int}{a:Int}(hl:l[0]? = some a):gB N l (aL.mk s)=some (emb s (zN s a)):=by
 unfold gB zN
 have e0:idx l 0=some a:=ij (i:=0) hl
 rw[e0]
 simp only[Hj,zi,yl]
 have hb:=h.bl
 have hk:=h.kl
 by_cases h1:0≤a∧a≤300
 ·simp only[h1.1,h1.2,decide_true,CS,if_true,and_self,not_true_eq_false,if_false]
  by_cases h2:s.az.length<8
  ·rw[decide_eq_true (by omega:((s.az.length:Int)<8))]
   simp only[h2,if_true,not_true_eq_false,if_false]
   by_cases h3:s.aP.length=0
   ·rw[decide_eq_true (by omega:((s.aP.length:Int)=0))]
    simp only[h3,if_true,ne_eq,not_true_eq_false,if_false]
    rw[AN _ _ (by omega),Hj,BR _ _ (by omega),Hj]
    rfl
   ·rw[decide_eq_false (by omega:¬((s.aP.length:Int)=0))]
    simp[h3,emb]
  ·rw[decide_eq_false (by omega:¬((s.az.length:Int)<8))]
   simp[h2,emb]
 ·rw[if_pos h1]
  have:(decide (0≤a)&&decide (a≤300))=false:=by
   rw[xi];intro e;simp only[wH,decide_eq_true_eq]at e;exact h1 e
  rw[this]
  rfl
theorem B1{i:Nat}{s:aR}(h:SI i s)(hi:i≤60)(hN:20000≤N){l:List Int}{a b:Int}(hl:l[0]? = some a)(hl1:l[1]? = some b):iO N l (aL.mk s)=some (emb s (AO s a b)):=by
 unfold iO dP AO
 have e0:idx l 0=some a:=ij (i:=0) hl
 have e1:idx l 1=some b:=ij (i:=1) hl1
 rw[e0,Hj,Bv h.la,Hj]
 cases hx:lane s a with
 | none=>rfl
 | some x =>
  simp only[e1,e0,Hj,A8 h.bl,yl]
  by_cases hk:known s b
  ·simp only[hk,decide_true,if_true,not_true_eq_false,if_false]
   by_cases hb:x.af=-1
   ·have hcf:dD N s.ag l=some (s.ag.any fun y=>decide (y.af=b)) :=
     nM (N:=N) s.ag (fun y=>gZ N y l) (fun y=>decide (y.af=b)) (fun y _=>by unfold gZ;rw[e1];rfl) (by rw[h.la];omega) (by rw[h.la];omega)
    simp only[hb,decide_true,if_true,hcf,Hj,true_and]
    by_cases ha:∃y∈s.ag,y.af=b
    ·have:(s.ag.any fun y=>decide (y.af=b))=true:=by simpa using ha
     simp only[this,yo,IE,if_false,ha,not_true_eq_false]
     rfl
    ·have:(s.ag.any fun y=>decide (y.af=b))=false:=by simpa using ha
     simp only[this,Da,if_true,ha,not_false_eq_true]
     rw[put_eq h.la (by omega) hx]
     rfl
   ·simp only[hb,decide_false,IE,if_false,false_and]
    rfl
  ·simp only[hk,decide_false,IE,if_false,not_false_eq_true,if_true]
   rfl
theorem B2{i:Nat}{s:aR}(hG:GX N)(h:SI i s)(hi:i≤60)(hN:20000≤N){l:List Int}{a b:Int}(hl:l[0]? = some a)(hl1:l[1]? = some b):iQ N l (aL.mk s)=some (emb s (AP s a b)):=by
 unfold iQ AP
 have e0:idx l 0=some a:=ij (i:=0) hl
 have e1:idx l 1=some b:=ij (i:=1) hl1
 rw[e0,Hj,AR h.la,Hj]
 cases hx:lane s a with
 | none=>rfl
 | some x =>
  by_cases hb:x.af=-1
  ·simp only[hb,if_true];rfl
  ·have hlb:=h.lb x (Jm (zr hx).2.2)
   simp only[hb,if_false,e1,e0,Hj]
   rw[AN _ _ (by omega),Hj]
   obtain⟨g,e,hr,hf,_,_⟩:=hG.rd (x.ar++[b]) (by simp;omega)
   rw[show iP N=some zk from rfl,Hj,hr,Hj]
   simp only[Hj,yl,hf]
   cases fit (x.ar++[b])with
   | false=>rfl
   | true =>
    simp only[if_true]
    rw[put_eq h.la (by omega) hx]
    rfl
theorem B3{i:Nat}{s:aR}(h:SI i s)(hi:i≤60)(hN:20000≤N){l:List Int}{a:Int}(hl:l[0]? = some a):yO N l (aL.mk s)=some (emb s (AQ s a)):=by
 unfold yO AQ
 have e0:idx l 0=some a:=ij (i:=0) hl
 rw[e0,Hj,AR h.la,Hj]
 cases hx:lane s a with
 | none=>rfl
 | some x =>
  by_cases hb:x.af=-1
  ·simp only[hb,if_true];rfl
  ·have hlb:=h.lb x (Jm (zr hx).2.2)
   simp only[hb,if_false,yl,Hj]
   by_cases hn:x.ar=[]
   ·simp[hn,emb]
   ·have hpos:0<x.ar.length:=List.length_pos_iff.2 hn
    rw[decide_eq_true (by omega:(0:Int)<(x.ar.length:Int))]
    simp only[if_true,hn,if_false]
    have e1:w64 ((x.ar.length:Int)-1)=((x.ar.length-1:Nat):Int):=by rw[bE (by omega) (by omega)];omega
    rw[e1,rX (by omega) (by omega) (by omega),Hj]
    have e2:(x.ar.take ((x.ar.length-1:Nat):Int).toNat).drop (0:Int).toNat=x.ar.dropLast:=by rw[List.dropLast_eq_take];simp
    rw[e2,yS _ (by simp;omega),Hj,put_eq h.la (by omega) hx]
    rfl
end Go.Proofs.YtdodahpkpeodfaaGreatDoor
namespace Go.Proofs.YtdodahpkpeodfaaGreatDoor
open Go.Kp
variable {N:Nat}
def fin (N:Nat)(l:List Int):Option Int:=match gm N zk l with
 | some (g,_)=>if g.xk then g.vg.getLast? else none
 | none=>none
def Af (N:Nat)(s:aR)(n:Int):Int⊕aR:=match lane s n with
 | none=>.inl 7
 | some x=>if x.af=-1 then .inl 8 else match fin N x.ar,s.iZ[x.af.toNat]? with
  | some c,some k=>.inr (put {s with iZ:=s.iZ.set x.af.toNat (k++[c])} n (cA.mk (-1) []))
  | _,_=>.inl 8
theorem BS{i:Nat}{s:aR}(hG:GX N)(h:SI i s)(hi:i≤60)(hN:20000≤N){l:List Int}{a:Int}(hl:l[0]? = some a):g8 N l (aL.mk s)=some (emb s (Af N s a)):=by
 unfold g8 Af
 have e0:idx l 0=some a:=ij (i:=0) hl
 rw[e0,Hj,AR h.la,Hj]
 cases hx:lane s a with
 | none=>rfl
 | some x =>
  by_cases hb:x.af=-1
  ·simp only[hb,if_true];rfl
  ·have hlb:=h.lb x (Jm (zr hx).2.2)
   simp only[hb,if_false]
   obtain⟨g,e,hr,hf,hln,hd,_⟩:=hG.rd x.ar (by omega)
   unfold fin
   rw[show iP N=some zk from rfl,Hj,hr,Hj]
   simp only[Hj,yl]
   cases hdn:g.xk with
   | false=>rfl
   | true =>
    have hne:=hd hdn
    have hpos:0<g.vg.length:=List.length_pos_iff.2 hne
    simp only[if_true]
    have hk:=h.kl
    have hbl:=h.bl
    have hkl:x.af.toNat<s.iZ.length:=by omega
    have hkx:=IX hkl
    have hkb:=h.kb _ (Be hkl)
    generalize s.iZ[x.af.toNat]=k at hkx hkb
    have el:w64 ((g.vg.length:Int)-1)=((g.vg.length-1:Nat):Int):=by rw[bE (by omega) (by omega)];omega
    have hlast:g.vg[g.vg.length-1]? = g.vg.getLast?:=by rw[List.getLast?_eq_getElem?]
    rw[hkx,zX _ (by omega),Hj,yy (by omega) hkx,Hj,el]
    cases hgl:g.vg.getLast? with
    | none=>rw[List.getLast?_eq_none_iff]at hgl;exact absurd hgl hne
    | some c =>
     rw[ij (hlast.trans hgl),Hj,AN _ _ (by omega),Hj]
     unfold iR
     obtain⟨h0,_,hx2⟩:=zr hx
     rw[Ao _ (by simp only[h.la];omega),Hj,yy h0 hx2,Hj,Hj]
     rfl
end Go.Proofs.YtdodahpkpeodfaaGreatDoor
namespace Go.Proofs.YtdodahpkpeodfaaGreatDoor
open Go.Kp
variable {N:Nat}
def Ag (s:aR)(w b:Int):Int⊕aR :=
 if ¬(1≤w∧w≤30)then .inl 2 else if ¬known s b then .inl 7 else match s.iZ[b.toNat]? with
 | none=>.inl 7
 | some k=>if k.length<3 then .inl 8 else if ¬s.aD.length<40 then .inl 3 else
  .inr {s with iZ:=s.iZ.set b.toNat (k.take (k.length-3)),aD:=s.aD++[aH.mk (s.aD.length+1) b w (Ar3.mk (k.getD (k.length-3) 0) (k.getD (k.length-2) 0) (k.getD (k.length-1) 0))]}
theorem BT{i:Nat}{s:aR}(h:SI i s)(hi:i≤60)(hN:20000≤N){l:List Int}{a b:Int}(hl:l[0]? = some a)(hl1:l[1]? = some b):yF N l (aL.mk s)=some (emb s (Ag s a b)):=by
 unfold yF Ag
 have e0:idx l 0=some a:=ij (i:=0) hl
 have e1:idx l 1=some b:=ij (i:=1) hl1
 rw[e0,Hj,zi,Hj,yl,Hj]
 by_cases hw:1≤a∧a≤30
 ·simp only[hw.1,hw.2,decide_true,CS,if_true,and_self,not_true_eq_false,if_false]
  rw[e1,Hj,A8 h.bl,Hj,yl,Hj]
  by_cases hk:known s b
  ·simp only[hk,decide_true,if_true,not_true_eq_false,if_false]
   have hb:=h.bl
   have hkl:=h.kl
   have hlt:b.toNat<s.iZ.length:=by unfold known at hk;omega
   have hkx:=IX hlt
   have hkb:=h.kb _ (Be hlt)
   generalize s.iZ[b.toNat]=k at hkx hkb
   rw[hkx,yy hk.1 hkx,Hj,yl,Hj]
   by_cases h3:k.length<3
   ·rw[decide_eq_false (by omega:¬((3:Int)≤(k.length:Int)))]
    simp[h3,emb]
   ·rw[decide_eq_true (by omega:((3:Int)≤(k.length:Int)))]
    simp only[if_true,h3,if_false,yl,Hj]
    have hsl:=h.sl
    by_cases h40:s.aD.length<40
    ·rw[decide_eq_true (by omega:((s.aD.length:Int)<40))]
     simp only[h40,if_true,not_true_eq_false,if_false]
     have e3:w64 ((k.length:Int)-3)=((k.length-3:Nat):Int):=by rw[bE (by omega) (by omega)];omega
     have e4:w64 ((s.aD.length:Int)+1)=(s.aD.length:Int)+1:=bE (by omega) (by omega)
     rw[e3,e4,rX (by omega) (by omega) (by omega),Hj]
     have hx:∀j,j<3→idx (((k.take (k.length:Int).toNat).drop ((k.length-3:Nat):Int).toNat)) (j:Nat)=some (k.getD (k.length-3+j) 0):=fun j hj=>by
      refine ij ?_
      rw[A6]
      simp only[JD]
      rw[A4,A5,IX (by omega)]
      simp
     have x0:=hx 0 (by omega)
     have x1:=hx 1 (by omega)
     have x2:=hx 2 (by omega)
     simp only[yN,Nat.add_zero]at x0
     have c1:(((1:Nat):Int))=1:=rfl
     have c2:(((2:Nat):Int))=2:=rfl
     rw[c1]at x1
     rw[c2]at x2
     rw[x0,Hj,x1,Hj,x2,Hj,Hj]
     rw[zX _ (by omega),Hj,rX (by omega) (by omega) (by omega),Hj,yS _ (by simp;omega),Hj,yy hk.1 hkx,Hj,BC _ _ (by omega),Hj]
     have f1:k.length-3+1=k.length-2:=by omega
     have f2:k.length-3+2=k.length-1:=by omega
     rw[f1,f2]
     simp[emb]
    ·rw[decide_eq_false (by omega:¬((s.aD.length:Int)<40))]
     simp[h40,emb]
  ·simp only[hk,decide_false,IE,if_false,not_false_eq_true,if_true]
   rfl
 ·rw[if_pos hw]
  have:(decide (1≤a)&&decide (a≤30))=false:=by
   rw[xi];intro e;simp only[wH,decide_eq_true_eq]at e;exact hw e
  rw[this]
  rfl
theorem half{a b:Nat}(h1:a<b)(h2:b<100000):w64 (Bs .u64 (Go.IntKind.wrap .u64 (w64 ((a:Int)+(b:Int)))) 1)=(((a+b) / 2:Nat):Int):=by
 rw[bE (n:=(a:Int)+b) (by omega) (by omega)]
 have e:Go.IntKind.wrap .u64 ((a:Int)+b)=(a:Int)+b:=by
  unfold Go.IntKind.wrap
  simp only[Go.IntKind.bits,Go.IntKind.signed,Bool.false_and,IE,if_false]
  omega
 rw[e]
 unfold Bs
 have e2:Int.fdiv ((a:Int)+b) (2 ^ min (1:Int).toNat Go.IntKind.u64.bits)=(((a+b) / 2:Nat):Int):=by
  have:(2:Int) ^ min (1:Int).toNat Go.IntKind.u64.bits=2:=by rfl
  rw[this,Int.fdiv_eq_ediv_of_nonneg _ (by omega)]
  omega
 rw[e2,bE (by omega) (by omega)]
theorem Cj(l:List Int)(t:Int)(hl:l.length<1000)(hN:20000≤N):∃i:Nat,i≤l.length∧xX N l t=some ((i:Int),decide (l[i]? = some t))∧(l.Pairwise (·<·)→(∀k x,l[k]? = some x→k<i→x<t)∧(∀k x,l[k]? = some x→i≤k→t≤x)):=by
 have key:=zh (B:=fun rec3 x=>ls N l t rec3 x.1 x.2.1 x.2.2) (fun k (x:Int×Int×Int)=>x.1=l.length∧∃a b:Nat,x.2.1=a∧x.2.2=b∧a≤b∧b≤l.length∧k=b-a∧(l.Pairwise (·<·)→(∀k x,l[k]? = some x→k<a→x<t)∧(∀k x,l[k]? = some x→b≤k→t≤x)))
  (fun r=>∃i:Nat,r=((l.length:Int),(i:Int))∧i≤l.length∧(l.Pairwise (·<·)→(∀k x,l[k]? = some x→k<i→x<t)∧(∀k x,l[k]? = some x→i≤k→t≤x)))
  (fun k x rec hI ih=>by
   obtain⟨n,v,w⟩:=x
   obtain⟨hn,a,b,hv,hw,hab,hbl,hk,hs⟩:=hI
   simp only at hn hv hw
   subst hn hv hw
   unfold ls yi
   by_cases h:a<b
   ·rw[if_pos (by simp only[decide_eq_true_eq];omega)]
    simp only[half h (by omega)]
    have hm:(a+b) / 2<l.length:=by omega
    have hx:=IX hm
    generalize l[(a+b) / 2]=y at hx
    simp only[ij hx,Hj]
    have hc:zK N y t=some (decide (y<t)):=by
     unfold zK zw
     simp
    rw[hc,Hj]
    by_cases hyt:y<t
    ·rw[if_pos (by simp only[decide_eq_true_eq];exact hyt)]
     refine ih (b-((a+b) / 2+1)) _ (by omega) ⟨rfl,(a+b) / 2+1,b,by rw[fN (by omega)],rfl,by omega,hbl,rfl,fun hp=>⟨fun k x hkx hlt=>?_,(hs hp).2⟩⟩
     by_cases he:k=(a+b) / 2
     ·subst he;rw[hx]at hkx;cases hkx;exact hyt
     ·have hlt2:k<(a+b) / 2:=by omega
      have:=List.pairwise_iff_getElem.1 hp k ((a+b) / 2) (by omega) hm hlt2
      rw[(List.getElem?_eq_some_iff.1 hkx).2,(List.getElem?_eq_some_iff.1 hx).2]at this
      omega
    ·rw[if_neg (by simp only[decide_eq_true_eq];exact hyt)]
     refine ih ((a+b) / 2-a) _ (by omega) ⟨rfl,a,(a+b) / 2,rfl,rfl,by omega,by omega,rfl,fun hp=>⟨(hs hp).1,fun k x hkx hlt=>?_⟩⟩
     by_cases he:k=(a+b) / 2
     ·subst he;rw[hx]at hkx;cases hkx;omega
     ·have:=List.pairwise_iff_getElem.1 hp ((a+b) / 2) k hm (List.getElem?_eq_some_iff.1 hkx).1 (by omega)
      rw[(List.getElem?_eq_some_iff.1 hkx).2,(List.getElem?_eq_some_iff.1 hx).2]at this
      omega
   ·rw[if_neg (by simp only[decide_eq_true_eq];omega)]
    have:a=b:=by omega
    subst this
    exact⟨_,rfl,a,rfl,hbl,hs⟩)
  N l.length ((l.length:Int),0,(l.length:Int)) ⟨rfl,0,l.length,rfl,rfl,by omega,by omega,rfl,fun _=>⟨fun k x _ h=>by omega,fun k x h1 h2=>by have:=(List.getElem?_eq_some_iff.1 h1).1;omega⟩⟩ (by omega)
 obtain⟨r,hr,i,rfl,hi,hs⟩:=key
 refine⟨i,hi,?_,hs⟩
 unfold xX
 rw[hr,Hj]
 dsimp only
 by_cases h:i<l.length
 ·rw[if_pos (by simp only[decide_eq_true_eq];omega)]
  have hx:=IX h
  generalize l[i]=y at hx
  rw[ij hx,hx]
  unfold yX
  by_cases he:y=t<;>simp[he]
 ·rw[if_neg (by simp only[decide_eq_true_eq];omega),AG (by omega)]
  simp
def zO (N:Nat)(s:aR)(n:Int):Int⊕aR :=
 if ¬(1≤n∧n≤s.aD.length)then .inl 7 else match xX N s.ak n with
 | some (i,false)=>.inr {s with ak:=s.ak.take i.toNat++[n]++s.ak.drop i.toNat}
 | _=>.inl 6
theorem BE{i:Nat}{s:aR}(h:SI i s)(hi:i≤60)(hN:20000≤N){l:List Int}{a:Int}(hl:l[0]? = some a):yz N l (aL.mk s)=some (emb s (zO N s a)):=by
 unfold yz zO
 have e0:idx l 0=some a:=ij (i:=0) hl
 rw[e0,Hj,zi,Hj,yl,Hj]
 by_cases hw:1≤a∧a≤s.aD.length
 ·simp only[hw.1,hw.2,decide_true,CS,if_true,and_self,not_true_eq_false,if_false]
  have hwl:=h.wl
  obtain⟨j,hj,hb,_⟩:=Cj (N:=N) s.ak a (by omega) hN
  rw[hb,Hj]
  simp only[yl,Hj]
  cases decide (s.ak[j]? = some a)with
  | true=>rfl
  | false =>
   simp only[Da,if_true]
   rw[yS _ (by omega),Hj]
   have:BJ N (j:Int) s.ak [a]=some (s.ak.take (j:Int).toNat++[a]++s.ak.drop (j:Int).toNat):=by
    unfold BJ
    rw[if_pos ⟨by omega,by omega,by simp,by simp;omega⟩]
   rw[this,Hj]
   rfl
 ·rw[if_pos hw]
  have:(decide (1≤a)&&decide (a≤(s.aD.length:Int)))=false:=by
   rw[xi];intro e;simp only[wH,decide_eq_true_eq]at e;exact hw e
  rw[this]
  rfl
end Go.Proofs.YtdodahpkpeodfaaGreatDoor
namespace Go.Proofs.YtdodahpkpeodfaaGreatDoor
open Go.Kp
variable {N:Nat}
theorem A9{α:Type}(s:List α)(p:α→Option Bool)(q:α→Bool)(hp:∀x∈s,p x=some (q x))(hN:s.length<N)(hs:s.length<4611686018427387904) :
  loopN (fun(rec:Int×Int→Option Int) (x:Int×Int)=>if decide (x.2<x.1)then Ha (idx s x.2) fun y=>Ha (p y) fun r=>if r then some x.2 else rec (x.1,w64 (x.2+1))else some (-1)) N ((s.length:Int),0)=some (match s.findIdx? q with | some i=>(i:Int) | none=>-1):=by
 have key:=o6 (N:=N) (B:=fun(rec:Int×Int→Option Int) (x:Int×Int)=>if decide (x.2<x.1)then Ha (idx s x.2) fun y=>Ha (p y) fun r=>if r then some x.2 else rec (x.1,w64 (x.2+1))else some (-1))
  s (fun i=>((s.length:Int),(i:Int))) (fun i r=>some (match r.findIdx? q with | some j=>((i+j:Nat):Int) | none=>-1))
  (fun rec=>by simp)
  (fun i x rec hx h=>by
   have hlt:=lP hx
   have hm:x∈s:=Jm hx
   simp only[show((i:Int)<(s.length:Int))from by omega,decide_true,if_true,ij hx,Hj,hp x hm,fN (i:=i) (by omega),h]
   rw[List.findIdx?_cons]
   cases hq:q x with
   | true=>simp
   | false =>
    simp only[IE,if_false]
    cases(s.drop (i+1)).findIdx? q with
    | none=>rfl
    | some j=>simp only[zn];rw[show i+1+j=i+(j+1)from by omega])
  hN 0 (by omega)
 simp only[yN,Jp,Em]at key
 rw[key]
def cup (s:aR):gu:=gu.mk 1 (s.az.length:Int) 1 s.aP
def AS (s:aR)(l:List gN)(n:Int):Int⊕aR:=match l with
 | []=>.inl 8
 | m::_=>if n=m.rx∨n=m.yU then .inr {s with aP:=s.aP++[ab.mk m.bX [n] false]}else .inl 10
theorem B4{i:Nat}{s:aR}(h:SI i s)(hi:i≤60)(hN:20000≤N){ms:List gN}{e:Int}(hL:yh N (cup s)=some (ms,e)){l:List Int}{a:Int}(hl:l[0]? = some a):yR N l (aL.mk s)=some (emb s (AS s ms a)):=by
 unfold yR yw AS
 have e0:idx l 0=some a:=ij (i:=0) hl
 have hrl:=h.rl
 rw[show jB N (aL.mk s)=some (cup s)from rfl,Hj,hL,Hj]
 simp only[yl,Hj]
 cases ms with
 | nil=>rfl
 | cons m r =>
  rw[decide_eq_true (by simp:(0:Int)<((m::r).length:Int))]
  have em:idx (m::r) 0=some m:=rfl
  simp only[if_true,e0,em,Hj]
  rw[Bp _ _ (by omega)]
  by_cases h1:a=m.rx
  ·rw[if_pos (by simp only[decide_eq_true_eq];exact h1),if_pos (.inl h1)]
   rfl
  ·rw[if_neg (by simp only[decide_eq_true_eq];exact h1)]
   by_cases h2:a=m.yU
   ·rw[if_pos (show a=m.rx∨a=m.yU from .inr h2),if_pos (by simp only[decide_eq_true_eq];exact h2)]
    rfl
   ·have h3:¬(a=m.rx∨a=m.yU):=fun h=>h.elim h1 h2
    rw[if_neg h3,if_neg (by simp only[decide_eq_true_eq];exact h2)]
    rfl
def Ah (s:aR)(n:Int):Int⊕aR:=match s.aP.findIdx? (fun r=>decide (r.dA=n))with
 | none=>.inl 7
 | some i=>match s.aP[i]? with
  | none=>.inl 7
  | some r=>if r.lT then .inl 6 else .inr {s with aP:=s.aP.set i (ab.mk r.dA r.bg true)}
theorem BU{i:Nat}{s:aR}(h:SI i s)(hi:i≤60)(hN:20000≤N){l:List Int}{a:Int}(hl:l[0]? = some a):yH N l (aL.mk s)=some (emb s (Ah s a)):=by
 unfold yH Ah
 have e0:idx l 0=some a:=ij (i:=0) hl
 have hrl:=h.rl
 have hi:dE N s.aP l=some (match s.aP.findIdx? (fun r=>decide (r.dA=a))with | some i=>(i:Int) | none=>-1) :=
  A9 (N:=N) s.aP (fun y=>yB N y l) (fun r=>decide (r.dA=a)) (fun y _=>by unfold yB;rw[e0];rfl) (by omega) (by omega)
 rw[hi,Hj,yl,Hj]
 cases hf:s.aP.findIdx? (fun r=>decide (r.dA=a))with
 | none=>rfl
 | some j =>
  have hj:j<s.aP.length:=by
   have:=List.findIdx?_eq_some_iff_findIdx_eq.1 hf
   omega
  have hx:=IX hj
  generalize s.aP[j]=r at hx
  simp only[show(0:Int)≤(j:Int)from by omega,decide_true,if_true,ij hx,hx,Hj,yl]
  cases r.lT with
  | true=>rfl
  | false =>
   simp only[Da,if_true]
   rw[zM _ (by omega),Hj,ij hx,Hj]
   rfl
/-! A line. -/
theorem AT(c:UInt8):∀l:List UInt8,se c l≠[]
 | []=>by simp[se]
 | b::l=>by
  unfold se
  split
  ·simp
  ·split<;>simp
theorem Ba(c:UInt8):∀l:List UInt8,(se c l).length≤l.length+1∧∀x∈se c l,x.length≤l.length
 | []=>by simp[se]
 | b::l=>by
  have ih:=Ba c l
  unfold se
  split
  ·refine⟨by simp only[IS];omega,fun x hx=>?_⟩
   rcases List.mem_cons.1 hx with rfl | hx
   ·simp
   ·have:=ih.2 x hx;simp only[IS];omega
  ·split
   ·rename_i h;exact absurd h (AT c l)
   ·rename_i y r h
    rw[h]at ih
    refine⟨by simp only[IS]at *;omega,fun x hx=>?_⟩
    rcases List.mem_cons.1 hx with rfl | hx
    ·have:=ih.2 y (by simp);simp only[IS];omega
    ·have:=ih.2 x (by simp[hx]);simp only[IS];omega
theorem BV{l:List UInt8}{v:Int}(h:Go.Lib.atoiAll l=.ok v):-9223372036854775808≤v∧v≤9223372036854775807:=by
 unfold Go.Lib.atoiAll at h
 split at h
 ·cases h
 ·dsimp only at h
  split at h
  ·cases h
  ·cases h
  ·split at h
   ·cases h
   ·split at h
    ·cases h
    ·injection h with h
     split at h<;>omega
def B5 (s:List UInt8):Option Int:=match Go.Lib.atoiAll s with
 | .ok v=>if w7 v=s∧((if([45]:List UInt8).isPrefixOf s then s.drop 1 else s).length≤9)then some v else none
 | _=>none
theorem number_eq(s:List UInt8)(hs:s.length≤N):MI N s=some (match B5 s with | some v=>.inl v | none=>.inr (da.mk 4)):=by
 unfold MI fe gY B5 nV
 rw[if_pos hs]
 cases ha:Go.Lib.atoiAll s with
 | ok v =>
  have hb:=BV ha
  simp only[Hj,yl]
  have e1:nU N v=some (w7 v):=by unfold nU;rw[if_pos hb]
  rw[e1,Hj]
  by_cases h1:w7 v=s
  ·simp only[h1,decide_true,if_true,true_and]
   unfold Pv
   rw[Hj]
   by_cases h2:(if([45]:List UInt8).isPrefixOf s then s.drop 1 else s).length≤9
   ·have h3:((if([45]:List UInt8).isPrefixOf s=true then List.drop ([45]:List UInt8).length s else s).length:Int)≤9:=by
     have:([45]:List UInt8).length=1:=rfl
     rw[this];omega
    rw[decide_eq_true h3,if_pos h2]
    rfl
   ·have h3:¬((if([45]:List UInt8).isPrefixOf s=true then List.drop ([45]:List UInt8).length s else s).length:Int)≤9:=by
     have:([45]:List UInt8).length=1:=rfl
     rw[this];omega
    rw[decide_eq_false h3,if_neg h2]
    rfl
  ·simp only[h1,decide_false,IE,if_false,false_and]
 | range=>simp only[Hj,yl];rfl
 | _=>simp only[Hj,yl];rfl
def Ap:List (List UInt8)→Option (List Int)
 | []=>some []
 | x::r=>match B5 x with
  | none=>none
  | some v=>match Ap r with
   | none=>none
   | some l=>some (v::l)
theorem E4:∀{r:List (List UInt8)} {l:List Int},Ap r=some l→l.length=r.length
 | [],l,h=>by simp[Ap]at h;subst h;rfl
 | x::r,l,h=>by
  unfold Ap at h
  cases hn:B5 x with
  | none=>rw[hn]at h;simp at h
  | some v =>
   rw[hn]at h
   cases hr:Ap r with
   | none=>rw[hr]at h;simp at h
   | some l' =>
    rw[hr]at h
    simp at h
    subst h
    simp[E4 hr]
def AD (N:Nat)(s:aR)(ms:List gN)(d:Int)(l:List Int):Int⊕aR :=
 let a:=l.getD 0 0;let b:=l.getD 1 0
 if d=0 then zN s a else if d=1 then AO s a b else if d=2 then AP s a b else if d=3 then AQ s a else if d=4 then Af N s a
 else if d=5 then Ag s a b else if d=6 then zO N s a else if d=7 then AS s ms a else Ah s a
def pick:(da×aL)⊕aL→Option ((da×aL)⊕aL)
 | .inl (a,b)=>some (.inl (a,b))
 | .inr r=>some (.inr r)
theorem Cg{i:Nat}{s:aR}(hG:GX N)(h:SI i s)(hi:i≤60)(hN:20000≤N){ms:List gN}{e:Int}(hL:yh N (cup s)=some (ms,e)){c:j1}{l:List Int}(hd:0≤c.fDo∧c.fDo≤8)(h1:1≤l.length)(h2:c.fDo=1∨c.fDo=2∨c.fDo=5→2≤l.length) :
  fV N (aL.mk s) c l=some (emb s (AD N s ms c.fDo l)):=by
 obtain⟨many,d⟩:=c
 simp only at hd h2
 have g0:l[0]? = some (l.getD 0 0):=by rw[A5,IX (by omega)];rfl
 have g1:d=1∨d=2∨d=5→l[1]? = some (l.getD 1 0):=fun hh=>by have:=h2 hh;rw[A5,IX (by omega)];rfl
 have pk:∀z:Int⊕aR,(match emb s z with | .inl (ra1,rb1)=>some (.inl (ra1,rb1)) | .inr r=>some (.inr r))=some (emb s z):=fun z=>by cases z<;>rfl
 have hd9:d=0∨d=1∨d=2∨d=3∨d=4∨d=5∨d=6∨d=7∨d=8:=by omega
 unfold fV
 rcases hd9 with rfl | rfl | rfl | rfl | rfl | rfl | rfl | rfl | rfl
 ·rw[BD h hi hN g0];exact pk _
 ·rw[B1 h hi hN g0 (g1 (by simp))];exact pk _
 ·rw[B2 hG h hi hN g0 (g1 (by simp))];exact pk _
 ·rw[B3 h hi hN g0];exact pk _
 ·rw[BS hG h hi hN g0];exact pk _
 ·rw[BT h hi hN g0 (g1 (by simp))];exact pk _
 ·rw[BE h hi hN g0];exact pk _
 ·rw[B4 h hi hN hL g0];exact pk _
 ·rw[BU h hi hN g0];exact pk _
end Go.Proofs.YtdodahpkpeodfaaGreatDoor
namespace Go.Proofs.YtdodahpkpeodfaaGreatDoor
open Go.Kp
variable {N:Nat}
theorem B6{k:List UInt8}{c:j1}(h:mget aM9 k=some c):(0≤c.fDo∧c.fDo≤8)∧(c.vD=1∨c.vD=2)∧(c.fDo=1∨c.fDo=2∨c.fDo=5→c.vD=2):=by
 unfold aM9 aM8 aM7 aM6 aM5 aM4 aM3 aM2 aM1 at h
 simp only[Az]at h
 repeat' (split at h)
 all_goals first | (injection h with h;subst h;simp) | cases h
def zJ (N:Nat)(s:aR)(ms:List gN)(line:List UInt8):Int⊕aR :=
 match mget aM9 ((se 32 line).headD [])with
 | none=>.inl 4
 | some c=>if((se 32 line).length:Int)≠c.vD+1 then .inl 4 else match Ap (se 32 line).tail with
  | none=>.inl 4
  | some l=>AD N s ms c.fDo l
theorem BF{i:Nat}{s:aR}(hG:GX N)(h:SI i s)(hi:i≤60)(hN:20000≤N){ms:List gN}{e:Int}(hL:yh N (cup s)=some (ms,e)){c:j1}(q:List (List UInt8))(hq:q.length≤1000)(hx:∀x∈q,x.length≤N)(hd:0≤c.fDo∧c.fDo≤8)(h1:1≤q.length)(h2:c.fDo=1∨c.fDo=2∨c.fDo=5→2≤q.length) :
  loopN (fun rec3 x=>cN N (aL.mk s) c q rec3 x.1 x.2.1 x.2.2) N ((q.length:Int),0,[])=some (emb s (match Ap q with | none=>.inl 4 | some l=>AD N s ms c.fDo l)):=by
 have key:=lO (N:=N) (B:=fun rec3 x=>cN N (aL.mk s) c q rec3 x.1 x.2.1 x.2.2) q (fun i (a:List Int)=>((q.length:Int),(i:Int),a))
  (fun r a=>some (emb s (match Ap r with | none=>.inl 4 | some l=>AD N s ms c.fDo (a++l)))) (fun i a=>a.length=i)
  (fun a rec ha=>by
   unfold cN
   rw[if_neg (by simp)]
   have ha':a.length=q.length:=ha
   dsimp only
   rw[Cg hG h hi hN hL hd (by omega) (by omega)]
   simp[Ap])
  (fun i x a rec hx' ha ih=>by
   have hlt:=lP hx'
   unfold cN
   rw[if_pos (by simp only[decide_eq_true_eq];omega),ij hx',Hj,number_eq x (hx x (Jm hx')),Hj]
   unfold Ap
   cases B5 x with
   | none=>rfl
   | some v =>
    simp only
    rw[nL (by simp;omega),Hj,fN (by omega),ih _ (by simp[ha])]
    cases Ap (q.drop (i+1))with
    | none=>rfl
    | some l=>simp)
  (by omega) [] rfl
 simpa using key
theorem B7{i:Nat}{s:aR}(hG:GX N)(h:SI i s)(hi:i≤60)(hN:20000≤N){ms:List gN}{e:Int}(hL:yh N (cup s)=some (ms,e))(line:List UInt8)(hl:line.length≤210):iS N line (aL.mk s)=some (emb s (zJ N s ms line)):=by
 unfold iS zJ
 have hsl:=Ba 32 line
 rw[show wA N line ([32]:List UInt8)=some (se 32 line)from by unfold wA;dsimp only;rw[if_pos (by omega)],Hj]
 generalize hp:se 32 line=p at hsl
 have hne:p≠[]:=hp▸AT 32 line
 cases p with
 | nil=>exact absurd rfl hne
 | cons x r =>
  have e0:idx (x::r) 0=some x:=rfl
  rw[e0,Hj,show nD N=some aM9 from rfl,Hj]
  unfold mgt
  rw[Hj]
  simp only[List.headD_cons,List.tail_cons]
  cases hm:mget aM9 x with
  | none=>simp only[Option.isSome_none,Hj,IE,if_false,yl];rfl
  | some c =>
   obtain⟨hd,hmany,h2⟩:=B6 hm
   simp only[Option.isSome_some,Bf,Hj,if_true,yl]
   have ew:w64 (c.vD+1)=c.vD+1:=bE (by omega) (by omega)
   rw[ew]
   by_cases hlen:((x::r).length:Int)=c.vD+1
   ·rw[decide_eq_true hlen]
    simp only[if_true,ne_eq,hlen,not_true_eq_false,if_false]
    have hrl:(r.length:Int)=c.vD:=by simp at hlen;omega
    unfold dQ
    rw[rX (by omega) (by simp;omega) (by simp),Hj]
    have er:((x::r).take ((x::r).length:Int).toNat).drop (1:Int).toNat=r:=by
     rw[JD,A4];rfl
    rw[er]
    exact BF hG h hi hN hL r (by omega) (fun y hy=>by have:=hsl.2 y (by simp[hy]);omega) hd (by omega) (fun hh=>by have:=h2 hh;omega)
   ·rw[decide_eq_false hlen]
    simp only[ne_eq,hlen,not_false_eq_true,if_true]
    rfl
/-! Sizes go on. -/
theorem SI.mono{i j:Nat}{s:aR}(h:SI i s)(hij:i≤j):SI j s :=
 ⟨h.la,fun x hx=>by have:=h.lb x hx;omega,h.bl,h.kl,fun x hx=>by have:=h.kb x hx;omega,h.sl,by have:=h.wl;omega,by have:=h.rl;omega,h.rg⟩
theorem SI.put{i:Nat}{s:aR}(h:SI i s)(n:Int)(y:cA)(hy:-1≤y.af∧y.af<s.az.length∧y.ar.length≤i):SI i (put s n y) :=
 ⟨by simp[Proofs.YtdodahpkpeodfaaGreatDoor.put,h.la],fun x hx=>(BP hx).elim (h.lb x) (fun e=>e▸hy),h.bl,h.kl,h.kb,h.sl,h.wl,h.rl,h.rg⟩
def okR (i:Nat):Int⊕aR→Prop
 | .inl e=>e≠0
 | .inr t=>SI (i+1) t
theorem Ch{i:Nat}{s:aR}(h:SI i s)(hi:i≤60)(hN:20000≤N)(ms:List gN)(d:Int)(l:List Int):okR i (AD N s ms d l):=by
 have h':=h.mono (Nat.le_succ i)
 have hl4:=h.la
 unfold AD
 simp only
 split
 ·unfold zN
  split
  ·show(2:Int)≠0;decide
  split
  ·show(3:Int)≠0;decide
  rename_i h2
  split
  ·show(8:Int)≠0;decide
  refine⟨h'.la,fun x hx=>?_,by simp;omega,by simp[h.kl],fun x hx=>?_,h'.sl,h'.wl,h'.rl,h'.rg⟩
  ·have:=h'.lb x hx;simp;omega
  ·rcases List.mem_append.1 hx with hx | hx
   ·exact h'.kb x hx
   ·simp at hx;subst hx;simp
 split
 ·unfold AO
  split
  ·show(7:Int)≠0;decide
  ·split
   ·show(7:Int)≠0;decide
   ·rename_i hk
    split
    ·exact h'.put _ _ ⟨by simp only[Classical.not_not,known]at hk;simp only;omega,by simp only[Classical.not_not,known]at hk;simp only;omega,by simp⟩
    ·show(6:Int)≠0;decide
 split
 ·unfold AP
  split
  ·show(7:Int)≠0;decide
  ·rename_i x hx
   have hlb:=h.lb x (Jm (zr hx).2.2)
   split
   ·show(8:Int)≠0;decide
   ·split
    ·exact h'.put _ _ ⟨hlb.1,hlb.2.1,by simp;omega⟩
    ·show(10:Int)≠0;decide
 split
 ·unfold AQ
  split
  ·show(7:Int)≠0;decide
  ·rename_i x hx
   have hlb:=h.lb x (Jm (zr hx).2.2)
   split
   ·show(8:Int)≠0;decide
   ·split
    ·show(8:Int)≠0;decide
    ·exact h'.put _ _ ⟨hlb.1,hlb.2.1,by simp;omega⟩
 split
 ·unfold Af
  split
  ·show(7:Int)≠0;decide
  ·rename_i x hx
   split
   ·show(8:Int)≠0;decide
   ·split
    ·rename_i c k _ hk
     have:SI (i+1) {s with iZ:=s.iZ.set x.af.toNat (k++[c])}:=⟨h'.la,h'.lb,h'.bl,by simp[h.kl],fun y hy=>(BP hy).elim (h'.kb y) (fun e=>by have:=h.kb k (Jm hk);subst e;simp;omega),h'.sl,h'.wl,h'.rl,h'.rg⟩
     exact this.put _ _ ⟨by simp,by simp;omega,by simp⟩
    ·show(8:Int)≠0;decide
 split
 ·unfold Ag
  split
  ·show(2:Int)≠0;decide
  ·split
   ·show(7:Int)≠0;decide
   ·split
    ·show(7:Int)≠0;decide
    ·rename_i k hk
     split
     ·show(8:Int)≠0;decide
     ·split
      ·show(3:Int)≠0;decide
      ·rename_i h40
       exact⟨h'.la,h'.lb,h'.bl,by simp[h.kl],fun y hy=>(BP hy).elim (h'.kb y) (fun e=>by have:=h.kb k (Jm hk);subst e;simp;omega),by simp;omega,h'.wl,h'.rl,h'.rg⟩
 split
 ·unfold zO
  split
  ·show(7:Int)≠0;decide
  ·split
   ·have:=h.wl
    refine⟨h'.la,h'.lb,h'.bl,h'.kl,h'.kb,h'.sl,?_,h'.rl,h'.rg⟩
    simp;omega
   ·show(6:Int)≠0;decide
 split
 ·unfold AS
  split
  ·show(8:Int)≠0;decide
  ·split
   ·have:=h.rl
    refine⟨h'.la,h'.lb,h'.bl,h'.kl,h'.kb,h'.sl,h'.wl,by simp;omega,fun r hr=>?_⟩
    rcases List.mem_append.1 hr with hr | hr
    ·exact h'.rg r hr
    ·simp at hr;subst hr;rfl
   ·show(10:Int)≠0;decide
 ·unfold Ah
  split
  ·show(7:Int)≠0;decide
  ·split
   ·show(7:Int)≠0;decide
   ·rename_i r hr
    split
    ·show(6:Int)≠0;decide
    ·exact⟨h'.la,h'.lb,h'.bl,h'.kl,h'.kb,h'.sl,h'.wl,by simp;exact h'.rl,fun y hy=>(BP hy).elim (h'.rg y) (fun e=>by have:=h.rg r (Jm hr);subst e;exact this)⟩
theorem B8{i:Nat}{s:aR}(h:SI i s)(hi:i≤60)(hN:20000≤N)(ms:List gN)(line:List UInt8):okR i (zJ N s ms line):=by
 unfold zJ
 split
 ·show(4:Int)≠0;decide
 ·split
  ·show(4:Int)≠0;decide
  ·split
   ·show(4:Int)≠0;decide
   ·exact Ch h hi hN ms _ _
end Go.Proofs.YtdodahpkpeodfaaGreatDoor
namespace Go.Proofs.YtdodahpkpeodfaaGreatDoor
open Go.Kp
variable {N:Nat}
def nxl (N:Nat)(s:aR):List gN:=match yh N (cup s)with
 | some (ms,_)=>ms
 | none=>[]
def stepW(N:Nat)(s:aR)(line:List UInt8):Int×aR:=match zJ N s (nxl N s) line with
 | .inl e=>(e,s)
 | .inr t=>(0,t)
theorem step_ok{i:Nat}{s:aR}(h:SI i s)(hi:i≤60)(hN:20000≤N)(line:List UInt8):SI (i+1) (stepW N s line).2∧((stepW N s line).1≠0→(stepW N s line).2=s):=by
 have:=B8 h hi hN (nxl N s) line
 unfold stepW
 cases hs:zJ N s (nxl N s) line with
 | inl e=>exact⟨h.mono (Nat.le_succ i),fun _=>rfl⟩
 | inr t=>rw[hs]at this;exact⟨this,fun hh=>absurd rfl hh⟩
def zv (N:Nat):aR→List (List UInt8)→aR
 | s,[]=>s
 | s,x::r=>zv N (stepW N s x).2 r
def zB (N:Nat):aR→List (List UInt8)→List Int
 | _,[]=>[]
 | s,x::r=>(stepW N s x).1::zB N (stepW N s x).2 r
def st0:aR:=aR.mk [] [cA.mk (-1) [],cA.mk (-1) [],cA.mk (-1) [],cA.mk (-1) []] [] [] [] []
theorem AU:SI 0 st0:=⟨rfl,fun x hx=>by simp[st0]at hx;subst hx;simp[st0],by simp[st0],rfl,by simp[st0],by simp[st0],by simp[st0],by simp[st0],by simp[st0]⟩
theorem BW(hN:20000≤N):lG N=some (aL.mk st0):=by
 unfold lG
 rw[nL (by simp;omega),Hj,nL (by simp;omega),Hj,nL (by simp;omega),Hj,nL (by simp;omega),Hj]
 rfl
end Go.Proofs.YtdodahpkpeodfaaGreatDoor
namespace Go.Proofs.YtdodahpkpeodfaaGreatDoor
open Go.Kp
variable {N:Nat}
/-! The knock-out's next matches are told, whatever the results. -/
theorem zg{α A σ R:Type}{N:Nat}{B:(σ→Option R)→σ→Option R}(l:List α)(X:Nat→A→σ)(ok:Nat→A→Prop)(Q:R→Prop)
  (h0:∀a rec,ok l.length a→∃r,B rec (X l.length a)=some r∧Q r)
  (h1:∀i x a rec,l[i]? = some x→ok i a→(∀a',ok (i+1) a'→∃r,rec (X (i+1) a')=some r∧Q r)→∃r,B rec (X i a)=some r∧Q r)
  (hN:l.length<N) (a:A) (ha:ok 0 a):∃r,loopN B N (X 0 a)=some r∧Q r:=by
 refine zh (fun k x=>∃i a,x=X i a∧i+k=l.length∧ok i a) Q ?_ N l.length _ ⟨0,a,rfl,by omega,ha⟩ hN
 rintro k x rec ⟨i,a,rfl,hk,hok⟩ ih
 by_cases h:i<l.length
 ·exact h1 i _ a rec (IX h) hok fun a' h'=>ih (k-1) _ (by omega) ⟨i+1,a',rfl,by omega,h'⟩
 ·have:i=l.length:=by omega
  subst this
  exact h0 a rec hok
theorem zI(n a b:Int):eH N n a b=some (decide (a≤n)&&decide (n≤b)):=by
 unfold eH
 by_cases h:a≤n<;>simp[h]
theorem A3(l:List Int)(hl:l.length<100000)(hN:l.length<N):∃r,gq N l=some r:=by
 obtain⟨r,hr,_⟩:=zg (N:=N) (B:=fun rec3 x=>eJ N l rec3 x.1 x.2.1 x.2.2) l (fun i (a:Int)=>(a,(l.length:Int),(i:Int))) (fun _ _=>True) (fun _=>True)
  (fun a rec _=>⟨_,by unfold eJ;rw[if_neg (by simp)],trivial⟩)
  (fun i x a rec hx _ ih=>by
   have hlt:=lP hx
   unfold eJ
   rw[if_pos (by simp only[decide_eq_true_eq];omega),ij hx,Hj,fN (by omega)]
   exact ih _ trivial)
  hN 0 trivial
 exact⟨r,by unfold gq;simp only[yN]at hr;rw[hr];rfl⟩
end Go.Proofs.YtdodahpkpeodfaaGreatDoor
namespace Go.Proofs.YtdodahpkpeodfaaGreatDoor
open Go.Kp
variable {N:Nat}
theorem vC(lines:List (List UInt8))(hN:20000≤N):∃b,j0 N lines=some b∧(b=true→lines.length≤55∧∀s∈lines,s.length≤210):=by
 have key:∀(n i:Nat),i≤56→57-i≤n→∃b,loopN (fun rec3 x=>bK N lines rec3 x) n (i:Int)=some b∧(b=true→lines.length≤55∧∀j x,i≤j→lines[j]? = some x→x.length≤210):=by
  intro n
  induction n with
  | zero=>intro i h1 h2;omega
  | succ n ih =>
   intro i h1 h2
   show ∃b,bK N lines (loopN (fun rec3 x=>bK N lines rec3 x) n) (i:Int)=some b∧_
   unfold bK
   by_cases hi:i<lines.length
   ·rw[if_pos (by simp only[decide_eq_true_eq];omega),Hj]
    by_cases h56:i<56
    ·rw[if_pos (by simp only[decide_eq_true_eq];omega)]
     have hx:lines[i]? = some lines[i]:=IX hi
     rw[ij hx,Hj]
     by_cases h210:210<lines[i].length
     ·rw[if_pos (by simp only[decide_eq_true_eq];omega)]
      exact⟨false,rfl,fun h=>by cases h⟩
     ·rw[if_neg (by simp only[decide_eq_true_eq];omega),fN (by omega)]
      obtain⟨b,hb,hq⟩:=ih (i+1) (by omega) (by omega)
      refine⟨b,hb,fun h=>⟨(hq h).1,fun j x hj hx'=>?_⟩⟩
      rcases AC i j with h3 | h3
      ·exact(hq h).2 j x (by omega) hx'
      ·have:j=i:=by omega
       subst this
       rw[hx]at hx';cases hx';omega
    ·rw[if_neg (by simp only[decide_eq_true_eq];omega)]
     refine⟨_,rfl,fun h=>?_⟩
     simp only[decide_eq_true_eq]at h
     omega
   ·rw[if_neg (by simp only[decide_eq_true_eq];omega),Hj]
    refine⟨_,rfl,fun h=>⟨by simp only[decide_eq_true_eq]at h;omega,fun j x hj hx'=>?_⟩⟩
    have:=lP hx'
    omega
 obtain⟨b,hb,hq⟩:=key N 0 (by omega) (by omega)
 refine⟨b,hb,fun h=>⟨(hq h).1,fun s hs=>?_⟩⟩
 obtain⟨j,hj⟩:=AH hs
 exact(hq h).2 j s (ye _) hj
theorem ud(lines:List (List UInt8))(hl:lines.length≤55)(hN:20000≤N):gz N lines=some (lines.all (fun s=>decide (s.length≤200))&&decide (lines.length≤50)):=by
 have key:=rY (N:=N) (R:=Bool) (B:=fun rec3 x=>bf N lines rec3 x) lines (fun(k:Nat)=>(k:Int)) (fun r=>some (r.all (fun s=>decide (s.length≤200))&&decide (lines.length≤50)))
  (fun rec=>by
   show bf N lines rec (lines.length:Int)=_
   unfold bf
   rw[if_neg (by simp)]
   simp[fc]
   omega)
  (fun i x rec hx h=>by
   have hlt:=lP hx
   show bf N lines rec (i:Int)=_
   unfold bf
   rw[if_pos (by simp only[decide_eq_true_eq];omega),ij hx,Hj]
   by_cases h200:200<x.length
   ·rw[if_pos (by simp only[decide_eq_true_eq];omega)]
    simp
    omega
   ·rw[if_neg (by simp only[decide_eq_true_eq];omega),fN (by omega),h]
    have:decide (x.length≤200)=true:=by simp only[decide_eq_true_eq];omega
    simp[this])
  (by omega)
 unfold gz
 simpa using key
theorem vA(lines:List (List UInt8))(hl:lines.length≤50)(hs:∀s∈lines,s.length≤200)(hN:20000≤N):dw N lines=some 0:=by
 have hall:mV N lines 200=some (lines.all fun s=>decide ((s.length:Int)≤200)) :=
  tZ lines (fun y=>kV N y 200) (fun s=>decide ((s.length:Int)≤200)) (fun x _=>rfl) (by omega) (by omega)
 have ht:(lines.all fun s=>decide ((s.length:Int)≤200))=true:=List.all_eq_true.2 fun s hm=>by have:=hs s hm;simp only[decide_eq_true_eq];omega
 unfold dw
 rw[if_neg (by simp only[decide_eq_true_eq];omega),hall,ht]
 rfl
end Go.Proofs.YtdodahpkpeodfaaGreatDoor
namespace Go.Proofs.YtdodahpkpeodfaaGreatDoor
open Go.Kp
variable {N:Nat}
theorem Cb(lines:List (List UInt8))(hl:lines.length≤N):iw N lines=some lines:=by
 unfold iw;rw[nL (by simpa using hl)];rfl
end Go.Proofs.YtdodahpkpeodfaaGreatDoor
namespace Go.Proofs.YtdodahpkpeodfaaGreatDoor
open Go.Kp
variable {N:Nat}
/-! What is on lanes. -/
structure LI(s:aR):Prop where
 fb:∀x∈s.ag,fit x.ar=true∧(x.af<0→x.ar=[])
 dj:∀(i j:Nat) (x y:cA),s.ag[i]? = some x→s.ag[j]? = some y→0≤x.af→x.af=y.af→i=j
theorem Fh:fit []=true:=by decide
theorem HC{l:List Int}{b:Int}(h:fit (l++[b])=true):fit l=true:=by
 unfold fit at *
 rw[decide_eq_true_eq]at *
 exact((F.ok_app L0 (F.s0 L0) l [b]).1 h).1
theorem Fi{l:List Int}(h:fit l=true)(hn:l≠[]):fit l.dropLast=true:=by
 refine HC (b:=l.getLast hn) ?_
 rw[G9];exact h
theorem LI.put{s:aR}(h:LI s)(n:Int)(y:cA)(h1:fit y.ar=true)(h2:y.af<0→y.ar=[])(h3:∀(j:Nat) (z:cA),s.ag[j]? = some z→0≤y.af→z.af=y.af→j=n.toNat):LI (put s n y):=by
 refine⟨fun x hx=>(BP hx).elim (h.fb x) (fun e=>e▸⟨h1,h2⟩),fun i j a b ha hb h0 he=>?_⟩
 have ha':(s.ag.set n.toNat y)[i]? = some a:=ha
 have hb':(s.ag.set n.toNat y)[j]? = some b:=hb
 rw[Bq]at ha' hb'
 split at ha'
 ·rename_i hi
  split at hb'
  ·rename_i hj;omega
  ·split at ha'
   ·cases ha'
    exact(h3 j b hb' h0 he.symm).symm▸hi.symm
   ·cases ha'
 ·rename_i hi
  split at hb'
  ·rename_i hj
   split at hb'
   ·cases hb'
    exact(h3 i a ha' (by omega) he).trans hj
   ·cases hb'
  ·exact h.dj i j a b ha' hb' h0 he
theorem IM{i:Nat}{s:aR}(hS:SI i s)(h:LI s)(ms:List gN)(d:Int)(l:List Int){t:aR}(ht:AD N s ms d l=.inr t):LI t:=by
 have same:∀{t:aR},t.ag=s.ag→LI t:=fun e=>⟨fun x hx=>h.fb x (e▸hx),fun i j x y hx hy=>h.dj i j x y (e▸hx) (e▸hy)⟩
 unfold AD at ht
 simp only at ht
 split at ht
 ·unfold zN at ht
  split at ht
  ·cases ht
  split at ht
  ·cases ht
  split at ht
  ·cases ht
  cases ht;exact same rfl
 split at ht
 ·unfold AO at ht
  split at ht
  ·cases ht
  split at ht
  ·cases ht
  split at ht
  ·rename_i hx
   cases ht
   exact h.put _ _ Fh (fun _=>rfl) fun j z hz _ he=>absurd ⟨z,Jm hz,he⟩ hx.2
  ·cases ht
 split at ht
 ·unfold AP at ht
  split at ht
  ·cases ht
  ·rename_i x hx
   have hl:=zr hx
   have hm:=Jm hl.2.2
   have hb:=hS.lb x hm
   split at ht
   ·cases ht
   split at ht
   ·rename_i hf
    cases ht
    exact h.put _ _ hf (fun hn=>absurd hn (by simp only;omega)) fun j z hz h0 he=>(h.dj _ _ x z hl.2.2 hz h0 he.symm).symm
   ·cases ht
 split at ht
 ·unfold AQ at ht
  split at ht
  ·cases ht
  ·rename_i x hx
   have hl:=zr hx
   have hm:=Jm hl.2.2
   split at ht
   ·cases ht
   split at ht
   ·cases ht
   ·rename_i hn
    cases ht
    exact h.put _ _ (Fi (h.fb x hm).1 hn) (fun hneg=>absurd ((h.fb x hm).2 hneg) hn) fun j z hz h0 he=>(h.dj _ _ x z hl.2.2 hz h0 he.symm).symm
 split at ht
 ·unfold Af at ht
  split at ht
  ·cases ht
  split at ht
  ·cases ht
  split at ht
  ·cases ht
   have key:∀(kk:List (List Int)) (n:Int),LI (put {s with iZ:=kk} n (cA.mk (-1) [])):=fun kk n=>LI.put (s:={s with iZ:=kk}) (same rfl) n (cA.mk (-1) []) Fh (fun _=>rfl) fun j z hz h0 _=>absurd h0 (by simp)
   exact key _ _
  ·cases ht
 split at ht
 ·unfold Ag at ht
  split at ht
  ·cases ht
  split at ht
  ·cases ht
  split at ht
  ·cases ht
  split at ht
  ·cases ht
  split at ht
  ·cases ht
  cases ht;exact same rfl
 split at ht
 ·unfold zO at ht
  split at ht
  ·cases ht
  split at ht
  ·cases ht;exact same rfl
  ·cases ht
 split at ht
 ·unfold AS at ht
  split at ht
  ·cases ht
  split at ht
  ·cases ht;exact same rfl
  ·cases ht
 ·unfold Ah at ht
  split at ht
  ·cases ht
  split at ht
  ·cases ht
  split at ht
  ·cases ht
  ·cases ht;exact same rfl
theorem Ir{i:Nat}{s:aR}(hS:SI i s)(h:LI s)(line:List UInt8):LI (stepW N s line).2:=by
 unfold stepW
 cases hs:zJ N s (nxl N s) line with
 | inl e=>exact h
 | inr t =>
  unfold zJ at hs
  split at hs
  ·cases hs
  split at hs
  ·cases hs
  split at hs
  ·cases hs
  ·exact IM hS h _ _ _ hs
theorem IN:LI st0:=by
 refine⟨fun x hx=>?_,fun i j x y hx hy h0 _=>?_⟩
 ·simp[st0]at hx;subst hx;exact⟨Fh,fun _=>rfl⟩
 ·have:=Jm hx
  simp[st0]at this;subst this;simp at h0
end Go.Proofs.YtdodahpkpeodfaaGreatDoor
namespace Go.Proofs.YtdodahpkpeodfaaGreatDoor
open Go.Kp
variable {N:Nat}
/-! The book of averages is a valid one. -/
structure ShOK(s:aR)(i:Nat)(x:aH):Prop where
 n:x.bX=(i:Int)+1
 b:0≤x.af∧x.af<s.az.length
 w:1≤x.j2∧x.j2≤30
 g:(0≤x.bg.a0∧x.bg.a0≤300)∧(0≤x.bg.a1∧x.bg.a1≤300)∧(0≤x.bg.a2∧x.bg.a2≤300)
structure RI(s:aR):Prop where
 b:∀x∈s.az,0≤x∧x≤300
 k:∀l∈s.iZ,∀x∈l,0≤x∧x≤300
 rs:∀(i:Nat) (x:aH),s.aD[i]? = some x→ShOK s i x
 wp:s.ak.Pairwise (·<·)
 wb:∀x∈s.ak,1≤x∧x≤s.aD.length
theorem HX{l:List Int}{c:Int}(hG:GX N)(hl:l.length≤80)(h:fin N l=some c):0≤c∧c≤300:=by
 obtain⟨g,e,hr,_,_,_,hb⟩:=hG.rd l hl
 unfold fin at h
 rw[hr]at h
 simp only at h
 split at h
 ·exact hb c h
 ·cases h
theorem IP{i:Nat}{s:aR}(hG:GX N)(hS:SI i s)(hi:i≤60)(hN:20000≤N)(h:RI s)(ms:List gN)(d:Int)(l:List Int){t:aR}(ht:AD N s ms d l=.inr t):RI t:=by
 have same:∀{t:aR},t.az=s.az→t.iZ=s.iZ→t.aD=s.aD→t.ak=s.ak→RI t:=fun {t} e1 e2 e3 e4 =>
  ⟨by rw[e1];exact h.b,by rw[e2];exact h.k,fun i x hx=>by have:=h.rs i x (e3▸hx);exact⟨this.n,by rw[e1];exact this.b,this.w,this.g⟩,by rw[e4];exact h.wp,by rw[e4,e3];exact h.wb⟩
 unfold AD at ht
 simp only at ht
 split at ht
 ·unfold zN at ht
  split at ht
  ·cases ht
  rename_i h1
  split at ht
  ·cases ht
  split at ht
  ·cases ht
  cases ht
  refine⟨fun x hx=>?_,fun k hk x hx=>?_,fun i x hx=>?_,h.wp,h.wb⟩
  ·rcases List.mem_append.1 hx with hx | hx
   ·exact h.b x hx
   ·have hx:=List.mem_singleton.1 hx;subst hx;omega
  ·rcases List.mem_append.1 hk with hk | hk
   ·exact h.k k hk x hx
   ·simp at hk;subst hk;simp at hx
  ·have:=h.rs i x hx
   exact⟨this.n,by have:=this.b;simp;omega,this.w,this.g⟩
 split at ht
 ·unfold AO at ht
  split at ht
  ·cases ht
  split at ht
  ·cases ht
  split at ht
  ·cases ht;exact same rfl rfl rfl rfl
  ·cases ht
 split at ht
 ·unfold AP at ht
  split at ht
  ·cases ht
  split at ht
  ·cases ht
  split at ht
  ·cases ht;exact same rfl rfl rfl rfl
  ·cases ht
 split at ht
 ·unfold AQ at ht
  split at ht
  ·cases ht
  split at ht
  ·cases ht
  split at ht
  ·cases ht
  ·cases ht;exact same rfl rfl rfl rfl
 split at ht
 ·unfold Af at ht
  split at ht
  ·cases ht
  rename_i x hx
  split at ht
  ·cases ht
  split at ht
  ·rename_i c k hc hk
   cases ht
   have hlb:=hS.lb x (Jm (zr hx).2.2)
   have hcb:=HX hG (by omega) hc
   refine⟨h.b,fun k' hk' y hy=>?_,fun i x hx=>⟨(h.rs i x hx).n,(h.rs i x hx).b,(h.rs i x hx).w,(h.rs i x hx).g⟩,h.wp,h.wb⟩
   rcases BP hk' with hk' | rfl
   ·exact h.k k' hk' y hy
   ·rcases List.mem_append.1 hy with hy | hy
    ·exact h.k k (Jm hk) y hy
    ·simp at hy;subst hy;exact hcb
  ·cases ht
 split at ht
 ·unfold Ag at ht
  split at ht
  ·cases ht
  rename_i hw
  split at ht
  ·cases ht
  rename_i hkn
  split at ht
  ·cases ht
  rename_i k hk
  split at ht
  ·cases ht
  rename_i h3
  split at ht
  ·cases ht
  cases ht
  have hkb:=h.k k (Jm hk)
  have hgd:∀j,j<k.length→0≤k.getD j 0∧k.getD j 0≤300:=fun j hj=>by
   rw[A5,IX hj]
   exact hkb _ (Be hj)
  refine⟨h.b,fun k' hk' y hy=>?_,fun i x hx=>?_,h.wp,fun x hx=>by have:=h.wb x hx;simp;omega⟩
  ·rcases BP hk' with hk' | rfl
   ·exact h.k k' hk' y hy
   ·exact hkb y (JA hy)
  ·have hx':(s.aD++[aH.mk (s.aD.length+1) (l.getD 1 0) (l.getD 0 0) (Ar3.mk (k.getD (k.length-3) 0) (k.getD (k.length-2) 0) (k.getD (k.length-1) 0))])[i]? = some x:=hx
   rw[JI]at hx'
   split at hx'
   ·exact⟨(h.rs i x hx').n,(h.rs i x hx').b,(h.rs i x hx').w,(h.rs i x hx').g⟩
   ·rename_i hi
    have hi2:i=s.aD.length:=by have:=(List.getElem?_eq_some_iff.1 hx').1;simp at this;omega
    subst hi2
    simp at hx'
    subst hx'
    refine⟨rfl,?_,?_,hgd _ (by omega),hgd _ (by omega),hgd _ (by omega)⟩
    ·simp only[Classical.not_not,known]at hkn;exact hkn
    ·simp only[Classical.not_not]at hw;exact hw
 split at ht
 ·unfold zO at ht
  split at ht
  ·cases ht
  rename_i hn
  have hwl:=hS.wl
  obtain⟨j,hj,hb,hs⟩:=Cj (N:=N) s.ak (l.getD 0 0) (by omega) hN
  rw[hb]at ht
  have hs:=hs h.wp
  generalize l.getD 0 0=n at ht hs hn
  by_cases hf:s.ak[j]? = some n
  ·rw[decide_eq_true hf]at ht;cases ht
  ·rw[decide_eq_false hf]at ht
   simp only[JD]at ht
   cases ht
   refine⟨h.b,h.k,fun i x hx=>⟨(h.rs i x hx).n,(h.rs i x hx).b,(h.rs i x hx).w,(h.rs i x hx).g⟩,?_,fun x hx=>?_⟩
   ·have hlo:∀a∈s.ak.take j,a<n:=fun a ha=>by
     obtain⟨q,hq⟩:=AH ha
     rw[Am]at hq
     split at hq
     ·rename_i hqj;exact hs.1 q a hq hqj
     ·cases hq
    have hhi:∀a∈s.ak.drop j,n<a:=fun a ha=>by
     obtain⟨q,hq⟩:=AH ha
     rw[A6]at hq
     have h1:=hs.2 (j+q) a hq (by omega)
     by_cases he:n=a
     ·exfalso
      subst he
      rcases Cd q with h0 | h0
      ·subst h0;exact hf hq
      ·have hjl:j<s.ak.length:=by have:=(List.getElem?_eq_some_iff.1 hq).1;omega
       have h2:=List.pairwise_iff_getElem.1 h.wp j (j+q) hjl (List.getElem?_eq_some_iff.1 hq).1 (by omega)
       rw[(List.getElem?_eq_some_iff.1 hq).2]at h2
       have h3:=hs.2 j _ (IX hjl) (H9 _)
       omega
     ·omega
    show(s.ak.take j++[n]++s.ak.drop j).Pairwise (·<·)
    rw[zb,Gq]
    refine⟨h.wp.take,?_,fun a ha b hb=>?_⟩
    ·rw[List.singleton_append,En]
     exact⟨hhi,h.wp.drop⟩
    ·have:=hlo a ha
     rcases List.mem_append.1 hb with hb | hb
     ·simp at hb;omega
     ·have:=hhi b hb;omega
   ·have hx':x∈s.ak.take j++[n]++s.ak.drop j:=hx
    rcases List.mem_append.1 hx' with hx' | hx'
    ·rcases List.mem_append.1 hx' with hx' | hx'
     ·exact h.wb x (JA hx')
     ·simp at hx';subst hx';simp only[Classical.not_not]at hn;exact hn
    ·exact h.wb x (By hx')
 split at ht
 ·unfold AS at ht
  split at ht
  ·cases ht
  split at ht
  ·cases ht;exact same rfl rfl rfl rfl
  ·cases ht
 ·unfold Ah at ht
  split at ht
  ·cases ht
  split at ht
  ·cases ht
  split at ht
  ·cases ht
  ·cases ht;exact same rfl rfl rfl rfl
theorem HY(hG:GX N)(hN:20000≤N):∀(l:List (List UInt8)) {i:Nat} {s:aR},SI i s→RI s→i+l.length≤60→RI (zv N s l)
 | [],_,_,_,h,_=>h
 | x::r,i,s,hS,h,hl=>by
  simp only[IS]at hl
  refine HY hG hN r (step_ok hS (by omega) hN x).1 ?_ (by omega)
  unfold stepW
  cases hs:zJ N s (nxl N s) x with
  | inl e=>exact h
  | inr t =>
   unfold zJ at hs
   split at hs
   ·cases hs
   split at hs
   ·cases hs
   split at hs
   ·cases hs
   ·exact IP hG hS (by omega) hN h _ _ _ hs
theorem IQ:RI st0:=⟨by simp[st0],by simp[st0],fun i x hx=>by simp[st0]at hx,by simp[st0],by simp[st0]⟩
/-! Averages and handicaps are told. -/
end Go.Proofs.YtdodahpkpeodfaaGreatDoor
namespace Go.Proofs.YtdodahpkpeodfaaGreatDoor
open Go.Kp
variable {N:Nat}
/-! The house's knock-out: a ladder, whose matches are played one after the other. -/
def fs (K:Nat)(i:Nat):Int:=(K:Int)-2-i
def wn (R:List ab)(i:Nat):Int:=match R[i]? with
 | some r=>r.bg.headD (-1)
 | none=>-1
def sn (K:Nat)(R:List ab)(i:Nat):Int:=if i=0 then(K:Int)-1 else wn R (i-1)
structure DI(K:Nat)(R:List ab):Prop where
 len:R.length=0∨R.length+1≤K
 r:∀(i:Nat) (x:ab),R[i]? = some x→x.dA=i∧x.bg=[wn R i]∧(wn R i=fs K i∨wn R i=sn K R i)
theorem DI.wb{K:Nat}{R:List ab}(h:DI K R):∀i,i<R.length→0≤wn R i∧wn R i<K
 | 0,hi=>by
  have h1:=(h.r 0 _ (IX hi)).2.2
  have h2:=h.len
  unfold fs sn at h1
  rw[if_pos rfl]at h1
  omega
 | i+1,hi=>by
  have h1:=(h.r (i+1) _ (IX hi)).2.2
  have h2:=h.wb i (by omega)
  have:=h.len
  unfold fs sn at h1
  rw[if_neg (by omega),Nat.add_sub_cancel]at h1
  omega
theorem DY{R:List ab}{i:Nat}(h:R.length≤i):wn R i=-1:=by unfold wn;rw[AG h]
theorem Jb(hN:20000≤N):gq N [0,1]=some 1:=by
 obtain⟨n,rfl⟩:∃n,N=n+3:=⟨N-3,by omega⟩
 rfl
theorem EZ{m:Int}{x:Ar2 Int}{c1 c2 c3:Int}{c4:List ab}{c5:List bh}{m1:List (Int×ab)}{l1:List (Ar2 Int)}(hx:idx l1 m=some x)(hN:20000≤N):xS N m [] c1 c2 c3 c4 c5 m1 l1=some (Ar2.mk 0 0):=by
 obtain⟨n,rfl⟩:∃n,N=n+1:=⟨N-1,by omega⟩
 unfold xS
 rw[hx]
 rfl
theorem Pe{m w:Int}{x:Ar2 Int}{c1 c2 c3:Int}{c4:List ab}{c5:List bh}{m1:List (Int×ab)}{l1:List (Ar2 Int)}(hx:idx l1 m=some x)(hN:20000≤N):xS N m [w] c1 c2 c3 c4 c5 m1 l1=some (Ar2.mk (if w=x.a0 then 1 else 0) (if w=x.a1 then 1 else 0)):=by
 have s01:=Jb hN
 unfold xS
 rw[hx,Hj]
 have k1:loopN (fun rec7 y=>eE N [w] x rec7 y.1 y.2.1 y.2.2) N ((([w]:List Int).length:Int),0,(Ar2.mk 0 0))=some (Ar2.mk (if w=x.a0 then 1 else 0) 0):=by
  obtain⟨n,hn⟩:∃n,N=n+2:=⟨N-2,by omega⟩
  have e:∀B:((Int×Int×Ar2 Int)→Option (Ar2 Int))→(Int×Int×Ar2 Int)→Option (Ar2 Int),∀y,loopN B N y=B (loopN B (n+1)) y:=fun B y=>by rw[hn];rfl
  rw[e]
  show eE N [w] x (loopN (fun rec7 y=>eE N [w] x rec7 y.1 y.2.1 y.2.2) (n+1)) 1 0 (Ar2.mk 0 0)=_
  have nxt:∀c,loopN (fun rec7 y=>eE N [w] x rec7 y.1 y.2.1 y.2.2) (n+1) (1,w64 (0+1),c)=some c:=fun c=>rfl
  unfold eE
  rw[if_pos (by decide),show idx [w] 0=some w from rfl,Hj]
  by_cases h:w=x.a0
  ·rw[if_pos (by simp only[decide_eq_true_eq];exact h),if_pos h,s01,Hj,Hj];exact nxt _
  ·rw[if_neg (by simp only[decide_eq_true_eq];exact h),if_neg h,Hj];exact nxt _
 rw[k1,Hj]
 have k2:∀a:Int,loopN (fun rec9 y=>eS N [w] x rec9 y.1 y.2.1 y.2.2) N ((([w]:List Int).length:Int),0,(Ar2.mk a 0))=some (Ar2.mk a (if w=x.a1 then 1 else 0)):=fun a=>by
  obtain⟨n,hn⟩:∃n,N=n+2:=⟨N-2,by omega⟩
  have e:∀B:((Int×Int×Ar2 Int)→Option (Ar2 Int))→(Int×Int×Ar2 Int)→Option (Ar2 Int),∀y,loopN B N y=B (loopN B (n+1)) y:=fun B y=>by rw[hn];rfl
  rw[e]
  show eS N [w] x (loopN (fun rec9 y=>eS N [w] x rec9 y.1 y.2.1 y.2.2) (n+1)) 1 0 (Ar2.mk a 0)=_
  have nxt:∀c,loopN (fun rec9 y=>eS N [w] x rec9 y.1 y.2.1 y.2.2) (n+1) (1,w64 (0+1),c)=some c:=fun c=>rfl
  unfold eS
  rw[if_pos (by decide),show idx [w] 0=some w from rfl,Hj]
  by_cases h:w=x.a1
  ·rw[if_pos (by simp only[decide_eq_true_eq];exact h),if_pos h,s01,Hj,Hj];exact nxt _
  ·rw[if_neg (by simp only[decide_eq_true_eq];exact h),if_neg h,Hj];exact nxt _
 rw[k2,Hj]
theorem Fv{m:Int}{x:Ar2 Int}{c1 c2:Int}{c4:List ab}{c5:List bh}{m1:List (Int×ab)}{l1:List (Ar2 Int)}(hx:idx l1 m=some x)(hN:20000≤N):xP N m [] c1 c2 1 c4 c5 m1 l1=some (-1):=by
 unfold xP
 rw[EZ hx hN,Hj]
 rfl
theorem Fw{m w:Int}{x:Ar2 Int}{c1 c2:Int}{c4:List ab}{c5:List bh}{m1:List (Int×ab)}{l1:List (Ar2 Int)}(hx:idx l1 m=some x)(hw:w=x.a0∨w=x.a1)(hN:20000≤N):xP N m [w] c1 c2 1 c4 c5 m1 l1=some w:=by
 unfold xP
 rw[Pe hx hN,Hj,hx]
 by_cases h:w=x.a0
 ·simp only[if_pos h]
  rw[if_pos (by decide),Hj,h]
 ·have h1:=hw.resolve_left h
  simp only[if_neg h,if_pos h1]
  rw[if_neg (by decide),if_pos (by decide),Hj,h1]
def MR (R:List ab)(n:Nat)(m:List (Int×ab)):Prop:=∀k:Int,mget m k=if 0≤k∧k<n then R[k.toNat]? else none
theorem MR.at{R:List ab}{n:Nat}{m:List (Int×ab)}(h:MR R n m)(hn:R.length≤n)(i:Nat):mget m (i:Int)=R[i]?:=by
 rw[h]
 by_cases hi:i<n
 ·rw[if_pos ⟨by omega,by omega⟩,JD]
 ·rw[if_neg (by omega),AG (by omega)]
theorem Hv{K:Nat}{R:List ab}(hd:DI K R){m1:List (Int×ab)}(hm:MR R R.length m1){i:Nat}{x:Ar2 Int}{c1 c2:Int}{c4:List ab}{c5:List bh}{l1:List (Ar2 Int)}(hx:idx l1 (i:Int)=some x)(h0:x.a0=fs K i)(h1:x.a1=sn K R i)(hN:20000≤N):dq N (i:Int) c1 c2 1 c4 c5 m1 l1=some (wn R i):=by
 unfold dq mgt
 rw[Hj]
 dsimp only
 rw[hm.at (H9 _)]
 cases hr:R[i]? with
 | none =>
  have:R.length≤i:=by
   rcases AC i R.length with h | h
   ·rw[IX h]at hr;cases hr
   ·exact h
  rw[DY this];rfl
 | some r =>
  obtain⟨_,hg,hw⟩:=hd.r i r hr
  simp only[Option.isSome_some,Bf,yo,IE,if_false,hg]
  rw[Fw hx (by rw[h0,h1];exact hw) hN]
  rfl
theorem GY{K:Nat}{R:List ab}(hd:DI K R){r:ab}{m1:List (Int×ab)}{i:Nat}(hr:R[i]? = some r){x:Ar2 Int}{c1 c2:Int}{c4:List ab}{c5:List bh}{l1:List (Ar2 Int)}(hx:idx l1 (i:Int)=some x)(h0:x.a0=fs K i)(h1:x.a1=sn K R i)(hN:20000≤N):yg N r c1 c2 1 c4 c5 m1 l1=some true:=by
 obtain⟨hm,hg,hw⟩:=hd.r i r hr
 have hil:=(List.getElem?_eq_some_iff.1 hr).1
 have hl:=hd.len
 have b0:¬x.a0=-1:=by rw[h0];unfold fs;omega
 have b1:¬x.a1=-1:=by
  rw[h1];unfold sn
  split
  ·omega
  ·have:=hd.wb (i-1) (by omega);omega
 unfold yg
 rw[hm,hx,Hj,if_neg (by simp only[decide_eq_true_eq];exact b0),Hj,if_neg (by simp only[decide_eq_true_eq];exact b1),hg]
 have hc:yP N [x.a0,x.a1] (wn R i)=some true:=by
  have:yP N [x.a0,x.a1] (wn R i)=some (decide (wn R i∈[x.a0,x.a1])):=AZ (N:=N) [x.a0,x.a1] (wn R i) (by simp;omega) (by simp)
  rw[this,h0,h1]
  simp[hw]
 obtain⟨n,hn⟩:∃n,N=n+2:=⟨N-2,by omega⟩
 have key:loopN (fun rec3 y=>fw N r c1 c2 1 c4 c5 m1 l1 x rec3 y.1 y.2) N ((([wn R i]:List Int).length:Int),0)=some true:=by
  have e:∀B:((Int×Int)→Option Bool)→(Int×Int)→Option Bool,∀y,loopN B N y=B (loopN B (n+1)) y:=fun B y=>by rw[hn];rfl
  rw[e]
  show fw N r c1 c2 1 c4 c5 m1 l1 x (loopN (fun rec3 y=>fw N r c1 c2 1 c4 c5 m1 l1 x rec3 y.1 y.2) (n+1)) 1 0=_
  have nxt:loopN (fun rec3 y=>fw N r c1 c2 1 c4 c5 m1 l1 x rec3 y.1 y.2) (n+1) (1,w64 (0+1))=some true:=rfl
  unfold fw
  rw[if_pos (by decide),hg,show idx [wn R i] 0=some (wn R i)from rfl,Hj,hc,Hj]
  simp only[yo,IE,if_false]
  rw[show slc [wn R i] 0 0=some [] from rfl,Hj,hm,Fv hx hN,Hj,Hj]
  rw[if_neg (by decide)]
  exact nxt
 rw[key];rfl
def pair (K i:Nat):bh:=bh.mk (nS.mk (fs K i) (-1)) (if i=0 then nS.mk ((K:Int)-1) (-1)else nS.mk (-1) ((i:Int)-1))
structure TE(K:Nat)(t:List bh):Prop where
 len:t.length+1=K
 el:∀(i:Nat) (p:bh),t[i]? = some p→p=pair K i
structure PE(K:Nat)(R:List ab)(l:List (Ar2 Int)):Prop where
 len:l.length+1=K
 el:∀i,i+1<K→idx l (i:Int)=some (Ar2.mk (fs K i) (sn K R i))
theorem Il{K:Nat}{R:List ab}(hK:2≤K∧K≤8)(hN:20000≤N):∃t,ie N (gu.mk 1 (K:Int) 1 R)=some t∧TE K t:=by
 unfold ie fX gi
 dsimp only
 rw[if_pos (show(decide ((1:Int)=1))=true from rfl),Hj,Hj]
 have e1:w64 ((K:Int)-1)=(K:Int)-1:=bE (by omega) (by omega)
 have e2:w64 ((K:Int)-1-1)=fs K 0:=by rw[bE (by omega) (by omega)];unfold fs;omega
 rw[e1,e2]
 have key:=zh (B:=fun rec3 x=>bV N rec3 x.1 x.2.1 x.2.2) (fun k (x:Int×Int×List bh)=>x.1=(K:Int)-1∧∃n:Nat,x.2.1=n∧1≤n∧n+k+1=K∧x.2.2.length=n∧∀(i:Nat) (p:bh),x.2.2[i]? = some p→p=pair K i) (TE K)
  (fun k x rec hI ih=>by
   obtain⟨v,n',t⟩:=x
   obtain⟨hv,n,hn,h1,h3,h4,h5⟩:=hI
   simp only at hv hn h4 h5
   subst hv hn
   unfold bV gi y8
   by_cases h:(n:Int)<(K:Int)-1
   ·rw[if_pos (by simp only[decide_eq_true_eq];exact h),Hj,Hj,nL (by simp;omega),Hj]
    have e3:w64 ((n:Int)-1)=(n:Int)-1:=bE (by omega) (by omega)
    have e4:w64 (w64 ((K:Int)-1-1)-(n:Int))=fs K n:=by rw[bE (n:=(K:Int)-1-1) (by omega) (by omega),bE (by omega) (by omega)];unfold fs;omega
    dsimp only
    rw[e3,fN (by omega),e4]
    refine ih (k-1) _ (by omega) ⟨rfl,n+1,rfl,by omega,by omega,by simp[h4],fun i p hx=>?_⟩
    rw[JI]at hx
    split at hx
    ·exact h5 i p hx
    ·rename_i hi
     have hi2:i=n:=by have:=(List.getElem?_eq_some_iff.1 hx).1;simp at this;omega
     subst hi2
     rw[h4,El]at hx
     simp at hx
     subst hx
     unfold pair
     rw[if_neg (by omega)]
   ·rw[if_neg (by simp only[decide_eq_true_eq];exact h)]
    exact⟨_,rfl,⟨by simp only;omega,h5⟩⟩)
  N (K-2) ((K:Int)-1,1,[bh.mk (nS.mk (fs K 0) (-1)) (nS.mk ((K:Int)-1) (-1))]) ⟨rfl,1,rfl,by omega,by omega,rfl,fun i p hx=>by
   have hi:=(List.getElem?_eq_some_iff.1 hx).1
   simp at hi;subst hi;simp at hx;subst hx;rfl⟩ (by omega)
 obtain⟨t,ht,hT⟩:=key
 rw[ht]
 exact⟨t,rfl,hT⟩
theorem Im{K:Nat}{R:List ab}(hd:DI K R){m1:List (Int×ab)}(hm:MR R R.length m1){t:List bh}(ht:TE K t)(hK:K≤8)(hN:20000≤N):∃l,fZ N 1 (K:Int) 1 R t m1=some (true,1,(K:Int),1,R,t,l)∧PE K R l:=by
 have htl:=ht.len
 have key:=zg (N:=N) (B:=fun rec3 y=>Kb N 1 (K:Int) 1 R t m1 rec3 y.1 y.2.1 y.2.2) t (fun i (a:List (Ar2 Int))=>((t.length:Int),(i:Int),a)) (fun i a=>a.length=i∧∀j,j<i→idx a (j:Int)=some (Ar2.mk (fs K j) (sn K R j))) (fun z=>∃l,z=(true,1,(K:Int),1,R,t,l)∧PE K R l)
  (fun a rec ha=>⟨_,by unfold Kb yJ;rw[if_neg (by simp)],a,rfl,⟨by omega,fun i hi=>ha.2 i (by omega)⟩⟩)
  (fun i p a rec hx ha ih=>by
   have hlt:=lP hx
   have hp:=ht.el i p hx
   subst hp
   unfold Kb
   rw[if_pos (by simp only[decide_eq_true_eq];omega),ij hx,Hj,show jD N=some ()from rfl,Hj]
   have e1:(Ha (fY N (pair K i)) fun r303=>if decide (r303.dA=(-1))then some ((Ar2.mk r303.mo (-1)))else Ha (dq N r303.dA 1 (K:Int) 1 R t m1 a) fun r304=>some ((Ar2.mk r304 (-1))))=some (Ar2.mk (fs K i) (-1)):=rfl
   rw[e1,Hj]
   have e2:(Ha (KF N (pair K i)) fun r309=>if decide (r309.dA=(-1))then some (Ar2.mk (Ar2.mk (fs K i) (-1)).a0 r309.mo)else Ha (dq N r309.dA 1 (K:Int) 1 R t m1 a) fun r310=>some (Ar2.mk (Ar2.mk (fs K i) (-1)).a0 r310))=some (Ar2.mk (fs K i) (sn K R i)):=by
    rw[show KF N (pair K i)=some (pair K i).yU from rfl,Hj]
    unfold pair sn
    by_cases h0:i=0
    ·subst h0;rfl
    ·simp only[if_neg h0]
     rw[if_neg (by simp only[decide_eq_true_eq];omega)]
     have e3:((i:Int)-1)=((i-1:Nat):Int):=by omega
     have hpr:=ha.2 (i-1) (by omega)
     rw[e3,Hv hd hm hpr rfl rfl hN]
     rfl
   rw[e2,Hj,nL (by simp;omega),Hj]
   have hnew:∀j,j<i+1→idx (a++[Ar2.mk (fs K i) (sn K R i)]) (j:Int)=some (Ar2.mk (fs K j) (sn K R j)):=fun j hj=>by
    by_cases hji:j<i
    ·have:=ha.2 j hji
     unfold idx at this ⊢
     rw[if_pos (by omega)]at this ⊢
     rw[za (by rw[JD];omega)];exact this
    ·have:j=i:=by omega
     subst this
     refine ij ?_
     rw[zL (by omega),ha.1,El];rfl
   unfold mgt
   rw[Hj]
   dsimp only
   rw[hm.at (H9 _)]
   cases hr:R[i]? with
   | none =>
    simp only[Option.isSome_none,IE,if_false,Hj]
    rw[fN (by omega)]
    exact ih _ ⟨by simp[ha.1],hnew⟩
   | some r =>
    simp only[Option.isSome_some,Bf,if_true]
    rw[GY hd hr (hnew i (by omega)) rfl rfl hN,Hj,Hj]
    simp only[yo,IE,if_false]
    rw[fN (by omega)]
    exact ih _ ⟨by simp[ha.1],hnew⟩)
  (by omega) [] ⟨rfl,fun j hj=>by omega⟩
 obtain⟨z,hz,l,rfl,hl⟩:=key
 exact⟨l,hz,hl⟩
theorem Io{K:Nat}{R:List ab}(hd:DI K R)(hK:2≤K∧K≤8)(hN:20000≤N):∃t m l,ig N (gu.mk 1 (K:Int) 1 R)=some (.inr (0,1,(K:Int),1,R,t,m,l))∧TE K t∧MR R R.length m∧PE K R l:=by
 have hl:=hd.len
 have hg:∀r∈R,r.bg.length=1∧0≤r.dA∧r.dA≤(K:Int)-2:=fun r hr=>by
  obtain⟨i,hi⟩:=AH hr
  obtain⟨h1,h2,_⟩:=hd.r i r hi
  have:=(List.getElem?_eq_some_iff.1 hi).1
  rw[h2,h1]
  exact⟨rfl,by omega,by omega⟩
 have hall:(R.all fun _=>true)=true:=List.all_eq_true.2 fun _ _=>rfl
 unfold ig
 have ha:lM N R=some (R.all fun _=>true) :=
  tZ R (fun y=>kD N y) (fun _=>true) (fun x hx=>by
   show kD N x=_
   unfold kD gI
   have:=(hg x hx).1
   rw[Hj,decide_eq_true (by omega:(x.bg.length:Int)≤5)]) (by omega) (by omega)
 have ha2:kE N R (gu.mk 1 (K:Int) 1 R)=some (R.all fun _=>true) :=
  tZ R (fun y=>jC N y (gu.mk 1 (K:Int) 1 R)) (fun _=>true) (fun x hx=>by
   show jC N x _=_
   unfold jC gK
   have h1:=hg x hx
   have e1:w64 ((K:Int)-2)=(K:Int)-2:=bE (by omega) (by omega)
   dsimp only
   rw[zI,Hj,e1,decide_eq_true h1.2.1,decide_eq_true h1.2.2]
   simp only[CS,if_true]
   rw[decide_eq_true (by omega:0<(x.bg.length:Int))];rfl) (by omega) (by omega)
 have hck:gJ N (gu.mk 1 (K:Int) 1 R)=some 0:=by
  unfold gJ
  dsimp only
  rw[if_neg (show ¬((decide ((1:Int)<1))=true) by decide),zI,Hj,decide_eq_true (by omega:2≤(K:Int)),decide_eq_true (by omega:(K:Int)≤16)]
  simp only[CS,yo,IE,if_false]
  rw[zI]
  rfl
 dsimp only
 rw[if_neg (by simp only[decide_eq_true_eq];omega),ha,Hj,Hj]
 rw[hall]
 simp only[yo,IE,if_false]
 rw[hck,Hj]
 simp only[decide_true,yo,IE,if_false]
 rw[ha2,Hj,Hj]
 rw[hall]
 simp only[yo,IE,if_false]
 obtain⟨t,ht,hT⟩:=Il (N:=N) (R:=R) hK hN
 rw[ht,Hj]
 obtain⟨z,hz,hq⟩:=zg (N:=N) (B:=fun rec3 x=>dy N (gu.mk 1 (K:Int) 1 R) t rec3 x.1 x.2.1 x.2.2) R (fun i (a:List (Int×ab))=>((R.length:Int),(i:Int),a)) (fun i a=>MR R i a) (fun z=>∃m l,z=.inr (0,1,(K:Int),1,R,t,m,l)∧MR R R.length m∧PE K R l)
  (fun a rec hm=>by
   unfold dy yC
   rw[if_neg (by simp)]
   obtain⟨l,hf,hp⟩:=Im (N:=N) hd hm hT hK.2 hN
   dsimp only
   rw[hf,Hj]
   exact⟨_,rfl,a,l,rfl,hm,hp⟩)
  (fun i x a rec hx hm ih=>by
   have hlt:=lP hx
   obtain⟨h1,_,_⟩:=hd.r i x hx
   unfold dy mgt
   dsimp only
   rw[if_pos (by simp only[decide_eq_true_eq];omega),ij hx,Hj,Hj,Hj,fN (by omega),h1]
   have:mget a (i:Int)=none:=by rw[hm,if_neg (by omega)]
   rw[this]
   simp only[Option.isSome_none,IE,if_false]
   refine ih _ fun k=>?_
   rw[Az]
   by_cases hk:k=(i:Int)
   ·subst hk
    rw[if_pos rfl,if_pos ⟨by omega,by omega⟩,JD,hx]
   ·rw[if_neg hk,hm]
    by_cases hk2:0≤k∧k<i
    ·rw[if_pos hk2,if_pos ⟨hk2.1,by omega⟩]
    ·rw[if_neg hk2,if_neg (by omega)])
  (by omega) [] (fun k=>by
   show none=_
   rw[if_neg (by omega)])
 simp only[yN]at hz
 obtain⟨m,l,rfl,hm,hp⟩:=hq
 exact⟨t,m,l,hz,hT,hm,hp⟩
end Go.Proofs.YtdodahpkpeodfaaGreatDoor
namespace Go.Proofs.YtdodahpkpeodfaaGreatDoor
open Go.Kp
variable {N:Nat}
def Do (K:Nat)(R:List ab):List gN:=if R.length+1<K then [gN.mk R.length (fs K R.length) (sn K R R.length) 0 0] else []
theorem GB{K:Nat}{R:List ab}(hd:DI K R){i:Nat}(hi:i≤R.length)(hK:i+1<K):0≤sn K R i∧sn K R i<K:=by
 unfold sn
 split
 ·omega
 ·exact hd.wb (i-1) (by omega)
theorem F4{K:Nat}{R:List ab}(hd:DI K R)(hK:2≤K∧K≤8){t:List bh}{m:List (Int×ab)}{l:List (Ar2 Int)}(hm:MR R R.length m)(hl:PE K R l)(hN:20000≤N):yG N 1 (K:Int) 1 R t m l=some (Do K R):=by
 have hll:=hl.len
 have hlen:=hd.len
 unfold yG yI
 have key:=lO (N:=N) (B:=fun rec3 x=>rc N 1 (K:Int) 1 R t m l rec3 x.1 x.2.1 x.2.2) l (fun i (a:List gN)=>((l.length:Int),(i:Int),a)) (fun _ _=>some (Do K R)) (fun i a=>a=if R.length<i∧R.length+1<K then Do K R else [])
  (fun a rec ha=>by
   unfold rc
   rw[if_neg (by simp),ha]
   split
   ·rfl
   ·rename_i hh
    unfold Do
    rw[if_neg (by omega)])
  (fun i x a rec hx ha ih=>by
   have hlt:=lP hx
   have hxe:x=Ar2.mk (fs K i) (sn K R i):=by
    have:=hl.el i (by omega)
    rw[ij hx]at this
    exact Option.some.inj this
   subst hxe
   have b0:¬fs K i=-1:=by unfold fs;omega
   unfold rc
   rw[if_pos (by simp only[decide_eq_true_eq];omega),ij hx,Hj,fN (by omega)]
   rw[if_neg (by simp only[decide_eq_true_eq];exact b0)]
   have hwon:=Hv (c1:=1) (c2:=(K:Int)) (c4:=R) (c5:=t) hd hm (hl.el i (by omega)) rfl rfl hN
   rcases Nat.lt_trichotomy i R.length with hi | hi | hi
   ·have h1:=GB hd (i:=i) (by omega) (by omega)
    have h2:=hd.wb i hi
    rw[if_neg (by simp only[decide_eq_true_eq];omega),hwon,Hj,Hj]
    rw[if_pos (by simp only[zZ,decide_eq_false_iff_not];omega),Hj]
    refine ih _ ?_
    rw[ha,if_neg (by omega),if_neg (by omega)]
   ·have h1:=GB hd (i:=i) (by omega) (by omega)
    rw[if_neg (by simp only[decide_eq_true_eq];omega),hwon,Hj,Hj,DY (by omega)]
    rw[if_neg (by decide)]
    unfold mgt
    rw[Hj]
    dsimp only
    rw[hm.at (H9 _),AG (by omega:R.length≤i)]
    simp only[Option.getD_none]
    rw[EZ (hl.el i (by omega)) hN,Hj,Hj]
    rw[ha,if_neg (by omega),nL (by simp;omega),Hj,Hj]
    refine ih _ ?_
    rw[if_pos ⟨by omega,by omega⟩]
    subst hi
    unfold Do
    rw[if_pos (by omega)]
    rfl
   ·have h1:sn K R i=-1:=by unfold sn;rw[if_neg (by omega),DY (by omega)]
    rw[if_pos (by simp only[decide_eq_true_eq];exact h1),Hj]
    simp only[if_true,Hj]
    refine ih _ ?_
    rw[ha,if_pos ⟨hi,by omega⟩,if_pos ⟨by omega,by omega⟩])
  (by omega) [] (by rw[if_neg (by omega)])
 simp only[yN]at key
 rw[key];rfl
theorem Ip{K:Nat}{R:List ab}(hd:DI K R)(hK:2≤K∧K≤8)(hN:20000≤N):yh N (gu.mk 1 (K:Int) 1 R)=some (Do K R,0):=by
 obtain⟨t,m,l,hdr,_,hm,hl⟩:=Io (N:=N) hd hK hN
 unfold yh
 rw[hdr,Hj]
 dsimp only
 rw[if_neg (by decide),show yQ N 1 (K:Int) 1 R t m l=some ()from rfl,Hj,F4 hd hK hm hl hN,Hj]
theorem Hw{K:Nat}(hK:K<2)(hN:20000≤N):yh N (gu.mk 1 (K:Int) 1 [])=some ([],1):=by
 obtain⟨n,rfl⟩:∃n,N=n+1:=⟨N-1,by omega⟩
 have:K=0∨K=1:=by omega
 rcases this with rfl | rfl<;>rfl
theorem Hx{i:Nat}{s:aR}(hS:SI i s)(hd:DI s.az.length s.aP)(hN:20000≤N):nxl N s=if 2≤s.az.length then Do s.az.length s.aP else []:=by
 have hb:=hS.bl
 unfold nxl cup
 by_cases h:2≤s.az.length
 ·rw[Ip hd ⟨h,hb⟩ hN,if_pos h]
 ·have hr:s.aP=[]:=JB (by have:=hd.len;omega)
  rw[hr,Hw (by omega) hN,if_neg h]
theorem DI.snoc{K:Nat}{R:List ab}(h:DI K R)(hm:R.length+1<K){n:Int}(hn:n=fs K R.length∨n=sn K R R.length):DI K (R++[ab.mk R.length [n] false]):=by
 have hw:∀i,i<R.length→wn (R++[ab.mk R.length [n] false]) i=wn R i:=fun i hi=>by unfold wn;rw[za hi]
 have hwl:wn (R++[ab.mk R.length [n] false]) R.length=n:=by unfold wn;rw[zL (H9 _),El];rfl
 have hs:∀i,i≤R.length→sn K (R++[ab.mk R.length [n] false]) i=sn K R i:=fun i hi=>by
  unfold sn
  split
  ·rfl
  ·exact hw (i-1) (by omega)
 refine⟨.inr (by simp;omega),fun i x hx=>?_⟩
 rcases AC i R.length with hi | hi
 ·rw[za hi]at hx
  obtain⟨h1,h2,h3⟩:=h.r i x hx
  rw[hw i hi,hs i (by omega)]
  exact⟨h1,h2,h3⟩
 ·have hie:i=R.length:=by have:=(List.getElem?_eq_some_iff.1 hx).1;simp at this;omega
  subst hie
  rw[zL (H9 _),El]at hx
  simp at hx
  subst hx
  rw[hwl,hs _ (H9 _)]
  exact⟨rfl,rfl,hn⟩
theorem IJ{R:List ab}{j:Nat}{r:ab}(hr:R[j]? = some r)(p:Bool)(i:Nat):wn (R.set j (ab.mk r.dA r.bg p)) i=wn R i:=by
 unfold wn
 rw[Bq]
 by_cases h:j=i
 ·subst h
  rw[if_pos rfl,if_pos (List.getElem?_eq_some_iff.1 hr).1,hr]
 ·rw[if_neg h]
theorem DI.set{K:Nat}{R:List ab}(h:DI K R){j:Nat}{r:ab}(hr:R[j]? = some r)(p:Bool):DI K (R.set j (ab.mk r.dA r.bg p)):=by
 have hw:=IJ hr p
 have hs:∀i,sn K (R.set j (ab.mk r.dA r.bg p)) i=sn K R i:=fun i=>by unfold sn;rw[hw]
 refine⟨by rw[List.length_set];exact h.len,fun i x hx=>?_⟩
 rw[hw,hs]
 rw[Bq]at hx
 split at hx
 ·rename_i hji
  subst hji
  split at hx
  ·cases hx
   exact h.r j r hr
  ·cases hx
 ·exact h.r i x hx
theorem IK{i:Nat}{s:aR}(hS:SI i s)(hN:20000≤N)(h:DI s.az.length s.aP)(d:Int)(l:List Int){t:aR}(ht:AD N s (nxl N s) d l=.inr t):DI t.az.length t.aP:=by
 have same:∀{t:aR},t.az=s.az→t.aP=s.aP→DI t.az.length t.aP:=fun e1 e2=>by rw[e1,e2];exact h
 unfold AD at ht
 simp only at ht
 split at ht
 ·unfold zN at ht
  split at ht
  ·cases ht
  split at ht
  ·cases ht
  split at ht
  ·cases ht
  rename_i hr
  cases ht
  simp only[ne_eq,Classical.not_not]at hr
  have hr':s.aP=[]:=JB hr
  simp only[hr']
  exact⟨.inl rfl,fun i x hx=>by simp at hx⟩
 split at ht
 ·unfold AO at ht
  split at ht
  ·cases ht
  split at ht
  ·cases ht
  split at ht
  ·cases ht;exact same rfl rfl
  ·cases ht
 split at ht
 ·unfold AP at ht
  split at ht
  ·cases ht
  split at ht
  ·cases ht
  split at ht
  ·cases ht;exact same rfl rfl
  ·cases ht
 split at ht
 ·unfold AQ at ht
  split at ht
  ·cases ht
  split at ht
  ·cases ht
  split at ht
  ·cases ht
  ·cases ht;exact same rfl rfl
 split at ht
 ·unfold Af at ht
  split at ht
  ·cases ht
  split at ht
  ·cases ht
  split at ht
  ·cases ht;exact same rfl rfl
  ·cases ht
 split at ht
 ·unfold Ag at ht
  split at ht
  ·cases ht
  split at ht
  ·cases ht
  split at ht
  ·cases ht
  split at ht
  ·cases ht
  split at ht
  ·cases ht
  cases ht;exact same rfl rfl
 split at ht
 ·unfold zO at ht
  split at ht
  ·cases ht
  split at ht
  ·cases ht;exact same rfl rfl
  ·cases ht
 split at ht
 ·rw[Hx hS h hN]at ht
  unfold AS at ht
  by_cases hb:2≤s.az.length
  ·rw[if_pos hb]at ht
   unfold Do at ht
   by_cases hm:s.aP.length+1<s.az.length
   ·rw[if_pos hm]at ht
    simp only at ht
    split at ht
    ·rename_i hn
     cases ht
     exact h.snoc hm hn
    ·cases ht
   ·rw[if_neg hm]at ht;cases ht
  ·rw[if_neg hb]at ht;cases ht
 ·unfold Ah at ht
  split at ht
  ·cases ht
  split at ht
  ·cases ht
  rename_i r hr
  split at ht
  ·cases ht
  ·cases ht
   exact h.set hr true
theorem Hy(hN:20000≤N):∀(l:List (List UInt8)) {i:Nat} {s:aR},SI i s→DI s.az.length s.aP→i+l.length≤60→DI (zv N s l).az.length (zv N s l).aP
 | [],_,_,_,h,_=>h
 | x::r,i,s,hS,h,hl=>by
  simp only[IS]at hl
  refine Hy hN r (step_ok hS (by omega) hN x).1 ?_ (by omega)
  unfold stepW
  cases hs:zJ N s (nxl N s) x with
  | inl e=>exact h
  | inr t =>
   unfold zJ at hs
   split at hs
   ·cases hs
   split at hs
   ·cases hs
   split at hs
   ·cases hs
   ·exact IK hS hN h _ _ hs
theorem IL:DI st0.az.length st0.aP:=⟨.inl rfl,fun i x hx=>by simp[st0]at hx⟩
end Go.Proofs.YtdodahpkpeodfaaGreatDoor
namespace Go.Proofs.YtdodahpkpeodfaaGreatDoor
open Go.Kp
variable {N:Nat}
/-! The document's state. -/
def Cv (x:cA):yE:=yE.mk x.af x.ar
def Dr (x:aH):xh:=xh.mk x.bX x.af x.j2 x.bg
def Db (x:ab):dt:=dt.mk x.dA x.bg x.lT
def HD:List cA→Ar4 yE
 | [a,b,c,d]=>Ar4.mk (Cv a) (Cv b) (Cv c) (Cv d)
 | _=>Ar4.mk (yE.mk (-1) []) (yE.mk (-1) []) (yE.mk (-1) []) (yE.mk (-1) [])
def tr (s:aR):bZ:=bZ.mk s.az (HD s.ag) s.iZ (s.aD.map Dr) s.ak (s.aP.map Db)
def emr (s:aR):Int⊕aR→bZ×Int
 | .inl e=>(tr s,e)
 | .inr t=>(tr t,0)
theorem GD(n a b:Int):Bw N n a b=some (decide (a≤n)&&decide (n≤b)):=by
 unfold Bw
 by_cases h:a≤n<;>simp[h]
theorem Fj{n a b:Int}(h:a≤n∧n≤b):Bw N n a b=some true:=by rw[GD,decide_eq_true h.1,decide_eq_true h.2];rfl
theorem Fk{n a b:Int}(h:¬(a≤n∧n≤b)):Bw N n a b=some false:=by
 rw[GD]
 congr 1
 rw[xi];intro e;simp only[wH,decide_eq_true_eq]at e;exact h e
theorem F8{s:aR}(h:s.ag.length=4):∃a b c d,s.ag=[a,b,c,d]:=by
 match hl:s.ag,h with
 | [a,b,c,d],_=>exact⟨a,b,c,d,rfl⟩
theorem De{s:aR}(h:s.ag.length=4)(n:Int):(lane s n=none↔¬(0≤n∧n≤3)):=by
 unfold lane
 by_cases h0:0≤n
 ·rw[if_pos h0,List.getElem?_eq_none_iff];omega
 ·rw[if_neg h0];exact⟨fun _ h=>h0 h.1,fun _=>rfl⟩
theorem F9{i:Nat}{s:aR}(hS:SI i s)(hi:i≤60)(hN:20000≤N)(a:Int):CZ N (tr s) a=some (emr s (zN s a)):=by
 have hb:=hS.bl
 have hk:=hS.kl
 unfold CZ zN
 by_cases h:0≤a∧a≤300
 ·rw[Fj h,Hj,if_neg (show ¬(¬(0≤a∧a≤300))from fun e=>e h)]
  simp only[yo,IE,if_false]
  have e1:(tr s).az=s.az:=rfl
  have e2:(tr s).aP.length=s.aP.length:=by simp[tr]
  have e3:(tr s).iZ=s.iZ:=rfl
  rw[e1,e2,e3]
  by_cases h8:s.az.length<8
  ·rw[if_neg (by simp only[decide_eq_true_eq];omega),if_neg (show ¬ ¬s.az.length<8 from fun e=>e h8)]
   by_cases hr:s.aP.length=0
   ·rw[if_neg (by simp only[decide_eq_true_eq];omega),if_neg (show ¬s.aP.length≠0 from fun e=>e hr),nL (by simp;omega),Hj,nL (by simp;omega),Hj,nL (by simp;omega),Hj,nL (by simp;omega),Hj]
    rfl
   ·rw[if_pos (by simp only[decide_eq_true_eq];omega),if_pos (show s.aP.length≠0 from hr)];rfl
  ·rw[if_pos (by simp only[decide_eq_true_eq];omega),if_pos h8];rfl
 ·rw[Fk h,Hj,if_pos h];rfl
theorem Jd{R:Type}(y b k a:Int)(z E:Option R):Ha (if decide (y=b)then some true else if decide (k=a)then some (decide (0≤y))else some false) (fun v=>if v then z else E)=if y=b∨(k=a∧0≤y)then z else E:=by
 by_cases h1:y=b<;>by_cases h2:k=a<;>by_cases h3:0≤y<;>simp[h1,h2,h3]
  <;> (try (subst h1;simp[h3]))
theorem HE{i:Nat}{s:aR}(hS:SI i s)(a b:Int):Du N (tr s) a b=some (emr s (AO s a b)):=by
 have hb:=hS.bl
 have hla:=hS.la
 have hlb:=hS.lb
 unfold Du AO
 have e1:(tr s).az=s.az:=rfl
 rw[e1,bE (by omega) (by omega)]
 cases hx:lane s a with
 | none =>
  rw[Fk ((De hla a).1 hx),Hj];rfl
 | some x =>
  have h03:0≤a∧a≤3:=Classical.byContradiction fun h=>by rw[(De hla a).2 h]at hx;cases hx
  rw[Fj h03,Hj]
  simp only[yo,IE,if_false]
  by_cases hk:known s b
  ·rw[Fj (by unfold known at hk;omega),Hj,Hj,if_neg (show ¬ ¬known s b from fun e=>e hk)]
   simp only[yo,IE,if_false]
   obtain⟨l0,l1,l2,l3,hl⟩:=F8 hla
   have b0:=(hlb l0 (by rw[hl];simp)).1
   have b1:=(hlb l1 (by rw[hl];simp)).1
   have b2:=(hlb l2 (by rw[hl];simp)).1
   have b3:=(hlb l3 (by rw[hl];simp)).1
   have et:(tr s).ag=Ar4.mk (Cv l0) (Cv l1) (Cv l2) (Cv l3):=by unfold tr;rw[hl];rfl
   have hex:(∃y∈s.ag,y.af=b)↔(l0.af=b∨l1.af=b∨l2.af=b∨l3.af=b):=by rw[hl];simp
   have hput:∀y,tr (put s a y)=bZ.mk s.az (HD (s.ag.set a.toNat y)) s.iZ (s.aD.map Dr) s.ak (s.aP.map Db):=fun y=>rfl
   have hxa:x=if a=0 then l0 else if a=1 then l1 else if a=2 then l2 else l3:=by
    unfold lane at hx
    rw[if_pos h03.1,hl]at hx
    have:a=0∨a=1∨a=2∨a=3:=by omega
    rcases this with rfl | rfl | rfl | rfl<;>exact(Option.some.inj hx).symm
   have q0:(tr s).ag.a0.af=l0.af:=by rw[et];rfl
   have q1:(tr s).ag.a1.af=l1.af:=by rw[et];rfl
   have q2:(tr s).ag.a2.af=l2.af:=by rw[et];rfl
   have q3:(tr s).ag.a3.af=l3.af:=by rw[et];rfl
   have h4:a=0∨a=1∨a=2∨a=3:=by omega
   have hc4:(a=0→x=l0)∧(a=1→x=l1)∧(a=2→x=l2)∧(a=3→x=l3):=by
    rcases h4 with rfl | rfl | rfl | rfl<;>simp at hxa<;>simp[hxa]
   have hk0:=hk.1
   simp only[Jd]
   by_cases hcond:x.af=-1∧¬(∃y∈s.ag,y.af=b)
   ·rw[if_pos hcond]
    rw[hex]at hcond
    obtain⟨hxb,hno⟩:=hcond
    have w0:a=0→l0.af=-1:=fun e=>by rw[← hc4.1 e];exact hxb
    have w1:a=1→l1.af=-1:=fun e=>by rw[← hc4.2.1 e];exact hxb
    have w2:a=2→l2.af=-1:=fun e=>by rw[← hc4.2.2.1 e];exact hxb
    have w3:a=3→l3.af=-1:=fun e=>by rw[← hc4.2.2.2 e];exact hxb
    show _=some (tr (put s a _),0)
    rw[hput,hl,if_neg (by rw[q0];omega),if_neg (by rw[q1];omega),if_neg (by rw[q2];omega),if_neg (by rw[q3];omega),et]
    rcases h4 with rfl | rfl | rfl | rfl<;>rfl
   ·rw[if_neg hcond]
    show _=some (tr s,6)
    rw[hex]at hcond
    by_cases n0:(tr s).ag.a0.af=b∨(0=a∧0≤(tr s).ag.a0.af)
    ·rw[if_pos n0]
    rw[if_neg n0]
    by_cases n1:(tr s).ag.a1.af=b∨(1=a∧0≤(tr s).ag.a1.af)
    ·rw[if_pos n1]
    rw[if_neg n1]
    by_cases n2:(tr s).ag.a2.af=b∨(2=a∧0≤(tr s).ag.a2.af)
    ·rw[if_pos n2]
    rw[if_neg n2]
    by_cases n3:(tr s).ag.a3.af=b∨(3=a∧0≤(tr s).ag.a3.af)
    ·rw[if_pos n3]
    exfalso
    rw[q0]at n0
    rw[q1]at n1
    rw[q2]at n2
    rw[q3]at n3
    apply hcond
    refine⟨?_,by omega⟩
    rcases h4 with h | h | h | h
    ·rw[hc4.1 h];omega
    ·rw[hc4.2.1 h];omega
    ·rw[hc4.2.2.1 h];omega
    ·rw[hc4.2.2.2 h];omega
  ·rw[Fk (by unfold known at hk;omega),Hj,Hj,if_pos hk];rfl
end Go.Proofs.YtdodahpkpeodfaaGreatDoor
namespace Go.Proofs.YtdodahpkpeodfaaGreatDoor
open Go.Kp
variable {N:Nat}
structure FX(N:Nat):Prop where
 is:∀l:List Int,l.length≤80→DX N L0 l=some (fit l)
 fin:∀l:List Int,fit l=true→Cq N L0 l=some ((fin N l).getD (-1))
def st4 (s:aR)(a b c d:cA):bZ:=bZ.mk s.az (Ar4.mk (Cv a) (Cv b) (Cv c) (Cv d)) s.iZ (s.aD.map Dr) s.ak (s.aP.map Db)
theorem D2{s:aR}{a b c d:cA}(hl:s.ag=[a,b,c,d]):tr s=st4 s a b c d:=by unfold tr st4;rw[hl];rfl
theorem Ga{s:aR}{a b c d:cA}(hl:s.ag=[a,b,c,d])(y:cA):tr (put s 0 y)=st4 s y b c d∧tr (put s 1 y)=st4 s a y c d∧tr (put s 2 y)=st4 s a b y d∧tr (put s 3 y)=st4 s a b c y:=by
 unfold tr put st4
 rw[hl]
 exact⟨rfl,rfl,rfl,rfl⟩
theorem Er{s:aR}(h:s.ag.length=4){n:Int}{x:cA}(hx:lane s n=some x):∃a b c d,s.ag=[a,b,c,d]∧((n=0∧x=a)∨(n=1∧x=b)∨(n=2∧x=c)∨(n=3∧x=d)):=by
 obtain⟨a,b,c,d,hl⟩:=F8 h
 refine⟨a,b,c,d,hl,?_⟩
 have h03:0≤n∧n≤3:=Classical.byContradiction fun q=>by rw[(De h n).2 q]at hx;cases hx
 unfold lane at hx
 rw[if_pos h03.1,hl]at hx
 have:n=0∨n=1∨n=2∨n=3:=by omega
 rcases this with rfl | rfl | rfl | rfl
 ·exact .inl ⟨rfl,(Option.some.inj hx).symm⟩
 ·exact .inr (.inl ⟨rfl,(Option.some.inj hx).symm⟩)
 ·exact .inr (.inr (.inl ⟨rfl,(Option.some.inj hx).symm⟩))
 ·exact .inr (.inr (.inr ⟨rfl,(Option.some.inj hx).symm⟩))
theorem HF{i:Nat}{s:aR}(hF:FX N)(hS:SI i s)(hi:i≤60)(hN:20000≤N)(a p:Int):Dw N (tr s) a p=some (emr s (AP s a p)):=by
 have hla:=hS.la
 unfold Dw AP
 cases hx:lane s a with
 | none=>rw[Fk ((De hla a).1 hx),Hj];rfl
 | some x =>
  obtain⟨l0,l1,l2,l3,hl,hc⟩:=Er hla hx
  have hlb:=hS.lb x (Jm (zr hx).2.2)
  obtain⟨p0,p1,p2,p3⟩:=Ga hl (cA.mk x.af (x.ar++[p]))
  have k1:app N [] x.ar=some x.ar:=by rw[nL (by simp;omega)];rfl
  have k2:app N x.ar [p]=some (x.ar++[p]):=by rw[nL (by simp;omega)]
  have hIs:=hF.is (x.ar++[p]) (by simp;omega)
  have hlw:Dh N=some L0:=rfl
  rw[Fj (by omega),Hj,D2 hl]
  simp only[yo,IE,if_false]
  by_cases hb:x.af=-1
  ·rw[if_pos hb]
   have hn:x.af<0:=by omega
   rcases hc with⟨rfl,rfl⟩ | ⟨rfl,rfl⟩ | ⟨rfl,rfl⟩ | ⟨rfl,rfl⟩<;>simp[st4,Cv,hn,emr,D2 hl]
  ·rw[if_neg hb]
   have hn:¬x.af<0:=by omega
   cases hf:fit (x.ar++[p])with
   | false =>
    rw[hf]at hIs
    rcases hc with⟨rfl,rfl⟩ | ⟨rfl,rfl⟩ | ⟨rfl,rfl⟩ | ⟨rfl,rfl⟩<;>simp[st4,Cv,hn,emr,D2 hl,k1,k2,hlw,hIs]
   | true =>
    rw[hf]at hIs
    rcases hc with⟨rfl,rfl⟩ | ⟨rfl,rfl⟩ | ⟨rfl,rfl⟩ | ⟨rfl,rfl⟩<;>simp[st4,Cv,hn,emr,p0,p1,p2,p3,k1,k2,hlw,hIs]
theorem HG{i:Nat}{s:aR}(hS:SI i s)(hi:i≤60)(hN:20000≤N)(a:Int):Dx N (tr s) a=some (emr s (AQ s a)):=by
 have hla:=hS.la
 unfold Dx AQ
 cases hx:lane s a with
 | none=>rw[Fk ((De hla a).1 hx),Hj];rfl
 | some x =>
  obtain⟨l0,l1,l2,l3,hl,hc⟩:=Er hla hx
  have hlb:=hS.lb x (Jm (zr hx).2.2)
  obtain⟨p0,p1,p2,p3⟩:=Ga hl (cA.mk x.af x.ar.dropLast)
  rw[Fj (by omega),Hj,D2 hl]
  simp only[yo,IE,if_false]
  by_cases hb:x.af=-1
  ·rw[if_pos hb]
   have hn:x.af<0:=by omega
   rcases hc with⟨rfl,rfl⟩ | ⟨rfl,rfl⟩ | ⟨rfl,rfl⟩ | ⟨rfl,rfl⟩<;>simp[st4,Cv,hn,emr,D2 hl]
  ·rw[if_neg hb]
   have hn:¬x.af<0:=by omega
   by_cases he:x.ar=[]
   ·rw[if_pos he]
    rcases hc with⟨rfl,rfl⟩ | ⟨rfl,rfl⟩ | ⟨rfl,rfl⟩ | ⟨rfl,rfl⟩<;>simp[st4,Cv,hn,emr,D2 hl,he]
   ·rw[if_neg he]
    have hpos:0<x.ar.length:=List.length_pos_iff.2 he
    have e1:w64 ((x.ar.length:Int)-1)=((x.ar.length-1:Nat):Int):=by rw[bE (by omega) (by omega)];omega
    have e2:(x.ar.take ((x.ar.length-1:Nat):Int).toNat).drop (0:Int).toNat=x.ar.dropLast:=by rw[List.dropLast_eq_take];simp
    have k1:slc x.ar 0 (w64 ((x.ar.length:Int)-1))=some x.ar.dropLast:=by rw[e1,rX (by omega) (by omega) (by omega),e2]
    have k2:app N [] x.ar.dropLast=some x.ar.dropLast:=by rw[nL (by simp;omega)];rfl
    rcases hc with⟨rfl,rfl⟩ | ⟨rfl,rfl⟩ | ⟨rfl,rfl⟩ | ⟨rfl,rfl⟩<;>simp[st4,Cv,hn,emr,p0,p1,p2,p3,k1,k2,he]
theorem G0{i:Nat}{s:aR}(hG:GX N)(hF:FX N)(hS:SI i s)(hL:LI s)(hi:i≤60)(hN:20000≤N)(a:Int):Dj N (tr s) a=some (emr s (Af N s a)):=by
 have hla:=hS.la
 have hbl:=hS.bl
 have hkl:=hS.kl
 unfold Dj Af
 cases hx:lane s a with
 | none=>rw[Fk ((De hla a).1 hx),Hj];rfl
 | some x =>
  obtain⟨l0,l1,l2,l3,hl,hc⟩:=Er hla hx
  have hm:=Jm (zr hx).2.2
  have hlb:=hS.lb x hm
  have hfin:=hF.fin x.ar (hL.fb x hm).1
  have hlw:Dh N=some L0:=rfl
  rw[Fj (by omega),Hj,D2 hl]
  simp only[yo,IE,if_false]
  by_cases hb:x.af=-1
  ·rw[if_pos hb]
   have hn:x.af<0:=by omega
   rcases hc with⟨rfl,rfl⟩ | ⟨rfl,rfl⟩ | ⟨rfl,rfl⟩ | ⟨rfl,rfl⟩<;>simp[st4,Cv,hn,emr,D2 hl]
  ·rw[if_neg hb]
   have hn:¬x.af<0:=by omega
   have hlt:x.af.toNat<s.iZ.length:=by omega
   have hk:=IX hlt
   have hkb:=hS.kb _ (Be hlt)
   generalize s.iZ[x.af.toNat]=k at hk hkb
   cases hf:fin N x.ar with
   | none =>
    rw[hf]at hfin
    have hq:(-1:Int)<0:=by decide
    rcases hc with⟨rfl,rfl⟩ | ⟨rfl,rfl⟩ | ⟨rfl,rfl⟩ | ⟨rfl,rfl⟩<;>simp[st4,Cv,hn,emr,D2 hl,hlw,hfin]
   | some c =>
    rw[hf]at hfin
    have hfb:=HX hG (by omega) hf
    have hq:¬c<0:=by omega
    simp only[hk]
    obtain⟨p0,p1,p2,p3⟩:=Ga (s:={s with iZ:=s.iZ.set x.af.toNat (k++[c])}) hl (cA.mk (-1) [])
    have k1:app N [] s.iZ=some s.iZ:=by rw[nL (by simp;omega)];rfl
    have k2:app N [] k=some k:=by rw[nL (by simp;omega)];rfl
    have k3:app N k [c]=some (k++[c]):=by rw[nL (by simp;omega)]
    have k4:idx s.iZ x.af=some k:=yy (by omega) hk
    simp only[Bf]at hfin
    rcases hc with⟨rfl,rfl⟩ | ⟨rfl,rfl⟩ | ⟨rfl,rfl⟩ | ⟨rfl,rfl⟩<;>simp[st4,Cv,hn,emr,p0,p1,p2,p3,k1,k2,k3,k4,hlw,hfin,hq]
end Go.Proofs.YtdodahpkpeodfaaGreatDoor
namespace Go.Proofs.YtdodahpkpeodfaaGreatDoor
open Go.Kp
variable {N:Nat}
theorem Gb{i:Nat}{s:aR}(hS:SI i s)(hi:i≤60)(hN:20000≤N)(w b:Int):Dk N (tr s) w b=some (emr s (Ag s w b)):=by
 have hbl:=hS.bl
 have hkl:=hS.kl
 have hsl:=hS.sl
 unfold Dk Ag
 have e1:(tr s).az=s.az:=rfl
 have e2:(tr s).iZ=s.iZ:=rfl
 have e3:(tr s).aD=s.aD.map Dr:=rfl
 rw[e1,e2,e3,Ia]
 by_cases hw:1≤w∧w≤30
 ·rw[Fj hw,Hj,if_neg (show ¬ ¬(1≤w∧w≤30)from fun e=>e hw)]
  simp only[yo,IE,if_false]
  rw[bE (n:=(s.az.length:Int)-1) (by omega) (by omega)]
  by_cases hk:known s b
  ·have hk2:0≤b∧b≤(s.az.length:Int)-1:=by unfold known at hk;omega
   rw[Fj hk2,Hj,if_neg (show ¬ ¬known s b from fun e=>e hk)]
   simp only[yo,IE,if_false]
   have hlt:b.toNat<s.iZ.length:=by omega
   have hkx:=IX hlt
   have hkb:=hS.kb _ (Be hlt)
   generalize s.iZ[b.toNat]=k at hkx hkb
   have hkx2:=yy (i:=b) (by omega) hkx
   rw[hkx2,Hj]
   simp only[hkx]
   by_cases h3:k.length<3
   ·rw[if_pos (by simp only[decide_eq_true_eq];omega),if_pos h3];rfl
   ·rw[if_neg (by simp only[decide_eq_true_eq];omega),if_neg h3]
    by_cases h40:s.aD.length<40
    ·rw[if_neg (by simp only[decide_eq_true_eq];omega),if_neg (show ¬ ¬s.aD.length<40 from fun e=>e h40)]
     have f3:w64 ((k.length:Int)-3)=((k.length-3:Nat):Int):=by rw[bE (by omega) (by omega)];omega
     have f2:w64 ((k.length:Int)-2)=((k.length-2:Nat):Int):=by rw[bE (by omega) (by omega)];omega
     have f1:w64 ((k.length:Int)-1)=((k.length-1:Nat):Int):=by rw[bE (by omega) (by omega)];omega
     have f4:w64 (1+(s.aD.length:Int))=(s.aD.length:Int)+1:=by rw[bE (by omega) (by omega)];omega
     have g:∀j,j<k.length→idx k (j:Int)=some (k.getD j 0):=fun j hj=>by
      refine ij ?_
      rw[A5,IX hj];rfl
     have a1:app N [] s.iZ=some s.iZ:=by rw[nL (by simp;omega)];rfl
     have a2:app N [] (s.aD.map Dr)=some (s.aD.map Dr):=by rw[nL (by simp;omega)];rfl
     rw[a1,Hj,f3,rX (by omega) (by omega) (by omega),Hj]
     have a3:app N [] ((k.take ((k.length-3:Nat):Int).toNat).drop (0:Int).toNat)=some (k.take (k.length-3)):=by rw[nL (by simp;omega)];simp
     rw[a3,Hj,hkx2,Hj,Hj]
     dsimp only
     rw[f3,f2,f1,f4,g _ (by omega),Hj,g _ (by omega),Hj,g _ (by omega),Hj,a2,Hj,nL (by simp;omega),Hj,Hj]
     simp[emr,tr,Dr]
    ·rw[if_pos (by simp only[decide_eq_true_eq];omega),if_pos h40];rfl
  ·have hk2:¬(0≤b∧b≤(s.az.length:Int)-1):=by unfold known at hk;omega
   rw[Fk hk2,Hj,if_pos hk];rfl
 ·rw[Fk hw,Hj,if_pos hw];rfl
theorem EJ:∀{l m:List Int},l.Pairwise (·<·)→m.Pairwise (·<·)→(∀x,x∈l↔x∈m)→l=m
 | [],[],_,_,_=>rfl
 | [],y::m,_,_,h=>by have:=(h y).2 (zV ..);cases this
 | x::l,[],_,_,h=>by have:=(h x).1 (zV ..);cases this
 | x::l,y::m,hl,hm,h=>by
  rw[En]at hl hm
  have hxy:x=y:=by
   rcases List.mem_cons.1 ((h x).1 (zV ..))with e | e
   ·exact e
   ·rcases List.mem_cons.1 ((h y).2 (zV ..))with e2 | e2
    ·exact e2.symm
    ·have:=hm.1 x e;have:=hl.1 y e2;omega
  subst hxy
  rw[EJ hl.2 hm.2 fun z=>⟨fun hz=>?_,fun hz=>?_⟩]
  ·rcases List.mem_cons.1 ((h z).1 (AK _ hz))with e | e
   ·subst e;have:=hl.1 z hz;omega
   ·exact e
  ·rcases List.mem_cons.1 ((h z).2 (AK _ hz))with e | e
   ·subst e;have:=hm.1 z hz;omega
   ·exact e
theorem has_eq(l:List Int)(n:Int)(hl:l.length≤1000)(hN:20000≤N):DP N l n=some (decide (n∈l)) :=
 GW (N:=N) l n (by omega) (by omega)
theorem Gc{i:Nat}{s:aR}(hS:SI i s)(hR:RI s)(hi:i≤60)(hN:20000≤N)(a:Int):C1 N (tr s) a=some (emr s (zO N s a)):=by
 have hwl:=hS.wl
 have hsl:=hS.sl
 unfold C1 zO
 have e2:(tr s).ak=s.ak:=rfl
 have e3:(tr s).aD.length=s.aD.length:=by simp[tr]
 rw[e2,e3]
 by_cases hw:1≤a∧a≤s.aD.length
 ·rw[Fj hw,Hj,if_neg (show ¬ ¬(1≤a∧a≤s.aD.length)from fun e=>e hw)]
  simp only[yo,IE,if_false]
  rw[has_eq _ _ (by omega) hN,Hj]
  obtain⟨j,hj,hb,hs⟩:=Cj (N:=N) s.ak a (by omega) hN
  obtain⟨hs1,hs2⟩:=hs hR.wp
  rw[hb]
  have hmem:a∈s.ak↔s.ak[j]? = some a:=by
   constructor
   ·intro hm
    obtain⟨k,hk⟩:=AH hm
    rcases Nat.lt_trichotomy k j with h | h | h
    ·have:=hs1 k a hk h;omega
    ·exact h▸hk
    ·have hkl:=(List.getElem?_eq_some_iff.1 hk).1
     have hjl:j<s.ak.length:=by omega
     have h1:=hs2 j _ (IX hjl) (H9 _)
     have h2:=List.pairwise_iff_getElem.1 hR.wp j k hjl hkl h
     rw[(List.getElem?_eq_some_iff.1 hk).2]at h2
     omega
   ·exact Jm
  by_cases hin:a∈s.ak
  ·rw[decide_eq_true hin,decide_eq_true (hmem.1 hin)];rfl
  ·rw[decide_eq_false hin,decide_eq_false (fun e=>hin (hmem.2 e))]
   simp only[IE,if_false]
   obtain⟨r,hr,hrp,hrm⟩:=zh (B:=fun rec3 x=>CK N (tr s) a rec3 x.1 x.2)
    (fun g (x:Int×List Int)=>∃n:Nat,x.1=n∧1≤n∧n+g=s.aD.length+1∧x.2.length<n∧x.2.Pairwise (·<·)∧∀y,y∈x.2↔(1≤y∧y<n)∧(y=a∨y∈s.ak))
    (fun r=>r.Pairwise (·<·)∧∀y,y∈r↔(1≤y∧y≤s.aD.length)∧(y=a∨y∈s.ak))
    (fun g x rec hI ih=>by
     obtain⟨x1,x2⟩:=x
     obtain⟨n,hn,h1,hg,hlen,hp,hm⟩:=hI
     simp only at hn hlen hp hm
     subst hn
     unfold CK
     rw[e3,e2]
     by_cases h:n≤s.aD.length
     ·rw[if_pos (by simp only[decide_eq_true_eq];omega),has_eq _ _ (by omega) hN]
      have hcond:(if decide ((n:Int)=a)then some true else Ha (some (decide ((n:Int)∈s.ak))) fun r32=>some r32)=some (decide ((n:Int)=a∨(n:Int)∈s.ak)):=by
       by_cases h2:(n:Int)=a<;>simp[h2]
      rw[hcond,Hj]
      by_cases hc:(n:Int)=a∨(n:Int)∈s.ak
      ·rw[decide_eq_true hc]
       simp only[if_true]
       rw[nL (by simp;omega),Hj,Hj,fN (by omega)]
       refine ih (g-1) _ (by omega) ⟨n+1,rfl,by omega,by omega,by simp;omega,?_,fun y=>?_⟩
       ·rw[Gq]
        refine⟨hp,List.pairwise_singleton _ _,fun u hu v hv=>?_⟩
        have:=((hm u).1 hu).1
        have hv:=List.mem_singleton.1 hv
        omega
       ·simp only[AL,EP]
        rw[hm y]
        constructor
        ·rintro(⟨h1,h2⟩ | h1)
         ·exact⟨by omega,h2⟩
         ·subst h1;exact⟨by omega,hc⟩
        ·rintro⟨h1,h2⟩
         by_cases hy:y=n
         ·exact .inr hy
         ·exact .inl ⟨by omega,h2⟩
      ·rw[decide_eq_false hc]
       simp only[IE,if_false,Hj]
       rw[fN (by omega)]
       refine ih (g-1) _ (by omega) ⟨n+1,rfl,by omega,by omega,by simp only;omega,hp,fun y=>?_⟩
       simp only
       rw[hm y]
       constructor
       ·rintro⟨h1,h2⟩;exact⟨by omega,h2⟩
       ·rintro⟨h1,h2⟩
        by_cases hy:y=n
        ·subst hy;exact absurd h2 hc
        ·exact⟨by omega,h2⟩
     ·rw[if_neg (by simp only[decide_eq_true_eq];omega)]
      refine⟨_,rfl,hp,fun y=>?_⟩
      rw[hm y]
      constructor
      ·rintro⟨h1,h2⟩;exact⟨by omega,h2⟩
      ·rintro⟨h1,h2⟩;exact⟨by omega,h2⟩)
    N s.aD.length (1,[]) ⟨1,rfl,H9 _,by omega,by simp,List.Pairwise.nil,fun y=>by
     constructor
     ·intro h;cases h
     ·rintro⟨h1,_⟩;omega⟩ (by omega)
   rw[hr,Hj]
   have hjn:((j:Int)).toNat=j:=JD j
   have heq:r=s.ak.take (j:Int).toNat++[a]++s.ak.drop (j:Int).toNat:=by
    rw[hjn]
    refine EJ hrp ?_ fun y=>?_
    ·have hsplit:=hR.wp
     rw[← BL j s.ak,Gq]at hsplit
     obtain⟨s1,s2,s3⟩:=hsplit
     have t1:∀u∈s.ak.take j,u<a:=fun u hu=>by
      obtain⟨k,hk⟩:=AH hu
      rw[Am]at hk
      split at hk
      ·rename_i hkj;exact hs1 k u hk hkj
      ·cases hk
     have t2:∀u∈s.ak.drop j,a<u:=fun u hu=>by
      obtain⟨k,hk⟩:=AH hu
      rw[A6]at hk
      have h1:=hs2 (j+k) u hk (by omega)
      have h2:a≠u:=fun e=>hin (e▸By hu)
      omega
     rw[zb,Gq]
     refine⟨s1,?_,fun u hu v hv=>?_⟩
     ·rw[List.singleton_append,En]
      exact⟨t2,s2⟩
     ·rcases List.mem_append.1 hv with hv | hv
      ·rw[List.mem_singleton.1 hv];exact t1 u hu
      ·exact s3 u hu v hv
    ·rw[hrm y]
     have hm2:y∈s.ak↔y∈s.ak.take j∨y∈s.ak.drop j:=by rw[← AL,BL]
     rw[AL,AL,EP,hm2]
     constructor
     ·rintro⟨_,h | h | h⟩
      ·exact .inl (.inr h)
      ·exact .inl (.inl h)
      ·exact .inr h
     ·intro h
      have hy:y=a∨y∈s.ak:=by
       rw[hm2]
       rcases h with(h | h) | h
       ·exact .inr (.inl h)
       ·exact .inl h
       ·exact .inr (.inr h)
      refine⟨?_,by rw[hm2]at hy;exact hy⟩
      rcases hy with h | h
      ·subst h;exact hw
      ·exact hR.wb y h
   rw[heq]
   rfl
 ·rw[Fk hw,Hj,if_pos hw];rfl
theorem G2{i:Nat}{s:aR}(hS:SI i s)(hi:i≤60)(hN:20000≤N)(a:Int):Dl N (tr s) a=some (emr s (Ah s a)):=by
 have hrl:=hS.rl
 have e3:(tr s).aP=s.aP.map Db:=rfl
 unfold Dl Ah
 have key:=o6 (N:=N) (B:=fun rec3 x=>Cy N (tr s) a rec3 x) s.aP (fun i=>(i:Int))
  (fun i r=>some (emr s (match r.findIdx? (fun r=>decide (r.dA=a))with
   | none=>.inl 7
   | some j=>match s.aP[i+j]? with
    | none=>.inl 7
    | some r=>if r.lT then .inl 6 else .inr {s with aP:=s.aP.set (i+j) (ab.mk r.dA r.bg true)})))
  (fun rec=>by
   unfold Cy
   rw[e3,Ia,if_neg (by simp)];rfl)
  (fun i x rec hx h=>by
   have hlt:=lP hx
   have hx2:(s.aP.map Db)[i]? = some (Db x):=by rw[Jr,hx];rfl
   unfold Cy
   rw[e3,Ia,if_pos (by simp only[decide_eq_true_eq];omega),ij hx2,Hj,fN (by omega),List.findIdx?_cons]
   have em:(Db x).dA=x.dA:=rfl
   rw[em]
   by_cases hm:x.dA=a
   ·rw[if_neg (by simp[hm]),decide_eq_true hm]
    simp only[if_true,Nat.add_zero,hx]
    have ep:(Db x).lT=x.lT:=rfl
    rw[ep]
    cases x.lT with
    | true=>rfl
    | false =>
     simp only[IE,if_false]
     rw[nL (by simp;omega),Hj,y9,ij hx2,Hj]
     simp[emr,tr,Db,List.map_set]
   ·rw[if_pos (by simp[hm]),decide_eq_false hm,h]
    simp only[IE,if_false]
    cases(s.aP.drop (i+1)).findIdx? (fun r=>decide (r.dA=a))with
    | none=>rfl
    | some j=>simp only[zn];rw[show i+1+j=i+(j+1)from by omega])
  (by omega) 0 (by omega)
 simp only[yN,Jp,Em]at key
 exact key
end Go.Proofs.YtdodahpkpeodfaaGreatDoor
namespace Go.Proofs.YtdodahpkpeodfaaGreatDoor
open Go.Kp
variable {N:Nat}
/-! The matches that can be played, by the document. -/
def DE (K:Nat)(R:List ab):nW:=nW.mk 1 (K:Int) 1 (R.map Db)
theorem Fz{K:Nat}{R:List ab}(hd:DI K R)(hK:K≤8)(hN:20000≤N)(i:Nat):Dd N (DE K R) i=some (if i<R.length then(i:Int)else -1):=by
 have hl:=hd.len
 unfold Dd
 have key:=o6 (N:=N) (B:=fun rec3 x=>CL N (DE K R) i rec3 x) R (fun k=>(k:Int))
  (fun k r=>some (if k≤i∧i<R.length then(i:Int)else -1))
  (fun rec=>by
   unfold CL C9
   have:(DE K R).aP.length=R.length:=by simp[DE]
   rw[this,if_neg (by simp),if_neg (by omega)])
  (fun k x rec hx h=>by
   have hlt:=lP hx
   have e1:(DE K R).aP=R.map Db:=rfl
   have hx2:(R.map Db)[k]? = some (Db x):=by rw[Jr,hx];rfl
   have hm:=(hd.r k x hx).1
   have em:(Db x).dA=k:=hm
   unfold CL
   rw[e1,Ia,if_pos (by simp only[decide_eq_true_eq];omega),ij hx2,Hj,em]
   by_cases hk:k=i
   ·subst hk
    rw[if_pos (by simp),if_pos ⟨H9 _,hlt⟩]
   ·rw[if_neg (by simp only[decide_eq_true_eq];omega),fN (by omega),h]
    by_cases h2:k≤i∧i<R.length
    ·rw[if_pos h2,if_pos (by omega)]
    ·rw[if_neg h2,if_neg (by omega)])
  (by omega) 0 (by omega)
 simp only[yN]at key
 rw[key]
 congr 1
 by_cases h:i<R.length
 ·rw[if_pos ⟨by omega,h⟩,if_pos h]
 ·rw[if_neg (by omega),if_neg h]
theorem G3(hN:20000≤N)(w:Int):CU N [w] w=some 1:=by
 obtain⟨n,rfl⟩:∃n,N=n+2:=⟨N-2,by omega⟩
 unfold CU
 show Ha (zG (n+2) [w] w (loopN (fun rec3 x=>zG (n+2) [w] w rec3 x.1 x.2) (n+1)) 0 0) _=_
 have nxt:loopN (fun rec3 x=>zG (n+2) [w] w rec3 x.1 x.2) (n+1) (w64 (0+1),w64 (0+1))=some 1:=rfl
 have e:zG (n+2) [w] w (loopN (fun rec3 x=>zG (n+2) [w] w rec3 x.1 x.2) (n+1)) 0 0=some 1:=by
  unfold zG
  rw[if_pos (by simp),show idx [w] 0=some w from rfl,Hj,if_pos (by simp),Hj]
  exact nxt
 rw[e];rfl
theorem HH{K:Nat}{R:List ab}(hN:20000≤N)(w:Int):CM N (DE K R) [w]=some w:=by
 obtain⟨n,hn⟩:∃n,N=n+1:=⟨N-1,by omega⟩
 unfold CM
 have e:loopN (fun rec3 x=>zc N (DE K R) [w] rec3 x) N 0=zc N (DE K R) [w] (loopN (fun rec3 x=>zc N (DE K R) [w] rec3 x) n) 0:=by
  conv=>lhs;rw[hn]
  subst hn;rfl
 rw[e]
 unfold zc
 rw[if_pos (by simp),show idx [w] 0=some w from rfl,Hj,G3 hN,Hj,if_pos (by show decide ((1:Int)<w64 (2*1))=true;decide)]
theorem GF{K:Nat}{R:List ab}(hd:DI K R)(hK:K≤8)(hN:20000≤N)(i:Nat):Dz N (DE K R) i=some (wn R i):=by
 unfold Dz
 rw[Fz hd hK hN,Hj]
 by_cases h:i<R.length
 ·have hx:=IX h
  have hg:=(hd.r i _ hx).2.1
  generalize R[i]=x at hx hg
  have hx2:(DE K R).aP[i]? = some (Db x):=by show(R.map Db)[i]? = _;rw[Jr,hx];rfl
  rw[if_pos h,if_neg (by simp only[decide_eq_true_eq];omega),ij hx2,Hj,show(Db x).bg=x.bg from rfl,hg,HH hN,Hj]
 ·rw[if_neg h,DY (by omega)];rfl
def DQ (K i:Nat):nR:=nR.mk (sb.mk (fs K i) (-1)) (if i=0 then sb.mk ((K:Int)-1) (-1)else sb.mk (-1) ((i:Int)-1))
theorem HI{K:Nat}{R:List ab}(hK:2≤K∧K≤8)(hN:20000≤N):Dy N (DE K R)=some ((Jq (K-1)).map (DQ K)):=by
 unfold Dy
 rw[if_pos (show decide ((DE K R).sU=1)=true from rfl)]
 have ep:(DE K R).mn=(K:Int):=rfl
 have e1:w64 ((K:Int)-1)=(K:Int)-1:=bE (by omega) (by omega)
 have e2:w64 ((K:Int)-2)=(K:Int)-2:=bE (by omega) (by omega)
 obtain⟨r,hr,hq⟩:=zh (B:=fun rec5 x=>C8 N (DE K R) rec5 x.1 x.2) (fun g (x:Int×List nR)=>∃n:Nat,x.1=n∧n+g=K-1∧x.2=(Jq n).map (DQ K)) (fun r=>r=(Jq (K-1)).map (DQ K))
  (fun g x rec hI ih=>by
   obtain⟨x1,x2⟩:=x
   obtain⟨n,hn,hg,hx⟩:=hI
   simp only at hn hx
   subst hn hx
   unfold C8
   rw[ep,e1,e2]
   by_cases h:n<K-1
   ·rw[if_pos (by simp only[decide_eq_true_eq];omega)]
    have e3:w64 ((K:Int)-2-n)=fs K n:=by rw[bE (by omega) (by omega)];rfl
    have es:(if decide ((n:Int)=0)then some (sb.mk ((K:Int)-1) (-1))else some (sb.mk (-1) (w64 ((n:Int)-1))))=some (DQ K n).yU:=by
     unfold DQ
     by_cases h0:n=0
     ·subst h0;rfl
     ·rw[if_neg (by simp only[decide_eq_true_eq];omega),if_neg h0,bE (by omega) (by omega)]
    rw[es,Hj,nL (by simp;omega),Hj,fN (by omega),e3]
    exact ih (g-1) _ (by omega) ⟨n+1,rfl,by omega,by rw[List.range_succ,zR];rfl⟩
   ·rw[if_neg (by simp only[decide_eq_true_eq];omega)]
    have:n=K-1:=by omega
    subst this
    exact⟨_,rfl,rfl⟩)
  N (K-1) (0,[]) ⟨0,rfl,by omega,rfl⟩ (by omega)
 rw[hr,hq];rfl
theorem HJ{K:Nat}{R:List ab}(i:Nat):CA N (DE K R) (DQ K i).rx=some (fs K i):=rfl
theorem HK{K:Nat}{R:List ab}(hd:DI K R)(hK:K≤8)(hN:20000≤N)(i:Nat):CA N (DE K R) (DQ K i).yU=some (sn K R i):=by
 unfold CA DQ sn
 by_cases h:i=0
 ·subst h;rfl
 ·simp only[if_neg h]
  rw[if_neg (by simp only[decide_eq_true_eq];omega),show(i:Int)-1=((i-1:Nat):Int) by omega,GF hd hK hN,Hj]
def Fl (x:gN):A7:=A7.mk x.bX x.rx x.yU x.fWon x.fLost
theorem HL{K:Nat}{R:List ab}(hd:DI K R)(hK:2≤K∧K≤8)(hN:20000≤N):DA N (DE K R)=some ((Do K R).map Fl):=by
 have hlen:=hd.len
 unfold DA
 rw[HI hK hN,Hj]
 have key:=lO (N:=N) (B:=fun rec3 x=>CN N (DE K R) ((Jq (K-1)).map (DQ K)) rec3 x.1 x.2) (Jq (K-1)) (fun i (a:List A7)=>((i:Int),a)) (fun _ _=>some ((Do K R).map Fl)) (fun i a=>a=if R.length<i∧R.length+1<K then(Do K R).map Fl else [])
  (fun a rec ha=>by
   unfold CN
   simp only[Ia,Bn]at ha ⊢
   rw[if_neg (by simp),ha]
   split
   ·rfl
   ·rename_i hh
    unfold Do
    rw[if_neg (by omega)];rfl)
  (fun i x a rec hx ha ih=>by
   have hlt:=lP hx
   rw[Bn]at hlt
   have hxi:x=i:=by rw[List.getElem?_range hlt]at hx;exact(Option.some.inj hx).symm
   subst hxi
   have hp:((Jq (K-1)).map (DQ K))[x]? = some (DQ K x):=by rw[Jr,hx];rfl
   unfold CN
   rw[Ia,Bn,if_pos (by simp only[decide_eq_true_eq];omega),ij hp,Hj,HJ,Hj,HK hd hK.2 hN,Hj,fN (by omega)]
   have b0:¬fs K x<0:=by unfold fs;omega
   rw[if_neg (by simp only[decide_eq_true_eq];exact b0)]
   have hwon:=GF (N:=N) hd hK.2 hN x
   rcases Nat.lt_trichotomy x R.length with hi | hi | hi
   ·have h1:=GB hd (i:=x) (by omega) (by omega)
    have h2:=hd.wb x hi
    rw[if_neg (by simp only[decide_eq_true_eq];omega),hwon,Hj,Hj,decide_eq_true h2.1]
    simp only[if_true,Hj]
    refine ih _ ?_
    rw[ha,if_neg (by omega),if_neg (by omega)]
   ·have h1:=GB hd (i:=x) (by omega) (by omega)
    rw[if_neg (by simp only[decide_eq_true_eq];omega),hwon,Hj,Hj,DY (by omega),decide_eq_false (by decide)]
    simp only[IE,if_false]
    rw[Fz hd hK.2 hN,Hj,if_neg (show ¬x<R.length by omega),if_neg (by decide),Hj,ha,if_neg (by omega),nL (by simp;omega),Hj,Hj]
    refine ih _ ?_
    rw[if_pos ⟨by omega,by omega⟩]
    unfold Do
    rw[if_pos (by omega),← hi]
    rfl
   ·have h1:sn K R x=-1:=by unfold sn;rw[if_neg (by omega),DY (by omega)]
    rw[h1,if_pos (by decide),Hj]
    simp only[if_true,Hj]
    refine ih _ ?_
    rw[ha,if_pos ⟨hi,by omega⟩,if_pos ⟨by omega,by omega⟩])
  (by rw[Bn];omega) [] (by rw[if_neg (by omega)])
 simp only[yN]at key
 rw[key];rfl
theorem HM{i:Nat}{s:aR}(hS:SI i s)(hD:DI s.az.length s.aP)(hi:i≤60)(hN:20000≤N)(a:Int):DB N (tr s) a=some (emr s (AS s (nxl N s) a)):=by
 have hbl:=hS.bl
 have hrl:=hS.rl
 rw[Hx hS hD hN]
 unfold DB AS
 have e1:(tr s).az=s.az:=rfl
 have ec:Eg N (tr s)=some (DE s.az.length s.aP):=rfl
 rw[e1,ec]
 by_cases h2:2≤s.az.length
 ·rw[if_neg (by simp only[decide_eq_true_eq];omega),Hj,HL hD ⟨h2,hbl⟩ hN,Hj,if_pos h2,Ia]
  unfold Do
  by_cases hm:s.aP.length+1<s.az.length
  ·rw[if_pos hm]
   simp only
   generalize fs s.az.length s.aP.length=f
   generalize sn s.az.length s.aP s.aP.length=g
   obtain⟨m,hm0,hm1,hm2,hm3⟩:∃m,List.map Fl [gN.mk s.aP.length f g 0 0]=[m]∧m.bX=s.aP.length∧m.rx=f∧m.yU=g:=⟨_,rfl,rfl,rfl,rfl⟩
   have ei:idx [m] 0=some m:=rfl
   rw[hm0,if_neg (by simp),ei,Hj]
   by_cases ha:a=f∨a=g
   ·rw[if_pos ha]
    have hc:(if !decide (m.rx=a)then some (!decide (m.yU=a))else some false)=some false:=by
     rcases ha with rfl | rfl
     ·simp[hm2]
     ·simp[hm3]
    rw[hc,Hj]
    simp only[IE,if_false]
    rw[Hj]
    have er:(tr s).aP=s.aP.map Db:=rfl
    rw[er,nL (by simp;omega),Hj,nL (by simp;omega),Hj,Hj,hm1]
    simp[emr,tr,Db]
   ·rw[if_neg ha]
    have hc:(if !decide (m.rx=a)then some (!decide (m.yU=a))else some false)=some true:=by
     have h1:¬m.rx=a:=fun e=>ha (.inl (by rw[← e,hm2]))
     have h2:¬m.yU=a:=fun e=>ha (.inr (by rw[← e,hm3]))
     simp[h1,h2]
    rw[hc,Hj]
    rfl
  ·rw[if_neg hm];rfl
 ·rw[if_pos (by simp only[decide_eq_true_eq];omega),if_neg h2];rfl
end Go.Proofs.YtdodahpkpeodfaaGreatDoor
namespace Go.Proofs.YtdodahpkpeodfaaGreatDoor
open Go.Kp
variable {N:Nat}
/-! The desk plays lines. -/
structure AI(i:Nat)(s:aR):Prop where
 si:SI i s
 di:DI s.az.length s.aP
 li:LI s
 ri:RI s
theorem P3:AI 0 st0:=⟨AU,IL,IN,IQ⟩
theorem AI.step{i:Nat}{s:aR}(hG:GX N)(h:AI i s)(hi:i≤59)(hN:20000≤N)(line:List UInt8):AI (i+1) (stepW N s line).2:=by
 refine⟨(step_ok h.si (by omega) hN line).1,?_,Ir h.si h.li line,?_⟩
 ·have:=Hy hN [line] h.si h.di (by simp;omega)
  exact this
 ·have:=HY hG hN [line] h.si h.ri (by simp;omega)
  exact this
theorem AI.run(hG:GX N)(hN:20000≤N):∀(l:List (List UInt8)) {i:Nat} {s:aR},AI i s→i+l.length≤60→AI (i+l.length) (zv N s l)
 | [],i,s,h,_=>h
 | x::r,i,s,h,hl=>by
  simp only[IS]at hl ⊢
  have:=AI.run hG hN r (h.step hG (by omega) hN x) (by omega)
  rw[show i+(r.length+1)=i+1+r.length by omega]
  exact this
theorem B9{i:Nat}{s:aR}(hG:GX N)(hx:∃ms e,yh N (cup s)=some (ms,e))(h:SI i s)(hi:i≤60)(hN:20000≤N)(line:List UInt8)(hl:line.length≤210):iT N line (aL.mk s)=some ((stepW N s line).1,aL.mk (stepW N s line).2):=by
 obtain⟨ms,e,hL⟩:=hx
 have hn:nxl N s=ms:=by unfold nxl;rw[hL]
 unfold iT stepW
 rw[B7 hG h hi hN hL line hl,hn]
 cases zJ N s ms line<;>rfl
theorem AI.nx{i:Nat}{s:aR}(h:AI i s)(hN:20000≤N):∃ms e,yh N (cup s)=some (ms,e):=by
 unfold cup
 by_cases h2:2≤s.az.length
 ·exact⟨_,_,Ip h.di ⟨h2,h.si.bl⟩ hN⟩
 ·have hr:s.aP=[]:=JB (by have:=h.di.len;omega)
  rw[hr]
  exact⟨_,_,Hw (by omega) hN⟩
theorem Ca(hG:GX N)(hN:20000≤N)(lines:List (List UInt8))(hl:lines.length≤55)(hs:∀s∈lines,s.length≤210):gn N lines=some (zB N st0 lines,aL.mk (zv N st0 lines)):=by
 have key:=lO (N:=N) (B:=fun rec3 x=>eD N lines rec3 x.1 x.2.1 x.2.2.1 x.2.2.2) lines (fun i (a:aR×List Int)=>((lines.length:Int),(i:Int),aL.mk a.1,a.2))
  (fun r a=>some (aL.mk (zv N a.1 r),a.2++zB N a.1 r)) (fun i a=>AI i a.1∧a.2.length=i)
  (fun a rec _=>by
   unfold eD
   rw[if_neg (by simp)]
   simp[zv,zB])
  (fun i x a rec hx' ha ih=>by
   have hlt:=lP hx'
   unfold eD
   rw[if_pos (by simp only[decide_eq_true_eq];omega),ij hx',Hj,B9 hG (ha.1.nx hN) ha.1.si (by omega) hN x (hs x (Jm hx')),Hj]
   dsimp only
   rw[nL (by simp;omega),Hj,fN (by omega),ih (_,_) ⟨ha.1.step hG (by omega) hN x,by simp[ha.2]⟩]
   simp[zv,zB])
  (by omega) (st0,[]) ⟨P3,rfl⟩
 unfold gn
 rw[BW hN,Hj]
 simp only[yN]at key
 rw[key]
 simp
end Go.Proofs.YtdodahpkpeodfaaGreatDoor
namespace Go.Proofs.YtdodahpkpeodfaaGreatDoor
open Go.Kp
variable {N:Nat}
/-! The document's parse of a line that is accepted. -/
def vst (a:Nat)(c:UInt8):Nat:=10*a+(c.toNat-48)
def vl (a:Nat)(l:List UInt8):Nat:=l.foldl vst a
theorem Eo(a:Nat):vl a []=a:=by unfold vl;exact List.foldl_nil
theorem DZ(a:Nat)(c:UInt8)(r:List UInt8):vl a (c::r)=vl (10*a+(c.toNat-48)) r:=by
 have e:10*a+(c.toNat-48)=vst a c:=by unfold vst;exact Eq.refl _
 rw[e];unfold vl;exact wx ..
theorem IB(l:List UInt8):∀a:Nat,a≤vl a l:=by
 induction l with
 | nil=>intro a;rw[Eo];exact H9 a
 | cons c r ih =>
  intro a
  rw[DZ]
  exact zW (by omega) (ih (10*a+(c.toNat-48)))
theorem Hz(l:List UInt8)(a:Nat)(c:UInt8):vl a (l++[c])=10*vl a l+(c.toNat-48):=by
 have e:10*vl a l+(c.toNat-48)=vst (vl a l) c:=by unfold vst;exact Eq.refl _
 rw[e];unfold vl;rw[List.foldl_append];exact wx ..
theorem Jc(l:List UInt8):∀(a:Nat),(∀c∈l,48≤c.toNat∧c.toNat≤57)→vl a l<(a+1)*10 ^ l.length:=by
 induction l with
 | nil =>
  intro a _
  rw[Eo,yf,Nat.pow_zero,Nat.mul_one]
  exact Nat.lt_succ_self a
 | cons c r ih =>
  intro a h
  have hc:=h c (zV ..)
  rw[DZ]
  have h1:=ih (10*a+(c.toNat-48)) (fun d hd=>h d (AK c hd))
  rw[IS,Ev,Nat.mul_comm (10 ^ r.length) 10,← Nat.mul_assoc]
  refine Nat.lt_of_lt_of_le h1 (BO _ ?_)
  omega
theorem Ff{l:List UInt8}{u:Nat}(i1:vl 0 l=u)(i2:∀c∈l,48≤c.toNat∧c.toNat≤57)(hl:l.length≤9):u<1000000000:=by
 have h:=Jc l 0 i2
 rw[i1,Jp,Nat.one_mul]at h
 have:(10:Nat) ^ l.length≤10 ^ 9:=Gz (by omega) hl
 have e:(10:Nat) ^ 9=1000000000:=by decide
 omega
theorem IC:∀n<10,(UInt8.ofNat (48+n)).toNat=48+n:=by decide
theorem Fg:∀(f u:Nat),u<10 ^ f→1≤f→vl 0 (uf f u)=u∧(∀c∈uf f u,48≤c.toNat∧c.toNat≤57)∧1≤(uf f u).length∧(((uf f u).headD 0).toNat=48→(uf f u).length=1)∧(1≤u→((uf f u).headD 0).toNat≠48)
 | 0,_,_,h=>by omega
 | f+1,u,hu,_=>by
  unfold uf
  by_cases h:u<10
  ·rw[if_pos h]
   have e:=IC u h
   refine⟨by rw[DZ,Eo,e];omega,fun c hc=>?_,by simp,fun _=>by simp,fun h1=>?_⟩
   ·have hc:=List.mem_singleton.1 hc
    rw[hc,e];omega
   ·simp only[List.headD_cons];omega
  ·rw[if_neg h]
   have h2:u / 10<10 ^ f:=by
    rw[Ev]at hu;omega
   have hf:1≤f:=by
    rcases Cd f with rfl | hf
    ·simp at hu;omega
    ·exact hf
   obtain⟨i1,i2,i3,i4,i5⟩:=Fg f (u / 10) h2 hf
   have e:=IC (u % 10) (by omega)
   have hd:(uf f (u / 10)++[UInt8.ofNat (48+u % 10)]).headD 0=(uf f (u / 10)).headD 0:=by
    cases hq:uf f (u / 10)with
    | nil=>rw[hq]at i3;simp at i3
    | cons a b=>rfl
   refine⟨by rw[Hz,i1,e];omega,fun c hc=>?_,by simp,fun h0=>?_,fun _=>?_⟩
   ·rcases List.mem_append.1 hc with hc | hc
    ·exact i2 c hc
    ·have hc:=List.mem_singleton.1 hc
     rw[hc,e];omega
   ·rw[hd]at h0
    exact absurd h0 (i5 (by omega))
   ·rw[hd];exact i5 (by omega)
theorem Fx(hN:20000≤N)(s:List UInt8)(less:Bool)(k u:Nat)(hs:s.length≤1000)(hk:k≤s.length)(hv:vl 0 (s.drop k)=u)(hu:u<1000000000)(hd:∀c∈s.drop k,48≤c.toNat∧c.toNat≤57) :
  loopN (fun rec3 x=>kW N s less rec3 x.1 x.2) N ((k:Int),0)=some (if less then -(u:Int)else u,true):=by
 obtain⟨r,hr,hq⟩:=zh (B:=fun rec3 x=>kW N s less rec3 x.1 x.2) (fun g (x:Int×Int)=>∃a m:Nat,x.1=a∧x.2=m∧k≤a∧a+g=s.length∧vl m (s.drop a)=u) (fun r=>r=(if less then -(u:Int)else(u:Int),true))
  (fun g x rec hI ih=>by
   obtain⟨x1,x2⟩:=x
   obtain⟨a,m,ha,hm,hka,hag,hval⟩:=hI
   simp only at ha hm
   subst ha hm
   unfold kW
   by_cases h:a<s.length
   ·rw[if_pos (by simp only[decide_eq_true_eq];omega)]
    have hx:=IX h
    have hdrop:s.drop a=s[a]::s.drop (a+1):=zp h
    have hdc:48≤s[a].toNat∧s[a].toNat≤57:=hd _ (by
     rw[List.mem_iff_getElem?]
     refine⟨a-k,?_⟩
     rw[A6,show k+(a-k)=a by omega,hx])
    rw[hdrop,DZ]at hval
    have hge:=IB (s.drop (a+1)) (10*m+(s[a].toNat-48))
    generalize hc:s[a]=c at hx hdc hval hge
    unfold Cm
    rw[ij hx,Hj,if_neg (by simp only[decide_eq_true_eq];omega),Hj]
    rw[if_neg (by simp only[decide_eq_true_eq];omega),Hj]
    have e1:w64 (10*(m:Int))=10*(m:Int):=bE (by omega) (by omega)
    have e2:w64 (Go.IntKind.wrap .u8 ((c.toNat:Int)-48))=(c.toNat:Int)-48:=by
     have:Go.IntKind.wrap .u8 ((c.toNat:Int)-48)=(c.toNat:Int)-48:=by
      have hw:∀n<10,Go.IntKind.wrap .u8 ((n:Nat):Int)=((n:Nat):Int):=by decide
      have:=hw (c.toNat-48) (by omega)
      rw[show(((c.toNat-48:Nat)):Int)=(c.toNat:Int)-48 by omega]at this
      exact this
     rw[this,bE (by omega) (by omega)]
    rw[e1,e2,fN (by omega),bE (by omega) (by omega)]
    exact ih (g-1) _ (by omega) ⟨a+1,10*m+(c.toNat-48),rfl,by simp only;omega,by omega,by omega,hval⟩
   ·rw[if_neg (by simp only[decide_eq_true_eq];omega)]
    have:a=s.length:=by omega
    subst this
    rw[Ci,Eo]at hval
    subst hval
    unfold CF
    cases less with
    | true=>simp only[if_true,Hj];rw[bE (by omega) (by omega)];exact⟨_,rfl,rfl⟩
    | false=>exact⟨_,rfl,rfl⟩)
  N (s.length-k) ((k:Int),0) ⟨k,0,rfl,rfl,H9 k,by omega,hv⟩ (by omega)
 rw[hr,hq]
theorem F5(hN:20000≤N){c:UInt8}{r:List UInt8}{u:Nat}(i1:vl 0 (c::r)=u)(i2:∀d∈c::r,48≤d.toNat∧d.toNat≤57)(h9:r.length+1≤9)(h5:c.toNat≠48):yW N (45::c::r)=some (-(u:Int),true):=by
 have hu:=Ff i1 i2 (by simpa using h9)
 have hl:(((45:UInt8)::c::r).length:Int)=(r.length:Int)+2:=by simp only[IS];omega
 unfold yW
 rw[hl]
 rw[if_pos (by simp only[decide_eq_true_eq];omega),show idx ((45:UInt8)::c::r) 0=some 45 from rfl,Hj,Hj]
 rw[if_pos (by decide),Hj]
 dsimp only
 rw[if_neg (by simp only[decide_eq_true_eq];omega),bE (by omega) (by omega)]
 rw[if_neg (by simp only[decide_eq_true_eq];omega),show idx ((45:UInt8)::c::r) 1=some c from rfl,Hj]
 rw[if_neg (by simp only[decide_eq_true_eq];omega),Hj]
 simp only[IE,if_false]
 have:=Fx hN ((45:UInt8)::c::r) true 1 u (by simp only[IS];omega) (by simp) i1 hu i2
 simp only[if_true]at this
 exact this
theorem F6(hN:20000≤N){c:UInt8}{r:List UInt8}{u:Nat}(i1:vl 0 (c::r)=u)(i2:∀d∈c::r,48≤d.toNat∧d.toNat≤57)(h9:r.length+1≤9)(i4:c.toNat=48→r.length=0):yW N (c::r)=some ((u:Int),true):=by
 have hu:=Ff i1 i2 (by simpa using h9)
 have hc:=i2 c (zV ..)
 have hl:((c::r).length:Int)=(r.length:Int)+1:=by simp only[IS];omega
 unfold yW
 rw[hl]
 rw[if_pos (by simp only[decide_eq_true_eq];omega),show idx (c::r) 0=some c from rfl,Hj,Hj]
 rw[if_neg (by simp only[decide_eq_true_eq];omega),Hj]
 dsimp only
 rw[if_neg (by simp only[decide_eq_true_eq];omega),bE (by omega) (by omega)]
 rw[if_neg (by simp only[decide_eq_true_eq];omega),show idx (c::r) 0=some c from rfl,Hj]
 have hz:(if decide ((c.toNat:Int)=48)=true then some (decide (1<(r.length:Int)+1))else some false)=some false:=by
  split
  ·rename_i h48
   simp only[decide_eq_true_eq]at h48
   have:=i4 (by omega)
   simp only[Option.some.injEq,decide_eq_false_iff_not];omega
  ·rfl
 rw[hz,Hj]
 simp only[IE,if_false]
 have:=Fx hN (c::r) false 0 u (by simp only[IS];omega) (by simp) i1 hu i2
 simp only[IE,if_false]at this
 exact this
theorem EI(hN:20000≤N){s:List UInt8}{v:Int}(h:B5 s=some v):yW N s=some (v,true):=by
 unfold B5 at h
 have e20:(10:Nat) ^ 20=100000000000000000000:=by decide
 cases ha:Go.Lib.atoiAll s with
 | ok v' =>
  rw[ha]at h
  simp only at h
  by_cases hc:w7 v'=s∧((if([45]:List UInt8).isPrefixOf s then s.drop 1 else s).length≤9)
  ·rw[if_pos hc]at h
   have hv:v'=v:=Option.some.inj h
   subst hv
   obtain⟨h1,h2⟩:=hc
   have hb:=BV ha
   by_cases hneg:v'<0
   ·have es:45::uf 20 v'.natAbs=s:=by rw[← h1];unfold w7;rw[if_pos hneg]
    obtain⟨i1,i2,i3,i4,i5⟩:=Fg 20 v'.natAbs (by rw[e20];omega) (by omega)
    have h5:=i5 (by omega)
    generalize uf 20 v'.natAbs=l at es i1 i2 i3 i4 h5
    subst es
    rw[if_pos (by simp[Ez])]at h2
    cases l with
    | nil=>simp at i3
    | cons c r =>
     rw[F5 hN i1 i2 (by simpa using h2) h5]
     congr 2
     omega
   ·have es:uf 20 v'.toNat=s:=by rw[← h1];unfold w7;rw[if_neg hneg]
    obtain⟨i1,i2,i3,i4,i5⟩:=Fg 20 v'.toNat (by rw[e20];omega) (by omega)
    generalize uf 20 v'.toNat=l at es i1 i2 i3 i4
    subst es
    cases l with
    | nil=>simp at i3
    | cons c r =>
     have hc:=i2 c (zV ..)
     have hpre:¬([45]:List UInt8).isPrefixOf (c::r)=true:=fun e=>by
      simp only[Ez,Cf,beq_iff_eq]at e
      subst e
      revert hc;decide
     rw[if_neg hpre]at h2
     rw[F6 hN i1 i2 (by simpa using h2) (fun e=>by have:=i4 e;simpa using this)]
     congr 2
     omega
  ·rw[if_neg hc]at h;cases h
 | range=>rw[ha]at h;cases h
 | _=>rw[ha]at h;cases h
end Go.Proofs.YtdodahpkpeodfaaGreatDoor
namespace Go.Proofs.YtdodahpkpeodfaaGreatDoor
open Go.Kp
variable {N:Nat}
def prp (p:List UInt8):List (List UInt8)→List (List UInt8)
 | []=>[p]
 | x::r=>(p++x)::r
theorem Ep(b:UInt8)(l:List UInt8):se 32 (b::l)=if b=32 then []::se 32 l else prp [b] (se 32 l):=by
 show(if b=32 then []::se 32 l else match se 32 l with | []=>[[b]] | x::r=>(b::x)::r)=_
 split
 ·rfl
 ·cases se 32 l<;>rfl
theorem Fy:∀l:List UInt8,se 32 l≠[]
 | []=>by simp[se]
 | b::l=>by
  rw[Ep]
  split
  ·simp
  ·cases se 32 l<;>simp[prp]
theorem Iq(p q:List UInt8)(l:List (List UInt8))(h:l≠[]):prp p (prp q l)=prp (p++q) l:=by
 cases l with
 | nil=>exact absurd rfl h
 | cons x r=>simp[prp]
theorem GC{l:List (List UInt8)}(h:l≠[]):prp [] l=l:=by
 cases l with
 | nil=>exact absurd rfl h
 | cons x r=>rfl
theorem F7:∀l:List UInt8,(se 32 l).length≤l.length+1
 | []=>by simp[se]
 | b::l=>by
  have ih:=F7 l
  rw[Ep]
  split
  ·simp;omega
  ·cases hq:se 32 l with
   | nil=>simp[prp]
   | cons x r=>rw[hq]at ih;simp[prp]at ih ⊢;omega
theorem HA{l:List UInt8}{f i:Nat}{c:UInt8}(hf:f≤i)(h:l[i]? = some c):(l.take (i+1)).drop f=(l.take i).drop f++[c]:=by
 have hi:=(List.getElem?_eq_some_iff.1 h).1
 rw[List.take_add_one,h]
 simp only[Option.toList]
 rw[GK (by rw[JC];omega)]
theorem E1(hN:20000≤N)(line:List UInt8)(hl:line.length≤1000):loopN (fun rec3 x=>y7 N line rec3 x.1 x.2.1 x.2.2) N (0,0,[])=some (se 32 line):=by
 obtain⟨r,hr,hq⟩:=zh (B:=fun rec3 x=>y7 N line rec3 x.1 x.2.1 x.2.2) (fun g (x:Int×Int×List (List UInt8)) =>
   (∃f i:Nat,x.1=f∧x.2.1=i∧f≤i∧i≤line.length∧g=line.length+1-i∧x.2.2.length≤i∧se 32 line=x.2.2++prp ((line.take i).drop f) (se 32 (line.drop i)))∨(x.2.1=(line.length:Int)+1∧x.2.2=se 32 line)) (fun r=>r=se 32 line)
  (fun g x rec hI ih=>by
   obtain⟨x1,x2,x3⟩:=x
   unfold y7
   rcases hI with⟨f,i,hf,hi,hfi,hil,hg,hx3,hs⟩ | ⟨hi,hs⟩
   ·simp only at hf hi hx3 hs
    subst hf hi
    rw[if_pos (by simp only[decide_eq_true_eq];omega)]
    have hsl:Ib line (f:Int) (i:Int)=some ():=by unfold Ib;rw[if_pos ⟨by omega,by omega,by omega⟩]
    have hsub:IY line (f:Int) (i:Int)=(line.take i).drop f:=by unfold IY;rw[JD,JD]
    by_cases h:i=line.length
    ·subst h
     rw[if_pos (by simp only[decide_eq_true_eq]),Hj]
     simp only[if_true]
     rw[hsl,Hj,hsub,nL (by simp only[IS,yf];omega),Hj,Hj]
     dsimp only
     refine ih 0 _ (by omega) (.inr ⟨by simp only;rw[fN (by omega)];omega,?_⟩)
     simp only
     rw[hs,Ci]
     simp[prp,se]
    ·have hlt:i<line.length:=by omega
     have hx:=IX hlt
     have hdrop:line.drop i=line[i]::line.drop (i+1):=zp hlt
     generalize line[i]=c at hx hdrop
     rw[if_neg (by simp only[decide_eq_true_eq];omega),ij hx,Hj,Hj]
     rw[hdrop,Ep]at hs
     by_cases hc:c=32
     ·subst hc
      rw[if_pos rfl]at hs
      rw[if_pos (by decide)]
      rw[hsl,Hj,hsub,nL (by simp only[IS,yf];omega),Hj,Hj]
      dsimp only
      rw[fN (by omega)]
      refine ih (g-1) _ (by omega) (.inl ⟨i+1,i+1,rfl,rfl,H9 _,hlt,by omega,by simp only[Js,IS,yf];omega,?_⟩)
      simp only
      have e0:(line.take (i+1)).drop (i+1)=[]:=AW (by rw[JC];omega)
      rw[hs,e0,GC (Fy _)]
      simp[prp]
     ·rw[if_neg hc]at hs
      have hc':¬((c.toNat:Int)=32):=fun e=>hc (by
       apply UInt8.toNat_inj.1
       have:(32:UInt8).toNat=32:=rfl
       omega)
      rw[if_neg (by simp only[decide_eq_true_eq];exact hc'),Hj]
      dsimp only
      rw[fN (by omega)]
      refine ih (g-1) _ (by omega) (.inl ⟨f,i+1,rfl,rfl,by omega,hlt,by omega,by simp only;omega,?_⟩)
      simp only
      rw[hs,Iq _ _ _ (Fy _),HA hfi hx]
   ·simp only at hi hs
    subst hi hs
    rw[if_neg (by simp only[decide_eq_true_eq];omega)]
    exact⟨_,rfl,rfl⟩)
  N (line.length+1) (0,0,[]) (.inl ⟨0,0,rfl,rfl,H9 _,by omega,by omega,by simp,by simp[GC (Fy _)]⟩) (by omega)
 rw[hr,hq]
theorem HB(hN:20000≤N)(l:List (List UInt8))(hl:l.length≤1000){h0:List UInt8}(hh:l[0]? = some h0){ns:List Int}(hn:Ap l.tail=some ns):loopN (fun rec5 x=>xT N l rec5 x.1 x.2) N (1,[])=some (h0,ns,true):=by
 obtain⟨r,hr,hq⟩:=zh (B:=fun rec5 x=>xT N l rec5 x.1 x.2) (fun g (x:Int×List Int)=>∃i:Nat,x.1=i∧1≤i∧i+g=l.length∧x.2.length≤i∧∃rest,Ap (l.drop i)=some rest∧ns=x.2++rest) (fun r=>r=(h0,ns,true))
  (fun g x rec hI ih=>by
   obtain⟨x1,x2⟩:=x
   obtain⟨i,hi,h1,hg,hx2,rest,hrest,hns⟩:=hI
   simp only at hi hx2 hns
   subst hi
   unfold xT
   by_cases h:i<l.length
   ·rw[if_pos (by simp only[decide_eq_true_eq];omega)]
    have hx:=IX h
    have hdrop:l.drop i=l[i]::l.drop (i+1):=zp h
    generalize l[i]=w at hx hdrop
    rw[hdrop]at hrest
    unfold Ap at hrest
    cases hw:B5 w with
    | none=>rw[hw]at hrest;cases hrest
    | some v =>
     rw[hw]at hrest
     simp only at hrest
     cases hr:Ap (l.drop (i+1))with
     | none=>rw[hr]at hrest;cases hrest
     | some r2 =>
      rw[hr]at hrest
      have hrest:=Option.some.inj hrest
      subst hrest
      rw[ij hx,Hj,EI hN hw,Hj]
      dsimp only
      rw[if_neg (by decide),nL (by simp only[IS,yf];omega),Hj,fN (by omega)]
      exact ih (g-1) _ (by omega) ⟨i+1,rfl,by omega,by omega,by simp only[Js,IS,yf];omega,r2,hr,by simp only;rw[hns];simp⟩
   ·rw[if_neg (by simp only[decide_eq_true_eq];omega)]
    have:i=l.length:=by omega
    subst this
    rw[Ci]at hrest
    have hrest:=Option.some.inj hrest
    subst hrest
    unfold CW
    rw[show(0:Int)=((0:Nat):Int)from rfl,ij hh,Hj]
    exact⟨_,rfl,by rw[hns];simp⟩)
  N (l.length-1) (1,[]) ⟨1,rfl,H9 1,by have:=lP hh;omega,by simp,ns,by rw[List.drop_one];exact hn,by simp⟩ (by omega)
 rw[hr,hq]
theorem D9{k:List UInt8}{c:j1}(h:mget aM9 k=some c):(k=[98,111,119,108,101,114]∧c=j1.mk 1 0)∨(k=[111,112,101,110]∧c=j1.mk 2 1)∨(k=[98,97,108,108]∧c=j1.mk 2 2)∨(k=[98,97,99,107]∧c=j1.mk 1 3)∨(k=[99,108,111,115,101]∧c=j1.mk 1 4)∨(k=[115,104,101,101,116]∧c=j1.mk 2 5)∨(k=[115,116,114,105,107,101]∧c=j1.mk 1 6)∨(k=[100,117,101,108]∧c=j1.mk 1 7)∨(k=[100,111,117,98,116]∧c=j1.mk 1 8):=by
 unfold aM9 aM8 aM7 aM6 aM5 aM4 aM3 aM2 aM1 at h
 simp only[Az]at h
 repeat' (split at h)
 all_goals first | (rename_i hk;injection h with h;subst h;simp[hk]) | cases h
theorem GZ(hN:20000≤N){line:List UInt8}(hl:line.length≤210){c:j1}(hc:mget aM9 ((se 32 line).headD [])=some c)(hlen:((se 32 line).length:Int)=c.vD+1){ns:List Int}(hn:Ap (se 32 line).tail=some ns):Cz N line=some ((se 32 line).headD [],ns,true):=by
 have hll:=F7 line
 unfold Cz
 rw[E1 hN line (by omega),Hj]
 have hh:(se 32 line)[0]? = some ((se 32 line).headD []):=by
  cases hq:se 32 line with
  | nil=>exact absurd hq (Fy _)
  | cons x r=>rfl
 have hfin:=HB hN (se 32 line) (by omega) hh hn
 rw[show(0:Int)=((0:Nat):Int)from rfl,ij hh,Hj]
 generalize(se 32 line).headD []=k at hc hfin
 generalize se 32 line=q at hlen hfin
 have fin1:∀m:Int,(q.length:Int)=m+1→0≤m→m≤2→(if !decide ((q.length:Int)=(w64 (m+1)))then some ((([]:List UInt8),[],false))else loopN (fun rec5 x=>xT N q rec5 x.1 x.2) N (1,[]))=some (k,ns,true):=fun m hm h0 h2=>by
  rw[bE (by omega) (by omega),if_neg (by simp[hm])]
  exact hfin
 rcases D9 hc with⟨rfl,rfl⟩ | ⟨rfl,rfl⟩ | ⟨rfl,rfl⟩ | ⟨rfl,rfl⟩ | ⟨rfl,rfl⟩ | ⟨rfl,rfl⟩ | ⟨rfl,rfl⟩ | ⟨rfl,rfl⟩ | ⟨rfl,rfl⟩
 ·exact fin1 1 hlen (by omega) (by omega)
 ·exact fin1 2 hlen (by omega) (by omega)
 ·exact fin1 2 hlen (by omega) (by omega)
 ·exact fin1 1 hlen (by omega) (by omega)
 ·exact fin1 1 hlen (by omega) (by omega)
 ·exact fin1 2 hlen (by omega) (by omega)
 ·exact fin1 1 hlen (by omega) (by omega)
 ·exact fin1 1 hlen (by omega) (by omega)
 ·exact fin1 1 hlen (by omega) (by omega)
end Go.Proofs.YtdodahpkpeodfaaGreatDoor
namespace Go.Proofs.YtdodahpkpeodfaaGreatDoor
open Go.Kp
variable {N:Nat}
/-! What the desk takes for no number, the document does not either. -/
theorem E2:∀(l:List UInt8) (a:Nat),(∀c∈l,48≤c.toNat∧c.toNat≤57)→(a+1)*10 ^ l.length≤10 ^ 18→Go.Lib.parseUint10 a l=.ok (vl a l)
 | [],a,_,_=>by rw[Eo];rfl
 | c::r,a,h,hb=>by
  have hc:=h c (zV ..)
  rw[IS,Ev,Nat.mul_comm (10 ^ r.length) 10,← Nat.mul_assoc]at hb
  have hp:1≤10 ^ r.length:=Nat.one_le_pow _ _ (by decide)
  have h1:(a+1)*10≤(a+1)*10*10 ^ r.length:=Nat.le_mul_of_pos_right _ hp
  have e18:(10:Nat) ^ 18=1000000000000000000:=by decide
  have ha:(a+1)*10≤1000000000000000000:=by rw[← e18];exact zW h1 hb
  have hd:a*10+(c.toNat-48)=10*a+(c.toNat-48):=by omega
  unfold Go.Lib.parseUint10
  rw[if_pos hc,if_neg (by omega),if_neg (by omega),hd,DZ]
  exact E2 r _ (fun x hx=>h x (AK _ hx)) (zW (BO _ (by omega)) hb)
theorem ID(c:UInt8)(h:48≤c.toNat):UInt8.ofNat (48+(c.toNat-48))=c:=by
 rw[show 48+(c.toNat-48)=c.toNat by omega];exact UInt8.ofNat_toNat
theorem HN{c:UInt8}(r:List UInt8)(h1:48≤c.toNat)(hc:c.toNat≠48):1≤vl 0 (c::r):=by
 rw[DZ]
 exact zW (by omega) (IB r _)
theorem EK:∀(f:Nat) (l:List UInt8),(∀c∈l,48≤c.toNat∧c.toNat≤57)→l≠[]→((l.headD 0).toNat=48→l.length=1)→l.length≤f→uf f (vl 0 l)=l
 | 0,l,_,hne,_,hl=>absurd (JB (by omega)) hne
 | f+1,l,hd,hne,hz,hl=>by
  obtain⟨m,c,rfl⟩:∃m c,l=m++[c]:=⟨l.dropLast,l.getLast hne,(G9 hne).symm⟩
  have hc:=hd c (List.mem_append_right _ (List.mem_singleton.2 rfl))
  rw[Hz]
  cases m with
  | nil =>
   rw[Eo]
   show(if 10*0+(c.toNat-48)<10 then _ else _)=_
   rw[if_pos (by omega),show 48+(10*0+(c.toNat-48))=48+(c.toNat-48) by omega,ID c hc.1]
   exact y9 _
  | cons x r =>
   have hx0:=hd x (EG _ (zV ..))
   have hx:x.toNat≠48:=fun e=>by
    have:=hz (by simpa using e)
    simp at this
   have hp:=HN r hx0.1 hx
   have ih:=EK f (x::r) (fun y hy=>hd y (EG _ hy)) (by simp) (fun e=>absurd (by simpa using e) hx) (by simp at hl ⊢;omega)
   generalize vl 0 (x::r)=u at hp ih
   show(if 10*u+(c.toNat-48)<10 then _ else _)=_
   rw[if_neg (by omega),show(10*u+(c.toNat-48)) / 10=u by omega,show 48+(10*u+(c.toNat-48)) % 10=48+(c.toNat-48) by omega,ID c hc.1,ih]
theorem GG{l:List UInt8}(hd:∀c∈l,48≤c.toNat∧c.toNat≤57)(hne:l≠[])(h9:l.length≤9):Go.Lib.parseMag l=.ok (vl 0 l):=by
 unfold Go.Lib.parseMag
 rw[if_neg hne]
 refine E2 l 0 hd ?_
 rw[Jp,Nat.one_mul]
 exact Gz (by omega) (by omega)
theorem HO{c:UInt8}{r:List UInt8}(hd:∀x∈c::r,48≤x.toNat∧x.toNat≤57)(h9:r.length+1≤9)(hz:c.toNat=48→r=[]):B5 (c::r)≠none:=by
 have hc:=hd c (zV ..)
 have hm:=GG hd (by simp) (by simpa using h9)
 have hb:=Ff rfl hd (by simpa using h9)
 have hv:=EK 20 (c::r) hd (by simp) (fun e=>by simp at e;simp[hz e]) (by simp;omega)
 generalize vl 0 (c::r)=u at hm hb hv
 have ha:Go.Lib.atoiAll (c::r)=.ok (u:Int):=by
  unfold Go.Lib.atoiAll
  simp only
  rw[if_neg (by omega:¬(c.toNat=43∨c.toNat=45)),hm]
  simp only
  rw[if_neg (by omega),if_neg (by omega),if_neg (by omega)]
 have hi:w7 (u:Int)=c::r:=by
  unfold w7
  rw[if_neg (by omega),JD,hv]
 unfold B5
 rw[ha]
 simp only
 have hp:¬(([45]:List UInt8).isPrefixOf (c::r))=true:=fun e=>by
  simp only[Ez,Cf,beq_iff_eq]at e
  subst e
  revert hc;decide
 rw[if_pos ⟨hi,by rw[if_neg hp];simpa using h9⟩]
 simp
theorem HP{c:UInt8}{r:List UInt8}(hd:∀x∈c::r,48≤x.toNat∧x.toNat≤57)(h9:r.length+1≤9)(hz:c.toNat≠48):B5 (45::c::r)≠none:=by
 have hc:=hd c (zV ..)
 have hm:=GG hd (by simp) (by simpa using h9)
 have hb:=Ff rfl hd (by simpa using h9)
 have hp:=HN r hc.1 hz
 have hv:=EK 20 (c::r) hd (by simp) (fun e=>absurd (by simpa using e) hz) (by simp;omega)
 generalize vl 0 (c::r)=u at hm hb hv hp
 have e45:(45:UInt8).toNat=45:=rfl
 have ha:Go.Lib.atoiAll (45::c::r)=.ok (-(u:Int)):=by
  unfold Go.Lib.atoiAll
  simp only
  rw[if_pos (Or.inr e45),hm]
  simp only
  rw[if_neg (by simp[e45]),if_neg (by omega),if_pos e45]
 have hi:w7 (-(u:Int))=45::c::r:=by
  unfold w7
  rw[if_pos (by omega),show(-(u:Int)).natAbs=u by omega,hv]
 unfold B5
 rw[ha]
 simp only
 rw[if_pos ⟨hi,by rw[if_pos (by simp[Ez])];simpa using h9⟩]
 simp
theorem GH(hN:20000≤N)(s:List UInt8)(less:Bool)(k:Nat)(n0:Int)(hs:s.length≤1000)(hd:¬ ∀c∈s.drop k,48≤c.toNat∧c.toNat≤57) :
  loopN (fun rec3 x=>kW N s less rec3 x.1 x.2) N ((k:Int),n0)=some (0,false):=by
 obtain⟨r,hr,hq⟩:=zh (B:=fun rec3 x=>kW N s less rec3 x.1 x.2) (fun g (x:Int×Int)=>∃a:Nat,x.1=a∧a+g=s.length∧¬ ∀c∈s.drop a,48≤c.toNat∧c.toNat≤57) (fun r=>r=((0:Int),false))
  (fun g x rec hI ih=>by
   obtain⟨x1,x2⟩:=x
   obtain⟨a,ha,hag,hbad⟩:=hI
   simp only at ha
   subst ha
   unfold kW
   have h:a<s.length:=by
    rcases AC a s.length with h | h
    ·exact h
    ·rw[AW h]at hbad
     exact absurd (fun c hc=>by cases hc) hbad
   rw[if_pos (by simp only[decide_eq_true_eq];omega)]
   have hx:=IX h
   rw[zp h]at hbad
   generalize s[a]=c at hx hbad
   unfold Cm
   rw[ij hx,Hj]
   by_cases h1:(c.toNat:Int)<48
   ·rw[if_pos (by simp only[decide_eq_true_eq];exact h1),Hj]
    exact⟨_,rfl,rfl⟩
   ·rw[if_neg (by simp only[decide_eq_true_eq];exact h1),Hj]
    by_cases h2:57<(c.toNat:Int)
    ·rw[if_pos (by simp only[decide_eq_true_eq];exact h2)]
     exact⟨_,rfl,rfl⟩
    ·rw[if_neg (by simp only[decide_eq_true_eq];exact h2),Hj,fN (by omega)]
     refine ih (g-1) _ (by omega) ⟨a+1,rfl,by omega,fun hall=>hbad fun y hy=>?_⟩
     rcases List.mem_cons.1 hy with rfl | hy
     ·omega
     ·exact hall y hy)
  N (s.length-k) ((k:Int),n0) ⟨k,rfl,by
   rcases AC k s.length with h | h
   ·omega
   ·rw[AW h]at hd
    exact absurd (fun c hc=>by cases hc) hd,hd⟩ (by omega)
 rw[hr,hq]
theorem Gd(hN:20000≤N){s:List UInt8}(hs:s.length≤1000)(h:B5 s=none):yW N s=some (0,false):=by
 cases s with
 | nil=>rfl
 | cons c r =>
  simp only[IS]at hs
  have hl:((c::r).length:Int)=(r.length:Int)+1:=by simp only[IS];omega
  have e0:idx (c::r) 0=some c:=rfl
  unfold yW
  rw[hl,if_pos (by simp only[decide_eq_true_eq];omega),e0,Hj,Hj]
  by_cases hc:c=45
  ·subst hc
   rw[if_pos (by decide),Hj]
   dsimp only
   cases r with
   | nil=>rfl
   | cons d q =>
    have hl2:((d::q).length:Int)=(q.length:Int)+1:=by simp only[IS];omega
    have e1:idx ((45:UInt8)::d::q) 1=some d:=rfl
    rw[hl2,if_neg (by simp only[decide_eq_true_eq];omega),bE (by simp only[IS]at hs;omega) (by simp only[IS]at hs;omega)]
    by_cases h9:9<(q.length:Int)+1+1-1
    ·rw[if_pos (by simp only[decide_eq_true_eq];exact h9)];rfl
    ·rw[if_neg (by simp only[decide_eq_true_eq];exact h9),e1,Hj]
     by_cases h48:d.toNat=48
     ·rw[if_pos (by simp only[decide_eq_true_eq];omega),Hj,if_pos (by simp only[decide_eq_true_eq];omega)]
     ·rw[if_neg (by simp only[decide_eq_true_eq];omega),Hj]
      simp only[IE,if_false]
      by_cases hd:∀x∈d::q,48≤x.toNat∧x.toNat≤57
      ·exact absurd h (HP hd (by omega) h48)
      ·exact GH hN ((45:UInt8)::d::q) true 1 0 (by simp only[IS]at hs ⊢;omega) hd
  ·have hc':¬((c.toNat:Int)=45):=fun e=>hc (UInt8.toNat_inj.1 (by have:(45:UInt8).toNat=45:=rfl;omega))
   rw[if_neg (by simp only[decide_eq_true_eq];exact hc'),Hj]
   dsimp only
   rw[if_neg (by simp only[decide_eq_true_eq];omega),bE (by omega) (by omega)]
   by_cases h9:9<(r.length:Int)+1-0
   ·rw[if_pos (by simp only[decide_eq_true_eq];exact h9)];rfl
   ·rw[if_neg (by simp only[decide_eq_true_eq];exact h9),e0,Hj]
    have fin:∀b:Bool,(b=false→c.toNat=48→r=[])→Ha (some b) (fun v8=>if v8 then some ((0:Int),false)else loopN (fun rec3 x=>kW N (c::r) false rec3 x.1 x.2) N ((0:Int),0))=some (0,false):=fun b hb=>by
     cases b with
     | true=>rfl
     | false =>
      simp only[Hj,IE,if_false]
      by_cases hd:∀x∈c::r,48≤x.toNat∧x.toNat≤57
      ·exact absurd h (HO hd (by omega) (hb rfl))
      ·exact GH hN (c::r) false 0 0 (by simp only[IS];omega) hd
    by_cases h48:c.toNat=48
    ·rw[if_pos (by simp only[decide_eq_true_eq];omega)]
     refine fin _ fun hb _=>JB ?_
     simp only[decide_eq_false_iff_not]at hb
     omega
    ·rw[if_neg (by simp only[decide_eq_true_eq];omega)]
     exact fin _ fun _ h=>absurd h h48
end Go.Proofs.YtdodahpkpeodfaaGreatDoor
namespace Go.Proofs.YtdodahpkpeodfaaGreatDoor
open Go.Kp
variable {N:Nat}
theorem HQ(hN:20000≤N)(l:List (List UInt8))(hl:l.length≤1000)(hx:∀x∈l,x.length≤1000)(hn:Ap l.tail=none):loopN (fun rec5 x=>xT N l rec5 x.1 x.2) N (1,[])=some ([],[],false):=by
 obtain⟨r,hr,hq⟩:=zh (B:=fun rec5 x=>xT N l rec5 x.1 x.2) (fun g (x:Int×List Int)=>∃i:Nat,x.1=i∧1≤i∧i+g=l.length∧x.2.length≤i∧Ap (l.drop i)=none) (fun r=>r=(([]:List UInt8),([]:List Int),false))
  (fun g x rec hI ih=>by
   obtain⟨x1,x2⟩:=x
   obtain⟨i,hi,h1,hg,hx2,hrest⟩:=hI
   simp only at hi hx2
   subst hi
   have h:i<l.length:=by
    rcases AC i l.length with h | h
    ·exact h
    ·rw[AW h]at hrest;cases hrest
   unfold xT
   rw[if_pos (by simp only[decide_eq_true_eq];omega)]
   have hxx:=IX h
   have hdrop:l.drop i=l[i]::l.drop (i+1):=zp h
   have hlen:=hx _ (Be h)
   generalize l[i]=w at hxx hdrop hlen
   rw[hdrop]at hrest
   unfold Ap at hrest
   rw[ij hxx,Hj]
   cases hw:B5 w with
   | none =>
    rw[Gd hN hlen hw,Hj]
    exact⟨_,rfl,rfl⟩
   | some v =>
    rw[EI hN hw,Hj]
    dsimp only
    rw[if_neg (by decide),nL (by simp only[IS,yf];omega),Hj,fN (by omega)]
    refine ih (g-1) _ (by omega) ⟨i+1,rfl,by omega,by omega,by simp only[Js,IS,yf];omega,?_⟩
    rw[hw]at hrest
    simp only at hrest
    cases hr:Ap (l.drop (i+1))with
    | none=>rfl
    | some q=>rw[hr]at hrest;cases hrest)
  N (l.length-1) (1,[]) ⟨1,rfl,H9 1,by
   have:l≠[]:=fun e=>by subst e;cases hn
   have:=List.length_pos_iff.2 this
   omega,by simp,by rw[List.drop_one];exact hn⟩ (by omega)
 rw[hr,hq]
theorem G4{k:List UInt8}(h:mget aM9 k=none):k≠[98,111,119,108,101,114]∧k≠[111,112,101,110]∧k≠[98,97,108,108]∧k≠[98,97,99,107]∧k≠[99,108,111,115,101]∧k≠[115,104,101,101,116]∧k≠[115,116,114,105,107,101]∧k≠[100,117,101,108]∧k≠[100,111,117,98,116]:=by
 unfold aM9 aM8 aM7 aM6 aM5 aM4 aM3 aM2 aM1 at h
 simp only[Az]at h
 repeat' (split at h)
 all_goals first | cases h | skip
 rename_i h1 h2 h3 h4 h5 h6 h7 h8 h9
 exact⟨h9,h8,h7,h6,h5,h4,h3,h2,h1⟩
theorem Es(hN:20000≤N){line:List UInt8}(hl:line.length≤210)(h:match mget aM9 ((se 32 line).headD [])with | none=>True | some c=>((se 32 line).length:Int)≠c.vD+1∨Ap (se 32 line).tail=none):Cz N line=some ([],[],false):=by
 have hll:=F7 line
 have hsl:=Ba 32 line
 unfold Cz
 rw[E1 hN line (by omega),Hj]
 have hh:(se 32 line)[0]? = some ((se 32 line).headD []):=by
  cases hq:se 32 line with
  | nil=>exact absurd hq (Fy _)
  | cons x r=>rfl
 have hpos:=lP hh
 rw[show(0:Int)=((0:Nat):Int)from rfl,ij hh,Hj]
 cases hc:mget aM9 ((se 32 line).headD [])with
 | none =>
  obtain⟨e1,e2,e3,e4,e5,e6,e7,e8,e9⟩:=G4 hc
  simp only[e1,e2,e3,e4,e5,e6,e7,e8,e9,decide_false,IE,if_false,Hj]
  rw[if_pos]
  rw[show w64 (-1+1)=0 by decide]
  simp only[zZ,decide_eq_false_iff_not]
  omega
 | some c =>
  rw[hc]at h
  simp only at h
  have hfin:((se 32 line).length:Int)=c.vD+1→loopN (fun rec5 x=>xT N (se 32 line) rec5 x.1 x.2) N (1,[])=some (([]:List UInt8),[],false):=fun e=>HQ hN _ (by omega) (fun x hx=>by have:=hsl.2 x hx;omega) (h.resolve_left fun h=>h e)
  generalize(se 32 line).headD []=k at hc
  generalize se 32 line=q at hfin
  have fin1:∀m:Int,m=c.vD→0≤m→m≤2→(if !decide ((q.length:Int)=(w64 (m+1)))then some ((([]:List UInt8),[],false))else loopN (fun rec5 x=>xT N q rec5 x.1 x.2) N (1,[]))=some ([],[],false):=fun m hm h0 h2=>by
   rw[bE (by omega) (by omega)]
   by_cases e:(q.length:Int)=m+1
   ·rw[if_neg (by simp[e])]
    exact hfin (by omega)
   ·rw[if_pos (by simp[e])]
  rcases D9 hc with⟨rfl,rfl⟩ | ⟨rfl,rfl⟩ | ⟨rfl,rfl⟩ | ⟨rfl,rfl⟩ | ⟨rfl,rfl⟩ | ⟨rfl,rfl⟩ | ⟨rfl,rfl⟩ | ⟨rfl,rfl⟩ | ⟨rfl,rfl⟩
  ·exact fin1 1 rfl (by omega) (by omega)
  ·exact fin1 2 rfl (by omega) (by omega)
  ·exact fin1 2 rfl (by omega) (by omega)
  ·exact fin1 1 rfl (by omega) (by omega)
  ·exact fin1 1 rfl (by omega) (by omega)
  ·exact fin1 2 rfl (by omega) (by omega)
  ·exact fin1 1 rfl (by omega) (by omega)
  ·exact fin1 1 rfl (by omega) (by omega)
  ·exact fin1 1 rfl (by omega) (by omega)
end Go.Proofs.YtdodahpkpeodfaaGreatDoor
namespace Go.Proofs.YtdodahpkpeodfaaGreatDoor
open Go.Kp
variable {N:Nat}
/-! The document plays lines as the desk does. -/
theorem HT{s:aR}{line:List UInt8}:emr s (zJ N s (nxl N s) line)=(tr (stepW N s line).2,(stepW N s line).1):=by
 unfold stepW
 cases zJ N s (nxl N s) line<;>rfl
theorem Je{i:Nat}{s:aR}(hG:GX N)(hF:FX N)(h:AI i s)(hi:i≤59)(hN:20000≤N)(line:List UInt8)(hl:line.length≤210):Eh N (tr s) line=some (tr (stepW N s line).2,(stepW N s line).1):=by
 rw[← HT]
 unfold zJ Eh
 cases hc:mget aM9 ((se 32 line).headD [])with
 | none =>
  rw[Es hN hl (by rw[hc];trivial),Hj];rfl
 | some c =>
  simp only
  by_cases hlen:((se 32 line).length:Int)≠c.vD+1
  ·rw[Es hN hl (by rw[hc];exact .inl hlen),Hj,if_pos hlen];rfl
  ·rw[if_neg hlen]
   cases hns:Ap (se 32 line).tail with
   | none=>rw[Es hN hl (by rw[hc];exact .inr hns),Hj];rfl
   | some ns =>
    simp only
    have hlen':=Classical.not_not.1 hlen
    have hnl:=E4 hns
    rw[List.length_tail]at hnl
    rw[GZ hN hl hc hlen' hns,Hj]
    dsimp only
    rw[if_neg (by decide)]
    obtain⟨hd,hmany,hm2⟩:=B6 hc
    have g0:idx ns 0=some (ns.getD 0 0):=ij (i:=0) (by rw[A5,IX (by omega)];rfl)
    have g1:c.vD=2→idx ns 1=some (ns.getD 1 0):=fun e=>ij (i:=1) (by rw[A5,IX (by omega)];rfl)
    have pk:∀z:Int⊕aR,(Ha (some (emr s z)) fun(a,b)=>some (a,b))=some (emr s z):=fun z=>rfl
    generalize(se 32 line).headD []=k at hc
    unfold AD
    simp only
    rcases D9 hc with⟨rfl,rfl⟩ | ⟨rfl,rfl⟩ | ⟨rfl,rfl⟩ | ⟨rfl,rfl⟩ | ⟨rfl,rfl⟩ | ⟨rfl,rfl⟩ | ⟨rfl,rfl⟩ | ⟨rfl,rfl⟩ | ⟨rfl,rfl⟩
    ·rw[if_pos (by simp),g0,Hj,F9 h.si (by omega) hN];exact pk _
    ·rw[if_neg (by simp),if_pos (by simp),g0,Hj,g1 rfl,Hj,HE h.si];exact pk _
    ·rw[if_neg (by simp),if_neg (by simp),if_pos (by simp),g0,Hj,g1 rfl,Hj,HF hF h.si (by omega) hN];exact pk _
    ·rw[if_neg (by simp),if_neg (by simp),if_neg (by simp),if_pos (by simp),g0,Hj,HG h.si (by omega) hN];exact pk _
    ·rw[if_neg (by simp),if_neg (by simp),if_neg (by simp),if_neg (by simp),if_pos (by simp),g0,Hj,G0 hG hF h.si h.li (by omega) hN];exact pk _
    ·rw[if_neg (by simp),if_neg (by simp),if_neg (by simp),if_neg (by simp),if_neg (by simp),if_pos (by simp),g0,Hj,g1 rfl,Hj,Gb h.si (by omega) hN];exact pk _
    ·rw[if_neg (by simp),if_neg (by simp),if_neg (by simp),if_neg (by simp),if_neg (by simp),if_neg (by simp),if_pos (by simp),g0,Hj,Gc h.si h.ri (by omega) hN];exact pk _
    ·rw[if_neg (by simp),if_neg (by simp),if_neg (by simp),if_neg (by simp),if_neg (by simp),if_neg (by simp),if_neg (by simp),if_pos (by simp),g0,Hj,HM h.si h.di (by omega) hN];exact pk _
    ·rw[if_neg (by simp),if_neg (by simp),if_neg (by simp),if_neg (by simp),if_neg (by simp),if_neg (by simp),if_neg (by simp),if_neg (by simp),g0,Hj,G2 h.si (by omega) hN];exact pk _
theorem HU(hG:GX N)(hF:FX N)(hN:20000≤N)(lines:List (List UInt8))(hl:lines.length≤55)(hs:∀s∈lines,s.length≤210):DC N lines=some (tr (zv N st0 lines),zB N st0 lines):=by
 have key:=lO (N:=N) (B:=fun rec3 x=>CO N lines rec3 x.1 x.2.1 x.2.2) lines (fun i (a:aR×List Int)=>((i:Int),tr a.1,a.2))
  (fun r a=>some (tr (zv N a.1 r),a.2++zB N a.1 r)) (fun i a=>AI i a.1∧a.2.length=i)
  (fun a rec _=>by
   unfold CO
   rw[if_neg (by simp)]
   simp[zv,zB])
  (fun i x a rec hx ha ih=>by
   have hlt:=lP hx
   unfold CO
   rw[if_pos (by simp only[decide_eq_true_eq];omega),ij hx,Hj,Je hG hF ha.1 (by omega) hN x (hs x (Jm hx)),Hj]
   dsimp only
   rw[Hj]
   dsimp only
   rw[nL (by simp;omega),Hj,fN (by omega),ih (_,_) ⟨ha.1.step hG (by omega) hN x,by simp[ha.2]⟩]
   simp[zv,zB])
  (by omega) (st0,[]) ⟨P3,rfl⟩
 unfold DC
 rw[show DJ N=some (tr st0)from rfl,Hj]
 simp only[yN]at key
 rw[key]
 simp
theorem G6(lines:List (List UInt8))(hl:lines.length≤55)(hN:20000≤N):dw N lines=some (if(lines.all (fun s=>decide (s.length≤200))&&decide (lines.length≤50))=true then 0 else 3):=by
 have hall:mV N lines 200=some (lines.all fun s=>decide ((s.length:Int)≤200)) :=
  tZ lines (fun y=>kV N y 200) (fun s=>decide ((s.length:Int)≤200)) (fun x _=>rfl) (by omega) (by omega)
 have he:(lines.all fun s=>decide ((s.length:Int)≤200))=lines.all (fun s=>decide (s.length≤200)):=by
  congr 1;funext s
  rw[decide_eq_decide];omega
 unfold dw
 by_cases h50:lines.length≤50
 ·rw[if_neg (by simp only[decide_eq_true_eq];omega),hall,he]
  cases hA:lines.all (fun s=>decide (s.length≤200))with
  | true=>simp[h50]
  | false=>simp
 ·rw[if_pos (by simp only[decide_eq_true_eq];omega)]
  simp[h50]
def Ea (lines:List (List UInt8)):Bool:=lines.all (fun s=>decide (s.length≤200))&&decide (lines.length≤50)
theorem Ge{lines:List (List UInt8)}:Ea lines=true↔(∀s∈lines,s.length≤200)∧lines.length≤50:=by simp[Ea]
theorem HW(lines:List (List UInt8))(hl:lines.length≤55)(hN:20000≤N):Dg N lines=some (if Ea lines=true then 0 else 3):=by
 unfold Dg
 rw[ud lines hl hN,Hj]
 show(if(!Ea lines)=true then _ else _)=_
 cases Ea lines<;>rfl
end Go.Proofs.YtdodahpkpeodfaaGreatDoor
namespace Go.Proofs.YtdodahpkpeodfaaGreatDoor.F
open Go.Kp
def sm:List Int→Int
 | []=>0
 | x::xs=>x+sm xs
theorem Dm:∀(xs ys:List Int),sm (xs++ys)=sm xs+sm ys
 | [],ys=>by simp[sm]
 | x::xs,ys=>by simp[sm,Dm xs ys];omega
theorem sm_bd{B:Int}(hB:0≤B):∀(xs:List Int),(∀x∈xs,0≤x∧x≤B)→0≤sm xs∧sm xs≤B*xs.length
 | [],_=>by simp[sm]
 | x::xs,h=>by
  have h1:=h x (by simp)
  have h2:=sm_bd hB xs fun y hy=>h y (by simp[hy])
  simp only[sm,IS]
  have:B*((xs.length+1:Nat):Int)=B*xs.length+B:=by rw[Int.natCast_add,Int.mul_add];simp
  omega
theorem Gh(xs:List Int)(hn:xs.length≤500)(hb:∀x∈xs,-1000000≤x∧x≤1000000):fL 30000 xs=some (sm xs):=by
 have bd:∀(ys:List Int),(∀x∈ys,-1000000≤x∧x≤1000000)→-1000000*(ys.length:Int)≤sm ys∧sm ys≤1000000*(ys.length:Int):=by
  intro ys
  induction ys with
  | nil=>intro _;simp[sm]
  | cons y ys ih =>
   intro h
   have h1:=h y (by simp)
   have h2:=ih fun z hz=>h z (by simp[hz])
   simp only[sm,IS]
   omega
 have key:loopN (fun rec3 x=>fK 30000 xs rec3 x.1 x.2.1 x.2.2) 30000 (0,(xs.length:Int),0)=some (sm xs):=by
  have h:=Aq (ι:=Nat) (b:=fun rec3 x=>fK 30000 xs rec3 x.1 x.2.1 x.2.2) (fun i=>(sm (xs.take i),(xs.length:Int),(i:Int)))
   (fun i=>some (sm xs)) (fun i=>xs.length-i) (fun i=>i≤xs.length) ?_ 30000 0 (ye _) (by omega)
  ·simpa [sm]using h
  ·intro i rec hi ih
   simp only at hi ih ⊢
   unfold fK
   by_cases hlt:i<xs.length
   ·have hx:xs[i]? = some xs[i]:=by simp[hlt]
    rw[if_pos (by simpa using hlt),ij hx]
    simp only[Hj]
    have e:sm (xs.take (i+1))=sm (xs.take i)+xs[i]:=by rw[List.take_succ_eq_append_getElem hlt,Dm];simp[sm]
    have b:=bd (xs.take (i+1)) fun z hz=>hb z (JA hz)
    have:(xs.take (i+1)).length≤500:=by simp;omega
    rw[bE (by omega) (by omega),bE (by omega) (by omega)]
    have:=ih (i+1) (by omega) (by omega)
    rw[e]at this
    rw[show((i:Int)+1)=((i+1:Nat):Int) by omega,this]
   ·have:i=xs.length:=by omega
    subst this
    rw[if_neg (by simp),A4]
 unfold fL
 rw[key]
 rfl
def bon (l:bW)(s:S)(n:Int):Nat:=if s.f≠l.bv-1∧s.p=n then(if s.h=0 then 2 else if s.h=1 then 1 else 0)else 0
structure A where
 s:S
 cs:List Int
 E:List (Nat×Nat)
 tr:List pf
 tot:Int
def BK (l:bW)(A0:A)(b:Int):A :=
 ⟨nxt l A0.s b,A0.cs++[cnt l A0.s b],A0.E++(if A0.s.f<(nxt l A0.s b).f then [(A0.cs.length+1,bon l A0.s (cnt l A0.s b))] else []),A0.tr++[⟨A0.s.f,cnt l A0.s b⟩],A0.tot+wor l A0.s b⟩
def Hc (l:bW):A:=⟨s0 l,[],[],[],0⟩
def acc (l:bW)(bs:List Int):A:=bs.foldl (BK l) (Hc l)
theorem H2(l:bW)(bs:List Int)(b:Int):acc l (bs++[b])=BK l (acc l bs) b:=by simp[acc]
theorem GJ(l:bW):∀(bs:List Int) (A0:A),(bs.foldl (BK l) A0).s=run l A0.s bs
 | [],_=>rfl
 | b::bs,A0=>GJ l bs (BK l A0 b)
theorem FB(l:bW):∀(bs:List Int) (A0:A),(bs.foldl (BK l) A0).tr=A0.tr++DF l A0.s bs
 | [],A0=>by simp[DF]
 | b::bs,A0=>by
  show((bs.foldl (BK l) (BK l A0 b))).tr=_
  rw[FB l bs (BK l A0 b)]
  simp[BK,DF]
theorem acc_s(l:bW)(bs:List Int):(acc l bs).s=run l (s0 l) bs:=GJ l bs (Hc l)
theorem IT(l:bW)(bs:List Int):(acc l bs).tr=DF l (s0 l) bs:=by rw[acc,FB];simp[Hc]
def EV (cs:List Int)(p:Nat×Nat):Int:=sm ((cs.take (p.1+p.2)).drop p.1)
def C2 (E:List (Nat×Nat)):Nat:=match E.getLast? with | some p=>p.1 | none=>0
def upd (k:Int)(i:Nat)(a:Int×Int×Int)(x:pf):Int×Int×Int:=if x.dI=k then(a.1+x.vu,a.2.1+1,(i:Int))else a
def Dc (k:Int):Nat→Int×Int×Int→List pf→Int×Int×Int
 | _,a,[]=>a
 | i,a,x::xs=>Dc k (i+1) (upd k i a x) xs
theorem D1(k:Int):∀(xs:List pf) (i:Nat) (a:Int×Int×Int) (x:pf),Dc k i a (xs++[x])=upd k (i+xs.length) (Dc k i a xs) x
 | [],i,a,x=>by simp[Dc]
 | y::ys,i,a,x=>by
  show Dc k (i+1) (upd k i a y) (ys++[x])=_
  rw[D1 k ys]
  simp only[Dc,IS]
  congr 1
  omega
def more (l:bW)(k:Int)(own balls:Int):Int:=if k<l.bv-1∧own=l.gV∧balls=2 then 1 else if k<l.bv-1∧own=l.gV∧balls=1 then 2 else 0
def Ar (E:List (Nat×Nat))(k:Nat):Nat:=C2 (E.take k)
structure AInv(l:bW)(a:A):Prop where
 inv:Inv l a.s
 fE:(a.E.length:Int)=a.s.f
 bd:∀x∈a.cs,0≤x∧x≤10
 ent:∀p∈a.E,1≤p.1∧p.1≤a.cs.length∧p.2≤2
 one:a.s.a=(a.E.countP fun p=>decide (a.cs.length<p.1+p.2):Nat)
 two:a.s.c=(a.E.countP fun p=>decide (a.cs.length+1<p.1+p.2):Nat)
 tot:a.tot=sm a.cs+sm (a.E.map (EV a.cs))
 len:(a.cs.length:Int)=C2 a.E+a.s.h
 own:a.s.f<l.bv-1→sm (a.cs.drop (C2 a.E))=l.gV-a.s.p
 trl:a.tr.length=a.cs.length
 trc:a.tr.map (·.vu)=a.cs
 trf:∀x∈a.tr,0≤x.dI∧x.dI≤a.s.f
 sc:∀(k:Nat) p,a.E[k]? = some p→∃own balls,Dc k 0 (0,0,0) a.tr=(own,balls,(p.1:Int)-1)∧own=sm ((a.cs.take p.1).drop (Ar a.E k))∧more l k own balls=p.2∧Ar a.E k<p.1∧1≤balls∧balls≤3
 so:Dc a.E.length 0 (0,0,0) a.tr=(sm (a.cs.drop (C2 a.E)),a.s.h,if a.s.h=0 then 0 else(a.cs.length:Int)-1)
 sz:∀k:Int,a.s.f<k→Dc k 0 (0,0,0) a.tr=(0,0,0)
 l1:a.s.f=l.bv-1→1≤a.s.h→a.s.c=0
 l2:a.s.f=l.bv-1→2≤a.s.h→a.s.a=0
 l3:a.s.f=l.bv→a.s.a=0∧a.s.c=0
theorem Jg{l:bW}(hV:V l):AInv l (Hc l):=by
 have:=hV.f1
 refine⟨inv0 hV,?_,?_,?_,?_,?_,?_,?_,?_,?_,?_,?_,?_,?_,?_,?_,?_,?_⟩<;>simp[Hc,s0,sm,C2,Dc]
theorem Hd{cs:List Int}{p:Nat×Nat}(h:p.1≤cs.length)(c:Int):EV (cs++[c]) p=EV cs p+if cs.length<p.1+p.2 then c else 0:=by
 unfold EV
 by_cases h2:cs.length<p.1+p.2
 ·rw[if_pos h2,Df (by simp;omega),Df (by omega),GK h,Dm]
  simp[sm]
 ·rw[if_neg h2,Ds (by omega)]
  omega
theorem EL(cs:List Int)(c:Int):∀(E:List (Nat×Nat)),(∀p∈E,p.1≤cs.length)→sm (E.map (EV (cs++[c])))=sm (E.map (EV cs))+c*(E.countP fun p=>decide (cs.length<p.1+p.2):Nat)
 | [],_=>by simp[sm]
 | p::E,h=>by
  have ih:=EL cs c E fun q hq=>h q (by simp[hq])
  simp only[xZ,sm,ih,Hd (h p (by simp))]
  by_cases h2:cs.length<p.1+p.2
  ·rw[List.countP_cons_of_pos (by simpa using h2),if_pos h2,Int.natCast_add,Int.mul_add]
   simp;omega
  ·rw[List.countP_cons_of_neg (by simpa using h2),if_neg h2]
   omega
theorem DM(E:List (Nat×Nat))(p:Nat×Nat):C2 (E++[p])=p.1:=by simp[C2]
theorem FC{cs:List Int}:∀{E:List (Nat×Nat)},(∀p∈E,1≤p.1∧p.1≤cs.length∧p.2≤2)→C2 E≤cs.length:=by
 intro E h
 unfold C2
 split
 ·rename_i p hp;exact(h p (List.mem_of_getLast? hp)).2.1
 ·omega
theorem FD{α:Type}{p:α→Bool}{l:List α}(h:∀x∈l,p x=false):l.countP p=0:=by
 rw[List.countP_eq_zero]
 intro x hx;simp[h x hx]
theorem Fm{l:bW}{s:S}(hV:V l)(hi:Inv l s)(hf:s.f<l.bv){n:Int}(h0:0≤n)(h1:n≤s.p) :
  (s.f<(CC l s n).f→(CC l s n).f=s.f+1∧(CC l s n).h=0∧(CC l s n).p=l.gV) ∧
  (¬s.f<(CC l s n).f→(CC l s n).f=s.f∧(CC l s n).h=s.h+1∧(s.f<l.bv-1→(CC l s n).p=s.p-n∧s.p≠n)∧s.h+1<(CC l s n).nd) ∧
  (s.f<(CC l s n).f→s.f<l.bv-1→s.p=n∨(s.p≠n∧s.h+1=s.nd)):=by
 obtain⟨f0,f1,h0',hn,nd,p0,p1,fr,h00,hfr,a0,a2,c0,c1,dn⟩:=hi
 obtain⟨v1,v2,v3,v4,v5,v6,v7,v8⟩:=hV
 unfold CC
 split
 ·split
  ·simp;omega
  ·split
   ·simp;omega
   ·simp;omega
 ·split
  ·simp;omega
  ·split
   ·simp;omega
   ·simp;omega
end Go.Proofs.YtdodahpkpeodfaaGreatDoor.F
namespace Go.Proofs.YtdodahpkpeodfaaGreatDoor.F
open Go.Kp
theorem He{l:bW}{s:S}{n:Int}(hf:s.f=l.bv-1)(hc:s.f<(CC l s n).f):s.h+1=s.nd:=by
 unfold CC at hc
 rw[if_pos hf]at hc
 split at hc
 ·simp at hc
 ·split at hc
  ·assumption
  ·simp at hc
theorem DG{α:Type}{l:List α}{k:Nat}(h:k≤l.length)(x:α):(l++[x]).drop k=l.drop k++[x]:=GK h
theorem upd_ne{k:Int}{i:Nat}{a:Int×Int×Int}{x:pf}(h:x.dI≠k):upd k i a x=a:=by simp[upd,h]
theorem H3{k:Int}{i:Nat}{a:Int×Int×Int}{x:pf}(h:x.dI=k):upd k i a x=(a.1+x.vu,a.2.1+1,(i:Int)):=by simp[upd,h]
theorem Hf{l:bW}(hV:V l){a:A}(hi:AInv l a){b:Int}(hm:may l a.s b):AInv l (BK l a b):=by
 have hf:=hm.1
 have hc:=DS hV hi.inv hm.2.2
 have hin:=D0 hV hi.inv hf hm.2.2
 obtain⟨hF1,hF2,hF3⟩:=Fm hV hi.inv hf hc.1 hc.2
 have hh:a.s.h=0∨a.s.h=1∨a.s.h=2:=by have:=hi.inv.h0;have:=hi.inv.hn;have:=hi.inv.nd;have:=hV.b2;omega
 have hac:=Is (l:=l) (s:=a.s) (n:=cnt l a.s b) hh
 have hla:=@He l a.s (cnt l a.s b)
 have hp1:=hi.inv.p1
 have hv4:=hV.p2
 have hv5:=hV.b1
 have hh0:=hi.inv.h0
 have hnd:=hi.inv.nd
 have hle:=FC hi.ent
 unfold BK wor
 unfold nxt at hin ⊢
 generalize hn:cnt l a.s b=n at *
 clear hn
 obtain⟨inv,fE,bd,ent,one,two,tot,len,own,trl,trc,trf,sc,so,sz,l1,l2,l3⟩:=hi
 have e1:(a.E.countP fun p=>decide (a.cs.length+1+1<p.1+p.2))=0:=FD fun p hp=>by
  have:=ent p hp
  simp;omega
 have ebs:=EL a.cs n a.E fun p hp=>(ent p hp).2.1
 have scan_ne:∀(k:Int),k≠a.s.f→Dc k 0 (0,0,0) (a.tr++[⟨a.s.f,n⟩])=Dc k 0 (0,0,0) a.tr:=fun k hk=>by
  rw[D1];exact upd_ne (Ne.symm hk)
 have scan_f:Dc a.E.length 0 (0,0,0) (a.tr++[⟨a.s.f,n⟩])=(sm (a.cs.drop (C2 a.E))+n,a.s.h+1,(a.cs.length:Int)):=by
  rw[D1,so,H3 fE.symm,trl]
  simp
 by_cases hcl:a.s.f<(CC l a.s n).f
 ·obtain⟨q1,q2,q3⟩:=hF1 hcl
  simp only[if_pos hcl]
  refine⟨hin,?_,?_,?_,?_,?_,?_,?_,?_,?_,?_,?_,?_,?_,?_,?_,?_,?_⟩
  ·simp only[Js,BG];omega
  ·intro x hx
   rcases List.mem_append.1 hx with hx | hx
   ·exact bd x hx
   ·simp at hx;subst hx;omega
  ·intro p hp
   rcases List.mem_append.1 hp with hp | hp
   ·have:=ent p hp;simp;omega
   ·simp at hp;subst hp
    have:bon l a.s n≤2:=by unfold bon;split<;>(try split)<;>(try split)<;>omega
    simp;omega
  ·simp only[Js,BG,List.countP_append,List.countP_singleton,hac.1,two]
   unfold bon
   by_cases h1:a.s.f≠l.bv-1∧a.s.p=n
   ·rcases hh with h | h | h<;>simp[h1,h]<;>(try (rw[if_neg (by omega)];rfl))
   ·have:¬(a.s.f≠l.bv-1∧a.s.p=n∧a.s.h+1≤2):=fun x=>h1 ⟨x.1,x.2.1⟩
    rw[if_neg h1,if_neg this]
    all_goals (simp;try (rw[if_neg (by omega)];rfl))
  ·simp only[Js,BG,List.countP_append,List.countP_singleton,hac.2,e1]
   unfold bon
   by_cases h1:a.s.f≠l.bv-1∧a.s.p=n
   ·rcases hh with h | h | h<;>simp[h1,h]<;>(try (rw[if_neg (by omega)];rfl))
   ·have:¬(a.s.f≠l.bv-1∧a.s.p=n∧a.s.h+1=1):=fun x=>h1 ⟨x.1,x.2.1⟩
    rw[if_neg h1,if_neg this]
    all_goals (simp;try (rw[if_neg (by omega)];rfl))
  ·have e2:EV (a.cs++[n]) (a.cs.length+1,bon l a.s n)=0:=by
    unfold EV
    rw[AW (by simp)];rfl
   simp only[zR,xZ,List.map_nil,Dm,ebs,tot,sm,e2,one,Int.mul_add]
   omega
  ·simp only[Js,BG,DM,q2];omega
  ·intro _
   simp only[DM,q3]
   rw[AW (by simp)]
   simp[sm]
  ·simp[trl]
  ·simp[trc]
  ·intro x hx
   rcases List.mem_append.1 hx with hx | hx
   ·have:=trf x hx;simp only;omega
   ·simp at hx;subst hx;have:=inv.f0;simp only;omega
  ·intro k p hp
   by_cases hk:k<a.E.length
   ·rw[za hk]at hp
    obtain⟨ow,ba,r1,r2,r3,r4,r5⟩:=sc k p hp
    have hpm:=ent p (Jm hp)
    have hst:Ar (a.E++[(a.cs.length+1,bon l a.s n)]) k=Ar a.E k:=by
     unfold Ar;rw[Ds (by omega)]
    refine⟨ow,ba,?_,?_,r3,?_,r5⟩
    ·simp only;rw[scan_ne _ (by omega)];exact r1
    ·simp only[hst];rw[Ds hpm.2.1];exact r2
    ·rw[hst];exact r4
   ·have hk2:k=a.E.length:=by
     have:=(List.getElem?_eq_some_iff.1 hp).1
     simp at this;omega
    subst hk2
    rw[zL (H9 _)]at hp
    simp at hp
    subst hp
    have hst:Ar (a.E++[(a.cs.length+1,bon l a.s n)]) a.E.length=C2 a.E:=by
     unfold Ar;rw[Ds (H9 _),A4]
    refine⟨sm (a.cs.drop (C2 a.E))+n,a.s.h+1,?_,?_,?_,?_,?_⟩
    ·simp only[scan_f];congr 2;omega
    ·simp only[hst]
     rw[Df (by simp),DG hle,Dm];simp[sm]
    ·unfold more bon
     rw[fE]
     by_cases hlt:a.s.f<l.bv-1
     ·have ho:=own hlt
      have hne:a.s.f≠l.bv-1:=by omega
      rw[ho]
      by_cases hpn:a.s.p=n
      ·rcases hh with h | h | h<;>simp[hlt,hpn,h,hne]<;>omega
      ·have:¬(l.gV-a.s.p+n=l.gV):=by omega
       simp[hpn,this]
     ·have hne:a.s.f=l.bv-1:=by omega
      simp[hne]
    ·rw[hst];simp only;omega
    ·rcases hh with h | h | h<;>omega
  ·have h1:=sz (a.s.f+1) (by omega)
   simp only[Js,BG,DM,q2]
   rw[show((a.E.length+1:Nat):Int)=a.s.f+1 by omega,scan_ne _ (by omega),h1,AW (by simp)]
   simp[sm]
  ·intro k hk
   simp only at hk ⊢
   rw[scan_ne _ (by omega)]
   exact sz k (by omega)
  ·intro h1 h2;simp only at h2;omega
  ·intro h1 h2;simp only at h2;omega
  ·intro h1
   simp only at h1 ⊢
   have hl:a.s.f=l.bv-1:=by omega
   have:=hla hl hcl
   have hc0:=l1 hl (by omega)
   rw[hac.1,hac.2,hc0]
   simp[hl]
 ·obtain⟨q1,q2,q3,q4⟩:=hF2 hcl
  simp only[if_neg hcl,List.append_nil]
  have hz:¬(a.s.f≠l.bv-1∧a.s.p=n):=fun⟨x,y⟩=>(q3 (by have:=inv.f1;omega)).2 y
  have hz1:¬(a.s.f≠l.bv-1∧a.s.p=n∧a.s.h+1≤2):=fun x=>hz ⟨x.1,x.2.1⟩
  have hz2:¬(a.s.f≠l.bv-1∧a.s.p=n∧a.s.h+1=1):=fun x=>hz ⟨x.1,x.2.1⟩
  rw[if_neg hz1]at hac
  rw[if_neg hz2]at hac
  refine⟨hin,?_,?_,?_,?_,?_,?_,?_,?_,?_,?_,?_,?_,?_,?_,?_,?_,?_⟩
  ·simp only;omega
  ·intro x hx
   rcases List.mem_append.1 hx with hx | hx
   ·exact bd x hx
   ·simp at hx;subst hx;omega
  ·intro p hp
   have:=ent p hp;simp;omega
  ·simp only[Js,BG,hac.1,two];simp
  ·simp only[Js,BG,hac.2,e1];simp
  ·simp only[Dm,ebs,tot,sm,one,Int.mul_add]
   omega
  ·simp only[Js,BG,q2];omega
  ·intro h1
   simp only at h1 ⊢
   rw[DG hle,Dm,own (by omega),(q3 (by omega)).1]
   simp[sm];omega
  ·simp[trl]
  ·simp[trc]
  ·intro x hx
   rcases List.mem_append.1 hx with hx | hx
   ·have:=trf x hx;simp only;omega
   ·simp at hx;subst hx;have:=inv.f0;simp only;omega
  ·intro k p hp
   simp only at hp
   have hk:=(List.getElem?_eq_some_iff.1 hp).1
   obtain⟨ow,ba,r1,r2,r3,r4,r5⟩:=sc k p hp
   have hpm:=ent p (Jm hp)
   refine⟨ow,ba,?_,?_,r3,r4,r5⟩
   ·simp only;rw[scan_ne _ (by omega)];exact r1
   ·simp only;rw[Ds hpm.2.1];exact r2
  ·simp only[scan_f,q2]
   rw[DG hle,Dm,if_neg (by omega)]
   simp[sm]
  ·intro k hk
   simp only at hk ⊢
   rw[scan_ne _ (by omega)]
   exact sz k (by omega)
  ·intro h1 h2;simp only at h1 h2 ⊢;exact hac.2
  ·intro h1 h2
   simp only at h1 h2 ⊢
   rw[hac.1,l1 (by omega) (by omega)];rfl
  ·intro h1
   simp only at h1
   omega
theorem E6{l:bW}(hV:V l):∀(bs:List Int) {a:A},AInv l a→Ok l a.s bs→AInv l (bs.foldl (BK l) a)
 | [],_,hi,_=>hi
 | b::bs,a,hi,hk=>E6 hV bs (a:=BK l a b) (Hf hV hi hk.1) hk.2
theorem ainv{l:bW}(hV:V l){bs:List Int}(hk:Ok l (s0 l) bs):AInv l (acc l bs):=E6 hV bs (Jg hV) hk
end Go.Proofs.YtdodahpkpeodfaaGreatDoor.F
