/-
  The plain part.
-/
import Derived.Test.YtdodahpkpeodfaaGreatDoorQX
set_option linter.all false
open Bool renaming and_eq_true→wH,and_self→CS,and_true→Cf,eq_iff_iff→Bu,false_eq_true→IE,not_eq_true→BI,not_eq_true'→zZ,not_false→Da,not_true→yo
open Int renaming le_refl→zD,natCast_zero→yN,toNat→xY,toNat_natCast→JD
open List renaming all_eq_true→Ce,append_assoc→zb,append_nil→Bc,cons_append→CP,drop_eq_getElem_cons→zp,drop_eq_nil_of_le→AW,drop_length→Ci,drop_zero→Em,foldl_cons→wx,getD_eq_getElem?_getD→A5,getElem?_append_right→zL,getElem?_eq_getElem→IX,getElem?_map→Jr,getElem?_of_mem→AH,getElem?_set_ne→GO,getElem_mem→Be,getLast?_eq_getElem?→xR,length_append→Js,length_cons→IS,length_drop→AA,length_map→Ia,length_nil→yf,length_range→Bn,length_take→JC,map_append→zR,map_cons→xZ,mem_append→AL,mem_append_left→EG,mem_append_right→EM,mem_cons→D8,mem_cons_of_mem→AK,mem_cons_self→zV,mem_of_getElem?→Jm,mem_of_mem_drop→By,mem_of_mem_take→JA,mem_singleton→EP,nil_append→y9,pairwise_cons→En,range→Jq,replicate→Iu,take_append_drop→BL,take_length→A4,take_succ_eq_append_getElem→EB
open Nat renaming eq_zero_or_pos→Cd,le_refl→H9,le_trans→zW,min_eq_left→Bm,pow_le_pow_right→Gz,zero_le→ye
open Option renaming bind→Ha,bind_some→Hj
namespace Go.Proofs.YtdodahpkpeodfaaGreatDoor.F
open Go.Kp
theorem Eb{l:bW}{s:S}{sheet:List Int}(hk:Ok l s sheet)(i:Nat):Ok l s (sheet.take i):=by
 have:=(ok_app l s (sheet.take i) (sheet.drop i)).1 (by rw[BL];exact hk)
 exact this.1
theorem IU{l:bW}{sheet:List Int}(hk:Ok l (s0 l) sheet){i:Nat}(hi:i<sheet.length) :
  ∃x,sheet[i]? = some x∧may l (acc l (sheet.take i)).s x∧acc l (sheet.take (i+1))=BK l (acc l (sheet.take i)) x:=by
 refine⟨sheet[i],by simp[hi],?_,?_⟩
 ·have h:=(ok_app l (s0 l) (sheet.take i) (sheet.drop i)).1 (by rw[BL];exact hk)
  rw[acc_s]
  have h2:=h.2
  rw[zp hi]at h2
  exact h2.1
 ·rw[EB hi,H2]
theorem acc_len(l:bW)(bs:List Int):(acc l bs).cs.length=bs.length:=by
 have:∀(bs:List Int) (a:A),(bs.foldl (BK l) a).cs.length=a.cs.length+bs.length:=by
  intro bs
  induction bs with
  | nil=>intro a;rfl
  | cons b bs ih=>intro a;rw[wx,ih];simp[BK];omega
 rw[acc,this];simp[Hc]
theorem Iv{l:bW}{s:S}:cT 30000 (s.play l)=some (decide (s.f=l.bv)):=rfl
section
variable {l:bW}(hV:V l){sheet:List Int}(hk:Ok l (s0 l) sheet)(hn:sheet.length≤90)
include hV hk hn
theorem BB:dg 30000 (fl l) sheet=some ((acc l sheet).s.play l):=by
 have key:loopN (fun rec3 x=>cd 30000 sheet rec3 x.1 x.2.1 x.2.2.1 x.2.2.2) 30000 ((sheet.length:Int),0,(s0 l).play l,(s0 l).play l)=some ((acc l sheet).s.play l):=by
  have h:=Aq (ι:=Nat) (b:=fun rec3 x=>cd 30000 sheet rec3 x.1 x.2.1 x.2.2.1 x.2.2.2)
   (fun i=>((sheet.length:Int),(i:Int),(acc l (sheet.take i)).s.play l,(acc l (sheet.take i)).s.play l))
   (fun i=>some ((acc l sheet).s.play l)) (fun i=>sheet.length-i) (fun i=>i≤sheet.length) ?_ 30000 0 (ye _) (by omega)
  ·exact h
  ·intro i rec hi ih
   simp only at hi ih ⊢
   unfold cd
   by_cases hlt:i<sheet.length
   ·obtain⟨x,hx,hm,ha⟩:=IU hk hlt
    have hI:=(ainv hV (Eb hk i)).inv
    rw[if_pos (by simpa using hlt),ij hx]
    simp only[Hj,Al hI,hm,decide_true,yo,IE,if_false]
    rw[B9 hV hI hm.1 hm.2.2]
    simp only[Hj]
    rw[bE (by omega) (by omega)]
    have:=ih (i+1) (by omega) (by omega)
    rw[ha]at this
    rw[show((i:Int)+1)=((i+1:Nat):Int) by omega]
    exact this
   ·have:i=sheet.length:=by omega
    subst this
    rw[if_neg (by simp),A4]
 unfold dg cS bL
 simp only[Hj]
 have e:(ii.mk (fl l) (qZ.mk 0 0 (fl l).gV true (fl l).ar (Ar2.mk 0 0)))=(s0 l).play l:=rfl
 rw[e,key]
 rfl
end
def cts (cs:List Int):Nat→Int→List (Nat×Nat)→List Int
 | _,_,[]=>[]
 | fr,up,p::E=>if cs.length<p.1+p.2 then [] else(up+sm ((cs.take (p.1+p.2)).drop fr))::cts cs p.1 (up+sm ((cs.take (p.1+p.2)).drop fr)) E
def ctsA (a:A):List Int:=cts a.cs 0 0 a.E
def Bg (o:List Int):Int:=match o.getLast? with | some x=>x | none=>0
theorem Gi{α:Type}{L:List α}{i:Nat}{x:α}(h:i<L.length):idx (L.set i x) (i:Int)=some x:=ij (by simp[h])
theorem rX{α:Type}{L:List α}{a b:Nat}(h1:a≤b)(h2:b≤L.length):slc L (a:Int) (b:Int)=some ((L.take b).drop a):=by
 unfold slc
 rw[if_pos ⟨by omega,by omega,by omega⟩]
 simp
theorem DT{E:List (Nat×Nat)}{k:Nat}{p:Nat×Nat}(h:E[k]? = some p):Ar E (k+1)=p.1:=by
 have hk:=(List.getElem?_eq_some_iff.1 h).1
 have hx:=(List.getElem?_eq_some_iff.1 h).2
 unfold Ar
 rw[EB hk,DM,hx]
theorem DU(E:List (Nat×Nat)):Ar E 0=0:=by simp[Ar,C2]
theorem Fo{l:bW}{a:A}(hi:AInv l a)(hn:a.cs.length≤90)(x y:Nat):0≤sm ((a.cs.take x).drop y)∧sm ((a.cs.take x).drop y)≤900:=by
 have h:=sm_bd (B:=10) (by omega) ((a.cs.take x).drop y) fun z hz=>hi.bd z (JA (By hz))
 have:((a.cs.take x).drop y).length≤90:=by simp;omega
 omega
theorem H4{l:bW}{a:A}(hi:AInv l a)(hn:a.cs.length≤90)(hE:a.E.length≤10) :
  loopN (fun rec5 x=>KA 30000 a.cs (a.E.map fun p=>(p.1:Int)) (a.E.map fun p=>(p.2:Int)) rec5 x.1 x.2.1 x.2.2.1 x.2.2.2) 30000 (0,((a.E.map fun p=>(p.1:Int)).length:Int),0,[])=some (ctsA a):=by
 have h:=Aq (ι:=Nat×List Int) (b:=fun rec5 x=>KA 30000 a.cs (a.E.map fun p=>(p.1:Int)) (a.E.map fun p=>(p.2:Int)) rec5 x.1 x.2.1 x.2.2.1 x.2.2.2)
  (fun i=>((Ar a.E i.1:Int),((a.E.map fun p=>(p.1:Int)).length:Int),(i.1:Int),i.2))
  (fun i=>some (i.2++cts a.cs (Ar a.E i.1) (Bg i.2) (a.E.drop i.1))) (fun i=>a.E.length-i.1)
  (fun i=>i.1≤a.E.length∧i.2.length=i.1∧0≤Bg i.2∧Bg i.2≤900*i.1) ?_ 30000 (0,[]) ⟨ye _,rfl,by simp[Bg],by simp[Bg]⟩ (by simp;omega)
 ·simpa [DU,Bg,ctsA]using h
 ·rintro⟨k,o⟩ rec ⟨h1,h2,h3,h4⟩ ih
  simp only at h1 h2 h3 h4 ih ⊢
  unfold KA
  by_cases hlt:k<a.E.length
  ·have hp:a.E[k]? = some a.E[k]:=by simp[hlt]
   generalize hpp:a.E[k]=pp at hp
   obtain⟨p1,p2⟩:=pp
   have hent:=hi.ent _ (Jm hp)
   simp only at hent
   obtain⟨_,_,_,_,_,hst,_⟩:=hi.sc k _ hp
   simp only at hst
   rw[if_pos (by simpa using hlt),ij (l:=a.E.map fun p=>(p.1:Int)) (x:=(p1:Int)) (by simp[hp]),ij (l:=a.E.map fun p=>(p.2:Int)) (x:=(p2:Int)) (by simp[hp])]
   simp only[Hj]
   rw[bE (by omega) (by omega),zp hlt,hpp]
   unfold cts
   simp only
   by_cases hset:a.cs.length<p1+p2
   ·rw[if_pos (by simp;omega),if_pos hset];simp
   ·rw[if_neg (by simp;omega),if_neg hset]
    rw[show((p1:Int)+(p2:Int))=((p1+p2:Nat):Int) by omega,rX (by omega) (by omega)]
    simp only[Hj]
    have hs:=Fo hi hn (p1+p2) (Ar a.E k)
    rw[Gh _ (by simp;omega) (fun z hz=>by have:=hi.bd z (JA (By hz));omega)]
    simp only[Hj]
    generalize hv:sm ((a.cs.take (p1+p2)).drop (Ar a.E k))=v at hs ⊢
    have e:(Ha (if decide (0<(k:Int))=true then(idx o (w64 ((k:Int)-1))).bind fun x400=>(fL 30000 [v,x400]).bind fun r188=>some r188 else some v) fun v100=>some v100)=some (Bg o+v):=by
     by_cases hk0:k=0
     ·subst hk0
      have:o=[]:=List.length_eq_zero_iff.1 h2
      subst this
      simp[Bg]
     ·have hlo:o[k-1]? = some (Bg o):=by
       unfold Bg
       rw[xR,h2]
       cases hq:o[k-1]? with
       | some z=>rfl
       | none=>rw[List.getElem?_eq_none_iff]at hq;omega
      rw[if_pos (by simp;omega),bE (by omega) (by omega),show((k:Int)-1)=((k-1:Nat):Int) by omega,ij hlo]
      simp only[Hj]
      rw[Gh _ (by simp) (by intro y hy;simp at hy;rcases hy with rfl | rfl<;>omega)]
      simp[sm];omega
    obtain⟨v100,q1,q2⟩:=obind e
    cases q2
    rw[q1]
    simp only[Hj]
    rw[nL (by simp;omega)]
    simp only[Hj]
    rw[bE (by omega) (by omega)]
    have hlast:Bg (o++[Bg o+v])=Bg o+v:=by simp[Bg]
    have:=ih (k+1,o++[Bg o+v]) ⟨by simp only;omega,by simp[h2],by simp only[hlast];omega,by simp only[hlast];omega⟩ (by simp only;omega)
    simp only[DT hp,hlast]at this
    rw[show((k:Int)+1)=((k+1:Nat):Int) by omega,this]
    simp
  ·have:k=a.E.length:=by omega
   subst this
   rw[if_neg (by simp),Ci]
   unfold eB cts
   simp
end Go.Proofs.YtdodahpkpeodfaaGreatDoor.F
namespace Go.Proofs.YtdodahpkpeodfaaGreatDoor.F
open Go.Kp
def D3 (a:A):List Int:=a.E.map fun p=>(p.1:Int)
def Cw (a:A):List Int:=a.E.map fun p=>(p.2:Int)
structure FrL(l:bW)(s:S)(L:List Int):Prop where
 len:L.length=l.bv.toNat
 cur:s.f<l.bv→L[s.f.toNat]? = some s.h
 new:∀j:Nat,s.f<j→(j:Int)<l.bv→L[j]? = some 0
theorem H5{l:bW}(hV:V l){sheet:List Int}(hk:Ok l (s0 l) sheet)(hn:sheet.length≤90) :
  loopN (fun rec3 x=>ca 30000 (fl l) sheet rec3 x.1 x.2.1 x.2.2.1 x.2.2.2.1 x.2.2.2.2.1 x.2.2.2.2.2.1 x.2.2.2.2.2.2) 30000 ((sheet.length:Int),0,(s0 l).play l,[],[],[],Iu l.bv.toNat 0) =
   some ((acc l sheet).cs,D3 (acc l sheet),Cw (acc l sheet)):=by
 have h:=Aq (ι:=Nat×List Int) (b:=fun rec3 x=>ca 30000 (fl l) sheet rec3 x.1 x.2.1 x.2.2.1 x.2.2.2.1 x.2.2.2.2.1 x.2.2.2.2.2.1 x.2.2.2.2.2.2)
  (fun i=>((sheet.length:Int),(i.1:Int),(acc l (sheet.take i.1)).s.play l,(acc l (sheet.take i.1)).cs,D3 (acc l (sheet.take i.1)),Cw (acc l (sheet.take i.1)),i.2))
  (fun i=>some ((acc l sheet).cs,D3 (acc l sheet),Cw (acc l sheet))) (fun i=>sheet.length-i.1) (fun i=>i.1≤sheet.length∧FrL l (acc l (sheet.take i.1)).s i.2) ?_ 30000
  (0,Iu l.bv.toNat 0) ⟨ye _,?_⟩ (by simp;omega)
 ·exact h
 ·rintro⟨i,L⟩ rec ⟨h1,hL⟩ ih
  simp only at h1 hL ih ⊢
  unfold ca
  by_cases hlt:i<sheet.length
  ·obtain⟨x,hx,hm,ha⟩:=IU hk hlt
   have hA:=ainv hV (Eb hk i)
   have hi:=hA.inv
   have hc:=DS hV hi hm.2.2
   have hcl:(acc l (sheet.take i)).cs.length=i:=by rw[acc_len];simp;omega
   have ih1:=fun L'=>ih (i+1,L')
   simp only[ha]at ih1
   obtain⟨hF1,hF2,hF3⟩:=Fm hV hi hm.1 hc.1 hc.2
   rw[if_pos (by simpa using hlt),ij hx]
   simp only[Hj,Al hi,hm,decide_true,yo,IE,if_false]
   rw[B9 hV hi hm.1 hm.2.2]
   simp only[Hj]
   generalize acc l (sheet.take i)=a at *
   have ep:(a.s.play l).fAt.dI=(a.E.length:Int):=hA.fE.symm
   have ep2:((nxt l a.s x).play l).fAt.dI=(nxt l a.s x).f:=rfl
   have ep3:(fl l).bv=l.bv:=rfl
   have ep4:(fl l).gV=l.gV:=rfl
   have hfE:=hA.fE
   have hlen:=hA.len
   have hh0:=hi.h0
   have hh:a.s.h=0∨a.s.h=1∨a.s.h=2:=by have:=hi.h0;have:=hi.hn;have:=hi.nd;have:=hV.b2;omega
   have hv1:=hV.f1
   have hv2:=hV.f2
   have hle:=FC hA.ent
   have hLl:a.E.length<L.length:=by rw[hL.len];have:=hm.1;omega
   have hcur:L[a.E.length]? = some a.s.h:=by
    have:=hL.cur hm.1
    rwa[show a.s.f.toNat=a.E.length by omega]at this
   simp only[ep,ep2,ep3,ep4]
   rw[nL (by simp;omega),ij hcur]
   simp only[Hj]
   rw[bE (n:=(i:Int)+1) (by omega) (by omega),bE (n:=a.s.h+1) (by omega) (by omega),bE (n:=l.bv-1) (by omega) (by omega)]
   have hset:idx (L.set (xY (a.E.length:Int)) (a.s.h+1)) (a.E.length:Int)=some (a.s.h+1):=by
    rw[JD];exact Gi hLl
   have hEl:a.E.length≤10:=by have:=hi.f1;omega
   by_cases hcl2:(a.E.length:Int)<(nxt l a.s x).f
   ·have hcl3:a.s.f<(CC l a.s (cnt l a.s x)).f:=by unfold nxt at hcl2;omega
    obtain⟨q1,q2,q3⟩:=hF1 hcl3
    rw[if_pos (by simpa using hcl2),nL (by simp[D3];omega),nL (by simp[Cw];omega),hset]
    simp only[Hj]
    rw[bE (n:=(i:Int)+1-(a.s.h+1)) (by omega) (by omega)]
    rw[show((i:Int)+1-(a.s.h+1))=((C2 a.E:Nat):Int) by omega,rX (by simp;omega) (H9 _),A4,DG hle]
    simp only[Hj]
    have hbd:∀z∈a.cs.drop (C2 a.E)++[cnt l a.s x],-1000000≤z∧z≤1000000:=by
     intro z hz
     rcases List.mem_append.1 hz with hz | hz
     ·have:=hA.bd z (By hz);omega
     ·simp at hz;subst hz;have:=hi.p1;have:=hV.p2;omega
    rw[Gh _ (by simp;omega) hbd,Dm]
    simp only[Hj]
    have e:(Ha (if decide ((a.E.length:Int)<l.bv-1)=true then if decide (sm (a.cs.drop (C2 a.E))+sm [cnt l a.s x]=l.gV)=true then some (decide (a.s.h+1<3),L.set (xY (a.E.length:Int)) (a.s.h+1))else some (false,L.set (xY (a.E.length:Int)) (a.s.h+1))else some (false,L.set (xY (a.E.length:Int)) (a.s.h+1))) fun(v66,l565) =>
      if v66=true then Ha (idx l565 (a.E.length:Int)) fun x311=>Ha (idx (Cw a++[0]) (a.E.length:Int)) fun x312=>some (a.cs++[cnt l a.s x],D3 a++[(i:Int)+1],List.set (Cw a++[0]) (xY (a.E.length:Int)) (w64 (3-x311)),l565)
      else some (a.cs++[cnt l a.s x],D3 a++[(i:Int)+1],Cw a++[0],l565)) =
      some (a.cs++[cnt l a.s x],D3 a++[(i:Int)+1],Cw a++[(bon l a.s (cnt l a.s x):Int)],L.set (xY (a.E.length:Int)) (a.s.h+1)):=by
     have hml:(Cw a).length=a.E.length:=by simp[Cw]
     have hmi:idx (Cw a++[0]) (a.E.length:Int)=some 0:=ij (by rw[zL (by omega)];simp[hml])
     have hms:∀z:Int,List.set (Cw a++[0]) (xY (a.E.length:Int)) z=Cw a++[z]:=by
      intro z
      rw[JD,List.set_append_right _ _ (by omega)]
      simp[hml]
     unfold bon
     by_cases h1:(a.E.length:Int)<l.bv-1
     ·have hne:a.s.f≠l.bv-1:=by omega
      have ho:=hA.own (by omega)
      rw[if_pos (by simpa using h1),ho]
      by_cases h2:a.s.p=cnt l a.s x
      ·have h2':l.gV-a.s.p+sm [cnt l a.s x]=l.gV:=by simp[sm];omega
       rw[if_pos (by simpa using h2')]
       simp only[Hj]
       rcases hh with h | h | h
       ·rw[h]at hset ⊢
        rw[if_pos (by decide),hset,hmi]
        simp only[Hj]
        rw[hms]
        simp[hne,h2];decide
       ·rw[h]at hset ⊢
        rw[if_pos (by decide),hset,hmi]
        simp only[Hj]
        rw[hms]
        simp[hne,h2];decide
       ·rw[h]
        simp[hne,h2]
      ·have h2':¬l.gV-a.s.p+sm [cnt l a.s x]=l.gV:=by simp[sm];omega
       rw[if_neg (by simpa using h2')]
       simp[h2]
     ·have hne:a.s.f=l.bv-1:=by have:=hm.1;omega
      rw[if_neg (by simpa using h1)]
      simp[hne]
    obtain⟨v,r1,r2⟩:=obind e
    rw[r1]
    simp only[Hj]
    obtain⟨v66,l565⟩:=v
    simp only at r2 ⊢
    rw[r2]
    simp only[Hj]
    have:=ih1 (L.set (xY (a.E.length:Int)) (a.s.h+1)) ⟨by omega,?_⟩ (by omega)
    ·simp only[BK,D3,Cw,hfE▸hcl2,if_true,zR,xZ,List.map_nil,hcl]at this
     rw[show((i:Int)+1)=((i+1:Nat):Int) by omega]
     exact this
    ·refine⟨by simp[hL.len],fun h3=>?_,fun j h3 h4=>?_⟩
     ·have e1:(BK l a x).s.f=(a.E.length+1:Nat):=by show(CC l a.s (cnt l a.s x)).f=_;omega
      have e2:(BK l a x).s.h=0:=q2
      rw[e1]at h3 ⊢
      rw[e2,JD,JD,GO (by omega)]
      exact hL.new (a.E.length+1) (by omega) h3
     ·have e1:(BK l a x).s.f=(a.E.length+1:Nat):=by show(CC l a.s (cnt l a.s x)).f=_;omega
      rw[e1]at h3
      rw[JD,GO (by omega)]
      exact hL.new j (by omega) h4
   ·have hcl3:¬a.s.f<(CC l a.s (cnt l a.s x)).f:=by unfold nxt at hcl2;omega
    obtain⟨q1,q2,q3,q4⟩:=hF2 hcl3
    rw[if_neg (by simpa using hcl2)]
    simp only[Hj]
    have:=ih1 (L.set (xY (a.E.length:Int)) (a.s.h+1)) ⟨by omega,?_⟩ (by omega)
    ·have hcl4:¬a.s.f<(nxt l a.s x).f:=hcl3
     simp only[BK,D3,Cw,hcl4,if_false,Bc]at this
     rw[show((i:Int)+1)=((i+1:Nat):Int) by omega]
     exact this
    ·refine⟨by simp[hL.len],fun h3=>?_,fun j h3 h4=>?_⟩
     ·have e1:(BK l a x).s.f=(a.E.length:Nat):=by show(CC l a.s (cnt l a.s x)).f=_;omega
      have e2:(BK l a x).s.h=a.s.h+1:=q2
      rw[e1]at h3 ⊢
      rw[e2,JD]
      simp[hLl]
     ·have e1:(BK l a x).s.f=(a.E.length:Nat):=by show(CC l a.s (cnt l a.s x)).f=_;omega
      rw[e1]at h3
      rw[JD,GO (by omega)]
      exact hL.new j (by omega) h4
  ·have:i=sheet.length:=by omega
   subst this
   rw[if_neg (by simp),A4]
 ·have:=hV.f1
  refine⟨by simp,fun h3=>?_,fun j h3 h4=>?_⟩
  ·show(Iu _ _)[0]? = some 0
   rw[List.getElem?_replicate,if_pos (by omega)]
  ·rw[List.getElem?_replicate,if_pos (by omega)]
theorem Hg{l:bW}(hV:V l){sheet:List Int}(hk:Ok l (s0 l) sheet)(hn:sheet.length≤90):gC 30000 (fl l) sheet=some (ctsA (acc l sheet)):=by
 have hA:=ainv hV hk
 have h2:=H4 hA (by rw[acc_len];exact hn) (by have:=hA.fE;have:=hA.inv.f1;have:=hV.f2;omega)
 have h1:=H5 hV hk hn
 have hv1:=hV.f1
 have hv2:=hV.f2
 unfold gC cS bL
 have em:mkl 30000 (fl l).bv (0:Int)=some (Iu l.bv.toNat 0):=by
  have q:0≤(fl l).bv∧(fl l).bv≤((30000:Nat):Int):=⟨Int.le_trans (by decide) hv1,Int.le_trans hv2 (by decide)⟩
  unfold mkl
  rw[if_pos q]
  rfl
 rw[em]
 simp only[Hj]
 have e:(ii.mk (fl l) (qZ.mk 0 0 (fl l).gV true (fl l).ar (Ar2.mk 0 0)))=(s0 l).play l:=rfl
 rw[e]
 unfold D3 Cw at h1
 refine(IR _ h1).trans ?_
 exact h2
end Go.Proofs.YtdodahpkpeodfaaGreatDoor.F
namespace Go.Proofs.YtdodahpkpeodfaaGreatDoor.F
open Go.Kp
theorem GL(k:Int):∀(xs:List pf) (i:Nat) (a:Int×Int×Int),(∀x∈xs,0≤x.vu∧x.vu≤10) →
  a.1≤(Dc k i a xs).1∧(Dc k i a xs).1≤a.1+10*xs.length∧a.2.1≤(Dc k i a xs).2.1∧(Dc k i a xs).2.1≤a.2.1+xs.length
 | [],i,a,_=>by simp[Dc]
 | x::xs,i,a,h=>by
  have h1:=h x (by simp)
  have h2:=GL k xs (i+1) (upd k i a x) fun y hy=>h y (by simp[hy])
  simp only[Dc,IS]
  unfold upd at h2 ⊢
  split at h2
  ·rename_i e;rw[if_pos e];simp only at h2;omega
  ·rename_i e;rw[if_neg e];omega
theorem Iw(tr:List pf)(k:Int)(hn:tr.length≤90)(hb:∀x∈tr,0≤x.vu∧x.vu≤10) :
  loopN (fun rec49 x=>Cn 30000 tr k rec49 x.1 x.2.1 x.2.2.1 x.2.2.2) 30000 (0,0,0,0)=some (Dc k 0 (0,0,0) tr):=by
 have h:=Aq (ι:=Nat) (b:=fun rec49 x=>Cn 30000 tr k rec49 x.1 x.2.1 x.2.2.1 x.2.2.2)
  (fun i=>((Dc k 0 (0,0,0) (tr.take i)).1,(Dc k 0 (0,0,0) (tr.take i)).2.1,(Dc k 0 (0,0,0) (tr.take i)).2.2,(i:Int)))
  (fun i=>some (Dc k 0 (0,0,0) tr)) (fun i=>tr.length-i) (fun i=>i≤tr.length) ?_ 30000 0 (ye _) (by omega)
 ·exact h
 ·intro i rec hi ih
  simp only at hi ih ⊢
  unfold Cn
  by_cases hlt:i<tr.length
  ·have hx:tr[i]? = some tr[i]:=by simp[hlt]
   rw[if_pos (by simpa using hlt),ij hx]
   simp only[Hj]
   have h3:=GL k (tr.take i) 0 (0,0,0) fun x hx=>hb x (JA hx)
   have hl:((tr.take i).length:Int)≤90:=by simp;omega
   have hc:=hb tr[i] (Be hlt)
   have:=ih (i+1) (by omega) (by omega)
   rw[EB hlt,D1]at this
   simp only at h3
   rw[bE (n:=(i:Int)+1) (by omega) (by omega)]
   by_cases hf:tr[i].dI=k
   ·rw[H3 hf]at this
    simp only[hf,decide_true,if_true,Hj]
    rw[bE (by omega) (by omega),bE (by omega) (by omega)]
    rw[show((i:Int)+1)=((i+1:Nat):Int) by omega]
    rw[← this]
    simp only[JC,Nat.zero_add]
    rw[Bm hi]
   ·rw[upd_ne hf]at this
    simp only[hf,decide_false,IE,if_false,Hj]
    rw[show((i:Int)+1)=((i+1:Nat):Int) by omega]
    exact this
  ·have:i=tr.length:=by omega
   subst this
   rw[if_neg (by simp),A4]
theorem Jh{l:bW}{a:A}(hA:AInv l a):∀x∈a.tr,0≤x.vu∧x.vu≤10:=by
 intro x hx
 have:x.vu∈a.cs:=by rw[← hA.trc];exact List.mem_map_of_mem hx
 exact hA.bd _ this
theorem IV{l:bW}{a:A}(hA:AInv l a){i:Nat}(hi:i<a.cs.length):∃x,a.tr[i]? = some x∧x.vu=a.cs[i]:=by
 have hl:i<a.tr.length:=by rw[hA.trl];exact hi
 refine⟨a.tr[i],by simp[hl],?_⟩
 have:(a.tr.map (·.vu))[i]? = a.cs[i]?:=by rw[hA.trc]
 simp[hl,hi]at this
 exact this
theorem Ji{l:bW}{a:A}(hA:AInv l a)(hn:a.cs.length≤90)(own:Int)(h0:0≤own)(h1:own≤900)(p1 p2:Nat)(hp:1≤p1)(h2:p1+p2≤a.cs.length)(h3:p2≤2) :
  loopN (fun rec51 x=>Co 30000 a.tr ((p1:Int)-1) (p2:Int) rec51 x.1 x.2) 30000 (own,(p1:Int))=some (own+sm ((a.cs.take (p1+p2)).drop p1)):=by
 have h:=Aq (ι:=Nat) (b:=fun rec51 x=>Co 30000 a.tr ((p1:Int)-1) (p2:Int) rec51 x.1 x.2)
  (fun j=>(own+sm ((a.cs.take (p1+j)).drop p1),((p1+j:Nat):Int))) (fun j=>some (own+sm ((a.cs.take (p1+p2)).drop p1))) (fun j=>p2-j) (fun j=>j≤p2) ?_ 30000 0 (ye _) (by omega)
 ·have e:(a.cs.take (p1+0)).drop p1=[]:=AW (by simp;omega)
  simp only[e,sm]at h
  simpa using h
 ·intro j rec hj ih
  simp only at hj ih ⊢
  unfold Co
  rw[bE (n:=(p1:Int)-1+(p2:Int)) (by omega) (by omega)]
  by_cases hlt:j<p2
  ·obtain⟨x,hx,hxc⟩:=IV hA (i:=p1+j) (by omega)
   rw[if_pos (by simp;omega),ij hx]
   simp only[Hj]
   have hs:=Fo hA hn (p1+j) p1
   have hb:=hA.bd _ (Be (l:=a.cs) (n:=p1+j) (by omega))
   rw[hxc,bE (by omega) (by omega),bE (by omega) (by omega)]
   have:=ih (j+1) (by omega) (by omega)
   rw[show p1+(j+1)=p1+j+1 by omega,EB (show p1+j<a.cs.length by omega),DG (by simp;omega),Dm]at this
   rw[show(((p1+j:Nat):Int)+1)=((p1+j+1:Nat):Int) by omega,← this]
   simp[sm,Int.add_assoc]
  ·have:j=p2:=by omega
   subst this
   rw[if_neg (by simp;omega)]
theorem Iy(l:bW)(hV:V l)(k:Nat)(own balls:Int) :
  (Ha (Ha (if decide ((k:Int)<w64 (l.bv-1))=true then if decide (own=l.gV)=true then some (decide (balls=1))else some false else some false) fun v1128=>if v1128=true then some (2:Int)else some 0) fun v1127 =>
   Ha (Ha (if decide ((k:Int)<w64 (l.bv-1))=true then if decide (own=l.gV)=true then some (decide (balls=2))else some false else some false) fun v1131=>if v1131=true then some (1:Int)else some v1127) fun v1130=>some v1130)=some (more l k own balls):=by
 have:=hV.f1;have:=hV.f2
 rw[bE (by omega) (by omega)]
 unfold more
 by_cases h1:(k:Int)<l.bv-1<;>by_cases h2:own=l.gV<;>by_cases h3:balls=1<;>by_cases h4:balls=2<;>simp[h1,h2,h3,h4]<;>omega
theorem Et{cs:List Int}{x y z:Nat}(h1:x≤y)(h2:y≤z)(h3:z≤cs.length):sm ((cs.take y).drop x)+sm ((cs.take z).drop y)=sm ((cs.take z).drop x):=by
 rw[← Dm]
 congr 1
 have e:cs.take z=cs.take y++(cs.take z).drop y:=by
  have:cs.take y=(cs.take z).take y:=by rw[List.take_take,Bm h2]
  rw[this,BL]
 conv=>rhs;rw[e]
 rw[List.drop_append_of_le_length (by simp;omega)]
theorem Hh{l:bW}(hV:V l){a:A}(hA:AInv l a)(hn:a.cs.length≤90) :
  loopN (fun rec43 x=>Cp 30000 l a.s.stand a.tr rec43 x.1 x.2.1 x.2.2) 30000 (0,0,[])=some (ctsA a):=by
 have hfE:=hA.fE
 have hE:a.E.length≤10:=by have:=hA.inv.f1;have:=hV.f2;omega
 have h:=Aq (ι:=Nat×List Int) (b:=fun rec43 x=>Cp 30000 l a.s.stand a.tr rec43 x.1 x.2.1 x.2.2)
  (fun i=>(Bg i.2,(i.1:Int),i.2))
  (fun i=>some (i.2++cts a.cs (Ar a.E i.1) (Bg i.2) (a.E.drop i.1))) (fun i=>a.E.length-i.1)
  (fun i=>i.1≤a.E.length∧i.2.length=i.1∧0≤Bg i.2∧Bg i.2≤900*i.1) ?_ 30000 (0,[]) ⟨ye _,rfl,by simp[Bg],by simp[Bg]⟩ (by simp;omega)
 ·simpa [DU,Bg,ctsA]using h
 ·rintro⟨k,o⟩ rec ⟨h1,h2,h3,h4⟩ ih
  simp only at h1 h2 h3 h4 ih ⊢
  unfold Cp
  have ef:a.s.stand.dI=(a.E.length:Int):=hfE.symm
  rw[ef]
  by_cases hlt:k<a.E.length
  ·have hp:a.E[k]? = some a.E[k]:=by simp[hlt]
   generalize hpp:a.E[k]=pp at hp
   obtain⟨p1,p2⟩:=pp
   have hent:=hA.ent _ (Jm hp)
   simp only at hent
   obtain⟨own,balls,r1,r2,r3,r4,r5⟩:=hA.sc k _ hp
   simp only at r1 r2 r4
   rw[if_pos (by simpa using hlt),Iw a.tr k (by rw[hA.trl];exact hn) (Jh hA),r1]
   simp only[Hj]
   have hm:=Iy l hV k own balls
   obtain⟨v1127,q1,q2⟩:=obind hm
   obtain⟨v1130,q3,q4⟩:=obind q2
   cases q4
   rw[q1]
   simp only[Hj]
   rw[q3]
   simp only[Hj,r3]
   rw[bE (n:=(p1:Int)-1+(p2:Int)) (by omega) (by omega),bE (n:=(p1:Int)-1+1) (by omega) (by omega),hA.trl,zp hlt,hpp]
   unfold cts
   simp only
   have hs1:=Fo hA hn p1 (Ar a.E k)
   by_cases hset:a.cs.length<p1+p2
   ·rw[if_pos (by simp;omega),if_pos hset];simp
   ·rw[if_neg (by simp;omega),if_neg hset,show((p1:Int)-1+1)=(p1:Int) by omega,Ji hA hn own (by omega) (by omega) p1 p2 hent.1 (by omega) hent.2.2]
    simp only[Hj]
    have hs:=Fo hA hn (p1+p2) (Ar a.E k)
    rw[r2,Et (by omega) (by omega) (by omega),bE (by omega) (by omega),nL (by simp;omega)]
    simp only[Hj]
    unfold CJ
    rw[bE (by omega) (by omega)]
    generalize hv:sm ((a.cs.take (p1+p2)).drop (Ar a.E k))=v at hs ⊢
    have hlast:Bg (o++[Bg o+v])=Bg o+v:=by simp[Bg]
    have:=ih (k+1,o++[Bg o+v]) ⟨by simp only;omega,by simp[h2],by simp only[hlast];omega,by simp only[hlast];omega⟩ (by simp only;omega)
    simp only[DT hp,hlast]at this
    rw[show((k:Int)+1)=((k+1:Nat):Int) by omega,this]
    simp
  ·have:k=a.E.length:=by omega
   subst this
   rw[if_neg (by simp),Ci]
   unfold CH cts
   simp
section
variable {l:bW}(hV:V l){sheet:List Int}(hk:Ok l (s0 l) sheet)(hn:sheet.length≤90)
include hV hk hn
theorem FE:Ct 30000 l sheet=some ((acc l sheet).s.stand,(acc l sheet).tr):=by
 rw[play_ok hV hn hk,acc_s,IT]
theorem rcounts_eq:C0 30000 l sheet=some (ctsA (acc l sheet)):=by
 unfold C0
 rw[FE hV hk hn]
 exact Hh hV (ainv hV hk) (by rw[acc_len];exact hn)
end
end Go.Proofs.YtdodahpkpeodfaaGreatDoor.F
namespace Go.Proofs.YtdodahpkpeodfaaGreatDoor.F
open Go.Kp
def Ey (s:S)(G:List (List Int))(b:Int):List (List Int) :=
 let G1:=if s.f=(G.length:Int)then G++[[]] else G
 G1.set s.f.toNat ((G1[s.f.toNat]?.getD [])++[b])
def grp (l:bW):S→List (List Int)→List Int→List (List Int)
 | _,G,[]=>G
 | s,G,b::bs=>grp l (nxt l s b) (Ey s G b) bs
theorem FF(l:bW):∀(bs:List Int) (s:S) (G:List (List Int)) (b:Int),grp l s G (bs++[b])=Ey (run l s bs) (grp l s G bs) b
 | [],_,_,_=>rfl
 | x::xs,s,G,b=>FF l xs (nxt l s x) (Ey s G x) b
def grA (l:bW)(bs:List Int):List (List Int):=grp l (s0 l) [] bs
structure GInv(s:S)(G:List (List Int))(bs:List Int):Prop where
 len:(G.length:Int)=s.f+if s.h=0 then 0 else 1
 flat:G.flatten=bs
theorem IW{G:List (List Int)}{r:List Int}(h:r∈G):r.length≤G.flatten.length:=by
 induction G with
 | nil=>simp at h
 | cons x G ih =>
  rcases List.mem_cons.1 h with rfl | h
  ·simp
  ·have:=ih h;simp only[List.flatten_cons,Js];omega
theorem H6{s:S}{G:List (List Int)}{b:Int}(h:(G.length:Int)=s.f):Ey s G b=G++[[b]]:=by
 unfold Ey
 have:s.f.toNat=G.length:=by omega
 rw[if_pos h.symm,this]
 simp
theorem H7{s:S}{G I:List (List Int)}{r:List Int}{b:Int}(hG:G=I++[r])(h:(I.length:Int)=s.f):Ey s G b=I++[r++[b]]:=by
 subst hG
 unfold Ey
 have:s.f.toNat=I.length:=by omega
 rw[if_neg (by simp;omega),this]
 simp
theorem Hi{l:bW}(hV:V l){s:S}(hi:Inv l s){G:List (List Int)}{bs:List Int}(hg:GInv s G bs){b:Int}(hm:may l s b):GInv (nxt l s b) (Ey s G b) (bs++[b]):=by
 have hc:=DS hV hi hm.2.2
 obtain⟨hF1,hF2,_⟩:=Fm hV hi hm.1 hc.1 hc.2
 have hh0:=hi.h0
 have hlen:(Ey s G b).length=s.f+1∧(Ey s G b).flatten=G.flatten++[b]:=by
  by_cases h:s.h=0
  ·have hl:=hg.len
   rw[if_pos h]at hl
   rw[H6 (by omega)]
   simp;omega
  ·have hl:=hg.len
   rw[if_neg h]at hl
   have hne:G≠[]:=by intro e;rw[e]at hl;have:=hi.f0;simp at hl;omega
   have hd:=(List.dropLast_concat_getLast hne).symm
   have hpos:1≤G.length:=by have:=hi.f0;omega
   rw[H7 hd (by rw[List.length_dropLast];omega)]
   refine⟨by simp only[Js,List.length_dropLast,List.length_singleton];omega,?_⟩
   conv=>rhs;rw[hd]
   simp
 refine⟨?_,by rw[hlen.2,hg.flat]⟩
 rw[hlen.1]
 unfold nxt
 by_cases hcl:s.f<(CC l s (cnt l s b)).f
 ·obtain⟨q1,q2,_⟩:=hF1 hcl
  rw[q1,q2];simp
 ·obtain⟨q1,q2,_⟩:=hF2 hcl
  rw[q1,q2,if_neg (by omega)]
theorem E7{l:bW}(hV:V l):∀(ys:List Int) {s:S} {G:List (List Int)} {bs:List Int},Inv l s→GInv s G bs→Ok l s ys→GInv (run l s ys) (grp l s G ys) (bs++ys)
 | [],s,G,bs,_,hg,_=>by simpa [run,grp]using hg
 | y::ys,s,G,bs,hi,hg,hk=>by
  have h1:=E7 hV ys (D0 hV hi hk.1.1 hk.1.2.2) (Hi hV hi hg hk.1) hk.2
  simpa [run,grp]using h1
theorem Jj{l:bW}(hV:V l){bs:List Int}(hk:Ok l (s0 l) bs):GInv (acc l bs).s (grA l bs) bs:=by
 have h:=E7 hV bs (inv0 hV) (G:=[]) (bs:=[]) ⟨by simp[s0],rfl⟩ hk
 rw[acc_s]
 simpa [grA]using h
theorem H8{l:bW}{sheet:List Int}{i:Nat}{x:Int}(hx:sheet[i]? = some x):grA l (sheet.take (i+1))=Ey (acc l (sheet.take i)).s (grA l (sheet.take i)) x:=by
 have hlt:=(List.getElem?_eq_some_iff.1 hx).1
 rw[EB hlt,grA,FF,acc_s,(List.getElem?_eq_some_iff.1 hx).2]
 rfl
theorem GN{α:Type}{L:List α}{x:α}(h:L.length≤900):app 30000 L [x]=some (L++[x]):=nL (by simp;omega)
section
variable {l:bW}(hV:V l){sheet:List Int}(hk:Ok l (s0 l) sheet)(hn:sheet.length≤90)
include hV hk hn
theorem Iz{i:Nat}{x:Int}(hx:sheet[i]? = some x) :
  ∃G1 r,(if(acc l (sheet.take i)).s.f=((grA l (sheet.take i)).length:Int)then grA l (sheet.take i)++[[]] else grA l (sheet.take i))=G1∧idx G1 (acc l (sheet.take i)).s.f=some r∧r.length≤90 ∧
   G1.set (xY (acc l (sheet.take i)).s.f) (r++[x])=grA l (sheet.take (i+1)):=by
 have hi:=(ainv hV (Eb hk i)).inv
 have hg:=Jj hV (Eb hk i)
 have hlt:=(List.getElem?_eq_some_iff.1 hx).1
 have hfl:(grA l (sheet.take i)).flatten.length≤90:=by rw[hg.flat];simp;omega
 rw[H8 hx]
 unfold Ey
 refine⟨_,((if(acc l (sheet.take i)).s.f=((grA l (sheet.take i)).length:Int)then grA l (sheet.take i)++[[]] else grA l (sheet.take i))[(acc l (sheet.take i)).s.f.toNat]?.getD []),rfl,?_,?_,rfl⟩
 ·have hf0:=hi.f0
  have hl:=hg.len
  have hb:(acc l (sheet.take i)).s.f.toNat<(if(acc l (sheet.take i)).s.f=((grA l (sheet.take i)).length:Int)then grA l (sheet.take i)++[[]] else grA l (sheet.take i)).length:=by
   split
   ·simp;omega
   ·rename_i hne
    split at hl<;>omega
  unfold idx
  rw[if_pos hf0]
  simp[hb]
 ·have key:∀(G:List (List Int)) (n:Nat),G.flatten.length≤90→(G[n]?.getD []).length≤90:=by
   intro G n hG
   cases h:G[n]? with
   | none=>simp
   | some r=>have:=IW (Jm h);simp;omega
  refine key _ _ ?_
  split
  ·simp;simpa using hfl
  ·exact hfl
theorem Gk{i:Nat}:(grA l (sheet.take i)).length≤11:=by
 have hA:=ainv hV (Eb hk i)
 have hg:=(Jj hV (Eb hk i)).len
 have:=hA.inv.f1
 have:=hV.f2
 split at hg<;>omega
theorem FG:loopN (fun rec3 x=>eC 30000 sheet rec3 x.1 x.2.1 x.2.2.1 x.2.2.2) 30000 ((sheet.length:Int),0,(s0 l).play l,[])=some (grA l sheet):=by
 have h:=Aq (ι:=Nat) (b:=fun rec3 x=>eC 30000 sheet rec3 x.1 x.2.1 x.2.2.1 x.2.2.2)
  (fun i=>((sheet.length:Int),(i:Int),(acc l (sheet.take i)).s.play l,grA l (sheet.take i)))
  (fun i=>some (grA l sheet)) (fun i=>sheet.length-i) (fun i=>i≤sheet.length) ?_ 30000 0 (ye _) (by omega)
 ·exact h
 ·intro i rec hi ih
  simp only at hi ih ⊢
  unfold eC
  by_cases hlt:i<sheet.length
  ·obtain⟨x,hx,hm,ha⟩:=IU hk hlt
   have hI:=(ainv hV (Eb hk i)).inv
   obtain⟨G1,r,r1,r2,r3,r4⟩:=Iz hV hk hn hx
   have hfl:=Gk hV hk hn (i:=i)
   rw[if_pos (by simpa using hlt),ij hx]
   simp -implicitDefEqProofs only[Hj,Al hI,hm,decide_true,yo,IE,if_false]
   rw[B9 hV hI hm.1 hm.2.2]
   simp -implicitDefEqProofs only[Hj]
   have ep:((acc l (sheet.take i)).s.play l).fAt.dI=(acc l (sheet.take i)).s.f:=rfl
   simp only[ep]
   have e1:(if decide ((acc l (sheet.take i)).s.f=((grA l (sheet.take i)).length:Int))=true then Ha (app 30000 (grA l (sheet.take i)) [[]]) fun l168=>some l168 else some (grA l (sheet.take i)))=some G1:=by
    rw[← r1]
    by_cases h:(acc l (sheet.take i)).s.f=((grA l (sheet.take i)).length:Int)
    ·rw[if_pos (by simpa using h),if_pos h,GN (by omega)];rfl
    ·rw[if_neg (by simpa using h),if_neg h]
   rw[e1]
   simp -implicitDefEqProofs only[Hj]
   rw[r2]
   simp -implicitDefEqProofs only[Hj]
   rw[GN (by omega)]
   simp -implicitDefEqProofs only[Hj]
   rw[r4,bE (by omega) (by omega)]
   have:=ih (i+1) (by omega) (by omega)
   rw[ha]at this
   rw[show((i:Int)+1)=((i+1:Nat):Int) by omega]
   exact this
  ·have:i=sheet.length:=by omega
   subst this
   rw[if_neg (by simp),A4]
end
def gameA(l:bW)(sheet:List Int):q7:=⟨grA l sheet,ctsA (acc l sheet),if(acc l sheet).s.f=l.bv then 0 else(acc l sheet).s.p,decide ((acc l sheet).s.f=l.bv)⟩
theorem read_eq(l:bW)(sheet:List Int)(hn:sheet.length≤45):gm 30000 (fl l) sheet=some (if flt l sheet=0 then gameA l sheet else⟨[],[],0,false⟩,flt l sheet):=by
 unfold gm
 rw[vA l sheet hn]
 simp -implicitDefEqProofs only[Hj]
 by_cases h0:flt l sheet=0
 ·obtain⟨hV,_,hk⟩:=flt_ok.1 h0
  rw[if_neg (by simp[h0]),if_pos h0,h0,Hg hV hk (by omega),BB hV hk (by omega)]
  unfold cS bL
  simp -implicitDefEqProofs only[Hj]
  have e:(ii.mk (fl l) (qZ.mk 0 0 (fl l).gV true (fl l).ar (Ar2.mk 0 0)))=(s0 l).play l:=rfl
  rw[e,FG hV hk (by omega)]
  simp -implicitDefEqProofs only[Hj,Iv]
  unfold gameA
  by_cases hd:(acc l sheet).s.f=l.bv
  ·simp[hd]
  ·simp[hd];rfl
 ·rw[if_pos (by simp[h0]),if_neg h0]
theorem cts_len(cs:List Int):∀(E:List (Nat×Nat)) (fr:Nat) (up:Int),(cts cs fr up E).length≤E.length
 | [],_,_=>by simp[cts]
 | p::E,fr,up=>by
  unfold cts
  split
  ·simp
  ·have:=cts_len cs E p.1 (up+sm ((cs.take (p.1+p.2)).drop fr));simp;omega
end Go.Proofs.YtdodahpkpeodfaaGreatDoor.F
namespace Go.Proofs.YtdodahpkpeodfaaGreatDoor.F
open Go.Kp
theorem len_fold{l:bW}(hV:V l):∀(bs:List Int) {s:S} {n:Nat},Inv l s→Ok l s bs→(n:Int)≤3*s.f+s.h→((n+bs.length:Nat):Int)≤3*(run l s bs).f+(run l s bs).h
 | [],s,n,_,_,h=>by simpa [run]using h
 | b::bs,s,n,hi,hk,h=>by
  have hc:=DS hV hi hk.1.2.2
  obtain⟨hF1,hF2,_⟩:=Fm hV hi hk.1.1 hc.1 hc.2
  have hh:s.h≤2:=by have:=hi.hn;have:=hi.nd;have:=hV.b2;omega
  have h1:((n+1:Nat):Int)≤3*(nxt l s b).f+(nxt l s b).h:=by
   unfold nxt
   by_cases hcl:s.f<(CC l s (cnt l s b)).f
   ·obtain⟨q1,q2,_⟩:=hF1 hcl;omega
   ·obtain⟨q1,q2,_⟩:=hF2 hcl;omega
  have h2:=len_fold hV bs (D0 hV hi hk.1.1 hk.1.2.2) hk.2 h1
  simp only[run,IS]
  omega
theorem ok_len{l:bW}(hV:V l){bs:List Int}(hk:Ok l (s0 l) bs):bs.length≤30:=by
 have h:=len_fold hV bs (n:=0) (inv0 hV) hk (by simp[s0])
 have hi:=GI hV (inv0 hV) hk
 have:=hi.f1;have:=hi.dn;have:=hV.f2;have:=hi.hn;have:=hi.nd;have:=hV.b2
 by_cases hd:(run l (s0 l) bs).f=l.bv
 ·have:=hi.dn hd;omega
 ·omega
def incr:Nat→List (Nat×Nat)→Prop
 | _,[]=>True
 | a,p::E=>a<p.1∧incr p.1 E
theorem IA{l:bW}{a:A}(hA:AInv l a):∀(n k:Nat),k+n=a.E.length→incr (Ar a.E k) (a.E.drop k):=by
 intro n
 induction n with
 | zero=>intro k h;rw[AW (by omega)];trivial
 | succ n ih =>
  intro k h
  have hlt:k<a.E.length:=by omega
  have hp:a.E[k]? = some a.E[k]:=by simp[hlt]
  obtain⟨_,_,_,_,_,h4,_⟩:=hA.sc k _ hp
  rw[zp hlt]
  refine⟨h4,?_⟩
  have:=ih (k+1) (by omega)
  rwa[DT hp]at this
theorem incr_A{l:bW}{a:A}(hA:AInv l a):incr 0 a.E:=by
 have:=IA hA a.E.length 0 (by omega)
 rwa[DU,Em]at this
theorem FI{cs:List Int}:∀{E:List (Nat×Nat)} {fr:Nat} {up:Int},(∀p∈E,¬cs.length<p.1+p.2)→(cts cs fr up E).length=E.length
 | [],_,_,_=>rfl
 | p::E,fr,up,h=>by
  unfold cts
  rw[if_neg (h p (by simp)),IS,IS,FI fun q hq=>h q (by simp[hq])]
def EN (up:Int)(o:List Int):Int:=match o.getLast? with | some x=>x | none=>up
theorem Gl(up x:Int)(o:List Int):EN up (x::o)=EN x o:=by
 cases o with
 | nil=>rfl
 | cons y o=>simp[EN,List.getLast?_cons_cons,List.getLast?_cons]
def D4 (fr:Nat)(E:List (Nat×Nat)):Nat:=match E.getLast? with | some p=>p.1 | none=>fr
theorem Ec(fr:Nat)(p:Nat×Nat)(E:List (Nat×Nat)):D4 fr (p::E)=D4 p.1 E:=by
 cases E with
 | nil=>rfl
 | cons q E=>simp[D4,List.getLast?_cons_cons,List.getLast?_cons]
theorem FJ:∀{E:List (Nat×Nat)} {fr:Nat},incr fr E→fr≤D4 fr E
 | [],_,_=>H9 _
 | p::E,fr,h=>by rw[Ec];have:=FJ h.2;have:=h.1;omega
theorem FK:∀{E:List (Nat×Nat)} {fr n:Nat},(∀p∈E,p.1≤n)→fr≤n→D4 fr E≤n
 | [],_,_,_,h=>h
 | p::E,fr,n,h,_=>by rw[Ec];exact FK (fun q hq=>h q (by simp[hq])) (h p (by simp))
theorem FL{cs:List Int}:∀{E:List (Nat×Nat)} {fr:Nat} {up:Int},incr fr E→(∀p∈E,p.1≤cs.length∧¬cs.length<p.1+p.2) →
  EN up (cts cs fr up E)=up+sm ((cs.take (D4 fr E)).drop fr)+sm (E.map (EV cs))
 | [],fr,up,_,_=>by
  have:(cs.take fr).drop fr=[]:=AW (by simp;omega)
  simp[cts,EN,D4,this,sm]
 | p::E,fr,up,hi,hb=>by
  have h1:=hb p (by simp)
  unfold cts
  rw[if_neg h1.2,Gl,FL hi.2 fun q hq=>hb q (by simp[hq]),Ec]
  have e1:=Et (cs:=cs) (x:=fr) (y:=p.1) (z:=p.1+p.2) (by have:=hi.1;omega) (by omega) (by omega)
  have e2:=Et (cs:=cs) (x:=fr) (y:=p.1) (z:=D4 p.1 E) (by have:=hi.1;omega) (FJ hi.2) (FK (fun q hq=>(hb q (by simp[hq])).1) h1.1)
  simp only[xZ,sm]
  unfold EV
  omega
section
variable {l:bW}(hV:V l)
include hV
theorem FM{xs:List Int}(hk:Ok l (s0 l) xs)(hd:(acc l xs).s.f=l.bv):∀p∈(acc l xs).E,¬(acc l xs).cs.length<p.1+p.2:=by
 have hA:=ainv hV hk
 have h1:=(hA.l3 hd).1
 rw[hA.one]at h1
 have h2:(acc l xs).E.countP (fun p=>decide ((acc l xs).cs.length<p.1+p.2))=0:=by omega
 intro p hp
 have:=List.countP_eq_zero.1 h2 p hp
 simpa using this
theorem done_len{xs:List Int}(hk:Ok l (s0 l) xs)(hd:(acc l xs).s.f=l.bv):((ctsA (acc l xs)).length:Int)=l.bv:=by
 have hA:=ainv hV hk
 unfold ctsA
 rw[FI (FM hV hk hd),hA.fE,hd]
theorem done_last{xs:List Int}(hk:Ok l (s0 l) xs)(hd:(acc l xs).s.f=l.bv):idx (ctsA (acc l xs)) (l.bv-1)=some (acc l xs).tot:=by
 have hA:=ainv hV hk
 have hf1:=hV.f1
 have hlen:=done_len hV hk hd
 have hl:=FL (cs:=(acc l xs).cs) (up:=0) (incr_A hA) fun p hp=>⟨(hA.ent p hp).2.1,FM hV hk hd p hp⟩
 have hh:=hA.inv.dn hd
 have hlF:D4 0 (acc l xs).E=(acc l xs).cs.length:=by
  have h1:=hA.len
  have:D4 0 (acc l xs).E=C2 (acc l xs).E:=rfl
  omega
 rw[hlF,A4,Em]at hl
 have hne:ctsA (acc l xs)≠[]:=by intro e;rw[e]at hlen;simp at hlen;omega
 have e:idx (ctsA (acc l xs)) (l.bv-1)=some (EN 0 (ctsA (acc l xs))):=by
  unfold EN
  rw[xR,show l.bv-1=(((ctsA (acc l xs)).length-1:Nat):Int) by omega]
  have hlt:(ctsA (acc l xs)).length-1<(ctsA (acc l xs)).length:=by omega
  have hx:(ctsA (acc l xs))[(ctsA (acc l xs)).length-1]? = some (ctsA (acc l xs))[(ctsA (acc l xs)).length-1]:=by simp[hlt]
  rw[ij hx,hx]
 rw[e]
 unfold ctsA
 rw[hl,hA.tot]
 simp
end
end Go.Proofs.YtdodahpkpeodfaaGreatDoor.F
namespace Go.Proofs.YtdodahpkpeodfaaGreatDoor.F
open Go.Kp
def Jk (l:bW):S→List Int→Int
 | _,[]=>0
 | s,b::bs=>wor l s b+Jk l (nxt l s b) bs
structure Ext(l:bW)(s:S)(bs:List Int)(k:Int):Prop where
 ok:Ok l s bs
 dn:(run l s bs).f=l.bv
 nn:∀b∈bs,0≤b
 w:Jk l s bs=k
theorem rfinal_eq{l:bW}(hV:V l){sheet:List Int}(hk:Ok l (s0 l) sheet)(hn:sheet.length≤90)(hd:(acc l sheet).s.f=l.bv):Cq 30000 l sheet=some (acc l sheet).tot:=by
 have hA:=ainv hV hk
 have:=hV.f1;have:=hV.f2
 unfold Cq
 rw[FE hV hk hn]
 simp -implicitDefEqProofs only[Hj]
 have e:(acc l sheet).s.stand.dI=l.bv:=hd
 have e2:(acc l sheet).tr.length=sheet.length:=by rw[hA.trl,acc_len]
 rw[e,e2,if_neg (by simp)]
 simp -implicitDefEqProofs only[Hj]
 rw[if_neg (by simp),rcounts_eq hV hk hn]
 simp -implicitDefEqProofs only[Hj]
 rw[bE (by omega) (by omega),done_last hV hk hd]
 rfl
end Go.Proofs.YtdodahpkpeodfaaGreatDoor.F
namespace Go.Proofs.YtdodahpkpeodfaaGreatDoor
open Go.Kp
theorem v0:F.V L0:=by decide
theorem fl0:F.fl L0=zk:=rfl
theorem GE(l:List Int):fit l=true↔F.Ok L0 (F.s0 L0) l:=by unfold fit;rw[decide_eq_true_eq]
theorem Ic{cs:List Int}(hb:∀x∈cs,0≤x∧x≤10):∀(E:List (Nat×Nat)) (fr:Nat) (up:Int) (k:Nat),F.incr fr E→(∀p∈E,p.1≤cs.length∧p.2≤2)→0≤up→up≤10*((fr:Int)+2*k)→∀c∈F.cts cs fr up E,0≤c∧c≤10*((cs.length:Int)+2*(k+E.length))
 | [],_,_,_,_,_,_,_,c,h=>by cases h
 | p::E,fr,up,k,hi,hE,h0,h1,c,h=>by
  unfold F.cts at h
  have hp:=hE p (zV ..)
  have hi1:=hi.1
  split at h
  ·cases h
  ·have hs:=F.sm_bd (B:=10) (by omega) ((cs.take (p.1+p.2)).drop fr) fun z hz=>hb z (JA (By hz))
   have hlen:(((cs.take (p.1+p.2)).drop fr).length:Int)≤(p.1:Int)-fr+2:=by
    rw[AA,JC];omega
   simp only[IS]
   rcases List.mem_cons.1 h with rfl | h
   ·omega
   ·have:=Ic hb E p.1 _ (k+1) hi.2 (fun q hq=>hE q (AK _ hq)) (by omega) (by omega) c h
    omega
theorem gx:GX 30000:=by
 refine⟨fun l hl=>?_⟩
 by_cases h40:40<l.length
 ·have hc:fj 30000 zk l=some 3:=by
   unfold fj
   rw[← fl0,F.checkLaw_eq L0,if_pos v0,Hj]
   rw[if_neg (by decide),if_pos (by simp only[decide_eq_true_eq];omega)]
  refine⟨q7.mk [] [] 0 false,3,?_,?_,by simp,by simp,by simp⟩
  ·unfold gm
   rw[hc];rfl
  ·have:¬fit l=true:=fun e=>by have:=F.ok_len v0 ((GE l).1 e);omega
   rw[BI]at this
   rw[this];rfl
 ·have hr:=F.read_eq L0 l (by omega)
  rw[fl0]at hr
  have hfl:F.flt L0 l=0↔fit l=true:=by
   rw[GE,F.flt_ok]
   exact⟨fun h=>h.2.2,fun h=>⟨v0,by omega,h⟩⟩
  refine⟨_,_,hr,?_,?_⟩
  ·rw[Bu,decide_eq_true_eq];exact hfl
  ·by_cases h0:F.flt L0 l=0
   ·rw[if_pos h0]
    have hk:=(F.flt_ok.1 h0).2.2
    have hA:=F.ainv v0 hk
    have e2:(F.gameA L0 l).vg=F.ctsA (F.acc L0 l):=rfl
    have h30:=F.ok_len v0 hk
    have h1:(F.ctsA (F.acc L0 l)).length≤(F.acc L0 l).E.length:=F.cts_len _ _ _ _
    have h2:=hA.fE
    have h3:=hA.inv.f1
    have h4:(L0.bv:Int)=3:=rfl
    refine⟨by rw[e2];omega,fun hd=>?_,fun c hc=>?_⟩
    ·have hd:(F.acc L0 l).s.f=L0.bv:=by
      have:decide ((F.acc L0 l).s.f=L0.bv)=true:=hd
      simpa using this
     have:=F.done_len v0 hk hd
     rw[e2]
     intro e
     rw[e]at this
     simp at this
    ·have hl:=F.len_fold v0 l (n:=0) (F.inv0 v0) hk (by simp[F.s0])
     rw[← F.acc_s]at hl
     have hdn:=hA.inv.dn
     have hhn:=hA.inv.hn
     have hnd:=hA.inv.nd
     have h5:(L0.ar:Int)=2:=rfl
     have hcl:=F.acc_len L0 l
     have:=Ic hA.bd (F.acc L0 l).E 0 0 0 (F.incr_A hA) (fun p hp=>(hA.ent p hp).2) (zD _) (zD _) c (List.mem_of_getLast? hc)
     omega
   ·rw[if_neg h0]
    exact⟨by simp,by simp,by simp⟩
theorem fx:FX 30000:=by
 refine⟨fun l hl=>?_,fun l hf=>?_⟩
 ·rw[F.is_eq v0 l (by omega)]
  rfl
 ·have hk:=(GE l).1 hf
  have h40:=F.ok_len v0 hk
  have h0:F.flt L0 l=0:=F.flt_ok.2 ⟨v0,by omega,hk⟩
  have hr:=F.read_eq L0 l (by omega)
  rw[if_pos h0,h0,fl0]at hr
  have hA:=F.ainv v0 hk
  have hf1:=hA.inv.f1
  unfold fin
  rw[hr]
  by_cases hd:(F.acc L0 l).s.f=L0.bv
  ·rw[F.rfinal_eq v0 hk (by omega) hd]
   have h1:=F.done_len v0 hk hd
   have h2:=F.done_last v0 hk hd
   have e1:(F.gameA L0 l).xk=true:=by show decide _=true;rw[decide_eq_true hd]
   have e2:(F.gameA L0 l).vg=F.ctsA (F.acc L0 l):=rfl
   simp only[e1,e2,if_true]
   have h3:(F.ctsA (F.acc L0 l)).length=3:=by
    have:(L0.bv:Int)=3:=rfl
    omega
   rw[xR,h3]
   have e3:(L0.bv-1:Int)=((2:Nat):Int):=rfl
   rw[e3]at h2
   unfold idx at h2
   rw[if_pos (by omega),JD]at h2
   rw[h2];rfl
  ·have e1:(F.gameA L0 l).xk=false:=by show decide _=false;rw[decide_eq_false hd]
   simp only[e1,IE,if_false]
   unfold Cq
   rw[F.play_ok v0 (by omega) hk,Hj]
   have e2:(F.run L0 (F.s0 L0) l).f<L0.bv:=by
    rw[← F.acc_s];omega
   dsimp only
   rw[if_pos (by simp only[decide_eq_true_eq];exact e2),Hj]
   rfl
end Go.Proofs.YtdodahpkpeodfaaGreatDoor
namespace Go.Proofs.YtdodahpkpeodfaaGreatDoor
open Go.Kp
variable {N:Nat}
/-! Numbers as texts, by the document. -/
theorem Kn{a b:List UInt8}(h:a.length+b.length≤N):cat N a b=some ():=by unfold cat;rw[if_pos h]
theorem MU:∀(f u:Nat),(uf f u).length≤f
 | 0,_=>by simp[uf]
 | f+1,u=>by
  unfold uf
  split
  ·simp
  ·have:=MU f (u / 10)
   simp;omega
theorem OE:∀n<10,mC [Go.IntKind.wrap .u8 (w64 (48+((n:Nat):Int)))]=[UInt8.ofNat (48+n)]:=by decide +kernel
theorem Nt(hN:20000≤N):∀(f m u:Nat),u<1000000000000000000→u<10 ^ f→1≤f→f≤20→f≤m→loopN (fun rr x=>CV N rr x) m (u:Int)=some (uf f u)
 | 0,_,_,_,_,h,_,_=>by omega
 | f+1,0,_,_,_,_,_,h=>by omega
 | f+1,m+1,u,hb,hu,_,hf,hm=>by
  show CV N (loopN (fun rr x=>CV N rr x) m) (u:Int)=_
  have hq:10≤u→loopN (fun rr x=>CV N rr x) m ((u / 10:Nat):Int)=some (uf f (u / 10))∧loopN (fun rr x=>CV N rr x) m ((u % 10:Nat):Int)=some [UInt8.ofNat (48+u % 10)]:=fun h=>by
   rw[Nat.pow_succ]at hu
   have hf1:1≤f:=by
    rcases Cd f with rfl | h2
    ·simp at hu;omega
    ·exact h2
   refine⟨Nt hN f m (u / 10) (by omega) (by omega) hf1 (by omega) (by omega),?_⟩
   obtain⟨k,rfl⟩:∃k,m=k+1:=⟨m-1,by omega⟩
   show CV N _ _=_
   unfold CV
   rw[if_neg (by simp only[decide_eq_true_eq];omega),if_pos (by simp only[decide_eq_true_eq];omega),OE (u % 10) (by omega)]
  generalize loopN (fun rr x=>CV N rr x) m=L at hq
  unfold CV uf
  rw[if_neg (by simp only[decide_eq_true_eq];omega)]
  by_cases h:u<10
  ·rw[if_pos (by simp only[decide_eq_true_eq];omega),if_pos h,OE u h]
  ·rw[if_neg (by simp only[decide_eq_true_eq];omega),if_neg h]
   have e1:Int.tdiv (u:Int) 10=((u / 10:Nat):Int):=by rw[Int.tdiv_eq_ediv_of_nonneg (by omega)];omega
   have e2:Int.tmod (u:Int) 10=((u % 10:Nat):Int):=by rw[Int.tmod_eq_emod_of_nonneg (by omega)];omega
   obtain⟨q1,q2⟩:=hq (by omega)
   rw[e1,e2,bE (by omega) (by omega),q1,Hj,q2,Hj,Kn (by have:=MU f (u / 10);simp;omega),Hj]
theorem LK(hN:20000≤N){n:Int}(h0:0≤n)(h1:n<1000000000000000000):DV N n=some (w7 n):=by
 obtain⟨u,rfl⟩:∃u:Nat,n=u:=⟨n.toNat,by omega⟩
 unfold w7
 rw[if_neg (by omega),JD]
 exact Nt hN 20 N u (by omega) (by have:(10:Nat) ^ 20=100000000000000000000:=(by decide);omega) (by omega) (by omega) (by omega)
theorem EC{n:Int}(h0:0≤n):(w7 n).length≤20:=by
 unfold w7
 rw[if_neg (by omega)]
 exact MU 20 _
def blk (l:List Int):List UInt8:=l.flatMap fun x=>32::w7 x
theorem Mt{l:List Int}(h:∀x∈l,0≤x∧x≤1000000):(blk l).length≤21*l.length:=by
 induction l with
 | nil=>simp[blk]
 | cons x l ih =>
  have h1:=EC (h x (zV ..)).1
  have h2:=ih fun y hy=>h y (AK _ hy)
  unfold blk at h2 ⊢
  simp only[List.flatMap_cons,Js,IS]
  omega
theorem Nu(hN:20000≤N)(l:List Int)(h:∀x∈l,0≤x∧x≤1000000)(hl:l.length≤60):Hu N l=some (blk l):=by
 have key:=lO (N:=N) (B:=fun rec3 x=>Gn N l rec3 x.1 x.2) l (fun i (a:List UInt8)=>(a,(i:Int)))
  (fun r a=>some (a++blk r)) (fun i a=>a.length≤21*i)
  (fun a rec _=>by
   unfold Gn
   rw[if_neg (by simp)]
   simp[blk])
  (fun i x a rec hx ha ih=>by
   have hlt:=lP hx
   have hb:=h x (Jm hx)
   have hil:=EC hb.1
   unfold Gn
   rw[if_pos (by simp only[decide_eq_true_eq];omega),ij hx,Hj,LK hN hb.1 (by omega),Hj,Kn (by simp;omega),Hj,Kn (by simp;omega),Hj,fN (by omega),ih _ (by simp;omega)]
   simp[blk])
  (by omega) [] (by simp)
 unfold Hu
 simp only[yN]at key
 rw[key]
 simp
end Go.Proofs.YtdodahpkpeodfaaGreatDoor
namespace Go.Proofs.YtdodahpkpeodfaaGreatDoor
open Go.Kp
set_option maxRecDepth 100000
theorem dN{σ R:Type}{b:(σ→WP R)→σ→WP R}{n:Nat}{x:σ}{Q:R→Prop}(h:b (aG b n) x Q):aG b (n+1) x Q:=h
theorem br{α R:Type}{x:Option α}{a:α}{k:α→WP R}{Q:R→Prop}(e:x=some a)(h:k a Q):dO x k Q:=⟨a,e,h⟩
theorem lR{α R:Type}{a:WP R}{b:α→List α→WP R}{Q:R→Prop}(h:a Q):mq [] a b Q:=⟨fun _=>h,fun pre e post hs=>by cases pre<;>cases hs⟩
theorem o7{α R:Type}{x:α}{a:WP R}{b:α→List α→WP R}{Q:R→Prop}(h:b x [] Q):mq [x] a b Q:=by
 refine⟨fun e=>(by cases e),fun pre e post hs=>?_⟩
 cases pre with
 | nil=>cases hs;exact h
 | cons y l=>cases l<;>cases hs
theorem vo{α R:Type}{x:WP α}{k:α→WP R}{Q:R→Prop}(h:x fun a=>k a Q):Go.Kp.bindW x k Q:=h
theorem WGood.bindW{α R:Type}{x:WP α}{k:α→WP R}(hx:WGood x)(h:∀a,WGood (k a)):WGood (Go.Kp.bindW x k) :=
 ⟨fun q=>hx.no (hx.mono _ _ (fun a z=>((h a).no z).elim) q),fun P Q p q=>hx.mono _ _ (fun a z=>(h a).and P Q z.1 z.2) (hx.and _ _ p q),fun P Q m p=>hx.mono _ _ (fun a z=>(h a).mono P Q m z) p⟩
theorem wZ{R:Type}{c:Prop}[Decidable c]{a b:WP R}{Q:R→Prop}(hc:¬c)(h:b Q):(if c then a else b) Q:=by rw[if_neg hc];exact h
theorem qY:gh 30000 (mP.mk (wz.mk 90 80 40 3 5) [70,60] [] [])=some ([],0):=by
 unfold gh
 refine vF ?_ ?_
 ·refine WGood.bindO fun z=>?_
  rcases z with r | ⟨_,_,_,_,_,_,_,_,_,_⟩
  ·exact .ite (.ret _) .fail
  ·refine .ite (.ret _) (WGood.loop (fun rec x hr=>?_) _ _)
   unfold bx J4
   exact .next (.bindO fun _=>.ret _) fun⟨_,_⟩ _=>.bindO fun _=>hr _
 ·unfold fp
  refine br (a:=Sum.inr (0,90,80,40,3,5,[70,60],[],[],[])) (by kernel_rfl) ?_
  dsimp only
  refine wZ (by decide) ?_
  refine dN (n:=29999) ?_
  unfold bx
  refine lR ?_
  unfold J4
  refine br (a:=[]) (by simp[sortI]) ?_
  rfl
theorem ua(N:Nat)(c1 c2 c3:Int)(c4:List ab)(c5:List bh)(m1:List (Int×ab))(l1:List (Ar2 Int)):WGood (cB N c1 c2 c3 c4 c5 m1 l1):=by
 unfold cB
 refine WGood.loop (fun rec x hr=>?_) _ _
 unfold Ej
 refine .ite (.bindO fun _=>.bindO fun _=>WGood.loop (fun rec2 y hr2=>?_) _ _) (by unfold J5;exact .ret _)
 unfold au
 refine .next (by unfold cY;exact hr _) (fun⟨_,_⟩ _=>.bindO fun _=>WGood.loop (fun rec3 z hr3=>?_) _ _)
 unfold aw
 have k3:∀a b,WGood (bi N rec3 a b):=fun a b=>by unfold bi;exact hr3 _
 have k4:∀a b c d e f,WGood (bj N a rec3 b c d e f):=fun a b c d e f=>by unfold bj;exact .ite (k3 _ _) (k3 _ _)
 have k5:∀a b c d e,WGood (Gp N a rec3 b c d e):=fun a b c d e=>by unfold Gp;exact .bindO fun⟨_,_⟩=>.ite (k4 ..) (k4 ..)
 have k6:∀a b c d e f,WGood (bn N a rec3 b c d e f):=fun a b c d e f=>by unfold bn;exact .ite (.bindO fun _=>k5 ..) (k5 ..)
 have k7:∀a b c d e f g h,WGood (bp N a b rec3 c d e f g h):=fun a b c d e f g h=>by unfold bp;exact .ite (k3 _ _) (.bindO fun _=>.ite (k6 ..) (k6 ..))
 have k8:∀a b c d e f g,WGood (aV N a b rec3 c d e f g):=fun a b c d e f g=>by unfold aV;exact .bindO fun _=>.ite (k7 ..) (k7 ..)
 have k9:∀a b c d e f g h i j,WGood (bq N a b c rec3 d e f g h i j):=fun a b c d e f g h i j=>by unfold bq;exact .ite (k8 ..) (k8 ..)
 have k10:∀a b c d e f g h i,WGood (aY N a b c rec3 d e f g h i):=fun a b c d e f g h i=>by unfold aY;exact .bindO fun⟨_,_⟩=>.ite (k9 ..) (k9 ..)
 have k11:∀a b c d e f g h i j,WGood (aZ N a b c rec3 d e f g h i j):=fun a b c d e f g h i j=>by unfold aZ;exact .ite (.bindO fun _=>k10 ..) (k10 ..)
 have k12:∀a b c d e f g h i,WGood (Fa N a b c rec3 d e f g h i):=fun a b c d e f g h i=>by unfold Fa;exact .ite (k8 ..) (.bindO fun _=>.ite (k11 ..) (k11 ..))
 exact .next (hr2 _) fun⟨_,_⟩ _=>.bindO fun _=>.bindO fun _=>.ite (k12 ..) (k12 ..)
theorem vp(N:Nat)(c1 c2 c3:Int)(c4:List ab)(c5:List bh)(m1:List (Int×ab))(l1:List (Ar2 Int)):WGood (cC N c1 c2 c3 c4 c5 m1 l1):=by
 unfold cC
 refine WGood.bindW (ua ..) fun m=>WGood.loop (fun rec x hr=>?_) _ _
 unfold aO
 have k2:∀a b,WGood (bG N a rec b):=fun a b=>by unfold bG;exact hr _
 refine .ite (.bindO fun _=>.bindO fun⟨_,_⟩=>.ite (.bindO fun _=>k2 _ _) (k2 _ _)) (by unfold cg;exact .ret _)
theorem ift{R:Type}{c:Bool}{a b:WP R}{Q:R→Prop}(hc:c=true)(h:a Q):(if c=true then a else b) Q:=by rw[if_pos hc];exact h
theorem ife{R:Type}{c:Bool}{a b:WP R}{Q:R→Prop}(hc:c=false)(h:b Q):(if c=true then a else b) Q:=by rw[if_neg (by rw[hc];decide)];exact h
def P2:bh:=bh.mk (nS.mk 0 (-1)) (nS.mk 1 (-1))
theorem w6:fq 30000 1 2 1 [] [bh.mk (nS.mk 0 (-1)) (nS.mk 1 (-1))] [] [Ar2.mk 0 1]=some [0,1]:=by
 unfold fq
 refine vF (vp ..) ?_
 unfold cC
 refine vo ?_
 unfold cB
 refine dN (n:=29999) ?_
 unfold Ej
 refine ift (by kernel_rfl) ?_
 refine br (a:=P2) (by kernel_rfl) ?_
 refine br (a:=[(0,0)]) (by kernel_rfl) ?_
 refine dN (n:=29999) ?_
 unfold au
 refine o7 ?_
 dsimp only
 refine br (a:=[(1,0)]) (by kernel_rfl) ?_
 refine dN (n:=29999) ?_
 unfold aw
 refine o7 ?_
 dsimp only
 refine br (a:=-1) (by kernel_rfl) ?_
 refine br (a:=Ar2.mk 0 1) (by kernel_rfl) ?_
 refine ife (by kernel_rfl) ?_
 unfold Fa
 refine ife (by kernel_rfl) ?_
 refine br (a:=0) (by kernel_rfl) ?_
 refine ift (by kernel_rfl) ?_
 unfold aZ
 refine ife (by kernel_rfl) ?_
 unfold aY
 refine br (a:=(aj.mk 0 0,false)) (by kernel_rfl) ?_
 dsimp only
 refine ift (by kernel_rfl) ?_
 unfold bq
 refine ift (by kernel_rfl) ?_
 unfold aV
 refine br (a:=Ar2.mk 1 0) (by kernel_rfl) ?_
 refine ife (by kernel_rfl) ?_
 unfold bp
 refine ife (by kernel_rfl) ?_
 refine br (a:=0) (by kernel_rfl) ?_
 refine ift (by kernel_rfl) ?_
 unfold bn
 refine ift (by kernel_rfl) ?_
 refine br (a:=1) (by kernel_rfl) ?_
 unfold Gp
 refine br (a:=(aj.mk 0 0,false)) (by kernel_rfl) ?_
 dsimp only
 refine ift (by kernel_rfl) ?_
 unfold bj
 refine ift (by kernel_rfl) ?_
 change aG _ 29999 _ _
 refine dN (n:=29998) ?_
 try unfold aw
 refine lR ?_
 change aG _ 29999 _ _
 refine dN (n:=29998) ?_
 try unfold au
 refine lR ?_
 change aG _ 29999 _ _
 refine dN (n:=29998) ?_
 try unfold Ej
 refine ife (by kernel_rfl) ?_
 try unfold J5 ug
 change aG _ 30000 _ _
 refine dN (n:=29999) ?_
 try unfold aO
 refine ift (by kernel_rfl) ?_
 refine br (a:=0) (by kernel_rfl) ?_
 refine br (a:=(aj.mk 0 1,true)) (by kernel_rfl) ?_
 dsimp only
 refine ift (by kernel_rfl) ?_
 refine br (a:=[0]) (by kernel_rfl) ?_
 change aG _ 29999 _ _
 refine dN (n:=29998) ?_
 try unfold aO
 refine ift (by kernel_rfl) ?_
 refine br (a:=0) (by kernel_rfl) ?_
 refine br (a:=(aj.mk 1 0,true)) (by kernel_rfl) ?_
 dsimp only
 refine ift (by kernel_rfl) ?_
 refine br (a:=[0,1]) (by kernel_rfl) ?_
 change aG _ 29998 _ _
 refine dN (n:=29997) ?_
 try unfold aO
 refine ife (by kernel_rfl) ?_
 try unfold cg
 rfl
theorem bind_ok{α β:Type}{x:Option α}{a:α}{f:α→Option β}{r:Option β}(e:x=some a)(h:f a=r):Ha x f=r:=by rw[e];exact h
theorem ofe{β:Type}{c:Bool}{a b r:Option β}(hc:c=false)(h:b=r):(if c=true then a else b)=r:=by rw[if_neg (by rw[hc];decide)];exact h
theorem oft{β:Type}{c:Bool}{a b r:Option β}(hc:c=true)(h:a=r):(if c=true then a else b)=r:=by rw[if_pos hc];exact h
def G7:List (List UInt8):=[[98,111,119,108,101,114,32,55,48],[98,111,119,108,101,114,32,54,48],[111,112,101,110,32,49,32,48],[98,97,108,108,32,49,32,49,48],[98,97,108,108,32,49,32,55],[98,97,108,108,32,49,32,51],[98,97,108,108,32,49,32,52]]
def G8:List (List UInt8):=G7++[[98,97,108,108,32,49,32,53]]
def G12:List (List UInt8):=G8++[[98,97,108,108,32,49,32,50],[111,112,101,110,32,49,32,49],[99,108,111,115,101,32,49],[99,108,111,115,101,32,49]]
def W7:aL:=aL.mk (aR.mk [70,60] [(cA.mk (-1) []),(cA.mk 0 [10,7,3,4]),(cA.mk (-1) []),(cA.mk (-1) [])] [[],[]] [] [] [])
def R7:List UInt8:=[108,97,110,101,32,49,32,98,111,119,108,101,114,32,48,32,99,111,117,110,116,115,32,50,48,32,51,52,10,98,111,119,108,101,114,32,48,32,107,101,112,116,32,48,32,115,104,101,101,116,115,32,48,10,98,111,119,108,101,114,32,49,32,107,101,112,116,32,48,32,115,104,101,101,116,115,32,48,10,100,117,101,108,115,32,48,32,49,10]
theorem ub:eM 30000 (gu.mk 1 2 1 [])=some ([0,1],0):=by
 unfold eM
 refine bind_ok (a:=Sum.inr (0,1,2,1,[],[bh.mk (nS.mk 0 (-1)) (nS.mk 1 (-1))],[],[Ar2.mk 0 1])) (by kernel_rfl) ?_
 dsimp only
 refine ofe (by kernel_rfl) ?_
 exact bind_ok w6 rfl
theorem uc:gM 30000 G7=some (R7,0):=by
 unfold gM
 refine bind_ok (a:=0) (by kernel_rfl) ?_
 refine ofe (by kernel_rfl) ?_
 refine bind_ok (a:=([0,0,0,0,0,0,0],W7)) (by kernel_rfl) ?_
 dsimp only
 refine bind_ok (a:=[108,97,110,101,32,49,32,98,111,119,108,101,114,32,48,32,99,111,117,110,116,115,32,50,48,32,51,52,10]) (by kernel_rfl) ?_
 refine bind_ok (a:=mP.mk (wz.mk 90 80 40 3 5) [70,60] [] []) (by kernel_rfl) ?_
 refine bind_ok qY ?_
 dsimp only
 refine bind_ok (a:=[108,97,110,101,32,49,32,98,111,119,108,101,114,32,48,32,99,111,117,110,116,115,32,50,48,32,51,52,10,98,111,119,108,101,114,32,48,32,107,101,112,116,32,48,32,115,104,101,101,116,115,32,48,10,98,111,119,108,101,114,32,49,32,107,101,112,116,32,48,32,115,104,101,101,116,115,32,48,10]) (by kernel_rfl) ?_
 refine bind_ok (a:=R7) ?_ (by kernel_rfl)
 refine oft (by kernel_rfl) ?_
 refine bind_ok (a:=gu.mk 1 2 1 []) (by kernel_rfl) ?_
 refine bind_ok ub ?_
 kernel_rfl
theorem vr:cL 30000=some true:=by
 unfold cL
 refine bind_ok (a:=G8) (by kernel_rfl) ?_
 refine bind_ok (a:=G12) (by kernel_rfl) ?_
 refine bind_ok (a:=(aR.mk [70,60] [(cA.mk (-1) []),(cA.mk (-1) []),(cA.mk (-1) []),(cA.mk (-1) [])] [[43],[]] [] [] [],[0,0,0,0,0,0,0,0,10,6,0,8],0)) (by kernel_rfl) ?_
 dsimp only
 refine bind_ok (a:=G8) (by kernel_rfl) ?_
 refine bind_ok (a:=G7) (by kernel_rfl) ?_
 refine bind_ok (a:=([20,34],38,54,0)) (by kernel_rfl) ?_
 dsimp only
 refine bind_ok (a:=G8) (by kernel_rfl) ?_
 refine bind_ok (a:=(70,16,0)) (by kernel_rfl) ?_
 dsimp only
 refine bind_ok (a:=G8) (by kernel_rfl) ?_
 refine bind_ok (a:=G7) (by kernel_rfl) ?_
 refine bind_ok uc ?_
 dsimp only
 refine bind_ok (a:=([60,48,48,49,124,48,48,50,48,57,62,97,10],0)) (by kernel_rfl) ?_
 kernel_rfl
end Go.Proofs.YtdodahpkpeodfaaGreatDoor
namespace Go.Proofs.YtdodahpkpeodfaaGreatDoor
open Go.Kp
variable {N:Nat}
/-! Who may win, by words. -/
def stl (K:Nat)(R:List ab)(n:Nat)(b:Int):Int :=
 if sn K R n=b then(match R[n]? with | some r=>if r.lT then -1 else wn R n | none=>-1)else -1
def Oj (K:Nat)(R:List ab)(n:Nat)(b p:Int):Prop:=(p=fs K n∨p=b)∧(stl K R n b=-1∨stl K R n b=p)
def Sd (K:Nat)(R:List ab):Nat→Int→Prop
 | 0,b=>b=(K:Int)-1
 | n+1,b=>∃c,Sd K R n c∧Oj K R n c b
def Wm (K:Nat)(R:List ab)(n:Nat)(p:Int):Prop:=∃b,Sd K R n b∧Oj K R n b p
theorem Oy{K:Nat}{R:List ab}:∀(n:Nat) (b:Int),n+1<K→Sd K R n b→0≤b∧b<K
 | 0,b,hK,h=>by
  have:b=(K:Int)-1:=h
  omega
 | n+1,b,hK,h=>by
  obtain⟨c,hc,ha⟩:=h
  have:=Oy n c (by omega) hc
  rcases ha.1 with rfl | rfl
  ·unfold fs;omega
  ·omega
theorem Oz{K:Nat}{R:List ab}{n:Nat}{p:Int}(hK:n+1<K)(h:Wm K R n p):0≤p∧p<K:=by
 obtain⟨c,hc,ha⟩:=h
 have:=Oy n c hK hc
 rcases ha.1 with rfl | rfl
 ·unfold fs;omega
 ·omega
theorem NB{K:Nat}{R:List ab}(hd:DI K R){t:List bh}{m:List (Int×ab)}{l:List (Ar2 Int)}(hm:MR R R.length m)(hl:PE K R l){n:Nat}(hn:n+1<K)(b:Int)(hN:20000≤N):eI N (n:Int) (fs K n) b 1 (K:Int) 1 R t m l=some (stl K R n b):=by
 unfold eI stl
 rw[hl.el n hn,Hj]
 by_cases hb:sn K R n=b
 ·rw[if_neg (by simp[hb]),if_pos hb]
  unfold mgt
  rw[Hj]
  dsimp only
  rw[hm.at (H9 _),Hj]
  rw[Hv hd hm (hl.el n hn) rfl rfl hN]
  cases hr:R[n]? with
  | none =>
   have:R.length≤n:=by
    rcases Nat.lt_or_ge n R.length with h | h
    ·rw[IX h]at hr;cases hr
    ·exact h
   rw[DY this];rfl
  | some r =>
   simp only[Option.getD_some]
   by_cases hp:r.lT=true
   ·rw[if_pos hp,if_pos hp]
   ·rw[if_neg hp,if_neg hp];rfl
 ·rw[if_pos (by simp[hb]),if_neg hb];rfl
abbrev BM:=List (aC×aj)
def Ky (m:BM)(k:aC):Prop:=(mget m k).isSome=true
theorem M9(m:BM)(k:aC)(v:aj)(k':aC):Ky (mput m k v) k'↔k'=k∨Ky m k':=by
 unfold Ky
 rw[Az]
 by_cases h:k'=k
 ·rw[if_pos h];simp[h]
 ·rw[if_neg h];simp[h]
theorem ls2(a b:Int)(hN:20000≤N):∃r,gq N [a,b]=some r:=A3 [a,b] (by simp) (by simp;omega)
theorem OF{v4698:Int}{rec51:(BM×List (Int×Int))→WP BM}{rem:List (Int×Int)}{Q:BM→Prop}(m:BM)(x:Ar2 Int)(c:Int)(hk:∀m',(∀k,Ky m' k↔k=aC.mk v4698 x.a0∨Ky m k)→rec51 (m',rem) Q):Gp N v4698 rec51 rem m x c Q:=by
 unfold Gp bj bi
 refine⟨((mget m (aC.mk v4698 x.a0)).getD (aj.mk 0 0),(mget m (aC.mk v4698 x.a0)).isSome),rfl,?_⟩
 dsimp only
 by_cases hs:(mget m (aC.mk v4698 x.a0)).isSome=true
 ·rw[if_neg (by simp[hs])]
  split
  ·exact hk _ fun k=>M9 _ _ _ _
  ·refine hk _ fun k=>⟨.inr,fun h=>h.elim (fun e=>by rw[e];exact hs) id⟩
 ·rw[if_pos (by simp[hs])]
  simp only[if_true]
  exact hk _ fun k=>M9 _ _ _ _
theorem OG{v4698:Int}{v5481 v5586:Int}{rec51:(BM×List (Int×Int))→WP BM}{rem:List (Int×Int)}{Q:BM→Prop}(m:BM)(x:Ar2 Int)(st:Int)(hN:20000≤N)(hk:∀m',(∀k,Ky m' k↔(k=aC.mk v4698 x.a0∧(st=-1∨st=x.a0))∨Ky m k)→rec51 (m',rem) Q) :
  (if !decide (st=(-1))then bp N v4698 v5481 rec51 v5586 rem st m x (!decide (st=x.a0))else bp N v4698 v5481 rec51 v5586 rem st m x false) Q:=by
 have go:(st=-1∨st=x.a0)→bp N v4698 v5481 rec51 v5586 rem st m x false Q:=fun hst=>by
  unfold bp
  simp only[IE,if_false]
  obtain⟨r,hr⟩:=ls2 (N:=N) v5481 v5586 hN
  refine⟨r,hr,?_⟩
  have h5:∀c,Gp N v4698 rec51 rem m x c Q:=fun c=>OF m x c fun m' hm'=>hk m' fun k=>by rw[hm'];simp[hst]
  have h6:∀b,bn N v4698 rec51 rem m x r b Q:=fun b=>by
   unfold bn
   cases b with
   | true =>
    simp only[if_true]
    obtain⟨r2,hr2⟩:=ls2 (N:=N) r 1 hN
    exact⟨r2,hr2,h5 _⟩
   | false=>simp only[IE,if_false];exact h5 _
  split
  ·exact h6 _
  ·exact h6 _
 by_cases h1:st=-1
 ·rw[if_neg (by simp[h1])]
  exact go (.inl h1)
 ·rw[if_pos (by simp[h1])]
  by_cases h2:st=x.a0
  ·rw[show(!decide (st=x.a0))=false by simp[h2]]
   exact go (.inr h2)
  ·rw[show(!decide (st=x.a0))=true by simp[h2]]
   unfold bp bi
   simp only[if_true]
   refine hk m fun k=>⟨.inr,fun h=>h.elim (fun hh=>absurd hh.2 (by rintro(h | h);exact h1 h;exact h2 h)) id⟩
theorem N0{v4698:Int}{v5481 v5586:Int}{rec51:(BM×List (Int×Int))→WP BM}{rem:List (Int×Int)}{Q:BM→Prop}(m:BM)(f b st:Int)(hN:20000≤N)
  (hk:∀m',(∀k,Ky m' k↔(k=aC.mk v4698 b∧(st=-1∨st=b))∨(k=aC.mk v4698 f∧(st=-1∨st=f))∨Ky m k)→rec51 (m',rem) Q) :
  (if !decide (st=(-1))then Fa N v4698 v5481 m rec51 v5586 rem st (Ar2.mk f b) (!decide (st=f)) [Ar2.mk f b,Ar2.mk b f] else Fa N v4698 v5481 m rec51 v5586 rem st (Ar2.mk f b) false [Ar2.mk f b,Ar2.mk b f]) Q:=by
 have h8:∀m1,(∀k,Ky m1 k↔(k=aC.mk v4698 f∧(st=-1∨st=f))∨Ky m k)→aV N v4698 v5481 rec51 v5586 rem st m1 [Ar2.mk f b,Ar2.mk b f] Q:=fun m1 hm1=>by
  unfold aV
  refine⟨Ar2.mk b f,rfl,?_⟩
  exact OG m1 (Ar2.mk b f) st hN fun m' hm'=>hk m' fun k=>by rw[hm',hm1]
 have go:(st=-1∨st=f)→Fa N v4698 v5481 m rec51 v5586 rem st (Ar2.mk f b) false [Ar2.mk f b,Ar2.mk b f] Q:=fun hst=>by
  unfold Fa
  simp only[IE,if_false]
  obtain⟨r,hr⟩:=ls2 (N:=N) v5481 v5586 hN
  refine⟨r,hr,?_⟩
  have h10:∀c,aY N v4698 v5481 m rec51 v5586 rem st (Ar2.mk f b) [Ar2.mk f b,Ar2.mk b f] c Q:=fun c=>by
   unfold aY bq
   refine⟨((mget m (aC.mk v4698 f)).getD (aj.mk 0 0),(mget m (aC.mk v4698 f)).isSome),rfl,?_⟩
   dsimp only
   by_cases hs:(mget m (aC.mk v4698 f)).isSome=true
   ·rw[if_neg (by simp[hs])]
    split
    ·exact h8 _ fun k=>by rw[M9];simp[hst]
    ·exact h8 _ fun k=>⟨.inr,fun h=>h.elim (fun e=>by rw[e.1];exact hs) id⟩
   ·rw[if_pos (by simp[hs])]
    simp only[if_true]
    exact h8 _ fun k=>by rw[M9];simp[hst]
  have h11:∀bb,aZ N v4698 v5481 m rec51 v5586 rem st (Ar2.mk f b) [Ar2.mk f b,Ar2.mk b f] r bb Q:=fun bb=>by
   unfold aZ
   cases bb with
   | true =>
    simp only[if_true]
    obtain⟨r2,hr2⟩:=ls2 (N:=N) r 1 hN
    exact⟨r2,hr2,h10 _⟩
   | false=>simp only[IE,if_false];exact h10 _
  split
  ·exact h11 _
  ·exact h11 _
 by_cases h1:st=-1
 ·rw[if_neg (by simp[h1])]
  exact go (.inl h1)
 ·rw[if_pos (by simp[h1])]
  by_cases h2:st=f
  ·rw[show(!decide (st=f))=false by simp[h2]]
   exact go (.inr h2)
  ·rw[show(!decide (st=f))=true by simp[h2]]
   unfold Fa
   simp only[if_true]
   exact h8 m fun k=>⟨.inr,fun h=>h.elim (fun hh=>absurd hh.2 (by rintro(h | h);exact h1 h;exact h2 h)) id⟩
def KI (K:Nat)(R:List ab)(n:Nat)(D:Int→Prop)(m:BM):Prop:=∀k:aC,Ky m k↔(∃i:Nat,i<n∧k.dA=i∧Wm K R i k.mo)∨(k.dA=n∧∃b,D b∧Oj K R n b k.mo)
theorem OA{K:Nat}{R:List ab}(hd:DI K R){t:List bh}{mr:List (Int×ab)}{l:List (Ar2 Int)}(hm:MR R R.length mr)(hl:PE K R l){n:Nat}(hn:n+1<K){rec50:(BM×List (Int×Int))→WP BM}{v5481:Int}{Q:BM→Prop}(hN:20000≤N)
  (S:Int→Prop) (hk:∀m',KI K R n S m'→rec50 (m',[]) Q):∀(g:Nat) (m:BM) (rem:List (Int×Int)),rem.length<g→(rem.map (·.1)).Nodup→(∀b,b∈rem.map (·.1)→S b)→KI K R n (fun b=>S b∧b∉rem.map (·.1)) m→aG (fun rec51 x=>aw N 1 (K:Int) 1 R t mr l (n:Int) rec50 (fs K n) v5481 [] rec51 x.1 x.2) g (m,rem) Q
 | 0,_,_,h,_,_,_=>by omega
 | g+1,m,rem,hg,hnd,hS,hKI=>by
  show aw N 1 (K:Int) 1 R t mr l (n:Int) rec50 (fs K n) v5481 [] (aG (fun rec51 x=>aw N 1 (K:Int) 1 R t mr l (n:Int) rec50 (fs K n) v5481 [] rec51 x.1 x.2) g) m rem Q
  unfold aw
  refine⟨fun h0=>?_,fun pre e post hs=>?_⟩
  ·subst h0
   refine hk m fun k=>?_
   rw[hKI k]
   simp
  ·obtain⟨b,c⟩:=e
   subst hs
   dsimp only
   refine⟨_,NB hd hm hl hn b hN,?_⟩
   refine⟨Ar2.mk (fs K n) b,rfl,?_⟩
   refine N0 m (fs K n) b (stl K R n b) hN fun m' hm'=>?_
   have hperm:(pre++(b,c)::post).map (·.1)=pre.map (·.1)++b::post.map (·.1):=by simp
   rw[hperm]at hnd hS hKI
   have hnd2:((pre++post).map (·.1)).Nodup∧b∉(pre++post).map (·.1):=by
    have:=(List.perm_middle (a:=b) (l₁:=pre.map (·.1)) (l₂:=post.map (·.1))).nodup_iff.1 hnd
    rw[List.nodup_cons]at this
    rw[zR]
    exact⟨this.2,this.1⟩
   refine OA hd hm hl hn hN S hk g m' (pre++post) (by simp at hg ⊢;omega) hnd2.1 (fun b' hb'=>hS b' (by rw[zR]at hb';rcases List.mem_append.1 hb' with h | h;exact EG _ h;exact EM _ (AK _ h))) fun k=>?_
   rw[hm',hKI k]
   have hSb:S b:=hS b (EM _ (zV ..))
   have hmem:∀b',b'∉pre.map (·.1)++b::post.map (·.1)↔b'≠b∧b'∉(pre++post).map (·.1):=fun b'=>by
    rw[zR]
    simp only[AL,D8]
    constructor
    ·intro h;exact⟨fun e=>h (.inr (.inl e)),fun h2=>h (h2.elim .inl (fun z=>.inr (.inr z)))⟩
    ·rintro⟨h1,h2⟩ (h | h | h)
     ·exact h2 (.inl h)
     ·exact h1 h
     ·exact h2 (.inr h)
   have hkey:∀p,k=aC.mk (n:Int) p↔k.dA=(n:Int)∧k.mo=p:=fun p=>by
    constructor
    ·intro e;rw[e];exact⟨rfl,rfl⟩
    ·rintro⟨e1,e2⟩;rw[← e1,← e2]
   rw[hkey,hkey]
   constructor
   ·rintro(⟨⟨e1,e2⟩,h⟩ | ⟨⟨e1,e2⟩,h⟩ | h | ⟨e1,b',⟨h1,h2⟩,h3⟩)
    ·exact .inr ⟨e1,b,⟨hSb,hnd2.2⟩,.inr e2,by rw[e2];exact h⟩
    ·exact .inr ⟨e1,b,⟨hSb,hnd2.2⟩,.inl e2,by rw[e2];exact h⟩
    ·exact .inl h
    ·exact .inr ⟨e1,b',⟨h1,((hmem b').1 h2).2⟩,h3⟩
   ·rintro(h | ⟨e1,b',⟨h1,h2⟩,h3⟩)
    ·exact .inr (.inr (.inl h))
    ·by_cases hbb:b'=b
     ·subst hbb
      rcases h3.1 with h | h
      ·exact .inr (.inl ⟨⟨e1,h⟩,by have:=h3.2;rw[h]at this;exact this⟩)
      ·exact .inl ⟨⟨e1,h⟩,by have:=h3.2;rw[h]at this;exact this⟩
     ·exact .inr (.inr (.inr ⟨e1,b',⟨h1,(hmem b').2 ⟨hbb,h2⟩⟩,h3⟩))
theorem Nm{K:Nat}{R:List ab}{t:List bh}{mr:List (Int×ab)}{l:List (Ar2 Int)}{n:Nat}(hn:n+1<K)(hK:K≤8)(hN:20000≤N){m:BM}(hm:KI K R n (fun _=>False) m):∃r,dU N (pair K n).yU 1 (K:Int) 1 R t m mr l=some r∧(r.map (·.1)).Nodup∧r.length≤8∧∀b,b∈r.map (·.1)↔Sd K R n b:=by
 unfold dU pair
 rcases Cd n with rfl | h0
 ·refine⟨[((K:Int)-1,0)],rfl,by simp,by simp,fun b=>?_⟩
  show b∈[(K:Int)-1]↔b=(K:Int)-1
  simp
 ·obtain⟨q,rfl⟩:∃q,n=q+1:=⟨n-1,by omega⟩
  simp only[if_neg (by omega:¬q+1=0)]
  have e0:(((q+1:Nat):Int)-1)=(q:Int):=by omega
  rw[e0,if_neg (by simp only[decide_eq_true_eq];omega)]
  have hkq:∀p,Ky m (aC.mk (q:Int) p)↔Wm K R q p:=fun p=>by
   rw[hm]
   constructor
   ·rintro(⟨i,_,h2,h3⟩ | ⟨_,_,h,_⟩)
    ·simp only at h2 h3
     have:i=q:=by omega
     subst this;exact h3
    ·exact h.elim
   ·intro h;exact .inl ⟨q,by omega,rfl,h⟩
  obtain⟨r,hr,hq1,hq2,hq3⟩:=zh (B:=fun rec3 x=>C4 N (nS.mk (-1) (q:Int)) (K:Int) m rec3 x.1 x.2) (fun k (x:Int×List (Int×Int))=>∃j:Nat,x.1=j∧j+k=K∧(x.2.map (·.1)).Nodup∧x.2.length≤j∧∀b:Int,b∈x.2.map (fun p:Int×Int=>p.1)↔(0≤b∧b<(j:Int)∧Wm K R q b)) (fun r=>(r.map (·.1)).Nodup∧r.length≤8∧∀b,b∈r.map (·.1)↔Sd K R (q+1) b)
   (fun k x rec hI ih=>by
    obtain⟨v,a⟩:=x
    obtain⟨j,hv,hj,hnd,hal,hab⟩:=hI
    simp only at hv hnd hal hab
    subst hv
    unfold C4
    by_cases h:j<K
    ·rw[if_pos (by simp only[decide_eq_true_eq];omega)]
     unfold mgt
     rw[Hj]
     dsimp only
     rw[fN (by omega)]
     by_cases hs:(mget m (aC.mk (q:Int) (j:Int))).isSome=true
     ·have hw:=(hkq j).1 hs
      rw[if_pos hs,Hj]
      have hnot:(j:Int)∉a.map (·.1):=fun hh=>by have:=(hab j).1 hh;omega
      refine ih (k-1) _ (by omega) ⟨j+1,rfl,by omega,MQ hnd _ _,?_,fun b=>?_⟩
      ·have hlen:∀(a:List (Int×Int)) (kk v:Int),(mput a kk v).length≤a.length+1:=fun a=>by
        induction a with
        | nil=>intro kk v;simp[mput]
        | cons p r ih2 =>
         intro kk v
         unfold mput
         split
         ·simp
         ·have:=ih2 kk v;simp;omega
       have:=hlen a (j:Int) ((mget m (aC.mk (q:Int) (j:Int))).getD (aj.mk 0 0)).q8
       simp only;omega
      ·rw[M7,hab]
       constructor
       ·rintro(rfl | ⟨h1,h2,h3⟩)
        ·exact⟨by omega,by omega,hw⟩
        ·exact⟨h1,by omega,h3⟩
       ·rintro⟨h1,h2,h3⟩
        by_cases hbj:b=(j:Int)
        ·exact .inl hbj
        ·exact .inr ⟨h1,by omega,h3⟩
     ·rw[if_neg hs,Hj]
      refine ih (k-1) _ (by omega) ⟨j+1,rfl,by omega,hnd,by simp only;omega,fun b=>?_⟩
      rw[hab]
      constructor
      ·rintro⟨h1,h2,h3⟩;exact⟨h1,by omega,h3⟩
      ·rintro⟨h1,h2,h3⟩
       by_cases hbj:b=(j:Int)
       ·subst hbj;exact absurd ((hkq j).2 h3) hs
       ·exact⟨h1,by omega,h3⟩
    ·rw[if_neg (by simp only[decide_eq_true_eq];omega)]
     have:j=K:=by omega
     subst this
     refine⟨_,rfl,hnd,(show a.length≤8 by omega),fun b=>?_⟩
     rw[hab]
     show _↔Wm j R q b
     constructor
     ·exact fun hh=>hh.2.2
     ·intro hh;have:=Oz (by omega) hh;exact⟨this.1,this.2,hh⟩)
   N K (0,[]) ⟨0,rfl,by omega,by simp,by simp,fun b=>by simp;omega⟩ (by omega)
  rw[hr]
  exact⟨r,rfl,hq1,hq2,hq3⟩
end Go.Proofs.YtdodahpkpeodfaaGreatDoor
namespace Go.Proofs.YtdodahpkpeodfaaGreatDoor
open Go.Kp
variable {N:Nat}
theorem Ol{K:Nat}{R:List ab}(hd:DI K R)(hK:2≤K∧K≤8){t:List bh}{mr:List (Int×ab)}{l:List (Ar2 Int)}(ht:TE K t)(hm:MR R R.length mr)(hl:PE K R l)(hN:20000≤N){Q:BM→Prop}(hQ:∀m,KI K R (K-1) (fun _=>False) m→Q m):cB N 1 (K:Int) 1 R t mr l Q:=by
 have htl:=ht.len
 have key:∀(g n:Nat) (m:BM),n+1≤K→K-1-n<g→KI K R n (fun _=>False) m→aG (fun rec43 x=>Ej N 1 (K:Int) 1 R t mr l rec43 x.1 x.2.1 x.2.2) g ((t.length:Int),(n:Int),m) Q:=by
  intro g
  induction g with
  | zero=>intro n m _ h;omega
  | succ g ih =>
   intro n m hn hg hI
   show Ej N 1 (K:Int) 1 R t mr l (aG (fun rec43 x=>Ej N 1 (K:Int) 1 R t mr l rec43 x.1 x.2.1 x.2.2) g) (t.length:Int) (n:Int) m Q
   generalize aG (fun rec43 x=>Ej N 1 (K:Int) 1 R t mr l rec43 x.1 x.2.1 x.2.2) g=rec43 at ih
   unfold Ej
   by_cases h:n+1<K
   ·rw[if_pos (by simp only[decide_eq_true_eq];omega)]
    have hpt:t[n]? = some (pair K n):=by
     have h1:n<t.length:=by omega
     have h2:=IX h1
     rw[h2,ht.el n _ h2]
    refine⟨pair K n,ij hpt,?_⟩
    refine⟨[(fs K n,0)],rfl,?_⟩
    obtain⟨g2,hg2⟩:∃g2,N=g2+2:=⟨N-2,by omega⟩
    have e:∀(B:(BM×List (Int×Int)→WP BM)→BM×List (Int×Int)→WP BM) y,aG B N y=B (aG B (g2+1)) y:=fun B y=>by rw[hg2];rfl
    rw[e]
    dsimp only
    have hlast:∀m',KI K R n (Sd K R n) m'→aG (fun rec50 x=>au N 1 (K:Int) 1 R t mr l (t.length:Int) (n:Int) rec43 (pair K n) rec50 x.1 x.2) (g2+1) (m',[]) Q:=fun m' hm'=>by
     show au N 1 (K:Int) 1 R t mr l (t.length:Int) (n:Int) _ (pair K n) _ m' [] Q
     unfold au
     refine⟨fun _=>?_,fun pre x post hs=>by cases pre<;>cases hs⟩
     unfold cY
     rw[fN (by omega)]
     refine ih (n+1) m' (by omega) (by omega) fun k=>?_
     rw[hm' k]
     constructor
     ·rintro(⟨i,h1,h2,h3⟩ | ⟨h1,h2⟩)
      ·exact .inl ⟨i,by omega,h2,h3⟩
      ·exact .inl ⟨n,by omega,h1,h2⟩
     ·rintro(⟨i,h1,h2,h3⟩ | ⟨_,_,h2,_⟩)
      ·by_cases hi:i=n
       ·subst hi;exact .inr ⟨h2,h3⟩
       ·exact .inl ⟨i,by omega,h2,h3⟩
      ·exact h2.elim
    generalize aG (fun rec50 x=>au N 1 (K:Int) 1 R t mr l (t.length:Int) (n:Int) rec43 (pair K n) rec50 x.1 x.2) (g2+1)=rec50 at hlast
    unfold au
    refine o7 ?_
    dsimp only
    obtain⟨r,hr,hnd,hrl,hrb⟩:=Nm (R:=R) (t:=t) (mr:=mr) (l:=l) h hK.2 hN hI
    refine⟨r,hr,?_⟩
    refine OA hd hm hl h hN (Sd K R n) hlast N m r (by omega) hnd (fun b hb=>(hrb b).1 hb) fun k=>?_
    rw[hI k]
    constructor
    ·rintro(h1 | ⟨_,_,h2,_⟩)
     ·exact .inl h1
     ·exact h2.elim
    ·rintro(h1 | ⟨_,b,⟨h2,h3⟩,_⟩)
     ·exact .inl h1
     ·exact absurd ((hrb b).2 h2) h3
   ·rw[if_neg (by simp only[decide_eq_true_eq];omega)]
    unfold J5
    have:n=K-1:=by omega
    subst this
    exact hQ m hI
 unfold cB
 refine key N 0 [] (by omega) (by omega) fun k=>⟨fun h=>(by cases h),?_⟩
 rintro(⟨i,h,_⟩ | ⟨_,_,h,_⟩)
 ·omega
 ·exact h.elim
open Classical in
noncomputable def res (K:Nat) (R:List ab) (i:Nat):List Int:=((Jq i).filter fun p:Nat=>decide (Wm K R (K-2) (p:Int))).map fun p:Nat=>(p:Int)
theorem Om{K:Nat}{R:List ab}{i:Nat}{x:Int}:x∈res K R i↔0≤x∧x<i∧Wm K R (K-2) x:=by
 unfold res
 simp only[List.mem_map,List.mem_filter,List.mem_range,decide_eq_true_eq]
 constructor
 ·rintro⟨p,⟨h1,h2⟩,rfl⟩;exact⟨by omega,by omega,h2⟩
 ·rintro⟨h0,h1,h2⟩
  refine⟨x.toNat,⟨by omega,?_⟩,by omega⟩
  rw[Int.toNat_of_nonneg h0];exact h2
theorem Na{K:Nat}{R:List ab}(i:Nat):(res K R i).length≤i:=by
 unfold res
 rw[Ia]
 exact zW (List.length_filter_le _ _) (by simp)
theorem NM{K:Nat}{R:List ab}{i:Nat}(h:Wm K R (K-2) (i:Int)):res K R (i+1)=res K R i++[(i:Int)]:=by
 unfold res
 rw[List.range_succ,List.filter_append,zR]
 congr 1
 simp[h]
theorem N1{K:Nat}{R:List ab}{i:Nat}(h:¬Wm K R (K-2) (i:Int)):res K R (i+1)=res K R i:=by
 unfold res
 rw[List.range_succ,List.filter_append,zR]
 simp[h]
theorem OD{K:Nat}{R:List ab}(hd:DI K R)(hK:2≤K∧K≤8){t:List bh}{mr:List (Int×ab)}{l:List (Ar2 Int)}(ht:TE K t)(hm:MR R R.length mr)(hl:PE K R l)(hN:20000≤N):fq N 1 (K:Int) 1 R t mr l=some (res K R K):=by
 have htl:=ht.len
 unfold fq
 refine vF (vp ..) ?_
 unfold cC
 refine vo (Ol hd hK ht hm hl hN fun m hKI=>?_)
 have hky:∀p:Int,(mget m (aC.mk ((K-2:Nat):Int) p)).isSome=true↔Wm K R (K-2) p:=fun p=>by
  have:=hKI (aC.mk ((K-2:Nat):Int) p)
  show Ky m _↔_
  rw[this]
  constructor
  ·rintro(⟨i,_,h2,h3⟩ | ⟨_,_,h2,_⟩)
   ·simp only at h2 h3
    have:i=K-2:=by omega
    subst this;exact h3
   ·exact h2.elim
  ·intro h;exact .inl ⟨K-2,by omega,rfl,h⟩
 have key:∀(g i:Nat),i≤K→K-i<g→aG (fun rec3 x=>aO N 1 (K:Int) 1 R t mr l m rec3 x.1 x.2) g ((i:Int),res K R i) (fun x=>x=res K R K):=by
  intro g
  induction g with
  | zero=>intro i _ h;omega
  | succ g ih =>
   intro i hi hg
   show aO N 1 (K:Int) 1 R t mr l m (aG (fun rec3 x=>aO N 1 (K:Int) 1 R t mr l m rec3 x.1 x.2) g) (i:Int) (res K R i) (fun x=>x=res K R K)
   unfold aO
   by_cases h:i<K
   ·rw[if_pos (by simp only[decide_eq_true_eq];omega)]
    have e1:gL N 1 (K:Int) 1 R t mr l=some ((K-2:Nat):Int):=by
     unfold gL
     rw[bE (by omega) (by omega)]
     congr 1;omega
    refine⟨_,e1,?_⟩
    refine⟨((mget m (aC.mk ((K-2:Nat):Int) (i:Int))).getD (aj.mk 0 0),(mget m (aC.mk ((K-2:Nat):Int) (i:Int))).isSome),rfl,?_⟩
    dsimp only
    have hrl:=Na (K:=K) (R:=R) i
    by_cases hw:Wm K R (K-2) (i:Int)
    ·rw[if_pos ((hky _).2 hw)]
     refine⟨_,nL (by simp;omega),?_⟩
     unfold bG
     rw[fN (by omega),← NM hw]
     exact ih (i+1) (by omega) (by omega)
    ·rw[if_neg (fun hh=>hw ((hky _).1 hh))]
     unfold bG
     rw[fN (by omega),← N1 hw]
     exact ih (i+1) (by omega) (by omega)
   ·rw[if_neg (by simp only[decide_eq_true_eq];omega)]
    have:i=K:=by omega
    subst this
    unfold cg
    rfl
 exact key N 0 (by omega) (by omega)
theorem NT{K:Nat}{R:List ab}(hd:DI K R)(hK:2≤K∧K≤8)(hN:20000≤N):eM N (gu.mk 1 (K:Int) 1 R)=some (res K R K,0):=by
 obtain⟨t,mr,l,h1,h2,h3,h4⟩:=Io (N:=N) hd hK hN
 unfold eM
 rw[h1,Hj]
 dsimp only
 rw[if_neg (by decide),OD hd hK h2 h3 h4 hN,Hj]
end Go.Proofs.YtdodahpkpeodfaaGreatDoor
namespace Go.Proofs.YtdodahpkpeodfaaGreatDoor
open Go.Kp
variable {N:Nat}
/-! Courses of the knock-out, by the document. -/
def cm (K:Nat)(w:List Int)(n:Nat):Int:=if n=0 then(K:Int)-1 else w.getD (n-1) 0
abbrev tre(K:Nat):List nR:=(Jq (K-1)).map (DQ K)
theorem NC{K n:Nat}(h:n+1<K):(tre K)[n]? = some (DQ K n):=by
 rw[Jr,List.getElem?_range (by omega)];rfl
theorem Nb(K n:Nat)(w:List Int):GQ N (DQ K n).rx w=some (fs K n):=rfl
theorem Nc{K n:Nat}{w:List Int}(h:n≤w.length):GQ N (DQ K n).yU w=some (cm K w n):=by
 unfold GQ DQ cm
 by_cases h0:n=0
 ·subst h0;rfl
 ·simp only[if_neg h0]
  rw[if_neg (by simp only[decide_eq_true_eq];omega),show(n:Int)-1=((n-1:Nat):Int) by omega,ij (x:=w.getD (n-1) 0) (by rw[A5,IX (by omega)];rfl)]
  rfl
theorem ME{K:Nat}{R:List ab}(hd:DI K R)(hK:K≤8)(hN:20000≤N){n:Nat}(hn:n+1<K){w:List Int}(hw:n≤w.length):Ka N (DE K R) (tre K) n w=some (stl K R n (cm K w n)):=by
 unfold Ka stl
 rw[Fz hd hK hN,Hj]
 by_cases h:n<R.length
 ·have hx:=IX h
  generalize R[n]=x at hx
  have hx2:(DE K R).aP[n]? = some (Db x):=by show(R.map Db)[n]? = _;rw[Jr,hx];rfl
  have hh:Lx N (DE K R) (tre K) n w=some (decide (sn K R n=cm K w n)):=by
   unfold Lx
   rw[Fz hd hK hN,Hj,if_pos h,if_neg (by simp only[decide_eq_true_eq];omega),ij (NC hn),Hj,HJ,Hj,Nb,Hj,if_pos (by simp),HK hd hK hN,Hj,Nc hw]
   rfl
  rw[if_pos h,if_neg (by simp only[decide_eq_true_eq];omega),ij hx2,Hj,hh,GF hd hK hN,hx,show(Db x).lT=x.lT from rfl]
  by_cases hp:x.lT=true
  ·rw[if_pos hp,Hj]
   simp only[if_true,if_pos hp]
   split<;>rfl
  ·rw[if_neg hp]
   simp only[if_neg hp]
   by_cases hs:sn K R n=cm K w n
   ·rw[if_pos hs,decide_eq_true hs];rfl
   ·rw[if_neg hs,decide_eq_false hs];rfl
 ·rw[if_neg h,List.getElem?_eq_none (by omega)]
  rw[if_pos (by decide),Hj]
  simp only[if_true]
  split<;>rfl
def crs (K:Nat)(R:List ab):Nat→List Int→List (List Int)
 | 0,w=>[w]
 | m+1,w=>(if stl K R w.length (cm K w w.length)=-1∨stl K R w.length (cm K w w.length)=fs K w.length then crs K R m (w++[fs K w.length])else [])
   ++ (if stl K R w.length (cm K w w.length)=-1∨stl K R w.length (cm K w w.length)=cm K w w.length then crs K R m (w++[cm K w w.length])else [])
theorem L8(K:Nat)(R:List ab):∀(m:Nat) (w:List Int),(crs K R m w).length≤2 ^ m
 | 0,_=>by simp[crs]
 | m+1,w=>by
  have h1:=L8 K R m (w++[fs K w.length])
  have h2:=L8 K R m (w++[cm K w w.length])
  unfold crs
  rw[Js,Nat.pow_succ]
  split<;>split<;>(try simp only[yf])<;>omega
theorem Nd(K:Nat)(R:List ab):∀(m:Nat) (w v:List Int),v∈crs K R m w→v.length=w.length+m
 | 0,w,v,h=>by simp[crs]at h;subst h;rfl
 | m+1,w,v,h=>by
  unfold crs at h
  rcases List.mem_append.1 h with h | h
  ·split at h
   ·have:=Nd K R m _ v h;simp at this;omega
   ·cases h
  ·split at h
   ·have:=Nd K R m _ v h;simp at this;omega
   ·cases h
theorem On{K:Nat}{R:List ab}(hd:DI K R)(n:Nat)(b:Int):stl K R n b<0↔stl K R n b=-1:=by
 unfold stl
 split
 ·cases hr:R[n]? with
  | none=>simp
  | some r =>
   have:=hd.wb n (List.getElem?_eq_some_iff.1 hr).1
   simp only
   split
   ·simp
   ·constructor
    ·intro h;omega
    ·intro h;omega
 ·simp
theorem L6{K:Nat}{R:List ab}(hd:DI K R)(hK:K≤8)(hN:20000≤N):∀(m:Nat) (w:List Int) (g:Nat),w.length+m+1=K→m<g→loopN (fun rr x=>CD N rr x.1 x.2.1 x.2.2) g (DE K R,tre K,w)=some (crs K R m w)
 | m,w,0,_,h=>by omega
 | 0,w,g+1,hw,_=>by
  show CD N _ (DE K R) (tre K) w=_
  unfold CD
  rw[if_pos (by simp;omega)];rfl
 | m+1,w,g+1,hw,hg=>by
  have i1:=L6 hd hK hN m (w++[fs K w.length]) g (by simp;omega) (by omega)
  have i2:=L6 hd hK hN m (w++[cm K w w.length]) g (by simp;omega) (by omega)
  show CD N (loopN (fun rr x=>CD N rr x.1 x.2.1 x.2.2) g) (DE K R) (tre K) w=_
  generalize loopN (fun rr x=>CD N rr x.1 x.2.1 x.2.2) g=L at i1 i2
  have hp:(2:Nat) ^ m≤2 ^ 7:=Gz (by omega) (by omega)
  have l1:=L8 K R m (w++[fs K w.length])
  have l2:=L8 K R m (w++[cm K w w.length])
  have hneg:=On hd w.length (cm K w w.length)
  unfold CD crs
  rw[if_neg (by simp;omega),ij (NC (by omega)),Hj,Nb,Hj,Nc (H9 _),Hj,Hj]
  dsimp only
  rw[ME hd hK hN (by omega) (H9 _),Hj]
  generalize hs:stl K R w.length (cm K w w.length)=s at hneg ⊢
  have a1:app N [] w=some w:=by rw[nL (by simp;omega)];rfl
  have a2:∀y:Int,app N w [y]=some (w++[y]):=fun y=>by rw[nL (by simp;omega)]
  have c1:∀y:Int,(if decide (s<0)then some true else some (decide (s=y)))=some (decide (s=-1∨s=y)):=fun y=>by
   by_cases h:s=-1
   ·rw[if_pos (by simp only[decide_eq_true_eq];exact hneg.2 h),decide_eq_true (Or.inl h)]
   ·rw[if_neg (by simp only[decide_eq_true_eq];exact fun q=>h (hneg.1 q))]
    congr 1
    rw[decide_eq_decide]
    exact⟨.inr,fun q=>q.resolve_left h⟩
  rw[c1,Hj]
  have s1:(if decide (s=-1∨s=fs K w.length)then Ha (app N [] w) fun l22=>Ha (app N l22 [fs K w.length]) fun l23=>Ha (L (DE K R,tre K,l23)) fun r12=>Ha (app N [] r12) fun l24=>some l24 else some [])=some (if s=-1∨s=fs K w.length then crs K R m (w++[fs K w.length])else []):=by
   by_cases h:s=-1∨s=fs K w.length
   ·rw[if_pos (by simp only[decide_eq_true_eq];exact h),if_pos h,a1,Hj,a2,Hj,i1,Hj,nL (by simp;omega)];rfl
   ·rw[if_neg (by simp only[decide_eq_true_eq];exact h),if_neg h]
  rw[s1,Hj,c1,Hj]
  by_cases h:s=-1∨s=cm K w w.length
  ·rw[if_pos (by simp only[decide_eq_true_eq];exact h),if_pos h,a1,Hj,a2,Hj,i2,Hj,nL (by split<;>(try simp only[yf])<;>omega)];rfl
  ·rw[if_neg (by simp only[decide_eq_true_eq];exact h),if_neg h,Bc];rfl
def Rn (K:Nat)(R:List ab):Nat→Nat→Int→Int→Prop
 | _,0,b,p=>b=p
 | n,m+1,b,p=>∃c,Oj K R n b c∧Rn K R (n+1) m c p
theorem OB{K:Nat}{R:List ab}:∀(m n:Nat) (p:Int),Sd K R (n+m) p↔∃b,Sd K R n b∧Rn K R n m b p
 | 0,n,p=>⟨fun h=>⟨p,h,rfl⟩,fun⟨b,h,e⟩=>by have e:b=p:=e;subst e;exact h⟩
 | m+1,n,p=>by
  rw[show n+(m+1)=(n+1)+m by omega,OB m (n+1) p]
  constructor
  ·rintro⟨b,⟨c,hc,ha⟩,hr⟩
   exact⟨c,hc,b,ha,hr⟩
  ·rintro⟨c,hc,b,ha,hr⟩
   exact⟨b,⟨c,hc,ha⟩,hr⟩
theorem Oo(K:Nat)(w:List Int)(x:Int):cm K (w++[x]) (w.length+1)=x:=by
 unfold cm
 rw[if_neg (by omega),Nat.add_sub_cancel,A5,zL (H9 _),Nat.sub_self]
 rfl
theorem ND(K:Nat)(R:List ab)(p:Int):∀(m:Nat) (w:List Int),(∃v∈crs K R m w,cm K v v.length=p)↔Rn K R w.length m (cm K w w.length) p
 | 0,w=>by
  unfold crs Rn
  simp
 | m+1,w=>by
  have h1:=ND K R p m (w++[fs K w.length])
  have h2:=ND K R p m (w++[cm K w w.length])
  simp only[Js,IS,yf,Nat.zero_add,Oo]at h1 h2
  unfold crs Rn
  generalize cm K w w.length=b at h2 ⊢
  constructor
  ·rintro⟨v,hv,hp⟩
   rcases List.mem_append.1 hv with hv | hv
   ·split at hv
    ·rename_i hs
     exact⟨_,⟨.inl rfl,hs⟩,h1.1 ⟨v,hv,hp⟩⟩
    ·cases hv
   ·split at hv
    ·rename_i hs
     exact⟨_,⟨.inr rfl,hs⟩,h2.1 ⟨v,hv,hp⟩⟩
    ·cases hv
  ·rintro⟨c,⟨hc,hs⟩,hr⟩
   rcases hc with rfl | rfl
   ·obtain⟨v,hv,hp⟩:=h1.2 hr
    refine⟨v,EG _ ?_,hp⟩
    rw[if_pos hs];exact hv
   ·obtain⟨v,hv,hp⟩:=h2.2 hr
    refine⟨v,EM _ ?_,hp⟩
    rw[if_pos hs];exact hv
theorem Nn{K:Nat}{R:List ab}(hK:2≤K)(p:Int):(∃v∈crs K R (K-1) [],cm K v v.length=p)↔Wm K R (K-2) p:=by
 rw[ND]
 show Rn K R 0 (K-1) ((K:Int)-1) p↔Sd K R (K-2+1) p
 rw[show K-2+1=0+(K-1) by omega,OB]
 constructor
 ·intro h;exact⟨_,rfl,h⟩
 ·rintro⟨b,hb,h⟩
  have hb:b=(K:Int)-1:=hb
  subst hb;exact h
end Go.Proofs.YtdodahpkpeodfaaGreatDoor
namespace Go.Proofs.YtdodahpkpeodfaaGreatDoor
open Go.Kp
variable {N:Nat}
theorem NE{K:Nat}{R:List ab}(hd:DI K R)(hK:2≤K∧K≤8)(hN:20000≤N){w:List Int}(hw:w.length+1=K):∃u,KJ N (DE K R) w=some u∧0≤u∧u≤100:=by
 unfold KJ
 rw[HI hK hN,Hj]
 obtain⟨u,hu,h0⟩:=zg (N:=N) (B:=fun rec3 x=>JV N (DE K R) w (tre K) rec3 x.1 x.2) (Jq (K-1)) (fun i (a:Int)=>(a,(i:Int))) (fun i a=>0≤a∧a≤i) (fun u=>0≤u∧u≤100)
  (fun a rec ha=>by
   rw[Bn]at ha
   unfold JV
   rw[if_neg (by simp)]
   exact⟨a,rfl,by omega⟩)
  (fun i x a rec hx ha ih=>by
   have hlt:=lP hx
   rw[Bn]at hlt
   unfold JV
   rw[if_pos (by simp;omega),ij (NC (by omega)),Hj,Nb,Hj,Nc (by omega),Hj,ME hd hK.2 hN (by omega) (by omega),Hj,ij (IX (show i<w.length by omega)),Hj,fN (by omega)]
   have hc:∃b,(if decide (stl K R i (cm K w i)<0)then some (decide (w[i]=max (fs K i) (cm K w i)))else some false)=some b:=by split<;>exact⟨_,rfl⟩
   obtain⟨b,hb⟩:=hc
   rw[hb,Hj]
   cases b with
   | true =>
    simp only[if_true,Hj]
    rw[bE (by omega) (by omega)]
    exact ih _ (by omega)
   | false =>
    simp only[IE,if_false,Hj]
    exact ih _ (by omega))
  (by rw[Bn];omega) 0 (by simp)
 simp only[yN]at hu
 rw[hu]
 exact⟨u,rfl,h0⟩
theorem Oq{K:Nat}{w:List Int}(h:0<w.length):idx w (w64 ((w.length:Int)-1))=some (cm K w w.length)∨4611686018427387904≤w.length:=by
 by_cases hb:w.length<4611686018427387904
 ·left
  rw[bE (by omega) (by omega),show(w.length:Int)-1=((w.length-1:Nat):Int) by omega]
  refine ij ?_
  unfold cm
  rw[if_neg (by omega),A5,IX (by omega)];rfl
 ·right;omega
theorem NU{K:Nat}{R:List ab}(hd:DI K R)(hK:2≤K∧K≤8)(hN:20000≤N):∃out,Ly N (DE K R)=some out∧out.length=K∧∀(p:Nat) (x:Int),out[p]? = some x→(0≤x↔Wm K R (K-2) (p:Int)):=by
 unfold Ly
 have e0:(DE K R).mn=(K:Int):=rfl
 have k0:loopN (fun rec3 x=>Kd N (DE K R) rec3 x.1 x.2) N (0,[])=some (Iu K (-1)):=by
  obtain⟨r,hr,hq⟩:=zh (B:=fun rec3 x=>Kd N (DE K R) rec3 x.1 x.2) (fun g (x:Int×List Int)=>∃n:Nat,x.1=n∧n+g=K∧x.2=Iu n (-1)) (fun r=>r=Iu K (-1))
   (fun g x rec hI ih=>by
    obtain⟨x1,x2⟩:=x
    obtain⟨n,hn,hg,hx⟩:=hI
    simp only at hn hx
    subst hn hx
    unfold Kd
    rw[e0]
    by_cases h:n<K
    ·rw[if_pos (by simp only[decide_eq_true_eq];omega),nL (by simp;omega),Hj,fN (by omega)]
     exact ih (g-1) _ (by omega) ⟨n+1,rfl,by omega,by rw[List.replicate_succ']⟩
    ·rw[if_neg (by simp only[decide_eq_true_eq];omega)]
     have:n=K:=by omega
     subst this
     exact⟨_,rfl,rfl⟩)
   N K (0,[]) ⟨0,rfl,by omega,rfl⟩ (by omega)
  rw[hr,hq]
 rw[k0,Hj,HI hK hN,Hj]
 have hc:LH N (DE K R) (tre K) []=some (crs K R (K-1) []):=L6 hd hK.2 hN (K-1) [] N (by simp;omega) (by omega)
 rw[hc,Hj]
 have hcl:=L8 K R (K-1) []
 have hp:(2:Nat) ^ (K-1)≤2 ^ 7:=Gz (by omega) (by omega)
 have hwb:∀v∈crs K R (K-1) [],v.length+1=K∧0≤cm K v v.length∧cm K v v.length<K:=fun v hv=>by
  have h1:=Nd K R _ _ v hv
  simp at h1
  have h2:=Oz (n:=K-2) (by omega) ((Nn (R:=R) hK.1 (cm K v v.length)).1 ⟨v,hv,rfl⟩)
  exact⟨by omega,h2⟩
 have hL:∀p:Int,(∃v∈crs K R (K-1) [],cm K v v.length=p)↔Wm K R (K-2) p:=Nn hK.1
 generalize crs K R (K-1) []=C at hcl hwb hL
 obtain⟨out,ho,h1,h2⟩:=zg (N:=N) (B:=fun rec5 x=>Kl N (DE K R) C rec5 x.1 x.2) C (fun i (a:List Int)=>((i:Int),a))
  (fun i a=>a.length=K∧∀(p:Nat) (x:Int),a[p]? = some x→(0≤x↔∃v∈C.take i,cm K v v.length=(p:Int)))
  (fun out=>out.length=K∧∀(p:Nat) (x:Int),out[p]? = some x→(0≤x↔∃v∈C,cm K v v.length=(p:Int)))
  (fun a rec ha=>by
   unfold Kl
   rw[if_neg (by simp)]
   rw[A4]at ha
   exact⟨a,rfl,ha⟩)
  (fun i v a rec hx ha ih=>by
   have hlt:=lP hx
   obtain⟨b1,b2,b3⟩:=hwb v (Jm hx)
   obtain⟨u,hu,hu0,hu1⟩:=NE hd hK hN b1
   have htk:∀p:Nat,(∃z∈C.take (i+1),cm K z z.length=(p:Int))↔(∃z∈C.take i,cm K z z.length=(p:Int))∨cm K v v.length=(p:Int):=fun p=>by
    rw[List.take_add_one,hx]
    simp only[Option.toList,AL,EP]
    constructor
    ·rintro⟨z,hz | rfl,hq⟩
     ·exact .inl ⟨z,hz,hq⟩
     ·exact .inr hq
    ·rintro(⟨z,hz,hq⟩ | hq)
     ·exact⟨z,.inl hz,hq⟩
     ·exact⟨v,.inr rfl,hq⟩
   have hcl2:=(Oq (K:=K) (w:=v) (by omega)).resolve_right (by omega)
   unfold Kl
   rw[if_pos (by simp only[decide_eq_true_eq];omega),ij hx,Hj,hcl2,Hj,hu,Hj,fN (by omega)]
   generalize hy:cm K v v.length=y at b2 b3 htk
   have hyl:y.toNat<a.length:=by omega
   have hyn:y=((y.toNat:Nat):Int):=by omega
   have hya:=IX hyl
   generalize a[y.toNat]=o at hya
   have hold:=ha.2 y.toNat o hya
   have hyi:=yy b2 hya
   rw[hyi,Hj,Hj]
   have hcond:(if decide (o<0)then some true else some (decide (u<o)))=some (decide (o<0∨u<o)):=by
    by_cases h:o<0<;>simp[h]
   rw[hcond,Hj]
   by_cases h:o<0∨u<o
   ·rw[if_pos (by simp only[decide_eq_true_eq];exact h),Hj]
    refine ih _ ⟨by rw[List.length_set];exact ha.1,fun p x hpx=>?_⟩
    rw[htk]
    by_cases hyp:y.toNat=p
    ·subst hyp
     rw[List.getElem?_set_self hyl]at hpx
     cases hpx
     exact⟨fun _=>.inr hyn,fun _=>hu0⟩
    ·rw[GO hyp]at hpx
     rw[ha.2 p x hpx]
     exact⟨.inl,fun q=>q.resolve_right fun e=>hyp (by rw[e];exact JD p)⟩
   ·rw[if_neg (by simp only[decide_eq_true_eq];exact h),Hj]
    refine ih _ ⟨ha.1,fun p x hpx=>?_⟩
    rw[htk]
    by_cases hyp:y.toNat=p
    ·subst hyp
     rw[hya]at hpx
     cases hpx
     exact⟨fun _=>.inr hyn,fun _=>Int.not_lt.1 fun q=>h (.inl q)⟩
    ·rw[ha.2 p x hpx]
     exact⟨.inl,fun q=>q.resolve_right fun e=>hyp (by rw[e];exact JD p)⟩)
  (by omega) (Iu K (-1)) ⟨by simp,fun p x hpx=>by
   have:x=-1:=by
    have:=Jm hpx
    exact(List.mem_replicate.1 this).2
   subst this
   simp⟩
 simp only[yN]at ho
 rw[ho]
 exact⟨out,rfl,h1,fun p x hx=>by rw[h2 p x hx,hL]⟩
theorem Ot{i:Nat}{s:aR}(hS:SI i s)(hD:DI s.az.length s.aP)(hN:20000≤N)(h2:2≤s.az.length):KN N (tr s)=some (res s.az.length s.aP s.az.length):=by
 have hbl:=hS.bl
 unfold KN
 have e1:(tr s).az=s.az:=rfl
 have ec:Eg N (tr s)=some (DE s.az.length s.aP):=rfl
 rw[e1,ec,if_neg (by simp only[decide_eq_true_eq];omega),Hj]
 generalize s.az.length=K at *
 generalize s.aP=R at *
 obtain⟨out,ho,hl,hw⟩:=NU (N:=N) hD ⟨h2,hbl⟩ hN
 rw[ho,Hj]
 obtain⟨z,hz,hq⟩:=zg (N:=N) (B:=fun rec3 x=>J1 N out rec3 x.1 x.2) out (fun i (a:List Int)=>((i:Int),a)) (fun i a=>a=res K R i) (fun z=>z=res K R K)
  (fun a rec ha=>by
   unfold J1
   rw[if_neg (by simp)]
   exact⟨a,rfl,by rw[ha,hl]⟩)
  (fun i x a rec hx ha ih=>by
   have hlt:=lP hx
   have hwi:=hw i x hx
   have hrl:=Na (K:=K) (R:=R) i
   subst ha
   unfold J1
   rw[if_pos (by simp only[decide_eq_true_eq];omega),ij hx,Hj,fN (by omega)]
   by_cases h:0≤x
   ·rw[if_pos (by simp only[decide_eq_true_eq];exact h),nL (by simp;omega),Hj,Hj]
    exact ih _ (NM (hwi.1 h)).symm
   ·rw[if_neg (by simp only[decide_eq_true_eq];exact h),Hj]
    exact ih _ (N1 (fun q=>h (hwi.2 q))).symm)
  (by omega) [] (by unfold res;simp)
 simp only[yN]at hz
 rw[hz,hq];rfl
end Go.Proofs.YtdodahpkpeodfaaGreatDoor
namespace Go.Proofs.YtdodahpkpeodfaaGreatDoor.R
open Go.Kp
def cs (s:xh):aH:=⟨s.bX,s.af,s.j2,s.bg⟩
def cl (l:wy):wz:=⟨l.o8,l.jF,l.uq,l.ue,l.o9⟩
def cb (b:ml):mP:=⟨cl b.fu,b.az,b.aD.map cs,b.ak⟩
def inr (n a b:Int):Bool:=decide (a≤n)&&decide (n≤b)
theorem inr_iff{n a b:Int}:inr n a b=true↔a≤n∧n≤b:=by simp[inr]
section
variable {N:Nat}
theorem AB(n a b:Int):dZ N n a b=some (inr n a b):=by
 unfold dZ inr
 cases decide (a≤n)<;>rfl
theorem GD(n a b:Int):cJ N n a b=some (inr n a b):=by
 unfold cJ inr
 cases decide (a≤n)<;>rfl
theorem Lb(n:Int):gp N n=some (inr n 0 300):=by unfold gp;rw[AB];rfl
theorem number_eq(n:Int):F1 N n=some (inr n 1 999):=by unfold F1;rw[AB];rfl
theorem LC(n:Int):nH N n=some (inr n 1 30):=by unfold nH;rw[AB];rfl
def lawOk(l:wy):Bool:=inr l.o8 0 300&&(inr l.jF 0 100&&(inr l.uq 0 300&&(inr l.ue 1 30&&inr l.o9 0 300)))
theorem Lc(l:wy):iV N (cl l)=some (lawOk l):=by
 unfold iV lawOk cl
 simp only[AB,Lb,Hj]
 cases inr l.o8 0 300<;>cases inr l.jF 0 100<;>cases inr l.uq 0 300<;>cases inr l.ue 1 30<;>cases inr l.o9 0 300<;>rfl
def gamesOk(g:Ar3 Int):Bool:=inr g.a0 0 300&&(inr g.a1 0 300&&inr g.a2 0 300)
def sheetOk(n:Nat)(s:xh):Bool:=inr s.bX 1 999&&(inr s.af 0 ((n:Int)-1)&&(inr s.j2 1 30&&gamesOk s.bg))
def LW (b:ml):Bool:=decide (b.az.length≤8)&&(decide (b.aD.length≤40)&&decide (b.ak.length≤40))
def KL (b:ml):Bool:=lawOk b.fu&&(ris b.ak&&(b.az.all (fun n=>inr n 0 300)&&(b.ak.all (fun n=>inr n 1 999)&&b.aD.all (sheetOk b.az.length))))
def two (s t:xh):Bool:=decide (s.bX=t.bX)&&!decide (s=t)
def dup:List xh→List xh→Bool
 | _,[]=>false
 | pre,x::r=>pre.any (two x)||dup (pre++[x]) r
def flt (b:ml):Int:=if LW b then(if KL b then(if dup [] b.aD then 6 else 0)else 1)else 3
theorem Mg(s t:xh):(if decide ((cs s).bX=(cs t).bX)then(if !decide ((cs s).af=(cs t).af)then some true else if !decide ((cs s).j2=(cs t).j2)then some true else some (!decide ((cs s).bg=(cs t).bg)))else some false)=some (two s t):=by
 obtain⟨a,b,c,d⟩:=s
 obtain⟨a',b',c',d'⟩:=t
 simp only[cs,two,xh.mk.injEq]
 by_cases h1:a=a'<;>by_cases h2:b=b'<;>by_cases h3:c=c'<;>by_cases h4:d=d'<;>simp[h1,h2,h3,h4]
variable (hN:4000≤N)
include hN
theorem Cb{xs:List Int}(h:xs.length≤1000):gc N xs=some xs:=by
 unfold gc
 rw[nL (by simp;omega)]
 simp
theorem LL(l:List Int)(h:l.length≤1000):MJ N l=some (ris l):=by
 unfold MJ;exact K5 l (by omega) (by omega)
theorem LX(l:List Int)(h:l.length≤1000):pW N l=some (l.all fun n=>inr n 0 300):=by
 unfold pW cK dl
 exact tZ l (nF N) _ (fun x _=>by unfold nF;rw[Lb];rfl) (by omega) (by omega)
theorem LZ(l:List Int)(h:l.length≤1000):lK N l=some (l.all fun n=>inr n 1 999):=by
 unfold lK ck yu
 exact tZ l (Ii N) _ (fun x _=>by unfold Ii;rw[number_eq];rfl) (by omega) (by omega)
theorem BD(b:mP)(h:b.az.length≤1000)(n:Int):gG N b n=some (inr n 0 ((b.az.length:Int)-1)):=by
 unfold gG
 rw[AB,bE (by omega) (by omega)];rfl
theorem BT(b:ml)(h:b.az.length≤1000)(s:xh):EF N (cb b) (cs s)=some (sheetOk b.az.length s):=by
 unfold EF sheetOk gamesOk
 simp only[number_eq,LC,BD hN (cb b) h,Hj]
 rw[LX hN _ (by simp)]
 have e:(cb b).az=b.az:=rfl
 rw[e]
 simp only[cs,List.all_cons,List.all_nil,Cf,Hj]
 cases inr s.bX 1 999<;>cases inr s.af 0 ((b.az.length:Int)-1)<;>cases inr s.j2 1 30<;>rfl
theorem Mb(b:ml)(h:b.az.length≤1000)(l:List xh)(hl:l.length≤1000):nG N (l.map cs) (cb b)=some (l.all (sheetOk b.az.length)):=by
 unfold nG cz cV
 have:=tZ (N:=N) (l.map cs) (fun x=>Ju N x (cb b)) (fun x=>sheetOk b.az.length ⟨x.bX,x.af,x.j2,x.bg⟩) (fun x hx=>by
  obtain⟨s,_,rfl⟩:=List.mem_map.1 hx
  unfold Ju
  rw[BT hN b h s];rfl) (by simp;omega) (by simp;omega)
 refine Eq.trans this ?_
 rw[List.all_map];rfl
theorem vA(b:ml):ic N (cb b)=some (flt b):=by
 unfold ic flt LW
 simp only[cb,Ia]
 by_cases c1:b.az.length≤8
 ·by_cases c2:b.aD.length≤40
  ·by_cases c3:b.ak.length≤40
   ·have d1:¬((8:Int)<(b.az.length:Int)):=by omega
    have d2:¬((40:Int)<(b.aD.length:Int)):=by omega
    have d3:¬((40:Int)<(b.ak.length:Int)):=by omega
    simp only[d1,d2,d3,c1,c2,c3,decide_true,decide_false,CS,IE,if_false,if_true,Hj]
    have e1:=Lc (N:=N) b.fu
    have e2:=LX hN b.az (by omega)
    have e3:=Mb hN b (by omega) b.aD (by omega)
    have e4:=LZ hN b.ak (by omega)
    have e5:=LL hN b.ak (by omega)
    simp only[cb]at e3
    simp only[e1,e2,e3,e4,e5,Hj]
    have e6:loopN (fun rec13 x=>zH N {fu:=cl b.fu,az:=b.az,aD:=b.aD.map cs,ak:=b.ak} rec13 x.1 x.2) N (((b.aD.length:Int),0))=some (if dup [] b.aD then 6 else 0):=by
     have:=o6 (N:=N) (B:=fun rec13 x=>zH N {fu:=cl b.fu,az:=b.az,aD:=b.aD.map cs,ak:=b.ak} rec13 x.1 x.2) b.aD (fun i=>((b.aD.length:Int),(i:Int)))
      (fun i r=>some (if dup (b.aD.take i) r then 6 else 0))
      (fun rec=>by simp[zH,Ek,dup])
      (fun i x rec hx h=>by
       have hlt:=lP hx
       show zH N _ rec (b.aD.length:Int) (i:Int)=_
       unfold zH
       have hx':(b.aD.map cs)[i]? = some (cs x):=by simp[hx]
       simp only[show((i:Int)<(b.aD.length:Int))from by omega,decide_true,if_true,ij hx',Hj]
       rw[rX (by omega) (by omega) (by simp;omega),Hj]
       simp only[JD,Int.toNat_zero,Em,← List.map_take]
       have hin:=rY (N:=N) (B:=fun rec15 x_1=>Ai N (b.aD.length:Int) (i:Int) rec (cs x) ((b.aD.take i).map cs) rec15 x_1.1 x_1.2) (b.aD.take i)
        (fun k=>((((b.aD.take i).map cs).length:Int),(k:Int))) (fun r=>if r.any (two x)then some 6 else rec ((b.aD.length:Int),w64 ((i:Int)+1)))
        (fun rec'=>by simp[Ai,Eu])
        (fun k y rec' hy h'=>by
         have hlt':=lP hy
         show Ai N _ _ rec (cs x) _ rec' _ (k:Int)=_
         unfold Ai
         have hy':((b.aD.take i).map cs)[k]? = some (cs y):=by simp only[Jr,hy];rfl
         simp only[show((k:Int)<(((b.aD.take i).map cs).length:Int))from by rw[Ia];omega,decide_true,if_true,ij hy',Hj,Mg,fN (i:=k) (by simp at hlt';omega),h',List.any_cons]
         by_cases hq:two x y=true<;>simp[hq]) (by simp;omega)
       refine Eq.trans hin ?_
       simp only[fN (i:=i) (by omega),h,dup]
       have ht:b.aD.take (i+1)=b.aD.take i++[x]:=by rw[List.take_add_one,hx];rfl
       rw[ht]
       by_cases hq:(b.aD.take i).any (two x)=true<;>simp only[hq,if_true,if_false,Bool.true_or,Bool.false_or,IE]) (by omega) 0 (by omega)
     simpa using this
    simp only[e6,KL]
    by_cases q1:lawOk b.fu=true<;>by_cases q2:ris b.ak=true<;>by_cases q3:(b.az.all fun n=>inr n 0 300)=true<;>by_cases q4:(b.ak.all fun n=>inr n 1 999)=true<;>by_cases q5:b.aD.all (sheetOk b.az.length)=true<;>simp only[q1,q2,q3,q4,q5,yo,Da,IE,if_true,if_false,Bool.true_and,Cf,Bool.and_false,Bool.false_and,Hj,BI]at*<;> simp[*]
   ·have d1:¬((8:Int)<(b.az.length:Int)):=by omega
    have d2:¬((40:Int)<(b.aD.length:Int)):=by omega
    have d3:((40:Int)<(b.ak.length:Int)):=by omega
    simp[d1,d2,d3,c1,c2,c3]
  ·have d1:¬((8:Int)<(b.az.length:Int)):=by omega
   have d2:((40:Int)<(b.aD.length:Int)):=by omega
   simp[d1,d2,c1,c2]
 ·have d1:((8:Int)<(b.az.length:Int)):=by omega
  simp[d1,c1]
end
theorem KY:∀(l pre:List xh),dup pre l=false↔(∀x∈l,∀y∈pre,x.bX=y.bX→x=y)∧l.Pairwise (fun y x=>x.bX=y.bX→x=y)
 | [],pre=>by simp[dup]
 | x::l,pre=>by
  rw[dup,Bool.or_eq_false_iff,KY l,En]
  simp only[List.any_eq_false,two,wH,decide_eq_true_eq,zZ,decide_eq_false_iff_not,not_and,Decidable.not_not,AL,EP,D8]
  constructor
  ·rintro⟨h1,h2,h3⟩
   refine⟨?_,fun z hz e=>h2 z hz x (.inr (.inl rfl)) e,h3⟩
   rintro z (rfl | hz) y hy e
   ·exact h1 y hy e
   ·exact h2 z hz y (.inl hy) e
  ·rintro⟨h1,h2,h3⟩
   refine⟨fun y hy e=>h1 x (.inl rfl) y hy e,?_,h3⟩
   rintro z hz y (hy | rfl | hy) e
   ·exact h1 z (.inr hz) y hy e
   ·exact h2 z hz e
   ·cases hy
def Ls (l:List xh):Prop:=∀s∈l,∀t∈l,s.bX=t.bX→s=t
theorem Ld:∀(l:List xh),l.Pairwise (fun y x=>x.bX=y.bX→x=y)↔Ls l
 | []=>by simp[Ls]
 | x::l=>by
  rw[En,Ld l]
  constructor
  ·rintro⟨h1,h2⟩ s hs t ht e
   rcases List.mem_cons.1 hs with hs' | hs'<;>rcases List.mem_cons.1 ht with ht' | ht'
   ·rw[hs',ht']
   ·subst hs';exact(h1 t ht' e.symm).symm
   ·subst ht';exact h1 s hs' e
   ·exact h2 s hs' t ht' e
  ·intro h
   exact⟨fun y hy e=>h y (by simp[hy]) x (by simp) e,fun s hs t ht e=>h s (by simp[hs]) t (by simp[ht]) e⟩
theorem Le(l:List xh):dup [] l=false↔Ls l:=by rw[KY,Ld];simp
structure Val(b:ml):Prop where
 nb:b.az.length≤8
 ns:b.aD.length≤40
 nw:b.ak.length≤40
 law:lawOk b.fu=true
 ris:b.ak.Pairwise (·<·)
 bow:∀n∈b.az,0≤n∧n≤300
 wd:∀n∈b.ak,1≤n∧n≤999
 sh:∀s∈b.aD,sheetOk b.az.length s=true
 once:Ls b.aD
theorem flt_zero{b:ml}:flt b=0↔Val b:=by
 unfold flt
 constructor
 ·intro h
  split at h
  ·rename_i h1
   split at h
   ·rename_i h2
    split at h
    ·cases h
    ·rename_i h3
     simp only[LW,wH,decide_eq_true_eq]at h1
     simp only[KL,wH,Ce]at h2
     exact⟨h1.1,h1.2.1,h1.2.2,h2.1,(K4 _).1 h2.2.1,fun n hn=>inr_iff.1 (h2.2.2.1 n hn),fun n hn=>inr_iff.1 (h2.2.2.2.1 n hn),fun s hs=>h2.2.2.2.2 s hs,(Le _).1 (by simpa using h3)⟩
   ·cases h
  ·cases h
 ·intro v
  have h1:LW b=true:=by simp[LW,v.nb,v.ns,v.nw]
  have h2:KL b=true:=by
   simp only[KL,wH,Ce]
   exact⟨v.law,(K4 _).2 v.ris,fun n hn=>inr_iff.2 (v.bow n hn),fun n hn=>inr_iff.2 (v.wd n hn),fun s hs=>v.sh s hs⟩
  rw[if_pos h1,if_pos h2,if_neg (by rw[(Le _).2 v.once];simp)]
end Go.Proofs.YtdodahpkpeodfaaGreatDoor.R
namespace Go.Proofs.YtdodahpkpeodfaaGreatDoor.R
open Go.Kp
def C (b:ml)(k w:Int)(s:xh):Prop:=s∈b.aD∧s.af=k∧s.j2=w∧s.bX∉b.ak
def IsB (P:xh→Prop):Option xh→Prop
 | none=>∀s,¬P s
 | some s=>P s∧∀t,P t→t.bX≤s.bX
theorem IsB.unique{P:xh→Prop}(hP:∀s t,P s→P t→s.bX=t.bX→s=t):∀{a a':Option xh},IsB P a→IsB P a'→a=a'
 | none,none,_,_=>rfl
 | none,some s,h,h'=>absurd h'.1 (h s)
 | some s,none,h,h'=>absurd h.1 (h' s)
 | some s,some t,h,h'=>by
  have h1:=h.2 t h'.1
  have h2:=h'.2 s h.1
  rw[hP s t h.1 h'.1 (by omega)]
theorem IsB.congr{P P':xh→Prop}(h:∀s,P s↔P' s){a:Option xh}(ha:IsB P a):IsB P' a:=by
 cases a with
 | none=>exact fun s hs=>ha s ((h s).2 hs)
 | some t=>exact⟨(h t).1 ha.1,fun s hs=>ha.2 s ((h s).2 hs)⟩
def JP (o:Option Int)(n:Int):Bool:=match o with | none=>true | some t=>decide (t<n)
def Lg (wd:List Int)(k w:Int)(a:Option xh)(s:xh):Option xh :=
 if decide (s.af=k)&&decide (s.j2=w)&&(!decide (s.bX∈wd)&&JP (a.map (·.bX)) s.bX)then some s else a
def of (b:ml)(k w:Int):Option xh:=b.aD.foldl (Lg b.ak k w) none
theorem Lh(wd:List Int)(k w:Int):∀(l pre:List xh) (a:Option xh),IsB (fun s=>s∈pre∧s.af=k∧s.j2=w∧s.bX∉wd) a →
  IsB (fun s=>s∈pre++l∧s.af=k∧s.j2=w∧s.bX∉wd) (l.foldl (Lg wd k w) a)
 | [],pre,a,h=>by simpa using h
 | x::l,pre,a,h=>by
  rw[wx,show pre++x::l=(pre++[x])++l by simp]
  refine Lh wd k w l (pre++[x]) _ ?_
  unfold Lg
  by_cases hc:x.af=k∧x.j2=w∧x.bX∉wd
  ·obtain⟨h1,h2,h3⟩:=hc
   simp only[h1,h2,h3,decide_true,decide_false,Da,CS,Bool.true_and]
   cases a with
   | none =>
    simp only[JP,Option.map_none,if_true]
    refine⟨⟨by simp,h1,h2,h3⟩,fun t ht=>?_⟩
    rcases List.mem_append.1 ht.1 with q | q
    ·exact absurd ⟨q,ht.2⟩ (h t)
    ·rw[List.mem_singleton.1 q];exact zD _
   | some s =>
    simp only[JP,Option.map_some,decide_eq_true_eq]
    by_cases hlt:s.bX<x.bX
    ·rw[if_pos hlt]
     refine⟨⟨by simp,h1,h2,h3⟩,fun t ht=>?_⟩
     rcases List.mem_append.1 ht.1 with q | q
     ·have:=h.2 t ⟨q,ht.2⟩;omega
     ·rw[List.mem_singleton.1 q];exact zD _
    ·rw[if_neg hlt]
     refine⟨⟨by simp[h.1.1],h.1.2⟩,fun t ht=>?_⟩
     rcases List.mem_append.1 ht.1 with q | q
     ·exact h.2 t ⟨q,ht.2⟩
     ·rw[List.mem_singleton.1 q];omega
  ·have e:(decide (x.af=k)&&decide (x.j2=w)&&(!decide (x.bX∈wd)&&JP (a.map (·.bX)) x.bX))=false:=by
    rw[← BI]
    intro hh
    simp only[wH,decide_eq_true_eq,zZ,decide_eq_false_iff_not]at hh
    exact hc ⟨hh.1.1,hh.1.2,hh.2.1⟩
   rw[e]
   simp only[IE,if_false]
   refine h.congr fun s=>?_
   simp only[AL,EP]
   constructor
   ·rintro⟨q,r⟩;exact⟨.inl q,r⟩
   ·rintro⟨q | q,r⟩
    ·exact⟨q,r⟩
    ·exact absurd (q▸r) hc
theorem K7(b:ml)(k w:Int):IsB (C b k w) (of b k w):=by
 have:=Lh b.ak k w b.aD [] none (fun s h=>by simp at h)
 exact this.congr fun s=>by simp[C]
theorem Mh{b:ml}(h:Ls b.aD){k w:Int}(s t:xh)(hs:C b k w s)(ht:C b k w t)(e:s.bX=t.bX):s=t:=h s hs.1 t ht.1 e
theorem Mo{b:ml}(h:Ls b.aD){k w:Int}{a:Option xh}(ha:IsB (C b k w) a):of b k w=a:=(K7 b k w).unique (Mh h) ha
def Lt (s:xh):xV:=⟨s.af,s.j2⟩
def Li (wd:List Int)(m:List (xV×aH))(s:xh):List (xV×aH) :=
 if !decide (s.bX∈wd)&&JP ((mget m (Lt s)).map (·.bX)) s.bX then mput m (Lt s) (cs s)else m
def mapOf(b:ml):List (xV×aH):=b.aD.foldl (Li b.ak) []
theorem Lj(wd:List Int)(k w:Int):∀(l:List xh) (m:List (xV×aH)) (a:Option xh),mget m ⟨k,w⟩=a.map cs →
  mget (l.foldl (Li wd) m) ⟨k,w⟩=(l.foldl (Lg wd k w) a).map cs
 | [],m,a,h=>h
 | x::l,m,a,h=>by
  rw[wx,wx]
  refine Lj wd k w l _ _ ?_
  unfold Li Lg
  by_cases hk:x.af=k∧x.j2=w
  ·obtain⟨h1,h2⟩:=hk
   have ht:Lt x=⟨k,w⟩:=by unfold Lt;rw[h1,h2]
   have e:(mget m ⟨k,w⟩).map (·.bX)=a.map (·.bX):=by rw[h];cases a<;>rfl
   rw[ht,e]
   simp only[h1,h2,decide_true,Bool.true_and]
   by_cases hc:(!decide (x.bX∈wd)&&JP (a.map (·.bX)) x.bX)=true
   ·rw[if_pos hc,if_pos (by simpa using hc),Az,if_pos rfl];rfl
   ·rw[if_neg hc,if_neg (by simpa using hc),h]
  ·have e2:(decide (x.af=k)&&decide (x.j2=w)&&(!decide (x.bX∈wd)&&JP (a.map (·.bX)) x.bX))=false:=by
    rw[← BI]
    intro hh
    simp only[wH,decide_eq_true_eq]at hh
    exact hk hh.1
   rw[e2]
   simp only[IE,if_false]
   split
   ·rw[Az,if_neg (fun e=>hk (by simp only[Lt,xV.mk.injEq]at e;exact⟨e.1.symm,e.2.symm⟩)),h]
   ·exact h
theorem Mi(b:ml)(k w:Int):mget (mapOf b) ⟨k,w⟩=(of b k w).map cs:=Lj _ k w _ [] none rfl
theorem MA(b:ml):((mapOf b).map (·.1)).Nodup:=by
 have:∀(l:List xh) (m:List (xV×aH)),(m.map (·.1)).Nodup→((l.foldl (Li b.ak) m).map (·.1)).Nodup:=by
  intro l
  induction l with
  | nil=>intro m h;exact h
  | cons x l ih =>
   intro m h
   rw[wx]
   refine ih _ ?_
   unfold Li
   split
   ·exact MQ h _ _
   ·exact h
 exact this _ [] (by simp)
def counts(b:ml)(s:xh):Bool :=
 !decide (s.bX∈b.ak)&&!b.aD.any (fun t=>decide (t.af=s.af)&&(decide (t.j2=s.j2)&&(decide (s.bX<t.bX)&&!decide (t.bX∈b.ak))))
theorem counts_iff{b:ml}(h:Ls b.aD){s:xh}(hs:s∈b.aD):counts b s=true↔of b s.af s.j2=some s:=by
 have hB:=K7 b s.af s.j2
 simp only[counts,wH,zZ,decide_eq_false_iff_not,List.any_eq_false,decide_eq_true_eq,not_and,Decidable.not_not]
 constructor
 ·rintro⟨h1,h2⟩
  refine Mo h ⟨⟨hs,rfl,rfl,h1⟩,fun t ht=>?_⟩
  rcases Int.lt_or_le s.bX t.bX with q | q
  ·exact absurd (h2 t ht.1 ht.2.1 ht.2.2.1 q) ht.2.2.2
  ·exact q
 ·intro e
  rw[e]at hB
  refine⟨hB.1.2.2.2,fun t ht h1 h2 h3=>?_⟩
  by_cases hw:t.bX∈b.ak
  ·exact hw
  ·have:=hB.2 t ⟨ht,h1,h2,hw⟩;omega
section
variable {N:Nat}(hN:4000≤N)
include hN
theorem Lu(l:List Int)(n:Int)(h:l.length≤1000):yP N l n=some (decide (n∈l)):=by
 unfold yP zx
 exact AZ l n (by omega) (by omega)
theorem has_eq(l:List Int)(n:Int)(h:l.length≤1000):DP N l n=some (decide (n∈l)):=by
 unfold DP
 exact GW l n (by omega) (by omega)
theorem Mp(b:ml)(h1:b.aD.length≤1000)(h2:b.ak.length≤1000) :
  loopN (fun rec3 x=>cO N (cb b) rec3 x.1 x.2.1 x.2.2) N (((cb b).aD.length:Int),0,[])=some (mapOf b):=by
 have:=lO (N:=N) (B:=fun rec3 x=>cO N (cb b) rec3 x.1 x.2.1 x.2.2) b.aD (fun i (m:List (xV×aH))=>(((cb b).aD.length:Int),(i:Int),m)) (fun r m=>some (r.foldl (Li b.ak) m)) (fun _ _=>True)
  (fun m rec _=>by
   show cO N (cb b) rec _ _ m=_
   simp[cO,cb])
  (fun i x m rec hx _ h=>by
   have hlt:=lP hx
   show cO N (cb b) rec _ (i:Int) m=_
   unfold cO
   have hx':(cb b).aD[i]? = some (cs x):=by simp[cb,hx]
   have hl:(cb b).aD.length=b.aD.length:=by simp[cb]
   have hw:(cb b).ak=b.ak:=rfl
   simp only[show((i:Int)<((cb b).aD.length:Int))from by omega,decide_true,if_true,ij hx',Hj,hw,Lu hN _ _ h2,mgt]
   rw[wx,← h _ trivial,fN (i:=i) (by omega)]
   unfold Li
   have ht:(⟨(cs x).af,(cs x).j2⟩:xV)=Lt x:=rfl
   have hn:(cs x).bX=x.bX:=rfl
   rw[ht,hn]
   cases hg:mget m (Lt x)with
   | none =>
    by_cases hm:x.bX∈b.ak<;>simp[hm,JP]
   | some t =>
    by_cases hm:x.bX∈b.ak
    ·simp[hm,JP]
    ·by_cases hlt2:t.bX<x.bX<;>simp[hm,JP,hlt2]) (by omega) [] trivial
 exact this
theorem read_eq(b:ml):gg N (cb b)=some (if flt b=0 then .inr (0,b.fu.o8,b.fu.jF,b.fu.uq,b.fu.ue,b.fu.o9,b.az,b.aD.map cs,b.ak,mapOf b)else .inl (flt b)):=by
 unfold gg
 rw[vA hN]
 simp only[Hj]
 by_cases h:flt b=0
 ·have v:=flt_zero.1 h
  have h1:=v.ns
  have h2:=v.nw
  rw[Mp hN b (by omega) (by omega)]
  simp[h,cb,cl]
 ·simp[h]
theorem rcounts_eq(b:ml)(s:xh)(h1:b.aD.length≤1000)(h2:b.ak.length≤1000):GP N b s=some (counts b s):=by
 unfold GP counts
 rw[has_eq hN _ _ h2]
 simp only[Hj]
 have:=rY (N:=N) (B:=fun rec3 x=>zQ N b s rec3 x) b.aD (fun i=>(i:Int))
  (fun r=>some (!r.any (fun t=>decide (t.af=s.af)&&(decide (t.j2=s.j2)&&(decide (s.bX<t.bX)&&!decide (t.bX∈b.ak))))))
  (fun rec=>by
   show zQ N b s rec _=_
   simp[zQ,FO])
  (fun i x rec hx h=>by
   have hlt:=lP hx
   show zQ N b s rec (i:Int)=_
   unfold zQ
   simp only[show((i:Int)<(b.aD.length:Int))from by omega,decide_true,if_true,ij hx,Hj,fN (i:=i) (by omega),h,has_eq hN _ _ h2,List.any_cons]
   by_cases q1:x.af=s.af<;>by_cases q2:x.j2=s.j2<;>by_cases q3:s.bX<x.bX<;>by_cases q4:x.bX∈b.ak<;>simp[q1,q2,q3,q4]) (by omega)
 have this':loopN (fun rec3 x=>zQ N b s rec3 x) N 0=_:=this
 rw[this']
 by_cases hm:s.bX∈b.ak<;>simp[hm]
def nums:List Int:=(Jq 999).map fun(i:Nat)=>(i:Int)+1
def isC (b:ml)(n:Int):Bool:=b.aD.any fun s=>decide (s.bX=n)&&counts b s
def cnt (b:ml):List Int:=nums.filter (isC b)
omit hN in
theorem nums_len:nums.length=999:=by unfold nums;rw[Ia,Bn]
omit hN in
theorem NN:nums.Pairwise (·<·):=by
 unfold nums
 rw[List.pairwise_map]
 exact(List.pairwise_lt_range (n:=999)).imp fun h=>by omega
omit hN in
theorem N9{n:Int}:n∈nums↔1≤n∧n≤999:=by
 unfold nums
 rw[List.mem_map]
 constructor
 ·rintro⟨i,hi,rfl⟩
  have:=List.mem_range.1 hi;omega
 ·rintro⟨h1,h2⟩
  exact⟨(n-1).toNat,List.mem_range.2 (by omega),by omega⟩
omit hN in
theorem NO{b:ml}(v:Val b){n:Int}:isC b n=true↔∃p∈mapOf b,p.2.bX=n:=by
 unfold isC
 simp only[List.any_eq_true,wH,decide_eq_true_eq]
 constructor
 ·rintro⟨s,hs,rfl,hc⟩
  refine⟨(Lt s,cs s),(MS (MA b)).2 ?_,rfl⟩
  show mget (mapOf b) ⟨s.af,s.j2⟩=some (cs s)
  rw[Mi,(counts_iff v.once hs).1 hc];rfl
 ·rintro⟨⟨⟨k,w⟩,t⟩,hp,rfl⟩
  have:=(MS (MA b)).1 hp
  simp only at this
  rw[Mi]at this
  cases ho:of b k w with
  | none=>rw[ho]at this;cases this
  | some s =>
   rw[ho]at this
   have e:cs s=t:=by simpa using this
   have hB:=K7 b k w
   rw[ho]at hB
   obtain⟨m1,m2,m3,m4⟩:=hB.1
   refine⟨s,m1,by rw[← e];rfl,?_⟩
   rw[← m2,← m3]at ho
   exact(counts_iff v.once m1).2 ho
omit hN in
theorem Oa{b:ml}(v:Val b):((mapOf b).map (·.2.bX)).Perm (cnt b):=by
 have nd1:((mapOf b).map (·.2.bX)).Nodup:=by
  have h:=MA b
  have hm:∀p∈mapOf b,∃s,of b p.1.af p.1.j2=some s∧cs s=p.2:=by
   intro p hp
   have:=(MS h).1 hp
   have e:p.1=⟨p.1.af,p.1.j2⟩:=rfl
   rw[e,Mi]at this
   cases ho:of b p.1.af p.1.j2 with
   | none=>rw[ho]at this;cases this
   | some s=>rw[ho]at this;exact⟨s,rfl,by simpa using this⟩
  rw[List.nodup_iff_pairwise_ne,List.pairwise_map]at h ⊢
  refine List.Pairwise.imp_of_mem ?_ h
  intro p q hp hq hne e
  obtain⟨s,hs,e1⟩:=hm p hp
  obtain⟨t,ht,e2⟩:=hm q hq
  have hB:=K7 b p.1.af p.1.j2
  have hB':=K7 b q.1.af q.1.j2
  rw[hs]at hB
  rw[ht]at hB'
  have en:s.bX=t.bX:=by rw[← e1,← e2]at e;exact e
  have:=v.once s hB.1.1 t hB'.1.1 en
  subst this
  refine hne ?_
  have a1:=hB.1.2.1
  have a2:=hB.1.2.2.1
  have a3:=hB'.1.2.1
  have a4:=hB'.1.2.2.1
  obtain⟨⟨k,w⟩,_⟩:=p
  obtain⟨⟨k',w'⟩,_⟩:=q
  simp only at a1 a2 a3 a4 ⊢
  rw[← a1,← a2,← a3,← a4]
 have nd2:(cnt b).Nodup:=((NN).filter (isC b)).imp fun h=>by omega
 refine(List.perm_ext_iff_of_nodup nd1 nd2).2 fun n=>?_
 rw[List.mem_map]
 unfold cnt
 rw[List.mem_filter,NO v,N9]
 constructor
 ·rintro⟨p,hp,rfl⟩
  refine⟨?_,p,hp,rfl⟩
  obtain⟨s,hs,h⟩:=List.any_eq_true.1 ((NO v (n:=p.2.bX)).2 ⟨p,hp,rfl⟩)
  have e:s.bX=p.2.bX:=by
   have:=(wH _ _▸h).1
   exact of_decide_eq_true this
  have:=v.sh s hs
  simp only[sheetOk,wH]at this
  rw[← e]
  exact inr_iff.1 this.1
 ·rintro⟨_,p,hp,rfl⟩
  exact⟨p,hp,rfl⟩
theorem LO{Q:List Int×Int→Prop}(full:List Int)(hf:full.Pairwise (·<·))(hl:full.length≤1000)(hQ:Q (full,0)):∀(n:Nat) (rem:List (xV×aH)) (l:List Int),rem.length<n→(l++rem.map (·.2.bX)).Perm full →
  aG (fun rec3 x=>bx N rec3 x.1 x.2) n (l,rem) Q
 | 0,_,_,h,_=>by omega
 | n+1,rem,l,h,hp=>by
  show bx N _ l rem Q
  unfold bx
  have hlen:=hp.length_eq
  rw[Js,Ia]at hlen
  refine⟨fun h0=>?_,fun pre e post hs=>?_⟩
  ·subst h0
   unfold J4
   simp only[List.map_nil,Bc]at hp
   refine⟨full,?_,hQ⟩
   unfold sortI
   rw[if_pos (by rw[hp.length_eq];omega),Nl hp hf]
  ·obtain⟨k,t⟩:=e
   subst hs
   refine⟨_,nL (by simp at hlen ⊢;omega),?_⟩
   refine LO full hf hl hQ n _ _ (by simp at h ⊢;omega) (List.Perm.trans ?_ hp)
   simp only[zR,xZ,zb,List.singleton_append]
   exact List.Perm.append_left _ List.perm_middle.symm
theorem MV(b:mP):WGood (fp N b):=by
 unfold fp
 refine .bindO fun z=>?_
 cases z with
 | inl r=>exact .ite (.ret _) .fail
 | inr r =>
  obtain⟨a,b,c,d,e,f,g,h,i,j⟩:=r
  refine .ite (.ret _) (.loop (fun rec x hr=>?_) _ _)
  unfold bx J4
  exact .next (.bindO fun _=>.ret _) fun p l=>.bindO fun _=>hr _
theorem counting_eq(b:ml):gh N (cb b)=some (if flt b=0 then(cnt b,0)else([],flt b)):=by
 unfold gh
 refine vF (MV hN _) ?_
 unfold fp
 refine⟨_,read_eq hN b,?_⟩
 by_cases h:flt b=0
 ·have v:=flt_zero.1 h
  rw[if_pos h,if_pos h]
  simp only[decide_true,yo,IE,if_false]
  have hl:(cnt b).length≤1000:=by
   unfold cnt
   refine zW (List.length_filter_le _ _) ?_
   rw[nums_len];omega
  have hp:=Oa v
  refine LO (Q:=fun x=>x=(cnt b,0)) hN (cnt b) (NN.filter _) hl (Eq.refl _) N (mapOf b) [] ?_ (by rw[y9];exact hp)
  have:=hp.length_eq
  rw[Ia]at this
  omega
 ·rw[if_neg h,if_neg h]
  simp only[h,decide_false,Da,if_true]
  rfl
end
end Go.Proofs.YtdodahpkpeodfaaGreatDoor.R
namespace Go.Proofs.YtdodahpkpeodfaaGreatDoor
open Go.Kp
variable {N:Nat}
/-! Averages and handicaps by the document. -/
def Jz (s:aR):ml:=ml.mk (wy.mk 90 80 40 3 5) s.az (s.aD.map Dr) s.ak
theorem Ma(s:aR):R.cb (Jz s)=mP.mk (wz.mk 90 80 40 3 5) s.az s.aD s.ak:=by
 have h:(s.aD.map Dr).map R.cs=s.aD:=by
  rw[List.map_map]
  exact(List.map_congr_left fun x _=>rfl).trans (List.map_id _)
 show mP.mk _ _ ((s.aD.map Dr).map R.cs) _=_
 rw[h];rfl
theorem LR:∀(l:List Int) (lo hi:Int),l.Pairwise (·<·)→(∀x∈l,lo≤x∧x≤hi)→lo≤hi+1→(l.length:Int)≤hi+1-lo
 | [],lo,hi,_,_,h=>by simp;omega
 | x::l,lo,hi,hp,hb,_=>by
  rw[En]at hp
  have hx:=hb x (zV ..)
  have:=LR l (x+1) hi hp.2 (fun y hy=>by have:=hp.1 y hy;have:=hb y (AK _ hy);omega) (by omega)
  simp only[IS]
  omega
theorem LS{i:Nat}{s:aR}(hS:SI i s)(hR:RI s):R.Val (Jz s):=by
 have hsl:=hS.sl
 refine⟨hS.bl,by simp[Jz];exact hsl,?_,by show R.lawOk (wy.mk 90 80 40 3 5)=true;decide,hR.wp,hR.b,fun n hn=>by have:=hR.wb n hn;omega,fun x hx=>?_,fun x hx y hy hxy=>?_⟩
 ·have:=LR s.ak 1 s.aD.length hR.wp hR.wb (by omega)
  show s.ak.length≤40
  omega
 ·obtain⟨y,hy,rfl⟩:=List.mem_map.1 hx
  obtain⟨j,hj⟩:=AH hy
  have hjl:=(List.getElem?_eq_some_iff.1 hj).1
  obtain⟨h1,h2,h3,h4,h5,h6⟩:=hR.rs j y hj
  unfold R.sheetOk R.gamesOk
  simp only[wH,R.inr_iff]
  show(1≤y.bX∧y.bX≤999)∧(0≤y.af∧y.af≤(s.az.length:Int)-1)∧(1≤y.j2∧y.j2≤30)∧(0≤y.bg.a0∧y.bg.a0≤300)∧(0≤y.bg.a1∧y.bg.a1≤300)∧(0≤y.bg.a2∧y.bg.a2≤300)
  omega
 ·obtain⟨a,ha,rfl⟩:=List.mem_map.1 hx
  obtain⟨b,hb,rfl⟩:=List.mem_map.1 hy
  obtain⟨j,hj⟩:=AH ha
  obtain⟨k,hk⟩:=AH hb
  have h1:=(hR.rs j a hj).n
  have h2:=(hR.rs k b hk).n
  have h3:a.bX=b.bX:=hxy
  have:j=k:=by omega
  subst this
  rw[hj]at hk
  cases hk;rfl
end Go.Proofs.YtdodahpkpeodfaaGreatDoor
namespace Go.Proofs.YtdodahpkpeodfaaGreatDoor
open Go.Kp
variable {N:Nat}
/-! The report's lines. -/
def LN (k b:Int)(cs:List Int):List UInt8:=((((([108,97,110,101,32]:List UInt8)++w7 k)++[32,98,111,119,108,101,114,32])++w7 b)++[32,99,111,117,110,116,115])++blk cs++[10]
def BN (b k m:Int):List UInt8:=((((([98,111,119,108,101,114,32]:List UInt8)++w7 b)++[32,107,101,112,116,32])++w7 k)++[32,115,104,101,101,116,115,32])++w7 m++[10]
def DN (l:List Int):List UInt8:=(([100,117,101,108,115]:List UInt8)++blk l)++[10]
theorem L7{n:Int}(h0:0≤n)(h1:n≤1000000):nU N n=some (w7 n):=by unfold nU;rw[if_pos ⟨by omega,by omega⟩]
theorem Np(x:List UInt8)(l:List Int):vE [32] (x::l.map w7)=x++blk l:=by
 show x++((l.map w7).map fun y=>[32]++y).flatten=x++blk l
 unfold blk
 rw[List.map_map,List.flatMap_def]
 rfl
theorem join_cons(x y:List UInt8)(r:List (List UInt8)):vE [32] (x::y::r)=x++32::vE [32] (y::r):=by
 unfold vE;simp
theorem N2(hN:20000≤N){s bs:List UInt8}(h:s.length+bs.length≤10000):fM N s bs=some (bs++(s++[10])):=by
 unfold fM wrS
 rw[Kn (by simp;omega),Hj,if_pos (by simp;omega)];rfl
theorem NV(hN:20000≤N){k b:Int}{cs:List Int}(hk:0≤k∧k≤1000)(hb:0≤b∧b≤1000)(hc:∀x∈cs,0≤x∧x≤1000000)(hl:cs.length≤60):∃t,kC N [108,97,110,101] k [98,111,119,108,101,114] b [99,111,117,110,116,115] cs=some t∧t++[10]=LN k b cs∧t.length≤1500:=by
 have h1:=EC hk.1
 have h2:=EC hb.1
 have h3:=Mt hc
 have key:=lO (N:=N) (B:=fun rec5 x=>dJ N cs rec5 x.1 x.2.1 x.2.2) cs (fun i (a:List (List UInt8))=>((cs.length:Int),(i:Int),a)) (fun r a=>some (a++r.map w7)) (fun i a=>a.length=i+5)
  (fun a rec _=>by unfold dJ;rw[if_neg (by simp)];simp)
  (fun i x a rec hx ha ih=>by
   have hlt:=lP hx
   have hb:=hc x (Jm hx)
   unfold dJ
   rw[if_pos (by simp only[decide_eq_true_eq];omega),ij hx,Hj,L7 hb.1 hb.2,Hj,nL (by simp;omega),Hj,fN (by omega),ih _ (by simp[ha])]
   simp)
  (by omega) [[108,97,110,101],w7 k,[98,111,119,108,101,114],w7 b,[99,111,117,110,116,115]] rfl
 have ej:vE [32] ([[108,97,110,101],w7 k,[98,111,119,108,101,114],w7 b,[99,111,117,110,116,115]]++cs.map w7)=[108,97,110,101]++32::(w7 k++32::([98,111,119,108,101,114]++32::(w7 b++32::([99,111,117,110,116,115]++blk cs)))):=by
  simp only[CP,y9,join_cons,Np]
 have hlen:(vE [32] ([[108,97,110,101],w7 k,[98,111,119,108,101,114],w7 b,[99,111,117,110,116,115]]++cs.map w7)).length≤1500:=by rw[ej];simp;omega
 refine⟨_,?_,?_,hlen⟩
 ·unfold kC
  rw[nL (by simp;omega),Hj,Hj,L7 hk.1 (by omega),Hj,nL (by simp;omega),Hj,Hj,nL (by simp;omega),Hj,Hj,L7 hb.1 (by omega),Hj,nL (by simp;omega),Hj,Hj,nL (by simp;omega),Hj,Hj]
  simp only[yN]at key
  simp only[y9,CP]
  rw[key,Hj]
  unfold pg
  rw[if_pos ⟨by simp;omega,by simp only[CP,y9]at hlen ⊢;omega⟩]
  rfl
 ·rw[ej]
  unfold LN
  simp
theorem NF(hN:20000≤N){b k m:Int}(hb:0≤b∧b≤1000)(hk:0≤k∧k≤1000)(hm:0≤m∧m≤1000):∃t,jA N [98,111,119,108,101,114] b [107,101,112,116] k [115,104,101,101,116,115] m=some t∧t++[10]=BN b k m∧t.length≤100:=by
 have h1:=EC hb.1
 have h2:=EC hk.1
 have h3:=EC hm.1
 have ej:vE [32] [[98,111,119,108,101,114],w7 b,[107,101,112,116],w7 k,[115,104,101,101,116,115],w7 m]=[98,111,119,108,101,114]++32::(w7 b++32::([107,101,112,116]++32::(w7 k++32::([115,104,101,101,116,115]++32::w7 m)))):=by
  simp only[join_cons]
  simp[vE]
 have hlen:(vE [32] [[98,111,119,108,101,114],w7 b,[107,101,112,116],w7 k,[115,104,101,101,116,115],w7 m]).length≤100:=by rw[ej];simp;omega
 refine⟨_,?_,?_,hlen⟩
 ·unfold jA
  rw[nL (by simp;omega),Hj,Hj,L7 hb.1 (by omega),Hj,nL (by simp;omega),Hj,Hj,nL (by simp;omega),Hj,Hj,L7 hk.1 (by omega),Hj,nL (by simp;omega),Hj,Hj,nL (by simp;omega),Hj,Hj,L7 hm.1 (by omega),Hj,nL (by simp;omega),Hj,Hj]
  simp only[y9,CP]
  unfold pg
  rw[if_pos ⟨by simp;omega,by omega⟩]
  rfl
 ·rw[ej]
  unfold BN
  simp
theorem Nq(hN:20000≤N){cs:List Int}(hc:∀x∈cs,0≤x∧x≤1000000)(hl:cs.length≤60):∃t,iX N [100,117,101,108,115] cs=some t∧t++[10]=DN cs∧t.length≤1500:=by
 have h3:=Mt hc
 have key:=lO (N:=N) (B:=fun rec5 x=>cP N cs rec5 x.1 x.2.1 x.2.2) cs (fun i (a:List (List UInt8))=>((cs.length:Int),(i:Int),a)) (fun r a=>some (a++r.map w7)) (fun i a=>a.length=i+1)
  (fun a rec _=>by unfold cP;rw[if_neg (by simp)];simp)
  (fun i x a rec hx ha ih=>by
   have hlt:=lP hx
   have hb:=hc x (Jm hx)
   unfold cP
   rw[if_pos (by simp only[decide_eq_true_eq];omega),ij hx,Hj,L7 hb.1 hb.2,Hj,nL (by simp;omega),Hj,fN (by omega),ih _ (by simp[ha])]
   simp)
  (by omega) [[100,117,101,108,115]] rfl
 have ej:vE [32] ([[100,117,101,108,115]]++cs.map w7)=[100,117,101,108,115]++blk cs:=Np _ _
 have hlen:(vE [32] ([[100,117,101,108,115]]++cs.map w7)).length≤1500:=by rw[ej];simp;omega
 refine⟨_,?_,?_,hlen⟩
 ·unfold iX
  rw[nL (by simp;omega),Hj,Hj]
  simp only[yN]at key
  simp only[y9]
  rw[key,Hj]
  unfold pg
  rw[if_pos ⟨by simp;omega,by omega⟩]
  rfl
 ·rw[ej]
  unfold DN
  simp
def mny (s:aR)(k:Int):Nat:=s.aD.countP fun x=>decide (x.af=k)&&R.counts (Jz s) (Dr x)
def lnT (cf:List Int→List Int):Nat→List cA→List UInt8
 | _,[]=>[]
 | k,x::r=>(if x.af=-1 then [] else LN k x.af (cf x.ar))++lnT cf (k+1) r
def bnT (s:aR):Nat→List (List Int)→List UInt8
 | _,[]=>[]
 | k,l::r=>BN k l.length (mny s k)++bnT s (k+1) r
structure CX(N:Nat)(cf:List Int→List Int):Prop where
 c:∀l:List Int,fit l=true→∃g,gm N zk l=some (g,0)∧g.vg=cf l∧C0 N L0 l=some (cf l)∧(cf l).length≤3∧∀x∈cf l,0≤x∧x≤1000000
theorem MT{cf:List Int→List Int}(hC:CX N cf){k b:Int}{l:List Int}(hk:0≤k)(hb:0≤b)(hf:fit l=true):(LN k b (cf l)).length≤200:=by
 obtain⟨_,_,_,_,q1,q2⟩:=hC.c l hf
 have h1:=EC hk
 have h2:=EC hb
 have h3:=Mt q2
 unfold LN
 simp;omega
theorem Nr{cf:List Int→List Int}(hC:CX N cf){i:Nat}{s:aR}(hS:SI i s)(hL:LI s)(hN:20000≤N):loopN (fun rec3 x=>dK N (aL.mk s) rec3 x.1 x.2.1 x.2.2) N ((s.ag.length:Int),0,[])=some (lnT cf 0 s.ag)∧(lnT cf 0 s.ag).length≤800:=by
 have hla:=hS.la
 have hbl:=hS.bl
 have hlen:∀(l:List cA) (k:Nat),(∀x∈l,fit x.ar=true∧-1≤x.af)→(lnT cf k l).length≤200*l.length:=by
  intro l
  induction l with
  | nil=>intro k _;simp[lnT]
  | cons x l ih =>
   intro k h
   have h1:=ih (k+1) fun y hy=>h y (AK _ hy)
   have h2:=h x (zV ..)
   unfold lnT
   rw[Js,IS]
   split
   ·simp;omega
   ·have:=MT hC (k:=k) (b:=x.af) (by omega) (by omega) h2.1
    omega
 have hall:∀x∈s.ag,fit x.ar=true∧-1≤x.af:=fun x hx=>⟨(hL.fb x hx).1,(hS.lb x hx).1⟩
 refine⟨?_,by have:=hlen s.ag 0 hall;omega⟩
 have key:=lO (N:=N) (B:=fun rec3 x=>dK N (aL.mk s) rec3 x.1 x.2.1 x.2.2) s.ag (fun i (a:List UInt8)=>((s.ag.length:Int),(i:Int),a))
  (fun r a=>some (a++lnT cf (s.ag.length-r.length) r)) (fun i a=>a.length≤200*i)
  (fun a rec _=>by unfold dK;rw[if_neg (by simp)];simp[lnT])
  (fun j x a rec hx ha ih=>by
   have hlt:=lP hx
   have hm:=Jm hx
   have hxl:=hS.lb x hm
   obtain⟨g,q1,q2,q3,q4,q5⟩:=hC.c x.ar (hL.fb x hm).1
   have e1:s.ag.length-(s.ag.drop (j+1)).length=j+1:=by rw[AA];omega
   have e2:s.ag.length-(x::s.ag.drop (j+1)).length=j:=by rw[IS,AA];omega
   unfold dK
   dsimp only
   rw[if_pos (by simp only[decide_eq_true_eq];omega),ij hx,Hj,fN (by omega),e2]
   unfold lnT
   by_cases hb:x.af=-1
   ·rw[if_neg (by simp[hb]),Hj,if_pos hb,ih _ (by omega),e1]
    simp
   ·have hfl:=MT hC (k:=(j:Int)) (b:=x.af) (by omega) (by omega) (hL.fb x hm).1
    obtain⟨t,t1,t2,t3⟩:=NV (N:=N) hN (k:=(j:Int)) (b:=x.af) (cs:=cf x.ar) (by omega) (by omega) q5 (by omega)
    rw[if_pos (by simp[hb]),if_neg hb,show iP N=some zk from rfl,Hj,q1,Hj]
    dsimp only
    rw[Hj,q2,t1,Hj,N2 hN (by omega),Hj,Hj,t2,ih _ (by rw[Js];omega),e1]
    simp)
  (by omega) [] (by simp)
 simp only[yN]at key
 rw[key]
 simp
end Go.Proofs.YtdodahpkpeodfaaGreatDoor
namespace Go.Proofs.YtdodahpkpeodfaaGreatDoor
open Go.Kp
variable {N:Nat}
theorem L9{cf:List Int→List Int}(hC:CX N cf)(hN:20000≤N){k b:Int}{l:List Int}(hk:0≤k∧k≤1000)(hb:-1≤b∧b≤1000)(hf:fit l=true){out:List UInt8}(ho:out.length≤5000) :
  (if decide (0≤b)then
   Ha (DV N k) fun r46 =>
   Ha (cat N ([108,97,110,101,32]:List UInt8) r46) fun _ =>
   Ha (cat N ((([108,97,110,101,32]:List UInt8)++r46)) ([32,98,111,119,108,101,114,32]:List UInt8)) fun _ =>
   Ha (DV N b) fun r47 =>
   Ha (cat N ((((([108,97,110,101,32]:List UInt8)++r46))++([32,98,111,119,108,101,114,32]:List UInt8))) r47) fun _ =>
   Ha (cat N ((((((([108,97,110,101,32]:List UInt8)++r46))++([32,98,111,119,108,101,114,32]:List UInt8)))++r47)) ([32,99,111,117,110,116,115]:List UInt8)) fun _ =>
   Ha (Dh N) fun r48 =>
   Ha (C0 N r48 l) fun r49 =>
   Ha (Hu N r49) fun r50 =>
   Ha (cat N ((((((((([108,97,110,101,32]:List UInt8)++r46))++([32,98,111,119,108,101,114,32]:List UInt8)))++r47))++([32,99,111,117,110,116,115]:List UInt8))) r50) fun _ =>
   Ha (cat N ((((((((((([108,97,110,101,32]:List UInt8)++r46))++([32,98,111,119,108,101,114,32]:List UInt8)))++r47))++([32,99,111,117,110,116,115]:List UInt8)))++r50)) ([10]:List UInt8)) fun _ =>
   Ha (cat N out ((((((((((((([108,97,110,101,32]:List UInt8)++r46))++([32,98,111,119,108,101,114,32]:List UInt8)))++r47))++([32,99,111,117,110,116,115]:List UInt8)))++r50))++([10]:List UInt8)))) fun _ =>
   some ((out++((((((((((((([108,97,110,101,32]:List UInt8)++r46))++([32,98,111,119,108,101,114,32]:List UInt8)))++r47))++([32,99,111,117,110,116,115]:List UInt8)))++r50))++([10]:List UInt8)))))
  else some out)=some (out++if b=-1 then [] else LN k b (cf l)):=by
 obtain⟨g,q1,q2,q3,q4,q5⟩:=hC.c l hf
 have h1:=EC hk.1
 have h3:=Mt q5
 by_cases h:b=-1
 ·rw[if_neg (by simp only[decide_eq_true_eq];omega),if_pos h,Bc]
 ·have h2:=EC (n:=b) (by omega)
  rw[if_pos (by simp only[decide_eq_true_eq];omega),if_neg h,LK hN hk.1 (by omega),Hj,LK hN (n:=b) (by omega) (by omega),show Dh N=some L0 from rfl]
  simp only[Hj]
  rw[q3]
  simp only[Hj]
  rw[Nu hN _ q5 (by omega)]
  simp only[Hj]
  unfold LN
  generalize w7 k=x at h1
  generalize w7 b=y at h2
  generalize blk (cf l)=z at h3
  rw[Kn (by simp;omega),Hj,Kn (by simp;omega),Hj,Kn (by simp;omega),Hj,Kn (by simp;omega),Hj,Kn (by simp;omega),Hj,Kn (by simp;omega),Hj,Kn (by simp;omega),Hj]
theorem N3{i:Nat}{s:aR}(hS:SI i s)(hi:i≤60)(hN:20000≤N)(k:Int):loopN (fun rec27 x=>C6 N (tr s) k rec27 x.1 x.2) N (0,0)=some (mny s k:Int):=by
 have hsl:=hS.sl
 have hwl:=hS.wl
 have key:=lO (N:=N) (B:=fun rec27 x=>C6 N (tr s) k rec27 x.1 x.2) s.aD (fun i (a:Int)=>(a,(i:Int)))
  (fun r a=>some (a+((r.countP fun x=>decide (x.af=k)&&R.counts (Jz s) (Dr x):Nat):Int))) (fun i a=>0≤a∧a≤i)
  (fun a rec _=>by
   unfold C6
   rw[if_neg (by simp[tr])]
   simp)
  (fun j x a rec hx ha ih=>by
   have hlt:=lP hx
   have e3:(tr s).aD.length=s.aD.length:=by simp[tr]
   have hx2:(tr s).aD[j]? = some (Dr x):=by show(s.aD.map Dr)[j]? = _;rw[Jr,hx];rfl
   have hbk:JG N (tr s)=some (Jz s):=rfl
   have hrc:=R.rcounts_eq (N:=N) (by omega) (Jz s) (Dr x) (by simp[Jz];omega) (by show s.ak.length≤1000;omega)
   unfold C6
   rw[e3,if_pos (by simp only[decide_eq_true_eq];omega),ij hx2,Hj,hbk,Hj,hrc,Hj,List.countP_cons,fN (by omega)]
   have hc:(if decide ((Dr x).af=k)then some (R.counts (Jz s) (Dr x))else some false)=some (decide (x.af=k)&&R.counts (Jz s) (Dr x)):=by
    show(if decide (x.af=k)then _ else _)=_
    by_cases h:x.af=k<;>simp[h]
   rw[hc,Hj]
   cases(decide (x.af=k)&&R.counts (Jz s) (Dr x))with
   | true =>
    simp only[if_true,Hj]
    rw[bE (by omega) (by omega),ih _ (by omega)]
    congr 1
    omega
   | false =>
    simp only[IE,if_false,Hj]
    rw[ih _ (by omega)]
    congr 1)
  (by omega) 0 (by simp)
 simp only[yN,Int.zero_add]at key
 exact key
theorem countP_range{α:Type}(f:α→Bool)(d:α):∀(l:List α),(Jq l.length).countP (fun i=>f (l.getD i d))=l.countP f
 | []=>rfl
 | x::l=>by
  rw[IS,List.range_succ_eq_map,List.countP_cons,List.countP_cons,List.countP_map,← countP_range f d l]
  rfl
theorem N4{i:Nat}{s:aR}(hS:SI i s)(hR:RI s)(k:Int)(d:aH):(R.cnt (Jz s)).countP (fun n=>decide ((s.aD.getD (n-1).toNat d).af=k))=mny s k:=by
 have hsl:=hS.sl
 have hnum:∀(j:Nat) (x:aH),s.aD[j]? = some x→x.bX=(j:Int)+1:=fun j x h=>(hR.rs j x h).n
 have hisC:∀j:Nat,R.isC (Jz s) ((j:Int)+1)=if j<s.aD.length then R.counts (Jz s) (Dr (s.aD.getD j d))else false:=fun j=>by
  unfold R.isC
  have hb:(Jz s).aD=s.aD.map Dr:=rfl
  rw[hb]
  by_cases h:j<s.aD.length
  ·rw[if_pos h]
   have hx:=IX h
   have hg:s.aD.getD j d=s.aD[j]:=by rw[A5,hx];rfl
   rw[hg]
   rw[Bu,List.any_eq_true]
   constructor
   ·rintro⟨y,hy,hq⟩
    obtain⟨z,hz,rfl⟩:=List.mem_map.1 hy
    obtain⟨q,hq2⟩:=AH hz
    simp only[wH,decide_eq_true_eq]at hq
    have h1:z.bX=(j:Int)+1:=hq.1
    have h2:=hnum q z hq2
    have:q=j:=by omega
    subst this
    rw[hx]at hq2
    cases hq2
    exact hq.2
   ·intro hq
    refine⟨_,List.mem_map.2 ⟨_,Be h,rfl⟩,?_⟩
    simp only[wH,decide_eq_true_eq]
    exact⟨hnum j _ hx,hq⟩
  ·rw[if_neg h,List.any_eq_false]
   intro y hy
   obtain⟨z,hz,rfl⟩:=List.mem_map.1 hy
   obtain⟨q,hq2⟩:=AH hz
   have h1:=hnum q z hq2
   have h2:=(List.getElem?_eq_some_iff.1 hq2).1
   have h3:¬(Dr z).bX=(j:Int)+1:=fun e=>by
    have e:z.bX=(j:Int)+1:=e
    omega
   simp[h3]
 unfold R.cnt R.nums mny
 rw[List.countP_filter,List.countP_map,← countP_range _ d s.aD]
 have hsplit:Jq 999=Jq s.aD.length++(Jq (999-s.aD.length)).map (fun j=>s.aD.length+j):=by
  rw[← List.range_add,show s.aD.length+(999-s.aD.length)=999 by omega]
 rw[hsplit,List.countP_append]
 have z0:((Jq (999-s.aD.length)).map (fun j=>s.aD.length+j)).countP ((fun n=>decide ((s.aD.getD (n-1).toNat d).af=k)&&R.isC (Jz s) n)∘fun(i:Nat)=>(i:Int)+1)=0:=by
  rw[List.countP_eq_zero]
  intro y hy
  obtain⟨j,_,rfl⟩:=List.mem_map.1 hy
  simp only[Function.comp]
  rw[hisC,if_neg (by omega)]
  simp
 rw[z0,Nat.add_zero]
 refine List.countP_congr fun j hj=>?_
 have hjl:=List.mem_range.1 hj
 simp only[Function.comp]
 rw[hisC,if_pos hjl,show((j:Int)+1-1).toNat=j by omega]
theorem Ou{i:Nat}{s:aR}(hS:SI i s)(hR:RI s){n:Int}(h:n∈R.cnt (Jz s)):1≤n∧n≤s.aD.length:=by
 unfold R.cnt at h
 rw[List.mem_filter]at h
 have h2:=h.2
 unfold R.isC at h2
 rw[List.any_eq_true]at h2
 obtain⟨y,hy,hq⟩:=h2
 have hb:(Jz s).aD=s.aD.map Dr:=rfl
 rw[hb]at hy
 obtain⟨z,hz,rfl⟩:=List.mem_map.1 hy
 obtain⟨q,hq2⟩:=AH hz
 simp only[wH,decide_eq_true_eq]at hq
 have h1:z.bX=n:=hq.1
 have h3:=(hR.rs q z hq2).n
 have h4:=(List.getElem?_eq_some_iff.1 hq2).1
 omega
theorem Ov(b:ml):(R.cnt b).length≤999:=by
 unfold R.cnt
 exact zW (List.length_filter_le _ _) (by rw[R.nums_len];omega)
theorem Ow{i:Nat}{s:aR}(hS:SI i s)(hR:RI s)(hN:20000≤N)(k:Int):loopN (fun rec29 x=>dL N (aL.mk s) (R.cnt (Jz s)) k rec29 x.1 x.2.1 x.2.2) N (0,((R.cnt (Jz s)).length:Int),0)=some (mny s k:Int):=by
 have hsl:=hS.sl
 have hcl:=Ov (Jz s)
 rw[← N4 hS hR k (aH.mk 0 0 0 (Ar3.mk 0 0 0))]
 have hmem:∀n∈R.cnt (Jz s),1≤n∧n≤s.aD.length:=fun n h=>Ou hS hR h
 generalize R.cnt (Jz s)=c at hcl hmem
 have key:=lO (N:=N) (B:=fun rec29 x=>dL N (aL.mk s) c k rec29 x.1 x.2.1 x.2.2) c (fun i (a:Int)=>(a,(c.length:Int),(i:Int)))
  (fun r a=>some (a+((r.countP fun n=>decide ((s.aD.getD (n-1).toNat (aH.mk 0 0 0 (Ar3.mk 0 0 0))).af=k):Nat):Int))) (fun i a=>0≤a∧a≤i)
  (fun a rec _=>by unfold dL;rw[if_neg (by simp)];simp)
  (fun j n a rec hx ha ih=>by
   have hlt:=lP hx
   have hb:=hmem n (Jm hx)
   have hxl:(n-1).toNat<s.aD.length:=by omega
   have hg:s.aD[(n-1).toNat]? = some (s.aD.getD (n-1).toNat (aH.mk 0 0 0 (Ar3.mk 0 0 0))):=by rw[A5,IX hxl];rfl
   unfold dL
   dsimp only
   rw[if_pos (by simp only[decide_eq_true_eq];omega),ij hx,Hj,bE (n:=n-1) (by omega) (by omega),yy (by omega) hg,Hj,List.countP_cons,fN (by omega)]
   by_cases h:(s.aD.getD (n-1).toNat (aH.mk 0 0 0 (Ar3.mk 0 0 0))).af=k
   ·rw[if_pos (by simp only[decide_eq_true_eq];exact h),Hj,bE (by omega) (by omega),ih _ (by omega)]
    congr 1
    simp only[h,decide_true,if_true]
    omega
   ·rw[if_neg (by simp only[decide_eq_true_eq];exact h),Hj,ih _ (by omega)]
    congr 1
    simp only[h,decide_false,IE,if_false]
    rfl)
  (by omega) 0 (by simp)
 simp only[yN,Int.zero_add]at key
 exact key
end Go.Proofs.YtdodahpkpeodfaaGreatDoor
namespace Go.Proofs.YtdodahpkpeodfaaGreatDoor
open Go.Kp
variable {N:Nat}
theorem Mn{α β:Type}{x:Option α}{a:α}{k:α→Option β}(h:x=some a):Ha x k=k a:=by rw[h];rfl
theorem N5(s:aR)(k:Int):mny s k≤s.aD.length:=by unfold mny;exact List.countP_le_length
theorem NG{b k m:Int}(hb:0≤b)(hk:0≤k)(hm:0≤m):(BN b k m).length≤100:=by
 have h1:=EC hb
 have h2:=EC hk
 have h3:=EC hm
 unfold BN
 simp;omega
theorem Ox{i:Nat}{s:aR}(hS:SI i s)(hR:RI s)(hi:i≤60)(hN:20000≤N){bs:List UInt8}(hb:bs.length≤800):loopN (fun rec25 x=>dM N (aL.mk s) (R.cnt (Jz s)) rec25 x.1 x.2.1 x.2.2) N ((s.iZ.length:Int),0,bs)=some (bs++bnT s 0 s.iZ):=by
 have hkl:=hS.kl
 have hbl:=hS.bl
 have hsl:=hS.sl
 have key:=lO (N:=N) (B:=fun rec25 x=>dM N (aL.mk s) (R.cnt (Jz s)) rec25 x.1 x.2.1 x.2.2) s.iZ (fun i (a:List UInt8)=>((s.iZ.length:Int),(i:Int),a))
  (fun r a=>some (a++bnT s (s.iZ.length-r.length) r)) (fun i a=>a.length≤800+100*i)
  (fun a rec _=>by unfold dM;rw[if_neg (by simp)];simp[bnT])
  (fun j l a rec hx ha ih=>by
   have hlt:=lP hx
   have hkb:=hS.kb l (Jm hx)
   have hml:=N5 s j
   have e1:s.iZ.length-(s.iZ.drop (j+1)).length=j+1:=by rw[AA];omega
   have e2:s.iZ.length-(l::s.iZ.drop (j+1)).length=j:=by rw[IS,AA];omega
   obtain⟨t,t1,t2,t3⟩:=NF (N:=N) hN (b:=(j:Int)) (k:=(l.length:Int)) (m:=(mny s j:Int)) (by omega) (by omega) (by omega)
   have hbn:=NG (b:=(j:Int)) (k:=(l.length:Int)) (m:=(mny s j:Int)) (by omega) (by omega) (by omega)
   unfold dM
   dsimp only
   rw[if_pos (by simp only[decide_eq_true_eq];omega),ij hx,Hj,Ow hS hR hN,Hj,t1,Hj,N2 hN (by omega),Hj,Hj,t2,fN (by omega),ih _ (by rw[Js];omega),e1,e2]
   simp only[bnT,zb])
  (by omega) bs (by omega)
 simp only[yN]at key
 rw[key]
 simp
theorem Nf{i:Nat}{s:aR}:∀(l:List (List Int)) (k:Nat),(bnT s k l).length≤100*l.length
 | [],_=>by simp[bnT]
 | x::l,k=>by
  have h1:=Nf (i:=i) (s:=s) l (k+1)
  have hbn:=NG (b:=(k:Int)) (k:=(x.length:Int)) (m:=(mny s k:Int)) (by omega) (by omega) (by omega)
  unfold bnT
  rw[Js,IS]
  omega
theorem N6{i:Nat}{s:aR}(hS:SI i s)(hi:i≤60)(hN:20000≤N){bs:List UInt8}(hb:bs.length≤800):loopN (fun rec23 x=>Dp N (tr s) rec23 x.1 x.2) N (bs,0)=some (bs++bnT s 0 s.iZ):=by
 have hkl:=hS.kl
 have hbl:=hS.bl
 have hsl:=hS.sl
 have key:=lO (N:=N) (B:=fun rec23 x=>Dp N (tr s) rec23 x.1 x.2) s.iZ (fun i (a:List UInt8)=>(a,(i:Int)))
  (fun r a=>some (a++bnT s (s.iZ.length-r.length) r)) (fun i a=>a.length≤800+100*i)
  (fun a rec _=>by
   have e0:(tr s).az=s.az:=rfl
   unfold Dp;rw[e0,if_neg (by simp only[decide_eq_true_eq];omega)];simp[bnT])
  (fun j l a rec hx ha ih=>by
   have hlt:=lP hx
   have hkb:=hS.kb l (Jm hx)
   have hml:=N5 s j
   have e0:(tr s).az=s.az:=rfl
   have ek:(tr s).iZ=s.iZ:=rfl
   have e1:s.iZ.length-(s.iZ.drop (j+1)).length=j+1:=by rw[AA];omega
   have e2:s.iZ.length-(l::s.iZ.drop (j+1)).length=j:=by rw[IS,AA];omega
   have hbn:=NG (b:=(j:Int)) (k:=(l.length:Int)) (m:=(mny s j:Int)) (by omega) (by omega) (by omega)
   have h1:=EC (n:=(j:Int)) (by omega)
   have h2:=EC (n:=(l.length:Int)) (by omega)
   have h3:=EC (n:=(mny s j:Int)) (by omega)
   unfold Dp
   rw[e0,ek,if_pos (by simp only[decide_eq_true_eq];omega),N3 hS hi hN,Hj,ij hx,Hj,LK hN (n:=(j:Int)) (by omega) (by omega),Hj,LK hN (n:=(l.length:Int)) (by omega) (by omega),LK hN (n:=(mny s j:Int)) (by omega) (by omega),e2]
   unfold bnT BN
   unfold BN at hbn
   generalize w7 (j:Int)=x at h1 hbn
   generalize w7 (l.length:Int)=y at h2 hbn
   generalize w7 (mny s j:Int)=z at h3 hbn
   rw[Kn (by simp;omega),Hj,Kn (by simp;omega),Hj,Hj,Kn (by simp;omega),Hj,Kn (by simp;omega),Hj,Hj,Kn (by simp;omega),Hj,Kn (by simp;omega),Hj,Kn (by simp;omega),Hj,Hj,fN (by omega),ih _ (by simp;omega),e1]
   simp only[zb])
  (by omega) bs (by omega)
 simp only[yN]at key
 rw[key]
 simp
noncomputable def rpT (cf:List Int→List Int) (s:aR):List UInt8:=(lnT cf 0 s.ag++bnT s 0 s.iZ)++if 2≤s.az.length then DN (res s.az.length s.aP s.az.length)else []
theorem N7{K:Nat}{R:List ab}(hK:K≤8):(∀x∈res K R K,0≤x∧x≤1000000)∧(res K R K).length≤60:=by
 refine⟨fun x hx=>?_,?_⟩
 ·have:=Om.1 hx;omega
 ·have:=Na (K:=K) (R:=R) K;omega
theorem NW{cf:List Int→List Int}(hG:GX N)(hC:CX N cf)(hN:20000≤N){lines:List (List UInt8)}(hl:lines.length≤50)(hs:∀s∈lines,s.length≤200):gM N lines=some (rpT cf (zv N st0 lines),0):=by
 have hA:=AI.run (N:=N) hG hN lines P3 (by omega)
 have hv:=LS hA.si hA.ri
 have hbl:=hA.si.bl
 unfold gM
 rw[vA lines hl hs hN,Hj,if_neg (by decide),Ca hG hN lines (by omega) (fun s h=>by have:=hs s h;omega),Hj]
 dsimp only
 generalize zv N st0 lines=S at hA hv hbl ⊢
 obtain⟨l1,l2⟩:=Nr hC hA.si hA.li hN
 have hbk:eF N (aL.mk S)=some (R.cb (Jz S)):=by rw[Ma];rfl
 rw[l1,Hj,hbk,Hj,R.counting_eq (by omega),Hj]
 rw[if_pos (R.flt_zero.2 hv)]
 dsimp only
 rw[Ox hA.si hA.ri (by omega) hN l2,Hj]
 have hbn:=Nf (i:=0) (s:=S) S.iZ 0
 have hkl:=hA.si.kl
 unfold rpT
 by_cases h:2≤S.az.length
 ·obtain⟨r1,r2⟩:=N7 (K:=S.az.length) (R:=S.aP) hbl
  obtain⟨t,t1,t2,t3⟩:=Nq (N:=N) hN r1 r2
  rw[if_pos (by simp only[decide_eq_true_eq];omega),if_pos h,show jB N (aL.mk S)=some (gu.mk 1 (S.az.length:Int) 1 S.aP)from rfl,Hj,NT hA.di ⟨h,hbl⟩ hN,Hj]
  dsimp only
  rw[t1,Hj,N2 hN (by rw[Js];omega),Hj,Hj,t2]
  rfl
 ·rw[if_neg (by simp only[decide_eq_true_eq];omega),if_neg h,Hj,Bc]
  rfl
theorem NH{cf:List Int→List Int}(hG:GX N)(hF:FX N)(hC:CX N cf)(hN:20000≤N){lines:List (List UInt8)}(hl:lines.length≤50)(hs:∀s∈lines,s.length≤200):KO N lines=some (rpT cf (zv N st0 lines)):=by
 have hA:=AI.run (N:=N) hG hN lines P3 (by omega)
 have hbl:=hA.si.bl
 have hkl:=hA.si.kl
 unfold KO
 rw[HU hG hF hN lines (by omega) (fun s h=>by have:=hs s h;omega),Hj]
 dsimp only
 generalize zv N st0 lines=S at hA hbl hkl ⊢
 obtain⟨x0,x1,x2,x3,hx⟩:=F8 hA.si.la
 have b0:=hA.si.lb x0 (by rw[hx];simp)
 have b1:=hA.si.lb x1 (by rw[hx];simp)
 have b2:=hA.si.lb x2 (by rw[hx];simp)
 have b3:=hA.si.lb x3 (by rw[hx];simp)
 have f0:=(hA.li.fb x0 (by rw[hx];simp)).1
 have f1:=(hA.li.fb x1 (by rw[hx];simp)).1
 have f2:=(hA.li.fb x2 (by rw[hx];simp)).1
 have f3:=(hA.li.fb x3 (by rw[hx];simp)).1
 obtain⟨_,l2⟩:=Nr hC hA.si hA.li hN
 have elt:lnT cf 0 S.ag=((([]++(if x0.af=-1 then [] else LN 0 x0.af (cf x0.ar)))++(if x1.af=-1 then [] else LN 1 x1.af (cf x1.ar)))++(if x2.af=-1 then [] else LN 2 x2.af (cf x2.ar)))++(if x3.af=-1 then [] else LN 3 x3.af (cf x3.ar)):=by
  rw[hx]
  simp only[lnT,Bc,y9,zb]
  rfl
 have g0:(if x0.af=-1 then [] else LN 0 x0.af (cf x0.ar)).length≤200:=by
  split
  ·simp
  ·exact MT hC (by omega) (by omega) f0
 have g1:(if x1.af=-1 then [] else LN 1 x1.af (cf x1.ar)).length≤200:=by
  split
  ·simp
  ·exact MT hC (by omega) (by omega) f1
 have g2:(if x2.af=-1 then [] else LN 2 x2.af (cf x2.ar)).length≤200:=by
  split
  ·simp
  ·exact MT hC (by omega) (by omega) f2
 have q0:=L9 hC hN (k:=0) (by omega) (b:=x0.af) (by omega) f0 (out:=[]) (by simp)
 have q1:=L9 hC hN (k:=1) (by omega) (b:=x1.af) (by omega) f1 (out:=[]++(if x0.af=-1 then [] else LN 0 x0.af (cf x0.ar))) (by rw[y9];omega)
 have q2:=L9 hC hN (k:=2) (by omega) (b:=x2.af) (by omega) f2 (out:=([]++(if x0.af=-1 then [] else LN 0 x0.af (cf x0.ar)))++(if x1.af=-1 then [] else LN 1 x1.af (cf x1.ar))) (by rw[Js,y9];omega)
 have q3:=L9 hC hN (k:=3) (by omega) (b:=x3.af) (by omega) f3 (out:=(([]++(if x0.af=-1 then [] else LN 0 x0.af (cf x0.ar)))++(if x1.af=-1 then [] else LN 1 x1.af (cf x1.ar)))++(if x2.af=-1 then [] else LN 2 x2.af (cf x2.ar))) (by rw[Js,Js,y9];omega)
 rw[D2 hx]
 refine(Mn q0).trans ?_
 refine(Mn q1).trans ?_
 refine(Mn q2).trans ?_
 refine(Mn q3).trans ?_
 rw[← elt,← D2 hx,N6 hA.si (by omega) hN l2,Hj]
 have hbn:=Nf (i:=0) (s:=S) S.iZ 0
 unfold rpT
 have e0:(tr S).az=S.az:=rfl
 rw[e0]
 by_cases h:2≤S.az.length
 ·obtain⟨r1,r2⟩:=N7 (K:=S.az.length) (R:=S.aP) hbl
  have hbk:=Mt r1
  rw[if_pos (by simp only[decide_eq_true_eq];omega),if_pos h,Ot hA.si hA.di hN h,Hj,Nu hN _ r1 r2,Hj]
  unfold DN
  rw[Kn (by simp;omega),Hj,Kn (by simp;omega),Hj,Kn (by simp;omega),Hj]
  rfl
 ·rw[if_neg (by simp only[decide_eq_true_eq];omega),if_neg h,Hj,Bc]
theorem Ng(N:Nat){cf:List Int→List Int}(hG:GX N)(hF:FX N)(hC:CX N cf)(hN:20000≤N)(hw:cL N=some true)(lines:List (List UInt8)):Jo N lines=some true:=by
 unfold Jo
 obtain⟨b,hb,hs⟩:=vC (N:=N) lines hN
 rw[hb,Hj]
 cases b with
 | false=>simp only[Da,if_true,hw,Hj]
 | true =>
  obtain⟨h55,h210⟩:=hs rfl
  simp only[yo,IE,if_false]
  rw[Cb lines (by omega),Hj,HW lines h55 hN]
  cases hr:Ea lines with
  | false =>
   have hp:gM N lines=some ([],3):=by
    unfold gM
    rw[G6 lines h55 hN]
    show Ha (some (if Ea lines=true then 0 else 3)) _=_
    rw[hr];rfl
   rw[hp,Hj]
   simp[hw]
  | true =>
   obtain⟨h200,h50⟩:=Ge.1 hr
   rw[NW hG hC hN h50 h200,NH hG hF hC hN h50 h200,Hj]
   simp[hw]
theorem cx:CX 30000 fun l=>F.ctsA (F.acc L0 l):=by
 refine⟨fun l hf=>?_⟩
 have hk:=(GE l).1 hf
 have h30:=F.ok_len v0 hk
 have h0:F.flt L0 l=0:=F.flt_ok.2 ⟨v0,by omega,hk⟩
 have hr:=F.read_eq L0 l (by omega)
 rw[if_pos h0,h0,fl0]at hr
 have hA:=F.ainv v0 hk
 have h1:(F.ctsA (F.acc L0 l)).length≤(F.acc L0 l).E.length:=F.cts_len _ _ _ _
 have h2:=hA.fE
 have h3:=hA.inv.f1
 have h4:(L0.bv:Int)=3:=rfl
 have hcl:=F.acc_len L0 l
 refine⟨_,hr,rfl,F.rcounts_eq v0 hk (by omega),by omega,fun c hc=>?_⟩
 have:=Ic hA.bd (F.acc L0 l).E 0 0 0 (F.incr_A hA) (fun p hp=>(hA.ent p hp).2) (zD _) (zD _) c hc
 omega
theorem Ns(lines:List (List UInt8)):Jo 30000 lines=some true:=Ng 30000 gx fx cx (by omega) vr lines
