/-
 Soundness, ninth part: slice expressions, calls; all operations together (opA_ok).
-/
import Derived.Test.YtdodahpkpeodfaaGreatDoorAbsW
import Derived.WalkSmall
import Derived.Lib.AppendZerosOnto
set_option linter.all false
open Int renaming le_refl→zD,toNat_natCast→JD,toNat_of_nonneg→Gf,toNat_zero→CE
open List renaming append_assoc→zb,eq_nil_of_length_eq_zero→JB,flatMap_append→BZ,flatMap_cons→yZ,getElem?_append_left→za,getElem?_append_right→zL,getElem?_eq_getElem→IX,getElem?_map→Jr,getElem?_range→yM,getElem?_set→Bq,getElem?_take→Am,length_append→Js,length_drop→AA,length_flatten→FH,length_nil→yf,length_replicate→DD,length_take→JC,map_congr_left→D5,map_cons→xZ,mem_append→AL,mem_of_getElem?→Jm,mem_of_mem_drop→By,mem_of_mem_take→JA,nil_append→y9,replicate→Iu,size_toArray→DW,take_append_drop→BL,take_left→BX
open Nat renaming eq_of_beq_eq_true→Ik,eq_zero_or_pos→Cd,le_of_ble_eq_true→JF,le_refl→H9,min_eq_left→Bm,mul_le_mul_right→BO,mul_one→AF,zero_add→Jp
open Option renaming map_none→ED,map_some→zn
namespace Go.Abs
open Go
section
variable {P:Program}{tt:TT}{an:Ann}{M M':GM}{s s':St}{a:Act}{w w':World}
theorem KC(hR:Rel M s a w){x:Option Operand}{dflt:Int}{K:Int→Prop}(h:jo (x.map s.eval) dflt K) :
  ∃n,K n∧((x.map a.eval=none∧n=dflt)∨∃k,x.map a.eval=some (.int k n)):=by
 cases x with
 | none=>exact⟨dflt,h,.inl ⟨rfl,rfl⟩⟩
 | some x =>
  have hx:=aM (hR.eval x)
  simp only[zn,jo]at h
  split at h
  ·rename_i k n e
   rw[e]at hx
   generalize hv:a.eval x=v at hx
   cases hx with | d _ _ hx=>?_
   cases hx
   exact⟨_,h,.inr ⟨k,by simp[hv]⟩⟩
  ·exact h.elim
theorem eW{len cap:Nat}{lo hi:Option Value}{m n:Int}(isSl:Bool)(hlo:(lo=none∧m=0)∨∃k,lo=some (.int k m))(hhi:(hi=none∧n=len)∨∃k,hi=some (.int k n))
  (h0:0≤m) (h1:m≤n) (h2:n≤len) (h3:len≤cap):(Instr.sliceBounds isSl len cap lo hi none).run P w=.ok (m.toNat,n.toNat,cap) w:=by
 have hn:((n.toNat:Nat):Int)=n:=Gf (by omega)
 have b1:∀k code,(Instr.sliceBound (.int k n) cap code).run P w=.ok n.toNat w:=by
  intro k code
  simp[Instr.sliceBound,asIntOf,show 0≤n from by omega,show n≤(cap:Int)from by omega]
 have b2:∀k code,(Instr.sliceBound (.int k m) n.toNat code).run P w=.ok m.toNat w:=by
  intro k code
  simp[Instr.sliceBound,asIntOf,h0,hn,h1]
 rcases hlo with⟨rfl,rfl⟩ | ⟨k1,rfl⟩<;>rcases hhi with⟨rfl,rfl⟩ | ⟨k2,rfl⟩<;>simp only[Instr.sliceBounds]<;>cases isSl<;>simp[b1,b2]<;>(have:=b2;simp only[JD]at this;simp[this])
theorem eX{t e:TypeId}(hdd:P.underlying t=some (.slice e)){sz:Nat}(hso:(sizeOf e).run P w=.ok sz w){ad:Option Addr}{len cap:Nat}{lo hi:Option Value}{m n:Int}
  (hlo:(lo=none∧m=0)∨∃k,lo=some (.int k m)) (hhi:(hi=none∧n=len)∨∃k,hi=some (.int k n)) (h0:0≤m) (h1:m≤n) (h2:n≤len) (h3:len≤cap) :
  (Instr.sliceAt t (.slice ad len cap) lo hi none).run P w=.ok (.slice (if cap=m.toNat then ad else ad.map (·.add (m.toNat*sz))) (n.toNat-m.toNat) (cap-m.toNat)) w:=by
 have hb:=eW (P:=P) (w:=w) true hlo hhi h0 h1 h2 h3
 simp only[Instr.sliceAt,Instr.slice,Sem.run_bind,run_underlying hdd,Result.andThen_ok,hb,hso]
 rfl
theorem KD{xs:List D}{sz m n:Nat}(hs:∀x∈xs,(cellsOf x).length=sz){i:Nat}{d:D}(h:(((xs.take n).drop m).flatMap cellsOf)[i]? = some d):(xs.flatMap cellsOf)[m*sz+i]? = some d:=by
 have e1:xs.flatMap cellsOf=((xs.take n).flatMap cellsOf)++((xs.drop n).flatMap cellsOf):=by rw[← BZ,BL]
 have e2:(xs.take n).flatMap cellsOf=(((xs.take n).take m).flatMap cellsOf)++(((xs.take n).drop m).flatMap cellsOf):=by rw[← BZ,BL]
 by_cases hm:m≤(xs.take n).length
 ·have hl:(((xs.take n).take m).flatMap cellsOf).length=m*sz:=by
   rw[dH (sz:=sz) (fun x hx=>hs x (JA (JA hx)))]
   congr 1;simp at hm ⊢;omega
  have hlt:i<(((xs.take n).drop m).flatMap cellsOf).length:=(List.getElem?_eq_some_iff.1 h).1
  rw[e1,za (by rw[e2,Js];omega),e2,zL (by omega),hl,show m*sz+i-m*sz=i from by omega]
  exact h
 ·rw[List.drop_of_length_le (by omega)]at h
  simp at h
theorem pH{t e:TypeId}(hdd:P.underlying t=some (.slice e)){i:TI}(hso:(sizeOf e).run P w=.ok i.esz w){sz:Nat}{xs:List D}{val:Value}(hv:GamA M (.d (.list sz xs)) val)(hsz:sz=i.esz)
  {lo hi:Option Value} {m n:Int} (hlo:(lo=none∧m=0)∨∃k,lo=some (.int k m)) (hhi:(hi=none∧n=xs.length)∨∃k,hi=some (.int k n)) (h0:0≤m) (h1:m≤n) (h2:n≤xs.length) :
  ∃v,(Instr.sliceAt t val lo hi none).run P w=.ok v w∧GamA M (.d (.list sz ((xs.take n.toNat).drop m.toNat))) v:=by
 cases hv with | d _ _ hv=>?_
 generalize hxs:xs=ys at hv
 cases hv with
 | nils =>
  subst hxs
  simp only[yf]at *
  have e0:m=0:=by omega
  have e1:n=0:=by omega
  subst e0 e1
  refine⟨_,eX hdd hso hlo hhi h0 h1 (by omega) (by omega),?_⟩
  simp;exact .d _ _ (.nils _)
 | listz _ ad cap =>
  subst hxs
  simp only[yf]at *
  have e0:m=0:=by omega
  have e1:n=0:=by omega
  subst e0 e1
  refine⟨_,eX hdd hso hlo hhi h0 h1 (by omega) (by omega),?_⟩
  simp
  split<;>exact .d _ _ (.listz _ _ _)
 | list _ _ b off cap vf hc hs hm hg hone =>
  subst hxs hsz
  refine⟨_,eX hdd hso hlo hhi h0 h1 h2 hc,.d _ _ ?_⟩
  have hl:((xs.take n.toNat).drop m.toNat).length=n.toNat-m.toNat:=by simp;omega
  by_cases he:cap=m.toNat
  ·rw[if_pos he]
   have:(xs.take n.toNat).drop m.toNat=[]:=JB (by omega)
   rw[this,show n.toNat-m.toNat=0 from by omega]
   exact .list _ [] b off _ vf (by simp) (by simp) (by simp) (by simp) (by simp)
  ·rw[if_neg he,← hl]
   simp only[zn,addr_add]
   refine .list _ _ b (off+m.toNat*i.esz) _ (fun q=>vf (m.toNat*i.esz+q)) (by omega) (fun x hx=>hs x (JA (By hx)))
    (fun q d hd=>?_) (fun q d hd=>hg _ _ (KD hs hd)) (fun q d hd=>hone _ _ (KD hs hd))
   rw[Nat.add_assoc];exact hm _ _ (KD hs hd)
theorem qE{len cap:Nat}{lo:Option Value}{k k':IntKind}{m n:Int}(hlo:(lo=none∧m=0)∨∃k,lo=some (.int k m))
  (h0:0≤m) (h1:m≤n) (h2:n≤len) (h3:len≤cap):(Instr.sliceBounds true len cap lo (some (.int k n)) (some (.int k' n))).run P w=.ok (m.toNat,n.toNat,n.toNat) w:=by
 have hn:((n.toNat:Nat):Int)=n:=Gf (by omega)
 have b1:∀k code,(Instr.sliceBound (.int k n) cap code).run P w=.ok n.toNat w:=by
  intro k code
  simp[Instr.sliceBound,asIntOf,show 0≤n from by omega,show n≤(cap:Int)from by omega]
 have b3:∀k code,(Instr.sliceBound (.int k n) n.toNat code).run P w=.ok n.toNat w:=by
  intro k code
  simp[Instr.sliceBound,asIntOf,show 0≤n from by omega,hn]
 have b2:∀k code,(Instr.sliceBound (.int k m) n.toNat code).run P w=.ok m.toNat w:=by
  intro k code
  simp[Instr.sliceBound,asIntOf,h0,hn,h1]
 rcases hlo with⟨rfl,rfl⟩ | ⟨k1,rfl⟩<;>simp[Instr.sliceBounds,b1,b2,b3]
theorem gT{t e:TypeId}(hdd:P.underlying t=some (.slice e)){sz:Nat}(hso:(sizeOf e).run P w=.ok sz w){ad:Option Addr}{len cap:Nat}{lo:Option Value}{k k':IntKind}{m n:Int}
  (hlo:(lo=none∧m=0)∨∃k,lo=some (.int k m)) (h0:0≤m) (h1:m≤n) (h2:n≤len) (h3:len≤cap) :
  (Instr.sliceAt t (.slice ad len cap) lo (some (.int k n)) (some (.int k' n))).run P w=.ok (.slice (if n.toNat=m.toNat then ad else ad.map (·.add (m.toNat*sz))) (n.toNat-m.toNat) (n.toNat-m.toNat)) w:=by
 have hb:=qE (P:=P) (w:=w) (k:=k) (k':=k') hlo h0 h1 h2 h3
 simp only[Instr.sliceAt,Instr.slice,Sem.run_bind,run_underlying hdd,Result.andThen_ok,hb,hso]
 rfl
theorem ou{t e:TypeId}(hdd:P.underlying t=some (.slice e)){i:TI}(hso:(sizeOf e).run P w=.ok i.esz w){sz:Nat}{xs:List D}{val:Value}(hv:GamA M (.d (.list sz xs)) val)(hsz:sz=i.esz)
  {lo:Option Value} {k k':IntKind} {m n:Int} (hlo:(lo=none∧m=0)∨∃k,lo=some (.int k m)) (h0:0≤m) (h1:m≤n) (h2:n≤xs.length) :
  ∃v,(Instr.sliceAt t val lo (some (.int k n)) (some (.int k' n))).run P w=.ok v w∧GamA M (.cl sz ((xs.take n.toNat).drop m.toNat)) v:=by
 cases hv with | d _ _ hv=>?_
 generalize hxs:xs=ys at hv
 cases hv with
 | nils =>
  subst hxs
  simp only[yf]at *
  have e0:m=0:=by omega
  have e1:n=0:=by omega
  subst e0 e1
  refine⟨_,gT hdd hso hlo h0 h1 (by omega) (by omega),?_⟩
  simp;exact .cl _ _ _ _ (.nils _)
 | listz _ ad cap =>
  subst hxs
  simp only[yf]at *
  have e0:m=0:=by omega
  have e1:n=0:=by omega
  subst e0 e1
  refine⟨_,gT hdd hso hlo h0 h1 (by omega) (by omega),?_⟩
  simp;exact .cl _ _ _ _ (.listz _ _ _)
 | list _ _ b off cap vf hc hs hm hg hone =>
  subst hxs hsz
  refine⟨_,gT hdd hso hlo h0 h1 h2 hc,.cl _ _ _ _ ?_⟩
  have hl:((xs.take n.toNat).drop m.toNat).length=n.toNat-m.toNat:=by simp;omega
  by_cases he:n.toNat=m.toNat
  ·rw[if_pos he]
   have:(xs.take n.toNat).drop m.toNat=[]:=JB (by omega)
   rw[this,show n.toNat-m.toNat=0 from by omega]
   exact .list _ [] b off _ vf (by simp) (by simp) (by simp) (by simp) (by simp)
  ·rw[if_neg he,← hl]
   simp only[zn,addr_add]
   refine .list _ _ b (off+m.toNat*i.esz) _ (fun q=>vf (m.toNat*i.esz+q)) (by omega) (fun x hx=>hs x (JA (By hx)))
    (fun q d hd=>?_) (fun q d hd=>hg _ _ (KD hs hd)) (fun q d hd=>hone _ _ (KD hs hd))
   rw[Nat.add_assoc];exact hm _ _ (KD hs hd)
theorem tq{o:Oper}{K:St→Prop}(hR:Rel M s a w){t:TypeId}{i:TI}(hi:aX P t i=true){x:Operand}{lo hi':Option Operand}{mx:Operand}(ho:o.op=.slice t x lo hi' (some mx))
  (h:pw s i o.dst (s.eval x) (lo.map s.eval) (hi'.map s.eval) (some (s.eval mx)) K):EOk P o a M w s K:=by
 obtain⟨_,dd,_,hdd,_,_,htk,_⟩:=aB hi
 have hex:∀v w1,(Instr.sliceAt t (a.eval x) (lo.map a.eval) (hi'.map a.eval) (some (a.eval mx))).run P w=.ok v w1→(execOp a.eval o).run P w=.ok (.value v) w1:=by
  intro v w1 hrun
  simp[execOp,ho,hrun]
 unfold pw at h
 split at h
 ·rename_i e _ hk hhi
  obtain⟨rfl,he,hpos⟩:=bH htk hk
  have hso:=aQ (P:=P) (t:=e) (by omega) w
  rw[he]at hso
  have hx:=aM (hR.eval x)
  obtain⟨s1,v1,M1,h,r1,p1,l1,g1,q1,n1⟩:=ju hR hx h
  split at h
  ·rename_i sz xs
   obtain⟨n,h,hn⟩:=KC hR h
   obtain⟨n',h,hn'⟩:=KC (x:=some mx) hR h
   obtain⟨m,⟨⟨h0,h1,h2,rfl,h3⟩,zs,rfl,h⟩,hm⟩:=KC hR h
   rcases hn with⟨hn,_⟩ | ⟨k1,hn⟩
   ·rw[Option.map_eq_none_iff]at hn;rw[hn]at hhi;cases hhi
   rcases hn' with⟨hn',_⟩ | ⟨k2,hn'⟩
   ·cases hn'
   obtain⟨v,hrun,hg⟩:=ou (w:=w) (k:=k1) (k':=k2) hdd hso g1 h3 hm h0 h1 h2
   obtain⟨s2,k1,k2,k3⟩:=r1.put h hg
   refine⟨_,w,_,hex _ _ ?_,.inl rfl,s2,M1,k1,k2,p1.ob_eq k3⟩
   rw[hn];simp only[zn,Option.some.injEq]at hn';rw[hn'];exact hrun
  ·rename_i sz
   obtain⟨n,h,hn⟩:=KC hR h
   obtain⟨n',h,hn'⟩:=KC (x:=some mx) hR h
   obtain⟨m,⟨⟨e1,e2,e3⟩,h4⟩,hm⟩:=KC hR h
   subst e1 e2 e3
   rcases hn with⟨hn,_⟩ | ⟨k1,hn⟩
   ·rw[Option.map_eq_none_iff]at hn;rw[hn]at hhi;cases hhi
   rcases hn' with⟨hn',_⟩ | ⟨k2,hn'⟩
   ·cases hn'
   generalize hav:a.eval x=av at g1
   cases g1
   have hrun:=gT (w:=w) (k:=k1) (k':=k2) hdd hso (ad:=none) (len:=0) (cap:=0) hm (zD _) (zD _) (by simp) (by simp)
   obtain⟨s2,k1',k2',k3⟩:=r1.put h4 (.nils sz)
   refine⟨_,w,_,hex _ _ ?_,.inl rfl,s2,M1,k1',k2',p1.ob_eq k3⟩
   rw[hn,hav];simp only[zn,Option.some.injEq]at hn';rw[hn'];simpa using hrun
  ·exact h.elim
 ·exact h.elim
theorem Pb{o:Oper}{K:St→Prop}(hR:Rel M s a w){t:TypeId}{i:TI}(hi:aX P t i=true){x:Operand}{lo hi':Option Operand}(ho:o.op=.slice t x lo hi' none)
  (h:pu an s i o.dst (s.eval x) (lo.map s.eval) (hi'.map s.eval) K):EOk P o a M w s K:=by
 obtain⟨_,dd,_,hdd,_,_,htk,_⟩:=aB hi
 have hex:∀v w1,(Instr.sliceAt t (a.eval x) (lo.map a.eval) (hi'.map a.eval) none).run P w=.ok v w1→(execOp a.eval o).run P w=.ok (.value v) w1:=by
  intro v w1 hrun
  simp[execOp,ho,hrun]
 unfold pu at h
 split at h
 ·rename_i e hk
  obtain⟨rfl,he,hpos⟩:=bH htk hk
  have hso:=aQ (P:=P) (t:=e) (by omega) w
  rw[he]at hso
  have hx:=hR.eval x
  split at h
  ·rename_i k hd em ex
   rw[ex]at hx
   split at h
   ·rename_i d e' sz xs hd' hlo0 hlk
    have hlo1:lo=none:=by cases lo<;>simp_all
    subst hlo1
    obtain⟨rfl,h⟩:=h
    obtain⟨n,⟨⟨h0,h1⟩,zs,rfl,h⟩,hn⟩:=KC hR h
    have hokk:=hR.ob.ok k _ hlk
    obtain⟨vals,hown,hall,h1',hsz,hfree⟩:=hokk
    obtain⟨hax,aa,nn,cc,hhd⟩:=hx.sl_inv
    have hsl:=hown.2
    have hnn:nn=xs.length∧nn≤cc:=by
     rcases hown.2 with⟨q1,q2⟩ | ⟨g,cap,cur,q1,_,_,q3,_⟩
     ·rw[hhd]at q1;simp only[Value.slice.injEq]at q1;omega
     ·rw[hhd]at q1;simp only[Value.slice.injEq]at q1;omega
    have hrun:=eX (w:=w) hdd hso (ad:=aa) (len:=nn) (cap:=cc) (lo:=none) (hi:=hi'.map a.eval) (m:=0) (n:=n) (.inl ⟨rfl,rfl⟩) (by rw[hnn.1];exact hn) (zD _) h0 (by omega) hnn.2
    have hrun2:(Instr.sliceAt t (a.eval x) ((none:Option Operand).map a.eval) (hi'.map a.eval) none).run P w=.ok (.slice aa n.toNat cc) w:=by
     rw[hax,hhd]
     refine hrun.trans ?_
     by_cases hc0:cc=0
     ·simp[hc0]
     ·have:aa.map (·.add (0*i.esz))=aa:=by cases aa<;>simp[Addr.add]
      simp only[CE,if_neg hc0,this,Nat.sub_zero]
    have h:=h (.slice aa n.toNat cc)
    obtain⟨s1,hks,hn1,hg1,ho1,hj1⟩:=St.setO_ok h
    have hok:gW M w (.arr (.slice aa n.toNat cc) e' sz false (xs.take n.toNat)):=by
     have hle:n.toNat≤xs.length:=by omega
     refine⟨vals.take (n.toNat*sz),⟨?_,?_⟩,?_,fun v hv=>h1' v (JA hv),fun x hx=>hsz x (JA hx),fun b hb=>?_⟩
     ·have:=BO sz hle
      simp[hown.1]
     ·rcases hown.2 with⟨q1,q2⟩ | ⟨g,cap,cur,q1,q0,q2,q3,q4,q5,q6⟩
      ·rw[hhd]at q1;simp only[Value.slice.injEq]at q1
       obtain⟨rfl,rfl,rfl⟩:=q1
       have:n.toNat=0:=by omega
       exact .inl ⟨by rw[this],by simp;omega⟩
      ·rw[hhd]at q1;simp only[Value.slice.injEq]at q1
       obtain⟨rfl,rfl,rfl⟩:=q1
       refine .inr ⟨g,cc,cur,by rw[JC,Bm hle],q0,q2,by simp;omega,q4,q5,?_⟩
       rw[← q6,List.take_take,JC,Bm hle,Bm (BO sz hle)]
     ·have:=hall.take (n.toNat*sz)
      have e3:(xs.flatMap cellsOf).take (n.toNat*sz)=(xs.take n.toNat).flatMap cellsOf:=by
       have e1:xs.flatMap cellsOf=((xs.take n.toNat).flatMap cellsOf)++((xs.drop n.toNat).flatMap cellsOf):=by rw[← BZ,BL]
       have hl:((xs.take n.toNat).flatMap cellsOf).length=n.toNat*sz:=by
        rw[dH (sz:=sz) (fun x hx=>hsz x (JA hx)),JC,Bm hle]
       rw[e1,← hl,BX]
      rw[e3]at this;exact this
     ·have hb':(Value.ownBlock (a.eval x))=some b:=by
       rw[hax,hhd]
       cases aa with
       | none=>simp[Value.ownBlock]at hb
       | some _=>simpa [Value.ownBlock]using hb
      rw[hax]at hb'
      exact⟨(hfree b hb').1,fun o _=>(hfree b hb').2 o (.inl rfl)⟩
    obtain⟨r1,p1⟩:=hR.upd (S:=fun _=>False) (M':=M) (w':=w) k _ hn1 hg1 ho1 hj1 (.refl _ _ _) hR.rs (fun _ _ h=>h.elim) hok (fun b hb=>.inr ⟨_,hlk,by
     rw[hhd]
     cases aa with
     | none=>simp[bu,Value.ownBlock]at hb
     | some _=>simpa [bu,Value.ownBlock]using hb⟩)
    obtain⟨s2,g1,g2,g3⟩:=r1.set hks (.sl k aa n.toNat cc)
    exact⟨_,w,_,hex _ _ hrun2,.inl rfl,s2,M,g1,by rw[hd'];exact g2,p1.ob_eq g3⟩
   ·exact h.elim
  ·obtain⟨s1,v1,M1,h,r1,p1,l1,g1,q1,n1⟩:=ju hR (aM hx) h
   have hR1:=hR
   split at h
   ·rename_i sz xs
    obtain⟨n,h,hn⟩:=KC hR h
    obtain⟨m,⟨⟨h0,h1,h2,h3⟩,zs,rfl,h⟩,hm⟩:=KC hR h
    obtain⟨v,hrun,hg⟩:=pH (w:=w) hdd hso g1 h3 hm hn h0 h1 h2
    obtain⟨s2,k1,k2,k3⟩:=r1.put h hg
    exact⟨_,w,_,hex _ _ hrun,.inl rfl,s2,M1,k1,k2,p1.ob_eq k3⟩
   ·rename_i sz
    obtain⟨n,h,hn⟩:=KC hR h
    obtain⟨m,⟨⟨e1,e2⟩,h4⟩,hm⟩:=KC hR h
    subst e1 e2
    generalize hav:a.eval x=av at g1
    cases g1
    have hrun:=eX (w:=w) hdd hso (ad:=none) (len:=0) (cap:=0) hm (hn.imp (fun q=>⟨q.1,rfl⟩) id) (zD _) (zD _) (by simp) (by simp)
    obtain⟨s2,k1,k2,k3⟩:=r1.put h4 (.nils sz)
    exact⟨_,w,_,hex _ _ (by rw[hav];simpa using hrun),.inl rfl,s2,M1,k1,k2,p1.ob_eq k3⟩
   ·exact h.elim
 ·rename_i hk
  have e:=d5 htk hk
  subst e
  have hx:=hR.eval x
  split at h
  ·rename_i b ex
   rw[ex]at hx
   obtain⟨n,h,hn⟩:=KC hR h
   obtain⟨m,⟨⟨h0,h1,h2⟩,h⟩,hm⟩:=KC hR h
   generalize hav:a.eval x=av at hx
   cases hx with | d _ _ hx=>?_
   cases hx with | str _ u hu=>?_
   have hsz:u.size=b.length:=by rw[← hu,Array.length_toList];rfl
   have hb:=eW (P:=P) (w:=w) (len:=u.size) (cap:=u.size) false hm (by rw[hsz];exact hn) h0 h1 (by rw[hsz];exact h2) (H9 _)
   have hrun:(Instr.sliceAt t (a.eval x) (lo.map a.eval) (hi'.map a.eval) none).run P w=.ok (.string (u.extract m.toNat n.toNat)) w:=by
    simp only[Instr.sliceAt,Instr.slice,hav,Sem.run_bind,run_underlying hdd,Result.andThen_ok]
    simp[hb]
   obtain⟨s2,k1,k2,k3⟩:=hR.put h (val:=.string (u.extract m.toNat n.toNat)) (.d _ _ (.str _ _ (by
    rw[ByteArray.data_extract,Array.toList_extract,hu,List.extract_eq_take_drop,List.drop_take])))
   exact⟨_,w,_,hex _ _ hrun,.inl rfl,s2,M,k1,k2,(Stp.refl _ _ _).ob_eq k3⟩
  ·exact h.elim
 ·rename_i n e hk
  obtain⟨rfl,he,hpos,hsz⟩:=ip htk hk
  have hso:=aQ (P:=P) (t:=e) (by omega) w
  rw[he]at hso
  have hx:=aM (hR.eval x)
  split at h
  ·rename_i hlo hhi
   have hlo1:lo=none:=by cases lo<;>simp_all
   have hhi1:hi'=none:=by cases hi'<;>simp_all
   subst hlo1 hhi1
   split at h
   ·rename_i d ex
    rw[ex]at hx
    obtain⟨xs,h1,h2,h3,h⟩:=h
    generalize hav:a.eval x=av at hx
    cases hx with | d _ _ hx=>?_
    cases hx with | ref _ b off val hm hv ho=>?_
    have hb:=eW (P:=P) (w:=w) (len:=n) (cap:=n) (lo:=none) (hi:=none) (m:=0) (n:=(n:Int)) false (.inl ⟨rfl,rfl⟩) (.inl ⟨rfl,rfl⟩) (zD _) (by omega) (by omega) (H9 _)
    have hrun:(Instr.sliceAt t (a.eval x) ((none:Option Operand).map a.eval) ((none:Option Operand).map a.eval) none).run P w=.ok (.slice (some ⟨b,off,none⟩) n n) w:=by
     simp only[Instr.sliceAt,hav,Sem.run_bind,run_underlying hdd,Result.andThen_ok,Instr.sureAddr,Sem.run_pure,ED]
     rw[hb]
     simp only[Result.andThen_ok,Sem.run_bind,hso,Sem.run_pure,CE,JD]
     by_cases hn:n=0
     ·simp[hn]
     ·simp[hn,Addr.add]
    obtain⟨s2,k1,k2,k3⟩:=hR.put h (val:=.slice (some ⟨b,off,none⟩) n n) (.d _ _ (by rw[← h1];exact .list _ xs b off _ val (H9 _) h3 (by rw[h2];exact hm) (by rw[h2];exact hv) (by rw[h2];exact ho)))
    exact⟨_,w,_,hex _ _ hrun,.inl rfl,s2,M,k1,k2,(Stp.refl _ _ _).ob_eq k3⟩
   ·rename_i k b o ex
    rw[ex]at hx
    split at h
    ·rename_i b' cs hlk
     obtain⟨rfl,h⟩:=h
     generalize hav:a.eval x=av at hx
     cases hx
     obtain⟨vals,elem,hb,hall,hone,hfree⟩:=hR.ob.ok k _ hlk
     obtain⟨l,⟨xs,h1,h2,h3,h⟩,hl,hn,hn'⟩:=jS h hall
     obtain⟨s',hks,hnn,hgg,hoo,hjj⟩:=St.setO_ok h
     have hc2:∀o v,vals[o]? = some v→w.cell? ⟨b,o,none⟩=some v:=fun o v hv=>by rw[kr hb];exact hv
     have hle:M.le (M.row b vals):=GM.le_row fun o v hv' u hu=>by
      have:=hR.rs.c _ _ _ hv'
      rw[hc2 o u hu]at this;cases this;rfl
     obtain⟨r1,p1⟩:=hR.upd (S:=fun q=>q=b) (M':=M.row b vals) (w':=w) k _ hnn hgg hoo hjj
      ⟨rfl,rfl,rfl,H9 _,fun _ _ _=>rfl,hle,fun q _ hq o=>GM.row_other M _ vals hq o,fun _ _ _=>rfl⟩ (hR.rs.row hc2 hle)
      (fun q _ hq=>⟨_,hlk,by rw[hq];rfl⟩)
      (by refine⟨[],⟨rfl,.inl ⟨rfl,rfl⟩⟩,⟨rfl,fun i x y hx=>by simp at hx⟩,by simp,by simp,fun q hq=>by simp[Value.ownBlock]at hq⟩)
      (fun q hq=>by simp[bu,Value.ownBlock]at hq)
     have hb':=eW (P:=P) (w:=w) (len:=n) (cap:=n) (lo:=none) (hi:=none) (m:=0) (n:=(n:Int)) false (.inl ⟨rfl,rfl⟩) (.inl ⟨rfl,rfl⟩) (zD _) (by omega) (by omega) (H9 _)
     have hrun:(Instr.sliceAt t (a.eval x) ((none:Option Operand).map a.eval) ((none:Option Operand).map a.eval) none).run P w=.ok (.slice (some ⟨b,o,none⟩) n n) w:=by
      simp only[Instr.sliceAt,hav,Sem.run_bind,run_underlying hdd,Result.andThen_ok,Instr.sureAddr,Sem.run_pure,ED]
      rw[hb']
      simp only[Result.andThen_ok,Sem.run_bind,hso,Sem.run_pure,CE,JD]
      by_cases hn:n=0
      ·simp[hn]
      ·simp[hn,Addr.add]
     have hat:∀(i:Nat) d,(xs.flatMap cellsOf)[i]? = some d→∃v,vals[o+i]? = some v∧Gam M d v:=by
      intro i d hd
      have e1:(l.map AV.toD)[i]? = some (.d d):=by rw[h2,Jr,hd];rfl
      rw[Jr,Option.map_eq_some_iff]at e1
      obtain⟨av,e2,e3⟩:=e1
      obtain⟨v,e4,e5⟩:=hl.get e2
      have e6:=aM e5
      rw[e3]at e6
      cases e6 with | d _ _ e6=>?_
      exact⟨v,iF e4,e6⟩
     have hg:GamA (M.row b vals) (.d (.list i.esz xs)) (.slice (some ⟨b,o,none⟩) n n):=by
      refine .d _ _ ?_
      rw[← h1]
      refine .list _ xs b o _ (fun i=>(vals[o+i]?).getD undef) (H9 _) h3 (fun i d hd=>?_) (fun i d hd=>?_) (fun i d hd=>?_)
      ·obtain⟨v,e1,e2⟩:=hat i d hd;rw[e1];exact GM.row_at M _ e1
      ·obtain⟨v,e1,e2⟩:=hat i d hd;rw[e1];exact e2.mono hle
      ·obtain⟨v,e1,e2⟩:=hat i d hd;rw[e1];exact hone v (Jm e1)
     obtain⟨s2,k1,k2,k3⟩:=r1.put hks hg
     exact⟨_,w,_,hex _ _ hrun,.inl rfl,s2,_,k1,k2,p1.ob_eq k3⟩
    ·exact h.elim
   ·exact h.elim
  ·rename_i hv hlo hhi
   have hlo1:lo=none:=by cases lo<;>simp_all
   subst hlo1
   split at h
   ·rename_i d ex
    rw[ex]at hx
    obtain⟨xs,h1,h2,h3,h⟩:=h
    rw[← hhi]at h
    obtain⟨m,⟨⟨h0,h4⟩,zs,rfl,h⟩,hm⟩:=KC hR h
    generalize hav:a.eval x=av at hx
    cases hx with | d _ _ hx=>?_
    cases hx with | ref _ b off val hm2 hv2 ho2=>?_
    have hb:=eW (P:=P) (w:=w) (len:=n) (cap:=n) (lo:=none) (hi:=hi'.map a.eval) (m:=0) (n:=m) false (.inl ⟨rfl,rfl⟩) hm (zD _) h0 h4 (H9 _)
    have hrun:(Instr.sliceAt t (a.eval x) ((none:Option Operand).map a.eval) (hi'.map a.eval) none).run P w=.ok (.slice (some ⟨b,off,none⟩) m.toNat n) w:=by
     simp only[Instr.sliceAt,hav,Sem.run_bind,run_underlying hdd,Result.andThen_ok,Instr.sureAddr,Sem.run_pure,ED]
     rw[hb]
     simp only[Result.andThen_ok,Sem.run_bind,hso,Sem.run_pure,CE]
     by_cases hn:n=0
     ·simp[hn]
     ·simp[hn,Addr.add]
    have hle:m.toNat≤xs.length:=by omega
    have hpre:∀(j:Nat) d',((xs.take m.toNat).flatMap cellsOf)[j]? = some d'→(cellsOf d)[j]? = some d':=by
     intro j d' hd
     have e1:xs.flatMap cellsOf=((xs.take m.toNat).flatMap cellsOf)++((xs.drop m.toNat).flatMap cellsOf):=by rw[← BZ,BL]
     rw[← h2,e1,za (List.getElem?_eq_some_iff.1 hd).1];exact hd
    obtain⟨s2,k1,k2,k3⟩:=hR.put h (val:=.slice (some ⟨b,off,none⟩) (xs.take m.toNat).length n) (.d _ _ (.list _ _ b off _ val (by rw[JC];omega) (fun x hx=>h3 x (JA hx)) (fun j d' hd=>hm2 j d' (hpre j d' hd)) (fun j d' hd=>hv2 j d' (hpre j d' hd)) (fun j d' hd=>ho2 j d' (hpre j d' hd))))
    rw[JC,Bm hle]at k2
    exact⟨_,w,_,hex _ _ hrun,.inl rfl,s2,M,k1,k2,(Stp.refl _ _ _).ob_eq k3⟩
   ·exact h.elim
  ·exact h.elim
 ·exact h.elim
theorem oW{K:St→Prop}(hR:Rel M s a w){x:Operand}(h:pz s x K):∃s' M',K s'∧Rel M' s' a w∧Stp s.ob M w s'.ob M' w:=by
 have hx:=hR.eval x
 unfold pz at h
 split at h
 ·rename_i d
  split at h
  ·rename_i k b ex
   rw[ex]at hx
   split at h
   ·rename_i b' cs hlk
    obtain⟨rfl,h⟩:=h
    split at h
    ·rename_i ds hds
     simp only[aU]at h
     generalize hav:a.eval (.tmp d)=av at hx
     cases hx
     obtain⟨vals,elem,hb,hall,hone,hfree⟩:=hR.ob.ok k _ hlk
     have hD:=Mz hds hall
     obtain⟨s',hks,hnn,hgg,hoo,hjj⟩:=St.setO_ok h
     have hc2:∀o v,vals[o]? = some v→w.cell? ⟨b,o,none⟩=some v:=fun o v hv=>by rw[kr hb];exact hv
     have hle:M.le (M.row b vals):=GM.le_row fun o v hv' u hu=>by
      have:=hR.rs.c _ _ _ hv'
      rw[hc2 o u hu]at this;cases this;rfl
     obtain⟨r1,p1⟩:=hR.upd (S:=fun q=>q=b) (M':=M.row b vals) (w':=w) k _ hnn hgg hoo hjj
      ⟨rfl,rfl,rfl,H9 _,fun _ _ _=>rfl,hle,fun q _ hq o=>GM.row_other M _ vals hq o,fun _ _ _=>rfl⟩ (hR.rs.row hc2 hle)
      (fun q _ hq=>⟨_,hlk,by rw[hq];rfl⟩)
      (by refine⟨[],⟨rfl,.inl ⟨rfl,rfl⟩⟩,⟨rfl,fun i x y hx=>by simp at hx⟩,by simp,by simp,fun q hq=>by simp[Value.ownBlock]at hq⟩)
      (fun q hq=>by simp[bu,Value.ownBlock]at hq)
     obtain⟨s2,k1,k2,k3,_,k5,k6⟩:=St.putN_ok hks
     have hat:∀(i:Nat) c,ds[i]? = some c→∃v,vals[i]? = some v∧Gam M c v:=fun i c hc=>hD.get hc
     have hg:GamA (M.row b vals) (.d (.ref (.agg ds))) (.pointer (some ⟨b,0,none⟩)):=by
      refine .d _ _ (.ref (.agg ds) b 0 (fun i=>(vals[i]?).getD undef) (fun i c hc=>?_) (fun i c hc=>?_) (fun i c hc=>?_))
      ·obtain⟨v,e1,e2⟩:=hat i c hc;rw[e1,Jp];exact GM.row_at M _ e1
      ·obtain⟨v,e1,e2⟩:=hat i c hc;rw[e1];exact e2.mono hle
      ·obtain⟨v,e1,e2⟩:=hat i c hc;rw[e1];exact hone v (Jm e1)
     refine⟨s2,_,k1,⟨r1.df,by rw[k2];exact r1.sz,fun q=>?_,by rw[k3];exact r1.ob,r1.rs⟩,p1.ob_eq k3⟩
     by_cases e:q=d
     ·subst e
      have e2:a.tmps.getD q undef=.pointer (some ⟨b,0,none⟩):=hav
      rw[k5,e2];exact hg
     ·rw[k6 q e];exact r1.tm q
    ·exact h.elim
   ·exact h.elim
  ·exact h.elim
 ·exact h.elim
theorem EOk.then{o:Oper}{K K':St→Prop}(h:EOk P o a M w s K)(hd:o.dst=none)(hk:∀s1 M1 w1 a1,K s1→Rel M1 s1 a1 w1→∃s2 M2,K' s2∧Rel M2 s2 a1 w1∧Stp s1.ob M1 w1 s2.ob M2 w1):EOk P o a M w s K':=by
 obtain⟨r,w',v,h1,h2,s',M',k,r1,p1⟩:=h
 obtain⟨s2,M2,k2,r2,p2⟩:=hk s' M' w' _ k r1
 exact⟨r,w',v,h1,h2,s2,M2,k2,r2,p1.trans p2⟩
theorem ir(htt:cn P tt=true){own:Bool}:∀{vs:List AV} {vals:List Value} {ts:List TypeId} {K:List AV→Prop},All2 (GamA M) vs vals→m7 tt own vs ts K→∃vs',K vs'∧All2 (GamA M) vs' vals
 | [],vals,ts,K,hv,h=>⟨[],h,hv⟩
 | v::vs,vals,[],K,hv,h=>h.elim
 | v::vs,vals,t::ts,K,hv,h=>by
  obtain⟨u,us,rfl,hu,ht⟩:=hv.inv
  rw[qp]at h
  unfold ux at h
  split at h
  ·obtain⟨i,_,h⟩:=aq htt h
   obtain⟨vs',h1,h2⟩:=ir htt ht h
   cases hu
   exact⟨_,h1,.cons (.nils _) h2⟩
  ·unfold vU at h
   split at h
   ·obtain⟨i,_,h⟩:=aq htt h
    obtain⟨vs',h1,h2⟩:=ir htt ht h
    cases hu
    exact⟨_,h1,.cons (.d _ _ (.nils _)) h2⟩
   ·simp only[fC]at h
    obtain⟨vs',h1,h2⟩:=ir htt ht h
    exact⟨_,h1,.cons (aM hu) h2⟩
theorem iu{ren:Nat→Nat}:∀{l:List (Nat×Ob)} {k:Nat} {o:Ob},look (js ren l) k=some o→∃k',look l k'=some o∧ren k'=k
 | [],_,_,h=>by simp[js,look_nil]at h
 | (j,x)::r,k,o,h=>by
  simp only[js,xZ,aT]at h
  split at h
  ·rename_i e
   cases h
   exact⟨j,by simp[aT],Ik e⟩
  ·rename_i e
   obtain⟨k',h1,h2⟩:=iu (l:=r) h
   refine⟨k',?_,h2⟩
   have hne:Nat.beq j k'=false:=by
    rw[← Bool.not_eq_true];intro e'
    have:=Ik e'
    subst this
    rw[h2]at e;simp at e
   simp only[aT,hne];exact h1
theorem fF:∀{l r:List (Nat×Ob)} {k:Nat} {o:Ob},look (l++r) k=some o→look l k=some o∨look r k=some o
 | [],_,_,_,h=>.inr h
 | (j,x)::l,r,k,o,h=>by
  simp only[List.cons_append,aT]at h ⊢
  split at h
  ·exact .inl h
  ·exact fF h
def St.withOb(s:St)(ob:List (Nat×Ob)):St:=match s with | ⟨n,tm,_⟩=>⟨n,tm,ob⟩
theorem Rel.called(hR:Rel M s a w){os os' rest:List (Nat×Ob)}{ren:Nat→Nat}(hos:∀k o,look os k=some o→look s.ob (ren k)=some o)(hr:RenOK ren os rest)
  (hrest:∀k o,look rest k=some o→look s.ob k=some o) (ho:Obs M' w' os') (hrs:Resp M' w') (hst:Stp os M w os' M' w') :
  Rel M' (s.withOb (js ren os'++rest)) a w'∧Stp s.ob M w (s.withOb (js ren os'++rest)).ob M' w':=by
 obtain⟨n,tm,ob⟩:=s
 have hown:∀b,du os b→du ob b:=fun b ⟨k,o,h1,h2⟩=>⟨ren k,o,hos k o h1,h2⟩
 have hrestn:∀k o b,look rest k=some o→bu o b→¬du os b:=by
  rintro k o b h1 h2 ⟨k0,o0,h3,h4⟩
  have:=hR.ob.dj (ren k0) k o0 o b (hos k0 o0 h3) (hrest k o h1) h4 h2
  have h5:=hr.apart k0 o0 h3
  rw[this,h1]at h5;cases h5
 refine⟨⟨hR.df,hR.sz,fun t=>(hR.tm t).mono hst.fr.mle,⟨fun k o h=>?_,fun k1 k2 o1 o2 b h1 h2 h3 h4=>?_⟩,hrs⟩,
  ⟨⟨hst.fr.os,hst.fr.tape,hst.fr.output,hst.fr.size,fun b hb hn=>hst.fr.keep b hb fun h=>hn (hown b h),hst.fr.mle,fun b hb hn=>hst.fr.mc b hb fun h=>hn (hown b h),fun b hb hn=>hst.fr.mm b hb fun h=>hn (hown b h)⟩,?_⟩⟩
 ·rcases fF h with h | h
  ·obtain⟨k',h1,_⟩:=iu h
   exact ho.ok k' o h1
  ·have hok:=hR.ob.ok k o (hrest k o h)
   refine iq hok hst.fr.mle fun b hb=>?_
   have hlt:=K3 hok hb
   have hn:=hrestn k o b h hb
   exact⟨hst.fr.keep b hlt hn,hst.fr.mc b hlt hn,hst.fr.mm b hlt hn⟩
 ·have mixed:∀k1 k2 o1 o2,look (js ren os') k1=some o1→look rest k2=some o2→bu o1 b→bu o2 b→False:=by
   intro k1 k2 o1 o2 h1 h2 h3 h4
   obtain⟨k',h5,_⟩:=iu h1
   rcases hst.ow b ⟨k',o1,h5,h3⟩with h6 | h6
   ·exact hrestn k2 o2 b h2 h4 h6
   ·exact absurd (K3 (hR.ob.ok k2 o2 (hrest k2 o2 h2)) h4) (by omega)
  rcases fF h1 with h1 | h1<;>rcases fF h2 with h2 | h2
  ·obtain⟨k1',h5,e1⟩:=iu h1
   obtain⟨k2',h6,e2⟩:=iu h2
   have:=ho.dj k1' k2' o1 o2 b h5 h6 h3 h4
   rw[← e1,← e2,this]
  ·exact(mixed k1 k2 o1 o2 h1 h2 h3 h4).elim
  ·exact(mixed k2 k1 o2 o1 h2 h1 h4 h3).elim
  ·exact hR.ob.dj k1 k2 o1 o2 b (hrest _ _ h1) (hrest _ _ h2) h3 h4
 ·rintro b ⟨k,o,h1,h2⟩
  rcases fF h1 with h1 | h1
  ·obtain⟨k',h3,_⟩:=iu h1
   exact(hst.ow b ⟨k',o,h3,h2⟩).imp (hown b) id
  ·exact .inl ⟨k,o,hrest k o h1,h2⟩
def Goes (s:St)(M:GM)(w:World)(K:St→Prop)(a':Act)(w':World):Prop:=∃s' M',K s'∧Rel M' s' a' w'∧Stp s.ob M w s'.ob M' w'
def ov (s:St)(M:GM)(w:World)(Kp:D→St→Prop):Exit→Act→World→Prop:=fun e a' w'=>∃d v s' M',e=.panic [{v,recovered:=false}]∧Gam M' d v∧Kp d s'∧Rel M' s' a' w'∧Stp s.ob M w s'.ob M' w'
theorem Oper.wp_mono'{o:Oper}{a:Act}{w:World}{K K':Act→World→Prop}{Q Q':Exit→Act→World→Prop}(hh:o.wp P a w K Q)(h:∀a w,K a w→K' a w)(hq:∀e a w,Q e a w→Q' e a w):o.wp P a w K' Q':=by
 unfold Oper.wp at *
 generalize(execOp a.eval o).run P w=r at *
 cases r with
 | ok n w' =>
  cases n<;>simp only[Oper.upon]at hh⊢<;>
   first
    | exact h _ _ hh
    | exact Calls.mono hh (fun e w'' he=>by cases e<;>first | exact h _ _ he | exact hq _ _ _ he | exact he.imp fun _ x=>x.imp fun _ y=>hq _ _ _ y)
    | exact Rows.mono hh (fun _ _ he=>h _ _ he)
 | halt x w'=>cases x<;>simp only[Oper.upon]at hh⊢<;> first | exact hh | exact hq _ _ _ hh
theorem EOk.wp{o:Oper}{K:St→Prop}{Q:Exit→Act→World→Prop}(h:EOk P o a M w s K):o.wp P a w (Goes s M w K) Q:=by
 obtain⟨r,w1,v,h1,h2,h3⟩:=h
 unfold Oper.wp
 rw[h1]
 rcases h2 with rfl | ⟨rfl,rfl⟩
 ·exact h3
 ·exact h3
theorem RdOk.wp{o:Oper}{K:St→Prop}{Q:Exit→Act→World→Prop}(hR:Rel M s a w)(h:RdOk P o a M w fun v=>s.put o.dst v K):o.wp P a w (Goes s M w K) Q:=by
 obtain⟨av,val,h1,h2,h3⟩:=h
 unfold Oper.wp
 rw[h1]
 obtain⟨s',k1,k2,k3⟩:=hR.put h3 h2
 exact⟨s',M,k1,k2,(Stp.refl _ _ _).ob_eq k3⟩
theorem fa(M:GM)(w:World):Obs M w []:=⟨fun _ _ h=>by simp[look_nil]at h,fun _ _ _ _ _ h=>by simp[look_nil]at h⟩
theorem uJ{o:Oper}{K:St→Prop}{Kp:D→St→Prop}(hR:Rel M s a w){f:FuncId}{args:List AV}{vals:List Value}(hargs:All2 (GamA M) args vals)
  (hex:cI P f→(execOp a.eval o).run P w=.ok (.enter f ⟨vals⟩) w) (h:qq P f args s o.dst K Kp):o.wp P a w (Goes s M w K) (ov s M w Kp):=by
 obtain⟨n,tm,ob⟩:=s
 simp only[qq,aU]at h
 unfold Oper.wp
 cases h with
 | pure r h k =>
  rw[hex h.ok]
  refine(h.run M w vals hR.rs hargs (fa _ _)).mono ?_
  rintro e w' ⟨os',M',ho,hrs,hst,hq⟩
  rcases hq with⟨r',v,rfl,⟨he,rfl⟩,hg⟩ | ⟨d,v,rfl,⟨he,_⟩,_⟩
  ·simp only[AE.ret.injEq]at he
   subst he
   have hfr:Frm (fun _=>False) M w M' w':=⟨hst.fr.os,hst.fr.tape,hst.fr.output,hst.fr.size,fun b hb _=>hst.fr.keep b hb (by rintro⟨_,_,h,_⟩;simp[look_nil]at h),hst.fr.mle,
    fun b hb _=>hst.fr.mc b hb (by rintro⟨_,_,h,_⟩;simp[look_nil]at h),fun b hb _=>hst.fr.mm b hb (by rintro⟨_,_,h,_⟩;simp[look_nil]at h)⟩
   obtain⟨r1,p1⟩:=hR.upd0 hfr hrs
   obtain⟨s',k1,k2,k3⟩:=r1.put k hg
   exact⟨s',M',k1,k2,p1.ob_eq k3⟩
  ·cases he
 | ex r R h k =>
  rw[hex h.ok]
  refine(h.run M w vals hR.rs hargs (fa _ _)).mono ?_
  rintro e w' ⟨os',M',ho,hrs,hst,hq⟩
  rcases hq with⟨r',v,rfl,⟨x,hx,he,rfl⟩,hg⟩ | ⟨d,v,rfl,⟨x,hx,he,_⟩,_⟩
  ·simp only[AE.ret.injEq]at he
   subst he
   have hfr:Frm (fun _=>False) M w M' w':=⟨hst.fr.os,hst.fr.tape,hst.fr.output,hst.fr.size,fun b hb _=>hst.fr.keep b hb (by rintro⟨_,_,h,_⟩;simp[look_nil]at h),hst.fr.mle,
    fun b hb _=>hst.fr.mc b hb (by rintro⟨_,_,h,_⟩;simp[look_nil]at h),fun b hb _=>hst.fr.mm b hb (by rintro⟨_,_,h,_⟩;simp[look_nil]at h)⟩
   obtain⟨r1,p1⟩:=hR.upd0 hfr hrs
   obtain⟨s',k1,k2,k3⟩:=r1.put (k x hx) hg
   exact⟨s',M',k1,k2,p1.ob_eq k3⟩
  ·cases he
 | gen args' os Q ren rest ha hos hr hrest h k kp =>
  rw[hex h.ok]
  have hargs':All2 (GamA M) args' vals:=⟨ha.1▸hargs.1,fun i x y hx hy=>by
   have hi:i<args.length:=by rw[ha.1];exact(List.getElem?_eq_some_iff.1 hx).1
   exact ha.2 i args[i] x (by simp[hi]) hx M y (hargs.2 i args[i] y (by simp[hi]) hy)⟩
  have hobs:Obs M w os:=⟨fun k o h=>hR.ob.ok _ o (hos k o h),fun k k' o o' b h1 h2 h3 h4=>hr.inj k k' o o' h1 h2 (hR.ob.dj _ _ o o' b (hos _ _ h1) (hos _ _ h2) h3 h4)⟩
  refine(h.run M w vals hR.rs hargs' hobs).mono ?_
  rintro e w' ⟨os',M',ho,hrs,hst,hq⟩
  rcases hq with⟨r,v,rfl,hq,hg⟩ | ⟨d,v,rfl,hq,hg⟩
  ·obtain⟨r',hle,hk⟩:=k r os' hq
   obtain⟨r1,p1⟩:=hR.called hos hr hrest ho hrs hst
   obtain⟨s',k1,k2,k3⟩:=r1.put hk (hle M' v hg)
   exact⟨s',M',k1,k2,p1.ob_eq k3⟩
  ·have hk:=kp d os' hq
   obtain⟨r1,p1⟩:=hR.called hos hr hrest ho hrs hst
   exact⟨d,v,_,M',rfl,hg,hk,r1,p1⟩
theorem tu{o:Oper}{c:Call}{x:Operand}(ho:o.op=.call c)(hc:c.callee=.value x){f:FuncId}{first caps:List Value}(hx:a.eval x=.func (.func f) ⟨first⟩ ⟨caps⟩){vals:List Value}
  (hv:(c.args.map a.eval).toList=vals) (hok:cI P f):(execOp a.eval o).run P w=.ok (.enter f ⟨first++vals++caps⟩) w:=by
 have hv':c.args.map a.eval=⟨vals⟩:=by rw[← Array.toList_inj];exact hv
 have e:(⟨first⟩++⟨vals⟩++⟨caps⟩:Array Value)=⟨first++vals++caps⟩:=by simp
 simp only[execOp,ho,resolve,hc,hx,hv',Deferred.ofValue,Sem.run_bind,Sem.run_pure,Result.andThen_ok,invoke,e,hok _ w]
theorem wg(hR:Rel M s a w){v:AV}{val:Value}(hv:GamA M v val){K:List (D×D)→Prop}(h:wM s v K) :
  ∃(es:List (D×D)) (arr:Array MapEntry),K es∧((val=.map none∧arr=#[])∨∃b clock,val=.map (some b)∧w.heap[b]? = some (.map arr clock))∧es.length=arr.size ∧
   ∀(i:Nat) (e:D×D) (v:MapEntry),es[i]? = some e→arr[i]? = some v→Gam M e.1 v.key∧Gam M e.2 v.val:=by
 unfold wM at h
 split at h
 ·split at h
  ·rename_i b' es hk
   obtain⟨rfl,h⟩:=h
   cases hv
   obtain⟨arr,clock,hb,hl,hg,_⟩:=hR.ob.ok _ _ hk
   exact⟨es,⟨arr⟩,h,.inr ⟨_,_,rfl,hb⟩,hl,fun i e v h1 h2=>let⟨p,q,_⟩:=hg i e v h1 (by simpa using h2);⟨p,q⟩⟩
  ·exact h.elim
 ·rename_i es
  cases hv with | d _ _ hv=>?_
  cases hv with | mp _ b arr clock hm hl g1 g2 _ _=>?_
  exact⟨es,⟨arr⟩,h,.inr ⟨_,_,rfl,hR.rs.m _ _ hm⟩,hl,fun i e v h1 h2=>⟨g1 i e v h1 (by simpa using h2),g2 i e v h1 (by simpa using h2)⟩⟩
 ·cases hv with | d _ _ hv=>?_
  cases hv
  exact⟨[],#[],h,.inl ⟨rfl,rfl⟩,rfl,fun _ _ _ h=>by simp at h⟩
 ·exact h.elim
theorem pI{kt:TypeId}{ki:TI}(hki:aX P kt ki=true):∀{es:List (D×D)} {arr:List MapEntry},es.length=arr.length→(∀(i:Nat) (e:D×D) (v:MapEntry),es[i]? = some e→arr[i]? = some v→Gam M e.1 v.key∧Gam M e.2 v.val) →
  (∀e∈es,gX ki e.1=true)→KeysV P kt ki.ek arr (arr.map fun v=>(v.key.cells.toList,v.val))
 | [],[],_,_,_=>trivial
 | e::es,v::arr,hl,hg,hf=>by
  obtain⟨_,_,k,_⟩:=MG hki (hg 0 e v rfl rfl).1 (hf e (by simp))
  exact⟨k,rfl,pI hki (by simpa using hl) (fun i e' v' h1 h2=>hg (i+1) e' v' (by simpa using h1) (by simpa using h2)) (fun e' h=>hf e' (by simp[h]))⟩
 | [],_::_,h,_,_=>by simp at h
 | _::_,[],h,_,_=>by simp at h
theorem find_ok{kt:TypeId}{ki:TI}(hki:aX P kt ki=true){x:D}{kv:Value}(hx:Gam M x kv)(hfx:gX ki x=true):∀{es:List (D×D)} {arr:List MapEntry} (i:Nat),es.length=arr.length →
  (∀(i:Nat) (e:D×D) (v:MapEntry),es[i]? = some e→arr[i]? = some v→Gam M e.1 v.key∧Gam M e.2 v.val)→(∀e∈es,gX ki e.1=true) →
  (d9 kv.cells.toList (arr.map fun v=>(v.key.cells.toList,v.val)) i=none∧kI (cellsOf x) es=none∧∀y,NY (cellsOf x) x y es=es++[(x,y)]) ∨
  ∃j e v,d9 kv.cells.toList (arr.map fun v=>(v.key.cells.toList,v.val)) i=some (i+j,v.val)∧es[j]? = some e∧arr[j]? = some v∧kI (cellsOf x) es=some e.2∧∀y,NY (cellsOf x) x y es=es.set j (x,y)
 | [],[],i,_,_,_=>.inl ⟨rfl,rfl,fun _=>rfl⟩
 | e::es,v::arr,i,hl,hg,hf=>by
  obtain⟨_,_,k1,c1⟩:=MG hki (hg 0 e v rfl rfl).1 (hf e (by simp))
  obtain⟨_,_,k2,c2⟩:=MG hki hx hfx
  have hfe:=hf e (by simp)
  simp only[gX,Bool.and_eq_true]at hfx hfe
  have heq:=rF c2 c1 hfx.1.1 hfe.1.1
  simp only[xZ,d9,kI,NY,heq]
  cases eU (cellsOf x) (cellsOf e.1)with
  | true=>exact .inr ⟨0,e,v,by simp,rfl,rfl,by simp,fun y=>by simp⟩
  | false =>
   have hfx':gX ki x=true:=by simp only[gX,Bool.and_eq_true];exact hfx
   rcases find_ok hki hx hfx' (i+1) (by simpa using hl) (fun i e' v' h1 h2=>hg (i+1) e' v' (by simpa using h1) (by simpa using h2)) (fun e' h=>hf e' (by simp[h]))with⟨h1,h2,h3⟩ | ⟨j,e',v',h1,h2,h3,h4,h5⟩
   ·exact .inl ⟨by simpa using h1,by simpa using h2,fun y=>by simp[h3 y]⟩
   ·exact .inr ⟨j+1,e',v',by simp only[Bool.false_eq_true,if_false,h1];congr 2;omega,by simpa using h2,by simpa using h3,by simpa using h4,fun y=>by simp[h5 y]⟩
 | [],_::_,_,h,_,_=>by simp at h
 | _::_,[],_,h,_,_=>by simp at h
theorem qF{et:TypeId}{ei:TI}(hei:aX P et ei=true){zd:D}(h:sF ei=some zd){z:Value}{w:World}(hz:(zeroValue et).run P w=.ok z w)(M:GM):Gam M zd z:=by
 obtain⟨inf,d,hi1,_,_,_,_,z',hz',hzz,_,hag⟩:=aB hei
 have hz1:=cF hzz M
 have ez:z'=z:=by
  rw[show(zeroValue et).run P w=.ok z' w from by simp[zeroValue,typeInfo,hi1,hz']]at hz
  cases hz;rfl
 subst ez
 unfold sF at h
 split at h
 ·rename_i hag0
  rw[hag0]at hag
  split at h
  ·rename_i z0 hze
   cases h
   have hc:z'.cells.toList=[z']:=by cases z'<;>first | rfl | cases hag
   rw[hc,hze]at hz1
   obtain⟨u,us,e0,hu,_⟩:=hz1.1.inv
   cases e0;exact hu
  ·cases h
 ·rename_i hag0
  rw[hag0]at hag
  cases h
  cases z' with
  | agg cs=>exact .agg _ _ hz1.1.1 hz1.1.2 hz1.2
  | _=>cases hag
theorem wh(ok q:Bool){vd:D}{vv:Value}(hv:Gam M vd vv):GamA M (vW ok vd q) (if ok then .tuple #[vv,.bool q] else vv):=by
 cases ok
 ·exact .d _ _ hv
 ·refine .d _ _ (.tup [vd,.bool q] [vv,.bool q] rfl fun j c u h1 h2=>?_)
  rcases j with _ | _ | j
  ·simp at h1 h2;subst h1;subst h2;exact hv
  ·simp at h1 h2;subst h1;subst h2;exact .bool _
  ·simp at h1
theorem tv{o:Oper}{K:St→Prop}(htt:cn P tt=true)(hR:Rel M s a w){t kt et:TypeId}{i ki ei:TI}(hi:aX P t i=true)(hk:i.k=.map kt et)(hki:aX P kt ki=true)(hei:aX P et ei=true){m x:Operand}{ok:Bool}
  (ho:o.op=.lookup t m x ok) (h:py s ki ei o.dst (s.eval m) (s.eval x) ok K):EOk P o a M w s K:=by
 obtain⟨_,d,_,hd,_,_,htk,_⟩:=aB hi
 have ed:d=.map kt et:=by cases d<;>simp[fR,hk]at htk;rw[htk.1,htk.2]
 subst ed
 unfold py at h
 obtain⟨es,arr,h,hm,hl,hg⟩:=wg hR (hR.eval m) h
 unfold uC at h
 have hx:=aM (hR.eval x)
 split at h
 ·rename_i kd ex
  rw[ex]at hx
  obtain⟨hfk,hfe,h⟩:=h
  cases hx with | d _ _ hx=>?_
  obtain⟨e1,e2,k1,c1⟩:=MG hki hx hfk
  obtain⟨inf,z,_,_,hz,hzs,hzrun⟩:=ga hei
  have hz1:=cF hz M
  have hl':es.length=arr.toList.length:=by simpa using hl
  have hg':∀(i:Nat) (e:D×D) (v:MapEntry),es[i]? = some e→arr.toList[i]? = some v→Gam M e.1 v.key∧Gam M e.2 v.val:=fun i e v h1 h2=>hg i e v h1 (by simpa using h2)
  have hrun:=rT hd e1 (by omega) k1 (hzrun w) (pI hki hl' hg' hfe) hm ok
  split at h
  ·rename_i zd hzd
   have hzg:=qF hei hzd (hzrun w) M
   obtain⟨v,b,rfl,rfl,h⟩:=h
   have fin:∀(vd:D) (vv:Value) (q:Bool),Gam M vd vv→(Instr.lookup t (a.eval m) (a.eval x) ok).run P w=.ok (if ok then .tuple #[vv,.bool q] else vv) w →
     s.put o.dst (vW ok vd q) K→EOk P o a M w s K:=by
    intro vd vv q hv hrun h
    have hga:GamA M (vW ok vd q) (if ok then .tuple #[vv,.bool q] else vv):=wh ok q hv
    obtain⟨s',g1,g2,g3⟩:=hR.put h hga
    refine⟨_,_,_,?_,.inl rfl,s',M,g1,g2,(Stp.refl s.ob M w).ob_eq g3⟩
    simp only[execOp,ho,Sem.run_bind,hrun];rfl
   rcases find_ok hki hx hfk 0 hl' hg' hfe with⟨h1,h2,_⟩ | ⟨j,e,v,h1,h2,h3,h4,_⟩
   ·rw[h1]at hrun
    rw[h2]at h
    exact fin _ _ _ hzg hrun h
   ·rw[h1]at hrun
    rw[h4]at h
    exact fin _ _ _ (hg' j e v h2 h3).2 hrun h
  ·exact h.elim
 ·exact h.elim
theorem rH{o:Oper}{K:St→Prop}(hR:Rel M s a w){t:TypeId}(ho:o.op=.makeMap t none){d kk:Nat}(hd:o.dst=some d)
  (h:∀b,s.setO kk (.map b []) fun s'=>s'.putN d (.mp kk b) K):EOk P o a M w s K:=by
 have h:=h w.heap.size
 have hfree:=hR.rs.free (H9 w.heap.size)
 obtain⟨s1,h1,r1,p1,_,_⟩:=hR.new (.map #[] 0) kk _ h ⟨[],0,by rw[heap_alloc_new],rfl,fun _ _ _ h=>by simp at h,rfl,hfree⟩ (fun b e=>by simp[bu]at e;exact e.symm)
 obtain⟨s',h1,h2,h3⟩:=r1.set h1 (.mp kk w.heap.size)
 exact⟨.value (.map (some w.heap.size)),_,_,by simp[execOp,ho,Instr.makeMap],.inl rfl,s',M,h1,by rw[hd];exact h2,p1.ob_eq h3⟩
theorem kR{o:Oper}{K:St→Prop}(htt:cn P tt=true)(hR:Rel M s a w){t kt et:TypeId}{i ki:TI}(hi:aX P t i=true)(hk:i.k=.map kt et)(hki:aX P kt ki=true){m x v:Operand}
  (ho:o.op=.mapUpdate t m x v∨o.op=.insert t m x v) (hdst:o.dst=none) (h:iE tt s ki et (s.eval m) (s.eval x) (s.eval v) K):EOk P o a M w s K:=by
 obtain⟨_,d,_,hd,_,_,htk,_⟩:=aB hi
 have ed:d=.map kt et:=by cases d<;>simp[fR,hk]at htk;rw[htk.1,htk.2]
 subst ed
 unfold iE at h
 obtain⟨s1,v1,M1,h,r1,p1,l1,g1,q1,n1⟩:=kN hR (hR.eval v) h
 have hv2:∃v2,GamA M1 v2 (a.eval v)∧(match v2 with
  | .d vd=>match s.eval m with
   | .mp k b=>match look s1.ob k with
    | some (.map b' es)=>Side (b=b') (uC ki (s.eval x) fun kd=>Need (∀e∈es,gX ki e.1=true) (MEqv (NY (cellsOf kd) kd vd es) fun es'=>s1.setO k (.map b es') K))
    | _=>False
   | _=>False
  | _=>False):=by
  unfold vU at h
  split at h
  ·obtain⟨_,_,h⟩:=aq htt h
   have e0:a.eval v=.slice none 0 0:=by generalize a.eval v=q at g1;cases g1;rfl
   rw[e0];exact⟨_,.d _ _ (.nils _),h⟩
  ·rw[fC]at h
   exact⟨_,aM g1,h⟩
 obtain⟨v2,g2,h⟩:=hv2
 split at h
 ·rename_i vd
  cases g2 with | d _ _ g2=>?_
  split at h
  ·rename_i k b em
   have hm:=hR.eval m
   rw[em]at hm
   generalize hmv:a.eval m=mv at hm
   cases hm
   split at h
   ·rename_i b' es hlk
    obtain⟨rfl,h⟩:=h
    obtain⟨arr,clock,hb,hl,hg,hck,hfree⟩:=r1.ob.ok _ _ hlk
    unfold uC at h
    have hx:=(aM (hR.eval x)).mono l1
    split at h
    ·rename_i kd ex
     rw[ex]at hx
     obtain⟨hfk,hfe,zs,rfl,h⟩:=h
     cases hx with | d _ _ hx=>?_
     obtain⟨e1,e2,k1,c1⟩:=MG hki hx hfk
     have hl':es.length=arr.length:=hl
     have hg':∀(i:Nat) (e:D×D) (v:MapEntry),es[i]? = some e→arr[i]? = some v→Gam M1 e.1 v.key∧Gam M1 e.2 v.val:=fun i e v h1 h2=>⟨(hg i e v h1 h2).1,(hg i e v h1 h2).2.1⟩
     have hrun:=oz (u:=a.eval v) hd e1 (by omega) k1 (es:=⟨arr⟩) (pI hki hl' hg' hfe) hb
     obtain⟨s',hks,hn,hgt,ho',hj⟩:=St.setO_ok h
     have hlt:b<w.heap.size:=aK hb
     -- the world behind the change
     have fin:∀(arr':List MapEntry) (clock':Nat),(Instr.mapUpdate t (.map (some b)) (a.eval x) (a.eval v)).run P w=.ok () {w with heap:=w.heap.setIfInBounds b (.map ⟨arr'⟩ clock')} →
       (NY (cellsOf kd) kd vd es).length=arr'.length→(∀(i:Nat) (e:D×D) (v:MapEntry),(NY (cellsOf kd) kd vd es)[i]? = some e→arr'[i]? = some v→Gam M1 e.1 v.key∧Gam M1 e.2 v.val∧v.born=i)→clock'=arr'.length→EOk P o a M w s K:=by
      intro arr' clock' hrun hl2 hg2 hck2
      have hsame:({w with heap:=w.heap.setIfInBounds b (.map ⟨arr'⟩ clock')}:World).heap[b]? = some (.map ⟨arr'⟩ clock'):=by simp[hlt]
      have hoth:∀q,q≠b→({w with heap:=w.heap.setIfInBounds b (.map ⟨arr'⟩ clock')}:World).heap[q]? = w.heap[q]?:=by
       intro q hq
       simp only[Array.getElem?_setIfInBounds]
       rw[if_neg (Ne.symm hq)]
      have hrs:Resp M1 {w with heap:=w.heap.setIfInBounds b (.map ⟨arr'⟩ clock')}:=by
       refine⟨fun q off u hu=>?_,fun q y hy=>?_,r1.rs.t⟩
       ·have hq:q≠b:=by rintro rfl;rw[hfree.c]at hu;cases hu
        rw[World.cell?_of_block (w:=w) (hoth q hq)];exact r1.rs.c _ _ _ hu
       ·have hq:q≠b:=by rintro rfl;rw[hfree.m]at hy;cases hy
        rw[hoth q hq];exact r1.rs.m _ _ hy
      obtain⟨r2,p2⟩:=r1.upd (S:=fun q=>q=b) (M':=M1) (w':={w with heap:=w.heap.setIfInBounds b (.map ⟨arr'⟩ clock')}) k _ hn hgt ho' hj
       ⟨rfl,rfl,rfl,by simp,fun q _ hq=>hoth q hq,M1.le_refl,fun _ _ _ _=>rfl,fun _ _ _=>rfl⟩ hrs (fun q _ hq=>⟨_,hlk,by rw[hq];rfl⟩)
       ⟨arr',clock',hsame,hl2,hg2,hck2,hfree⟩ (fun q hq=>.inr ⟨_,hlk,hq⟩)
      refine⟨.skip,_,undef,?_,.inr ⟨rfl,rfl⟩,s',M1,hks,by rw[hdst];exact r2,p1.trans p2⟩
      rcases ho with ho | ho<;>(simp only[execOp,ho,hmv,Sem.run_bind,hrun];rfl)
     rcases find_ok hki hx hfk 0 hl' hg' hfe with⟨h1,h2,h3⟩ | ⟨j,e,u,h1,h2,h3,h4,h5⟩
     ·rw[h1]at hrun
      refine fin (arr++[{key:=a.eval x,val:=a.eval v,born:=clock}]) (clock+1) (by simpa using hrun) (by rw[h3];simp[hl]) ?_ (by simp[hck])
      rw[h3]
      intro q e' v' hq1 hq2
      rcases Nat.lt_or_ge q es.length with hq | hq
      ·rw[za hq]at hq1
       rw[za (by omega)]at hq2
       exact hg q e' v' hq1 hq2
      ·rw[zL hq]at hq1
       rw[zL (by omega)]at hq2
       have hq0:q-es.length=0:=by
        have:=(List.getElem?_eq_some_iff.1 hq1).1;simp at this;omega
       have hq3:q-arr.length=0:=by omega
       rw[hq0]at hq1;rw[hq3]at hq2
       simp at hq1 hq2
       subst hq1;subst hq2
       exact⟨hx,g2,by simp;omega⟩
     ·rw[h1,Jp]at hrun
      have hmod:(⟨arr⟩:Array MapEntry).modify j (fun e=>{e with key:=a.eval x,val:=a.eval v})=⟨arr.set j {u with key:=a.eval x,val:=a.eval v}⟩:=by
       rw[← Array.toList_inj]
       have hjl:j<arr.length:=(List.getElem?_eq_some_iff.1 h3).1
       apply List.ext_getElem?
       intro q
       simp only[Array.toList_modify,List.getElem?_modify,Bq]
       by_cases e:j=q
       ·subst e
        have h3':=h3
        rw[IX hjl]at h3'
        cases h3'
        simp[hjl]
       ·simp[e]
      simp only[hmod]at hrun
      refine fin _ clock hrun (by rw[h5];simp[hl]) ?_ (by simp[hck])
      rw[h5]
      intro q e' v' hq1 hq2
      rw[Bq]at hq1 hq2
      have hjl:j<es.length:=(List.getElem?_eq_some_iff.1 h2).1
      by_cases e:j=q
      ·subst e
       simp[hjl]at hq1
       simp[show j<arr.length by omega]at hq2
       subst hq1;subst hq2
       exact⟨hx,g2,(hg j _ u h2 h3).2.2⟩
      ·simp only[e,if_false]at hq1 hq2
       exact hg q e' v' hq1 hq2
    ·exact h.elim
   ·exact h.elim
  ·exact h.elim
 ·exact h.elim
theorem kS(z:Value)(n:Nat):(Builtin.zeroCells z.cells n).toList=(Iu n z.cells.toList).flatten:=by
 have:=kP z.cells.toList n
 rw[← this]
 simp[Builtin.zeroCells,madeCells]
theorem rI{o:Oper}{c:Call}{K:St→Prop}(hR:Rel M s a w)(ho:o.op=.call c)(hc:c.callee=.builtin .append){kk d:Nat}(hd:o.dst=some d){x y:AV}(hargs:c.args.toList.map s.eval=[x,y])
  {t t' e:TypeId} (hts:c.argTypes.toList=[t,t']) {i ei i':TI} {kn:IntKind} (hi:aX P t i=true) (hk:i.k=.slice e) (hi':aX P t' i'=true) (hk':i'.k=.int kn) (hei:aX P e ei=true) {n:Int} (hy:y.toD=.d (.int .i64 n))
  (h:na i ei e s kk d x n K):EOk P o a M w s K:=by
 have hall:All2 (GamA M) (c.args.toList.map s.eval) (c.args.map a.eval).toList:=by rw[Array.toList_map];exact .list_map _ _ _ hR.eval
 rw[hargs]at hall
 obtain⟨vx,r1,e1,hx,hall⟩:=hall.inv
 obtain⟨vy,r2,e2,hyv,hall⟩:=hall.inv
 have e3:=hall.inv_nil
 subst e3 e2
 have hyv:=aM hyv
 rw[hy]at hyv
 cases hyv with | d _ _ hyv=>?_
 cases hyv
 have ea:c.args.map a.eval=#[vx,.int .i64 n]:=by rw[← Array.toList_inj];exact e1
 have et:c.argTypes=#[t,t']:=by rw[← Array.toList_inj];exact hts
 obtain⟨_,dd,_,hdd,_,_,htk,_⟩:=aB hi
 obtain⟨rfl,he,hpos⟩:=bH htk hk
 obtain⟨_,dd',_,hdd',_,_,htk',_⟩:=aB hi'
 have ed':=Od htk' hk'
 subst ed'
 obtain⟨inf,_,hinf,_,hsz,hby,_,z,hz,hzz,hzs,_⟩:=aB hei
 have hesz:i.esz=ei.size:=by rw[← he];simp[Program.cellsOf,hinf,hsz]
 have hex:∀v' w1,(Builtin.append_ #[t,t'] o.type #[vx,.int .i64 n]).run P w=.ok v' w1→(execOp a.eval o).run P w=.ok (.value v') w1:=by
  intro v' w1 hrun
  simp[execOp,ho,resolve,hc,ea,et,invoke,builtin,hrun]
 unfold na at h
 split at h
 ·cases hx
  obtain⟨⟨h0,hb,h63⟩,h⟩:=h
  have hgz:=cF hzz M
  have hzl:z.cells.toList.length=ei.size:=by simpa using hzs
  have hnn:((n.toNat:Nat):Int)=n:=Gf (by omega)
  have fin:∀x:D,cellsOf x=ei.zero→gw s kk d e i.esz (Iu n.toNat x) K→EOk P o a M w s K:=by
   intro x hx h
   have hflat:(Iu n.toNat x).flatMap cellsOf=(Iu n.toNat ei.zero).flatten:=by rw[eu,hx]
   have hone:∀v∈(Iu n.toNat z.cells.toList).flatten,v.oneCell'=true:=by
    intro v hv
    obtain⟨l',hl',hv'⟩:=List.mem_flatten.1 hv
    rw[(List.mem_replicate.1 hl').2]at hv'
    exact hgz.2 v hv'
   have hxl:(cellsOf x).length=i.esz:=by rw[hx,hesz,← hzl];exact hgz.1.1
   have hbn:n.toNat*ei.bytes≤140737488355328:=by
    have:((n.toNat*ei.bytes:Nat):Int)≤140737488355328:=by rw[Int.natCast_mul,hnn];exact hb
    omega
   have hrun:=Lib.run_append_grow_zeros (P:=P) w t t' o.type e inf z .i64 kn hdd hdd' hinf hz none 0 0 [] (by simp[Builtin.firstCells]) n.toNat (by omega) (by rw[hsz,← hesz];exact hpos) (by omega) (by omega)
    (by rw[hby];omega) (by
     rw[hby]
     unfold Builtin.nextslicecap
     simp only[Nat.mul_zero,Jp]
     rw[if_pos (by omega)];omega)
   rw[hnn]at hrun
   have hgr:App w (w.drew.alloc (.cells ((([]:List Value).toArray)++Builtin.zeroCells z.cells n.toNat++Builtin.zeroCells z.cells (grownCap w (0+n.toNat) 0 e-(0+n.toNat))) e)) e i.esz (.slice none 0 0)
     (.slice (some ⟨w.heap.size,0,none⟩) (0+n.toNat) (grownCap w (0+n.toNat) 0 e)) ([]:List D).length (Iu n.toNat x).length [] (Iu n.toNat z.cells.toList).flatten:=by
    have hge:=grownCap_ge w (0+n.toNat) 0 e
    have hcm:grownCap w (0+n.toNat) 0 e≤maxLen:=grownCap_le_maxLen w (0+n.toNat) 0 e (by simp only[maxLen];omega)
    simp only[yf,DD]
    refine⟨⟨by simp[hzl,hesz,FH],.inr ⟨w.heap.size,_,_,rfl,Nat.zero_le _,heap_alloc_new w.drew _,hge,hcm,?_,?_⟩⟩,rfl,rfl,rfl,by simp,fun b hb _=>alloc_old w.drew _ b hb,fun b hb=>?_,fun g o hg ho'=>by simp[Value.ownBlock]at hg,⟨_,_,_,rfl⟩⟩
    ·simp only[Array.size_append,DW,size_zeroCells,hzs,hesz,yf,Jp,← Nat.add_mul]
     congr 1
     simp only[Jp]at hge
     omega
    ·have e1:(Builtin.zeroCells z.cells n.toNat).toList=(Iu n.toNat z.cells.toList).flatten:=kS z n.toNat
     have e2:((Iu n.toNat z.cells.toList).flatten).length=n.toNat*i.esz:=by simp[FH,hzl,hesz]
     simp only[Array.toList_append,y9,e1,Jp,zb]
     rw[← e2]
     exact BX
    ·simp[Value.ownBlock]at hb;omega
   obtain⟨s',g1,g2,g3⟩:=hR.app (xs:=[]) (fz:=false) (k:=kk) (d:=d) (K:=K) .nil (by simp) (by simp) (by rw[hflat];exact bJ hgz.1 _) hone (fun y hy=>by rw[(List.mem_replicate.1 hy).2];exact hxl)
    (fun b hb=>by simp[Value.ownBlock]at hb) hgr (by rw[y9]) (fun b hb=>by simp[Value.ownBlock]at hb) (h _)
   exact⟨_,_,_,hex _ _ hrun,.inl rfl,s',M,g1,by rw[hd];exact g2,g3⟩
  split at h
  ·rename_i z' hag hz'
   obtain⟨zs,rfl,h⟩:=h
   have hcz:cellsOf z'=ei.zero:=by
    rw[hz']
    rw[hz']at hzz
    cases z'<;>first | rfl | (rename_i q;exfalso;revert hzz;generalize Value.cells _=cc;cases cc with | mk l=>cases l with | nil=>simp[bF] | cons v l=>simp[bF,iD])
   exact fin _ hcz h
  ·obtain⟨zs,rfl,h⟩:=h
   exact fin _ rfl h
  ·exact h.elim
 ·exact h.elim
theorem xf{o:Oper}{K:St→Prop}(hR:Rel M s a w){t:TypeId}{i:TI}(hi:aX P t i=true){x:Operand}{lo hi':Option Operand}(ho:o.op=.slice t x lo hi' none)
  (h:vwE s i o.dst (s.eval x) (lo.map s.eval) (hi'.map s.eval) K):EOk P o a M w s K:=by
 obtain⟨_,dd,_,hdd,_,_,htk,_⟩:=aB hi
 have hex:∀v w1,(Instr.sliceAt t (a.eval x) (lo.map a.eval) (hi'.map a.eval) none).run P w=.ok v w1→(execOp a.eval o).run P w=.ok (.value v) w1:=by
  intro v w1 hrun
  simp[execOp,ho,hrun]
 unfold vwE at h
 split at h
 ·rename_i e k hd hk ex
  obtain⟨rfl,he,hpos⟩:=bH htk hk
  have hso:=aQ (P:=P) (t:=e) (by omega) w
  rw[he]at hso
  have hx:=hR.eval x
  rw[ex]at hx
  split at h
  ·rename_i h' e' sz fz xs hlk
   obtain⟨rfl,h⟩:=h
   obtain⟨n,h,hn⟩:=KC hR h
   obtain⟨m,⟨⟨h0,h1,h2,rfl⟩,h⟩,hm⟩:=KC hR h
   obtain⟨vals,hown,_⟩:=hR.ob.ok k _ hlk
   obtain⟨hax,aa,nn,cc,hhd⟩:=hx.sl_inv
   have hnn:nn=xs.length∧nn≤cc:=by
    rcases hown.2 with⟨q1,q2⟩ | ⟨g,cap,cur,q1,_,_,q3,_⟩
    ·rw[hhd]at q1;simp only[Value.slice.injEq]at q1;omega
    ·rw[hhd]at q1;simp only[Value.slice.injEq]at q1;omega
   have hrun:=eX (w:=w) hdd hso (ad:=aa) (len:=nn) (cap:=cc) hm (by rw[hnn.1];exact hn) h0 h1 (by omega) hnn.2
   rw[hhd]at h
   obtain⟨s',g1,g2,g3⟩:=hR.put h (GamA.vw k aa nn cc i.esz m.toNat n.toNat)
   exact⟨_,w,_,hex _ _ (by rw[hax,hhd];exact hrun),.inl rfl,s',M,g1,g2,(Stp.refl s.ob M w).ob_eq g3⟩
  ·exact h.elim
 ·rename_i n e k b o hk ex
  obtain⟨rfl,he,hpos,hsz⟩:=ip htk hk
  have hso:=aQ (P:=P) (t:=e) (by omega) w
  rw[he]at hso
  have hx:=hR.eval x
  rw[ex]at hx
  split at h
  ·rename_i b' cs hlo hhi hlk
   have hlo1:lo=none:=by cases lo<;>simp_all
   have hhi1:hi'=none:=by cases hi'<;>simp_all
   subst hlo1 hhi1
   obtain⟨⟨rfl,he1,hn0⟩,h⟩:=h
   generalize hav:a.eval x=av at hx
   cases hx
   have hb':=eW (P:=P) (w:=w) (len:=n) (cap:=n) (lo:=none) (hi:=none) (m:=0) (n:=(n:Int)) false (.inl ⟨rfl,rfl⟩) (.inl ⟨rfl,rfl⟩) (zD _) (by omega) (by omega) (H9 _)
   have hrun:(Instr.sliceAt t (a.eval x) ((none:Option Operand).map a.eval) ((none:Option Operand).map a.eval) none).run P w=.ok (.slice (some ⟨b,o,none⟩) n n) w:=by
    simp only[Instr.sliceAt,hav,Sem.run_bind,run_underlying hdd,Result.andThen_ok,Instr.sureAddr,Sem.run_pure,ED]
    rw[hb']
    simp only[Result.andThen_ok,Sem.run_bind,hso,Sem.run_pure,CE,JD]
    by_cases hn:n=0
    ·simp[hn]
    ·simp[hn,Addr.add]
   obtain⟨s',g1,g2,g3⟩:=hR.put h (GamA.vw k (some ⟨b,0,none⟩) (o+n) (o+n) 1 o (o+n))
   refine⟨_,w,_,hex _ _ hrun,.inl rfl,s',M,g1,?_,(Stp.refl s.ob M w).ob_eq g3⟩
   have hne:o+n≠o:=by omega
   rw[if_neg hne]at g2
   simpa [addr_add]using g2
  ·exact h.elim
 ·exact h.elim
theorem qG{o:Oper}{K:St→Prop}(hR:Rel M s a w){t:TypeId}{i:TI}(hi:aX P t i=true){x:Operand}{lo hi':Option Operand}(ho:o.op=.slice t x lo hi' none)
  (h:pv an s i o.dst (s.eval x) (lo.map s.eval) (hi'.map s.eval) K):EOk P o a M w s K:=by
 unfold pv at h
 split at h
 ·exact xf hR hi ho h
 ·exact Pb (an:=an) hR hi ho h
theorem jV{xs:List D}(h:∀x∈xs,(cellsOf x).length=1):∃f:D→D,(∀x∈xs,cellsOf x=[f x])∧xs.flatMap cellsOf=xs.map f:=by
 refine⟨fun x=>(cellsOf x).headD default,fun x hx=>?_,?_⟩
 ·have:=h x hx
  match hc:cellsOf x,this with
  | [y],_=>simp[hc]
 ·induction xs with
  | nil=>rfl
  | cons x xs ih =>
   have h1:=h x (by simp)
   simp only[yZ,xZ,ih fun y hy=>h y (by simp[hy])]
   match hc:cellsOf x,h1 with
   | [y],_=>simp[hc]
theorem iH{xs:List D}(h:∀x∈xs,(cellsOf x).length=1)(n:Nat):(xs.take n).flatMap cellsOf=(xs.flatMap cellsOf).take n:=by
 obtain⟨f,h1,h2⟩:=jV h
 obtain⟨g,h3,h4⟩:=jV (xs:=xs.take n) fun x hx=>h x (JA hx)
 rw[h2,h4,← List.map_take]
 refine D5 fun x hx=>?_
 have:=h1 x (JA hx)
 rw[h3 x hx]at this
 simpa using this
theorem nk{xs:List D}(h:∀x∈xs,(cellsOf x).length=1)(n:Nat):(xs.drop n).flatMap cellsOf=(xs.flatMap cellsOf).drop n:=by
 obtain⟨f,h1,h2⟩:=jV h
 obtain⟨g,h3,h4⟩:=jV (xs:=xs.drop n) fun x hx=>h x (By hx)
 rw[h2,h4,← List.map_drop]
 refine D5 fun x hx=>?_
 have:=h1 x (By hx)
 rw[h3 x hx]at this
 simpa using this
theorem pJ(hR:Rel M s a w){v:AV}{val:Value}(hv:GamA M v val){K:List D→Prop}(h:vV s v K) :
  ∃(ys:List D) (ad:Option Addr) (c:Nat) (vals:List Value),K ys∧val=.slice ad ys.length c∧All2 (Gam M) (ys.flatMap cellsOf) vals∧(∀x∈ys,(cellsOf x).length=1)∧(∀u∈vals,u.oneCell'=true) ∧
   (0<ys.length→∃ad',ad=some ad'∧∀j u,vals[j]? = some u→w.cell? (ad'.add j)=some u):=by
 unfold vV at h
 have hv:=aM hv
 split at h
 ·rename_i e;rw[e]at hv;cases hv
  exact⟨[],none,0,[],h,rfl,.nil,by simp,by simp,by simp⟩
 ·rename_i sz ys e;rw[e]at hv
  obtain⟨rfl,h⟩:=h
  cases hv with | d _ _ hv=>?_
  cases hv with
  | nils=>exact⟨[],none,0,[],h,rfl,.nil,by simp,by simp,by simp⟩
  | listz _ ad cap=>exact⟨[],some ad,cap,[],h,rfl,.nil,by simp,by simp,by simp⟩
  | list _ _ b off cap vf hc hs hm hg hone =>
   refine⟨ys,some ⟨b,off,none⟩,cap,(List.range (ys.flatMap cellsOf).length).map vf,h,rfl,⟨by simp,fun i x y hx hy=>?_⟩,hs,fun u hu=>?_,fun _=>⟨_,rfl,fun j u hu=>?_⟩⟩
   ·have hlt:=(List.getElem?_eq_some_iff.1 hx).1
    rw[Jr,yM hlt]at hy
    simp at hy;subst hy;exact hg i x hx
   ·obtain⟨i,hi,rfl⟩:=List.mem_map.1 hu
    have hlt:=List.mem_range.1 hi
    exact hone i _ (IX hlt)
   ·rw[Jr]at hu
    obtain⟨q,hq,rfl⟩:=Option.map_eq_some_iff.1 hu
    have hlt:=(List.getElem?_eq_some_iff.1 hq).1
    rw[List.length_range]at hlt
    rw[yM hlt]at hq
    cases hq
    rw[addr_add]
    exact hR.rs.c _ _ _ (hm j _ (IX hlt))
 ·rename_i k hd e;rw[e]at hv
  have hq0:=jt hR h;clear h;obtain⟨ob,hlk,hok,h⟩:=hq0
  split at h
  ·rename_i h' e' sz fz ys
   obtain⟨⟨rfl,rfl⟩,h⟩:=h
   obtain⟨vals,hown,hall,h1,hsz,_⟩:=hok
   obtain⟨rfl,aa,nn,cc,rfl⟩:=hv.sl_inv
   rcases hown.2 with⟨q1,q2⟩ | ⟨g,cap,cur,q1,_⟩
   ·cases q1
    have:ys=[]:=JB q2
    subst this
    exact⟨[],none,0,[],h,rfl,.nil,by simp,by simp,by simp⟩
   ·cases q1
    exact⟨ys,_,cc,vals,h,rfl,hall,hsz,h1,fun _=>⟨_,rfl,fun j u hu=>hown.cells (g:=g) rfl j u hu⟩⟩
  ·exact h.elim
 ·rename_i k hd sz lo hi e;rw[e]at hv
  have hq0:=jt hR h;clear h;obtain⟨ob,hlk,hok,h⟩:=hq0
  split at h
  ·rename_i h' e' sz' fz ys
   obtain⟨⟨rfl,rfl,rfl⟩,⟨h0,h1'⟩,h⟩:=h
   obtain⟨vals,hown,hall,h1,hsz,_⟩:=hok
   cases hv with | vw _ aa nn cc _ _ _=>?_
   have hlen:((ys.take hi).drop lo).length=hi-lo:=by simp;omega
   have hsz':∀x∈(ys.take hi).drop lo,(cellsOf x).length=1:=fun x hx=>hsz x (JA (By hx))
   rcases hown.2 with⟨q1,q2⟩ | ⟨g,cap,cur,q1,_,_,hnc,_⟩
   ·cases q1
    have e0:hi=0:=by omega
    have e1:lo=0:=by omega
    subst e0 e1
    refine⟨_,none,0,[],h,?_,?_,hsz',by simp,?_⟩
    ·simp
    ·simp;exact .nil
    ·simp
   ·cases q1
    refine⟨_,_,cc-lo,(vals.take hi).drop lo,h,by rw[hlen],?_,hsz',fun u hu=>h1 u (JA (By hu)),fun hpos=>?_⟩
    ·rw[nk (fun x hx=>hsz x (JA hx)),iH hsz]
     exact(hall.take hi).drop lo
    ·have hne:cc≠lo:=by omega
     refine⟨⟨g,lo,none⟩,by rw[if_neg hne];simp[addr_add],fun j u hu=>?_⟩
     have hc:=hown.cells (g:=g) rfl (lo+j) u (by
      rw[List.getElem?_drop,Am]at hu
      split at hu
      ·exact hu
      ·cases hu)
     rw[addr_add]at hc ⊢
     simpa using hc
  ·exact h.elim
 ·exact h.elim
theorem tw{xs ys:List D}(h:∀x∈xs,(cellsOf x).length=1)(k:∀x∈ys,(cellsOf x).length=1)(lo:Nat):(over xs lo ys).flatMap cellsOf=over (xs.flatMap cellsOf) lo (ys.flatMap cellsOf):=by
 have hl:(ys.flatMap cellsOf).length=ys.length:=by rw[dH k,AF]
 simp only[over,BZ,iH h,nk h,hl]
theorem qH(hR:Rel M s a w){o:Oper}{K:St→Prop}{k e:Nat}{hdr:Value}{xs:List D}{lo hi:Nat}{y:AV}{x' y' dT sT elem:TypeId}(hk:look s.ob k=some (.arr hdr e 1 false xs)){vy:Value}(hy:GamA M y vy)
  {dp:Option Addr} {dc:Nat} (hd:lo≤hi→hi≤xs.length→0<hi-lo→∃g cap,hdr=.slice (some ⟨g,0,none⟩) xs.length cap∧dp=some ⟨g,lo,none⟩)
  (hrunTo:∀v w',(Builtin.copy_ #[dT,sT] o.type #[.slice dp (hi-lo) dc,vy]).run P w=.ok v w'→(execOp a.eval o).run P w=.ok (.value v) w')
  (hu:P.underlying dT=some (.slice elem)) (hsz:(P.info? elem).map (·.size)=some 1)
  (h:sC s o.dst k hdr e xs lo hi y K):EOk P o a M w s K:=by
 unfold sC at h
 obtain⟨ys,ad,c,vals,h,rfl,hall,hone,h1,hpos⟩:=pJ hR hy h
 obtain⟨⟨b1,b2⟩,zs,hz,n,rfl,h⟩:=h
 subst hz
 obtain⟨s1,hks,hn1,hg1,ho1,hj1⟩:=St.setO_ok h
 have hlv:vals.length=ys.length:=by rw[← hall.1,dH hone,AF]
 have hobk:=hR.ob.ok k _ hk
 by_cases h0:Nat.min ys.length (hi-lo)=0
 ·have hrun:=run_copy_none (P:=P) w dT sT o.type elem dp ad (hi-lo) dc ys.length c hu hsz h0
  have e1:over xs lo (ys.take (hi-lo))=xs:=by
   have:ys.take (hi-lo)=[]:=by
    apply JB
    rw[JC]
    have:min (hi-lo) ys.length=Nat.min ys.length (hi-lo):=Nat.min_comm _ _
    omega
   rw[this];simp[over]
  have e2:(min ys.length (hi-lo))=0:=h0
  rw[e1]at ho1
  obtain⟨r1,p1⟩:=hR.upd (S:=fun _=>False) (M':=M) (w':=w) k _ hn1 hg1 ho1 hj1 (.refl _ _ _) hR.rs (fun _ _ h=>h.elim) hobk (fun b hb=>.inr ⟨_,hk,hb⟩)
  obtain⟨s2,g1,g2,g3⟩:=r1.put hks (val:=goInt 0) (by rw[e2];exact .d _ _ (.int _ _))
  exact⟨_,w,_,hrunTo _ _ hrun,.inl rfl,s2,M,g1,g2,p1.ob_eq g3⟩
 ·have hp1:0<ys.length:=by
   rcases Cd ys.length with q | q
   ·rw[q]at h0;simp[Nat.min_def]at h0
   ·exact q
  have hp2:0<hi-lo:=by
   rcases Cd (hi-lo)with q | q
   ·rw[q]at h0;simp at h0
   ·exact q
  obtain⟨ad',rfl,hcells⟩:=hpos hp1
  obtain⟨g,cap,rfl,rfl⟩:=hd b1 b2 hp2
  obtain⟨cur0,hown,hxs,hx1,hxsz,hfree⟩:=hobk
  have hown0:=hown
  rcases hown.2 with⟨e0,_⟩ | ⟨g',cap',cur,e0,q0,hgg,hnc,hcm,hcs,htake⟩
  ·cases e0
  simp only[Value.slice.injEq,Option.some.injEq,Addr.mk.injEq,and_true,true_and]at e0
  obtain⟨rfl,rfl⟩:=e0
  have hcl:(vals.take (hi-lo)).length=Nat.min ys.length (hi-lo):=by
   rw[JC,hlv];exact Nat.min_comm _ _
  have hcl2:(vals.take (hi-lo)).length≤hi-lo:=by rw[JC];exact Nat.min_le_left _ _
  have hrun:=run_copy_row (P:=P) w dT sT o.type elem g lo (hi-lo) dc ad' ys.length c cur e (vals.take (hi-lo)) hu hsz hgg hcl
   (fun j v hv=>hcells j v (by
    rw[Am]at hv
    split at hv
    ·exact hv
    ·cases hv)) (by rw[hcs];omega) (fun v hv=>h1 v (JA hv))
  have hfl:(over xs lo (ys.take (hi-lo))).flatMap cellsOf=over (xs.flatMap cellsOf) lo ((ys.flatMap cellsOf).take (hi-lo)):=by
   rw[tw hxsz (fun x hx=>hone x (JA hx)),iH hone]
  have hxl:(xs.flatMap cellsOf).length=xs.length:=by rw[dH hxsz,AF]
  have hcur0:cur0.length=xs.length:=by rw[← hxs.1,hxl]
  have hl2:((ys.flatMap cellsOf).take (hi-lo)).length=(vals.take (hi-lo)).length:=by rw[JC,JC,hall.1]
  have hall2:All2 (Gam M) (over (xs.flatMap cellsOf) lo ((ys.flatMap cellsOf).take (hi-lo))) (over cur0 lo (vals.take (hi-lo))):=by
   unfold over
   rw[hl2]
   exact((hxs.take lo).append (hall.take _)).append (hxs.drop _)
  have hlo:(over cur0 lo (vals.take (hi-lo))).length=xs.length:=by
   simp only[over,Js,JC,AA,hcur0];omega
  have hlx:(over xs lo (ys.take (hi-lo))).length=xs.length:=by
   simp only[over,Js,JC,AA];omega
  have htk:cur.toList.take xs.length=cur0:=by rw[← AF xs.length];exact htake
  have hrow:(w.setRow g (cur.toList.take lo++vals.take (hi-lo)++cur.toList.drop (lo+(vals.take (hi-lo)).length)).toArray).ownsRow 0 e 1 (.slice (some ⟨g,0,none⟩) xs.length cap)
    (over xs lo (ys.take (hi-lo))).length (over cur0 lo (vals.take (hi-lo))):=by
   refine⟨by rw[hlo,hlx,AF],.inr ⟨g,cap,_,by rw[hlx],q0,setRow_heap w g _ _ _ _ hgg,by rw[hlx];exact hnc,hcm,?_,?_⟩⟩
   ·simp;omega
   ·rw[hlx,AF,← htk]
    simp only[over]
    have a1:(cur.toList.take lo++vals.take (hi-lo)).length=lo+(vals.take (hi-lo)).length:=by
     rw[Js,JC,Bm (by simp;omega)]
    rw[List.take_append,List.take_of_length_le (by omega),a1,List.take_take,Bm (by omega),List.drop_take]
  have hone2:∀v∈over cur0 lo (vals.take (hi-lo)),v.oneCell'=true:=by
   intro v hv
   simp only[over,AL]at hv
   rcases hv with(hv | hv) | hv
   ·exact hx1 v (JA hv)
   ·exact h1 v (JA hv)
   ·exact hx1 v (By hv)
  have hsz2:∀x∈over xs lo (ys.take (hi-lo)),(cellsOf x).length=1:=by
   intro v hv
   simp only[over,AL]at hv
   rcases hv with(hv | hv) | hv
   ·exact hxsz v (JA hv)
   ·exact hone v (JA hv)
   ·exact hxsz v (By hv)
  have hfc:∀o,M.c g o=none:=fun o=>(hfree g rfl).2 o (.inl rfl)
  obtain⟨r1,p1⟩:=hR.upd (S:=fun q=>q=g) (M':=M) (w':=w.setRow g (cur.toList.take lo++vals.take (hi-lo)++cur.toList.drop (lo+(vals.take (hi-lo)).length)).toArray) k _ hn1 hg1 ho1 hj1
   (Frm.setRow _ M w g _ rfl) (hR.rs.setRow hgg (fun o u hu=>by rw[hfc]at hu;cases hu) (hfree g rfl).1) (fun q _ hq=>⟨_,hk,by rw[hq];rfl⟩)
   ⟨_,hrow,by rw[hfl];exact hall2,hone2,hsz2,fun b hb=>⟨(hfree b hb).1,fun o _=>(hfree b hb).2 o (.inl rfl)⟩⟩ (fun q hq=>.inr ⟨_,hk,hq⟩)
  obtain⟨s2,g1,g2,g3⟩:=r1.put hks (val:=goInt (vals.take (hi-lo)).length) (by rw[hcl];exact .d _ _ (.int _ _))
  exact⟨_,_,_,hrunTo _ _ hrun,.inl rfl,s2,M,g1,g2,p1.ob_eq g3⟩
theorem uK(l:List D):sD l=l.flatMap cellsOf:=by
 induction l with
 | nil=>rfl
 | cons x l ih=>rw[yZ,← ih];show oo _ _=_;rw[OX];rfl
theorem uL(hR:Rel M s a w){o:Oper}{K:St→Prop}{k b:Nat}{cs:List AV}{lo hi:Nat}{y:AV}{dT sT elem:TypeId}(hk:look s.ob k=some (.cells b cs)){vy:Value}(hy:GamA M y vy){dc:Nat}
  (hrunTo:∀v w',(Builtin.copy_ #[dT,sT] o.type #[.slice (some ⟨b,lo,none⟩) (hi-lo) dc,vy]).run P w=.ok v w'→(execOp a.eval o).run P w=.ok (.value v) w')
  (hu:P.underlying dT=some (.slice elem)) (hsz:(P.info? elem).map (·.size)=some 1)
  (h:sE s o.dst k b cs lo hi y K):EOk P o a M w s K:=by
 unfold sE at h
 obtain⟨ys,ad,c,vals,h,rfl,hall,hone,h1,hpos⟩:=pJ hR hy h
 obtain⟨zs,hz,h⟩:=h
 split at h
 rotate_left
 ·exact h.elim
 rename_i e1 e2 e3
 have e1:=Ik e1
 have e2:lo+1≤hi:=JF e2
 have e3:=JF e3
 rw[eg]at e1 e3
 change zs.length=hi-lo at e1
 change ys.take (hi-lo)=zs at hz
 simp only[aU,bY]at h
 have hlv:vals.length=ys.length:=by rw[← hall.1,dH hone,AF]
 have hyl:hi-lo≤ys.length:=by
  have:=congrArg List.length hz
  rw[JC,e1]at this
  omega
 obtain⟨ad',rfl,hcells⟩:=hpos (by omega)
 obtain⟨s1,hks,hn1,hg1,ho1,hj1⟩:=St.setO_ok h
 obtain⟨vals0,elem0,hb,hall0,hone0,hfree⟩:=hR.ob.ok k _ hk
 have hl0:cs.length=vals0.length:=hall0.1
 have hcl:(vals.take (hi-lo)).length=hi-lo:=by rw[JC,hlv];omega
 have hrun:=run_copy_row (P:=P) w dT sT o.type elem b lo (hi-lo) dc ad' ys.length c ⟨vals0⟩ elem0 (vals.take (hi-lo)) hu hsz hb (by rw[hcl];exact(Nat.min_eq_right hyl).symm)
  (fun j v hv=>hcells j v (by
   rw[Am]at hv
   split at hv
   ·exact hv
   ·cases hv)) (by rw[hcl];show lo+(hi-lo)≤vals0.length;omega) (fun v hv=>h1 v (JA hv))
 have hnew:All2 (GamA M) ((sD zs).map .d) (vals.take (hi-lo)):=by
  rw[uK,← hz,iH hone]
  exact LG (hall.take _)
 have hfz:(sD zs).length=hi-lo:=by have:=hnew.1;rw[List.length_map,hcl]at this;exact this
 have hrow:setMany vals0 lo (vals.take (hi-lo))=vals0.take lo++vals.take (hi-lo)++vals0.drop (lo+(vals.take (hi-lo)).length):=dV _ _ _ (by rw[hcl];omega)
 have hone2:∀v∈setMany vals0 lo (vals.take (hi-lo)),v.oneCell'=true:=by
  intro v hv
  rw[hrow]at hv
  simp only[AL]at hv
  rcases hv with(hv | hv) | hv
  ·exact hone0 v (JA hv)
  ·exact h1 v (JA hv)
  ·exact hone0 v (By hv)
 obtain⟨r1,p1⟩:=hR.upd (S:=fun q=>q=b) (M':=M) (w':=w.setRow b (setMany vals0 lo (vals.take (hi-lo))).toArray) k _ hn1 hg1 ho1 hj1
  (Frm.setRow _ M w b _ rfl) (hR.rs.setRow hb (fun o u hu=>by rw[hfree.c]at hu;cases hu) hfree.m) (fun q _ hq=>⟨_,hk,by rw[hq];rfl⟩)
  ⟨_,elem0,setRow_heap w b _ _ _ _ hb,eh hnew _ _ _ hall0,hone2,hfree⟩ (fun q hq=>.inr ⟨_,hk,hq⟩)
 obtain⟨s2,g1,g2,g3⟩:=r1.put hks (val:=goInt (vals.take (hi-lo)).length) (by rw[hcl];exact .d _ _ (.int _ _))
 rw[hrow]at g2
 exact⟨_,_,_,hrunTo _ _ hrun,.inl rfl,s2,M,g1,g2,by rw[hrow]at p1;exact p1.ob_eq g3⟩
theorem wi(hR:Rel M s a w){o:Oper}{K:St→Prop}{c:Call}(ho:o.op=.call c)(hc:c.callee=.builtin .copy){x y:AV}{t t':TypeId}{i:TI}{el:TypeId}(hargs:c.args.toList.map s.eval=[x,y])
  (hts:c.argTypes.toList=[t,t']) (hi:aX P t i=true) (hk:i.k=.slice el) (hsz:Nat.beq i.esz 1=true) (h:uA s o.dst x y K):EOk P o a M w s K:=by
 obtain⟨_,dd,_,hdd,_,_,htk,_⟩:=aB hi
 obtain⟨rfl,he,hpos⟩:=bH htk hk
 have hsz':i.esz=1:=Ik hsz
 have hinfo:(P.info? el).map (·.size)=some 1:=by
  rw[hsz']at he
  unfold Program.cellsOf at he
  cases hi:P.info? el with
  | none=>simp[hi]at he
  | some inf=>simp[hi]at he;simp[he]
 have hall:All2 (GamA M) (c.args.toList.map s.eval) (c.args.map a.eval).toList:=by rw[Array.toList_map];exact .list_map _ _ _ hR.eval
 rw[hargs]at hall
 obtain⟨vx,vs,e1,hvx,ht⟩:=hall.inv
 obtain⟨vy,vs',e1',hvy,ht'⟩:=ht.inv
 have e2:=ht'.inv_nil
 subst e2 e1'
 have ea':c.args.map a.eval=#[vx,vy]:=by rw[← Array.toList_inj];simpa using e1
 have et':c.argTypes=#[t,t']:=by rw[← Array.toList_inj];simpa using hts
 have hrunTo:∀v w',(Builtin.copy_ #[t,t'] o.type #[vx,vy]).run P w=.ok v w'→(execOp a.eval o).run P w=.ok (.value v) w':=by
  intro v w' hr
  simp[execOp,ho,resolve,hc,ea',et',invoke,builtin,hr]
 unfold uA at h
 split at h
 ·rename_i k hd
  split at h
  ·rename_i h' e sz xs hlk
   obtain⟨⟨rfl,rfl⟩,h⟩:=h
   obtain⟨vals,hown,_⟩:=hR.ob.ok k _ hlk
   obtain⟨rfl,aa,nn,cc,hhd⟩:=hvx.sl_inv
   have hnn:nn=xs.length:=by
    rcases hown.2 with⟨q1,q2⟩ | ⟨g,cap,cur,q1,_,_,q3,_⟩
    ·rw[hhd]at q1;simp only[Value.slice.injEq]at q1;omega
    ·rw[hhd]at q1;simp only[Value.slice.injEq]at q1;omega
   refine qH (dp:=aa) (dc:=cc) hR hlk hvy (fun _ _ hp=>?_) (x':=t) (y':=t) (by rw[hhd,hnn]at hrunTo;simpa using hrunTo) hdd hinfo h
   rcases hown.2 with⟨q1,q2⟩ | ⟨g,cap,cur,q1,_,_,q3,_⟩
   ·omega
   ·rw[hhd]at q1 ⊢
    simp only[Value.slice.injEq]at q1
    obtain⟨rfl,rfl,rfl⟩:=q1
    exact⟨g,_,rfl,rfl⟩
  ·exact h.elim
 ·rename_i k hd sz lo hi2
  split at h
  ·rename_i h' e sz' xs hlk
   obtain⟨⟨rfl,rfl,rfl⟩,h⟩:=h
   obtain⟨vals,hown,_⟩:=hR.ob.ok k _ hlk
   cases hvx with | vw _ aa nn cc _ _ _=>?_
   refine qH (dp:=_) (dc:=_) hR hlk hvy (fun _ hb hp=>?_) (x':=t) (y':=t) hrunTo hdd hinfo h
   rcases hown.2 with⟨q1,q2⟩ | ⟨g,cap,cur,q1,_,_,q3,_⟩
   ·omega
   ·simp only[Value.slice.injEq]at q1
    obtain⟨rfl,rfl,rfl⟩:=q1
    refine⟨g,_,rfl,?_⟩
    rw[if_neg (by omega)]
    simp[addr_add]
  ·rename_i b cs hlk
   obtain⟨⟨rfl,rfl⟩,h⟩:=h
   cases hvx with | vw _ aa nn cc _ _ _=>?_
   refine uL (dc:=hi2-lo) (sT:=t') hR hlk hvy (fun v w' hr=>?_) hdd hinfo h
   refine hrunTo v w' ?_
   have hne:hi2≠lo:=by
    rintro rfl
    unfold sE at h
    obtain⟨ys,_,_,_,h,_⟩:=pJ hR hvy h
    obtain⟨zs,_,h⟩:=h
    split at h
    ·rename_i _ e2 _
     have:=JF e2
     omega
    ·exact h.elim
   rw[if_neg hne]
   simpa [addr_add]using hr
  ·exact h.elim
 ·exact h.elim
theorem ox(htt:cn P tt=true)(hR:Rel M s a w){o:Oper}{K:St→Prop}{x:Operand}{xt t' t:TypeId}{ok:Bool}(ho:o.op=.typeAssert x xt t' ok){d:D}(hx:s.eval x=.d (.ifc t d)){i:TI}(hi:aX P t' i=true)
  (h:px i t t' d ok fun v=>s.put o.dst v K):EOk P o a M w s K:=by
 have hv:=hR.eval x
 rw[hx]at hv
 generalize hvv:a.eval x=vx at hv
 cases hv with | d _ _ hv=>?_
 cases hv with | ifc _ _ v hv=>?_
 obtain⟨_,dd,_,hd,_,_,htk,_⟩:=aB hi
 obtain⟨inf,z,_,_,_,_,hzrun⟩:=ga hi
 unfold px at h
 split at h
 ·exact h.elim
 ·rename_i hk
  have hni:∀ms,dd≠.interface ms:=by
   rintro ms rfl
   simp only[fR]at htk
   first
   | (cases htk;done)
   | (split at htk;(rename_i e';exact hk e');cases htk)
  split at h
  ·rename_i et
   have et:=Ik et
   subst et
   split at h
   ·have hrun:(execOp a.eval o).run P w=.ok (.value (.tuple #[v,.bool true])) w:=by
     simp only[execOp,ho,hvv,Instr.typeAssert,Sem.run_bind,run_underlying hd,Result.andThen_ok]
     cases dd<;>first | (simp;done) | exact absurd rfl (hni _)
    have hg:GamA M (.tup [.d d,.b true]) (.tuple #[v,.bool true]):=.tup _ [v,.bool true] rfl fun j c u hc hu=>by
     match j,hc,hu with
     | 0,hc,hu=>simp at hc hu;subst hc hu;exact .d _ _ hv
     | 1,hc,hu=>simp at hc hu;subst hc hu;exact .b _
    obtain⟨s',h1,h2,h3⟩:=hR.put h hg
    exact⟨_,_,_,hrun,.inl rfl,s',M,h1,h2,(Stp.refl s.ob M w).ob_eq h3⟩
   ·have hrun:(execOp a.eval o).run P w=.ok (.value v) w:=by
     simp only[execOp,ho,hvv,Instr.typeAssert,Sem.run_bind,run_underlying hd,Result.andThen_ok]
     cases dd<;>first | (simp;done) | exact absurd rfl (hni _)
    obtain⟨s',h1,h2,h3⟩:=hR.put h (.d _ _ hv)
    exact⟨_,_,_,hrun,.inl rfl,s',M,h1,h2,(Stp.refl s.ob M w).ob_eq h3⟩
  ·rename_i et
   have et:=Nat.ne_of_beq_eq_false et
   split at h
   ·split at h
    ·rename_i zd hzd
     have hzg:=qF hi hzd (hzrun w) M
     have hrun:(execOp a.eval o).run P w=.ok (.value (.tuple #[z,.bool false])) w:=by
      simp only[execOp,ho,hvv,Instr.typeAssert,Sem.run_bind,run_underlying hd,Result.andThen_ok]
      cases dd<;>first | (simp[et,hzrun w];done) | exact absurd rfl (hni _)
     have hg:GamA M (.tup [.d zd,.b false]) (.tuple #[z,.bool false]):=.tup _ [z,.bool false] rfl fun j c u hc hu=>by
      match j,hc,hu with
      | 0,hc,hu=>simp at hc hu;subst hc hu;exact .d _ _ hzg
      | 1,hc,hu=>simp at hc hu;subst hc hu;exact .b _
     obtain⟨s',h1,h2,h3⟩:=hR.put h hg
     exact⟨_,_,_,hrun,.inl rfl,s',M,h1,h2,(Stp.refl s.ob M w).ob_eq h3⟩
    ·exact h.elim
   ·exact h.elim
theorem qI(hR:Rel M s a w){o:Oper}{K:St→Prop}{c:Call}(ho:o.op=.call c)(hc:c.callee=.builtin .clear)(hdst:o.dst=none){t el:TypeId}{i ei:TI}{k lo hi eo sz':Nat}{sz:Nat}{h':Value}{xs:List D}{zd:D}
  (hargs:c.args.toList.map s.eval=[.vw k h' sz lo hi]) (hts:c.argTypes.toList=[t]) (hti:aX P t i=true) (hk:i.k=.slice el) (hei:aX P el ei=true) (hz0:cellsOf zd=ei.zero)
  (hlk:look s.ob k=some (.arr h' eo sz' false xs)) (hes:i.esz=sz') (hlo:lo=0∧hi=xs.length) (hK:s.setO k (.arr h' eo sz' false (Iu xs.length zd)) K):EOk P o a M w s K:=by
 obtain⟨rfl,rfl⟩:=hlo
 obtain⟨_,dd,_,hdd,_,_,htk,_⟩:=aB hti
 obtain⟨rfl,he,hpos⟩:=bH htk hk
 obtain⟨inf,_,hinf,_,hsz,hby,_,z,hz,hzz,hzs,_⟩:=aB hei
 have hesz:i.esz=ei.size:=by rw[← he];simp[Program.cellsOf,hinf,hsz]
 have hzv:(zeroValue el).run P w=.ok z w:=by simp[zeroValue,typeInfo,hinf,hz]
 have hall:All2 (GamA M) (c.args.toList.map s.eval) (c.args.map a.eval).toList:=by rw[Array.toList_map];exact .list_map _ _ _ hR.eval
 rw[hargs]at hall
 obtain⟨vx,vs,e1,hvx,ht⟩:=hall.inv
 have e2:=ht.inv_nil
 subst e2
 have ea':c.args.map a.eval=#[vx]:=by rw[← Array.toList_inj];simpa using e1
 have et':c.argTypes=#[t]:=by rw[← Array.toList_inj];simpa using hts
 have hrunTo:∀v w',(Builtin.clear_ #[t] o.type #[vx]).run P w=.ok v w'→(execOp a.eval o).run P w=.ok (.value v) w':=by
  intro v w' hr
  simp[execOp,ho,resolve,hc,ea',et',invoke,builtin,hr]
 obtain⟨s1,hks,hn1,hg1,ho1,hj1⟩:=St.setO_ok hK
 have hobk:=hR.ob.ok k _ hlk
 cases hvx with | vw _ aa nn cc _ _ _=>?_
 by_cases hx0:xs=[]
 ·subst hx0
  have hrun:(Builtin.clear_ #[t] o.type #[.slice (if cc=0 then aa else aa.map (·.add (0*sz))) (([]:List D).length-0) (cc-0)]).run P w=.ok (.tuple #[]) w:=by
   cases(if cc=0 then aa else aa.map (·.add (0*sz)))<;>simp[Builtin.clear_,run_underlying hdd]
  obtain⟨r1,p1⟩:=hR.upd (S:=fun _=>False) (M':=M) (w':=w) k _ hn1 hg1 ho1 hj1 (.refl _ _ _) hR.rs (fun _ _ h=>h.elim) hobk (fun b hb=>.inr ⟨_,hlk,hb⟩)
  exact⟨_,w,_,hrunTo _ _ hrun,.inl rfl,s1,M,hks,by rw[hdst];exact r1,p1⟩
 ·have hn0:0<xs.length:=Nat.pos_of_ne_zero fun h=>hx0 (JB h)
  obtain⟨cur0,hown,hxs,hx1,hxsz,hfree⟩:=hobk
  rcases hown.2 with⟨e0,q⟩ | ⟨g,cap,cur,e0,q0,hgg,hnc,hcm,hcs,htake⟩
  ·omega
  simp only[Value.slice.injEq]at e0
  obtain⟨rfl,rfl,rfl⟩:=e0
  have hgz:=cF hzz M
  have hzl:z.cells.toList.length=sz':=by rw[← hes,hesz];simpa using hzs
  have hvl:(Iu xs.length z.cells.toList).flatten.length=xs.length*sz':=by simp[FH,hzl]
  have hone:∀v∈(Iu xs.length z.cells.toList).flatten,v.oneCell'=true:=by
   intro v hv
   obtain⟨l',hl',hv'⟩:=List.mem_flatten.1 hv
   rw[(List.mem_replicate.1 hl').2]at hv'
   exact hgz.2 v hv'
  have hfit:xs.length*sz'≤cur.size:=by rw[hcs];exact BO _ hnc
  have hst:=run_storeCells_at P g 0 eo (Iu xs.length z.cells.toList).flatten 0 cur w hgg (by rw[hvl];simpa using hfit) hone
  have hrun:(Builtin.clear_ #[t] o.type #[.slice (if cc=0 then(some ⟨g,0,none⟩:Option Addr)else(some ⟨g,0,none⟩:Option Addr).map (·.add (0*sz))) (xs.length-0) (cc-0)]).run P w =
    .ok (.tuple #[]) (w.setRow g (cur.toList.take (0+0)++(Iu xs.length z.cells.toList).flatten++cur.toList.drop (0+0+(Iu xs.length z.cells.toList).flatten.length)).toArray):=by
   rw[if_neg (by omega)]
   obtain⟨n,hn⟩:∃n,xs.length=n+1:=⟨xs.length-1,by omega⟩
   rw[hn]at hst ⊢
   simp[Builtin.clear_,run_underlying hdd,hzv,addr_add,kS]at hst ⊢
   rw[hst]
   simp
  rw[hvl]at hrun
  simp only[Jp,List.take_zero,y9]at hrun
  have hrow:(w.setRow g ((Iu xs.length z.cells.toList).flatten++cur.toList.drop (xs.length*sz')).toArray).ownsRow 0 eo sz' (.slice (some ⟨g,0,none⟩) xs.length cc)
    (Iu xs.length zd).length (Iu xs.length z.cells.toList).flatten:=by
   refine⟨by rw[hvl,DD],.inr ⟨g,cc,_,by rw[DD],q0,setRow_heap w g _ _ _ _ hgg,by rw[DD];exact hnc,hcm,?_,?_⟩⟩
   ·rw[← hcs]
    simp only[DW,Js,hvl,AA,Array.length_toList]
    omega
   ·rw[DD,← hvl];exact BX
  have hall2:All2 (Gam M) ((Iu xs.length zd).flatMap cellsOf) (Iu xs.length z.cells.toList).flatten:=by
   rw[eu,hz0];exact bJ hgz.1 _
  have hsz2:∀x∈Iu xs.length zd,(cellsOf x).length=sz':=by
   intro x hx
   rw[(List.mem_replicate.1 hx).2,hz0,← hzl];exact hgz.1.1
  have hfc:∀o,M.c g o=none:=fun o=>(hfree g rfl).2 o (.inl rfl)
  obtain⟨r1,p1⟩:=hR.upd (S:=fun q=>q=g) (M':=M) (w':=w.setRow g ((Iu xs.length z.cells.toList).flatten++cur.toList.drop (xs.length*sz')).toArray) k _ hn1 hg1 ho1 hj1
   (Frm.setRow _ M w g _ rfl) (hR.rs.setRow hgg (fun o u hu=>by rw[hfc]at hu;cases hu) (hfree g rfl).1) (fun q _ hq=>⟨_,hlk,by rw[hq];rfl⟩)
   ⟨_,hrow,hall2,hone,hsz2,fun b hb=>⟨(hfree b hb).1,fun o _=>(hfree b hb).2 o (.inl rfl)⟩⟩ (fun q hq=>.inr ⟨_,hlk,hq⟩)
  exact⟨_,_,_,hrunTo _ _ hrun,.inl rfl,s1,M,hks,by rw[hdst];exact r1,p1⟩
theorem wQ(htt:cn P tt=true)(hR:Rel M s a w){o:Oper}{K:St→Prop}{Kp:D→St→Prop}(h:opE P tt an o s K Kp):o.wp P a w (Goes s M w K) (ov s M w Kp):=by
 unfold opE at h
 split at h
 ·rename_i t e
  split at h
  ·rename_i d hd
   obtain⟨i,hi,h⟩:=aq htt h
   split at h
   ·exact(qz (kk:=Nat.add an.off d) (imm:=true) hR hi e hd h).wp
   ·split at h
    ·split at h
     ·split at h
      ·rename_i hz0
       exact(qA hR hi e hd hz0 h).wp
      ·exact h.elim
     ·split at h
      ·rename_i hz0
       obtain⟨_,_,h⟩:=aq htt h
       split at h
       ·exact(qB hR hi e hd hz0 h).wp
       ·exact h.elim
      ·exact h.elim
     ·exact h.elim
    ·exact(qz (kk:=Nat.add an.off d) (imm:=false) hR hi e hd h).wp
  ·exact h.elim
 ·rename_i t x e
  split at h
  ·rename_i d hd
   obtain⟨i,hi,h⟩:=aq htt h
   exact(wP htt hR e hd h).wp
  ·exact h.elim
 ·rename_i t x y e
  split at h
  ·rename_i hd
   obtain⟨i,hi,h⟩:=aq htt h
   split at h
   ·obtain⟨s1,v1,M1,h,r1,p1,l1,g1,q1,n1⟩:=kN hR (hR.eval y) h
    obtain⟨r,w',v,h1,h2,s',M',k,r2,p2⟩:=ng htt r1 e hd hi g1 h
    exact EOk.wp ⟨r,w',v,h1,h2,s',M',k,r2,p1.trans p2⟩
   ·split at h
    ·exact((ng htt hR e hd hi (hR.eval y) h).then hd fun s1 M1 w1 a1 k r=>oW r k).wp
    ·exact(ng htt hR e hd hi (hR.eval y) h).wp
  ·exact h.elim
 ·rename_i t parts e
  obtain⟨i,hi,h⟩:=aq htt h
  exact(uI hR hi e h).wp
 ·rename_i t n parts e
  split at h
  ·rename_i d hd
   obtain⟨i,hi,h⟩:=aq htt h
   split at h
   ·rename_i el hk
    obtain⟨ei,hei,h⟩:=aq htt h
    exact(oq hR hi hk hei e hd h).wp
   ·exact h.elim
  ·exact h.elim
 ·rename_i t l c e
  split at h
  ·rename_i d hd
   split at h
   ·rename_i kn n km m hl hc
    obtain⟨i,hi,h⟩:=aq htt h
    split at h
    ·rename_i el hk
     obtain⟨ei,hei,h⟩:=aq htt h
     obtain⟨hb,h⟩:=h
     split at h
     ·rename_i z hag hz
      obtain⟨zs,rfl,h⟩:=h
      have hcz:cellsOf z=ei.zero:=by
       rw[hz]
       obtain⟨_,_,_,_,hzz,_,_⟩:=ga hei
       rw[hz]at hzz
       cases z<;>first | rfl | (rename_i q;exfalso;revert hzz;generalize Value.cells _=cc;cases cc with | mk l=>cases l with | nil=>simp[bF] | cons v l=>simp[bF,iD])
      exact(kQ hR hi hk hei e hd hl hc hb hcz h).wp
     ·obtain⟨zs,rfl,h⟩:=h
      exact(kQ hR hi hk hei e hd hl hc hb rfl h).wp
     ·exact h.elim
    ·exact h.elim
   ·exact h.elim
  ·exact h.elim
 ·rename_i t x lo hi' e
  obtain⟨i,hi,h⟩:=aq htt h
  split at h
  ·obtain⟨s1,M1,h1,r1,p1⟩:=oW hR h
   obtain⟨r,w',v,q1,q2,s',M',k,r2,p2⟩:=qG (an:=an) r1 hi e h1
   exact(show EOk P o a M w s K from⟨r,w',v,q1,q2,s',M',k,r2,p1.trans p2⟩).wp
  ·exact(qG (an:=an) hR hi e h).wp
 ·rename_i t x lo hi' mx e
  obtain⟨i,hi,h⟩:=aq htt h
  exact(tq hR hi e h).wp
 ·rename_i t e
  split at h
  ·rename_i d hd
   exact(rH hR e hd h).wp
  ·exact h.elim
 ·rename_i t x e
  split at h
  ·rename_i d hd
   obtain⟨i,hi,h⟩:=aq htt h
   split at h
   ·rename_i kt et hk
    exact(u7 hR hi hk e hd h).wp
   ·exact h.elim
  ·exact h.elim
 ·rename_i x e
  exact(PB hR e h).wp
 ·rename_i x e
  exact(qR hR e h).wp
 ·rename_i t m x ok e
  obtain⟨i,hi,h⟩:=aq htt h
  split at h
  ·rename_i kt et hk
   obtain⟨ki,hki,h⟩:=aq htt h
   obtain⟨ei,hei,h⟩:=aq htt h
   exact(tv htt hR hi hk hki hei e h).wp
  ·exact h.elim
 ·rename_i t m x v e
  split at h
  ·rename_i hd
   obtain⟨i,hi,h⟩:=aq htt h
   split at h
   ·rename_i kt et hk
    obtain⟨ki,hki,h⟩:=aq htt h
    exact(kR htt hR hi hk hki (.inl e) hd h).wp
   ·exact h.elim
  ·exact h.elim
 ·rename_i t m x v e
  split at h
  ·rename_i hd
   obtain⟨i,hi,h⟩:=aq htt h
   split at h
   ·rename_i kt et hk
    obtain⟨ki,hki,h⟩:=aq htt h
    exact(kR htt hR hi hk hki (.inr e) hd h).wp
   ·exact h.elim
  ·exact h.elim
 ·rename_i c e
  simp only[bY,OX]at h
  split at h
  ·rename_i hc
   split at h
   ·rename_i d x y t t' hd hargs hts
    split at h
    ·rename_i et
     have et:=Ik et
     subst et
     obtain⟨i,hi,h⟩:=aq htt h
     split at h
     ·rename_i el hk
      obtain⟨ei,hei,h⟩:=aq htt h
      exact(tp hR e hc hd hargs hts hi hk hei h).wp
     ·exact h.elim
    ·obtain⟨i,hi,h⟩:=aq htt h
     obtain⟨i',hi',h⟩:=aq htt h
     split at h
     ·rename_i el kn n hk hk' hy
      obtain⟨ei,hei,h⟩:=aq htt h
      exact(rI hR e hc hd hargs hts hi hk hi' hk' hei hy h).wp
     ·rename_i el b hk hk' hy
      obtain⟨ei,hei,h⟩:=aq htt h
      split at h
      ·rename_i n hke hz0
       obtain⟨⟨rfl,hs1,hb1⟩,h⟩:=h
       exact(rU hR e hc hd hargs hts hi hk hi' hk' hei hke hz0 hs1 hb1 hy h).wp
      ·exact h.elim
     ·exact h.elim
   ·exact h.elim
  ·rename_i hc
   split at h
   ·rename_i x y t t' hargs hts
    obtain⟨i,hi,h⟩:=aq htt h
    split at h
    ·rename_i el hk hsz
     exact(wi hR e hc hargs hts hi hk hsz h).wp
    ·exact h.elim
   ·exact h.elim
  ·rename_i hc
   split at h
   ·rename_i x t hd hargs hts
    obtain⟨i,hi,h⟩:=aq htt h
    split at h
    ·rename_i el hk
     obtain⟨ei,hei,h⟩:=aq htt h
     unfold uB at h
     split at h
     ·split at h
      ·rename_i hlk
       obtain⟨⟨rfl,hes⟩,hlo,h⟩:=h
       split at h
       ·rename_i z hag hz
        obtain⟨zs,rfl,h⟩:=h
        have hcz:cellsOf z=ei.zero:=by
         rw[hz]
         obtain⟨_,_,_,_,hzz,_,_⟩:=ga hei
         rw[hz]at hzz
         cases z<;>first | rfl | (rename_i q;exfalso;revert hzz;generalize Value.cells _=cc;cases cc with | mk l=>cases l with | nil=>simp[bF] | cons v l=>simp[bF,iD])
        exact(qI hR e hc hd hargs hts hi hk hei hcz hlk hes hlo h).wp
       ·obtain⟨zs,rfl,h⟩:=h
        exact(qI hR e hc hd hargs hts hi hk hei rfl hlk hes hlo h).wp
       ·exact h.elim
      ·exact h.elim
     ·exact h.elim
    ·exact h.elim
   ·exact h.elim
  ·rename_i x hc
   have hall:All2 (GamA M) (c.args.toList.map s.eval) (c.args.map a.eval).toList:=by rw[Array.toList_map];exact .list_map _ _ _ hR.eval
   obtain⟨s1,vs1,M1,h,r1,p1,l1,g1,q1,n1⟩:=nj hR hall h
   obtain⟨vs2,h,g2⟩:=ir htt g1 h
   have hx:=(hR.eval x).mono l1
   have fin:∀(f:FuncId) (args:List AV) (first caps:List Value),a.eval x=.func (.func f) ⟨first⟩ ⟨caps⟩→All2 (GamA M1) args (first++(c.args.map a.eval).toList++caps)→qq P f args s1 o.dst K Kp →
     o.wp P a w (Goes s M w K) (ov s M w Kp):=by
    intro f args first caps hv hargs hcall
    have:=uJ r1 hargs (fun hok=>tu (w:=w) e hc hv rfl hok) hcall
    refine Oper.wp_mono' this ?_ ?_
    ·rintro a' w' ⟨s',M',k1,k2,k3⟩
     exact⟨s',M',k1,k2,p1.trans k3⟩
    ·rintro x a' w' ⟨d,v,s',M',k0,k1,k2,k3,k4⟩
     exact⟨d,v,s',M',k0,k1,k2,k3,p1.trans k4⟩
   split at h
   ·rename_i f first caps ex
    rw[ex]at hx
    generalize hv:a.eval x=vx at hx
    cases hx with | d _ _ hx=>?_
    cases hx with | fn _ _ _ fv cv h1 h2 h3 h4=>?_
    exact fin f _ fv cv hv (by rw[zb];exact(LG ⟨h1,h2⟩).append (g2.append (LG ⟨h3,h4⟩))) h
   ·rename_i f first caps ex
    rw[ex]at hx
    generalize hv:a.eval x=vx at hx
    cases hx with | fn _ _ _ fv cv h1 h2 h3 h4=>?_
    exact fin f _ fv cv hv (by rw[zb];exact All2.append ⟨h1,h2⟩ (g2.append ⟨h3,h4⟩)) h
   ·exact h.elim
  ·exact h.elim
 ·rename_i x xt t' ok e
  split at h
  ·rename_i t d ex
   obtain⟨i,hi,h⟩:=aq htt h
   exact(ox htt hR e ex hi h).wp
  ·exact h.elim
 ·rename_i x e
  have hx:=hR.eval x
  split at h
  ·rename_i t d ex
   rw[ex]at hx
   generalize hv:a.eval x=vx at hx
   cases hx with | d _ _ hx=>?_
   cases hx with | ifc _ _ v hx=>?_
   have hrun:(execOp a.eval o).run P w=.halt (.panic (.iface t v)) w:=by
    simp only[execOp,e,hv,Sem.run_bind,run_panic_iface]
    rfl
   unfold Oper.wp
   rw[hrun]
   exact⟨.ifc t d,_,s,M,rfl,.ifc _ _ _ hx,h,hR,.refl _ _ _⟩
  ·exact h.elim
 ·exact h.elim
theorem rJ(htt:cn P tt=true)(hR:Rel M s a w){o:Oper}{K:St→Prop}{Kp:D→St→Prop}(h:opA P tt an o s K Kp):o.wp P a w (Goes s M w K) (ov s M w Kp):=by
 unfold opA at h
 split at h
 ·split at h
  ·rename_i x e
   split at h
   ·rename_i k hh hm hx
    have hv:=hR.eval x
    rw[hx]at hv
    obtain⟨s1,v1,M1,h,r1,p1,l1,g1,q1,n1⟩:=ju hR hv h
    obtain⟨s',h1,h2,h3⟩:=r1.put h g1
    exact EOk.wp ⟨.value (a.eval x),w,_,by simp[execOp,e],.inl rfl,s',M1,h1,h2,p1.ob_eq h3⟩
   ·exact(NL htt hR h).wp hR
  ·rename_i ta tb x e
   obtain⟨si,hs,h⟩:=aq htt h
   obtain⟨di,hd,h⟩:=aq htt h
   exact Pu htt hR e hs hd (fun h=>h.wp) (fun h=>(NL htt hR h).wp hR) h
  ·exact(NL htt hR h).wp hR
 ·exact wQ htt hR h
end
end Go.Abs
