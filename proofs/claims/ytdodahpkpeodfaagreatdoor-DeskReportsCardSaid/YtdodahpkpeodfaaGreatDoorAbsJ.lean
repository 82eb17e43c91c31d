/-
 Soundness, seventh part: slice literals, make, append, slice expressions.
-/
import Derived.Test.YtdodahpkpeodfaaGreatDoorAbsI
set_option linter.all false
open List renaming append_nil→Bc,flatMap_cons→yZ,flatten_cons→Bz,replicate→Iu,replicate_succ→CB,take_of_length_le→Df
open Nat renaming eq_of_beq_eq_true→Ik,succ_mul→zP
namespace Go.Abs
open Go
section
variable {P:Program}{tt:TT}{M M':GM}{s s':St}{a:Act}{w w':World}
theorem oU{nl:Bool}{e:TypeId}{ei:TI}(hei:aX P e ei=true){K:List D→Prop}:∀{parts:List (Nat×AV)} {vals:List (Nat×Value)} {n:Nat} {cells:Array Value},All2 (pF M) parts vals →
  (n+parts.length)*ei.size=cells.size→lm nl ei n parts K →
  ∃xs cells' news,K xs∧Instr.fill (fun i=>some (i*ei.size,ei.size)) cells vals=some cells'∧cells'.toList=cells.toList.take (n*ei.size)++news∧All2 (Gam M) (xs.flatMap cellsOf) news ∧
   (∀v∈news,v.oneCell'=true)∧xs.length=parts.length∧(∀x∈xs,(cellsOf x).length=ei.size)
 | [],vals,n,cells,hp,hn,h=>by
  refine⟨[],cells,[],h,by rw[hp.inv_nil];rfl,?_,.nil,by simp,rfl,by simp⟩
  simp only[List.length_nil,Nat.add_zero]at hn
  rw[Bc,Df (by simp;omega)]
 | (m,v)::r,vals,n,cells,hp,hn,h=>by
  obtain⟨⟨m',u⟩,us,rfl,⟨hm,hu⟩,ht⟩:=hp.inv
  simp only at hm hu
  subst hm
  rw[qr]at h
  split at h
  ·rename_i e0
   have e0:n=m:=Ik e0
   subst e0
   simp only[List.length_cons]at hn
   have hroom:n*ei.size+ei.size≤cells.size:=by
    rw[← hn,show(n+(r.length+1))*ei.size=n*ei.size+ei.size+r.length*ei.size from by rw[Nat.add_mul,zP];omega]
    omega
   -- one element, and the rest
   have go:∀(x:D),(cellsOf x).length=ei.size→All2 (Gam M) (cellsOf x) u.cells.toList→(∀z∈u.cells.toList,z.oneCell'=true)→(lm nl ei (Nat.succ n) r fun l=>K (x::l)) →
     ∃xs cells' news,K xs∧Instr.fill (fun i=>some (i*ei.size,ei.size)) cells ((n,u)::us)=some cells'∧cells'.toList=cells.toList.take (n*ei.size)++news∧All2 (Gam M) (xs.flatMap cellsOf) news ∧
      (∀v∈news,v.oneCell'=true)∧xs.length=((n,v)::r).length∧(∀x∈xs,(cellsOf x).length=ei.size):=by
    intro x hx hxc hx1 h
    have hus:u.cells.size=ei.size:=by rw[← hx,hxc.1];simp
    have hsz:(⟨setMany cells.toList (n*ei.size) u.cells.toList⟩:Array Value).size=cells.size:=by
     show(setMany cells.toList (n*ei.size) u.cells.toList).length=_
     rw[bO];simp
    obtain⟨xs,cells',news,k1,k2,k3,k4,k5,k6,k7⟩:=oU hei (n:=n+1) (cells:=⟨setMany cells.toList (n*ei.size) u.cells.toList⟩) ht (by rw[hsz,← hn];congr 1;omega) h
    refine⟨x::xs,cells',u.cells.toList++news,k1,?_,?_,?_,?_,by simp[k6],?_⟩
    ·rw[lr rfl hus hroom];exact k2
    ·rw[k3,dV _ _ _ (by simp;omega)]
     have hA:(cells.toList.take (n*ei.size)++u.cells.toList).length=(n+1)*ei.size:=by
      rw[zP];simp;omega
     show List.take _ (_++_)++news=_
     rw[List.take_append_of_le_length (by omega),Df (by omega),List.append_assoc]
    ·rw[yZ];exact hxc.append k4
    ·intro z hz
     rcases List.mem_append.1 hz with hz | hz
     ·exact hx1 z hz
     ·exact k5 z hz
    ·intro z hz
     rcases List.mem_cons.1 hz with rfl | hz
     ·exact hx
     ·exact k7 z hz
   have hu':=aM hu
   unfold uy at h
   simp only[eg]at h
   split at h
   ·rename_i x ex
    rw[ex]at hu'
    split at h
    ·rename_i l hl
     split at h
     ·rename_i e1
      have e1:l.length=ei.size:=Ik e1
      obtain⟨c1,c2⟩:=cells_ok hu' hl
      have hl:l=(cellsOf x).map .d:=by cases x<;>simp[AV.cells?,bY]at hl<;>subst hl<;>rfl
      subst hl
      refine go x (by simpa using e1) ⟨by simpa using c1.1,fun i p q hp hq=>?_⟩ c2 h
      have:=c1.2 i (.d p) q (by simp[hp]) hq
      cases this;assumption
     ·exact h.elim
    ·exact h.elim
   ·rename_i z ez
    rw[ez]at hu'
    cases hu'
    split at h
    ·split at h
     ·rename_i sz hz e1
      have e1:ei.size=1:=Ik e1
      exact go .nilsl (by rw[e1];rfl) (.cons .nilsl .nil) (by simp[Value.cells,Value.oneCell']) h
     ·exact h.elim
    ·split at h
     ·rename_i sz hz e1
      have e1:ei.size=1:=Ik e1
      exact go (.list sz []) (by rw[e1];rfl) (.cons (.nils _) .nil) (by simp[Value.cells,Value.oneCell']) h
     ·exact h.elim
   ·exact h.elim
  ·exact h.elim
theorem oq{nl:Bool}{o:Oper}{K:St→Prop}(hR:Rel M s a w){t e:TypeId}{i ei:TI}(hi:aX P t i=true)(hk:i.k=.slice e)(hei:aX P e ei=true){n:Nat}{parts:Array (Nat×Operand)}(ho:o.op=.buildSlice t n parts)
  {kk d:Nat} (hd:o.dst=some d)
  (h:kj (bN (fun p=>s.eval p.2) parts.toList) s fun s' vs=>match(Nat.beq (dB parts.toList) n&&Nat.ble (Nat.mul n ei.size) 16777216)with
    | true=>lm nl ei 0 (po (bN (fun p=>p.1) parts.toList) vs) fun xs=>gw s' kk d e i.esz xs K
    | false=>False):EOk P o a M w s K:=by
 simp only[bY,kJ,eg,Array.length_toList]at h
 have hv:All2 (GamA M) (parts.toList.map fun p=>s.eval p.2) (parts.toList.map fun p=>a.eval p.2):=.list_map _ _ _ fun p=>hR.eval p.2
 obtain⟨s1,vs1,M1,h,r1,p1,l1,g1,_,_⟩:=jU hR hv h
 obtain⟨_,dd,_,hdd,_,_,htk,_⟩:=aB hi
 obtain⟨rfl,he,hpos⟩:=bH htk hk
 obtain⟨inf,_,hinf,_,hsz,_,_,_⟩:=aB hei
 have hesz:i.esz=ei.size:=by rw[← he];simp[Program.cellsOf,hinf,hsz]
 split at h
 ·rename_i e1
  simp only[Bool.and_eq_true]at e1
  have e2:parts.size=n:=Ik e1.1
  have e3:n*ei.size≤16777216:=Nat.le_of_ble_eq_true e1.2
  obtain⟨_,z,_,_,hz,hzs,hzrun⟩:=ga hei
  have hlenp:(((parts.toList.map fun p=>p.1).zip vs1)).length=n:=by
   have:=g1.1;simp at this;simp[this,e2]
  let zeros:Array Value:=(Array.range (n*ei.size)).map (fun k=>(if n*ei.size=0 then(#[]:Array Value)else z.cells)[k % (if n*ei.size=0 then(#[]:Array Value)else z.cells).size]!)
  have hzsz:zeros.size=n*ei.size:=by simp[zeros]
  obtain⟨xs,cells',news,k1,k2,k3,k4,k5,k6,k7⟩:=oU hei (n:=0) (cells:=zeros) (qD g1) (by rw[hlenp,Nat.zero_add,hzsz]) h
  rw[Nat.zero_mul,List.take_zero,List.nil_append]at k3
  have hxl:xs.length=n:=by rw[k6,hlenp]
  have hnl:news.length=n*i.esz:=by rw[← k4.1,dH k7,hxl,hesz]
  have hmax:n≤maxLen:=by
   have:n≤n*ei.size:=Nat.le_mul_of_pos_right n (by omega)
   simp only[maxLen];omega
  obtain⟨s',q1,q2,q3⟩:=oT r1 (vals:=news) (rest:=[]) (cap:=n) k1 k4 k5 (by rw[hesz];exact k7) (by omega) hmax (by simpa using hnl)
  have hcells:cells'=⟨news++[]⟩:=by rw[Bc,← k3]
  refine⟨_,_,_,?_,.inl rfl,s',M1,q1,by rw[hd];exact q2,p1.trans q3⟩
  have hpm:parts.map (fun x=>(x.1,a.eval x.2))=(parts.toList.map fun p=>(p.1,a.eval p.2)).toArray:=by rw[← Array.toList_inj];simp
  have hrun:(Instr.buildSlice t n (parts.toList.map fun p=>(p.1,a.eval p.2)).toArray).run P w=.ok (.slice (some ⟨w.heap.size,0,none⟩) n n) (w.alloc (.cells cells' e)):=by
   have hng:¬(16777216<n*ei.size):=by omega
   by_cases hz0:n*ei.size=0
   ·have hr0:Array.range 0=#[]:=rfl
    simp only[zeros,hz0,if_true,hr0,List.map_toArray,List.map_nil]at k2
    simp[Instr.buildSlice,run_underlying hdd,run_sizeOf hei,hz0,newRow,hr0,k2]
   ·simp only[zeros,if_neg hz0]at k2
    simp[Instr.buildSlice,run_underlying hdd,run_sizeOf hei,hz0,hng,hzrun,newRow,k2]
  rw[hxl]
  simp only[execOp,ho,hpm,Sem.run_bind,hrun,← hcells]
  rfl
 ·exact h.elim
theorem kP(z:List Value)(n:Nat):(madeCells ⟨z⟩ (n*z.length)).toList=(Iu n z).flatten:=by
 apply List.ext_getElem?
 intro j
 have key:∀n j,(Iu n z).flatten[j]? = if j<n*z.length then some ((z[j % z.length]?).getD default)else none:=by
  intro n
  induction n with
  | zero=>intro j;simp
  | succ n ih =>
   intro j
   rw[CB,Bz]
   by_cases hj:j<z.length
   ·rw[List.getElem?_append_left hj,Nat.mod_eq_of_lt hj]
    have:j<(n+1)*z.length:=by rw[zP];omega
    simp[this,hj]
   ·rw[List.getElem?_append_right (by omega),ih]
    have e1:(j-z.length) % z.length=j % z.length:=by
     conv=>rhs;rw[show j=(j-z.length)+z.length from by omega]
     rw[Nat.add_mod_right]
    rw[e1]
    by_cases h2:j-z.length<n*z.length
    ·rw[if_pos h2,if_pos (by rw[zP];omega)]
    ·rw[if_neg h2,if_neg (by rw[zP];omega)]
 rw[key]
 simp only[madeCells,Array.toList_map,Array.toList_range,List.getElem?_map]
 by_cases hj:j<n*z.length
 ·rw[List.getElem?_range hj,if_pos hj]
  simp[Array.getElem!_eq_getD]
 ·rw[if_neg hj]
  simp;omega
theorem bJ{α β:Type}{R:α→β→Prop}{xs:List α}{ys:List β}(h:All2 R xs ys):∀n:Nat,All2 R (Iu n xs).flatten (Iu n ys).flatten
 | 0=>.nil
 | n+1=>by rw[CB,CB,Bz,Bz];exact h.append (bJ h n)
theorem eu(x:D)(n:Nat):(Iu n x).flatMap cellsOf=(Iu n (cellsOf x)).flatten:=by
 induction n with
 | zero=>rfl
 | succ n ih=>rw[CB,yZ,ih,CB,Bz]
theorem kQ{o:Oper}{K:St→Prop}(hR:Rel M s a w){t e:TypeId}{i ei:TI}(hi:aX P t i=true)(hk:i.k=.slice e)(hei:aX P e ei=true){l c:Operand}(ho:o.op=.makeSlice t l c)
  {kk d:Nat} (hd:o.dst=some d) {kn km:IntKind} {n m:Int} (hl:(s.eval l).toD=.d (.int kn n)) (hc:(s.eval c).toD=.d (.int km m))
  (hb:0≤n∧n≤m∧m*ei.bytes≤140737488355328∧m≤9223372036854775807) {x:D} (hx:cellsOf x=ei.zero) (h:gw s kk d e i.esz (Iu n.toNat x) K):EOk P o a M w s K:=by
 obtain⟨h0,h1,h2,h3⟩:=hb
 have e1:=aM (hR.eval l)
 have e2:=aM (hR.eval c)
 rw[hl]at e1;rw[hc]at e2
 generalize hal:a.eval l=vl at e1
 generalize hac:a.eval c=vc at e2
 cases e1 with | d _ _ e1=>?_
 cases e2 with | d _ _ e2=>?_
 cases e1;cases e2
 obtain⟨_,dd,_,hdd,_,_,htk,_⟩:=aB hi
 obtain⟨rfl,he,hpos⟩:=bH htk hk
 obtain⟨inf,_,hinf,_,hsz,hby,_,z,hz,hzz,hzs,_⟩:=aB hei
 have hesz:i.esz=ei.size:=by rw[← he];simp[Program.cellsOf,hinf,hsz]
 have hrun:=run_make (P:=P) w t e inf z hdd hinf hz kn km n m h0 h1 (by rw[hby,Int.mul_comm];omega) h3
 have hzl:z.cells.toList.length=ei.size:=by simpa using hzs
 have hgz:=cF hzz M
 have hmade:(madeCells z.cells (m.toNat*inf.size)).toList=(Iu m.toNat z.cells.toList).flatten:=by
  have:=kP z.cells.toList m.toNat
  rw[hzl,← hsz]at this
  exact this
 have hsplit:(Iu m.toNat z.cells.toList).flatten=(Iu n.toNat z.cells.toList).flatten++(Iu (m.toNat-n.toNat) z.cells.toList).flatten:=by
  rw[← List.flatten_append,List.replicate_append_replicate]
  congr 2;omega
 have hflat:(Iu n.toNat x).flatMap cellsOf=(Iu n.toNat ei.zero).flatten:=by rw[eu,hx]
 have hone:∀v∈(Iu n.toNat z.cells.toList).flatten,v.oneCell'=true:=by
  intro v hv
  obtain⟨l',hl',hv'⟩:=List.mem_flatten.1 hv
  rw[(List.mem_replicate.1 hl').2]at hv'
  exact hgz.2 v hv'
 have hxl:(cellsOf x).length=i.esz:=by rw[hx,hesz,← hzl];exact hgz.1.1
 obtain⟨s',q1,q2,q3⟩:=oT hR (vals:=(Iu n.toNat z.cells.toList).flatten) (rest:=(Iu (m.toNat-n.toNat) z.cells.toList).flatten) (cap:=m.toNat) h
  (by rw[hflat];exact bJ hgz.1 _) hone (fun y hy=>by rw[(List.mem_replicate.1 hy).2];exact hxl) (by simp;omega) (by simp only[maxLen];omega)
  (by rw[← hsplit];simp[hzl,hesz,List.length_flatten])
 refine⟨_,_,_,?_,.inl rfl,s',M,q1,by rw[hd];exact q2,q3⟩
 have hcells:madeCells z.cells (m.toNat*inf.size)=⟨(Iu n.toNat z.cells.toList).flatten++(Iu (m.toNat-n.toNat) z.cells.toList).flatten⟩:=by
  rw[← Array.toList_inj,hmade,hsplit]
 simp only[execOp,ho,hal,hac,Sem.run_bind,hrun,← hcells,List.length_replicate]
 rfl
end
end Go.Abs
