/-
 From the library's contracts to typed ones: slices.Sort at []int on an array of the call's own; math/bits.Mul.
-/
import Derived.Test.YtdodahpkpeodfaaGreatDoorAbsQ
import Derived.Sort.OwnSortedInts
set_option linter.all false
namespace Go.Abs
open Go Go.Sort Go.Proofs
theorem nX(l:List Int):(l.map I).flatMap cellsOf=l.map I:=by
 induction l with
 | nil=>rfl
 | cons x l ih=>simp only[List.map_cons,List.flatMap_cons,ih];rfl
theorem ph{M:GM}:∀{l:List Int} {vals:List Value},All2 (Gam M) (l.map I) vals→vals=l.map (Value.int .i64)
 | [],vals,h=>by rw[h.inv_nil];rfl
 | x::l,vals,h=>by
  obtain⟨v,vs,rfl,hv,ht⟩:=h.inv
  cases hv
  rw[ph ht];rfl
theorem OY(M:GM):∀(l:List Int),All2 (Gam M) (l.map I) (l.map (Value.int .i64))
 | []=>.nil
 | x::l=>.cons (.int _ _) (OY M l)
theorem rh{P:Program}{f:FuncId}{e k N:Nat}{ho:Value}{l r:List Int}(hok:cI P f)(hN:N≤1073741824)(h:Go.Kp.sortI N l=some r)
  (hs:∀(blk off cap:Nat) (zs:List Int) (w:World),Holds (Value.int .i64) w blk off zs.toArray→blk<w.heap.size→zs.length<4611686018427387904 →
   Calls P f #[.slice (some ⟨blk,off,none⟩) zs.length cap] w fun e w'=>e=.returned (.tuple #[])∧∃n os,w'=grow (putRow (Value.int .i64) (Sort.ahead w n) blk off (zs.mergeSort fun x y=>decide (x≤y)).toArray) os)
  (h0:∀(p:Option Addr) (cap:Nat) (w:World),Calls P f #[.slice p 0 cap] w fun e w'=>e=.returned (.tuple #[])∧w'=w) :
  ACalls P f [.sl k ho] [(k,.arr ho e 1 false (l.map I))] fun ae os=>∃y:Unit,True∧ae=.ret (.d (.tup []))∧os=[(k,.arr ho e 1 false (r.map I))]:=by
 unfold Go.Kp.sortI at h
 split at h
 ·rename_i hlen
  cases h
  refine⟨hok,fun M w vs hr ha hob=>?_⟩
  obtain⟨v,vs',rfl,hv,ht⟩:=ha.inv
  have:=ht.inv_nil
  subst this
  obtain⟨rfl,a,n,c,hsl⟩:=hv.sl_inv
  have hlk:look [(k,Ob.arr v e 1 false (l.map I))] k=some (.arr v e 1 false (l.map I)):=by
   rw[aT];simp
  have hlk':∀(o:Ob) (k':Nat) (o':Ob),look [(k,o)] k'=some o'→k'=k∧o'=o:=by
   intro o k' o' hh
   rw[aT]at hh
   cases hb:Nat.beq k k' with
   | true=>rw[hb]at hh;cases hh;exact⟨(Nat.eq_of_beq_eq_true hb).symm,rfl⟩
   | false=>rw[hb]at hh;cases hh
  obtain⟨vals,hown,hall,h1,hsz,hfree⟩:=hob.ok k _ hlk
  rw[nX]at hall
  have hvals:=ph hall
  subst hvals
  have hml:(l.mergeSort fun x y=>decide (x≤y)).length=l.length:=List.length_mergeSort _
  rcases hown.2 with⟨q1,q2⟩ | ⟨g,cap,cur,q1,q0,hg,hnc,hcm,hcs,htake⟩
  ·rw[q1]
   have hl0:l=[]:=List.eq_nil_of_length_eq_zero (by simpa using q2)
   subst hl0
   refine(h0 none 0 w).mono ?_
   rintro e' w' ⟨rfl,rfl⟩
   rw[← q1]
   exact⟨_,M,hob,hr,.refl _ _ _,.inl ⟨_,_,rfl,⟨(),trivial,rfl,by simp⟩,.d _ _ (.tup [] [] rfl (fun i c v h=>by simp at h))⟩⟩
  ·rw[List.length_map]at q1 hnc htake
   rw[q1]
   have hH:Holds (Value.int .i64) w g 0 l.toArray:=holds_of_blockI hg (by simpa using htake)
   have hlt:g<w.heap.size:=aK hg
   refine(hs g 0 cap l w hH hlt (by omega)).mono ?_
   rintro e' w' ⟨rfl,n',os',rfl⟩
   have hgb:=grownBy_sortedI (w:=w) (g:=g) (n:=n') (os:=os') (l.mergeSort fun x y=>decide (x≤y)).toArray
   have hrow:=ownsRow_sortedI (w:=w) (base:=0) (n:=n') (os:=os') hml q0 hg hnc hcm hcs
   generalize hW:grow (putRow (Value.int .i64) (Sort.ahead w n') g 0 (l.mergeSort fun x y=>decide (x≤y)).toArray) os'=W at hgb hrow
   obtain⟨b1,b2,b3,b4,b5⟩:=hgb
   have hkeep:∀b,b<w.heap.size→b≠g→W.heap[b]? = w.heap[b]?:=fun b hb hne=>b5 b hb (fun e=>hne (by cases e;rfl))
   have hfg:=hfree g (by rw[q1];rfl)
   have hne:∀b o v,M.c b o=some v→b≠g:=by
    rintro b o v hm rfl
    rw[hfg.2 o (.inl rfl)]at hm;cases hm
   have hne2:∀b x,M.m b=some x→b≠g:=by
    rintro b x hm rfl
    rw[hfg.1]at hm;cases hm
   have hrs:Resp M W:=by
    refine⟨fun b o v hm=>?_,fun b x hm=>?_,hr.t⟩
    ·have h1:=hr.c b o v hm
     have hlt:b<w.heap.size:=by
      rcases Nat.lt_or_ge b w.heap.size with q | q
      ·exact q
      ·have:=(hr.free q).c o;rw[this]at hm;cases hm
     rw[World.cell?_of_block (w:=w) (hkeep b hlt (hne b o v hm))];exact h1
    ·have h1:=hr.m b x hm
     rw[hkeep b (aK h1) (hne2 b x hm)];exact h1
   have hob':Obs M W [(k,.arr (.slice (some ⟨g,0,none⟩) l.length cap) e 1 false ((l.mergeSort fun x y=>decide (x≤y)).map I))]:=by
    refine⟨fun k' o' hh=>?_,fun k1 k2 o1 o2 b h1 h2 _ _=>by rw[(hlk' _ _ _ h1).1,(hlk' _ _ _ h2).1]⟩
    obtain⟨rfl,rfl⟩:=hlk' _ _ _ hh
    refine⟨_,by rw[List.length_map,hml];exact hrow,by rw[nX];exact OY M _,fun v hv=>?_,fun x hx=>?_,fun b hb=>?_⟩
    ·obtain⟨i,_,rfl⟩:=List.mem_map.1 hv;rfl
    ·obtain⟨i,_,rfl⟩:=List.mem_map.1 hx;rfl
    ·have:=hfree b (by rw[q1];exact hb)
     exact⟨this.1,fun o _=>this.2 o (.inl rfl)⟩
   refine⟨_,M,hob',hrs,⟨⟨b1,b2,b3,b4,fun b hb hno=>hkeep b hb (fun e=>hno ?_),M.le_refl,fun _ _ _ _=>rfl,fun _ _ _=>rfl⟩,fun b ⟨k',o',h1,h2⟩=>?_⟩,
    .inl ⟨_,_,rfl,⟨(),trivial,rfl,rfl⟩,.d _ _ (.tup [] [] rfl (fun i c v h=>by simp at h))⟩⟩
   ·subst e;exact⟨k,.arr v _ 1 false (l.map I),by rw[← q1];exact hlk,by rw[q1];rfl⟩
   ·obtain⟨rfl,rfl⟩:=hlk' _ _ _ h1
    exact .inl ⟨k',.arr v _ 1 false (l.map I),by rw[← q1];exact hlk,by rw[q1];exact h2⟩
 ·cases h
end Go.Abs
