/-
 Soundness: bytes and strings.
-/
import Derived.Test.YtdodahpkpeodfaaGreatDoorAbsT
import Derived.Laws.BytesArg
import Derived.Lib.ConvBytes
import Derived.Lib.AppendStr
set_option linter.all false
open List renaming append_assoc→zb,eq_nil_of_length_eq_zero→JB,flatMap_cons→yZ,getElem?_eq_getElem→IX,getElem?_map→Jr,length_append→Js,length_map→Ia,map_cons→xZ,size_toArray→DW,take_left→BX
namespace Go.Abs
open Go Go.Lib
section
variable {P:Program}{tt:TT}{an:Ann}{M M':GM}{s s':St}{a:Act}{w w':World}
theorem va(k:IntKind)(l:List Int):(l.map (D.int k)).flatMap cellsOf=l.map (D.int k):=by
 induction l with
 | nil=>rfl
 | cons x l ih=>rw[xZ,yZ,ih];rfl
theorem nB(b:List UInt8):(b.map fun c=>D.int .u8 (c.toNat:Int)).flatMap cellsOf=b.map fun c=>D.int .u8 (c.toNat:Int):=by
 induction b with
 | nil=>rfl
 | cons x l ih=>rw[xZ,yZ,ih];rfl
theorem Pu(htt:cn P tt=true)(hR:Rel M s a w){o:Oper}{K:St→Prop}{ta tb:TypeId}{x:Operand}{si di:TI}(e:o.op=.convert ta tb x)(hs:aX P ta si=true)(hd:aX P tb di=true){other:Prop}
  {R:Prop} (hr:EOk P o a M w s K→R) (ho:other→R) (h:uz tt s si di (s.eval x) o.dst K other):R:=by
 obtain⟨_,d1,_,hd1,_,_,htk1,_⟩:=aB hs
 obtain⟨_,d2,_,hd2,_,_,htk2,_⟩:=aB hd
 have hx:=hR.eval x
 unfold uz at h
 split at h
 ·rename_i el hk2 hk1
  obtain⟨ei,hei,h⟩:=aq htt h
  obtain⟨_,d3,_,hd3,_,_,htk3,_⟩:=aB hei
  have e2:=d5 htk2 hk2
  obtain⟨e1,_,_⟩:=bH htk1 hk1
  subst e1 e2
  split at h
  ·rename_i hk3
   have e3:=Od htk3 hk3
   subst e3
   obtain⟨ys,news,⟨l,rfl,h⟩,hall,_,_,hc⟩:=oV hR hx h
   rw[va]at hall
   have hlen:l.length=news.length:=by have:=hall.1;simpa using this
   have hnews:∀j,j<l.length→news[j]? = some (.int .u8 (l.getD j 0)):=by
    intro j hj
    have h2:=hall.2 j (.int .u8 l[j]) news[j] (by simp[hj]) (IX (by omega))
    rw[IX (by omega)]
    generalize news[j]=v at h2
    cases h2
    simp[hj]
   have hrun:∃b:ByteArray,(convert ta tb (a.eval x)).run P w=.ok (.string b) w∧b.data.toList=l.map fun n=>UInt8.ofNat n.toNat:=by
    rcases hc with⟨q,q2⟩ | ⟨ad,c,q,hcell⟩
    ·have:l=[]:=by simpa using q2
     subst this
     rw[q]
     exact⟨_,run_convert_bytes_nil w ta el hd1 hd3 _ _ tb hd2,rfl⟩
    ·rw[q]
     by_cases h0:l=[]
     ·subst h0
      refine⟨ByteArray.empty,?_,rfl⟩
      rw[run_convert_bytes_string w ta tb el (some ad) _ c hd1 hd3 hd2]
      simp[Conv.bytesToString,loadCells,loadCellsFrom]
     ·have hl:(loadCells ad l.length).run P w=.ok (l.map (Value.int .u8)).toArray w:=by
       have:=run_loadCells_list (P:=P) w ad (l.map (Value.int .u8)) (fun j v hj=>by
        rw[Jr]at hj
        cases hq:l[j]? with
        | none=>rw[hq]at hj;cases hj
        | some y =>
         rw[hq]at hj
         cases hj
         have hlt:=(List.getElem?_eq_some_iff.1 hq).1
         refine hcell j _ ?_
         rw[hnews j hlt]
         simp[hq])
       simpa using this
      refine⟨strOfNums l,?_,rfl⟩
      rw[Ia,run_convert_bytes_string w ta tb el _ _ c hd1 hd3 hd2,run_bytesToString w _ _ c l hl,foldl_push_bytes]
      simp[strOfNums,ByteArray.empty,ByteArray.emptyWithCapacity]
      rfl
   obtain⟨b,hrun,hb⟩:=hrun
   obtain⟨s1,h1,h2,h3⟩:=hR.put h (val:=.string b) (.d _ _ (.str _ _ hb))
   exact hr ⟨.value (.string b),w,_,by simp[execOp,e,hrun],.inl rfl,s1,M,h1,h2,(Stp.refl _ _ _).ob_eq h3⟩
  ·exact h.elim
 ·rename_i el hk2 hk1
  obtain⟨ei,hei,h⟩:=aq htt h
  obtain⟨_,d3,_,hd3,_,_,htk3,_⟩:=aB hei
  have e1:=d5 htk1 hk1
  obtain⟨e2,_,_⟩:=bH htk2 hk2
  subst e1 e2
  split at h
  ·rename_i b hk3 hxs
   have e3:=Od htk3 hk3
   subst e3
   obtain⟨zs,hz,h⟩:=h
   subst hz
   rw[hxs]at hx
   generalize hv:a.eval x=v at hx
   cases hx with | d _ _ hx=>?_
   cases hx with | str _ u hu=>?_
   have hrun:=Lib.run_convert_string_bytes (P:=P) w ta tb el u hd1 hd2 hd3
   have hus:u.size=b.length:=by rw[← hu];simp
   have hfree:=hR.rs.free (Nat.le_refl w.heap.size)
   let vals:List Value:=u.data.toList.map fun c=>Value.int .u8 c.toNat
   have hle:M.le (M.row w.heap.size vals):=GM.le_row fun o v hv=>by rw[hfree.c]at hv;cases hv
   have hcell:∀o v,vals[o]? = some v→(Lib.bytesWorld w el u).cell? ⟨w.heap.size,o,none⟩=some v:=by
    intro j v hj
    rw[Jr]at hj
    cases hq:u.data.toList[j]? with
    | none=>rw[hq]at hj;cases hj
    | some y =>
     rw[hq]at hj
     cases hj
     have hlt:=(List.getElem?_eq_some_iff.1 hq).1
     rw[Lib.bytesWorld_cell w el u j (by rw[hus,← hu];exact hlt)]
     simp[hq]
   have hfr:Frm (fun _=>False) M w (M.row w.heap.size vals) (Lib.bytesWorld w el u) :=
    ⟨rfl,rfl,rfl,by rw[Lib.bytesWorld_size];omega,fun b hb _=>Lib.bytesWorld_at_old w el u b hb,hle,fun b hb _ o=>GM.row_other M _ _ (by omega) o,fun _ _ _=>rfl⟩
   have hrs0:Resp M (Lib.bytesWorld w el u):=by
    refine⟨fun b o v e=>?_,fun b x e=>?_,hR.rs.t⟩
    ·have h0:=hR.rs.c _ _ _ e
     rw[World.cell?_of_block (w:=w) (Lib.bytesWorld_at_old w el u b (World.block_lt_of_cell? w _ h0))];exact h0
    ·have h0:=hR.rs.m _ _ e
     rw[Lib.bytesWorld_at_old w el u b (aK h0)];exact h0
   obtain⟨r1,p1⟩:=hR.upd0 hfr (hrs0.row hcell hle)
   have key:∀(j:Nat) (d:D),((b.map fun c=>D.int .u8 (c.toNat:Int)).flatMap cellsOf)[j]? = some d→∃v,vals[j]? = some v∧(∀M',Gam M' d v)∧v.oneCell'=true:=by
    intro j d hd
    rw[nB,Jr]at hd
    cases hq:b[j]? with
    | none=>rw[hq]at hd;cases hd
    | some y =>
     rw[hq]at hd
     cases hd
     exact⟨.int .u8 y.toNat,by show(u.data.toList.map fun c=>Value.int .u8 c.toNat)[j]? = _;rw[Jr,hu,hq];rfl,fun M'=>.int _ _,rfl⟩
   have hg:=Gam.list (M:=M.row w.heap.size vals) 1 (b.map fun c=>D.int .u8 c.toNat) w.heap.size 0 (grownCap w u.size 0 el) (fun j=>(vals[j]?).getD undef) (by rw[Ia,← hus];exact grownCap_ge w u.size 0 el) (fun x hx=>by
     obtain⟨y,_,rfl⟩:=List.mem_map.1 hx;rfl)
    (fun j d hd=>by
     obtain⟨v,e1,e2,_⟩:=key j d hd
     rw[Nat.zero_add,e1];exact GM.row_at M _ e1)
    (fun j d hd=>by
     obtain⟨v,e1,e2,_⟩:=key j d hd
     rw[e1];exact e2 _)
    (fun j d hd=>by
     obtain⟨v,e1,_,e3⟩:=key j d hd
     rw[e1];exact e3)
   obtain⟨s1,h1,h2,h3⟩:=r1.put h (.d _ _ hg)
   rw[Ia,← hus]at h2
   exact hr ⟨_,_,_,by simp only[execOp,e,hv,Sem.run_bind,hrun];rfl,.inl rfl,s1,_,h1,h2,p1.ob_eq h3⟩
  ·exact h.elim
 ·exact ho h
theorem qT(t u ty e:TypeId)(i:TypeInfo)(ht:P.underlying t=some (.slice e))(hu:P.underlying u=some .string)(hi:P.info? e=some i)(hz:i.zero=some (.int .u8 0))
  (hsize:i.size=1) (hby:i.bytes=1) (v:Value) (n:Nat) (xs:List Value) (hown:w.ownsRow 0 e 1 v n xs) (s:ByteArray) (hbytes:n+s.size≤140737488355328) :
  ∃v' w',(Builtin.append_ #[t,u] ty #[v,.string s]).run P w=.ok v' w'∧App w w' e 1 v v' n s.size xs (strCells s):=by
 have hxl:xs.length=n:=by simpa using hown.1
 have hlen:(xs++strCells s).length=(n+s.size)*1:=by rw[Js,hxl,strCells_length,Nat.mul_one]
 have grown:∀(old:Nat),old<n+s.size→App w (w.drew.alloc (.cells (xs.toArray++(strCells s).toArray++Builtin.zeroCells (Value.int .u8 0).cells (grownCap w (n+s.size) old e-(n+s.size))) e)) e 1 v
    (.slice (some ⟨w.heap.size,0,none⟩) (n+s.size) (grownCap w (n+s.size) old e)) n s.size xs (strCells s):=by
  intro old ho
  have hge:=grownCap_ge w (n+s.size) old e
  have hcm:grownCap w (n+s.size) old e≤maxLen:=grownCap_le_maxLen w (n+s.size) old e (by simp only[maxLen];omega)
  have hnew:=heap_alloc_new w.drew (.cells (xs.toArray++(strCells s).toArray++Builtin.zeroCells (Value.int .u8 0).cells (grownCap w (n+s.size) old e-(n+s.size))) e)
  refine⟨⟨hlen,.inr ⟨w.heap.size,_,_,rfl,Nat.zero_le _,hnew,hge,hcm,?_,?_⟩⟩,rfl,rfl,rfl,by simp,fun b hb _=>alloc_old w.drew _ b hb,fun b hb=>?_,fun g o hg ho'=>?_,⟨_,_,_,rfl⟩⟩
  ·have hz1:(Value.int IntKind.u8 0).cells.size=1:=rfl
   simp only[Array.size_append,DW,size_zeroCells,hz1,hxl,strCells_length]
   omega
  ·simp only[Array.toList_append,zb]
   rw[← zb,← hlen]
   exact BX
  ·simp[Value.ownBlock]at hb;omega
  ·have:=(hown.lt g hg).2
   rw[World.cell?_alloc_lt _ _ _ (by exact this)];rfl
 rcases hown.2 with⟨rfl,rfl⟩ | ⟨g,cap,cur,rfl,_,hg,hnc,hcm,hcs,htake⟩
 ·have hx:xs=[]:=JB hxl
  subst hx
  by_cases hm:s.size=0
  ·have hn:strCells s=[]:=JB (by rw[strCells_length];exact hm)
   refine⟨.slice none 0 0,w,?_,by rw[hm,hn];exact .same hown⟩
   have hf:=run_firstCells_string (P:=P) w 1 s
   rw[hm]at hf
   simp[Builtin.append_,run_underlying ht,run_underlying hu,sizeOf,typeInfo,hi,hsize,Builtin.lenOf,hm,hf]
  ·have hr:=run_append_nil_string (P:=P) w t u ty e i (.int .u8 0) ht hu hi hz s (by omega) (by omega) (by rw[hby];omega)
   have hgr:=grown 0 (by omega)
   simp only[Nat.zero_add,List.nil_append,Array.empty_append]at hgr ⊢
   have e1:(s.data.map fun b=>Value.int .u8 b.toNat)=(strCells s).toArray:=by
    apply Array.ext'
    simp[strCells]
   rw[e1]at hr
   exact⟨_,_,hr,hgr⟩
 ·have hcs':cur.size=cap:=by simpa using hcs
  have ht':cur.toList.take n=xs:=by simpa using htake
  by_cases hroom:n+s.size≤cap
  ·have hr:=run_append_room_string (P:=P) w t u ty e i ht hu hi hsize g n cap cur hg s hroom (by omega)
   refine⟨_,_,hr,⟨hlen,.inr ⟨g,cap,_,rfl,Nat.zero_le _,setRow_heap w g cur _ e _ hg,hroom,hcm,?_,?_⟩⟩,rfl,rfl,rfl,by simp,fun b _ hb=>setRow_other w g _ (fun e=>hb (by simp[Value.ownBlock,e])),
    fun b hb=>.inr hb,fun g' o hg' ho=>?_,⟨_,_,_,rfl⟩⟩
   ·simp only[DW,Js,List.length_take,List.length_drop,Array.length_toList,strCells_length]
    omega
   ·rw[ht',← hlen]
    exact BX
   ·simp[Value.ownBlock]at hg'
    subst hg'
    rw[cell_of_row _ g o _ _ _ (setRow_heap w g cur _ e _ hg),cell_of_row w g o _ _ _ hg]
    have hlt:o<cur.size:=by omega
    simp only[zb,List.getElem?_toArray]
    rw[List.getElem?_append_left (by simp;omega),List.getElem?_take,if_pos (by omega)]
    simp
  ·have holds:∀j u,xs[j]? = some u→w.cell? ((⟨g,0,none⟩:Addr).add j)=some u:=hown.cells (g:=g) rfl
   have hr:=run_append_grow_string (P:=P) w t u ty e i (.int .u8 0) ht hu hi hz ⟨g,0,none⟩ n cap xs (by rw[hsize];simpa using hxl) holds s (by omega) (by omega) (by rw[hby];exact growslice_fits (by omega) (by omega))
   exact⟨_,_,hr,grown cap (by omega)⟩
theorem tS{e:TypeId}{ei:TI}(h:aX P e ei=true)(hk:ei.k=.int .u8)(hz:ei.zero=[.int .u8 0]):∃inf,P.info? e=some inf∧inf.zero=some (.int .u8 0)∧inf.size=ei.size∧inf.bytes=ei.bytes:=by
 unfold aX at h
 split at h
 ·rename_i inf d hi hu
  simp only[Bool.and_eq_true,beq_iff_eq]at h
  obtain⟨⟨⟨⟨_,h1⟩,h2⟩,h3⟩,h4⟩:=h
  refine⟨inf,hi,?_,h1,h2⟩
  split at h4
  ·rw[hk]at h4;simp[TK.isAgg]at h4
  ·rename_i v _ hv
   rw[hv]
   rw[hz]at h4
   simp only[bF,Bool.and_eq_true,Bool.and_true]at h4
   have:=h4.1.2
   cases v<;>simp[iD]at this
   obtain⟨rfl,rfl⟩:=this
   rfl
  ·cases h4
 ·cases h
theorem rU{o:Oper}{c:Call}{K:St→Prop}(hR:Rel M s a w)(ho:o.op=.call c)(hc:c.callee=.builtin .append){kk d:Nat}(hd:o.dst=some d){x y:AV}(hargs:c.args.toList.map s.eval=[x,y])
  {t t' e:TypeId} (hts:c.argTypes.toList=[t,t']) {i i' ei:TI} (hi:aX P t i=true) (hk:i.k=.slice e) (hi':aX P t' i'=true) (hk':i'.k=.string) (hei:aX P e ei=true) (hke:ei.k=.int .u8) (hz0:ei.zero=[.int .u8 0]) (hs1:ei.size=1) (hb1:ei.bytes=1) {b:List UInt8} (hy0:y.toD=.d (.str b))
  (h:Eqv (b.map fun c=>D.int .u8 c.toNat) fun ys=>NZ e s kk d x ys K):EOk P o a M w s K:=by
 have hall:All2 (GamA M) (c.args.toList.map s.eval) (c.args.map a.eval).toList:=by rw[Array.toList_map];exact .list_map _ _ _ hR.eval
 rw[hargs]at hall
 obtain⟨vx,r1,e1,hx,hall⟩:=hall.inv
 obtain⟨vy,r2,e2,hy,hall⟩:=hall.inv
 have e3:=hall.inv_nil
 subst e3 e2
 have hy:=aM hy
 rw[hy0]at hy
 cases hy with | d _ _ hy=>?_
 cases hy with | str _ u hu=>?_
 have ea:c.args.map a.eval=#[vx,.string u]:=by rw[← Array.toList_inj];exact e1
 have et:c.argTypes=#[t,t']:=by rw[← Array.toList_inj];exact hts
 obtain⟨_,dd,_,hdd,_,_,htk,_⟩:=aB hi
 obtain⟨rfl,he,hpos⟩:=bH htk hk
 obtain⟨_,d2,_,hd2,_,_,htk2,_⟩:=aB hi'
 have e4:=d5 htk2 hk'
 subst e4
 obtain⟨inf,hinf,hz,hsz,hby⟩:=tS hei hke hz0
 rw[hs1]at hsz
 rw[hb1]at hby
 obtain⟨zs0,hzs0,h⟩:=h
 have hcells:∀M':GM,All2 (Gam M') ((b.map fun c=>D.int .u8 (c.toNat:Int)).flatMap cellsOf) (strCells u):=by
  intro M'
  rw[nB]
  unfold strCells
  rw[hu]
  exact .list_map _ _ _ fun c=>.int _ _
 subst hzs0
 have hlu:(b.map fun c=>D.int .u8 (c.toNat:Int)).length=u.size:=by rw[Ia,← hu];simp
 have hone:∀y∈(b.map fun c=>D.int .u8 (c.toNat:Int)),(cellsOf y).length=1:=by
  intro y hy
  obtain⟨c,_,rfl⟩:=List.mem_map.1 hy
  rfl
 have hex:∀v' w1,(Builtin.append_ #[t,t'] o.type #[vx,.string u]).run P w=.ok v' w1→(execOp a.eval o).run P w=.ok (.value v') w1:=by
  intro v' w1 hrun
  simp[execOp,ho,resolve,hc,ea,et,invoke,builtin,hrun]
 have go:∀(xs:List D) (vals:List Value),w.ownsRow 0 e 1 vx xs.length vals→xs.length+(b.map fun c=>D.int .u8 (c.toNat:Int)).length≤140737488355328 →
   ∃v' w1,(Builtin.append_ #[t,t'] o.type #[vx,.string u]).run P w=.ok v' w1∧App w w1 e 1 vx v' xs.length (b.map fun c=>D.int .u8 (c.toNat:Int)).length vals (strCells u):=by
  intro xs vals hown hb
  rw[hlu]at hb ⊢
  exact qT t t' o.type e inf hdd hd2 hinf hz hsz hby vx xs.length vals hown u hb
 unfold NZ at h
 split at h
 ·cases hx
  obtain⟨hb,zs,hzs',h⟩:=h
  obtain⟨v',w1,hrun,hA⟩:=go [] [] (World.ownsRow_nil w 0 e 1) (by simpa using hb)
  obtain⟨s',g1,g2,g3⟩:=hR.app (xs:=[]) (fz:=false) (k:=kk) (d:=d) (K:=K) .nil (by simp) (by simp) (hcells M) (strCells_oneCell u) hone (fun b hb=>by simp[Value.ownBlock]at hb) hA (by simpa using hzs') (fun b hb=>by simp[Value.ownBlock]at hb) (h v')
  exact⟨_,_,_,hex _ _ hrun,.inl rfl,s',M,g1,by rw[hd];exact g2,g3⟩
 ·rename_i k hdr
  split at h
  ·rename_i h' e' sz fz xs hlk
   obtain⟨⟨rfl,rfl,rfl⟩,hb,zs,hzs',h⟩:=h
   obtain⟨vals,hown,hallx,h1,hszx,hfree⟩:=hR.ob.ok k _ hlk
   obtain⟨rfl,_⟩:=hx.sl_inv
   obtain⟨v',w1,hrun,hA⟩:=go xs vals hown hb
   obtain⟨s',g1,g2,g3⟩:=hR.app (k:=k) (d:=d) (K:=K) hallx h1 hszx (hcells M) (strCells_oneCell u) hone hfree hA hzs' (fun b hb=>⟨_,hlk,hb⟩) (h v')
   exact⟨_,_,_,hex _ _ hrun,.inl rfl,s',M,g1,by rw[hd];exact g2,g3⟩
  ·exact h.elim
 ·exact h.elim
end
end Go.Abs
