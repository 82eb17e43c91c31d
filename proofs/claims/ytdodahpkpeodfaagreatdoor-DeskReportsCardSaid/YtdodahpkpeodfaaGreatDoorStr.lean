/-
 Functions of the library whose contracts are given: what they hand back is data, the world is grown.
-/
import Derived.Test.YtdodahpkpeodfaaGreatDoorAbsQ
import Derived.Below
import Derived.Lib.ItoaNum
import Derived.Lib.AtoiAll
import Derived.Lib.Strings
import Derived.Lib.Join
import Derived.Shelf.Strconv.Itoa3
import Derived.Lib.SplitLaws
set_option linter.all false
open List renaming flatMap_cons→yZ,getElem?_map→Jr,isPrefixOf→Ez,map→Jy,map_cons→xZ
namespace Go.Abs
open Go Go.RowKit Go.Kp
section
variable {P:Program}{M M':GM}{w w':World}
theorem Below.frm{S:Nat→Prop}(h:Below w.heap.size w w'):Frm S M w M w' :=
 ⟨h.os,h.tape,h.output,h.size,fun b hb _=>h.block b hb,M.le_refl,fun _ _ _ _=>rfl,fun _ _ _=>rfl⟩
theorem Resp.below(hr:Resp M w)(h:Below w.heap.size w w'):Resp M w':=by
 refine⟨fun b o v e=>?_,fun b x e=>?_,hr.t⟩
 ·have h0:=hr.c _ _ _ e
  rw[World.cell?_of_block (w:=w) (h.block b (World.block_lt_of_cell? w _ h0))];exact h0
 ·have h0:=hr.m _ _ e
  rw[h.block b (aK h0)];exact h0
theorem jG{f:FuncId}{args:List AV}{r:D}(hok:cI P f)
  (h:∀(M:GM) (w:World) (vs:List Value),Resp M w→All2 (GamA M) args vs→Calls P f ⟨vs⟩ w fun e w'=>∃v,e=.returned v∧Below w.heap.size w w'∧∀M',Gam M' r v) :
  ACalls P f args [] fun e os=>e=.ret (.d r)∧os=[]:=by
 refine⟨hok,fun M w vs hr ha _=>(h M w vs hr ha).mono ?_⟩
 rintro e w' ⟨v,rfl,hb,hg⟩
 exact⟨[],M,fa _ _,hr.below hb,⟨Go.Abs.Below.frm hb,fun b hb=>.inl hb⟩,.inl ⟨_,_,rfl,⟨rfl,rfl⟩,.d _ _ (hg M)⟩⟩
theorem gj{s:List UInt8}{v:Value}(h:GamA M (.d (.str s)) v):∃b:ByteArray,v=.string b∧b.data.toList=s:=by
 cases h with | d _ _ h=>?_
 cases h with | str _ b e=>exact⟨b,rfl,e⟩
theorem Gam.bytes(M:GM)(s:List UInt8):Gam M (.str s) (.string ⟨s.toArray⟩):=.str _ _ rfl
theorem M5{f:FuncId}{N:Nat}{s p r:List UInt8}(hok:cI P f)(h:Pv N s p=some r)
  (hs:∀(s p:ByteArray) (w:World),Calls P f #[.string s,.string p] w fun e w'=>e=.returned (.string ⟨(Lib.trimPrefix s.data.toList p.data.toList).toArray⟩)∧w'=w) :
  ACalls P f [.d (.str s),.d (.str p)] [] fun e os=>e=.ret (.d (.str r))∧os=[]:=by
 have h2:r=Lib.trimPrefix s p:=by unfold Pv at h;cases h;rfl
 subst h2
 refine jG hok fun M w vs hr ha=>?_
 obtain⟨v,vs',rfl,hv,ht⟩:=ha.inv
 obtain⟨v2,vs2,rfl,hv2,ht2⟩:=ht.inv
 have:=ht2.inv_nil
 subst this
 obtain⟨a,rfl,rfl⟩:=gj hv
 obtain⟨b,rfl,rfl⟩:=gj hv2
 refine(hs a b w).mono ?_
 rintro e w' ⟨rfl,rfl⟩
 exact⟨_,rfl,.refl _ _,fun M'=>.bytes M' _⟩
theorem sW:∀(f u:Nat),u<10 ^ f→uf f u=Lib.decDigits u∨f=0
 | 0,_,_=>.inr rfl
 | f+1,u,h=>by
  left
  rw[uf,Lib.decDigits]
  by_cases hu:u<10
  ·rw[if_pos hu,dif_pos hu]
  ·rw[if_neg hu,dif_neg hu]
   rcases sW f (u / 10) (by rw[Nat.pow_succ]at h;omega)with e | e
   ·rw[e]
   ·subst e;simp at h;omega
theorem wD{n:Int}(h:-9223372036854775808≤n∧n≤9223372036854775807):w7 n=Lib.itoa n:=by
 have key:∀u:Nat,u≤9223372036854775808→uf 20 u=Lib.decDigits u:=fun u hu=>by
  rcases sW 20 u (by omega)with e | e
  ·exact e
  ·cases e
 unfold w7 Lib.itoa
 split
 ·rw[key _ (by omega)]
 ·rw[key _ (by omega)]
theorem O2{f:FuncId}{N:Nat}{n:Int}{r:List UInt8}(hok:cI P f)(h:nU N n=some r)
  (hs:∀(M:GM) (w:World),Resp M w→-9223372036854775808≤n→n≤9223372036854775807→Calls P f #[.int .i64 n] w fun e w'=>e=.returned (.string ⟨(Lib.itoa n).toArray⟩)∧Below w.heap.size w w') :
  ACalls P f [.d (.int .i64 n)] [] fun e os=>e=.ret (.d (.str r))∧os=[]:=by
 unfold nU at h
 split at h
 rotate_left
 ·cases h
 rename_i hn
 cases h
 rw[wD hn]
 refine jG hok fun M w vs hr ha=>?_
 obtain⟨v,vs',rfl,hv,ht⟩:=ha.inv
 have:=ht.inv_nil
 subst this
 cases hv with | d _ _ hv=>?_
 cases hv
 refine(hs M w hr hn.1 hn.2).mono ?_
 rintro e w' ⟨rfl,hb⟩
 exact⟨_,rfl,hb,fun M'=>.bytes M' _⟩
theorem wE(b c:UInt8)(l:List UInt8)(h:b≠c):Lib.index (b::l) [c]=if Lib.index l [c] == -1 then -1 else Lib.index l [c]+1:=by
 have hp:([c]:List UInt8).isPrefixOf (b::l)=false:=by simp[Ez,Ne.symm h]
 rw[Lib.index,hp];simp
theorem wF(c:UInt8)(l:List UInt8):Lib.index (c::l) [c]=0:=by rw[Lib.index];simp[Ez]
theorem AT(c:UInt8):∀s,se c s≠[]
 | []=>by simp[se]
 | b::l=>by
  rw[se]
  split
  ·simp
  ·split<;>simp
theorem lU(c:UInt8)(s:List UInt8)(k:Nat)(h:Lib.index s [c]=-1):Lib.splitK [c] 0 k s=[s]:=by
 cases k with
 | zero=>rfl
 | succ k=>rw[Lib.splitK,if_pos (beq_iff_eq.2 h)]
theorem sX(c:UInt8):∀s:List UInt8,Lib.splitK [c] 0 (Lib.count s [c]) s=se c s
 | []=>by rw[lU c [] _ (by simp[Lib.index])];rfl
 | b::l=>by
  have ih:=sX c l
  by_cases h:b=c
  ·subst h
   rw[Lib.count_cons_eq,se,if_pos rfl,Nat.add_comm,Lib.splitK,wF]
   simp only[show ¬((0:Int) == -1)=true from by decide,if_false,Int.toNat_zero,Nat.zero_add,List.take_zero,List.length_cons,List.length_nil,List.drop_succ_cons,List.drop_zero,ih]
   simp
  ·rw[Lib.count_cons_ne b c l h,se,if_neg h,← ih]
   have hix:=wE b c l h
   by_cases hm:Lib.index l [c]=-1
   ·rw[lU c l _ hm,lU c (b::l) _ (by rw[hix,if_pos (beq_iff_eq.2 hm)])]
   ·have hge:=Lib.index_ge l [c]
    obtain⟨j,hj⟩:∃j:Nat,Lib.index l [c]=j:=⟨(Lib.index l [c]).toNat,by omega⟩
    have hix':Lib.index (b::l) [c]=((j+1:Nat):Int):=by rw[hix,if_neg (fun e=>hm (beq_iff_eq.1 e)),hj];omega
    rw[Lib.count_hit (by simp) hj,Nat.add_comm,Lib.splitK,Lib.splitK,hj,hix',if_neg (by intro e;have:=beq_iff_eq.1 e;omega),if_neg (by intro e;have:=beq_iff_eq.1 e;omega)]
    simp
theorem qd{f:FuncId}{t:TypeId}{N:Nat}(hN:N≤1073741824){s sep:List UInt8}{r:List (List UInt8)}(hok:cI P f)(h:wA N s sep=some r)
  (hs:∀(M:GM) (w:World) (a b:ByteArray),Resp M w→a.size<4294967281→1≤b.size→Calls P f #[.string a,.string b] w fun e w' =>
   e=.returned (.slice (some ⟨w.heap.size,0,none⟩) (Lib.countB a b+1) (Lib.countB a b+1))∧w'=w.alloc (.cells ((Lib.splitB b 0 (Lib.countB a b) a).map Value.string).toArray t)) :
  ACalls P f [.d (.str s),.d (.str sep)] [] fun e os=>e=.ret (.d (.list 1 (Jy D.str r)))∧os=[]:=by
 unfold wA at h
 split at h
 rotate_left
 ·cases h
 rename_i c
 split at h
 rotate_left
 ·cases h
 rename_i hc
 cases h
 refine⟨hok,fun M w vs hr ha _=>?_⟩
 obtain⟨v,vs',rfl,hv,ht⟩:=ha.inv
 obtain⟨v2,vs2,rfl,hv2,ht2⟩:=ht.inv
 have:=ht2.inv_nil
 subst this
 obtain⟨a,rfl,rfl⟩:=gj hv
 obtain⟨b,rfl,hb⟩:=gj hv2
 have h1:a.size≤N:=by simpa using hc
 have h2:1≤b.size:=by
  have:b.size=b.data.toList.length:=by simp
  rw[this,hb];simp
 refine(hs M w a b hr (by omega) h2).mono ?_
 rintro e w' ⟨rfl,rfl⟩
 have hspl:se c a.data.toList=(Lib.splitB b 0 (Lib.countB a b) a).map (·.data.toList):=by
  rw[Lib.splitB_data,hb,← sX,← hb]
 have hlen:=Lib.splitB_all b h2 0 (Lib.countB a b) a rfl
 rw[hspl]
 generalize Lib.splitB b 0 (Lib.countB a b) a=L at *
 have hfree:=hr.free (Nat.le_refl w.heap.size)
 have hle:M.le (M.row w.heap.size (L.map Value.string)):=GM.le_row fun o v hv=>by rw[hfree.c]at hv;cases hv
 have hcell:∀o v,(L.map Value.string)[o]? = some v→(w.alloc (.cells (L.map Value.string).toArray t)).cell? ⟨w.heap.size,o,none⟩=some v:=by
  intro o v hv
  simp only[World.cell?,heap_alloc_new]
  simpa using hv
 have hr2:Resp (M.row w.heap.size (L.map Value.string)) (w.alloc (.cells (L.map Value.string).toArray t)):=(hr.alloc _).row hcell hle
 refine⟨[],_,fa _ _,hr2,⟨⟨rfl,rfl,rfl,by simp,fun b hb _=>alloc_old w _ b hb,hle,fun b hb _ o=>GM.row_other M _ _ (by omega) o,fun _ _ _=>rfl⟩,fun b hb=>.inl hb⟩,.inl ⟨_,_,rfl,⟨rfl,rfl⟩,.d _ _ ?_⟩⟩
 have hfm:∀K:List (List UInt8),(K.map D.str).flatMap cellsOf=K.map D.str:=by
  intro K
  induction K with
  | nil=>rfl
  | cons x K ih=>rw[xZ,yZ,ih];rfl
 have hg:=Gam.list (M:=M.row w.heap.size (L.map Value.string)) 1 ((L.map (·.data.toList)).map D.str) w.heap.size 0 (Lib.countB a b+1) (fun j=>((L.map Value.string)[j]?).getD undef) (by simp;omega) (fun x hx=>by
   obtain⟨y,_,rfl⟩:=List.mem_map.1 hx;rfl)
  (fun j d hd=>by
   rw[hfm]at hd
   have hlt:j<L.length:=by have:=(List.getElem?_eq_some_iff.1 hd).1;simpa using this
   rw[Nat.zero_add]
   have:(L.map Value.string)[j]? = some (.string L[j]):=by simp[hlt]
   rw[this];exact GM.row_at M _ this)
  (fun j d hd=>by
   rw[hfm]at hd
   have hlt:j<L.length:=by have:=(List.getElem?_eq_some_iff.1 hd).1;simpa using this
   simp[hlt]at hd
   subst hd
   simp[hlt]
   exact .str _ _ rfl)
  (fun j d hd=>by
   rw[hfm]at hd
   have hlt:j<L.length:=by have:=(List.getElem?_eq_some_iff.1 hd).1;simpa using this
   simp[hlt,Value.oneCell'])
 simpa [hlen]using hg
def wJ (T:Nat):Int⊕Int→AE→List (Nat×Ob)→Prop
 | .inl r=>fun ae os=>∃_:Unit,True∧ae=.ret (.d (.tup [.int .i64 r,.nilifc]))∧os=[]
 | .inr r=>fun ae os=>∃_:Unit,True∧ae=.ret (.d (.tup [.int .i64 r,.ifc T (.ref (.agg []))]))∧os=[]
theorem sY(M:GM)(T n:Nat):Gam M (.ifc T (.ref (.agg []))) (.iface T (.pointer (some ⟨n,0,none⟩))) :=
 .ifc _ _ _ (.ref _ n 0 (fun _=>undef) (fun j c hc=>by simp[cellsOf]at hc) (fun j c hc=>by simp[cellsOf]at hc) (fun j c hc=>by simp[cellsOf]at hc))
theorem Nv{M:GM}{a b:D}{u v:Value}(h1:Gam M a u)(h2:Gam M b v):Gam M (.tup [a,b]) (.tuple #[u,v]):=.tup _ [u,v] rfl fun j c x hc hx=>by
 match j,hc,hx with
 | 0,hc,hx=>simp at hc hx;subst hc hx;exact h1
 | 1,hc,hx=>simp at hc hx;subst hc hx;exact h2
theorem rj{f:FuncId}{T:TypeId}{N:Nat}(hN:N≤1073741824){s:List UInt8}{r:Int⊕Int}(hok:cI P f)(h:nV N s=some r)
  (h1:∀(s:ByteArray) (v:Int) (w:World),s.size≤1073741824→Lib.atoiAll s.data.toList=.ok v→Calls P f #[.string s] w fun e w'=>e=.returned (.tuple #[.int .i64 v,.nilIface])∧Below w.heap.size w w')
  (h2:∀(M:GM) (s:ByteArray) (w:World),Resp M w→s.size≤1073741824→Lib.atoiAll s.data.toList=Lib.atoiAll []→Calls P f #[.string s] w fun e w'=>∃n,e=.returned (.tuple #[.int .i64 0,.iface T (.pointer (some ⟨n,0,none⟩))])∧Below w.heap.size w w')
  (h3:∀(M:GM) (s:ByteArray) (w:World),Resp M w→s.size≤1073741824→Lib.atoiAll s.data.toList=.range→Calls P f #[.string s] w fun e w'=>∃n,e=.returned (.tuple #[.int .i64 (Lib.atoiSat s.data.toList),.iface T (.pointer (some ⟨n,0,none⟩))])∧Below w.heap.size w w') :
  ACalls P f [.d (.str s)] [] (wJ T r):=by
 unfold nV at h
 split at h
 rotate_left
 ·cases h
 rename_i hc
 refine⟨hok,fun M w vs hr ha _=>?_⟩
 obtain⟨v,vs',rfl,hv,ht⟩:=ha.inv
 have:=ht.inv_nil
 subst this
 obtain⟨a,rfl,rfl⟩:=gj hv
 have hsz:a.size≤1073741824:=by
  have:a.size≤N:=by simpa using hc
  omega
 cases e:Lib.atoiAll a.data.toList with
 | ok v =>
  rw[e]at h
  cases h
  refine(h1 a v w hsz e).mono ?_
  rintro e' w' ⟨rfl,hb⟩
  exact⟨[],M,fa _ _,hr.below hb,⟨Go.Abs.Below.frm hb,fun b hb=>.inl hb⟩,.inl ⟨_,_,rfl,⟨(),trivial,rfl,rfl⟩,.d _ _ (Nv (.int _ _) .nilifc)⟩⟩
 | range =>
  rw[e]at h
  cases h
  refine(h3 M a w hr hsz e).mono ?_
  rintro e' w' ⟨n,rfl,hb⟩
  exact⟨[],M,fa _ _,hr.below hb,⟨Go.Abs.Below.frm hb,fun b hb=>.inl hb⟩,.inl ⟨_,_,rfl,⟨(),trivial,rfl,rfl⟩,.d _ _ (Nv (.int _ _) (sY _ _ _))⟩⟩
 | _ =>
  rw[e]at h
  cases h
  refine(h2 M a w hr hsz e).mono ?_
  rintro e' w' ⟨n,rfl,hb⟩
  exact⟨[],M,fa _ _,hr.below hb,⟨Go.Abs.Below.frm hb,fun b hb=>.inl hb⟩,.inl ⟨_,_,rfl,⟨(),trivial,rfl,rfl⟩,.d _ _ (Nv (.int _ _) (sY _ _ _))⟩⟩
theorem vJ(xs:List (List UInt8))(sep:List UInt8):vE sep xs=Lib.join xs sep:=by
 cases xs with
 | nil=>rfl
 | cons x r=>rw[Lib.join_cons];rfl
theorem rk{f:FuncId}{N:Nat}(hN:N≤1073741824){xs:List (List UInt8)}{sep r:List UInt8}(hok:cI P f)(h:pg N xs sep=some r)
  (hs0:∀(p:Option Addr) (c:Nat) (sep:ByteArray) (w:World),Calls P f #[.slice p 0 c,.string sep] w fun e w'=>e=.returned (.string ByteArray.empty)∧w'=w)
  (hs1:∀(bk o c:Nat) (xs:List ByteArray) (sep:ByteArray) (w:World),(∀(j:Nat) x,xs[j]? = some x→w.cell? ⟨bk,o+j,none⟩=some (.string x))→bk<w.heap.size→xs.length≤140737488355328→xs.length≤c →
   (Lib.join (xs.map (·.data.toList)) sep.data.toList).length≤140737488355328 →
   Calls P f #[.slice (some ⟨bk,o,none⟩) xs.length c,.string sep] w fun e w'=>e=.returned (.string ⟨(Lib.join (xs.map (·.data.toList)) sep.data.toList).toArray⟩)∧Below w.heap.size w w') :
  ACalls P f [.d (.list 1 (Jy D.str xs)),.d (.str sep)] [] fun e os=>e=.ret (.d (.str r))∧os=[]:=by
 unfold pg at h
 rw[vJ]at h
 split at h
 rotate_left
 ·cases h
 rename_i hc
 cases h
 refine jG hok fun M w vs hr ha=>?_
 obtain⟨v,vs',rfl,hv,ht⟩:=ha.inv
 obtain⟨v2,vs2,rfl,hv2,ht2⟩:=ht.inv
 have:=ht2.inv_nil
 subst this
 obtain⟨b,rfl,rfl⟩:=gj hv2
 cases hv with | d _ _ hv=>?_
 have none:∀(p:Option Addr) (c:Nat),xs=[]→Calls P f ⟨[.slice p 0 c,.string b]⟩ w fun e w'=>∃v,e=.returned v∧Below w.heap.size w w'∧∀M',Gam M' (.str (Lib.join xs b.data.toList)) v:=by
  intro p c hx
  refine(hs0 p c b w).mono ?_
  rintro e w' ⟨rfl,rfl⟩
  exact⟨_,rfl,.refl _ _,fun M'=>by rw[hx];exact .str _ _ rfl⟩
 generalize hl:D.list 1 (Jy D.str xs)=dd at hv
 cases hv with
 | nils =>
  have:=(D.list.inj hl).2
  exact none _ _ (List.map_eq_nil_iff.1 this)
 | listz =>
  have:=(D.list.inj hl).2
  exact none _ _ (List.map_eq_nil_iff.1 this)
 | list sz ys bk off cap vf h1 h2 hm hg hone =>
  have hinj:=D.list.inj hl
  obtain⟨rfl,rfl⟩:=hinj
  have hfm:∀K:List (List UInt8),(K.map D.str).flatMap cellsOf=K.map D.str:=by
   intro K
   induction K with
   | nil=>rfl
   | cons x K ih=>rw[xZ,yZ,ih];rfl
  rw[hfm]at hm hg
  by_cases hx:xs=[]
  ·subst hx
   exact none _ _ rfl
  have hcell:∀(j:Nat) (x:ByteArray),(xs.map fun x=>(⟨x.toArray⟩:ByteArray))[j]? = some x→w.cell? ⟨bk,off+j,Option.none⟩=some (.string x):=by
   intro j x hj
   rw[Jr]at hj
   cases hq:xs[j]? with
   | none=>rw[hq]at hj;cases hj
   | some y =>
    rw[hq]at hj
    cases hj
    have e:(Jy D.str xs)[j]? = some (.str y):=by rw[Jr,hq];rfl
    have h3:=hr.c _ _ _ (hm j _ e)
    have h4:=hg j _ e
    generalize vf j=u at h3 h4
    cases h4 with | str _ q hq2 =>
    rw[h3]
    congr 2
    rw[← hq2]
  have hpos:0<xs.length:=List.length_pos_iff.2 hx
  have hlt:bk<w.heap.size:=by
   have:=World.block_lt_of_cell? w _ (hcell 0 ⟨(xs[0]).toArray⟩ (by simp))
   simpa using this
  have hmap:(xs.map fun x=>(⟨x.toArray⟩:ByteArray)).map (·.data.toList)=xs:=by
   rw[List.map_map]
   conv=>rhs;rw[← List.map_id xs]
   exact List.map_congr_left fun x _=>rfl
  have:=hs1 bk off cap (xs.map fun x=>⟨x.toArray⟩) b w hcell hlt (by simp;omega) (by simpa using h1) (by rw[hmap];omega)
  rw[hmap]at this
  simp only[List.length_map]at this ⊢
  refine this.mono ?_
  rintro e w' ⟨rfl,hb⟩
  exact⟨_,rfl,hb,fun M'=>.bytes M' _⟩
 | _=>cases hl
end
end Go.Abs
