/-
 What an argument is, by its type: whatever its shape (numbers, bools, strings, structs, arrays, slices, one in another).
-/
import Derived.Test.YtdodahpkpeodfaaGreatDoorBr
set_option linter.all false
open Bool renaming and_eq_true→wH
open List renaming drop_drop→Bo,drop_of_length_le→G5,flatten_cons→Bz,getElem?_append_left→za,getElem?_append_right→zL,length_map→Ia,take_append_drop→BL
namespace Go.Abs
open Go Go.Joins Go.Deep Go.ChangeShapes Go.WideShapes Go.ChangeAt Go.RowKit
def LA (P:Program)(t:TypeId):Bool:=match P.underlying t with | some (.struct _)=>true | some (.array _ _)=>true | _=>false
def mkE (agg:Bool)(ds:List D):D:=match agg with | true=>.agg ds | false=>ds.headD .nilsl
def vm (P:Program)(p:TypeId→List D→Prop):List Field→List D→Prop
 | [],ds=>ds=[]
 | f::r,ds=>∃a b,ds=a++b∧a.length=P.cellsOf f.type∧p f.type a∧vm P p r b
def wY (p:List D→Prop)(sz:Nat):Nat→List D→Prop
 | 0,ds=>ds=[]
 | n+1,ds=>∃a b,ds=a++b∧a.length=sz∧p a∧wY p sz n b
def Fit (P:Program):Nat→TypeId→List D→Prop
 | 0,_,_=>False
 | f+1,t,ds=>match P.underlying t with
  | some .bool=>∃b,ds=[.bool b]
  | some (.int k)=>∃n,ds=[.int k n]∧fits k n
  | some .string=>∃s,ds=[.str s]
  | some (.slice e)=>∃xs,ds=[.list (P.cellsOf e) xs]∧∀x∈xs,∃es,x=mkE (LA P e) es∧es.length=P.cellsOf e∧Fit P f e es
  | some (.struct fs)=>vm P (Fit P f) fs.toList ds
  | some (.array n e)=>wY (Fit P f e) (P.cellsOf e) n ds
  | _=>False
def qV (P:Program):List Field→Nat→Nat→Bool
 | [],o,n=>o == n
 | f::r,o,n=>f.offset == o&&qV P r (o+P.cellsOf f.type) n
def lQ (P:Program):Nat→TypeId→Bool
 | 0,_=>false
 | f+1,t=>match P.underlying t with
  | some .bool=>true
  | some (.int _)=>true
  | some .string=>true
  | some (.slice e)=>decide (0<P.cellsOf e)&&lQ P f e
  | some (.struct fs)=>fs.toList.all (fun g=>lQ P f g.type)&&qV P fs.toList 0 (P.cellsOf t)
  | some (.array n e)=>lQ P f e&&n*P.cellsOf e == P.cellsOf t
  | _=>false
theorem qW{α β:Type}{g:α→Option β}:∀{l:List α} {xs:List β},l.mapM g=some xs→xs.length=l.length∧∀(i:Nat) a,l[i]? = some a→∃x,xs[i]? = some x∧g a=some x
 | [],xs,h=>by simp at h;subst h;exact⟨rfl,fun i a ha=>by simp at ha⟩
 | a::l,xs,h=>by
  rw[List.mapM_cons]at h
  simp only[Option.bind_eq_bind,Option.pure_def,Option.bind_eq_some_iff,Option.some.injEq]at h
  obtain⟨b,hb,bs,hbs,rfl⟩:=h
  obtain⟨h1,h2⟩:=qW hbs
  refine⟨by simp[h1],fun i x hx=>?_⟩
  cases i with
  | zero=>simp at hx;subst hx;exact⟨b,rfl,hb⟩
  | succ i=>simp at hx;simpa using h2 i x hx
theorem mj(agg:Bool){ds:List D}(h:agg=false→∃d,ds=[d]∧cellsOf d=[d]):cellsOf (mkE agg ds)=ds:=by
 cases agg with
 | true=>rfl
 | false=>obtain⟨d,rfl,e⟩:=h rfl;exact e
theorem nN{P:Program}{f:Nat}{t:TypeId}{ds:List D}(h:Fit P f t ds)(ha:LA P t=false):∃d,ds=[d]∧cellsOf d=[d]:=by
 cases f with
 | zero=>exact h.elim
 | succ f =>
  unfold Fit at h
  unfold LA at ha
  split at h
  ·obtain⟨b,rfl⟩:=h;exact⟨_,rfl,rfl⟩
  ·obtain⟨b,rfl,_⟩:=h;exact⟨_,rfl,rfl⟩
  ·obtain⟨b,rfl⟩:=h;exact⟨_,rfl,rfl⟩
  ·obtain⟨b,rfl,_⟩:=h;exact⟨_,rfl,rfl⟩
  ·rename_i e;rw[e]at ha;cases ha
  ·rename_i e;rw[e]at ha;cases ha
  ·exact h.elim
theorem wv{l:List (List D)}(agg:Bool)(h:∀ds∈l,agg=false→∃d,ds=[d]∧cellsOf d=[d]):(l.map (mkE agg)).flatMap cellsOf=l.flatten:=by
 induction l with
 | nil=>rfl
 | cons x l ih =>
  simp only[List.map_cons,List.flatMap_cons,Bz]
  rw[mj agg (h x (by simp)),ih fun ds hd=>h ds (by simp[hd])]
theorem nO{α:Type}{sz:Nat}(hsz:0<sz):∀{l:List (List α)},(∀x∈l,x.length=sz)→∀{i:Nat} {a:α},l.flatten[i]? = some a→∃x,l[i / sz]? = some x∧x[i % sz]? = some a
 | [],_,i,a,h=>by simp at h
 | x::l,hl,i,a,h=>by
  rw[Bz]at h
  have hx:=hl x (by simp)
  by_cases hi:i<sz
  ·rw[za (by omega)]at h
   exact⟨x,by rw[Nat.div_eq_of_lt hi];rfl,by rw[Nat.mod_eq_of_lt hi];exact h⟩
  ·rw[zL (by omega),hx]at h
   obtain⟨y,h1,h2⟩:=nO hsz (fun z hz=>hl z (by simp[hz])) h
   have e1:i / sz=(i-sz) / sz+1:=by
    rw[Nat.div_eq i sz,if_pos ⟨hsz,by omega⟩]
   have e2:i % sz=(i-sz) % sz:=by rw[Nat.mod_eq_sub_mod (by omega)]
   exact⟨y,by rw[e1];simpa using h1,by rw[e2];exact h2⟩
section
variable {H:Type}{enc:TypeId×Value→H}{P:Program}{W:World}
theorem t7{α:Type}{Q:Nat→α→Prop}{n:Nat}(h:∀i,i<n→∃x,Q i x):∃l:List α,l.length=n∧∀(i:Nat) x,l[i]? = some x→Q i x:=by
 induction n with
 | zero=>exact⟨[],rfl,fun i x hx=>by simp at hx⟩
 | succ n ih =>
  obtain⟨l,h1,h2⟩:=ih fun i hi=>h i (by omega)
  obtain⟨x,hx⟩:=h n (by omega)
  refine⟨l++[x],by simp[h1],fun i y hi=>?_⟩
  by_cases hlt:i<l.length
  ·rw[za hlt]at hi;exact h2 i y hi
  ·have hl:=(List.getElem?_eq_some_iff.1 hi).1
   simp at hl
   have:i=n:=by omega
   subst this
   rw[zL (by omega)]at hi
   simp[h1]at hi
   subst hi;exact hx
theorem vn{w:World}{a:Addr}{n:Nat}{cs:List Value}(h:w.cells? 0 a n=some cs):cs.length=n∧∀(j:Nat) v,cs[j]? = some v→w.cell? (a.add j)=some v:=by
 unfold World.cells? at h
 rw[if_pos (Nat.zero_le _)]at h
 obtain⟨h1,h2⟩:=qW h
 rw[List.length_range]at h1
 refine⟨h1,fun j v hv=>?_⟩
 have hj:=(List.getElem?_eq_some_iff.1 hv).1
 obtain⟨x,e1,e2⟩:=h2 j j (List.getElem?_range (by omega))
 rw[hv]at e1;cases e1;exact e2
theorem sS:∀{fs:List Field} {o n:Nat},qV P fs o n=true→o≤n
 | [],o,n,h=>by
  have:o=n:=by simpa [qV]using h
  omega
 | f::r,o,n,h=>by
  simp only[qV,wH,beq_iff_eq]at h
  have:=sS h.2
  omega
theorem nP{M:GM}{p:TypeId→List D→Prop}{cs:List Value}{total:Nat}(hlen:cs.length=total):∀(fs:List Field) (o:Nat),qV P fs o total=true→o≤total →
  (∀f∈fs,∃ds,All2 (Gam M) ds ((cs.drop f.offset).take (P.cellsOf f.type))∧p f.type ds∧∀c∈(cs.drop f.offset).take (P.cellsOf f.type),c.oneCell'=true) →
  ∃ds,All2 (Gam M) ds (cs.drop o)∧vm P p fs ds∧∀c∈cs.drop o,c.oneCell'=true
 | [],o,ho,_,_=>by
  have:o=total:=by simpa [qV]using ho
  subst this
  rw[G5 (by omega)]
  exact⟨[],.nil,rfl,by simp⟩
 | f::r,o,ho,hle,h=>by
  simp only[qV,wH,beq_iff_eq]at ho
  obtain⟨rfl,ho⟩:=ho
  obtain⟨a,h1,h2,h4⟩:=h f (by simp)
  have hle2:f.offset+P.cellsOf f.type≤total:=sS ho
  have h3:((cs.drop f.offset).take (P.cellsOf f.type)).length=P.cellsOf f.type:=by simp;omega
  obtain⟨b,g1,g2,g3⟩:=nP hlen r _ ho hle2 fun g hg=>h g (by simp[hg])
  have e:cs.drop f.offset=(cs.drop f.offset).take (P.cellsOf f.type)++cs.drop (f.offset+P.cellsOf f.type):=by
   rw[← Bo,BL]
  refine⟨a++b,by rw[e];exact h1.append g1,⟨a,b,rfl,by rw[h1.1];exact h3,h2,g2⟩,fun c hc=>?_⟩
  rw[e]at hc
  rcases List.mem_append.1 hc with q | q
  ·exact h4 c q
  ·exact g3 c q
theorem nQ{M:GM}{p:List D→Prop}{cs:List Value}{sz:Nat}:∀(n o:Nat),cs.length=o+n*sz →
  (∀i,i<n→∃ds,All2 (Gam M) ds ((cs.drop (o+i*sz)).take sz)∧p ds∧∀c∈(cs.drop (o+i*sz)).take sz,c.oneCell'=true) →
  ∃ds,All2 (Gam M) ds (cs.drop o)∧wY p sz n ds∧∀c∈cs.drop o,c.oneCell'=true
 | 0,o,hl,_=>by
  rw[G5 (by omega)]
  exact⟨[],.nil,rfl,by simp⟩
 | n+1,o,hl,h=>by
  obtain⟨a,h1,h2,h3⟩:=h 0 (by omega)
  rw[Nat.zero_mul,Nat.add_zero]at h1 h3
  rw[Nat.succ_mul]at hl
  obtain⟨b,g1,g2,g3⟩:=nQ (M:=M) (p:=p) (cs:=cs) (sz:=sz) n (o+sz) (by omega) fun i hi=>by
   have:=h (i+1) (by omega)
   rw[Nat.succ_mul,show o+(i*sz+sz)=o+sz+i*sz by omega]at this
   exact this
  have e:cs.drop o=(cs.drop o).take sz++cs.drop (o+sz):=by rw[← Bo,BL]
  have hal:a.length=sz:=by rw[h1.1];simp;omega
  refine⟨a++b,by rw[e];exact h1.append g1,⟨a,b,rfl,hal,h2,g2⟩,fun c hc=>?_⟩
  rw[e]at hc
  rcases List.mem_append.1 hc with q | q
  ·exact h3 c q
  ·exact g3 c q
theorem rZ{t:TypeId}{fuel:Nat}{cs:List Value}{x:DataW H×List MemPlace}(ht:P.underlying t=some .bool)(h:DataW.trod enc P W 0 (fun _=>true) true fuel t cs=some x):∃b,cs=[.bool b]:=by
 cases fuel with
 | zero=>simp[DataW.trod]at h
 | succ m =>
  unfold DataW.trod at h
  rw[ht]at h
  split at h<;>simp_all
theorem t8{t:TypeId}{fuel:Nat}{cs:List Value}{x:DataW H×List MemPlace}(ht:P.underlying t=some .string)(h:DataW.trod enc P W 0 (fun _=>true) true fuel t cs=some x):∃s,cs=[.string s]:=by
 cases fuel with
 | zero=>simp[DataW.trod]at h
 | succ m =>
  unfold DataW.trod at h
  rw[ht]at h
  split at h<;>simp_all
theorem sa:∀(f:Nat) {t:TypeId} {fuel:Nat} {cs:List Value} {x:DataW H×List MemPlace},lQ P f t=true→DataW.trod enc P W 0 (fun _=>true) true fuel t cs=some x →
  ∃ds,All2 (Gam (j4 W)) ds cs∧Fit P f t ds∧∀c∈cs,c.oneCell'=true:=by
 intro f
 induction f with
 | zero=>intro t fuel cs x hp;cases hp
 | succ f ih =>
  intro t fuel cs x hp h
  unfold lQ at hp
  cases hu:P.underlying t with
  | none=>rw[hu]at hp;cases hp
  | some td =>
   rw[hu]at hp
   unfold Fit
   rw[hu]
   cases td with
   | bool =>
    obtain⟨b,rfl⟩:=rZ hu h
    exact⟨[.bool b],.cons (.bool _) .nil,⟨_,rfl⟩,fun c hc=>by simp at hc;subst hc;rfl⟩
   | int k =>
    obtain⟨n,rfl,_,hw⟩:=DataW.trod_int hu h
    exact⟨[.int k n],.cons (.int _ _) .nil,⟨n,rfl,hw⟩,fun c hc=>by simp at hc;subst hc;rfl⟩
   | string =>
    obtain⟨s,rfl⟩:=t8 hu h
    exact⟨[.str s.data.toList],.cons (.str _ _ rfl) .nil,⟨_,rfl⟩,fun c hc=>by simp at hc;subst hc;rfl⟩
   | slice e =>
    simp only[wH,decide_eq_true_eq]at hp
    obtain⟨hpos,hpe⟩:=hp
    rcases Go.Deep.open_slice hu h with⟨rfl,_⟩ | ⟨a,len,cap,m,n,D',Pl,rfl,_,hl,_,hm,_,hel⟩
    ·exact⟨[.list (P.cellsOf e) []],.cons (.nils _) .nil,⟨[],rfl,by simp⟩,fun c hc=>by simp at hc;subst hc;rfl⟩
    ·have hm:m=cap:=by simpa using hm
     have hat:∀i,i<len→∃ds:List D,ds.length=P.cellsOf e∧Fit P f e ds∧∀(j:Nat) dd,ds[j]? = some dd→∃u,W.cell? (a.add (i*P.cellsOf e)|>.add j)=some u∧Gam (j4 W) dd u∧u.oneCell'=true:=by
      intro i hi
      obtain⟨cs',h1,h2⟩:=hel i (by omega)
      obtain⟨ds,g1,g2,g3⟩:=ih hpe h2
      obtain⟨q1,q2⟩:=vn h1
      refine⟨ds,by rw[g1.1];exact q1,g2,fun j dd hd=>?_⟩
      have hj:=(List.getElem?_eq_some_iff.1 hd).1
      have hjc:j<cs'.length:=by rw[← g1.1];exact hj
      have hcj:cs'[j]? = some cs'[j]:=by simp[hjc]
      exact⟨cs'[j],q2 j _ hcj,g1.2 j dd _ hd hcj,g3 _ (List.getElem_mem hjc)⟩
     by_cases h0:len=0
     ·subst h0
      exact⟨[.list (P.cellsOf e) []],.cons (.listz _ _ _) .nil,⟨[],rfl,by simp⟩,fun c hc=>by simp at hc;subst hc;rfl⟩
     ·obtain⟨l,hll,hq⟩:=t7 hat
      have hspot:a.spot=none:=by
       obtain⟨ds,hd1,_,hd2⟩:=hat 0 (by omega)
       have:ds[0]? = some ds[0]:=by simp
       obtain⟨u,hu',_⟩:=hd2 0 _ this
       have:=World.cell?_spot hu'
       simpa [Addr.add]using this
      obtain⟨b,off,spot⟩:=a
      simp only at hspot
      subst hspot
      have hsc:∀ds∈l,LA P e=false→∃d,ds=[d]∧cellsOf d=[d]:=by
       intro ds hds ha
       obtain⟨i,hi⟩:=List.mem_iff_getElem?.1 hds
       exact nN (hq i ds hi).2.1 ha
      have hlen:∀ds∈l,ds.length=P.cellsOf e:=by
       intro ds hds
       obtain⟨i,hi⟩:=List.mem_iff_getElem?.1 hds
       exact(hq i ds hi).1
      have hfl:=wv (l:=l) (LA P e) hsc
      have hcell:∀(i:Nat) d,l.flatten[i]? = some d→∃u,W.cell? ⟨b,off+i,none⟩=some u∧Gam (j4 W) d u∧u.oneCell'=true:=by
       intro i d hd
       obtain⟨ds,e1,e2⟩:=nO hpos hlen hd
       obtain⟨u,hu',g⟩:=(hq _ ds e1).2.2 _ d e2
       simp only[addr_add]at hu'
       have:off+i / P.cellsOf e*P.cellsOf e+i % P.cellsOf e=off+i:=by
        have:=Nat.div_add_mod i (P.cellsOf e)
        rw[Nat.mul_comm]at this;omega
       rw[this]at hu'
       exact⟨u,hu',g⟩
      refine⟨[.list (P.cellsOf e) (l.map (mkE (LA P e)))],.cons ?_ .nil,⟨_,rfl,fun y hy=>?_⟩,fun c hc=>by simp at hc;subst hc;rfl⟩
      ·have:=Gam.list (M:=j4 W) (P.cellsOf e) (l.map (mkE (LA P e))) b off cap (fun i=>(W.cell? ⟨b,off+i,none⟩).getD undef) (by rw[Ia,hll];exact hl)
        (fun y hy=>by
         obtain⟨ds,hds,rfl⟩:=List.mem_map.1 hy
         rw[mj _ (hsc ds hds)];exact hlen ds hds)
        (fun i d hd=>by
         rw[hfl]at hd
         obtain⟨u,hu',_⟩:=hcell i d hd
         show W.cell? ⟨b,off+i,none⟩=_
         rw[hu'];rfl)
        (fun i d hd=>by
         rw[hfl]at hd
         obtain⟨u,hu',g,_⟩:=hcell i d hd
         rw[hu'];exact g)
        (fun i d hd=>by
         rw[hfl]at hd
         obtain⟨u,hu',_,g⟩:=hcell i d hd
         rw[hu'];exact g)
       rw[Ia,hll]at this
       exact this
      ·obtain⟨ds,hds,rfl⟩:=List.mem_map.1 hy
       obtain⟨i,hi⟩:=List.mem_iff_getElem?.1 hds
       exact⟨ds,rfl,(hq i ds hi).1,(hq i ds hi).2.1⟩
   | struct fs =>
    simp only[wH,List.all_eq_true]at hp
    obtain⟨xs,n,_,_,hl,hlen,hf⟩:=DataW.trod_struct hu h
    have:=nP (M:=j4 W) (p:=Fit P f) (P:=P) hl fs.toList 0 hp.2 (by omega) (fun g hg=>by
     obtain⟨i,hi⟩:=List.mem_iff_getElem?.1 hg
     have hi2:=(List.getElem?_eq_some_iff.1 hi).1
     have h1:=hf i g (by simpa using hi)
     have hxi:xs[i]? = some (xs[i]'(by rw[hlen];simpa using hi2)):=by simp
     rw[hxi]at h1
     obtain⟨ds,g1,g2,g3⟩:=ih (hp.1 g hg) h1
     exact⟨ds,g1,g2,g3⟩)
    simpa using this
   | array n e =>
    simp only[wH,beq_iff_eq]at hp
    obtain⟨xs,m,_,_,hl,hlen,hf⟩:=DataW.trod_array hu h
    have:=nQ (M:=j4 W) (p:=Fit P f e) (cs:=cs) (sz:=P.cellsOf e) n 0 (by rw[hl,hp.2];omega) (fun i hi=>by
     have h1:=hf i hi
     have hxi:xs[i]? = some (xs[i]'(by omega)):=by simp
     rw[hxi]at h1
     obtain⟨ds,g1,g2,g3⟩:=ih hp.1 h1
     rw[Nat.zero_add]
     exact⟨ds,g1,g2,g3⟩)
    simpa using this
   | _=>cases hp
theorem qX{t:TypeId}{v:Value}{d:DataW H}{ps:List MemPlace}{r:Reach}{b0:Nat}(f:Nat)(hp:lQ P f t=true)(hv:Value.okWide P W r b0 t v)(h:DataW.Trod enc P W 0 (fun _=>true) true t v d ps) :
  ∃ds,Fit P f t ds∧GamA (j4 W) (.d (mkE (LA P t) ds)) v:=by
 obtain⟨fuel,h⟩:=h
 obtain⟨ds,h1,h2,h3⟩:=sa f hp h
 refine⟨ds,h2,.d _ _ ?_⟩
 cases ha:LA P t with
 | true =>
  have:∃cs,v=.agg cs:=by
   unfold LA at ha
   unfold Value.okWide at hv
   split at ha
   ·rename_i fs e;simp only[e]at hv;obtain⟨cs,e1,_⟩:=hv;exact⟨cs,e1⟩
   ·rename_i n e' e;simp only[e]at hv;obtain⟨cs,e1,_⟩:=hv;exact⟨cs,e1⟩
   ·cases ha
  obtain⟨⟨cs⟩,rfl⟩:=this
  exact .agg _ _ h1.1 h1.2 h3
 | false =>
  obtain⟨d,rfl,_⟩:=nN h2 ha
  obtain⟨u,us,e1,hg,ht⟩:=h1.inv
  have:=ht.inv_nil
  subst this
  show Gam _ d v
  have hna:∀cs,v≠.agg cs:=by
   rintro cs rfl
   cases f with
   | zero=>exact h2.elim
   | succ f =>
    unfold Fit at h2
    unfold LA at ha
    split at h2
    ·rename_i e;simp[Value.okWide,e,Cell.okWide,Cell.ok]at hv
    ·rename_i e;simp[Value.okWide,e,Cell.okWide,Cell.ok]at hv
    ·rename_i e;simp[Value.okWide,e,Cell.okWide,Cell.ok]at hv
    ·rename_i e;simp[Value.okWide,e,Cell.okWide,Cell.ok]at hv
    ·rename_i e;rw[e]at ha;cases ha
    ·rename_i e;rw[e]at ha;cases ha
    ·exact h2.elim
  cases v with
  | agg cs=>exact absurd rfl (hna cs)
  | _ =>
   simp[Value.cells]at e1
   subst e1;exact hg
end
end Go.Abs
