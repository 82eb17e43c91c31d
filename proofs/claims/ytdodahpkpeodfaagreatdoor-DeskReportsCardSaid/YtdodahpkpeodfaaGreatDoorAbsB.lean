/-
 The abstract machine's meaning: when a value of the model is an abstract value (Gam, GamA), when a world holds the objects (okOb), when a state describes a frame and a world (Rel), what a call does (ACalls). Facts on them.
-/
import Derived.Test.YtdodahpkpeodfaaGreatDoorAbsA
import Derived.Laws.MakeOwn
set_option linter.all false
open Bool renaming and_eq_true→wH,not_eq_true'→zZ
open Nat renaming lt_of_lt_of_le→xj
namespace Go.Abs
open Go
structure GM where
 c:Nat→Nat→Option Value
 m:Nat→Option Obj
structure GM.le(M M':GM):Prop where
 c:∀b o v,M.c b o=some v→M'.c b o=some v
 m:∀b x,M.m b=some x→M'.m b=some x
theorem GM.le_refl(M:GM):M.le M:=⟨fun _ _ _ h=>h,fun _ _ h=>h⟩
theorem GM.le_trans{A B C:GM}(h:A.le B)(k:B.le C):A.le C:=⟨fun b o v e=>k.c b o v (h.c b o v e),fun b x e=>k.m b x (h.m b x e)⟩
def iC:List Int:=(List.range 20).map fun i=>((10 ^ i:Nat):Int)
structure Tab(M:GM):Prop where
 pow:∃e fr,M.m 0=some (.cells (iC.map fun z=>Value.int .u64 z).toArray e fr)
 len:∃m,M.c 1 0=some (.int .i64 m)
 syn:∃ev,M.c 2 0=some ev∧(ev=.nilIface∨∃te pe,ev=.iface te pe)
 rng:∃ev,M.c 3 0=some ev∧(ev=.nilIface∨∃te pe,ev=.iface te pe)
theorem Tab.mono{M M':GM}(h:Tab M)(l:M.le M'):Tab M' :=
 ⟨let⟨e,fr,q⟩:=h.pow;⟨e,fr,l.m _ _ q⟩,let⟨m,q⟩:=h.len;⟨m,l.c _ _ _ q⟩,let⟨e,q,r⟩:=h.syn;⟨e,l.c _ _ _ q,r⟩,let⟨e,q,r⟩:=h.rng;⟨e,l.c _ _ _ q,r⟩⟩
structure Resp(M:GM)(w:World):Prop where
 c:∀b o v,M.c b o=some v→w.cell? ⟨b,o,none⟩=some v
 m:∀b x,M.m b=some x→w.heap[b]? = some x
 t:Tab M
inductive Gam (M:GM):D→Value→Prop where
 | int (k:IntKind) (n:Int):Gam M (.int k n) (.int k n)
 | bool (b:Bool):Gam M (.bool b) (.bool b)
 | str (s:List UInt8) (v:ByteArray) (h:v.data.toList=s):Gam M (.str s) (.string v)
 | agg (cs:List D) (vs:List Value) (hl:cs.length=vs.length) (h:∀(i:Nat) c v,cs[i]? = some c→vs[i]? = some v→Gam M c v)
   (h1:∀v∈vs,v.oneCell'=true):Gam M (.agg cs) (.agg ⟨vs⟩)
 | nils (sz:Nat):Gam M (.list sz []) (.slice none 0 0)
 | nilsl:Gam M .nilsl (.slice none 0 0)
 | list (sz:Nat) (xs:List D) (b off cap:Nat) (val:Nat→Value) (hc:xs.length≤cap) (hs:∀x∈xs,(cellsOf x).length=sz)
   (hm:∀(i:Nat) d,(xs.flatMap cellsOf)[i]? = some d→M.c b (off+i)=some (val i))
   (h:∀(i:Nat) d,(xs.flatMap cellsOf)[i]? = some d→Gam M d (val i)) (h1:∀(i:Nat) d,(xs.flatMap cellsOf)[i]? = some d→(val i).oneCell'=true) :
   Gam M (.list sz xs) (.slice (some ⟨b,off,none⟩) xs.length cap)
 | listz (sz:Nat) (a:Addr) (cap:Nat):Gam M (.list sz []) (.slice (some a) 0 cap)
 | ref (d:D) (b off:Nat) (val:Nat→Value) (hm:∀(i:Nat) c,(cellsOf d)[i]? = some c→M.c b (off+i)=some (val i))
   (h:∀(i:Nat) c,(cellsOf d)[i]? = some c→Gam M c (val i)) (h1:∀(i:Nat) c,(cellsOf d)[i]? = some c→(val i).oneCell'=true) :
   Gam M (.ref d) (.pointer (some ⟨b,off,none⟩))
 | nilptr:Gam M .nilptr (.pointer none)
 | fn (f:Fn) (first caps:List D) (fv cv:List Value) (hl:first.length=fv.length) (h:∀(i:Nat) c v,first[i]? = some c→fv[i]? = some v→Gam M c v)
   (hl2:caps.length=cv.length) (h2:∀(i:Nat) c v,caps[i]? = some c→cv[i]? = some v→Gam M c v):Gam M (.fn f first caps) (.func f ⟨fv⟩ ⟨cv⟩)
 | nilfn:Gam M .nilfn .nilFunc
 | ifc (t:TypeId) (d:D) (v:Value) (h:Gam M d v):Gam M (.ifc t d) (.iface t v)
 | nilifc:Gam M .nilifc .nilIface
 | mp (es:List (D×D)) (b:Nat) (arr:List MapEntry) (clock:Nat) (hm:M.m b=some (.map ⟨arr⟩ clock)) (hl:es.length=arr.length)
   (h:∀(i:Nat) e v,es[i]? = some e→arr[i]? = some v→Gam M e.1 v.key) (h2:∀(i:Nat) e v,es[i]? = some e→arr[i]? = some v→Gam M e.2 v.val)
   (hb:∀(i:Nat) v,arr[i]? = some v→v.born=i) (hk:clock=arr.length):Gam M (.mp es) (.map (some b))
 | nilmp:Gam M .nilmp (.map none)
 | tup (cs:List D) (vs:List Value) (hl:cs.length=vs.length) (h:∀(i:Nat) c v,cs[i]? = some c→vs[i]? = some v→Gam M c v):Gam M (.tup cs) (.tuple ⟨vs⟩)
theorem Gam.mono{M M':GM}(hM:M.le M'){d:D}{v:Value}(h:Gam M d v):Gam M' d v:=by
 induction h with
 | int k n=>exact .int k n
 | bool b=>exact .bool b
 | str s v h=>exact .str s v h
 | agg cs vs hl _ h1 ih=>exact .agg cs vs hl ih h1
 | nils sz=>exact .nils sz
 | nilsl=>exact .nilsl
 | list sz xs b off cap val hc hs hm _ h1 ih=>exact .list sz xs b off cap val hc hs (fun i d e=>hM.c _ _ _ (hm i d e)) ih h1
 | listz sz a cap=>exact .listz sz a cap
 | ref d b off val hm _ h1 ih=>exact .ref d b off val (fun i c e=>hM.c _ _ _ (hm i c e)) ih h1
 | nilptr=>exact .nilptr
 | fn f first caps fv cv hl _ hl2 _ ih ih2=>exact .fn f first caps fv cv hl ih hl2 ih2
 | nilfn=>exact .nilfn
 | ifc t d v _ ih=>exact .ifc t d v ih
 | nilifc=>exact .nilifc
 | mp es b arr clock hm hl _ _ hb hk ih ih2=>exact .mp es b arr clock (hM.m _ _ hm) hl ih ih2 hb hk
 | nilmp=>exact .nilmp
 | tup cs vs hl _ ih=>exact .tup cs vs hl ih
inductive GamA (M:GM):AV→Value→Prop where
 | d (x:D) (v:Value) (h:Gam M x v):GamA M (.d x) v
 | b (lit:Bool):GamA M (.b lit) (.bool lit)
 | i (k:IntKind) (n:Int):GamA M (.i k n) (.int k n)
 | cl (sz:Nat) (xs:List D) (a:Option Addr) (n:Nat) (h:Gam M (.list sz xs) (.slice a n n)):GamA M (.cl sz xs) (.slice a n n)
 | nils (sz:Nat):GamA M (.nils sz) (.slice none 0 0)
 | nn (sz:Nat) (xs:List D) (a:Addr) (n c:Nat) (h:Gam M (.list sz xs) (.slice (some a) n c)):GamA M (.nn sz xs) (.slice (some a) n c)
 | ptr (k b o:Nat):GamA M (.ptr k b o) (.pointer (some ⟨b,o,none⟩))
 | sl (k:Nat) (a:Option Addr) (n c:Nat):GamA M (.sl k (.slice a n c)) (.slice a n c)
 | rw (k i:Nat) (a:Option Addr) (n c:Nat):GamA M (.rw k i (.slice a n c)) (.slice a n c)
 | vw (k:Nat) (a:Option Addr) (n c sz lo hi:Nat):GamA M (.vw k (.slice a n c) sz lo hi) (.slice (if c=lo then a else a.map (·.add (lo*sz))) (hi-lo) (c-lo))
 | el (k:Nat) (b len cap sz i o:Nat):GamA M (.el k (.slice (some ⟨b,0,none⟩) len cap) sz i o) (.pointer (some ⟨b,i*sz+o,none⟩))
 | mp (k b:Nat):GamA M (.mp k b) (.map (some b))
 | it (k b:Nat):GamA M (.it k b) (.pointer (some ⟨b,0,none⟩))
 | fn (f:Fn) (first caps:List AV) (fv cv:List Value) (hl:first.length=fv.length) (h:∀(i:Nat) c v,first[i]? = some c→fv[i]? = some v→GamA M c v)
   (hl2:caps.length=cv.length) (h2:∀(i:Nat) c v,caps[i]? = some c→cv[i]? = some v→GamA M c v):GamA M (.fn f first caps) (.func f ⟨fv⟩ ⟨cv⟩)
 | agg (cs:List AV) (vs:List Value) (hl:cs.length=vs.length) (h:∀(i:Nat) c v,cs[i]? = some c→vs[i]? = some v→GamA M c v)
   (h1:∀v∈vs,v.oneCell'=true):GamA M (.agg cs) (.agg ⟨vs⟩)
 | tup (cs:List AV) (vs:List Value) (hl:cs.length=vs.length) (h:∀(i:Nat) c v,cs[i]? = some c→vs[i]? = some v→GamA M c v):GamA M (.tup cs) (.tuple ⟨vs⟩)
 | un:GamA M .un undef
 | top (v:Value):GamA M .top v
theorem GamA.mono{M M':GM}(hM:M.le M'){a:AV}{v:Value}(h:GamA M a v):GamA M' a v:=by
 induction h with
 | d x v h=>exact .d x v (h.mono hM)
 | b l=>exact .b l
 | i k n=>exact .i k n
 | cl sz xs a n h=>exact .cl sz xs a n (h.mono hM)
 | nils sz=>exact .nils sz
 | nn sz xs a n c h=>exact .nn sz xs a n c (h.mono hM)
 | ptr k b o=>exact .ptr k b o
 | sl k a n c=>exact .sl k a n c
 | rw k i a n c=>exact .rw k i a n c
 | vw k a n c sz lo hi=>exact .vw k a n c sz lo hi
 | el k b len cap sz i o=>exact .el k b len cap sz i o
 | mp k b=>exact .mp k b
 | it k b=>exact .it k b
 | fn f first caps fv cv hl _ hl2 _ ih ih2=>exact .fn f first caps fv cv hl ih hl2 ih2
 | agg cs vs hl _ h1 ih=>exact .agg cs vs hl ih h1
 | tup cs vs hl _ ih=>exact .tup cs vs hl ih
 | un=>exact .un
 | top v=>exact .top v
def All2 {α β:Type}(R:α→β→Prop)(xs:List α)(ys:List β):Prop:=xs.length=ys.length∧∀(i:Nat) x y,xs[i]? = some x→ys[i]? = some y→R x y
theorem All2.nil{α β:Type}{R:α→β→Prop}:All2 R [] []:=⟨rfl,fun _ _ _ h=>by simp at h⟩
theorem All2.cons{α β:Type}{R:α→β→Prop}{x:α}{y:β}{xs:List α}{ys:List β}(h:R x y)(t:All2 R xs ys):All2 R (x::xs) (y::ys):=by
 refine⟨by simp[t.1],fun i a b ha hb=>?_⟩
 cases i with
 | zero=>simp at ha hb;subst ha hb;exact h
 | succ i=>simp at ha hb;exact t.2 i a b ha hb
theorem All2.inv{α β:Type}{R:α→β→Prop}{x:α}{xs:List α}{ys:List β}(h:All2 R (x::xs) ys):∃y ys',ys=y::ys'∧R x y∧All2 R xs ys':=by
 cases ys with
 | nil=>simp[All2]at h
 | cons y ys'=>exact⟨y,ys',rfl,h.2 0 x y rfl rfl,by simpa [All2]using h.1,fun i a b ha hb=>h.2 (i+1) a b (by simpa using ha) (by simpa using hb)⟩
theorem All2.inv_nil{α β:Type}{R:α→β→Prop}{ys:List β}(h:All2 R ([]:List α) ys):ys=[]:=by
 cases ys with
 | nil=>rfl
 | cons y ys=>simp[All2]at h
theorem All2.mono{α β:Type}{R R':α→β→Prop}{xs:List α}{ys:List β}(h:All2 R xs ys)(hr:∀x y,R x y→R' x y):All2 R' xs ys :=
 ⟨h.1,fun i x y a b=>hr _ _ (h.2 i x y a b)⟩
theorem All2.set{α β:Type}{R:α→β→Prop}{xs:List α}{ys:List β}(h:All2 R xs ys)(i:Nat){x:α}{y:β}(hr:R x y):All2 R (xs.set i x) (ys.set i y):=by
 refine⟨by simp[h.1],fun j a b ha hb=>?_⟩
 rw[List.getElem?_set]at ha hb
 by_cases e:i=j
 ·subst e
  simp only[if_true]at ha hb
  split at ha<;>split at hb<;>simp at ha hb
  subst ha hb;exact hr
 ·simp only[if_neg e]at ha hb
  exact h.2 j a b ha hb
theorem All2.append{α β:Type}{R:α→β→Prop}{xs xs':List α}{ys ys':List β}(h:All2 R xs ys)(k:All2 R xs' ys'):All2 R (xs++xs') (ys++ys'):=by
 refine⟨by simp[h.1,k.1],fun i a b ha hb=>?_⟩
 rw[List.getElem?_append]at ha hb
 rw[h.1]at ha
 split at ha
 ·rename_i hlt;rw[if_pos hlt]at hb;exact h.2 i a b ha hb
 ·rename_i hlt;rw[if_neg hlt]at hb;exact k.2 _ a b ha hb
theorem All2.take{α β:Type}{R:α→β→Prop}{xs:List α}{ys:List β}(h:All2 R xs ys)(n:Nat):All2 R (xs.take n) (ys.take n):=by
 refine⟨by simp[h.1],fun i a b ha hb=>?_⟩
 rw[List.getElem?_take]at ha hb
 split at ha
 ·rename_i hlt;rw[if_pos hlt]at hb;exact h.2 i a b ha hb
 ·simp at ha
theorem All2.drop{α β:Type}{R:α→β→Prop}{xs:List α}{ys:List β}(h:All2 R xs ys)(n:Nat):All2 R (xs.drop n) (ys.drop n):=by
 refine⟨by simp[h.1],fun i a b ha hb=>?_⟩
 rw[List.getElem?_drop]at ha hb
 exact h.2 _ a b ha hb
theorem All2.get{α β:Type}{R:α→β→Prop}{xs:List α}{ys:List β}(h:All2 R xs ys){i:Nat}{x:α}(hx:xs[i]? = some x):∃y,ys[i]? = some y∧R x y:=by
 have hi:i<xs.length:=(List.getElem?_eq_some_iff.1 hx).1
 have hi':i<ys.length:=h.1▸hi
 exact⟨ys[i],by simp[hi'],h.2 i x _ hx (by simp[hi'])⟩
theorem All2.map{α β γ:Type}{R:α→β→Prop}{R':γ→β→Prop}(f:α→γ){xs:List α}{ys:List β}(h:All2 R xs ys)(hr:∀x y,R x y→R' (f x) y):All2 R' (xs.map f) ys:=by
 refine⟨by simp[h.1],fun i a b ha hb=>?_⟩
 simp only[List.getElem?_map,Option.map_eq_some_iff]at ha
 obtain⟨x,hx,rfl⟩:=ha
 exact hr _ _ (h.2 i x b hx hb)
theorem eh{α β:Type}{R:α→β→Prop}:∀{us:List α} {vs:List β},All2 R us vs→∀(xs:List α) (ys:List β) (i:Nat),All2 R xs ys→All2 R (setMany xs i us) (setMany ys i vs)
 | [],vs,h,xs,ys,i,hx=>by rw[h.inv_nil];exact hx
 | u::us,vs,h,xs,ys,i,hx=>by
  obtain⟨v,vs',rfl,hr,ht⟩:=h.inv
  rw[bz,bz]
  exact eh ht _ _ _ (hx.set i hr)
theorem bO{α:Type}:∀(vs:List α) (xs:List α) (i:Nat),(setMany xs i vs).length=xs.length
 | [],_,_=>rfl
 | v::vs,xs,i=>by rw[bz,bO vs];simp
theorem dV:∀(vs:List Value) (xs:List Value) (i:Nat),i+vs.length≤xs.length→setMany xs i vs=xs.take i++vs++xs.drop (i+vs.length)
 | [],xs,i,_=>by simp[gS]
 | v::vs,xs,i,h=>by
  rw[bz,dV vs _ (i+1) (by simp at h ⊢;omega)]
  exact list_seg_step xs i v vs (by simp at h;omega)
def bu:Ob→Nat→Prop
 | .cells b _=>fun q=>b=q
 | .arr h _ _ _ _=>fun q=>h.ownBlock=some q
 | .map b _=>fun q=>b=q
 | .mit b _ _ _ _ _=>fun q=>b=q
 | .loop b _ _=>fun q=>b=q
 | .bld b _ _ h _=>fun q=>b=q∨h.ownBlock=some q
 | .raw b _=>fun q=>b=q
 | .rows h _ _ _ hs hole xs=>fun q=>h.ownBlock=some q∨∃j,j<xs.length∧hole≠some j∧(hs j).ownBlock=some q
structure Free(M:GM)(b:Nat):Prop where
 c:∀o,M.c b o=none
 m:M.m b=none
def Nz (r:Go.Loop)(j:Option Code):Go.Loop:={r with state:=(match j with | none=>.ready | some _=>.done),pending:=j}
def jh (M:GM)(w:World)(h:Value)(e sz:Nat)(fz:Bool)(xs:List D):Prop:=∃vals,w.ownsRow 0 e sz h xs.length vals∧All2 (Gam M) (xs.flatMap cellsOf) vals∧(∀v∈vals,v.oneCell'=true) ∧
   (∀x∈xs,(cellsOf x).length=sz)∧(∀b,h.ownBlock=some b→M.m b=none∧∀o,fz=false∨xs.length*sz≤o→M.c b o=none)
def xc (M:GM)(w:World)(b mb:Nat)(es rem:List (D×D))(last:Option (D×D)):Prop :=
 ∃(seen:Array Nat) (I:List Nat),w.heap[b]? = some (.mapIter (some mb) es.length seen es.length)∧I.Nodup∧(∀i,i∈I↔i<es.length∧seen.contains i=false)∧rem=I.map (fun i=>es.getD i default) ∧
  (∀e,last=some e→∃i,seen.back? = some i∧es[i]? = some e)∧Free M b
def gW (M:GM)(w:World):Ob→Prop
 | .mit b _ mb es rem last=>xc M w b mb es rem last
 | .cells b cs=>∃vals elem,w.heap[b]? = some (.cells ⟨vals⟩ elem (0,0))∧All2 (GamA M) cs vals∧(∀v∈vals,v.oneCell'=true)∧Free M b
 | .arr h e sz fz xs=>jh M w h e sz fz xs
 | .rows h e re rsz hs hole xs=>w.ownsRow 0 e 1 h xs.length ((List.range xs.length).map hs)∧(∀b,h.ownBlock=some b→Free M b)∧(∀j,j<xs.length→∃a n c,hs j=.slice a n c) ∧
   (∀j x,xs[j]? = some x→hole≠some j→jh M w (hs j) re rsz false x) ∧
   (∀j,j<xs.length→hole≠some j→∀b,(hs j).ownBlock=some b→h.ownBlock≠some b) ∧
   (∀i j,i<xs.length→j<xs.length→hole≠some i→hole≠some j→∀b,(hs i).ownBlock=some b→(hs j).ownBlock=some b→i=j)
 | .map b es=>∃(arr:List MapEntry) (clock:Nat),w.heap[b]? = some (.map ⟨arr⟩ clock)∧es.length=arr.length∧(∀(i:Nat) (e:D×D) (v:MapEntry),es[i]? = some e→arr[i]? = some v→Gam M e.1 v.key∧Gam M e.2 v.val∧v.born=i) ∧
   clock=arr.length∧Free M b
 | .loop b r j=>w.heap[b]? = some (.loop (Nz r j))∧Free M b
 | .bld b t e h bs=>∃p,(p=.pointer none∨p=.pointer (some ⟨b,0,none⟩))∧w.heap[b]? = some (.cells #[p,h] t (0,0))∧w.ownsRow 0 e 1 h bs.length (bs.map fun c=>Value.int .u8 c.toNat)∧h.ownBlock≠some b∧Free M b∧∀g,h.ownBlock=some g→Free M g
 | .raw b o=>w.heap[b]? = some o∧Free M b
structure Frm(S:Nat→Prop)(M0:GM)(w0:World)(M:GM)(w:World):Prop where
 os:w.os=w0.os
 tape:w.tape=w0.tape
 output:w.output=w0.output
 size:w0.heap.size≤w.heap.size
 keep:∀b,b<w0.heap.size→¬S b→w.heap[b]? = w0.heap[b]?
 mle:M0.le M
 mc:∀b,b<w0.heap.size→¬S b→∀o,M.c b o=M0.c b o
 mm:∀b,b<w0.heap.size→¬S b→M.m b=M0.m b
theorem Frm.refl(S:Nat→Prop)(M:GM)(w:World):Frm S M w M w:=⟨rfl,rfl,rfl,Nat.le_refl _,fun _ _ _=>rfl,GM.le_refl M,fun _ _ _ _=>rfl,fun _ _ _=>rfl⟩
theorem Frm.trans{S S':Nat→Prop}{M0 M1 M2:GM}{w0 w1 w2:World}(h:Frm S M0 w0 M1 w1)(k:Frm S' M1 w1 M2 w2)(hs:∀b,b<w0.heap.size→S' b→S b):Frm S M0 w0 M2 w2 :=
 ⟨k.os.trans h.os,k.tape.trans h.tape,k.output.trans h.output,Nat.le_trans h.size k.size,
  fun b hb hn=>(k.keep b (xj hb h.size) (fun e=>hn (hs b hb e))).trans (h.keep b hb hn),GM.le_trans h.mle k.mle,
  fun b hb hn o=>(k.mc b (xj hb h.size) (fun e=>hn (hs b hb e)) o).trans (h.mc b hb hn o),
  fun b hb hn=>(k.mm b (xj hb h.size) (fun e=>hn (hs b hb e))).trans (h.mm b hb hn)⟩
structure Obs(M:GM)(w:World)(ob:List (Nat×Ob)):Prop where
 ok:∀k o,look ob k=some o→gW M w o
 dj:∀k k' o o' b,look ob k=some o→look ob k'=some o'→bu o b→bu o' b→k=k'
def du (ob:List (Nat×Ob))(b:Nat):Prop:=∃k o,look ob k=some o∧bu o b
structure Rel(M:GM)(s:St)(a:Act)(w:World):Prop where
 df:a.defers=[]
 sz:a.tmps.size=s.n
 tm:∀t,GamA M (s.get t) (a.tmps.getD t undef)
 ob:Obs M w s.ob
 rs:Resp M w
structure Stp(ob:List (Nat×Ob))(M:GM)(w:World)(ob':List (Nat×Ob))(M':GM)(w':World):Prop where
 fr:Frm (du ob) M w M' w'
 ow:∀b,du ob' b→du ob b∨w.heap.size≤b
theorem Stp.refl(ob:List (Nat×Ob))(M:GM)(w:World):Stp ob M w ob M w:=⟨.refl _ _ _,fun _ h=>.inl h⟩
theorem Stp.trans{ob ob1 ob2:List (Nat×Ob)}{M M1 M2:GM}{w w1 w2:World}(h:Stp ob M w ob1 M1 w1)(k:Stp ob1 M1 w1 ob2 M2 w2):Stp ob M w ob2 M2 w2:=by
 refine⟨h.fr.trans k.fr fun b hb ho=>(h.ow b ho).resolve_right (by omega),fun b hb=>?_⟩
 rcases k.ow b hb with e | e
 ·exact h.ow b e
 ·exact .inr (Nat.le_trans h.fr.size e)
def cI (P:Program)(f:FuncId):Prop:=∀(args:Array Value) (w:World),(callFunc f args).run P w=.ok (.enter f args) w
structure ACalls(P:Program)(f:FuncId)(args:List AV)(os:List (Nat×Ob))(Q:AE→List (Nat×Ob)→Prop):Prop where
 ok:cI P f
 run:∀(M:GM) (w:World) (vs:List Value),Resp M w→All2 (GamA M) args vs→Obs M w os →
  Calls P f ⟨vs⟩ w fun e w'=>∃os' M',Obs M' w' os'∧Resp M' w'∧Stp os M w os' M' w' ∧
   ((∃r v,e=.returned v∧Q (.ret r) os'∧GamA M' r v)∨(∃d v,e=.panicked [{v,recovered:=false}]∧Q (.pan d) os'∧Gam M' d v))
theorem ACalls.mono{P:Program}{f:FuncId}{args:List AV}{os:List (Nat×Ob)}{Q Q':AE→List (Nat×Ob)→Prop}(h:ACalls P f args os Q)(hq:∀e os',Q e os'→Q' e os'):ACalls P f args os Q':=by
 refine⟨h.ok,fun M w vs h1 h2 h3=>(h.run M w vs h1 h2 h3).mono ?_⟩
 rintro e w' ⟨os',M',a,b,c,g⟩
 refine⟨os',M',a,b,c,?_⟩
 rcases g with⟨r,v,rfl,hq',hg⟩ | ⟨x,v,rfl,hq',hg⟩
 ·exact .inl ⟨r,v,rfl,hq _ _ hq',hg⟩
 ·exact .inr ⟨x,v,rfl,hq _ _ hq',hg⟩
def kh (P:Program)(fl:TypeId→Option (List SK)):List Field→Nat→Option (List SK)
 | [],_=>some []
 | f::fs,off=>if f.name ≠ "_" ∧ f.offset=off then(match fl f.type with
   | some ks=>(match kh P fl fs (off+ks.length)with | some r=>some (ks++r) | none=>none)
   | none=>none)else none
def flatK(P:Program):Nat→TypeId→Option (List SK)
 | 0,_=>none
 | f+1,t=>match P.underlying t with
  | some (.int k)=>some [.int k]
  | some .bool=>some [.bool]
  | some .string=>some [.str]
  | some (.struct fs)=>if P.stoodInHeld t=false then(match kh P (flatK P f) fs.toList 0 with
    | some ks=>if ks.length=P.cellsOf t then some ks else none
    | none=>none)else none
  | some (.array n e)=>match flatK P f e with
    | some ks=>if ks.length=P.cellsOf e∧n*ks.length=P.cellsOf t then some (List.replicate n ks).flatten else none
    | none=>none
  | _=>none
/-! The tables of types. -/
def iD:D→Value→Bool
 | .int k n,.int k' n'=>decide (k=k')&&decide (n=n')
 | .bool b,.bool b'=>b == b'
 | .str [],.string s=>s.size == 0
 | .list _ [],.slice none 0 0=>true
 | .nilptr,.pointer none=>true
 | .nilfn,.nilFunc=>true
 | .nilifc,.nilIface=>true
 | .nilmp,.map none=>true
 | _,_=>false
theorem m0{d:D}{v:Value}(h:iD d v=true)(M:GM):Gam M d v∧v.oneCell'=true:=by
 unfold iD at h
 split at h
 ·simp at h;obtain⟨rfl,rfl⟩:=h;exact⟨.int _ _,rfl⟩
 ·simp at h;subst h;exact⟨.bool _,rfl⟩
 ·rename_i s
  simp only[beq_iff_eq]at h
  refine⟨.str _ _ ?_,rfl⟩
  apply List.eq_nil_of_length_eq_zero
  (show s.data.toList.length=0;rw[Array.length_toList];exact h)
 ·exact⟨.nils _,rfl⟩
 ·exact⟨.nilptr,rfl⟩
 ·exact⟨.nilfn,rfl⟩
 ·exact⟨.nilifc,rfl⟩
 ·exact⟨.nilmp,rfl⟩
 ·cases h
def bF:List D→List Value→Bool
 | [],[]=>true
 | d::ds,v::vs=>iD d v&&bF ds vs
 | _,_=>false
theorem cF:∀{ds:List D} {vs:List Value},bF ds vs=true→∀M:GM,All2 (Gam M) ds vs∧∀v∈vs,v.oneCell'=true
 | [],[],_,M=>⟨.nil,by simp⟩
 | d::ds,v::vs,h,M=>by
  simp only[bF,wH]at h
  have h0:=m0 h.1 M
  have h1:=cF h.2 M
  refine⟨.cons h0.1 h1.1,fun x hx=>?_⟩
  rcases List.mem_cons.1 hx with rfl | hx
  ·exact h0.2
  ·exact h1.2 x hx
 | [],_::_,h,_=>by simp[bF]at h
 | _::_,[],h,_=>by simp[bF]at h
def fR (P:Program)(i:TI):TypeDesc→Bool
 | .bool=>match i.k with | .bool=>true | _=>false
 | .int k=>match i.k with | .int k'=>decide (k=k') | _=>false
 | .string=>match i.k with | .string=>true | _=>false
 | .pointer e=>match i.k with | .ptr e'=>e == e' | _=>false
 | .slice e=>match i.k with | .slice e'=>e == e'&&P.cellsOf e == i.esz&&decide (0<i.esz) | _=>false
 | .array n e=>match i.k with | .array n' e'=>n == n'&&e == e'&&P.cellsOf e == i.esz&&decide (0<i.esz)&&i.size == n*i.esz | _=>false
 | .map k e=>match i.k with | .map k' e'=>k == k'&&e == e' | _=>false
 | .struct fs=>match i.k with | .struct l=>decide (fs.toList.map (fun f=>(f.offset,P.cellsOf f.type))=l)&&l.all (fun p=>decide (0<p.2)&&decide (p.1+p.2≤i.size))&&decide (fs.toList.map (fun f=>f.type)=i.ft) | _=>false
 | .func _ _ _=>match i.k with | .func=>true | _=>false
 | .interface _=>match i.k with | .iface=>true | _=>false
 | .tuple _=>match i.k with | .tuple=>true | _=>false
 | _=>false
def aX (P:Program)(t:TypeId)(i:TI):Bool :=
 match P.info? t,P.underlying t with
 | some inf,some d=>(i.ek.isEmpty||decide (flatK P 50 t=some i.ek)&&!P.eqGuardType P.depth t)&&inf.size == i.size&&inf.bytes == i.bytes&&fR P i d &&
   (match inf.zero with
    | some (.agg z)=>i.k.isAgg&&bF i.zero z.toList&&z.size == i.size
    | some v=>!i.k.isAgg&&bF i.zero [v]&&i.size == 1
    | none=>false)
 | _,_=>false
def cn (P:Program)(tt:TT):Bool:=tt.all fun p=>aX P p.1 p.2
theorem bC{α:Type}:∀{l:List (Nat×α)} {k:Nat} {v:α},look l k=some v→(k,v)∈l
 | [],_,_,h=>by simp[look_nil]at h
 | (j,x)::r,k,v,h=>by
  simp only[aT]at h
  split at h
  ·rename_i e
   have:=Nat.eq_of_beq_eq_true e
   simp at h;subst this h;simp
  ·exact List.mem_cons_of_mem _ (bC h)
theorem vQ{P:Program}{tt:TT}(h:cn P tt=true){t:Nat}{i:TI}(hl:look tt t=some i):aX P t i=true:=by
 have:=List.all_eq_true.1 h (t,i) (bC hl)
 exact this
theorem aB{P:Program}{t:TypeId}{i:TI}(h:aX P t i=true):∃inf d,P.info? t=some inf∧P.underlying t=some d∧inf.size=i.size∧inf.bytes=i.bytes∧fR P i d=true ∧
  ∃z,inf.zero=some z∧bF i.zero z.cells.toList=true∧z.cells.size=i.size∧(match z with | .agg _=>true | _=>false)=i.k.isAgg:=by
 unfold aX at h
 cases hi:P.info? t with
 | none=>simp[hi]at h
 | some inf =>
  cases hd:P.underlying t with
  | none=>simp[hi,hd]at h
  | some d =>
   simp only[hi,hd,wH,beq_iff_eq]at h
   obtain⟨⟨⟨⟨_,h1⟩,h2⟩,h3⟩,h4⟩:=h
   refine⟨inf,d,rfl,rfl,h1,h2,h3,?_⟩
   cases hz:inf.zero with
   | none=>simp[hz]at h4
   | some z =>
    refine⟨z,rfl,?_⟩
    rw[hz]at h4
    cases z with
    | agg cs =>
     simp only[wH,beq_iff_eq]at h4
     exact⟨h4.1.2,h4.2,h4.1.1.symm⟩
    | _ =>
     simp only[wH,beq_iff_eq,zZ]at h4
     exact⟨h4.1.2,by simp[Value.cells,h4.2],h4.1.1.symm⟩
theorem vR{P:Program}{t:TypeId}{i:TI}(h:aX P t i=true)(hk:i.ek≠[]):flatK P 50 t=some i.ek∧P.eqGuardType P.depth t=false:=by
 unfold aX at h
 split at h
 ·simp only[wH,Bool.or_eq_true,List.isEmpty_iff,hk,false_or,decide_eq_true_eq,zZ]at h
  exact h.1.1.1.1
 ·cases h
end Go.Abs
