/-
 Words of the typed functions: wrapped sums, elements, slices, appends, loops with fuel. No program in sight.
-/
import GoSem.Core.View
import Derived.Lib.AtoiAll
set_option linter.all false
open List renaming length_map→Ia,replicate→Iu
namespace Go.Kp
def w64 (n:Int):Int:=Go.IntKind.wrap .i64 n
structure Ar1(α:Type) where
 a0:α
 deriving DecidableEq
structure Ar2(α:Type) where
 a0:α
 a1:α
 deriving DecidableEq
structure Ar3(α:Type) where
 a0:α
 a1:α
 a2:α
 deriving DecidableEq
structure Ar4(α:Type) where
 a0:α
 a1:α
 a2:α
 a3:α
 deriving DecidableEq
structure Ar5(α:Type) where
 a0:α
 a1:α
 a2:α
 a3:α
 a4:α
 deriving DecidableEq
structure Ar6(α:Type) where
 a0:α
 a1:α
 a2:α
 a3:α
 a4:α
 a5:α
 deriving DecidableEq
structure Ar16(α:Type) where
 a0:α
 a1:α
 a2:α
 a3:α
 a4:α
 a5:α
 a6:α
 a7:α
 a8:α
 a9:α
 a10:α
 a11:α
 a12:α
 a13:α
 a14:α
 a15:α
 deriving DecidableEq
def idx {α:Type}(l:List α)(i:Int):Option α:=if 0≤i then l[i.toNat]? else none
def slc {α:Type}(l:List α)(a b:Int):Option (List α):=if 0≤a∧a≤b∧b≤l.length then some ((l.take b.toNat).drop a.toNat)else none
def app {α:Type}(N:Nat)(l m:List α):Option (List α):=if l.length+m.length≤N then some (l++m)else none
def mkl {α:Type}(N:Nat)(n:Int)(z:α):Option (List α):=if 0≤n∧n≤N then some (Iu n.toNat z)else none
def cat (N:Nat)(a b:List UInt8):Option Unit:=if a.length+b.length≤N then some ()else none
theorem eO{N:Nat}(hN:N≤1073741824){a b:List UInt8}{u:Unit}(h:cat N a b=some u):a.length+b.length≤9223372036854775807:=by
 unfold cat at h;split at h
 ·omega
 ·cases h
def bytesI(s:List UInt8):List Int:=s.map fun c=>(c.toNat:Int)
def mC (l:List Int):List UInt8:=l.map fun n=>UInt8.ofNat n.toNat
def Ib (s:List UInt8)(a b:Int):Option Unit:=if 0≤a∧a≤b∧b≤s.length then some ()else none
def IY (s:List UInt8)(a b:Int):List UInt8:=(s.take b.toNat).drop a.toNat
theorem Hk{s:List UInt8}{a b:Int}{u:Unit}(h:Ib s a b=some u):0≤a∧a≤b∧b≤(s.length:Int):=by
 unfold Ib at h;split at h
 ·assumption
 ·cases h
def uf:Nat→Nat→List UInt8
 | 0,_=>[]
 | f+1,u=>if u<10 then [UInt8.ofNat (48+u)] else uf f (u / 10)++[UInt8.ofNat (48+u % 10)]
def w7 (n:Int):List UInt8:=if n<0 then 45::uf 20 n.natAbs else uf 20 n.toNat
def nU (_:Nat)(n:Int):Option (List UInt8):=if -9223372036854775808≤n∧n≤9223372036854775807 then some (w7 n)else none
def se (c:UInt8):List UInt8→List (List UInt8)
 | []=>[[]]
 | b::l=>if b=c then []::se c l else match se c l with
  | []=>[[b]]
  | x::r=>(b::x)::r
def wA (N:Nat)(s sep:List UInt8):Option (List (List UInt8)):=match sep with
 | [c]=>if s.length≤N then some (se c s)else none
 | _=>none
def nV (N:Nat)(s:List UInt8):Option (Int⊕Int):=if s.length≤N then(match Go.Lib.atoiAll s with
 | .ok v=>some (.inl v)
 | .range=>some (.inr (Go.Lib.atoiSat s))
 | _=>some (.inr 0))else none
def vE (sep:List UInt8):List (List UInt8)→List UInt8
 | []=>[]
 | x::r=>x++(r.map (sep++·)).flatten
def pg (N:Nat)(xs:List (List UInt8))(sep:List UInt8):Option (List UInt8):=if xs.length≤N∧(vE sep xs).length≤N then some (vE sep xs)else none
def wrS (N:Nat)(s bs:List UInt8):Option (Int×List UInt8):=if bs.length+s.length≤N then some ((s.length:Int),bs++s)else none
def w8 (_:Nat)(bs:List UInt8):Option (List UInt8):=some bs
def BJ (N:Nat)(i:Int)(l m:List Int):Option (List Int):=if 0≤i∧i≤l.length∧m≠[]∧l.length+m.length≤N then some (l.take i.toNat++m++l.drop i.toNat)else none
theorem idx_byte{s:List UInt8}{i:Int}{c:UInt8}(h:idx s i=some c):s[i.toNat]? = some c:=by unfold idx at h;split at h<;>simp_all
theorem take3_map{α β:Type}(f:α→β){l:List α}{a b c:α}(h0:idx l 0=some a)(h1:idx l 1=some b)(h2:idx l 2=some c):(l.map f).take 3=[f a,f b,f c]:=by
 match l,h0,h1,h2 with
 | x::y::z::r,h0,h1,h2=>simp[idx]at h0 h1 h2;simp[h0,h1,h2]
def Pv (_:Nat)(s p:List UInt8):Option (List UInt8):=some (if p.isPrefixOf s then s.drop p.length else s)
def nz (n:Int):Option Unit:=if n=0 then none else some ()
def nng (n:Int):Option Unit:=if 0≤n then some ()else none
theorem nng_ok{n:Int}{u:Unit}(h:nng n=some u):0≤n:=by unfold nng at h;split at h<;>simp_all
def Bs (k:Go.IntKind)(a b:Int):Int:=a.fdiv (2 ^ (min b.toNat k.bits))
def WP (R:Type):Type:=(R→Prop)→Prop
def ug {R:Type}(r:R):WP R:=fun Q=>Q r
def wI {R:Type}:WP R:=fun _=>False
def dO {α R:Type}(x:Option α)(k:α→WP R):WP R:=fun Q=>∃a,x=some a∧k a Q
def bindW{α R:Type}(x:WP α)(k:α→WP R):WP R:=fun Q=>x fun a=>k a Q
def mq {α R:Type}(rem:List α)(a:WP R)(b:α→List α→WP R):WP R:=fun Q=>(rem=[]→a Q)∧∀pre e post,rem=pre++e::post→b e (pre++post) Q
def aG {σ R:Type}(b:(σ→WP R)→σ→WP R):Nat→σ→WP R
 | 0,_=>wI
 | n+1,x=>b (aG b n) x
theorem gO{σ R:Type}{b:(σ→WP R)→σ→WP R}{n:Nat}{x:σ}{Q:R→Prop}(h:aG b n x Q):∃m,n=m+1∧b (aG b m) x Q:=by
 cases n with
 | zero=>cases h
 | succ m=>exact⟨m,rfl,h⟩
theorem dF{R:Type}{c:Bool}{a b:WP R}{Q:R→Prop}(hc:c=true)(h:(if c then a else b) Q):a Q:=by rw[if_pos hc]at h;exact h
theorem dG{R:Type}{c:Bool}{a b:WP R}{Q:R→Prop}(hc:c=false)(h:(if c then a else b) Q):b Q:=by rw[if_neg (by rw[hc];exact Bool.false_ne_true)]at h;exact h
theorem bw{α R:Type}{x:Option α}{k:α→WP R}{Q:R→Prop}(h:dO x k Q):∃a,x=some a∧k a Q:=h
def Pick {α:Type}(l:List α)(e:α)(r:List α):Prop:=∃pre post,l=pre++e::post∧r=pre++post
theorem pY{α R:Type}{rem:List α}{a:WP R}{b:α→List α→WP R}{Q:R→Prop}(h:mq rem a b Q)(h0:rem=[]):a Q:=h.1 h0
theorem pZ{α R:Type}{rem:List α}{a:WP R}{b:α→List α→WP R}{Q:R→Prop}(h:mq rem a b Q){e:α}{r:List α}(hp:Pick rem e r):b e r Q:=by
 obtain⟨pre,post,h1,rfl⟩:=hp
 exact h.2 pre e post h1
noncomputable def det {R:Type} (F:WP R):Option R:=open Classical in if h:∃r,F (fun x=>x=r)then some h.choose else none
theorem q9{R:Type}{F:WP R}{r:R}(h:det F=some r):F (fun x=>x=r):=by
 unfold det at h
 split at h
 ·rename_i hx;cases h;exact hx.choose_spec
 ·cases h
structure WGood{R:Type}(F:WP R):Prop where
 no:¬F fun _=>False
 and:∀P Q,F P→F Q→F fun x=>P x∧Q x
 mono:∀P Q:R→Prop,(∀x,P x→Q x)→F P→F Q
theorem vF{R:Type}{F:WP R}(hF:WGood F){r:R}(h:F (fun x=>x=r)):det F=some r:=by
 unfold det
 have hx:∃r,F (fun x=>x=r):=⟨r,h⟩
 rw[dif_pos hx]
 congr 1
 by_cases e:hx.choose=r
 ·exact e
 ·exact absurd (hF.mono _ _ (fun x hx'=>e (hx'.1.symm.trans hx'.2)) (hF.and _ _ hx.choose_spec h)) hF.no
theorem WGood.ret{R:Type}(r:R):WGood (ug r):=⟨id,fun _ _ h k=>⟨h,k⟩,fun _ _ h k=>h _ k⟩
theorem WGood.fail{R:Type}:WGood (wI:WP R):=⟨id,fun _ _ h _=>h,fun _ _ _ h=>h⟩
theorem WGood.bindO{α R:Type}{x:Option α}{k:α→WP R}(h:∀a,WGood (k a)):WGood (dO x k) :=
 ⟨fun⟨a,_,q⟩=>(h a).no q,fun P Q ⟨a,e,q⟩ ⟨a',e',q'⟩=>by rw[e]at e';cases e';exact⟨a,e,(h a).and P Q q q'⟩,fun P Q m ⟨a,e,q⟩=>⟨a,e,(h a).mono P Q m q⟩⟩
theorem WGood.ite{R:Type}{c:Bool}{a b:WP R}(ha:WGood a)(hb:WGood b):WGood (if c then a else b):=by cases c<;>simpa
theorem WGood.next{α R:Type}{rem:List α}{a:WP R}{b:α→List α→WP R}(ha:WGood a)(hb:∀e l,WGood (b e l)):WGood (mq rem a b):=by
 refine⟨fun⟨h0,h1⟩=>?_,fun P Q h k=>⟨fun e=>ha.and P Q (h.1 e) (k.1 e),fun pre e post hs=>(hb _ _).and P Q (h.2 pre e post hs) (k.2 pre e post hs)⟩,fun P Q m h=>⟨fun e=>ha.mono P Q m (h.1 e),fun pre e post hs=>(hb _ _).mono P Q m (h.2 pre e post hs)⟩⟩
 cases rem with
 | nil=>exact ha.no (h0 rfl)
 | cons e l=>exact(hb _ _).no (h1 [] e l rfl)
theorem WGood.loop{σ R:Type}{b:(σ→WP R)→σ→WP R}(h:∀rec x,(∀y,WGood (rec y))→WGood (b rec x)):∀(n:Nat) (x:σ),WGood (aG b n x)
 | 0,_=>.fail
 | n+1,x=>h _ x (WGood.loop h n)
def sortI(N:Nat)(l:List Int):Option (List Int):=if l.length≤N then some (l.mergeSort fun x y=>decide (x≤y))else none
def loopN{σ R:Type}(b:(σ→Option R)→σ→Option R):Nat→σ→Option R
 | 0,_=>none
 | n+1,x=>b (loopN b n) x
theorem loopN_some{σ R:Type}{b:(σ→Option R)→σ→Option R}{n:Nat}{x:σ}{r:R}(h:loopN b n x=some r):∃m,n=m+1∧b (loopN b m) x=some r:=by
 cases n with
 | zero=>cases h
 | succ m=>exact⟨m,rfl,h⟩
def mget {K V:Type}[DecidableEq K]:List (K×V)→K→Option V
 | [],_=>none
 | p::m,k=>if k=p.1 then some p.2 else mget m k
def mput {K V:Type}[DecidableEq K]:List (K×V)→K→V→List (K×V)
 | [],k,v=>[(k,v)]
 | p::m,k,v=>if k=p.1 then(k,v)::m else p::mput m k v
def mgt {K V:Type}[DecidableEq K](m:List (K×V))(k:K)(z:V):Option (V×Bool):=some ((mget m k).getD z,(mget m k).isSome)
theorem eP(b:Bool):b=true∨b=false:=by cases b<;>simp
theorem obind{α β:Type}{x:Option α}{f:α→Option β}{r:β}(h:Option.bind x f=some r):∃a,x=some a∧f a=some r:=Option.bind_eq_some_iff.1 h
theorem ite_t{α:Type}{c:Bool}{a b r:α}(hc:c=true)(h:(if c then a else b)=r):a=r:=by rw[if_pos hc]at h;exact h
theorem ite_f{α:Type}{c:Bool}{a b r:α}(hc:c=false)(h:(if c then a else b)=r):b=r:=by rw[if_neg (by rw[hc];exact Bool.false_ne_true)]at h;exact h
section
variable {α β:Type}(f:α→β){l m y:List α}{a b i n:Int}{x z:α}{N:Nat}
theorem idx_0(h:idx l i=some x):0≤i:=by unfold idx at h;split at h<;>simp_all
theorem idx_map(h:idx l i=some x):(l.map f)[i.toNat]? = some (f x):=by unfold idx at h;split at h<;>simp_all
theorem idx_need(h:idx l i=some x):0≤i∧i.toNat<(l.map f).length:=by
 refine⟨idx_0 h,?_⟩
 exact(List.getElem?_eq_some_iff.1 (idx_map f h)).1
theorem idx_need_set(h:idx l i=some x){j:Nat}{z:α}:0≤i∧i.toNat<((l.set j z).map f).length:=by
 have:=idx_need f h;simpa using this
theorem qc(h:idx l i=some x):i.toNat<(l.map f).length:=(idx_need f h).2
theorem idx_el(h:idx l i=some x):(l.map f)[((i.toNat:Nat):Int).toNat]? = some (f x):=by rw[Int.toNat_natCast];exact idx_map f h
theorem uh{γ:Type}(f:α→β)(g:List β→γ)(l:List (List α)):(l.map (List.map f)).map g=l.map (fun x=>g (x.map f)):=by rw[List.map_map];rfl
theorem set_map(f:α→β)(l:List α)(i:Nat)(x:α){y:β}(h:y=f x):(l.map f).set i y=(l.set i x).map f:=by rw[h,List.map_set]
theorem mW(h:slc l a b=some y):0≤a∧a≤b∧b≤l.length∧y=(l.take b.toNat).drop a.toNat:=by unfold slc at h;split at h<;>simp_all
theorem slc_need(h:slc l a b=some y){s:Nat}:0≤a∧a≤b∧b≤((l.map f).length:Int)∧s=s:=by
 have:=mW h;rw[Ia];exact⟨this.1,this.2.1,this.2.2.1,rfl⟩
theorem slc_needL(h:slc l a (l.length:Int)=some y){s:Nat}:0≤a∧a≤((l.map f).length:Int)∧((l.map f).length:Int)≤((l.map f).length:Int)∧s=s:=by
 have:=mW h;rw[Ia];exact⟨this.1,this.2.1,Int.le_refl _,rfl⟩
theorem slc_need3(h:slc l a b=some y){s:Nat}:0≤a∧a≤b∧b≤((l.map f).length:Int)∧b=b∧s=s:=by
 have:=mW h;rw[Ia];exact⟨this.1,this.2.1,this.2.2.1,rfl,rfl⟩
theorem slc_need0(h:slc l 0 b=some y):0≤b∧b≤((l.map f).length:Int):=by
 have:=mW h;rw[Ia];exact⟨this.2.1,this.2.2.1⟩
theorem slc_map(h:slc l a b=some y):((l.map f).take b.toNat).drop a.toNat=y.map f:=by
 have:=mW h;rw[this.2.2.2,← List.map_take,← List.map_drop]
theorem slc_mapL(h:slc l a (l.length:Int)=some y):((l.map f).take (((l.map f).length:Int)).toNat).drop a.toNat=y.map f:=by
 rw[Ia];exact slc_map f h
theorem ui{k:Nat}(h:slc l 0 b=some y)(hl:l.length=k):0≤b∧b≤(k:Int):=by
 have:=mW h;subst hl;exact⟨this.2.1,this.2.2.1⟩
theorem slc_map0(h:slc l 0 b=some y):(l.map f).take b.toNat=y.map f:=by
 have:=slc_map f h;simpa using this
theorem kY(h:app N l m=some y):l.length+m.length≤N∧y=l++m:=by unfold app at h;split at h<;>simp_all
theorem app_need(hN:N≤1073741824)(h:app N l m=some y){c:Nat}(hc:c≤65536){f:α→β}:((l.map f).length+(m.map f).length)*c≤140737488355328∧(l.map f).length+(m.map f).length≤9223372036854775807:=by
 have:=(kY h).1
 rw[Ia,Ia]
 have h2:(l.length+m.length)*c≤1073741824*65536:=Nat.mul_le_mul (by omega) hc
 omega
theorem app_need0(hN:N≤1073741824)(h:app N [] m=some y){c:Nat}(hc:c≤65536){f:α→β}:(m.map f).length*c≤140737488355328∧(m.map f).length≤9223372036854775807:=by
 have:=(kY h).1
 rw[Ia]
 simp only[List.length_nil,Nat.zero_add]at this
 have h2:m.length*c≤1073741824*65536:=Nat.mul_le_mul (by omega) hc
 omega
theorem vH(hN:N≤1073741824)(h:app N l m=some y){f:α→β}:(l.map f).length+(m.map f).length≤140737488355328:=by
 have:=(kY h).1
 rw[Ia,Ia];omega
theorem app_map(h:app N l m=some y):l.map f++m.map f=y.map f:=by rw[(kY h).2,List.map_append]
theorem app_map0(h:app N [] m=some y):m.map f=y.map f:=by rw[(kY h).2,List.nil_append]
theorem sV(h:mkl N n z=some y):0≤n∧n≤N∧y=Iu n.toNat z:=by unfold mkl at h;split at h<;>simp_all
theorem mkl_need(hN:N≤1073741824)(h:mkl N n z=some y){c:Nat}(hc:c≤65536):0≤n∧n≤n∧n*c≤140737488355328∧n≤9223372036854775807:=by
 have:=sV h
 refine⟨this.1,Int.le_refl _,?_,by omega⟩
 have h2:n*c≤1073741824*65536:=Int.mul_le_mul (by omega) (by omega) (by omega) (by omega)
 omega
theorem mkl_map(h:mkl N n z=some y){w:β}(hw:w=f z):Iu n.toNat w=y.map f:=by rw[(sV h).2.2,hw,List.map_replicate]
theorem nz_ne{u:Unit}(h:nz n=some u):n≠0:=by unfold nz at h;split at h<;>simp_all
end
end Go.Kp
