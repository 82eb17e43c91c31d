/-
 Loops over lists, in plain words: what the generator's loops compute. No program in sight.
-/
import Derived.Test.YtdodahpkpeodfaaGreatDoorPre
set_option linter.all false
open List renaming drop_eq_getElem_cons→zp,drop_length→Ci,map_cons→xZ,mem_cons→D8,nodup_cons→D7
open Option renaming bind→Ha,bind_some→Hj
namespace Go.Kp
theorem bE{n:Int}(h1:-9223372036854775808≤n)(h2:n≤9223372036854775807):w64 n=n:=by
 unfold w64 Go.IntKind.wrap
 simp only[Go.IntKind.bits,Go.IntKind.signed,Bool.true_and]
 split
 ·rename_i h
  simp only[ge_iff_le,decide_eq_true_eq]at h
  omega
 ·rename_i h
  simp only[ge_iff_le,decide_eq_true_eq]at h
  omega
theorem fN{i:Nat}(h:i<4611686018427387904):w64 ((i:Int)+1)=((i+1:Nat):Int):=by
 rw[bE (by omega) (by omega)];rfl
theorem ij{α:Type}{l:List α}{i:Nat}{x:α}(h:l[i]? = some x):idx l (i:Int)=some x:=by
 unfold idx;simp[h]
theorem yy{α:Type}{l:List α}{i:Int}{x:α}(h0:0≤i)(h:l[i.toNat]? = some x):idx l i=some x:=by
 unfold idx;simp[h,h0]
theorem nL{α:Type}{N:Nat}{l m:List α}(h:l.length+m.length≤N):app N l m=some (l++m):=by
 unfold app;rw[if_pos h]
theorem rX{α:Type}{l:List α}{a b:Int}(h0:0≤a)(h1:a≤b)(h2:b≤l.length):slc l a b=some ((l.take b.toNat).drop a.toNat):=by
 unfold slc;rw[if_pos ⟨h0,h1,h2⟩]
theorem lO{α A σ R:Type}{N:Nat}{B:(σ→Option R)→σ→Option R}(l:List α)(X:Nat→A→σ)(F:List α→A→Option R)(ok:Nat→A→Prop)
  (h0:∀a rec,ok l.length a→B rec (X l.length a)=F [] a)
  (h1:∀i x a rec,l[i]? = some x→ok i a→(∀a',ok (i+1) a'→rec (X (i+1) a')=F (l.drop (i+1)) a')→B rec (X i a)=F (x::l.drop (i+1)) a)
  (hN:l.length<N) (a:A) (ha:ok 0 a):loopN B N (X 0 a)=F l a:=by
 have key:∀n i a,i≤l.length→ok i a→l.length-i<n→loopN B n (X i a)=F (l.drop i) a:=by
  intro n
  induction n with
  | zero=>intro i a _ _ h;omega
  | succ n ih =>
   intro i a hi hok hn
   show B (loopN B n) (X i a)=_
   rcases Nat.lt_or_ge i l.length with h | h
   ·have hx:l[i]? = some l[i]:=by simp[h]
    rw[zp h]
    exact h1 i l[i] a _ hx hok fun a' h'=>ih (i+1) a' (by omega) h' (by omega)
   ·have:i=l.length:=by omega
    subst this
    rw[Ci]
    exact h0 a _ hok
 have:=key N 0 a (by omega) ha (by omega)
 simpa using this
theorem rY{α σ R:Type}{N:Nat}{B:(σ→Option R)→σ→Option R}(l:List α)(X:Nat→σ)(F:List α→Option R)
  (h0:∀rec,B rec (X l.length)=F [])
  (h1:∀i x rec,l[i]? = some x→rec (X (i+1))=F (l.drop (i+1))→B rec (X i)=F (x::l.drop (i+1)))
  (hN:l.length<N):loopN B N (X 0)=F l :=
 lO l (fun i (_:Unit)=>X i) (fun r _=>F r) (fun _ _=>True) (fun _ rec _=>h0 rec) (fun i x _ rec hx _ h=>h1 i x rec hx (h () trivial)) hN () trivial
theorem o6{α σ R:Type}{N:Nat}{B:(σ→Option R)→σ→Option R}(l:List α)(X:Nat→σ)(F:Nat→List α→Option R)
  (h0:∀rec,B rec (X l.length)=F l.length [])
  (h1:∀i x rec,l[i]? = some x→rec (X (i+1))=F (i+1) (l.drop (i+1))→B rec (X i)=F i (x::l.drop (i+1)))
  (hN:l.length<N) (k:Nat) (hk:k≤l.length):loopN B N (X k)=F k (l.drop k):=by
 have key:∀n i,i≤l.length→l.length-i<n→loopN B n (X i)=F i (l.drop i):=by
  intro n
  induction n with
  | zero=>intro i _ h;omega
  | succ n ih =>
   intro i hi hn
   show B (loopN B n) (X i)=_
   rcases Nat.lt_or_ge i l.length with h | h
   ·have hx:l[i]? = some l[i]:=by simp[h]
    rw[zp h]
    exact h1 i l[i] _ hx (ih (i+1) (by omega) (by omega))
   ·have:i=l.length:=by omega
    subst this
    rw[Ci]
    exact h0 _
 exact key N k hk (by omega)
theorem lP{α:Type}{l:List α}{i:Nat}{x:α}(h:l[i]? = some x):i<l.length:=(List.getElem?_eq_some_iff.1 h).1
theorem nM{α:Type}{N:Nat}(s:List α)(p:α→Option Bool)(q:α→Bool)(hp:∀x∈s,p x=some (q x))(hN:s.length<N)(hs:s.length<4611686018427387904) :
  (Ha (loopN (fun(rec:Int×Int→Option Int) (x:Int×Int)=>if decide (x.2<x.1)then Ha (idx s x.2) fun y=>Ha (p y) fun r=>if r then some x.2 else rec (x.1,w64 (x.2+1))else some (-1)) N ((s.length:Int),0))
   fun r=>some (decide (0≤r)))=some (s.any q):=by
 have key:=o6 (R:=Bool) (N:=N) (B:=fun rec x=>Ha ((fun(rec:Int×Int→Option Int) (x:Int×Int)=>if decide (x.2<x.1)then Ha (idx s x.2) fun y=>Ha (p y) fun r=>if r then some x.2 else rec (x.1,w64 (x.2+1))else some (-1)) (fun y=>Option.map (fun b=>if b then(0:Int)else -1) (rec y)) x) fun r=>some (decide (0≤r)))
  s (fun i=>((s.length:Int),(i:Int))) (fun _ r=>some (r.any q))
  (fun rec=>by simp)
  (fun i x rec hx h=>by
   have hlt:=lP hx
   have hm:x∈s:=List.mem_of_getElem? hx
   simp only[show((i:Int)<(s.length:Int))from by omega,decide_true,if_true,ij hx,Hj,hp x hm,fN (i:=i) (by omega),h]
   cases hq:q x with
   | true=>simp[hq]
   | false =>
    rw[List.any_cons,hq,Bool.false_or]
    cases hr:(s.drop (i+1)).any q<;>simp[hq]) hN 0 (by omega)
 have e:∀(n:Nat) (x:Int×Int),(Ha (loopN (fun(rec:Int×Int→Option Int) (x:Int×Int)=>if decide (x.2<x.1)then Ha (idx s x.2) fun y=>Ha (p y) fun r=>if r then some x.2 else rec (x.1,w64 (x.2+1))else some (-1)) n x) fun r=>some (decide (0≤r))) =
   loopN (fun rec x=>Ha ((fun(rec:Int×Int→Option Int) (x:Int×Int)=>if decide (x.2<x.1)then Ha (idx s x.2) fun y=>Ha (p y) fun r=>if r then some x.2 else rec (x.1,w64 (x.2+1))else some (-1)) (fun y=>Option.map (fun b=>if b then(0:Int)else -1) (rec y)) x) fun r=>some (decide (0≤r))) n x:=by
  intro n
  induction n with
  | zero=>intro x;rfl
  | succ n ih =>
   intro x
   show Ha (if decide (x.2<x.1)then _ else _) _=Ha (if decide (x.2<x.1)then _ else _) _
   cases decide (x.2<x.1)with
   | false=>rfl
   | true =>
    simp only[if_true]
    cases idx s x.2 with
    | none=>rfl
    | some y =>
     simp only[Hj]
     cases p y with
     | none=>rfl
     | some b =>
      cases b with
      | true=>rfl
      | false =>
       simp only[Hj,Bool.false_eq_true,if_false]
       rw[ih]
       cases loopN _ n (x.1,w64 (x.2+1))with
       | none=>rfl
       | some b=>cases b<;>rfl
 rw[e]
 simpa using key
theorem tZ{α:Type}{N:Nat}(s:List α)(p:α→Option Bool)(q:α→Bool)(hp:∀x∈s,p x=some (!q x))(hN:s.length<N)(hs:s.length<4611686018427387904) :
  (Ha (Ha (loopN (fun(rec:Int×Int→Option Int) (x:Int×Int)=>if decide (x.2<x.1)then Ha (idx s x.2) fun y=>Ha (p y) fun r=>if r then some x.2 else rec (x.1,w64 (x.2+1))else some (-1)) N ((s.length:Int),0))
   fun r=>some (decide (0≤r))) fun r=>some (!r))=some (s.all q):=by
 rw[nM s p (fun x=>!q x) hp hN hs,Hj]
 congr 1
 induction s with
 | nil=>rfl
 | cons x s ih =>
  have:=ih (fun x hx=>hp x (by simp[hx])) (by simp at hN;omega) (by simp at hs;omega)
  simp only[List.any_cons,List.all_cons,Bool.not_or,Bool.not_not,this]
theorem AZ{N:Nat}(s:List Int)(v:Int)(hN:s.length<N)(hs:s.length<4611686018427387904) :
  (Ha (loopN (fun(rec:Int×Int→Option Int) (x:Int×Int)=>if decide (x.2<x.1)then Ha (idx s x.2) fun y=>if decide (v=y)then some x.2 else rec (x.1,w64 (x.2+1))else some (-1)) N ((s.length:Int),0))
   fun r=>some (decide (0≤r)))=some (decide (v∈s)):=by
 have:=nM (N:=N) s (fun y=>some (decide (v=y))) (fun y=>decide (v=y)) (fun _ _=>rfl) hN hs
 simp only[Hj]at this
 rw[this]
 congr 1
 rw[Bool.eq_iff_iff]
 simp
def ris:List Int→Bool
 | x::y::r=>decide (x<y)&&ris (y::r)
 | _=>true
theorem K4:∀(l:List Int),ris l=true↔l.Pairwise (·<·)
 | []=>by simp[ris]
 | [x]=>by simp[ris]
 | x::y::r=>by
  rw[ris,Bool.and_eq_true,decide_eq_true_eq,K4 (y::r)]
  constructor
  ·rintro⟨h1,h2⟩
   refine List.pairwise_cons.2 ⟨fun z hz=>?_,h2⟩
   rcases List.mem_cons.1 hz with rfl | hz
   ·exact h1
   ·have:=(List.pairwise_cons.1 h2).1 z hz;omega
  ·intro h
   have h:=List.pairwise_cons.1 h
   exact⟨h.1 y (by simp),h.2⟩
theorem LQ{l:List Int}{i:Nat}{y:Int}(hi:1≤i)(hy:l[i]? = some y){x:Int}(hx:l[i-1]? = some x):ris (l.drop (i-1))=(decide (x<y)&&ris (l.drop i)):=by
 have h1:=lP hy
 have h2:=lP hx
 have e1:l.drop (i-1)=x::l.drop i:=by
  rw[zp h2]
  have:=(List.getElem?_eq_some_iff.1 hx).2
  rw[this,show i-1+1=i by omega]
 have e2:l.drop i=y::l.drop (i+1):=by
  rw[zp h1]
  have:=(List.getElem?_eq_some_iff.1 hy).2
  rw[this]
 rw[e1,e2,ris]
theorem K5{N:Nat}(l:List Int)(hl:l.length<4611686018427387904)(hN:l.length<N) :
  loopN (fun(rec:Int×Int→Option Bool) (x:Int×Int)=>if decide (x.2<x.1)then
    Ha (if decide (0<x.2)then Ha (idx l x.2) fun y=>Ha (idx l (w64 (x.2-1))) fun z=>some (decide (y≤z))else some false) fun v=>if v then some false else rec (x.1,w64 (x.2+1))
   else some true) N ((l.length:Int),0)=some (ris l):=by
 have:=o6 (N:=N) (B:=fun(rec:Int×Int→Option Bool) (x:Int×Int)=>if decide (x.2<x.1)then
    Ha (if decide (0<x.2)then Ha (idx l x.2) fun y=>Ha (idx l (w64 (x.2-1))) fun z=>some (decide (y≤z))else some false) fun v=>if v then some false else rec (x.1,w64 (x.2+1))
   else some true)
  l (fun i=>((l.length:Int),(i:Int))) (fun i _=>some (ris (l.drop (i-1))))
  (fun rec=>by
   simp only[Int.lt_irrefl,decide_false,Bool.false_eq_true,if_false]
   congr 1
   rcases Nat.eq_zero_or_pos l.length with h | h
   ·have:=List.eq_nil_of_length_eq_zero h;subst this;rfl
   ·have hx:l.length-1<l.length:=by omega
    rw[zp hx,show l.length-1+1=l.length by omega,Ci];rfl)
  (fun i y rec hy h=>by
   have hlt:=lP hy
   simp only[show((i:Int)<(l.length:Int))from by omega,decide_true,if_true,fN (i:=i) (by omega),h,Nat.add_sub_cancel]
   rcases Nat.eq_zero_or_pos i with h0 | h0
   ·subst h0;simp
   ·have hx:l[i-1]? = some l[i-1]:=by simp
    have e:w64 ((i:Int)-1)=((i-1:Nat):Int):=by rw[bE (by omega) (by omega)];omega
    simp only[show(0:Int)<(i:Int)from by omega,decide_true,if_true,ij hy,e,ij hx,Hj]
    rw[LQ h0 hy hx]
    by_cases hc:y≤l[i-1]
    ·simp[hc,show ¬l[i-1]<y from by omega]
    ·simp[hc,show l[i-1]<y from by omega]) hN 0 (by omega)
 simpa using this
theorem GW{N:Nat}(l:List Int)(n:Int)(hl:l.length<4611686018427387904)(hN:l.length<N) :
  loopN (fun(rec:Int→Option Bool) (x:Int)=>if decide (x<(l.length:Int))then Ha (idx l x) fun y=>if decide (y=n)then some true else rec (w64 (x+1))else some false) N 0=some (decide (n∈l)):=by
 have:=rY (N:=N) (B:=fun(rec:Int→Option Bool) (x:Int)=>if decide (x<(l.length:Int))then Ha (idx l x) fun y=>if decide (y=n)then some true else rec (w64 (x+1))else some false)
  l (fun i=>(i:Int)) (fun r=>some (decide (n∈r)))
  (fun rec=>by simp)
  (fun i x rec hx h=>by
   have hlt:=lP hx
   simp only[show((i:Int)<(l.length:Int))from by omega,decide_true,if_true,ij hx,Hj,fN (i:=i) (by omega),h]
   by_cases hc:x=n
   ·simp[hc]
   ·have:n≠x:=fun e=>hc e.symm
    simp[hc,this]) hN
 simpa using this
end Go.Kp
namespace Go.Kp
/-! Maps. -/
section
variable {K V:Type}[DecidableEq K]
theorem Az(m:List (K×V))(k:K)(v:V)(k':K):mget (mput m k v) k'=if k'=k then some v else mget m k':=by
 induction m with
 | nil=>rfl
 | cons p m ih =>
  rw[mput]
  by_cases h:k=p.1
  ·rw[if_pos h]
   show(if k'=k then some v else mget m k')=if k'=k then some v else if k'=p.1 then some p.2 else mget m k'
   by_cases h2:k'=k
   ·rw[if_pos h2,if_pos h2]
   ·rw[if_neg h2,if_neg h2,if_neg (by rw[← h];exact h2)]
  ·rw[if_neg h]
   show(if k'=p.1 then some p.2 else mget (mput m k v) k')=if k'=k then some v else if k'=p.1 then some p.2 else mget m k'
   rw[ih]
   by_cases h2:k'=p.1
   ·rw[if_pos h2,if_pos h2,if_neg (fun e=>h (by rw[← e,h2]))]
   ·rw[if_neg h2,if_neg h2]
theorem M7(m:List (K×V))(k:K)(v:V):∀x,x∈(mput m k v).map (·.1)↔x=k∨x∈m.map (·.1):=by
 induction m with
 | nil=>intro x;simp[mput]
 | cons p m ih =>
  intro x
  rw[mput]
  by_cases h:k=p.1
  ·rw[if_pos h];simp[h]
  ·rw[if_neg h,xZ,D8,ih,xZ,D8]
   constructor
   ·rintro(h | h | h)<;>simp[h]
   ·rintro(h | h | h)<;>simp[h]
theorem MQ{m:List (K×V)}(h:(m.map (·.1)).Nodup)(k:K)(v:V):((mput m k v).map (·.1)).Nodup:=by
 induction m with
 | nil=>simp[mput]
 | cons p m ih =>
  rw[xZ,D7]at h
  rw[mput]
  by_cases hk:k=p.1
  ·rw[if_pos hk,xZ,D7,hk];exact h
  ·rw[if_neg hk,xZ,D7]
   refine⟨fun hm=>?_,ih h.2⟩
   rcases(M7 m k v p.1).1 hm with e | e
   ·exact hk e.symm
   ·exact h.1 e
theorem MS{m:List (K×V)}(h:(m.map (·.1)).Nodup){p:K×V}:p∈m↔mget m p.1=some p.2:=by
 induction m with
 | nil=>simp[mget]
 | cons q m ih =>
  rw[xZ,D7]at h
  rw[mget,D8]
  by_cases hk:p.1=q.1
  ·rw[if_pos hk]
   constructor
   ·rintro(e | e)
    ·rw[e]
    ·exact absurd (List.mem_map.2 ⟨p,e,hk⟩) h.1
   ·intro e
    exact .inl (Prod.ext hk (Option.some.inj e).symm)
  ·rw[if_neg hk,← ih h.2]
   constructor
   ·rintro(e | e)
    ·exact absurd (by rw[e]) hk
    ·exact e
   ·exact .inr
end
theorem Nl{l m:List Int}(h:l.Perm m)(hm:m.Pairwise (·<·)):(l.mergeSort fun x y=>decide (x≤y))=m:=by
 refine List.Perm.eq_of_pairwise (le:=(·≤·)) (fun a b _ _ h1 h2=>by omega) ?_ (hm.imp fun h=>by omega) ((List.mergeSort_perm l _).trans h)
 have:=List.pairwise_mergeSort (le:=fun x y:Int=>decide (x≤y)) (fun a b c h1 h2=>by simp at *;omega) (fun a b=>by simp;omega) l
 exact this.imp fun h=>by simpa using h
end Go.Kp
