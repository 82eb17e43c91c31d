/-
  The plain part.
-/
import Derived.Test.YtiaoloodgildeaaGreatDoorDDeskPlace
import Derived.Test.YtiaoloodgildeaaGreatDoorDef
import Derived.Test.YtiaoloodgildeaaGreatDoorLib
import Derived.KernelRfl
set_option linter.all false
namespace Go.Proofs.YtiaoloodgildeaaGreatDoor
open Go.Kp
variable {N:Nat}
def sm:List UInt8→Nat→Nat
 | [],_=>0
 | c::r,k=>(k+2)*(c.toNat+1)+sm r (k+1)
def chk (s:List UInt8)(i:Nat):Nat:=(13*(i+1)+sm s 0) % 99989
theorem o8{s:List UInt8}{i:Nat}{c:UInt8}(h:s[i]? = some c):idx (bytesI s) (i:Int)=some (c.toNat:Int):=ij (by simp[bytesI,h])
theorem o9(s:List UInt8)(i:Nat)(hs:s.length≤5000)(hi:i≤5000)(hN:20000≤N):e9 N s i=some (DeskHead.mk s.length (chk s i)):=by
 have hlen:(bytesI s).length=s.length:=by simp[bytesI]
 have key:=lO (N:=N) (R:=Int) (B:=fun rec3 x=>bM N rec3 x.1 x.2.1 x.2.2.1 x.2.2.2) s (fun(k:Nat) (a:Int)=>(a,bytesI s,((bytesI s).length:Int),(k:Int)))
  (fun r a=>some (a+(sm r (s.length-r.length):Nat))) (fun k a=>0≤a∧a≤2000000*((k:Int)+1))
  (fun a rec _=>by simp[bM,hlen,sm])
  (fun k c a rec hx ha h=>by
   have hlt:=lP hx
   have hc:=c.toNat_lt
   have hp:(k+2)*(c.toNat+1)≤5002*256:=Nat.mul_le_mul (by omega) (by omega)
   unfold bM
   rw[if_pos (by simp only[hlen,decide_eq_true_eq];omega)]
   simp only[o8 hx,Option.bind_some]
   have e1:w64 ((k:Int)+2)=((k+2:Nat):Int):=by rw[bE (by omega) (by omega)];omega
   have e2:w64 (w64 (c.toNat:Int)+1)=((c.toNat+1:Nat):Int):=by rw[bE (n:=(c.toNat:Int)) (by omega) (by omega),bE (by omega) (by omega)];omega
   have e3:w64 (((k+2:Nat):Int)*((c.toNat+1:Nat):Int))=(((k+2)*(c.toNat+1):Nat):Int):=by rw[← Int.natCast_mul,bE (by omega) (by omega)]
   have e4:w64 (a+(((k+2)*(c.toNat+1):Nat):Int))=a+(((k+2)*(c.toNat+1):Nat):Int):=bE (by omega) (by omega)
   rw[e1,e2,e3,e4,fN (by omega),h _ ⟨by omega,by omega⟩]
   simp only[List.length_cons,List.length_drop,sm,Option.some.injEq]
   rw[show s.length-(s.length-(k+1)+1)=k from by omega,show s.length-(s.length-(k+1))=k+1 from by omega]
   push_cast
   omega)
  (by omega) (13*((i:Int)+1)) ⟨by omega,by omega⟩
 unfold e9
 have e0:w64 (13*w64 ((i:Int)+1))=13*((i:Int)+1):=by rw[bE (n:=(i:Int)+1) (by omega) (by omega),bE (by omega) (by omega)]
 rw[e0]
 simp only[Nat.sub_self]at key
 simp only[Int.natCast_zero]at key
 rw[key,Option.bind_some,show 13*((i:Int)+1)+((sm s 0:Nat):Int)=((13*(i+1)+sm s 0:Nat):Int)from by push_cast;omega]
 rfl
def dg3 (n:Nat):List UInt8:=[UInt8.ofNat (48+n / 100 % 10),UInt8.ofNat (48+n / 10 % 10),UInt8.ofNat (48+n % 10)]
def dg5 (n:Nat):List UInt8:=[UInt8.ofNat (48+n / 10000 % 10),UInt8.ofNat (48+n / 1000 % 10),UInt8.ofNat (48+n / 100 % 10),UInt8.ofNat (48+n / 10 % 10),UInt8.ofNat (48+n % 10)]
theorem dgt{n:Nat}(h:n<1000000):Go.IntKind.wrap .u8 (w64 (48+Int.tmod (n:Int) 10))=((48+n % 10:Nat):Int):=by
 have e:Int.tmod (n:Int) 10=((n % 10:Nat):Int):=by rw[Int.tmod_eq_emod_of_nonneg (by omega)];omega
 rw[e,bE (by omega) (by omega)]
 have:(48:Int)+((n % 10:Nat):Int)=((48+n % 10:Nat):Int):=by omega
 rw[this]
 have h10:48+n % 10<256:=by omega
 generalize 48+n % 10=m at h10 ⊢
 simp[Go.IntKind.wrap,Go.IntKind.bits,Go.IntKind.signed]
 omega
theorem dq{n:Nat}(h:n<1000000):w64 (Int.tdiv (n:Int) 10)=((n / 10:Nat):Int):=by
 have e:Int.tdiv (n:Int) 10=((n / 10:Nat):Int):=by rw[Int.tdiv_eq_ediv_of_nonneg (by omega)];omega
 rw[e,bE (by omega) (by omega)]
theorem ml(m n k:Nat)(b:Ar5 Int)(rec:(Int×Int×(Ar5 Int))→Option (Ar5 Int))(h:n<1000000)(hk:k<5) :
  aF m rec (n:Int) (k:Int) b=rec (((n / 10:Nat):Int),(k:Int)-1,match k with
   | 0=>Ar5.mk ((48+n % 10:Nat):Int) b.a1 b.a2 b.a3 b.a4
   | 1=>Ar5.mk b.a0 ((48+n % 10:Nat):Int) b.a2 b.a3 b.a4
   | 2=>Ar5.mk b.a0 b.a1 ((48+n % 10:Nat):Int) b.a3 b.a4
   | 3=>Ar5.mk b.a0 b.a1 b.a2 ((48+n % 10:Nat):Int) b.a4
   | _=>Ar5.mk b.a0 b.a1 b.a2 b.a3 ((48+n % 10:Nat):Int)):=by
 unfold aF
 rw[dgt h,dq h,bE (n:=(k:Int)-1) (by omega) (by omega)]
 match k,hk with
 | 0,_=>rfl
 | 1,_=>rfl
 | 2,_=>rfl
 | 3,_=>rfl
 | 4,_=>rfl
theorem wH(m n:Nat)(b:Ar5 Int)(rec:(Int×Int×(Ar5 Int))→Option (Ar5 Int)):aF m rec (n:Int) (-1) b=some b:=rfl
theorem qZ(l:List Nat):mC (l.map Int.ofNat)=l.map UInt8.ofNat:=by
 unfold mC
 rw[List.map_map]
 exact List.map_congr_left fun x _=>rfl
theorem ww(n:Nat)(h:n<1000)(hN:20000≤N):dm N n 3=some (dg3 n):=by
 obtain⟨m,rfl⟩:∃m,N=m+4:=⟨N-4,by omega⟩
 unfold dm
 have key:aj (fun rec3 x=>aF (m+4) rec3 x.1 x.2.1 x.2.2) (m+4) ((n:Int),w64 (3-1),(Ar5.mk 0 0 0 0 0))=some (Ar5.mk ((48+n / 100 % 10:Nat):Int) ((48+n / 10 % 10:Nat):Int) ((48+n % 10:Nat):Int) 0 0):=by
  rw[show w64 (3-1)=((2:Nat):Int)from by decide]
  show aF (m+4) _ (n:Int) ((2:Nat):Int) _=_
  rw[ml _ _ 2 _ _ (by omega) (by omega)]
  show aF (m+4) _ ((n / 10:Nat):Int) ((1:Nat):Int) _=_
  rw[ml _ _ 1 _ _ (by omega) (by omega)]
  show aF (m+4) _ ((n / 10 / 10:Nat):Int) ((0:Nat):Int) _=_
  rw[ml _ _ 0 _ _ (by omega) (by omega)]
  show aF (m+4) _ ((n / 10 / 10 / 10:Nat):Int) (-1) _=_
  rw[wH]
  simp only[Nat.div_div_eq_div_mul]
 rw[key,Option.bind_some]
 rw[rX (by decide) (by decide) (by simp),Option.bind_some]
 exact congrArg some (qZ [48+n / 100 % 10,48+n / 10 % 10,48+n % 10])
theorem wx(n:Nat)(h:n<100000)(hN:20000≤N):dm N n 5=some (dg5 n):=by
 obtain⟨m,rfl⟩:∃m,N=m+6:=⟨N-6,by omega⟩
 unfold dm
 have key:aj (fun rec3 x=>aF (m+6) rec3 x.1 x.2.1 x.2.2) (m+6) ((n:Int),w64 (5-1),(Ar5.mk 0 0 0 0 0))=some (Ar5.mk ((48+n / 10000 % 10:Nat):Int) ((48+n / 1000 % 10:Nat):Int) ((48+n / 100 % 10:Nat):Int) ((48+n / 10 % 10:Nat):Int) ((48+n % 10:Nat):Int)):=by
  rw[show w64 (5-1)=((4:Nat):Int)from by decide]
  show aF (m+6) _ (n:Int) ((4:Nat):Int) _=_
  rw[ml _ _ 4 _ _ (by omega) (by omega)]
  show aF (m+6) _ ((n / 10:Nat):Int) ((3:Nat):Int) _=_
  rw[ml _ _ 3 _ _ (by omega) (by omega)]
  show aF (m+6) _ ((n / 10 / 10:Nat):Int) ((2:Nat):Int) _=_
  rw[ml _ _ 2 _ _ (by omega) (by omega)]
  show aF (m+6) _ ((n / 10 / 10 / 10:Nat):Int) ((1:Nat):Int) _=_
  rw[ml _ _ 1 _ _ (by omega) (by omega)]
  show aF (m+6) _ ((n / 10 / 10 / 10 / 10:Nat):Int) ((0:Nat):Int) _=_
  rw[ml _ _ 0 _ _ (by omega) (by omega)]
  show aF (m+6) _ ((n / 10 / 10 / 10 / 10 / 10:Nat):Int) (-1) _=_
  rw[wH]
  simp only[Nat.div_div_eq_div_mul]
 rw[key,Option.bind_some]
 rw[rX (by decide) (by decide) (by simp),Option.bind_some]
 exact congrArg some (qZ [48+n / 10000 % 10,48+n / 1000 % 10,48+n / 100 % 10,48+n / 10 % 10,48+n % 10])
def hd (n c:Nat):List UInt8:=(((([60]:List UInt8)++dg3 n)++[124])++dg5 c)++[62]
theorem lS{a b:List UInt8}(h:a.length+b.length≤N):cat N a b=some ():=by unfold cat;rw[if_pos h]
theorem mn(n c:Nat)(hn:n<1000)(hc:c<100000)(hN:20000≤N):dz N (DeskHead.mk n c)=some (hd n c):=by
 unfold dz
 simp only[ww n hn hN,wx c hc hN,Option.bind_some]
 rw[lS (by simp[dg3];omega),Option.bind_some,lS (by simp[dg3];omega),Option.bind_some,lS (by simp[dg3,dg5];omega),Option.bind_some,lS (by simp[dg3,dg5];omega),Option.bind_some]
 rfl
theorem iZ(n c:Nat):(hd n c).length=11:=rfl
theorem vu(s:List UInt8)(i:Nat):chk s i<100000:=by unfold chk;omega
def rc (s:List UInt8)(i:Nat):List UInt8:=hd s.length (chk s i)++s++[10]
def fw:List (List UInt8)→Nat→List UInt8
 | [],_=>[]
 | s::r,i=>rc s i++fw r (i+1)
theorem vz(s:List UInt8)(i:Nat):(rc s i).length=12+s.length:=by simp[rc,iZ];omega
theorem wy(lines:List (List UInt8))(hl:lines.length≤55)(hs:∀s∈lines,s.length≤210)(hN:20000≤N):jE N lines=some (bytesI (fw lines 0)):=by
 have key:=lO (N:=N) (R:=List Int) (B:=fun rec3 x=>cH N lines rec3 x.1 x.2.1 x.2.2) lines (fun(k:Nat) (a:List Int)=>((lines.length:Int),(k:Int),a))
  (fun r a=>some (a++bytesI (fw r (lines.length-r.length)))) (fun k a=>a.length≤222*k)
  (fun a rec _=>by simp[cH,fw,bytesI])
  (fun k s a rec hx ha h=>by
   have hlt:=lP hx
   have h210:=hs s (List.mem_of_getElem? hx)
   unfold cH
   rw[if_pos (by simp only[decide_eq_true_eq];omega)]
   simp only[ij hx,Option.bind_some,o9 s k (by omega) (by omega) hN,mn s.length (chk s k) (by omega) (vu s k) hN]
   have hrl:(hd s.length (chk s k)).length=11:=rfl
   rw[lS (by omega),Option.bind_some,lS (by simp;omega),Option.bind_some,nL (by simp[bytesI];omega),Option.bind_some,fN (by omega),h _ (by simp[bytesI];omega)]
   simp only[List.length_cons,List.length_drop,fw,Option.some.injEq]
   rw[show lines.length-(lines.length-(k+1)+1)=k from by omega,show lines.length-(lines.length-(k+1))=k+1 from by omega]
   simp[bytesI,rc])
  (by omega) [] (by simp)
 unfold jE
 simp only[Int.natCast_zero,Nat.sub_self,List.nil_append]at key
 rw[key];rfl
theorem vA(lines:List (List UInt8))(hl:lines.length≤50)(hs:∀s∈lines,s.length≤200)(hN:20000≤N):dw N lines=some 0:=by
 have hall:mV N lines 200=some (lines.all fun s=>decide ((s.length:Int)≤200)) :=
  tZ lines (fun y=>kV N y 200) (fun s=>decide ((s.length:Int)≤200)) (fun x _=>rfl) (by omega) (by omega)
 have ht:(lines.all fun s=>decide ((s.length:Int)≤200))=true:=List.all_eq_true.2 fun s hm=>by have:=hs s hm;simp only[decide_eq_true_eq];omega
 unfold dw
 rw[if_neg (by simp only[decide_eq_true_eq];omega),hall,ht]
 rfl
theorem vB(lines:List (List UInt8))(hl:lines.length≤50)(hs:∀s∈lines,s.length≤200)(hN:20000≤N):gr N lines=some (bytesI (fw lines 0),0):=by
 unfold gr
 rw[vA lines hl hs hN,Option.bind_some,if_neg (by decide),wy lines (by omega) (fun s hm=>by have:=hs s hm;omega) hN]
 rfl
theorem sU{x:Nat}(h:x<10):(UInt8.ofNat (48+x)).toNat=48+x:=by
 simp[UInt8.toNat_ofNat']
 omega
theorem nR(acc x:Nat)(r:List UInt8)(hx:x<10)(ha:acc<1000000000):Go.Lib.parseUint10 acc (UInt8.ofNat (48+x)::r)=Go.Lib.parseUint10 (acc*10+x) r:=by
 rw[Go.Lib.parseUint10,sU hx,if_pos (by omega),if_neg (by omega),if_neg (by omega),show 48+x-48=x from by omega]
theorem q7(x:Nat)(r:List UInt8)(hx:x<10)(v:Nat)(hv:v<1000000000)(h:Go.Lib.parseUint10 x r=.ok v)(hl:(UInt8.ofNat (48+x)::r).length≤N):nV N (UInt8.ofNat (48+x)::r)=some (.inl (v:Int)):=by
 have h1:Go.Lib.atoiAll (UInt8.ofNat (48+x)::r)=.ok (v:Int):=by
  unfold Go.Lib.atoiAll
  simp only[sU hx]
  rw[if_neg (by omega)]
  have h2:Go.Lib.parseMag (UInt8.ofNat (48+x)::r)=.ok v:=by
   unfold Go.Lib.parseMag
   rw[if_neg (by simp),nR 0 x r hx (by omega)]
   simpa using h
  rw[h2]
  simp only
  rw[if_neg (by omega),if_neg (by omega),if_neg (by omega)]
 unfold nV
 rw[if_pos hl,h1]
theorem xi(n:Nat)(h:n<1000)(hN:20000≤N):nV N (dg3 n)=some (.inl (n:Int)):=by
 refine q7 _ _ (by omega) n (by omega) ?_ (by simp;omega)
 rw[nR _ _ _ (by omega) (by omega),nR _ _ _ (by omega) (by omega),Go.Lib.parseUint10]
 congr 1;omega
theorem xj(n:Nat)(h:n<100000)(hN:20000≤N):nV N (dg5 n)=some (.inl (n:Int)):=by
 refine q7 _ _ (by omega) n (by omega) ?_ (by simp;omega)
 rw[nR _ _ _ (by omega) (by omega),nR _ _ _ (by omega) (by omega),nR _ _ _ (by omega) (by omega),nR _ _ _ (by omega) (by omega),Go.Lib.parseUint10]
 congr 1;omega
theorem i1(s:List UInt8):mC (bytesI s)=s:=by
 unfold mC bytesI
 rw[List.map_map]
 conv=>rhs;rw[← List.map_id s]
 exact List.map_congr_left fun c _=>by simp
theorem gu{s:List UInt8}{a b:Nat}(h1:a≤b)(h2:b≤s.length):slc (bytesI s) (a:Int) (b:Int)=some (bytesI ((s.take b).drop a)):=by
 rw[rX (by omega) (by omega) (by simp[bytesI];omega)]
 simp[bytesI,List.map_drop,List.map_take]
theorem wz(n c:Nat)(q:List UInt8)(hn:n≤200)(hc:c<100000)(hN:20000≤N):jF N (bytesI (hd n c++q))=some (DeskHead.mk n c,true):=by
 unfold jF
 have hlen:(hd n c++q).length=11+q.length:=by rw[List.length_append,iZ]
 have e1:slc (bytesI (hd n c++q)) 1 4=some (bytesI (dg3 n)):=(gu (a:=1) (b:=4) (by omega) (by omega)).trans rfl
 have e2:slc (bytesI (hd n c++q)) 5 10=some (bytesI (dg5 c)):=(gu (a:=5) (b:=10) (by omega) (by omega)).trans rfl
 have e3:slc (bytesI (hd n c++q)) 0 11=some (bytesI (hd n c)):=(gu (a:=0) (b:=11) (by omega) (by omega)).trans rfl
 rw[e1,Option.bind_some,i1,xi n (by omega) hN,Option.bind_some]
 simp only
 rw[e2,Option.bind_some,i1,xj c hc hN,Option.bind_some]
 simp only
 have hw:cJ N (n:Int) 0 200=some true:=by
  unfold cJ
  rw[if_pos (by simp)]
  simp;omega
 rw[hw,Option.bind_some]
 simp only[Bool.not_true,Bool.false_eq_true,if_false,Option.bind_some]
 rw[if_neg (by simp only[decide_eq_true_eq];omega),mn n c (by omega) hc hN,Option.bind_some,e3,Option.bind_some,i1]
 simp
end Go.Proofs.YtiaoloodgildeaaGreatDoor
namespace Go.Proofs.YtiaoloodgildeaaGreatDoor
open Go.Kp
variable {N:Nat}
theorem step{b:List UInt8}{p j n c:Nat}{cc:Int}{ls:List (List UInt8)}{q:List UInt8}{rec:(Int×Int×Int×(List (List UInt8)))→Option (Int×(List (List UInt8)))}
  (hq:b.drop p=hd n c++q) (h1:1≤q.length) (hn:n≤200) (hc:c<100000) (hb:b.length≤15000) (hj:j≤60) (hls:ls.length≤50) (hN:20000≤N) :
  aP N (bytesI b) rec (p:Int) (j:Int) cc ls=if q.length<n+1 then some (cc,ls)else if q[n]?≠some 10 then some (cc,ls)else if c≠chk (q.take n) j then some (cc,ls)else if ls.length=50 then some (cc,ls)else
   rec (((p+12+n:Nat):Int),((j+1:Nat):Int),((p+12+n:Nat):Int),ls++[q.take n]):=by
 have hL:b.length=p+11+q.length:=by
  have:=congrArg List.length hq
  rw[List.length_drop,List.length_append,iZ]at this
  omega
 have hbl:((bytesI b).length:Int)=(b.length:Int):=by simp[bytesI]
 unfold aP
 rw[hbl]
 rw[if_pos (by rw[bE (by omega) (by omega)];simp only[decide_eq_true_eq];omega)]
 have e1:slc (bytesI b) (p:Int) (b.length:Int)=some (bytesI (hd n c++q)):=by rw[gu (by omega) (by omega),List.take_length,hq]
 rw[e1,Option.bind_some,wz n c q hn hc hN,Option.bind_some]
 have eE:w64 ((w64 ((w64 ((p:Int)+11))+(n:Int)))+1)=((p+12+n:Nat):Int):=by
  rw[bE (n:=(p:Int)+11) (by omega) (by omega),bE (n:=(p:Int)+11+(n:Int)) (by omega) (by omega),bE (by omega) (by omega)];omega
 simp only[Bool.not_true,Bool.false_eq_true,if_false,eE]
 by_cases c1:q.length<n+1
 ·rw[if_pos (by simp only[decide_eq_true_eq];omega),if_pos c1]
  rfl
 rw[if_neg (by simp only[decide_eq_true_eq];omega),if_neg c1]
 have eL:w64 (((p+12+n:Nat):Int)-1)=((p+11+n:Nat):Int):=by rw[bE (by omega) (by omega)];omega
 have hx:b[p+11+n]? = some q[n]:=by
  have:(b.drop p)[11+n]? = some q[n]:=by
   rw[hq,List.getElem?_append_right (by rw[iZ];omega),iZ,show 11+n-11=n from by omega]
   simp
  rw[List.getElem?_drop]at this
  rw[← this];congr 1;omega
 rw[eL,o8 hx,Option.bind_some,Option.bind_some]
 have hqn:q[n]? = some q[n]:=List.getElem?_eq_getElem (by omega)
 by_cases c2:q[n]=10
 ·have t2:((q[n].toNat:Nat):Int)=10:=by rw[c2];rfl
  rw[if_neg (by simp[t2]),if_neg (by rw[hqn,c2];simp)]
  have e11:w64 ((p:Int)+11)=((p+11:Nat):Int):=by rw[bE (by omega) (by omega)];omega
  have eS:slc (bytesI b) (w64 ((p:Int)+11)) ((p+11+n:Nat):Int)=some (bytesI (q.take n)):=by
   rw[e11,gu (by omega) (by omega)]
   congr 2
   have h0:(b.take (p+11+n)).drop (p+11)=((b.drop p).drop 11).take n:=by
    rw[List.drop_drop,List.take_drop]
   rw[h0,hq]
   rfl
  rw[eL,eS,Option.bind_some,i1,o9 (q.take n) j (by rw[List.length_take];omega) (by omega) hN,Option.bind_some]
  have hlt:(q.take n).length=n:=by rw[List.length_take];omega
  rw[hlt]
  by_cases c3:c=chk (q.take n) j
  ·have d1:(decide ((DeskHead.mk (n:Int) (c:Int))=DeskHead.mk (n:Int) ((chk (q.take n) j:Nat):Int)))=true:=by rw[c3];simp
   have d2:¬c≠chk (q.take n) j:=by simpa using c3
   simp only[d1,if_neg d2,Bool.not_true,Bool.false_eq_true,if_false]
   by_cases c4:ls.length=50
   ·have d3:decide ((ls.length:Int)=50)=true:=by simp only[decide_eq_true_eq];omega
    rw[if_pos c4]
    simp only[d3,if_true]
   ·have d3:decide ((ls.length:Int)=50)=false:=by simp only[decide_eq_false_iff_not];omega
    simp only[d3,if_neg c4,Bool.false_eq_true,if_false]
    rw[nL (by simp;omega),Option.bind_some,fN (by omega)]
  ·have d1:(decide ((DeskHead.mk (n:Int) (c:Int))=DeskHead.mk (n:Int) ((chk (q.take n) j:Nat):Int)))=false:=by simp only[DeskHead.mk.injEq,true_and,decide_eq_false_iff_not];omega
   simp only[d1,if_pos c3,Bool.not_false,if_true]
 ·have t2:¬((q[n].toNat:Nat):Int)=10:=by
   intro e
   have h10:q[n].toNat=10:=by omega
   exact c2 (UInt8.toNat_inj.1 (by rw[h10];rfl))
  rw[if_pos (by simp[t2]),if_pos (by rw[hqn];simpa using c2)]
theorem short{b:List UInt8}{p j:Nat}{cc:Int}{ls:List (List UInt8)}{rec:(Int×Int×Int×(List (List UInt8)))→Option (Int×(List (List UInt8)))}
  (h:b.length≤p+11) (hp:p≤b.length) (hb:b.length≤15000):aP N (bytesI b) rec (p:Int) (j:Int) cc ls=some (cc,ls):=by
 have hbl:((bytesI b).length:Int)=(b.length:Int):=by simp[bytesI]
 unfold aP
 rw[hbl,if_neg (by rw[bE (by omega) (by omega)];simp only[decide_eq_true_eq];omega)]
def byt:List (List UInt8)→Nat
 | []=>0
 | s::r=>12+s.length+byt r
theorem sb:∀(l:List (List UInt8)) (i:Nat),(fw l i).length=byt l
 | [],_=>rfl
 | s::r,i=>by rw[fw,List.length_append,vz,sb r,byt]
end Go.Proofs.YtiaoloodgildeaaGreatDoor
namespace Go.Proofs.YtiaoloodgildeaaGreatDoor
open Go.Kp
variable {N:Nat}
theorem vC(lines:List (List UInt8))(hN:20000≤N):∃b,j0 N lines=some b∧(b=true→lines.length≤55∧∀s∈lines,s.length≤210):=by
 have key:∀(n i:Nat),i≤56→57-i≤n→∃b,aj (fun rec3 x=>bK N lines rec3 x) n (i:Int)=some b∧(b=true→lines.length≤55∧∀j x,i≤j→lines[j]? = some x→x.length≤210):=by
  intro n
  induction n with
  | zero=>intro i h1 h2;omega
  | succ n ih =>
   intro i h1 h2
   show ∃b,bK N lines (aj (fun rec3 x=>bK N lines rec3 x) n) (i:Int)=some b∧_
   unfold bK
   by_cases hi:i<lines.length
   ·rw[if_pos (by simp only[decide_eq_true_eq];omega),Option.bind_some]
    by_cases h56:i<56
    ·rw[if_pos (by simp only[decide_eq_true_eq];omega)]
     have hx:lines[i]? = some lines[i]:=List.getElem?_eq_getElem hi
     rw[ij hx,Option.bind_some]
     by_cases h210:210<lines[i].length
     ·rw[if_pos (by simp only[decide_eq_true_eq];omega)]
      exact⟨false,rfl,fun h=>by cases h⟩
     ·rw[if_neg (by simp only[decide_eq_true_eq];omega),fN (by omega)]
      obtain⟨b,hb,hq⟩:=ih (i+1) (by omega) (by omega)
      refine⟨b,hb,fun h=>⟨(hq h).1,fun j x hj hx'=>?_⟩⟩
      rcases Nat.lt_or_ge i j with h3 | h3
      ·exact(hq h).2 j x (by omega) hx'
      ·have:j=i:=by omega
       subst this
       rw[hx]at hx';cases hx';omega
    ·rw[if_neg (by simp only[decide_eq_true_eq];omega)]
     refine⟨_,rfl,fun h=>?_⟩
     simp only[decide_eq_true_eq]at h
     omega
   ·rw[if_neg (by simp only[decide_eq_true_eq];omega),Option.bind_some]
    refine⟨_,rfl,fun h=>⟨by simp only[decide_eq_true_eq]at h;omega,fun j x hj hx'=>?_⟩⟩
    have:=lP hx'
    omega
 obtain⟨b,hb,hq⟩:=key N 0 (by omega) (by omega)
 refine⟨b,hb,fun h=>⟨(hq h).1,fun s hs=>?_⟩⟩
 obtain⟨j,hj⟩:=List.getElem?_of_mem hs
 exact(hq h).2 j s (Nat.zero_le _) hj
theorem ud(lines:List (List UInt8))(hl:lines.length≤55)(hN:20000≤N):gz N lines=some (lines.all (fun s=>decide (s.length≤200))&&decide (lines.length≤50)):=by
 have key:=rY (N:=N) (R:=Bool) (B:=fun rec3 x=>bf N lines rec3 x) lines (fun(k:Nat)=>(k:Int)) (fun r=>some (r.all (fun s=>decide (s.length≤200))&&decide (lines.length≤50)))
  (fun rec=>by
   show bf N lines rec (lines.length:Int)=_
   unfold bf
   rw[if_neg (by simp)]
   simp[fc]
   omega)
  (fun i x rec hx h=>by
   have hlt:=lP hx
   show bf N lines rec (i:Int)=_
   unfold bf
   rw[if_pos (by simp only[decide_eq_true_eq];omega),ij hx,Option.bind_some]
   by_cases h200:200<x.length
   ·rw[if_pos (by simp only[decide_eq_true_eq];omega)]
    simp
    omega
   ·rw[if_neg (by simp only[decide_eq_true_eq];omega),fN (by omega),h]
    have:decide (x.length≤200)=true:=by simp only[decide_eq_true_eq];omega
    simp[this])
  (by omega)
 unfold gz
 simpa using key
theorem vD(a b:List (List UInt8))(ha:a.length≤1000)(hN:20000≤N):gN N a b=some (decide (a=b)):=by
 unfold gN
 by_cases hl:a.length=b.length
 ·rw[if_neg (by simp[hl])]
  have key:=o6 (N:=N) (R:=Bool) (B:=fun rec3 x=>bg N a b rec3 x) a (fun(k:Nat)=>(k:Int)) (fun k r=>some (decide (r=b.drop k)))
   (fun rec=>by
    show bg N a b rec (a.length:Int)=_
    unfold bg
    rw[if_neg (by simp)]
    simp[fu,hl])
   (fun i x rec hx h=>by
    have hlt:=lP hx
    have hy:b[i]? = some (b[i]'(by omega)):=List.getElem?_eq_getElem (by omega)
    show bg N a b rec (i:Int)=_
    unfold bg
    rw[if_pos (by simp only[decide_eq_true_eq];omega),ij hx,Option.bind_some,ij hy,Option.bind_some,fN (by omega),h]
    rw[List.drop_eq_getElem_cons (show i<b.length by omega)]
    by_cases hxy:x=b[i]'(by omega)
    ·simp only[hxy,decide_true,Bool.not_true,Bool.false_eq_true,if_false,List.cons.injEq,true_and]
    ·simp only[hxy,decide_false,Bool.not_false,if_true,List.cons.injEq,false_and])
   (by omega) 0 (by omega)
  simpa using key
 ·rw[if_pos (by simp;omega)]
  have:¬a=b:=fun e=>hl (by rw[e])
  simp[this]
theorem sc:∀(l:List (List UInt8)),(∀s∈l,s.length≤200)→byt l≤212*l.length
 | [],_=>by simp[byt]
 | s::r,h=>by
  have:=sc r fun x hx=>h x (by simp[hx])
  have:=h s (by simp)
  simp[byt];omega
end Go.Proofs.YtiaoloodgildeaaGreatDoor
namespace Go.Proofs.YtiaoloodgildeaaGreatDoor
open Go.Kp
set_option maxRecDepth 100000
theorem dN{σ R:Type}{b:(σ→WP R)→σ→WP R}{n:Nat}{x:σ}{Q:R→Prop}(h:b (aG b n) x Q):aG b (n+1) x Q:=h
theorem br{α R:Type}{x:Option α}{a:α}{k:α→WP R}{Q:R→Prop}(e:x=some a)(h:k a Q):dO x k Q:=⟨a,e,h⟩
theorem lR{α R:Type}{a:WP R}{b:α→List α→WP R}{Q:R→Prop}(h:a Q):mq [] a b Q:=⟨fun _=>h,fun pre e post hs=>by cases pre<;>cases hs⟩
theorem o7{α R:Type}{x:α}{a:WP R}{b:α→List α→WP R}{Q:R→Prop}(h:b x [] Q):mq [x] a b Q:=by
 refine⟨fun e=>(by cases e),fun pre e post hs=>?_⟩
 cases pre with
 | nil=>cases hs;exact h
 | cons y l=>cases l<;>cases hs
theorem vo{α R:Type}{x:WP α}{k:α→WP R}{Q:R→Prop}(h:x fun a=>k a Q):Go.Kp.bindW x k Q:=h
theorem WGood.bindW{α R:Type}{x:WP α}{k:α→WP R}(hx:WGood x)(h:∀a,WGood (k a)):WGood (Go.Kp.bindW x k) :=
 ⟨fun q=>hx.no (hx.mono _ _ (fun a z=>((h a).no z).elim) q),fun P Q p q=>hx.mono _ _ (fun a z=>(h a).and P Q z.1 z.2) (hx.and _ _ p q),fun P Q m p=>hx.mono _ _ (fun a z=>(h a).mono P Q m z) p⟩
theorem wZ{R:Type}{c:Prop}[Decidable c]{a b:WP R}{Q:R→Prop}(hc:¬c)(h:b Q):(if c then a else b) Q:=by rw[if_neg hc];exact h
theorem qY:gh 30000 (RateBook.mk (RateLaw.mk 90 80 40 3 5) [70,60] [] [])=some ([],0):=by
 unfold gh
 refine vF ?_ ?_
 ·refine WGood.bindO fun z=>?_
  obtain⟨_,_,_,_,_,_,_,_,_,_⟩:=z
  refine .ite (.ret _) (WGood.loop (fun rec x hr=>?_) _ _)
  unfold bx cx
  exact .next (.bindO fun _=>.ret _) fun⟨_,_⟩ _=>.bindO fun _=>hr _
 ·unfold fp
  refine br (a:=(0,90,80,40,3,5,[70,60],[],[],[])) (by kernel_rfl) ?_
  dsimp only
  refine wZ (by decide) ?_
  refine dN (n:=29999) ?_
  unfold bx
  refine lR ?_
  unfold cx
  refine br (a:=[]) (by simp[sortI]) ?_
  rfl
theorem ua(N:Nat)(c1 c2 c3:Int)(c4:List LadderResult)(c5:List LadderPair)(m1:List (Int×LadderResult))(l1:List (Ar2 Int)):WGood (cB N c1 c2 c3 c4 c5 m1 l1):=by
 unfold cB
 refine WGood.loop (fun rec x hr=>?_) _ _
 unfold am
 refine .ite (.bindO fun _=>.bindO fun _=>WGood.loop (fun rec2 y hr2=>?_) _ _) (by unfold cf;exact .ret _)
 unfold au
 refine .next (by unfold cY;exact hr _) (fun⟨_,_⟩ _=>.bindO fun _=>WGood.loop (fun rec3 z hr3=>?_) _ _)
 unfold aw
 have k3:∀a b,WGood (bi N rec3 a b):=fun a b=>by unfold bi;exact hr3 _
 have k4:∀a b c d e f,WGood (bj N a rec3 b c d e f):=fun a b c d e f=>by unfold bj;exact .ite (k3 _ _) (k3 _ _)
 have k5:∀a b c d e,WGood (bl N a rec3 b c d e):=fun a b c d e=>by unfold bl;exact .bindO fun⟨_,_⟩=>.ite (k4 ..) (k4 ..)
 have k6:∀a b c d e f,WGood (bn N a rec3 b c d e f):=fun a b c d e f=>by unfold bn;exact .ite (.bindO fun _=>k5 ..) (k5 ..)
 have k7:∀a b c d e f g h,WGood (bp N a b rec3 c d e f g h):=fun a b c d e f g h=>by unfold bp;exact .ite (k3 _ _) (.bindO fun _=>.ite (k6 ..) (k6 ..))
 have k8:∀a b c d e f g,WGood (aV N a b rec3 c d e f g):=fun a b c d e f g=>by unfold aV;exact .bindO fun _=>.ite (k7 ..) (k7 ..)
 have k9:∀a b c d e f g h i j,WGood (bq N a b c rec3 d e f g h i j):=fun a b c d e f g h i j=>by unfold bq;exact .ite (k8 ..) (k8 ..)
 have k10:∀a b c d e f g h i,WGood (aY N a b c rec3 d e f g h i):=fun a b c d e f g h i=>by unfold aY;exact .bindO fun⟨_,_⟩=>.ite (k9 ..) (k9 ..)
 have k11:∀a b c d e f g h i j,WGood (aZ N a b c rec3 d e f g h i j):=fun a b c d e f g h i j=>by unfold aZ;exact .ite (.bindO fun _=>k10 ..) (k10 ..)
 have k12:∀a b c d e f g h i,WGood (ba N a b c rec3 d e f g h i):=fun a b c d e f g h i=>by unfold ba;exact .ite (k8 ..) (.bindO fun _=>.ite (k11 ..) (k11 ..))
 exact .next (hr2 _) fun⟨_,_⟩ _=>.bindO fun _=>.bindO fun _=>.ite (k12 ..) (k12 ..)
theorem vp(N:Nat)(c1 c2 c3:Int)(c4:List LadderResult)(c5:List LadderPair)(m1:List (Int×LadderResult))(l1:List (Ar2 Int)):WGood (cC N c1 c2 c3 c4 c5 m1 l1):=by
 unfold cC
 refine WGood.bindW (ua ..) fun m=>WGood.loop (fun rec x hr=>?_) _ _
 unfold aO
 have k2:∀a b,WGood (bG N a rec b):=fun a b=>by unfold bG;exact hr _
 refine .ite (.bindO fun _=>.bindO fun⟨_,_⟩=>.ite (.bindO fun _=>k2 _ _) (k2 _ _)) (by unfold cg;exact .ret _)
theorem ift{R:Type}{c:Bool}{a b:WP R}{Q:R→Prop}(hc:c=true)(h:a Q):(if c=true then a else b) Q:=by rw[if_pos hc];exact h
theorem ife{R:Type}{c:Bool}{a b:WP R}{Q:R→Prop}(hc:c=false)(h:b Q):(if c=true then a else b) Q:=by rw[if_neg (by rw[hc];decide)];exact h
def P2:LadderPair:=LadderPair.mk (LadderSide.mk 0 (-1)) (LadderSide.mk 1 (-1))
theorem w6:fq 30000 1 2 1 [] [LadderPair.mk (LadderSide.mk 0 (-1)) (LadderSide.mk 1 (-1))] [] [Ar2.mk 0 1]=some [0,1]:=by
 unfold fq
 refine vF (vp ..) ?_
 unfold cC
 refine vo ?_
 unfold cB
 refine dN (n:=29999) ?_
 unfold am
 refine ift (by kernel_rfl) ?_
 refine br (a:=P2) (by kernel_rfl) ?_
 refine br (a:=[(0,0)]) (by kernel_rfl) ?_
 refine dN (n:=29999) ?_
 unfold au
 refine o7 ?_
 dsimp only
 refine br (a:=[(1,0)]) (by kernel_rfl) ?_
 refine dN (n:=29999) ?_
 unfold aw
 refine o7 ?_
 dsimp only
 refine br (a:=-1) (by kernel_rfl) ?_
 refine br (a:=Ar2.mk 0 1) (by kernel_rfl) ?_
 refine ife (by kernel_rfl) ?_
 unfold ba
 refine ife (by kernel_rfl) ?_
 refine br (a:=0) (by kernel_rfl) ?_
 refine ift (by kernel_rfl) ?_
 unfold aZ
 refine ife (by kernel_rfl) ?_
 unfold aY
 refine br (a:=(LadderCheapest.mk 0 0,false)) (by kernel_rfl) ?_
 dsimp only
 refine ift (by kernel_rfl) ?_
 unfold bq
 refine ift (by kernel_rfl) ?_
 unfold aV
 refine br (a:=Ar2.mk 1 0) (by kernel_rfl) ?_
 refine ife (by kernel_rfl) ?_
 unfold bp
 refine ife (by kernel_rfl) ?_
 refine br (a:=0) (by kernel_rfl) ?_
 refine ift (by kernel_rfl) ?_
 unfold bn
 refine ift (by kernel_rfl) ?_
 refine br (a:=1) (by kernel_rfl) ?_
 unfold bl
 refine br (a:=(LadderCheapest.mk 0 0,false)) (by kernel_rfl) ?_
 dsimp only
 refine ift (by kernel_rfl) ?_
 unfold bj
 refine ift (by kernel_rfl) ?_
 change aG _ 29999 _ _
 refine dN (n:=29998) ?_
 try unfold aw
 refine lR ?_
 change aG _ 29999 _ _
 refine dN (n:=29998) ?_
 try unfold au
 refine lR ?_
 change aG _ 29999 _ _
 refine dN (n:=29998) ?_
 try unfold am
 refine ife (by kernel_rfl) ?_
 try unfold cf ug
 change aG _ 30000 _ _
 refine dN (n:=29999) ?_
 try unfold aO
 refine ift (by kernel_rfl) ?_
 refine br (a:=0) (by kernel_rfl) ?_
 refine br (a:=(LadderCheapest.mk 0 1,true)) (by kernel_rfl) ?_
 dsimp only
 refine ift (by kernel_rfl) ?_
 refine br (a:=[0]) (by kernel_rfl) ?_
 change aG _ 29999 _ _
 refine dN (n:=29998) ?_
 try unfold aO
 refine ift (by kernel_rfl) ?_
 refine br (a:=0) (by kernel_rfl) ?_
 refine br (a:=(LadderCheapest.mk 1 0,true)) (by kernel_rfl) ?_
 dsimp only
 refine ift (by kernel_rfl) ?_
 refine br (a:=[0,1]) (by kernel_rfl) ?_
 change aG _ 29998 _ _
 refine dN (n:=29997) ?_
 try unfold aO
 refine ife (by kernel_rfl) ?_
 try unfold cg
 rfl
theorem bind_ok{α β:Type}{x:Option α}{a:α}{f:α→Option β}{r:Option β}(e:x=some a)(h:f a=r):Option.bind x f=r:=by rw[e];exact h
theorem ofe{β:Type}{c:Bool}{a b r:Option β}(hc:c=false)(h:b=r):(if c=true then a else b)=r:=by rw[if_neg (by rw[hc];decide)];exact h
theorem oft{β:Type}{c:Bool}{a b r:Option β}(hc:c=true)(h:a=r):(if c=true then a else b)=r:=by rw[if_pos hc];exact h
def G7:List (List UInt8):=[[98,111,119,108,101,114,32,55,48],[98,111,119,108,101,114,32,54,48],[111,112,101,110,32,49,32,48],[98,97,108,108,32,49,32,49,48],[98,97,108,108,32,49,32,55],[98,97,108,108,32,49,32,51],[98,97,108,108,32,49,32,52]]
def G8:List (List UInt8):=G7++[[98,97,108,108,32,49,32,53]]
def G12:List (List UInt8):=G8++[[98,97,108,108,32,49,32,50],[111,112,101,110,32,49,32,49],[99,108,111,115,101,32,49],[99,108,111,115,101,32,49]]
def W7:DeskWork:=DeskWork.mk (DeskState.mk [70,60] [(DeskLane.mk (-1) []),(DeskLane.mk 0 [10,7,3,4]),(DeskLane.mk (-1) []),(DeskLane.mk (-1) [])] [[],[]] [] [] [])
def R7:List UInt8:=[108,97,110,101,32,49,32,98,111,119,108,101,114,32,48,32,99,111,117,110,116,115,32,50,48,32,51,52,10,98,111,119,108,101,114,32,48,32,107,101,112,116,32,48,32,115,104,101,101,116,115,32,48,10,98,111,119,108,101,114,32,49,32,107,101,112,116,32,48,32,115,104,101,101,116,115,32,48,10,100,117,101,108,115,32,48,32,49,10]
theorem ub:eM 30000 (LadderCup.mk 1 2 1 [])=some ([0,1],0):=by
 unfold eM
 refine bind_ok (a:=(0,1,2,1,[],[LadderPair.mk (LadderSide.mk 0 (-1)) (LadderSide.mk 1 (-1))],[],[Ar2.mk 0 1])) (by kernel_rfl) ?_
 dsimp only
 refine ofe (by kernel_rfl) ?_
 exact bind_ok w6 rfl
theorem uc:gM 30000 G7=some (R7,0):=by
 unfold gM
 refine bind_ok (a:=0) (by kernel_rfl) ?_
 refine ofe (by kernel_rfl) ?_
 refine bind_ok (a:=([0,0,0,0,0,0,0],W7)) (by kernel_rfl) ?_
 dsimp only
 refine bind_ok (a:=[108,97,110,101,32,49,32,98,111,119,108,101,114,32,48,32,99,111,117,110,116,115,32,50,48,32,51,52,10]) (by kernel_rfl) ?_
 refine bind_ok (a:=RateBook.mk (RateLaw.mk 90 80 40 3 5) [70,60] [] []) (by kernel_rfl) ?_
 refine bind_ok qY ?_
 dsimp only
 refine bind_ok (a:=[108,97,110,101,32,49,32,98,111,119,108,101,114,32,48,32,99,111,117,110,116,115,32,50,48,32,51,52,10,98,111,119,108,101,114,32,48,32,107,101,112,116,32,48,32,115,104,101,101,116,115,32,48,10,98,111,119,108,101,114,32,49,32,107,101,112,116,32,48,32,115,104,101,101,116,115,32,48,10]) (by kernel_rfl) ?_
 refine bind_ok (a:=R7) ?_ (by kernel_rfl)
 refine oft (by kernel_rfl) ?_
 refine bind_ok (a:=LadderCup.mk 1 2 1 []) (by kernel_rfl) ?_
 refine bind_ok ub ?_
 kernel_rfl
theorem vr:cL 30000=some true:=by
 unfold cL
 refine bind_ok (a:=G8) (by kernel_rfl) ?_
 refine bind_ok (a:=G12) (by kernel_rfl) ?_
 refine bind_ok (a:=(DeskState.mk [70,60] [(DeskLane.mk (-1) []),(DeskLane.mk (-1) []),(DeskLane.mk (-1) []),(DeskLane.mk (-1) [])] [[43],[]] [] [] [],[0,0,0,0,0,0,0,0,10,6,0,8],0)) (by kernel_rfl) ?_
 dsimp only
 refine bind_ok (a:=G8) (by kernel_rfl) ?_
 refine bind_ok (a:=G7) (by kernel_rfl) ?_
 refine bind_ok (a:=([20,34],38,54,0)) (by kernel_rfl) ?_
 dsimp only
 refine bind_ok (a:=G8) (by kernel_rfl) ?_
 refine bind_ok (a:=(70,16,0)) (by kernel_rfl) ?_
 dsimp only
 refine bind_ok (a:=G8) (by kernel_rfl) ?_
 refine bind_ok (a:=G7) (by kernel_rfl) ?_
 refine bind_ok uc ?_
 dsimp only
 refine bind_ok (a:=([60,48,48,49,124,48,48,50,48,57,62,97,10],0)) (by kernel_rfl) ?_
 kernel_rfl
end Go.Proofs.YtiaoloodgildeaaGreatDoor
namespace Go.Proofs.YtiaoloodgildeaaGreatDoor
open Go.Kp
variable {N:Nat}
theorem yE{b:List UInt8}(hb:b.length≤15000)(hN:20000≤N)(m:Nat):∀(l:List (List UInt8)) (p j:Nat) (ls:List (List UInt8)) (t:List UInt8),(∀s∈l,s.length≤200)→j+l.length≤50→ls.length=j→p≤b.length→b.drop p=fw l j++t →
  aj (fun rec3 x=>aP N (bytesI b) rec3 x.1 x.2.1 x.2.2.1 x.2.2.2) (m+l.length) ((p:Int),(j:Int),(p:Int),ls) =
  aj (fun rec3 x=>aP N (bytesI b) rec3 x.1 x.2.1 x.2.2.1 x.2.2.2) m (((p+byt l:Nat):Int),((j+l.length:Nat):Int),((p+byt l:Nat):Int),ls++l)
 | [],p,j,ls,t,_,_,_,_,_=>by simp[byt]
 | s::r,p,j,ls,t,hs,hj,hls,hp,hd0=>by
  have hs0:=hs s (by simp)
  have hlen2:j+(r.length+1)≤50:=by simpa using hj
  show aP N (bytesI b) (aj (fun rec3 x=>aP N (bytesI b) rec3 x.1 x.2.1 x.2.2.1 x.2.2.2) (m+r.length)) (p:Int) (j:Int) (p:Int) ls=_
  have hfw:fw (s::r) j++t=hd s.length (chk s j)++(s++(10::(fw r (j+1)++t))):=by simp[fw,rc]
  rw[hfw]at hd0
  rw[step hd0 (by simp;omega) hs0 (vu _ _) hb (by omega) (by omega) hN]
  have hn:(s++(10::(fw r (j+1)++t)))[s.length]? = some 10:=by simp
  have ht:(s++(10::(fw r (j+1)++t))).take s.length=s:=by simp
  have hL:=congrArg List.length hd0
  rw[List.length_drop,List.length_append,iZ,List.length_append,List.length_cons]at hL
  rw[hn,ht,if_neg (by simp),if_neg (by simp),if_neg (by simp),if_neg (by omega)]
  have hd1:b.drop (p+12+s.length)=fw r (j+1)++t:=by
   have e:b.drop (p+12+s.length)=(b.drop p).drop (12+s.length):=by rw[List.drop_drop];congr 1;omega
   rw[e,hd0,show 12+s.length=(hd s.length (chk s j)++s).length+1 from by rw[List.length_append,iZ];omega]
   rw[← List.append_assoc,List.drop_append]
   simp
  rw[yE hb hN m r (p+12+s.length) (j+1) (ls++[s]) t (fun x hx=>hs x (by simp[hx])) (by omega) (by simp[hls]) (by omega) hd1]
  simp only[byt,List.length_cons,List.append_assoc,List.singleton_append]
  rw[show p+12+s.length+byt r=p+(12+s.length+byt r)from by omega,show j+1+r.length=j+(r.length+1)from by omega]
theorem BZ(s:List UInt8)(j:Nat):chk s (j+1)≠chk s j:=by unfold chk;omega
theorem zl:∀(a b:List (List UInt8)),byt (a++b)=byt a+byt b
 | [],b=>by simp[byt]
 | x::a,b=>by simp[byt,zl a b];omega
theorem Ai:∀(a b:List (List UInt8)) (i:Nat),fw (a++b) i=fw a i++fw b (i+a.length)
 | [],b,i=>by simp[fw]
 | x::a,b,i=>by simp only[List.cons_append,fw,Ai a b,List.append_assoc,List.length_cons];rw[show i+1+a.length=i+(a.length+1)from by omega]
theorem zD{l r:List (List UInt8)}(hl:l.length+1+r.length≤50)(hs:∀s∈l,s.length≤200)(hr:∀s∈r,s.length≤200)(hN:20000≤N) :
  ef N (bytesI (fw l 0++fw r (l.length+1)))=some ((byt l:Int),l):=by
 have hb1:=sc l hs
 have hb2:=sc r hr
 have hLL:(fw l 0++fw r (l.length+1)).length=byt l+byt r:=by rw[List.length_append,sb,sb]
 have hb:(fw l 0++fw r (l.length+1)).length≤15000:=by omega
 obtain⟨m,rfl⟩:∃m,N=(m+1)+l.length:=⟨N-1-l.length,by omega⟩
 have key:=yE hb hN (m+1) l 0 0 [] (fw r (l.length+1)) hs (by omega) rfl (by omega) (by simp)
 unfold ef gV
 simp only[Option.bind_some]
 simp only[Int.natCast_zero,Nat.zero_add,List.nil_append]at key
 rw[key]
 have hd1:(fw l 0++fw r (l.length+1)).drop (byt l)=fw r (l.length+1):=by
  rw[← sb l 0,List.drop_left]
 have fin:aP (m+1+l.length) (bytesI (fw l 0++fw r (l.length+1))) (aj (fun rec3 x=>aP (m+1+l.length) (bytesI (fw l 0++fw r (l.length+1))) rec3 x.1 x.2.1 x.2.2.1 x.2.2.2) m) (byt l:Int) (l.length:Int) (byt l:Int) l=some ((byt l:Int),l):=by
  match r,hd1,hb2,hLL,hb,hl,hr with
  | [],_,_,hLL,hb,_,_=>exact short (by rw[hLL];simp[byt]) (by rw[hLL];omega) hb
  | s::r,hd1,_,hLL,hb,hl,hr =>
   have hs0:=hr s (by simp)
   have hfw:fw (s::r) (l.length+1)=hd s.length (chk s (l.length+1))++(s++(10::fw r (l.length+1+1))):=by simp[fw,rc]
   have hd2:=hd1.trans hfw
   rw[step hd2 (by simp;omega) hs0 (vu _ _) hb (by omega) (by omega) hN]
   have hn:(s++(10::fw r (l.length+1+1)))[s.length]? = some 10:=by simp
   have ht:(s++(10::fw r (l.length+1+1))).take s.length=s:=by simp
   rw[hn,ht,if_neg (by simp),if_neg (by simp),if_pos (BZ s l.length)]
 show Option.bind (aP _ _ _ _ _ _ _) _=_
 rw[fin];rfl
theorem zc(lines:List (List UInt8))(hs:∀s∈lines,s.length≤200)(hl:lines.length≤50)(k:Nat)(hk:k≤lines.length):∀(m i:Nat),i≤k→k-i<m →
  aj (fun rec3 x=>l5 N lines rec3 x.1 x.2.1 x.2.2) m ((k:Int),(byt (lines.take i):Int),(i:Int))=some ((k:Int),(byt (lines.take k):Int))
 | 0,i,_,h=>by omega
 | m+1,i,hi,hm=>by
  show l5 N lines (aj (fun rec3 x=>l5 N lines rec3 x.1 x.2.1 x.2.2) m) (k:Int) (byt (lines.take i):Int) (i:Int)=_
  unfold l5
  by_cases h:i<k
  ·have hx:lines[i]? = some (lines[i]'(by omega)):=List.getElem?_eq_getElem (by omega)
   have h200:=hs (lines[i]'(by omega)) (List.getElem_mem _)
   have hbl:=sc (lines.take i) fun s h=>hs s (List.mem_of_mem_take h)
   have hlt:(lines.take i).length≤50:=by rw[List.length_take];omega
   rw[if_pos (by simp only[decide_eq_true_eq];omega),ij hx,Option.bind_some,fN (by omega)]
   have e1:w64 ((byt (lines.take i):Int)+w64 (12+((lines[i]'(by omega)).length:Int)))=(byt (lines.take (i+1)):Int):=by
    rw[bE (n:=12+((lines[i]'(by omega)).length:Int)) (by omega) (by omega),bE (by omega) (by omega),List.take_add_one,hx,zl]
    simp[byt]<;>omega
   rw[e1]
   exact zc lines hs hl k hk m (i+1) (by omega) (by omega)
  ·have:i=k:=by omega
   subst this
   rw[if_neg (by simp)]
theorem zG(N:Nat)(hN:20000≤N)(hN2:N≤1000000)(hw:cL N=some true)(lines:List (List UInt8))(at0:Int)(h0:0≤at0∧at0≤255):ya N lines at0=some true:=by
 unfold ya
 obtain⟨b,hb,hbt⟩:=vC lines hN
 rw[hb,Option.bind_some]
 cases b with
 | false=>simp[hw]
 | true =>
  obtain⟨hl55,hs210⟩:=hbt rfl
  rw[ud lines hl55 hN]
  by_cases hr:(lines.all (fun s=>decide (s.length≤200))&&decide (lines.length≤50))=true
  rotate_left
  ·have hr':(lines.all (fun s=>decide (s.length≤200))&&decide (lines.length≤50))=false:=by simpa using hr
   rw[hr'];simp[hw]
  rw[hr]
  obtain⟨h200,h50⟩:(∀s∈lines,s.length≤200)∧lines.length≤50:=by simpa using hr
  simp only[Bool.not_true,Bool.false_eq_true,if_false,Option.bind_some]
  by_cases hz:lines.length=0
  ·have d:decide ((lines.length:Int)=0)=true:=by simp only[decide_eq_true_eq];omega
   simp only[d,if_true,hw,Option.bind_some]
  have d:decide ((lines.length:Int)=0)=false:=by simp only[decide_eq_false_iff_not];omega
  simp only[d,Bool.false_eq_true,if_false]
  have hbl:=sc lines h200
  have hfl:(fw lines 0).length=byt lines:=sb lines 0
  have hli:iw N lines=some lines:=by unfold iw;rw[nL (by simp;omega)];rfl
  rw[hli,Option.bind_some,vB lines h50 h200 hN,Option.bind_some]
  have hbL:(bytesI (fw lines 0)).length=byt lines:=by simp[bytesI,hfl]
  simp only[xh (show ¬(lines.length:Int)=0 by omega),Option.bind_some]
  obtain⟨c,rfl⟩:∃c:Nat,at0=c:=⟨at0.toNat,by omega⟩
  have e2:Int.tmod (w64 (c:Int)) (lines.length:Int)=((c % lines.length:Nat):Int):=by
   rw[bE (by omega) (by omega),Int.tmod_eq_emod_of_nonneg (by omega)];omega
  have hk:c % lines.length<lines.length:=Nat.mod_lt c (by omega)
  rw[e2]
  generalize c % lines.length=k at hk ⊢
  have hpl:=zc (N:=N) lines h200 h50 k (by omega) N 0 (by omega) (by omega)
  simp only[List.take_zero,byt,Int.natCast_zero]at hpl
  rw[hpl,Option.bind_some]
  have hx:lines[k]? = some lines[k]:=List.getElem?_eq_getElem hk
  have h2k:=h200 lines[k] (List.getElem_mem _)
  have hsp:lines=lines.take k++(lines[k]::lines.drop (k+1)):=by rw[← List.drop_eq_getElem_cons hk,List.take_append_drop]
  have hby:byt lines=byt (lines.take k)+(12+lines[k].length+byt (lines.drop (k+1))):=by
   conv=>lhs;rw[hsp]
   rw[zl,byt]
  have htl:(lines.take k).length=k:=by rw[List.length_take];omega
  have hF:fw lines 0=fw (lines.take k) 0++(rc lines[k] k++fw (lines.drop (k+1)) (k+1)):=by
   conv=>lhs;rw[hsp]
   rw[Ai,htl,Nat.zero_add,fw]
  have eE:w64 ((w64 ((byt (lines.take k):Int)+12))+(lines[k].length:Int))=((byt (lines.take k)+(12+lines[k].length):Nat):Int):=by
   rw[bE (n:=(byt (lines.take k):Int)+12) (by omega) (by omega),bE (by omega) (by omega)];omega
  simp only[decide_true,Bool.not_true,Bool.false_eq_true,if_false,ij hx,Option.bind_some,eE,hbL]
  have d2:decide ((byt lines:Int)<((byt (lines.take k)+(12+lines[k].length):Nat):Int))=false:=by simp only[decide_eq_false_iff_not];omega
  simp only[d2,Bool.false_eq_true,if_false]
  have s1:slc (bytesI (fw lines 0)) 0 (byt (lines.take k):Int)=some (bytesI (fw (lines.take k) 0)):=by
   refine(gu (a:=0) (b:=byt (lines.take k)) (by omega) (by omega)).trans ?_
   rw[List.drop_zero,hF,← sb (lines.take k) 0,List.take_left]
  have s2:slc (bytesI (fw lines 0)) ((byt (lines.take k)+(12+lines[k].length):Nat):Int) (byt lines:Int)=some (bytesI (fw (lines.drop (k+1)) (k+1))):=by
   rw[gu (a:=byt (lines.take k)+(12+lines[k].length)) (b:=byt lines) (by omega) (by omega),List.take_of_length_le (l:=fw lines 0) (by omega),hF,← List.append_assoc]
   have:(fw (lines.take k) 0++rc lines[k] k).length=byt (lines.take k)+(12+lines[k].length):=by rw[List.length_append,sb,vz]
   rw[← this,List.drop_left]
  have l1:(bytesI (fw (lines.take k) 0)).length=byt (lines.take k):=by simp[bytesI,sb]
  have l2:(bytesI (fw (lines.drop (k+1)) (k+1))).length=byt (lines.drop (k+1)):=by simp[bytesI,sb]
  rw[s1,Option.bind_some,nL (by rw[l1];simp;omega),Option.bind_some,s2,Option.bind_some,List.nil_append,nL (by rw[l1,l2];omega),Option.bind_some]
  have hbb:bytesI (fw (lines.take k) 0)++bytesI (fw (lines.drop (k+1)) (k+1))=bytesI (fw (lines.take k) 0++fw (lines.drop (k+1)) ((lines.take k).length+1)):=by rw[htl];simp[bytesI]
  rw[hbb,zD (by rw[htl,List.length_drop];omega) (fun s h=>h200 s (List.mem_of_mem_take h)) (fun s h=>h200 s (List.mem_of_mem_drop h)) hN,Option.bind_some]
  have s3:slc lines 0 (k:Int)=some (lines.take k):=by rw[rX (by omega) (by omega) (by omega)];simp
  simp only[Option.bind_some,s3,vD (lines.take k) (lines.take k) (by omega) hN,decide_true,if_true,hw]
theorem zQ(lines:List (List UInt8))(at0:Int)(h:0≤at0∧at0≤255):ya 30000 lines at0=some true:=zG 30000 (by omega) (by omega) vr lines at0 h
end Go.Proofs.YtiaoloodgildeaaGreatDoor
