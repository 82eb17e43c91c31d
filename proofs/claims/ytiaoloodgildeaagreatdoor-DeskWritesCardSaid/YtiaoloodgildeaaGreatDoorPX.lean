/-
  The plain part.
-/
import Derived.Test.YtiaoloodgildeaaGreatDoorDDeskWrites
import Derived.Test.YtiaoloodgildeaaGreatDoorDef
import Derived.Test.YtiaoloodgildeaaGreatDoorLib
import Derived.KernelRfl
set_option linter.all false
namespace Go.Proofs.YtiaoloodgildeaaGreatDoor
open Go.Kp
variable {N:Nat}
def sm:List UInt8→Nat→Nat
 | [],_=>0
 | c::r,k=>(k+2)*(c.toNat+1)+sm r (k+1)
def chk (s:List UInt8)(i:Nat):Nat:=(13*(i+1)+sm s 0) % 99989
theorem o8{s:List UInt8}{i:Nat}{c:UInt8}(h:s[i]? = some c):idx (bytesI s) (i:Int)=some (c.toNat:Int):=ij (by simp[bytesI,h])
theorem o9(s:List UInt8)(i:Nat)(hs:s.length≤5000)(hi:i≤5000)(hN:20000≤N):e9 N s i=some (DeskHead.mk s.length (chk s i)):=by
 have hlen:(bytesI s).length=s.length:=by simp[bytesI]
 have key:=lO (N:=N) (R:=Int) (B:=fun rec3 x=>bM N rec3 x.1 x.2.1 x.2.2.1 x.2.2.2) s (fun(k:Nat) (a:Int)=>(a,bytesI s,((bytesI s).length:Int),(k:Int)))
  (fun r a=>some (a+(sm r (s.length-r.length):Nat))) (fun k a=>0≤a∧a≤2000000*((k:Int)+1))
  (fun a rec _=>by simp[bM,hlen,sm])
  (fun k c a rec hx ha h=>by
   have hlt:=lP hx
   have hc:=c.toNat_lt
   have hp:(k+2)*(c.toNat+1)≤5002*256:=Nat.mul_le_mul (by omega) (by omega)
   unfold bM
   rw[if_pos (by simp only[hlen,decide_eq_true_eq];omega)]
   simp only[o8 hx,Option.bind_some]
   have e1:w64 ((k:Int)+2)=((k+2:Nat):Int):=by rw[bE (by omega) (by omega)];omega
   have e2:w64 (w64 (c.toNat:Int)+1)=((c.toNat+1:Nat):Int):=by rw[bE (n:=(c.toNat:Int)) (by omega) (by omega),bE (by omega) (by omega)];omega
   have e3:w64 (((k+2:Nat):Int)*((c.toNat+1:Nat):Int))=(((k+2)*(c.toNat+1):Nat):Int):=by rw[← Int.natCast_mul,bE (by omega) (by omega)]
   have e4:w64 (a+(((k+2)*(c.toNat+1):Nat):Int))=a+(((k+2)*(c.toNat+1):Nat):Int):=bE (by omega) (by omega)
   rw[e1,e2,e3,e4,fN (by omega),h _ ⟨by omega,by omega⟩]
   simp only[List.length_cons,List.length_drop,sm,Option.some.injEq]
   rw[show s.length-(s.length-(k+1)+1)=k from by omega,show s.length-(s.length-(k+1))=k+1 from by omega]
   push_cast
   omega)
  (by omega) (13*((i:Int)+1)) ⟨by omega,by omega⟩
 unfold e9
 have e0:w64 (13*w64 ((i:Int)+1))=13*((i:Int)+1):=by rw[bE (n:=(i:Int)+1) (by omega) (by omega),bE (by omega) (by omega)]
 rw[e0]
 simp only[Nat.sub_self]at key
 simp only[Int.natCast_zero]at key
 rw[key,Option.bind_some,show 13*((i:Int)+1)+((sm s 0:Nat):Int)=((13*(i+1)+sm s 0:Nat):Int)from by push_cast;omega]
 rfl
def dg3 (n:Nat):List UInt8:=[UInt8.ofNat (48+n / 100 % 10),UInt8.ofNat (48+n / 10 % 10),UInt8.ofNat (48+n % 10)]
def dg5 (n:Nat):List UInt8:=[UInt8.ofNat (48+n / 10000 % 10),UInt8.ofNat (48+n / 1000 % 10),UInt8.ofNat (48+n / 100 % 10),UInt8.ofNat (48+n / 10 % 10),UInt8.ofNat (48+n % 10)]
theorem dgt{n:Nat}(h:n<1000000):Go.IntKind.wrap .u8 (w64 (48+Int.tmod (n:Int) 10))=((48+n % 10:Nat):Int):=by
 have e:Int.tmod (n:Int) 10=((n % 10:Nat):Int):=by rw[Int.tmod_eq_emod_of_nonneg (by omega)];omega
 rw[e,bE (by omega) (by omega)]
 have:(48:Int)+((n % 10:Nat):Int)=((48+n % 10:Nat):Int):=by omega
 rw[this]
 have h10:48+n % 10<256:=by omega
 generalize 48+n % 10=m at h10 ⊢
 simp[Go.IntKind.wrap,Go.IntKind.bits,Go.IntKind.signed]
 omega
theorem dq{n:Nat}(h:n<1000000):w64 (Int.tdiv (n:Int) 10)=((n / 10:Nat):Int):=by
 have e:Int.tdiv (n:Int) 10=((n / 10:Nat):Int):=by rw[Int.tdiv_eq_ediv_of_nonneg (by omega)];omega
 rw[e,bE (by omega) (by omega)]
theorem ml(m n k:Nat)(b:Ar5 Int)(rec:(Int×Int×(Ar5 Int))→Option (Ar5 Int))(h:n<1000000)(hk:k<5) :
  aF m rec (n:Int) (k:Int) b=rec (((n / 10:Nat):Int),(k:Int)-1,match k with
   | 0=>Ar5.mk ((48+n % 10:Nat):Int) b.a1 b.a2 b.a3 b.a4
   | 1=>Ar5.mk b.a0 ((48+n % 10:Nat):Int) b.a2 b.a3 b.a4
   | 2=>Ar5.mk b.a0 b.a1 ((48+n % 10:Nat):Int) b.a3 b.a4
   | 3=>Ar5.mk b.a0 b.a1 b.a2 ((48+n % 10:Nat):Int) b.a4
   | _=>Ar5.mk b.a0 b.a1 b.a2 b.a3 ((48+n % 10:Nat):Int)):=by
 unfold aF
 rw[dgt h,dq h,bE (n:=(k:Int)-1) (by omega) (by omega)]
 match k,hk with
 | 0,_=>rfl
 | 1,_=>rfl
 | 2,_=>rfl
 | 3,_=>rfl
 | 4,_=>rfl
theorem wH(m n:Nat)(b:Ar5 Int)(rec:(Int×Int×(Ar5 Int))→Option (Ar5 Int)):aF m rec (n:Int) (-1) b=some b:=rfl
theorem qZ(l:List Nat):mC (l.map Int.ofNat)=l.map UInt8.ofNat:=by
 unfold mC
 rw[List.map_map]
 exact List.map_congr_left fun x _=>rfl
theorem ww(n:Nat)(h:n<1000)(hN:20000≤N):dm N n 3=some (dg3 n):=by
 obtain⟨m,rfl⟩:∃m,N=m+4:=⟨N-4,by omega⟩
 unfold dm
 have key:aj (fun rec3 x=>aF (m+4) rec3 x.1 x.2.1 x.2.2) (m+4) ((n:Int),w64 (3-1),(Ar5.mk 0 0 0 0 0))=some (Ar5.mk ((48+n / 100 % 10:Nat):Int) ((48+n / 10 % 10:Nat):Int) ((48+n % 10:Nat):Int) 0 0):=by
  rw[show w64 (3-1)=((2:Nat):Int)from by decide]
  show aF (m+4) _ (n:Int) ((2:Nat):Int) _=_
  rw[ml _ _ 2 _ _ (by omega) (by omega)]
  show aF (m+4) _ ((n / 10:Nat):Int) ((1:Nat):Int) _=_
  rw[ml _ _ 1 _ _ (by omega) (by omega)]
  show aF (m+4) _ ((n / 10 / 10:Nat):Int) ((0:Nat):Int) _=_
  rw[ml _ _ 0 _ _ (by omega) (by omega)]
  show aF (m+4) _ ((n / 10 / 10 / 10:Nat):Int) (-1) _=_
  rw[wH]
  simp only[Nat.div_div_eq_div_mul]
 rw[key,Option.bind_some]
 rw[rX (by decide) (by decide) (by simp),Option.bind_some]
 exact congrArg some (qZ [48+n / 100 % 10,48+n / 10 % 10,48+n % 10])
theorem wx(n:Nat)(h:n<100000)(hN:20000≤N):dm N n 5=some (dg5 n):=by
 obtain⟨m,rfl⟩:∃m,N=m+6:=⟨N-6,by omega⟩
 unfold dm
 have key:aj (fun rec3 x=>aF (m+6) rec3 x.1 x.2.1 x.2.2) (m+6) ((n:Int),w64 (5-1),(Ar5.mk 0 0 0 0 0))=some (Ar5.mk ((48+n / 10000 % 10:Nat):Int) ((48+n / 1000 % 10:Nat):Int) ((48+n / 100 % 10:Nat):Int) ((48+n / 10 % 10:Nat):Int) ((48+n % 10:Nat):Int)):=by
  rw[show w64 (5-1)=((4:Nat):Int)from by decide]
  show aF (m+6) _ (n:Int) ((4:Nat):Int) _=_
  rw[ml _ _ 4 _ _ (by omega) (by omega)]
  show aF (m+6) _ ((n / 10:Nat):Int) ((3:Nat):Int) _=_
  rw[ml _ _ 3 _ _ (by omega) (by omega)]
  show aF (m+6) _ ((n / 10 / 10:Nat):Int) ((2:Nat):Int) _=_
  rw[ml _ _ 2 _ _ (by omega) (by omega)]
  show aF (m+6) _ ((n / 10 / 10 / 10:Nat):Int) ((1:Nat):Int) _=_
  rw[ml _ _ 1 _ _ (by omega) (by omega)]
  show aF (m+6) _ ((n / 10 / 10 / 10 / 10:Nat):Int) ((0:Nat):Int) _=_
  rw[ml _ _ 0 _ _ (by omega) (by omega)]
  show aF (m+6) _ ((n / 10 / 10 / 10 / 10 / 10:Nat):Int) (-1) _=_
  rw[wH]
  simp only[Nat.div_div_eq_div_mul]
 rw[key,Option.bind_some]
 rw[rX (by decide) (by decide) (by simp),Option.bind_some]
 exact congrArg some (qZ [48+n / 10000 % 10,48+n / 1000 % 10,48+n / 100 % 10,48+n / 10 % 10,48+n % 10])
def hd (n c:Nat):List UInt8:=(((([60]:List UInt8)++dg3 n)++[124])++dg5 c)++[62]
theorem lS{a b:List UInt8}(h:a.length+b.length≤N):cat N a b=some ():=by unfold cat;rw[if_pos h]
theorem mn(n c:Nat)(hn:n<1000)(hc:c<100000)(hN:20000≤N):dz N (DeskHead.mk n c)=some (hd n c):=by
 unfold dz
 simp only[ww n hn hN,wx c hc hN,Option.bind_some]
 rw[lS (by simp[dg3];omega),Option.bind_some,lS (by simp[dg3];omega),Option.bind_some,lS (by simp[dg3,dg5];omega),Option.bind_some,lS (by simp[dg3,dg5];omega),Option.bind_some]
 rfl
theorem iZ(n c:Nat):(hd n c).length=11:=rfl
theorem vu(s:List UInt8)(i:Nat):chk s i<100000:=by unfold chk;omega
def rc (s:List UInt8)(i:Nat):List UInt8:=hd s.length (chk s i)++s++[10]
def fw:List (List UInt8)→Nat→List UInt8
 | [],_=>[]
 | s::r,i=>rc s i++fw r (i+1)
theorem vz(s:List UInt8)(i:Nat):(rc s i).length=12+s.length:=by simp[rc,iZ];omega
theorem wy(lines:List (List UInt8))(hl:lines.length≤55)(hs:∀s∈lines,s.length≤210)(hN:20000≤N):jE N lines=some (bytesI (fw lines 0)):=by
 have key:=lO (N:=N) (R:=List Int) (B:=fun rec3 x=>cH N lines rec3 x.1 x.2.1 x.2.2) lines (fun(k:Nat) (a:List Int)=>((lines.length:Int),(k:Int),a))
  (fun r a=>some (a++bytesI (fw r (lines.length-r.length)))) (fun k a=>a.length≤222*k)
  (fun a rec _=>by simp[cH,fw,bytesI])
  (fun k s a rec hx ha h=>by
   have hlt:=lP hx
   have h210:=hs s (List.mem_of_getElem? hx)
   unfold cH
   rw[if_pos (by simp only[decide_eq_true_eq];omega)]
   simp only[ij hx,Option.bind_some,o9 s k (by omega) (by omega) hN,mn s.length (chk s k) (by omega) (vu s k) hN]
   have hrl:(hd s.length (chk s k)).length=11:=rfl
   rw[lS (by omega),Option.bind_some,lS (by simp;omega),Option.bind_some,nL (by simp[bytesI];omega),Option.bind_some,fN (by omega),h _ (by simp[bytesI];omega)]
   simp only[List.length_cons,List.length_drop,fw,Option.some.injEq]
   rw[show lines.length-(lines.length-(k+1)+1)=k from by omega,show lines.length-(lines.length-(k+1))=k+1 from by omega]
   simp[bytesI,rc])
  (by omega) [] (by simp)
 unfold jE
 simp only[Int.natCast_zero,Nat.sub_self,List.nil_append]at key
 rw[key];rfl
theorem sU{x:Nat}(h:x<10):(UInt8.ofNat (48+x)).toNat=48+x:=by
 simp[UInt8.toNat_ofNat']
 omega
theorem nR(acc x:Nat)(r:List UInt8)(hx:x<10)(ha:acc<1000000000):Go.Lib.parseUint10 acc (UInt8.ofNat (48+x)::r)=Go.Lib.parseUint10 (acc*10+x) r:=by
 rw[Go.Lib.parseUint10,sU hx,if_pos (by omega),if_neg (by omega),if_neg (by omega),show 48+x-48=x from by omega]
theorem q7(x:Nat)(r:List UInt8)(hx:x<10)(v:Nat)(hv:v<1000000000)(h:Go.Lib.parseUint10 x r=.ok v)(hl:(UInt8.ofNat (48+x)::r).length≤N):nV N (UInt8.ofNat (48+x)::r)=some (.inl (v:Int)):=by
 have h1:Go.Lib.atoiAll (UInt8.ofNat (48+x)::r)=.ok (v:Int):=by
  unfold Go.Lib.atoiAll
  simp only[sU hx]
  rw[if_neg (by omega)]
  have h2:Go.Lib.parseMag (UInt8.ofNat (48+x)::r)=.ok v:=by
   unfold Go.Lib.parseMag
   rw[if_neg (by simp),nR 0 x r hx (by omega)]
   simpa using h
  rw[h2]
  simp only
  rw[if_neg (by omega),if_neg (by omega),if_neg (by omega)]
 unfold nV
 rw[if_pos hl,h1]
theorem xi(n:Nat)(h:n<1000)(hN:20000≤N):nV N (dg3 n)=some (.inl (n:Int)):=by
 refine q7 _ _ (by omega) n (by omega) ?_ (by simp;omega)
 rw[nR _ _ _ (by omega) (by omega),nR _ _ _ (by omega) (by omega),Go.Lib.parseUint10]
 congr 1;omega
theorem xj(n:Nat)(h:n<100000)(hN:20000≤N):nV N (dg5 n)=some (.inl (n:Int)):=by
 refine q7 _ _ (by omega) n (by omega) ?_ (by simp;omega)
 rw[nR _ _ _ (by omega) (by omega),nR _ _ _ (by omega) (by omega),nR _ _ _ (by omega) (by omega),nR _ _ _ (by omega) (by omega),Go.Lib.parseUint10]
 congr 1;omega
theorem Db(s:List UInt8):mC (bytesI s)=s:=by
 unfold mC bytesI
 rw[List.map_map]
 conv=>rhs;rw[← List.map_id s]
 exact List.map_congr_left fun c _=>by simp
theorem gu{s:List UInt8}{a b:Nat}(h1:a≤b)(h2:b≤s.length):slc (bytesI s) (a:Int) (b:Int)=some (bytesI ((s.take b).drop a)):=by
 rw[rX (by omega) (by omega) (by simp[bytesI];omega)]
 simp[bytesI,List.map_drop,List.map_take]
theorem wz(n c:Nat)(q:List UInt8)(hn:n≤200)(hc:c<100000)(hN:20000≤N):jF N (bytesI (hd n c++q))=some (DeskHead.mk n c,true):=by
 unfold jF
 have hlen:(hd n c++q).length=11+q.length:=by rw[List.length_append,iZ]
 have e1:slc (bytesI (hd n c++q)) 1 4=some (bytesI (dg3 n)):=(gu (a:=1) (b:=4) (by omega) (by omega)).trans rfl
 have e2:slc (bytesI (hd n c++q)) 5 10=some (bytesI (dg5 c)):=(gu (a:=5) (b:=10) (by omega) (by omega)).trans rfl
 have e3:slc (bytesI (hd n c++q)) 0 11=some (bytesI (hd n c)):=(gu (a:=0) (b:=11) (by omega) (by omega)).trans rfl
 rw[e1,Option.bind_some,Db,xi n (by omega) hN,Option.bind_some]
 simp only
 rw[e2,Option.bind_some,Db,xj c hc hN,Option.bind_some]
 simp only
 have hw:cJ N (n:Int) 0 200=some true:=by
  unfold cJ
  rw[if_pos (by simp)]
  simp;omega
 rw[hw,Option.bind_some]
 simp only[Bool.not_true,Bool.false_eq_true,if_false,Option.bind_some]
 rw[if_neg (by simp only[decide_eq_true_eq];omega),mn n c (by omega) hc hN,Option.bind_some,e3,Option.bind_some,Db]
 simp
end Go.Proofs.YtiaoloodgildeaaGreatDoor
namespace Go.Proofs.YtiaoloodgildeaaGreatDoor
open Go.Kp
variable {N:Nat}
theorem step{b:List UInt8}{p j n c:Nat}{cc:Int}{ls:List (List UInt8)}{q:List UInt8}{rec:(Int×Int×Int×(List (List UInt8)))→Option (Int×(List (List UInt8)))}
  (hq:b.drop p=hd n c++q) (h1:1≤q.length) (hn:n≤200) (hc:c<100000) (hb:b.length≤15000) (hj:j≤60) (hls:ls.length≤50) (hN:20000≤N) :
  aP N (bytesI b) rec (p:Int) (j:Int) cc ls=if q.length<n+1 then some (cc,ls)else if q[n]?≠some 10 then some (cc,ls)else if c≠chk (q.take n) j then some (cc,ls)else if ls.length=50 then some (cc,ls)else
   rec (((p+12+n:Nat):Int),((j+1:Nat):Int),((p+12+n:Nat):Int),ls++[q.take n]):=by
 have hL:b.length=p+11+q.length:=by
  have:=congrArg List.length hq
  rw[List.length_drop,List.length_append,iZ]at this
  omega
 have hbl:((bytesI b).length:Int)=(b.length:Int):=by simp[bytesI]
 unfold aP
 rw[hbl]
 rw[if_pos (by rw[bE (by omega) (by omega)];simp only[decide_eq_true_eq];omega)]
 have e1:slc (bytesI b) (p:Int) (b.length:Int)=some (bytesI (hd n c++q)):=by rw[gu (by omega) (by omega),List.take_length,hq]
 rw[e1,Option.bind_some,wz n c q hn hc hN,Option.bind_some]
 have eE:w64 ((w64 ((w64 ((p:Int)+11))+(n:Int)))+1)=((p+12+n:Nat):Int):=by
  rw[bE (n:=(p:Int)+11) (by omega) (by omega),bE (n:=(p:Int)+11+(n:Int)) (by omega) (by omega),bE (by omega) (by omega)];omega
 simp only[Bool.not_true,Bool.false_eq_true,if_false,eE]
 by_cases c1:q.length<n+1
 ·rw[if_pos (by simp only[decide_eq_true_eq];omega),if_pos c1]
  rfl
 rw[if_neg (by simp only[decide_eq_true_eq];omega),if_neg c1]
 have eL:w64 (((p+12+n:Nat):Int)-1)=((p+11+n:Nat):Int):=by rw[bE (by omega) (by omega)];omega
 have hx:b[p+11+n]? = some q[n]:=by
  have:(b.drop p)[11+n]? = some q[n]:=by
   rw[hq,List.getElem?_append_right (by rw[iZ];omega),iZ,show 11+n-11=n from by omega]
   simp
  rw[List.getElem?_drop]at this
  rw[← this];congr 1;omega
 rw[eL,o8 hx,Option.bind_some,Option.bind_some]
 have hqn:q[n]? = some q[n]:=List.getElem?_eq_getElem (by omega)
 by_cases c2:q[n]=10
 ·have t2:((q[n].toNat:Nat):Int)=10:=by rw[c2];rfl
  rw[if_neg (by simp[t2]),if_neg (by rw[hqn,c2];simp)]
  have e11:w64 ((p:Int)+11)=((p+11:Nat):Int):=by rw[bE (by omega) (by omega)];omega
  have eS:slc (bytesI b) (w64 ((p:Int)+11)) ((p+11+n:Nat):Int)=some (bytesI (q.take n)):=by
   rw[e11,gu (by omega) (by omega)]
   congr 2
   have h0:(b.take (p+11+n)).drop (p+11)=((b.drop p).drop 11).take n:=by
    rw[List.drop_drop,List.take_drop]
   rw[h0,hq]
   rfl
  rw[eL,eS,Option.bind_some,Db,o9 (q.take n) j (by rw[List.length_take];omega) (by omega) hN,Option.bind_some]
  have hlt:(q.take n).length=n:=by rw[List.length_take];omega
  rw[hlt]
  by_cases c3:c=chk (q.take n) j
  ·have d1:(decide ((DeskHead.mk (n:Int) (c:Int))=DeskHead.mk (n:Int) ((chk (q.take n) j:Nat):Int)))=true:=by rw[c3];simp
   have d2:¬c≠chk (q.take n) j:=by simpa using c3
   simp only[d1,if_neg d2,Bool.not_true,Bool.false_eq_true,if_false]
   by_cases c4:ls.length=50
   ·have d3:decide ((ls.length:Int)=50)=true:=by simp only[decide_eq_true_eq];omega
    rw[if_pos c4]
    simp only[d3,if_true]
   ·have d3:decide ((ls.length:Int)=50)=false:=by simp only[decide_eq_false_iff_not];omega
    simp only[d3,if_neg c4,Bool.false_eq_true,if_false]
    rw[nL (by simp;omega),Option.bind_some,fN (by omega)]
  ·have d1:(decide ((DeskHead.mk (n:Int) (c:Int))=DeskHead.mk (n:Int) ((chk (q.take n) j:Nat):Int)))=false:=by simp only[DeskHead.mk.injEq,true_and,decide_eq_false_iff_not];omega
   simp only[d1,if_pos c3,Bool.not_false,if_true]
 ·have t2:¬((q[n].toNat:Nat):Int)=10:=by
   intro e
   have h10:q[n].toNat=10:=by omega
   exact c2 (UInt8.toNat_inj.1 (by rw[h10];rfl))
  rw[if_pos (by simp[t2]),if_pos (by rw[hqn];simpa using c2)]
theorem short{b:List UInt8}{p j:Nat}{cc:Int}{ls:List (List UInt8)}{rec:(Int×Int×Int×(List (List UInt8)))→Option (Int×(List (List UInt8)))}
  (h:b.length≤p+11) (hp:p≤b.length) (hb:b.length≤15000):aP N (bytesI b) rec (p:Int) (j:Int) cc ls=some (cc,ls):=by
 have hbl:((bytesI b).length:Int)=(b.length:Int):=by simp[bytesI]
 unfold aP
 rw[hbl,if_neg (by rw[bE (by omega) (by omega)];simp only[decide_eq_true_eq];omega)]
def byt:List (List UInt8)→Nat
 | []=>0
 | s::r=>12+s.length+byt r
theorem sb:∀(l:List (List UInt8)) (i:Nat),(fw l i).length=byt l
 | [],_=>rfl
 | s::r,i=>by rw[fw,List.length_append,vz,sb r,byt]
end Go.Proofs.YtiaoloodgildeaaGreatDoor
namespace Go.Proofs.YtiaoloodgildeaaGreatDoor
open Go.Kp
variable {N:Nat}
theorem vC(lines:List (List UInt8))(hN:20000≤N):∃b,j0 N lines=some b∧(b=true→lines.length≤55∧∀s∈lines,s.length≤210):=by
 have key:∀(n i:Nat),i≤56→57-i≤n→∃b,aj (fun rec3 x=>bK N lines rec3 x) n (i:Int)=some b∧(b=true→lines.length≤55∧∀j x,i≤j→lines[j]? = some x→x.length≤210):=by
  intro n
  induction n with
  | zero=>intro i h1 h2;omega
  | succ n ih =>
   intro i h1 h2
   show ∃b,bK N lines (aj (fun rec3 x=>bK N lines rec3 x) n) (i:Int)=some b∧_
   unfold bK
   by_cases hi:i<lines.length
   ·rw[if_pos (by simp only[decide_eq_true_eq];omega),Option.bind_some]
    by_cases h56:i<56
    ·rw[if_pos (by simp only[decide_eq_true_eq];omega)]
     have hx:lines[i]? = some lines[i]:=List.getElem?_eq_getElem hi
     rw[ij hx,Option.bind_some]
     by_cases h210:210<lines[i].length
     ·rw[if_pos (by simp only[decide_eq_true_eq];omega)]
      exact⟨false,rfl,fun h=>by cases h⟩
     ·rw[if_neg (by simp only[decide_eq_true_eq];omega),fN (by omega)]
      obtain⟨b,hb,hq⟩:=ih (i+1) (by omega) (by omega)
      refine⟨b,hb,fun h=>⟨(hq h).1,fun j x hj hx'=>?_⟩⟩
      rcases Nat.lt_or_ge i j with h3 | h3
      ·exact(hq h).2 j x (by omega) hx'
      ·have:j=i:=by omega
       subst this
       rw[hx]at hx';cases hx';omega
    ·rw[if_neg (by simp only[decide_eq_true_eq];omega)]
     refine⟨_,rfl,fun h=>?_⟩
     simp only[decide_eq_true_eq]at h
     omega
   ·rw[if_neg (by simp only[decide_eq_true_eq];omega),Option.bind_some]
    refine⟨_,rfl,fun h=>⟨by simp only[decide_eq_true_eq]at h;omega,fun j x hj hx'=>?_⟩⟩
    have:=lP hx'
    omega
 obtain⟨b,hb,hq⟩:=key N 0 (by omega) (by omega)
 refine⟨b,hb,fun h=>⟨(hq h).1,fun s hs=>?_⟩⟩
 obtain⟨j,hj⟩:=List.getElem?_of_mem hs
 exact(hq h).2 j s (Nat.zero_le _) hj
theorem ud(lines:List (List UInt8))(hl:lines.length≤55)(hN:20000≤N):gz N lines=some (lines.all (fun s=>decide (s.length≤200))&&decide (lines.length≤50)):=by
 have key:=rY (N:=N) (R:=Bool) (B:=fun rec3 x=>bf N lines rec3 x) lines (fun(k:Nat)=>(k:Int)) (fun r=>some (r.all (fun s=>decide (s.length≤200))&&decide (lines.length≤50)))
  (fun rec=>by
   show bf N lines rec (lines.length:Int)=_
   unfold bf
   rw[if_neg (by simp)]
   simp[fc]
   omega)
  (fun i x rec hx h=>by
   have hlt:=lP hx
   show bf N lines rec (i:Int)=_
   unfold bf
   rw[if_pos (by simp only[decide_eq_true_eq];omega),ij hx,Option.bind_some]
   by_cases h200:200<x.length
   ·rw[if_pos (by simp only[decide_eq_true_eq];omega)]
    simp
    omega
   ·rw[if_neg (by simp only[decide_eq_true_eq];omega),fN (by omega),h]
    have:decide (x.length≤200)=true:=by simp only[decide_eq_true_eq];omega
    simp[this])
  (by omega)
 unfold gz
 simpa using key
theorem vD(a b:List (List UInt8))(ha:a.length≤1000)(hN:20000≤N):gN N a b=some (decide (a=b)):=by
 unfold gN
 by_cases hl:a.length=b.length
 ·rw[if_neg (by simp[hl])]
  have key:=o6 (N:=N) (R:=Bool) (B:=fun rec3 x=>bg N a b rec3 x) a (fun(k:Nat)=>(k:Int)) (fun k r=>some (decide (r=b.drop k)))
   (fun rec=>by
    show bg N a b rec (a.length:Int)=_
    unfold bg
    rw[if_neg (by simp)]
    simp[fu,hl])
   (fun i x rec hx h=>by
    have hlt:=lP hx
    have hy:b[i]? = some (b[i]'(by omega)):=List.getElem?_eq_getElem (by omega)
    show bg N a b rec (i:Int)=_
    unfold bg
    rw[if_pos (by simp only[decide_eq_true_eq];omega),ij hx,Option.bind_some,ij hy,Option.bind_some,fN (by omega),h]
    rw[List.drop_eq_getElem_cons (show i<b.length by omega)]
    by_cases hxy:x=b[i]'(by omega)
    ·simp only[hxy,decide_true,Bool.not_true,Bool.false_eq_true,if_false,List.cons.injEq,true_and]
    ·simp only[hxy,decide_false,Bool.not_false,if_true,List.cons.injEq,false_and])
   (by omega) 0 (by omega)
  simpa using key
 ·rw[if_pos (by simp;omega)]
  have:¬a=b:=fun e=>hl (by rw[e])
  simp[this]
end Go.Proofs.YtiaoloodgildeaaGreatDoor
namespace Go.Proofs.YtiaoloodgildeaaGreatDoor
open Go.Kp
variable {N:Nat}
def tx:Nat→Nat→List UInt8
 | 0,n=>[UInt8.ofNat (48+n)]
 | f+1,n=>if n<10 then [UInt8.ofNat (48+n)] else tx f (n / 10)++[UInt8.ofNat (48+n % 10)]
theorem EE:∀(f n:Nat),(tx f n).length≤f+1
 | 0,n=>by simp[tx]
 | f+1,n=>by
  rw[tx]
  split
  ·simp
  ·have:=EE f (n / 10);simp;omega
theorem E4{n:Nat}(h:n<10):mC ([Go.IntKind.wrap .u8 (w64 (48+(n:Int)))])=[UInt8.ofNat (48+n)]:=by
 have e:Int.tmod (n:Int) 10=(n:Int):=by rw[Int.tmod_eq_emod_of_nonneg (by omega)];omega
 have d:=dgt (n:=n) (by omega)
 rw[e,show n % 10=n from by omega]at d
 rw[d]
 exact qZ [48+n]
theorem Ek(hN:20000≤N):∀(f m n:Nat),n<10 ^ (f+1)→f+1≤6→f+1≤m→aj (fun rr x=>xV N rr x) m (n:Int)=some (tx f n)
 | f,0,n,_,_,h=>by omega
 | 0,m+1,n,h,_,_=>by
  show xV N _ (n:Int)=_
  unfold xV
  rw[if_neg (by simp only[decide_eq_true_eq];omega),if_pos (by simp only[decide_eq_true_eq];omega),E4 (by omega),tx]
 | f+1,m+1,n,h,h6,hm=>by
  show xV N (aj (fun rr x=>xV N rr x) m) (n:Int)=_
  have hbig:n<1000000:=Nat.lt_of_lt_of_le h (Nat.pow_le_pow_right (by omega) (by omega:f+1+1≤6))
  have e:Int.tmod (n:Int) 10=((n % 10:Nat):Int):=by rw[Int.tmod_eq_emod_of_nonneg (by omega)];omega
  have hq:n / 10<10 ^ (f+1):=by rw[Nat.pow_succ]at h;omega
  have hr:n % 10<10 ^ (f+1):=Nat.lt_of_lt_of_le (Nat.mod_lt _ (by omega)) (by have:=Nat.pow_le_pow_right (n:=10) (by omega) (show 1≤f+1 by omega);simpa using this)
  have htr:tx f (n % 10)=[UInt8.ofNat (48+n % 10)]:=by
   cases f with
   | zero=>rfl
   | succ f=>rw[tx,if_pos (by omega)]
  have hl:=EE f (n / 10)
  have i1:=Ek hN f m (n / 10) hq (by omega) (by omega)
  have i2:=Ek hN f m (n % 10) hr (by omega) (by omega)
  generalize aj (fun rr x=>xV N rr x) m=R at i1 i2 ⊢
  unfold xV
  rw[if_neg (by simp only[decide_eq_true_eq];omega)]
  by_cases h10:n<10
  ·rw[if_pos (by simp only[decide_eq_true_eq];omega),E4 h10,tx,if_pos h10]
  ·rw[if_neg (by simp only[decide_eq_true_eq];omega),dq hbig,i1,Option.bind_some,e,i2,Option.bind_some,htr,lS (by simp;omega),Option.bind_some,tx,if_neg h10]
theorem D4(hN:20000≤N)(many:Nat)(hmany:many≤10):∀(m:Nat) (s:List UInt8),many-s.length<m→s.length≤20→aj (fun rec3 x=>Cm N (many:Int) rec3 x) m s=some (List.replicate (many-s.length) 48++s)
 | 0,s,h,_=>by omega
 | m+1,s,h,hs=>by
  show Cm N (many:Int) (aj (fun rec3 x=>Cm N (many:Int) rec3 x) m) s=_
  have ih:s.length<many→_:=fun h'=>D4 hN many hmany m ([48]++s) (by simp;omega) (by simp;omega)
  generalize aj (fun rec3 x=>Cm N (many:Int) rec3 x) m=R at ih ⊢
  unfold Cm
  by_cases hl:s.length<many
  ·rw[if_pos (by simp only[decide_eq_true_eq];omega)]
   unfold Dc
   rw[lS (by simp;omega),Option.bind_some,ih hl]
   have e:many-s.length=(many-(([48]:List UInt8)++s).length)+1:=by simp;omega
   rw[e,List.replicate_succ']
   simp
  ·rw[if_neg (by simp only[decide_eq_true_eq];omega),show many-s.length=0 from by omega]
   rfl
theorem E5(n many:Nat)(hn:n<100000)(hmany:many≤10)(hN:20000≤N):C9 N (n:Int) (many:Int)=some (List.replicate (many-(tx 4 n).length) 48++tx 4 n):=by
 have hl:=EE 4 n
 unfold C9 yU
 rw[Ek hN 4 N n (by simpa using hn) (by omega) (by omega),Option.bind_some,D4 hN many hmany N (tx 4 n) (by omega) (by omega)]
 rfl
theorem tx4(n:Nat)(hn:n<100000):tx 4 n=if n<10 then [UInt8.ofNat (48+n % 10)] else if n<100 then [UInt8.ofNat (48+n / 10 % 10),UInt8.ofNat (48+n % 10)] else if n<1000 then [UInt8.ofNat (48+n / 100 % 10),UInt8.ofNat (48+n / 10 % 10),UInt8.ofNat (48+n % 10)]
  else if n<10000 then [UInt8.ofNat (48+n / 1000 % 10),UInt8.ofNat (48+n / 100 % 10),UInt8.ofNat (48+n / 10 % 10),UInt8.ofNat (48+n % 10)] else dg5 n:=by
 have e1:n / 10 / 10=n / 100:=by omega
 have e2:n / 100 / 10=n / 1000:=by omega
 have e3:n / 1000 / 10=n / 10000:=by omega
 by_cases h1:n<10
 ·rw[if_pos h1,tx,if_pos h1,show n % 10=n from by omega]
 rw[if_neg h1,tx,if_neg h1]
 by_cases h2:n<100
 ·rw[if_pos h2,tx,if_pos (by omega),show n / 10 % 10=n / 10 from by omega];rfl
 rw[if_neg h2,tx,if_neg (by omega),e1]
 by_cases h3:n<1000
 ·rw[if_pos h3,tx,if_pos (by omega),show n / 100 % 10=n / 100 from by omega];rfl
 rw[if_neg h3,tx,if_neg (by omega),e2]
 by_cases h4:n<10000
 ·rw[if_pos h4,tx,if_pos (by omega),show n / 1000 % 10=n / 1000 from by omega];rfl
 rw[if_neg h4,tx,if_neg (by omega),e3,tx,dg5,show n / 10000 % 10=n / 10000 from by omega];rfl
theorem zer{x:Nat}(h:x=0):UInt8.ofNat (48+x)=48:=by subst h;rfl
theorem Fm(n:Nat)(hn:n<1000)(hN:20000≤N):C9 N (n:Int) 3=some (dg3 n):=by
 have h:=E5 (N:=N) n 3 (by omega) (by omega) hN
 rw[show((3:Nat):Int)=3 from rfl]at h
 rw[h,tx4 n (by omega)]
 by_cases h1:n<10
 ·rw[if_pos h1,dg3,zer (x:=n / 100 % 10) (by omega),zer (x:=n / 10 % 10) (by omega)];rfl
 rw[if_neg h1]
 by_cases h2:n<100
 ·rw[if_pos h2,dg3,zer (x:=n / 100 % 10) (by omega)];rfl
 rw[if_neg h2,if_pos hn];rfl
theorem Fo(n:Nat)(hn:n<100000)(hN:20000≤N):C9 N (n:Int) 5=some (dg5 n):=by
 have h:=E5 (N:=N) n 5 (by omega) (by omega) hN
 rw[show((5:Nat):Int)=5 from rfl]at h
 rw[h,tx4 n (by omega)]
 by_cases h1:n<10
 ·rw[if_pos h1,dg5,zer (x:=n / 10000 % 10) (by omega),zer (x:=n / 1000 % 10) (by omega),zer (x:=n / 100 % 10) (by omega),zer (x:=n / 10 % 10) (by omega)];rfl
 rw[if_neg h1]
 by_cases h2:n<100
 ·rw[if_pos h2,dg5,zer (x:=n / 10000 % 10) (by omega),zer (x:=n / 1000 % 10) (by omega),zer (x:=n / 100 % 10) (by omega)];rfl
 rw[if_neg h2]
 by_cases h3:n<1000
 ·rw[if_pos h3,dg5,zer (x:=n / 10000 % 10) (by omega),zer (x:=n / 1000 % 10) (by omega)];rfl
 rw[if_neg h3]
 by_cases h4:n<10000
 ·rw[if_pos h4,dg5,zer (x:=n / 10000 % 10) (by omega)];rfl
 rw[if_neg h4];rfl
theorem Du(s:List UInt8)(i:Nat)(hs:s.length≤999)(hi:i≤5000)(hN:20000≤N):Da N s i=some (rc s i):=by
 have key:=lO (N:=N) (R:=Int) (B:=fun rec3 x=>CI N s rec3 x.1 x.2) s (fun(k:Nat) (a:Int)=>(a,(k:Int)))
  (fun r a=>some (a+(sm r (s.length-r.length):Nat))) (fun k a=>0≤a∧a≤2000000*((k:Int)+1))
  (fun a rec _=>by simp[CI,sm])
  (fun k c a rec hx ha h=>by
   have hlt:=lP hx
   have hc:=c.toNat_lt
   have hp:(k+2)*(c.toNat+1)≤5002*256:=Nat.mul_le_mul (by omega) (by omega)
   unfold CI
   rw[if_pos (by simp only[decide_eq_true_eq];omega),ij hx,Option.bind_some]
   have e1:w64 ((k:Int)+2)=((k+2:Nat):Int):=by rw[bE (by omega) (by omega)];omega
   have e2:w64 (w64 (c.toNat:Int)+1)=((c.toNat+1:Nat):Int):=by rw[bE (n:=(c.toNat:Int)) (by omega) (by omega),bE (by omega) (by omega)];omega
   have e3:w64 (((k+2:Nat):Int)*((c.toNat+1:Nat):Int))=(((k+2)*(c.toNat+1):Nat):Int):=by rw[← Int.natCast_mul,bE (by omega) (by omega)]
   have e4:w64 (a+(((k+2)*(c.toNat+1):Nat):Int))=a+(((k+2)*(c.toNat+1):Nat):Int):=bE (by omega) (by omega)
   rw[e1,e2,e3,e4,fN (by omega),h _ ⟨by omega,by omega⟩]
   simp only[List.length_cons,List.length_drop,sm,Option.some.injEq]
   rw[show s.length-(s.length-(k+1)+1)=k from by omega,show s.length-(s.length-(k+1))=k+1 from by omega]
   push_cast
   omega)
  (by omega) (13*((i:Int)+1)) ⟨by omega,by omega⟩
 unfold Da
 have e0:w64 (13*w64 ((i:Int)+1))=13*((i:Int)+1):=by rw[bE (n:=(i:Int)+1) (by omega) (by omega),bE (by omega) (by omega)]
 rw[e0]
 simp only[Nat.sub_self]at key
 simp only[Int.natCast_zero]at key
 have e5:Int.tmod (13*((i:Int)+1)+((sm s 0:Nat):Int)) 99989=((chk s i:Nat):Int):=by
  rw[show 13*((i:Int)+1)+((sm s 0:Nat):Int)=((13*(i+1)+sm s 0:Nat):Int)from by push_cast;omega]
  rfl
 rw[key,Option.bind_some,Fm s.length (by omega) hN,Option.bind_some,e5]
 rw[lS (by simp[dg3];omega),Option.bind_some,lS (by simp[dg3];omega),Option.bind_some,Fo (chk s i) (vu s i) hN,Option.bind_some]
 rw[lS (by simp[dg3,dg5];omega),Option.bind_some,lS (by simp[dg3,dg5];omega),Option.bind_some,lS (by simp[dg3,dg5];omega),Option.bind_some,lS (by simp[dg3,dg5];omega),Option.bind_some]
 rfl
theorem Fa(lines:List (List UInt8))(hl:lines.length≤55)(hs:∀s∈lines,s.length≤210)(hN:20000≤N):Di N lines=some (fw lines 0):=by
 have key:=lO (N:=N) (R:=List UInt8) (B:=fun rec3 x=>CS N lines rec3 x.1 x.2) lines (fun(k:Nat) (a:List UInt8)=>(a,(k:Int)))
  (fun r a=>some (a++fw r (lines.length-r.length))) (fun k a=>a.length≤222*k)
  (fun a rec _=>by simp[CS,fw])
  (fun k s a rec hx ha h=>by
   have hlt:=lP hx
   have h210:=hs s (List.mem_of_getElem? hx)
   have hrl:=vz s k
   unfold CS
   rw[if_pos (by simp only[decide_eq_true_eq];omega),ij hx,Option.bind_some,Du s k (by omega) (by omega) hN,Option.bind_some,lS (by show a.length+(rc s k).length≤N;omega),Option.bind_some,fN (by omega),h _ (by simp;omega)]
   simp only[List.length_cons,List.length_drop,fw,Option.some.injEq]
   rw[show lines.length-(lines.length-(k+1)+1)=k from by omega,show lines.length-(lines.length-(k+1))=k+1 from by omega,List.append_assoc])
  (by omega) [] (by simp)
 unfold Di
 simp only[Int.natCast_zero,Nat.sub_self,List.nil_append]at key
 rw[key];rfl
end Go.Proofs.YtiaoloodgildeaaGreatDoor
namespace Go.Proofs.YtiaoloodgildeaaGreatDoor
open Go.Kp
variable {N:Nat}
def V (b:List UInt8)(p j n:Nat):Prop:=n≤200∧p+12+n≤b.length∧(b.drop p).take (12+n)=rc ((b.drop (p+11)).take n) j
theorem Er{b:List UInt8}{p n:Nat}(h:p+12+n≤b.length):((b.drop (p+11)).take n).length=n:=by rw[List.length_take,List.length_drop];omega
theorem E1{b:List UInt8}{p j n:Nat}(h:V b p j n):b.drop p=hd n (chk ((b.drop (p+11)).take n) j)++b.drop (p+11):=by
 obtain⟨_,h2,h3⟩:=h
 have e1:(b.drop p).take 11=hd n (chk ((b.drop (p+11)).take n) j):=by
  have:=congrArg (List.take 11) h3
  rw[List.take_take,show min 11 (12+n)=11 from by omega]at this
  rw[this,rc,Er h2,List.append_assoc]
  rfl
 have e2:(b.drop p).drop 11=b.drop (p+11):=by rw[List.drop_drop]
 rw[← e1,← e2,List.take_append_drop]
theorem Fp{b:List UInt8}{p j n:Nat}(h:V b p j n):(b.drop (p+11))[n]? = some 10:=by
 obtain⟨_,h2,h3⟩:=h
 have:=congrArg (fun l=>l[11+n]?) h3
 change((b.drop p).take (12+n))[11+n]? = (rc ((b.drop (p+11)).take n) j)[11+n]? at this
 rw[List.getElem?_take,if_pos (by omega),rc,Er h2,List.getElem?_append_right (by rw[List.length_append,iZ,Er h2];omega),List.length_append,iZ,Er h2,Nat.sub_self,List.getElem?_drop]at this
 rw[List.getElem?_drop,← Nat.add_assoc]at *
 simpa [Nat.add_assoc]using this
theorem Fq{b:List UInt8}{p j n c:Nat}{q:List UInt8}(hq:b.drop p=hd n c++q)(hn:n≤200)(h1:n+1≤q.length)(h2:q[n]? = some 10)(h3:c=chk (q.take n) j):V b p j n:=by
 have hL:=congrArg List.length hq
 rw[List.length_drop,List.length_append,iZ]at hL
 have hq2:b.drop (p+11)=q:=by rw[← List.drop_drop,hq];rfl
 refine⟨hn,by omega,?_⟩
 rw[hq2,hq,List.take_append,iZ,List.take_of_length_le (by rw[iZ];omega),show 12+n-11=n+1 from by omega,List.take_add_one,h2,rc,← h3]
 have:(q.take n).length=n:=by rw[List.length_take];omega
 rw[this]
 simp
theorem Fj{n c n' c':Nat}{q q':List UInt8}(hn:n<1000)(hn':n'<1000)(h:hd n c++q=hd n' c'++q'):n=n':=by
 have h1:=congrArg (fun l=>l[1]?) h
 have h2:=congrArg (fun l=>l[2]?) h
 have h3:=congrArg (fun l=>l[3]?) h
 simp[hd,dg3]at h1 h2 h3
 have k:∀a b:Nat,a<10→b<10→UInt8.ofNat a=UInt8.ofNat b→a=b:=fun a b ha hb e=>by
  have:=congrArg UInt8.toNat e
  simp[UInt8.toNat_ofNat']at this;omega
 have a1:=k _ _ (by omega) (by omega) h1
 have a2:=k _ _ (by omega) (by omega) h2
 have a3:=k _ _ (by omega) (by omega) h3
 omega
theorem Fk{b:List UInt8}{p j n n':Nat}(h:V b p j n)(h':V b p j n'):n=n' :=
 Fj (by have:=h.1;omega) (by have:=h'.1;omega) ((E1 h).symm.trans (E1 h'))
theorem Ee{b:List UInt8}{p j n:Nat}{cc:Int}{ls:List (List UInt8)}{rec:(Int×Int×Int×(List (List UInt8)))→Option (Int×(List (List UInt8)))}(h:V b p j n)(hb:b.length≤15000)(hj:j≤60)(hls:ls.length≤50)(hN:20000≤N) :
  aP N (bytesI b) rec (p:Int) (j:Int) cc ls=if ls.length=50 then some (cc,ls)else rec (((p+12+n:Nat):Int),((j+1:Nat):Int),((p+12+n:Nat):Int),ls++[(b.drop (p+11)).take n]):=by
 have h2:=h.2.1
 have hl:(b.drop (p+11)).length=b.length-(p+11):=List.length_drop
 rw[step (E1 h) (by omega) h.1 (vu _ _) hb hj hls hN,if_neg (by omega),Fp h,if_neg (by simp),if_neg (by simp)]
theorem Ez:∀(l:List UInt8) (acc u:Nat),Go.Lib.parseUint10 acc l=.ok u→u<(acc+1)*10 ^ l.length
 | [],acc,u,h=>by simp only[Go.Lib.parseUint10]at h;injection h with h;simp;omega
 | c::r,acc,u,h=>by
  simp only[Go.Lib.parseUint10]at h
  split at h
  ·split at h
   ·cases h
   ·split at h
    ·cases h
    ·have:=Ez r _ u h
     refine Nat.lt_of_lt_of_le this ?_
     rw[List.length_cons,Nat.pow_succ,Nat.mul_comm (10 ^ r.length) 10,← Nat.mul_assoc]
     exact Nat.mul_le_mul_right _ (by omega)
  ·cases h
theorem Fl{l:List UInt8}{u:Nat}(hl:l.length≤5)(hu:Go.Lib.parseMag l=.ok u):u<100000:=by
 unfold Go.Lib.parseMag at hu
 split at hu
 ·cases hu
 ·have:=Ez _ 0 u hu
  have hp:=Nat.pow_le_pow_right (n:=10) (by omega) hl
  omega
theorem Fg{l:List UInt8}{r:Int}(hl:l.length≤5)(h:nV N l=some (.inl r)):r<100000:=by
 have e:Go.Lib.atoiAll l=.ok r:=by
  unfold nV at h
  split at h
  ·split at h
   ·rename_i v e;cases h;exact e
   ·cases h
   ·cases h
  ·cases h
 cases l with
 | nil=>cases e
 | cons c t =>
  have hlen:(if c.toNat=43∨c.toNat=45 then t else c::t).length≤5:=by
   split
   ·simp at hl;omega
   ·exact hl
  simp only[Go.Lib.atoiAll]at e
  generalize hM:Go.Lib.parseMag (if c.toNat=43∨c.toNat=45 then t else c::t)=M at e
  cases M with
  | ok u =>
   have hu2:=Fl hlen hM
   simp only at e
   split at e
   ·cases e
   ·split at e
    ·cases e
    ·injection e with e
     rw[← e];split<;>omega
  | _=>cases e
theorem EA(l:List UInt8)(hl:l.length≤N):(∃r,nV N l=some (.inl r))∨∃r,nV N l=some (.inr r):=by
 unfold nV
 rw[if_pos hl]
 split
 ·exact .inl ⟨_,rfl⟩
 ·exact .inr ⟨_,rfl⟩
 ·exact .inr ⟨_,rfl⟩
theorem A7(t:List UInt8)(ht:12≤t.length)(hN:20000≤N):(∃h:DeskHead,∃m:Int,h.fLong=m∧jF N (bytesI t)=some (h,false)∧-1000000≤m∧m≤1000000)∨∃n c q,n≤200∧c<100000∧t=hd n c++q:=by
 have e1:slc (bytesI t) 1 4=some (bytesI ((t.take 4).drop 1)):=gu (a:=1) (b:=4) (by omega) (by omega)
 have e2:slc (bytesI t) 5 10=some (bytesI ((t.take 10).drop 5)):=gu (a:=5) (b:=10) (by omega) (by omega)
 have e3:slc (bytesI t) 0 11=some (bytesI (t.take 11)):=(gu (a:=0) (b:=11) (by omega) (by omega)).trans (by simp)
 have l1:((t.take 4).drop 1).length≤5:=by simp;omega
 have l2:((t.take 10).drop 5).length≤5:=by simp;omega
 unfold jF
 simp only[e1,e2,e3,Option.bind_some,Db]
 rcases EA (N:=N) ((t.take 4).drop 1) (by omega)with⟨r,h1⟩ | ⟨r,h1⟩<;>rcases EA (N:=N) ((t.take 10).drop 5) (by omega)with⟨r2,h2⟩ | ⟨r2,h2⟩<;>simp only[h1,h2,Option.bind_some]
 ·unfold cJ
  by_cases c1:0≤r
  ·by_cases c2:r≤200
   ·by_cases c3:r2<0
    ·left;exact⟨DeskHead.mk 0 0,0,rfl,by simp[c1,c2,c3],by omega,by omega⟩
    ·have b2:=Fg l2 h2
     obtain⟨n,rfl⟩:∃n:Nat,r=n:=⟨r.toNat,by omega⟩
     obtain⟨c,rfl⟩:∃c:Nat,r2=c:=⟨r2.toNat,by omega⟩
     by_cases c4:hd n c=t.take 11
     ·right
      exact⟨n,c,t.drop 11,by omega,by omega,by rw[c4,List.take_append_drop]⟩
     ·left
      refine⟨DeskHead.mk n c,n,rfl,?_,by omega,by omega⟩
      simp[c1,c2,c3,mn n c (by omega) (by omega) hN,c4]
   ·left;exact⟨DeskHead.mk 0 0,0,rfl,by simp[c1,c2],by omega,by omega⟩
  ·left;exact⟨DeskHead.mk 0 0,0,rfl,by simp[c1],by omega,by omega⟩
 ·left;exact⟨DeskHead.mk 0 0,0,rfl,by simp,by omega,by omega⟩
 ·left;exact⟨DeskHead.mk 0 0,0,rfl,by simp,by omega,by omega⟩
 ·left;exact⟨DeskHead.mk 0 0,0,rfl,by simp,by omega,by omega⟩
theorem EB{b:List UInt8}{p j:Nat}{cc:Int}{ls:List (List UInt8)}{rec:(Int×Int×Int×(List (List UInt8)))→Option (Int×(List (List UInt8)))}(h:∀n,¬V b p j n)(hp:p≤b.length)(hb:b.length≤15000)(hj:j≤60)(hls:ls.length≤50)(hN:20000≤N) :
  aP N (bytesI b) rec (p:Int) (j:Int) cc ls=some (cc,ls):=by
 by_cases h11:b.length≤p+11
 ·exact short h11 hp hb
 have hbl:((bytesI b).length:Int)=(b.length:Int):=by simp[bytesI]
 rcases A7 (N:=N) (b.drop p) (by rw[List.length_drop];omega) hN with⟨hh,m,hm,hr,_,_⟩ | ⟨n,c,q,hn,hc,hq⟩
 ·unfold aP
  rw[hbl,if_pos (by rw[bE (by omega) (by omega)];simp only[decide_eq_true_eq];omega)]
  have e1:slc (bytesI b) (p:Int) (b.length:Int)=some (bytesI (b.drop p)):=by rw[gu (by omega) (by omega),List.take_length]
  rw[e1,Option.bind_some,hr,Option.bind_some]
  rfl
 ·have hL:=congrArg List.length hq
  rw[List.length_drop,List.length_append,iZ]at hL
  rw[step hq (by omega) hn hc hb hj hls hN]
  by_cases c1:q.length<n+1
  ·rw[if_pos c1]
  rw[if_neg c1]
  by_cases c2:q[n]? = some 10
  ·rw[if_neg (by simpa using c2)]
   by_cases c3:c=chk (q.take n) j
   ·exact absurd (Fq hq hn (by omega) c2 c3) (h n)
   ·rw[if_pos c3]
  ·rw[if_pos c2]
end Go.Proofs.YtiaoloodgildeaaGreatDoor
namespace Go.Proofs.YtiaoloodgildeaaGreatDoor
open Go.Kp
set_option maxRecDepth 100000
theorem dN{σ R:Type}{b:(σ→WP R)→σ→WP R}{n:Nat}{x:σ}{Q:R→Prop}(h:b (aG b n) x Q):aG b (n+1) x Q:=h
theorem br{α R:Type}{x:Option α}{a:α}{k:α→WP R}{Q:R→Prop}(e:x=some a)(h:k a Q):dO x k Q:=⟨a,e,h⟩
theorem lR{α R:Type}{a:WP R}{b:α→List α→WP R}{Q:R→Prop}(h:a Q):mq [] a b Q:=⟨fun _=>h,fun pre e post hs=>by cases pre<;>cases hs⟩
theorem o7{α R:Type}{x:α}{a:WP R}{b:α→List α→WP R}{Q:R→Prop}(h:b x [] Q):mq [x] a b Q:=by
 refine⟨fun e=>(by cases e),fun pre e post hs=>?_⟩
 cases pre with
 | nil=>cases hs;exact h
 | cons y l=>cases l<;>cases hs
theorem vo{α R:Type}{x:WP α}{k:α→WP R}{Q:R→Prop}(h:x fun a=>k a Q):Go.Kp.bindW x k Q:=h
theorem WGood.bindW{α R:Type}{x:WP α}{k:α→WP R}(hx:WGood x)(h:∀a,WGood (k a)):WGood (Go.Kp.bindW x k) :=
 ⟨fun q=>hx.no (hx.mono _ _ (fun a z=>((h a).no z).elim) q),fun P Q p q=>hx.mono _ _ (fun a z=>(h a).and P Q z.1 z.2) (hx.and _ _ p q),fun P Q m p=>hx.mono _ _ (fun a z=>(h a).mono P Q m z) p⟩
theorem wZ{R:Type}{c:Prop}[Decidable c]{a b:WP R}{Q:R→Prop}(hc:¬c)(h:b Q):(if c then a else b) Q:=by rw[if_neg hc];exact h
theorem qY:gh 30000 (RateBook.mk (RateLaw.mk 90 80 40 3 5) [70,60] [] [])=some ([],0):=by
 unfold gh
 refine vF ?_ ?_
 ·refine WGood.bindO fun z=>?_
  obtain⟨_,_,_,_,_,_,_,_,_,_⟩:=z
  refine .ite (.ret _) (WGood.loop (fun rec x hr=>?_) _ _)
  unfold bx cx
  exact .next (.bindO fun _=>.ret _) fun⟨_,_⟩ _=>.bindO fun _=>hr _
 ·unfold fp
  refine br (a:=(0,90,80,40,3,5,[70,60],[],[],[])) (by kernel_rfl) ?_
  dsimp only
  refine wZ (by decide) ?_
  refine dN (n:=29999) ?_
  unfold bx
  refine lR ?_
  unfold cx
  refine br (a:=[]) (by simp[sortI]) ?_
  rfl
theorem ua(N:Nat)(c1 c2 c3:Int)(c4:List LadderResult)(c5:List LadderPair)(m1:List (Int×LadderResult))(l1:List (Ar2 Int)):WGood (cB N c1 c2 c3 c4 c5 m1 l1):=by
 unfold cB
 refine WGood.loop (fun rec x hr=>?_) _ _
 unfold am
 refine .ite (.bindO fun _=>.bindO fun _=>WGood.loop (fun rec2 y hr2=>?_) _ _) (by unfold cf;exact .ret _)
 unfold au
 refine .next (by unfold cY;exact hr _) (fun⟨_,_⟩ _=>.bindO fun _=>WGood.loop (fun rec3 z hr3=>?_) _ _)
 unfold aw
 have k3:∀a b,WGood (bi N rec3 a b):=fun a b=>by unfold bi;exact hr3 _
 have k4:∀a b c d e f,WGood (bj N a rec3 b c d e f):=fun a b c d e f=>by unfold bj;exact .ite (k3 _ _) (k3 _ _)
 have k5:∀a b c d e,WGood (bl N a rec3 b c d e):=fun a b c d e=>by unfold bl;exact .bindO fun⟨_,_⟩=>.ite (k4 ..) (k4 ..)
 have k6:∀a b c d e f,WGood (bn N a rec3 b c d e f):=fun a b c d e f=>by unfold bn;exact .ite (.bindO fun _=>k5 ..) (k5 ..)
 have k7:∀a b c d e f g h,WGood (bp N a b rec3 c d e f g h):=fun a b c d e f g h=>by unfold bp;exact .ite (k3 _ _) (.bindO fun _=>.ite (k6 ..) (k6 ..))
 have k8:∀a b c d e f g,WGood (aV N a b rec3 c d e f g):=fun a b c d e f g=>by unfold aV;exact .bindO fun _=>.ite (k7 ..) (k7 ..)
 have k9:∀a b c d e f g h i j,WGood (bq N a b c rec3 d e f g h i j):=fun a b c d e f g h i j=>by unfold bq;exact .ite (k8 ..) (k8 ..)
 have k10:∀a b c d e f g h i,WGood (aY N a b c rec3 d e f g h i):=fun a b c d e f g h i=>by unfold aY;exact .bindO fun⟨_,_⟩=>.ite (k9 ..) (k9 ..)
 have k11:∀a b c d e f g h i j,WGood (aZ N a b c rec3 d e f g h i j):=fun a b c d e f g h i j=>by unfold aZ;exact .ite (.bindO fun _=>k10 ..) (k10 ..)
 have k12:∀a b c d e f g h i,WGood (ba N a b c rec3 d e f g h i):=fun a b c d e f g h i=>by unfold ba;exact .ite (k8 ..) (.bindO fun _=>.ite (k11 ..) (k11 ..))
 exact .next (hr2 _) fun⟨_,_⟩ _=>.bindO fun _=>.bindO fun _=>.ite (k12 ..) (k12 ..)
theorem vp(N:Nat)(c1 c2 c3:Int)(c4:List LadderResult)(c5:List LadderPair)(m1:List (Int×LadderResult))(l1:List (Ar2 Int)):WGood (cC N c1 c2 c3 c4 c5 m1 l1):=by
 unfold cC
 refine WGood.bindW (ua ..) fun m=>WGood.loop (fun rec x hr=>?_) _ _
 unfold aO
 have k2:∀a b,WGood (bG N a rec b):=fun a b=>by unfold bG;exact hr _
 refine .ite (.bindO fun _=>.bindO fun⟨_,_⟩=>.ite (.bindO fun _=>k2 _ _) (k2 _ _)) (by unfold cg;exact .ret _)
theorem ift{R:Type}{c:Bool}{a b:WP R}{Q:R→Prop}(hc:c=true)(h:a Q):(if c=true then a else b) Q:=by rw[if_pos hc];exact h
theorem ife{R:Type}{c:Bool}{a b:WP R}{Q:R→Prop}(hc:c=false)(h:b Q):(if c=true then a else b) Q:=by rw[if_neg (by rw[hc];decide)];exact h
def P2:LadderPair:=LadderPair.mk (LadderSide.mk 0 (-1)) (LadderSide.mk 1 (-1))
theorem w6:fq 30000 1 2 1 [] [LadderPair.mk (LadderSide.mk 0 (-1)) (LadderSide.mk 1 (-1))] [] [Ar2.mk 0 1]=some [0,1]:=by
 unfold fq
 refine vF (vp ..) ?_
 unfold cC
 refine vo ?_
 unfold cB
 refine dN (n:=29999) ?_
 unfold am
 refine ift (by kernel_rfl) ?_
 refine br (a:=P2) (by kernel_rfl) ?_
 refine br (a:=[(0,0)]) (by kernel_rfl) ?_
 refine dN (n:=29999) ?_
 unfold au
 refine o7 ?_
 dsimp only
 refine br (a:=[(1,0)]) (by kernel_rfl) ?_
 refine dN (n:=29999) ?_
 unfold aw
 refine o7 ?_
 dsimp only
 refine br (a:=-1) (by kernel_rfl) ?_
 refine br (a:=Ar2.mk 0 1) (by kernel_rfl) ?_
 refine ife (by kernel_rfl) ?_
 unfold ba
 refine ife (by kernel_rfl) ?_
 refine br (a:=0) (by kernel_rfl) ?_
 refine ift (by kernel_rfl) ?_
 unfold aZ
 refine ife (by kernel_rfl) ?_
 unfold aY
 refine br (a:=(LadderCheapest.mk 0 0,false)) (by kernel_rfl) ?_
 dsimp only
 refine ift (by kernel_rfl) ?_
 unfold bq
 refine ift (by kernel_rfl) ?_
 unfold aV
 refine br (a:=Ar2.mk 1 0) (by kernel_rfl) ?_
 refine ife (by kernel_rfl) ?_
 unfold bp
 refine ife (by kernel_rfl) ?_
 refine br (a:=0) (by kernel_rfl) ?_
 refine ift (by kernel_rfl) ?_
 unfold bn
 refine ift (by kernel_rfl) ?_
 refine br (a:=1) (by kernel_rfl) ?_
 unfold bl
 refine br (a:=(LadderCheapest.mk 0 0,false)) (by kernel_rfl) ?_
 dsimp only
 refine ift (by kernel_rfl) ?_
 unfold bj
 refine ift (by kernel_rfl) ?_
 change aG _ 29999 _ _
 refine dN (n:=29998) ?_
 try unfold aw
 refine lR ?_
 change aG _ 29999 _ _
 refine dN (n:=29998) ?_
 try unfold au
 refine lR ?_
 change aG _ 29999 _ _
 refine dN (n:=29998) ?_
 try unfold am
 refine ife (by kernel_rfl) ?_
 try unfold cf ug
 change aG _ 30000 _ _
 refine dN (n:=29999) ?_
 try unfold aO
 refine ift (by kernel_rfl) ?_
 refine br (a:=0) (by kernel_rfl) ?_
 refine br (a:=(LadderCheapest.mk 0 1,true)) (by kernel_rfl) ?_
 dsimp only
 refine ift (by kernel_rfl) ?_
 refine br (a:=[0]) (by kernel_rfl) ?_
 change aG _ 29999 _ _
 refine dN (n:=29998) ?_
 try unfold aO
 refine ift (by kernel_rfl) ?_
 refine br (a:=0) (by kernel_rfl) ?_
 refine br (a:=(LadderCheapest.mk 1 0,true)) (by kernel_rfl) ?_
 dsimp only
 refine ift (by kernel_rfl) ?_
 refine br (a:=[0,1]) (by kernel_rfl) ?_
 change aG _ 29998 _ _
 refine dN (n:=29997) ?_
 try unfold aO
 refine ife (by kernel_rfl) ?_
 try unfold cg
 rfl
theorem bind_ok{α β:Type}{x:Option α}{a:α}{f:α→Option β}{r:Option β}(e:x=some a)(h:f a=r):Option.bind x f=r:=by rw[e];exact h
theorem ofe{β:Type}{c:Bool}{a b r:Option β}(hc:c=false)(h:b=r):(if c=true then a else b)=r:=by rw[if_neg (by rw[hc];decide)];exact h
theorem oft{β:Type}{c:Bool}{a b r:Option β}(hc:c=true)(h:a=r):(if c=true then a else b)=r:=by rw[if_pos hc];exact h
def G7:List (List UInt8):=[[98,111,119,108,101,114,32,55,48],[98,111,119,108,101,114,32,54,48],[111,112,101,110,32,49,32,48],[98,97,108,108,32,49,32,49,48],[98,97,108,108,32,49,32,55],[98,97,108,108,32,49,32,51],[98,97,108,108,32,49,32,52]]
def G8:List (List UInt8):=G7++[[98,97,108,108,32,49,32,53]]
def G12:List (List UInt8):=G8++[[98,97,108,108,32,49,32,50],[111,112,101,110,32,49,32,49],[99,108,111,115,101,32,49],[99,108,111,115,101,32,49]]
def W7:DeskWork:=DeskWork.mk (DeskState.mk [70,60] [(DeskLane.mk (-1) []),(DeskLane.mk 0 [10,7,3,4]),(DeskLane.mk (-1) []),(DeskLane.mk (-1) [])] [[],[]] [] [] [])
def R7:List UInt8:=[108,97,110,101,32,49,32,98,111,119,108,101,114,32,48,32,99,111,117,110,116,115,32,50,48,32,51,52,10,98,111,119,108,101,114,32,48,32,107,101,112,116,32,48,32,115,104,101,101,116,115,32,48,10,98,111,119,108,101,114,32,49,32,107,101,112,116,32,48,32,115,104,101,101,116,115,32,48,10,100,117,101,108,115,32,48,32,49,10]
theorem ub:eM 30000 (LadderCup.mk 1 2 1 [])=some ([0,1],0):=by
 unfold eM
 refine bind_ok (a:=(0,1,2,1,[],[LadderPair.mk (LadderSide.mk 0 (-1)) (LadderSide.mk 1 (-1))],[],[Ar2.mk 0 1])) (by kernel_rfl) ?_
 dsimp only
 refine ofe (by kernel_rfl) ?_
 exact bind_ok w6 rfl
theorem uc:gM 30000 G7=some (R7,0):=by
 unfold gM
 refine bind_ok (a:=0) (by kernel_rfl) ?_
 refine ofe (by kernel_rfl) ?_
 refine bind_ok (a:=([0,0,0,0,0,0,0],W7)) (by kernel_rfl) ?_
 dsimp only
 refine bind_ok (a:=[108,97,110,101,32,49,32,98,111,119,108,101,114,32,48,32,99,111,117,110,116,115,32,50,48,32,51,52,10]) (by kernel_rfl) ?_
 refine bind_ok (a:=RateBook.mk (RateLaw.mk 90 80 40 3 5) [70,60] [] []) (by kernel_rfl) ?_
 refine bind_ok qY ?_
 dsimp only
 refine bind_ok (a:=[108,97,110,101,32,49,32,98,111,119,108,101,114,32,48,32,99,111,117,110,116,115,32,50,48,32,51,52,10,98,111,119,108,101,114,32,48,32,107,101,112,116,32,48,32,115,104,101,101,116,115,32,48,10,98,111,119,108,101,114,32,49,32,107,101,112,116,32,48,32,115,104,101,101,116,115,32,48,10]) (by kernel_rfl) ?_
 refine bind_ok (a:=R7) ?_ (by kernel_rfl)
 refine oft (by kernel_rfl) ?_
 refine bind_ok (a:=LadderCup.mk 1 2 1 []) (by kernel_rfl) ?_
 refine bind_ok ub ?_
 kernel_rfl
theorem vr:cL 30000=some true:=by
 unfold cL
 refine bind_ok (a:=G8) (by kernel_rfl) ?_
 refine bind_ok (a:=G12) (by kernel_rfl) ?_
 refine bind_ok (a:=(DeskState.mk [70,60] [(DeskLane.mk (-1) []),(DeskLane.mk (-1) []),(DeskLane.mk (-1) []),(DeskLane.mk (-1) [])] [[43],[]] [] [] [],[0,0,0,0,0,0,0,0,10,6,0,8],0)) (by kernel_rfl) ?_
 dsimp only
 refine bind_ok (a:=G8) (by kernel_rfl) ?_
 refine bind_ok (a:=G7) (by kernel_rfl) ?_
 refine bind_ok (a:=([20,34],38,54,0)) (by kernel_rfl) ?_
 dsimp only
 refine bind_ok (a:=G8) (by kernel_rfl) ?_
 refine bind_ok (a:=(70,16,0)) (by kernel_rfl) ?_
 dsimp only
 refine bind_ok (a:=G8) (by kernel_rfl) ?_
 refine bind_ok (a:=G7) (by kernel_rfl) ?_
 refine bind_ok uc ?_
 dsimp only
 refine bind_ok (a:=([60,48,48,49,124,48,48,50,48,57,62,97,10],0)) (by kernel_rfl) ?_
 kernel_rfl
end Go.Proofs.YtiaoloodgildeaaGreatDoor
namespace Go.Proofs.YtiaoloodgildeaaGreatDoor
open Go.Kp
variable {N:Nat}
theorem DH{s:List UInt8}{a b:Nat}(h1:a≤b)(h2:b≤s.length):E9 s (a:Int) (b:Int)=some ():=by unfold E9;rw[if_pos ⟨by omega,by omega,by omega⟩]
theorem DN(s:List UInt8)(a n:Nat):Fb s (a:Int) ((a+n:Nat):Int)=(s.drop a).take n:=by
 unfold Fb
 simp only[Int.toNat_natCast]
 rw[List.take_drop]
theorem Ej{b:List UInt8}{p:Nat}{ls:List (List UInt8)}(hb:b.length≤15000)(hp:p≤b.length)(hls:ls.length≤50)(hN:20000≤N){n:Nat}(hV:V b p ls.length n):∀(m k:Nat),k≤n→n+1-k<m →
  aj (fun rec41 x=>yc N b rec41 x.1 x.2.1 x.2.2.1 x.2.2.2) m ((p:Int),false,(k:Int),ls)=some (((p+12+n:Nat):Int),true,ls++[(b.drop (p+11)).take n])
 | 0,k,_,h=>by omega
 | m+1,k,hk,hm=>by
  have h2:=hV.2.1
  have h1:=hV.1
  show yc N b (aj (fun rec41 x=>yc N b rec41 x.1 x.2.1 x.2.2.1 x.2.2.2) m) (p:Int) false (k:Int) ls=_
  have ih:k+1≤n→aj (fun rec41 x=>yc N b rec41 x.1 x.2.1 x.2.2.1 x.2.2.2) m ((p:Int),false,((k+1:Nat):Int),ls)=some (((p+12+n:Nat):Int),true,ls++[(b.drop (p+11)).take n]):=fun h=>Ej hb hp hls hN hV m (k+1) h (by omega)
  have last:k=n→aj (fun rec41 x=>yc N b rec41 x.1 x.2.1 x.2.2.1 x.2.2.2) m (((p+12+n:Nat):Int),true,((n+1:Nat):Int),ls++[(b.drop (p+11)).take n])=some (((p+12+n:Nat):Int),true,ls++[(b.drop (p+11)).take n]):=by
   intro hkn
   obtain⟨m',rfl⟩:∃m',m=m'+1:=⟨m-1,by omega⟩
   show yc N b _ ((p+12+n:Nat):Int) true ((n+1:Nat):Int) _=_
   unfold yc
   by_cases c1:n+1≤200
   ·rw[if_pos (by simp only[decide_eq_true_eq];omega)]
    split<;>rfl
   ·rw[if_neg (by simp only[decide_eq_true_eq];omega)];rfl
  generalize aj (fun rec41 x=>yc N b rec41 x.1 x.2.1 x.2.2.1 x.2.2.2) m=R at ih last ⊢
  unfold yc
  have e12:w64 ((w64 ((p:Int)+12))+(k:Int))=((p+(12+k):Nat):Int):=by rw[bE (n:=(p:Int)+12) (by omega) (by omega),bE (by omega) (by omega)];omega
  have e11:w64 ((p:Int)+11)=((p+11:Nat):Int):=by rw[bE (by omega) (by omega)];omega
  have e11k:w64 (((p+11:Nat):Int)+(k:Int))=((p+11+k:Nat):Int):=by rw[bE (by omega) (by omega)];omega
  have hkl:((b.drop (p+11)).take k).length≤999:=by rw[List.length_take];omega
  rw[if_pos (by simp only[decide_eq_true_eq];omega),e12,if_pos (by simp only[decide_eq_true_eq];omega)]
  simp only[Bool.not_false,Option.bind_some,if_true,e11,e11k]
  rw[DH (by omega) (by omega),Option.bind_some,DH (by omega) (by omega),Option.bind_some,DN,DN,Du _ _ hkl (by omega) hN]
  simp only[Option.bind_some]
  by_cases hkn:k=n
  ·subst hkn
   have:=hV.2.2
   simp only[this,decide_true,if_true]
   rw[nL (by simp;omega)]
   simp only[Option.bind_some]
   rw[fN (by omega),show p+(12+k)=p+12+k from by omega,last rfl]
  ·have hne:¬(b.drop p).take (12+k)=rc ((b.drop (p+11)).take k) ls.length:=fun e=>hkn (Fk ⟨by omega,by omega,e⟩ hV)
   simp only[hne,decide_false,Bool.false_eq_true,if_false,Option.bind_some]
   rw[fN (by omega),ih (by omega)]
theorem DP{b:List UInt8}{p:Nat}{ls:List (List UInt8)}(hb:b.length≤15000)(hp:p≤b.length)(hls:ls.length≤50)(hN:20000≤N)(hV:∀n,¬V b p ls.length n):∀(m k:Nat),k≤201→201-k<m →
  aj (fun rec41 x=>yc N b rec41 x.1 x.2.1 x.2.2.1 x.2.2.2) m ((p:Int),false,(k:Int),ls)=some ((p:Int),false,ls)
 | 0,k,_,h=>by omega
 | m+1,k,hk,hm=>by
  show yc N b (aj (fun rec41 x=>yc N b rec41 x.1 x.2.1 x.2.2.1 x.2.2.2) m) (p:Int) false (k:Int) ls=_
  have ih:k+1≤201→aj (fun rec41 x=>yc N b rec41 x.1 x.2.1 x.2.2.1 x.2.2.2) m ((p:Int),false,((k+1:Nat):Int),ls)=some ((p:Int),false,ls):=fun h=>DP hb hp hls hN hV m (k+1) h (by omega)
  generalize aj (fun rec41 x=>yc N b rec41 x.1 x.2.1 x.2.2.1 x.2.2.2) m=R at ih ⊢
  unfold yc
  by_cases h200:k≤200
  ·have e12:w64 ((w64 ((p:Int)+12))+(k:Int))=((p+(12+k):Nat):Int):=by rw[bE (n:=(p:Int)+12) (by omega) (by omega),bE (by omega) (by omega)];omega
   have e11:w64 ((p:Int)+11)=((p+11:Nat):Int):=by rw[bE (by omega) (by omega)];omega
   have e11k:w64 (((p+11:Nat):Int)+(k:Int))=((p+11+k:Nat):Int):=by rw[bE (by omega) (by omega)];omega
   have hkl:((b.drop (p+11)).take k).length≤999:=by rw[List.length_take];omega
   rw[if_pos (by simp only[decide_eq_true_eq];omega),e12]
   by_cases hle:p+(12+k)≤b.length
   ·rw[if_pos (by simp only[decide_eq_true_eq];omega)]
    simp only[Bool.not_false,Option.bind_some,if_true,e11,e11k]
    rw[DH (by omega) (by omega),Option.bind_some,DH (by omega) (by omega),Option.bind_some,DN,DN,Du _ _ hkl (by omega) hN]
    simp only[Option.bind_some]
    have hne:¬(b.drop p).take (12+k)=rc ((b.drop (p+11)).take k) ls.length:=fun e=>hV k ⟨by omega,by omega,e⟩
    simp only[hne,decide_false,Bool.false_eq_true,if_false,Option.bind_some]
    rw[fN (by omega),ih (by omega)]
   ·rw[if_neg (by simp only[decide_eq_true_eq];omega)];rfl
  ·rw[if_neg (by simp only[decide_eq_true_eq];omega)];rfl
theorem both{b:List UInt8}(hb:b.length≤15000)(hN:20000≤N):∀(t p:Nat) (ls:List (List UInt8)),b.length-p≤t→p≤b.length→ls.length≤50→∃(p':Nat) (ls':List (List UInt8)),ls'.length≤50∧∀m,t<m →
  aj (fun rec3 x=>aP N (bytesI b) rec3 x.1 x.2.1 x.2.2.1 x.2.2.2) m ((p:Int),(ls.length:Int),(p:Int),ls)=some ((p':Int),ls') ∧
  aj (fun rec39 x=>yn N b rec39 x.1 x.2) m ((p:Int),ls)=some ((p':Int),ls'):=by
 intro t
 induction t with
 | zero =>
  intro p ls ht hp hls
  have hno:∀n,¬V b p ls.length n:=fun n h=>by have:=h.2.1;omega
  refine⟨p,ls,hls,fun m hm=>?_⟩
  obtain⟨m,rfl⟩:∃k,m=k+1:=⟨m-1,by omega⟩
  refine⟨EB hno hp hb (by omega) hls hN,?_⟩
  show yn N b _ (p:Int) ls=_
  unfold yn
  split
  ·unfold C7
   rw[show((p:Int),false,(0:Int),ls)=((p:Int),false,((0:Nat):Int),ls)from rfl,DP hb hp hls hN hno N 0 (by omega) (by omega)];rfl
  ·rfl
 | succ t ih =>
  intro p ls ht hp hls
  by_cases hV:∃n,V b p ls.length n
  rotate_left
  ·have hno:∀n,¬V b p ls.length n:=fun n h=>hV ⟨n,h⟩
   refine⟨p,ls,hls,fun m hm=>?_⟩
   obtain⟨m,rfl⟩:∃k,m=k+1:=⟨m-1,by omega⟩
   refine⟨EB hno hp hb (by omega) hls hN,?_⟩
   show yn N b _ (p:Int) ls=_
   unfold yn
   split
   ·unfold C7
    rw[show((p:Int),false,(0:Int),ls)=((p:Int),false,((0:Nat):Int),ls)from rfl,DP hb hp hls hN hno N 0 (by omega) (by omega)];rfl
   ·rfl
  obtain⟨n,hn⟩:=hV
  have h2:=hn.2.1
  by_cases h50:ls.length=50
  ·refine⟨p,ls,hls,fun m hm=>?_⟩
   obtain⟨m,rfl⟩:∃k,m=k+1:=⟨m-1,by omega⟩
   refine⟨(Ee hn hb (by omega) hls hN).trans (by rw[if_pos h50]),?_⟩
   show yn N b _ (p:Int) ls=_
   unfold yn
   rw[if_neg (by simp only[decide_eq_true_eq];omega)]
  ·obtain⟨p',ls',hl',hq⟩:=ih (p+12+n) (ls++[(b.drop (p+11)).take n]) (by omega) (by omega) (by simp;omega)
   refine⟨p',ls',hl',fun m hm=>?_⟩
   obtain⟨m,rfl⟩:∃k,m=k+1:=⟨m-1,by omega⟩
   obtain⟨q1,q2⟩:=hq m (by omega)
   have hlen:(ls++[(b.drop (p+11)).take n]).length=ls.length+1:=by simp
   rw[hlen]at q1
   refine⟨(Ee hn hb (by omega) hls hN).trans (by rw[if_neg h50];exact q1),?_⟩
   show yn N b (aj (fun rec39 x=>yn N b rec39 x.1 x.2) m) (p:Int) ls=_
   generalize aj (fun rec39 x=>yn N b rec39 x.1 x.2) m=R at q2 ⊢
   unfold yn C7
   rw[if_pos (by simp only[decide_eq_true_eq];omega)]
   have:=Ej hb hp hls hN hn N 0 (by omega) (by omega)
   rw[show((0:Nat):Int)=0 from rfl]at this
   rw[this,Option.bind_some]
   simp only[Bool.not_true,Bool.false_eq_true,if_false]
   exact q2
theorem E8(lines:List (List UInt8))(hl:lines.length≤55)(hN:20000≤N):dw N lines=some (if(lines.all (fun s=>decide (s.length≤200))&&decide (lines.length≤50))=true then 0 else 3):=by
 have hall:mV N lines 200=some (lines.all fun s=>decide ((s.length:Int)≤200)) :=
  tZ lines (fun y=>kV N y 200) (fun s=>decide ((s.length:Int)≤200)) (fun x _=>rfl) (by omega) (by omega)
 have he:(lines.all fun s=>decide ((s.length:Int)≤200))=lines.all (fun s=>decide (s.length≤200)):=by
  congr 1;funext s
  rw[decide_eq_decide];omega
 unfold dw
 by_cases h50:lines.length≤50
 ·rw[if_neg (by simp only[decide_eq_true_eq];omega),hall,he]
  cases hA:lines.all (fun s=>decide (s.length≤200))with
  | true=>simp[h50]
  | false=>simp
 ·rw[if_pos (by simp only[decide_eq_true_eq];omega)]
  simp[h50]
theorem EC(N:Nat)(hN:20000≤N)(hN2:N≤1000000)(hw:cL N=some true)(lines:List (List UInt8))(bs:List Int)(h0:∀x∈bs,0≤x∧x≤255):CW N lines bs=some true:=by
 unfold CW
 obtain⟨b,hb,hbt⟩:=vC lines hN
 rw[hb,Option.bind_some]
 cases b with
 | false=>simp[hw]
 | true =>
  obtain⟨hl55,hs210⟩:=hbt rfl
  simp only[Bool.not_true,Bool.false_eq_true,if_false,Option.bind_some]
  by_cases h4000:4000<bs.length
  ·rw[if_pos (by simp only[decide_eq_true_eq];omega),hw];rfl
  rw[if_neg (by simp only[decide_eq_true_eq];omega)]
  have hli:iw N lines=some lines:=by unfold iw;rw[nL (by simp;omega)];rfl
  have hbb:bs=bytesI (mC bs):=by
   unfold bytesI mC
   rw[List.map_map]
   conv=>lhs;rw[← List.map_id bs]
   refine List.map_congr_left fun x hx=>?_
   have:=h0 x hx
   simp[UInt8.toNat_ofNat']
   omega
  have hsl:(mC bs).length=bs.length:=by simp[mC]
  obtain⟨p',ls',hl',hq⟩:=both (b:=mC bs) (N:=N) (by omega) hN (mC bs).length 0 [] (by omega) (by omega) (by simp)
  obtain⟨q1,q2⟩:=hq N (by omega)
  have hrec:ef N bs=some ((p':Int),ls'):=by
   unfold ef gV
   simp only[Option.bind_some]
   rw[← hbb]at q1
   have q1':=q1
   simp only[List.length_nil,Int.natCast_zero]at q1'
   rw[q1'];rfl
  have href:Dd N (mC bs)=some (ls',(p':Int)):=by
   unfold Dd
   have q2':=q2
   simp only[Int.natCast_zero]at q2'
   rw[q2'];rfl
  rw[hli,Option.bind_some]
  unfold gr Do
  rw[E8 lines hl55 hN,ud lines hl55 hN]
  by_cases hr:(lines.all (fun s=>decide (s.length≤200))&&decide (lines.length≤50))=true
  ·have hfl:=sb lines 0
   simp only[hr,if_true,Option.bind_some,decide_true,Bool.not_true,Bool.false_eq_true,if_false]
   rw[wy lines hl55 hs210 hN]
   simp only[Option.bind_some]
   rw[nL (by simp;omega)]
   simp only[Option.bind_some,List.nil_append,hrec,href,vD ls' ls' (by omega) hN,decide_true,Bool.not_true,Bool.false_eq_true,if_false,if_true,Fa lines hl55 hs210 hN,Db,hw]
  ·have hr':(lines.all (fun s=>decide (s.length≤200))&&decide (lines.length≤50))=false:=by simpa using hr
   simp only[hr',Bool.false_eq_true,if_false,Option.bind_some,show(decide ((3:Int)=0))=false from rfl,Bool.not_false,if_true]
   rw[nL (by simp;omega)]
   simp only[Option.bind_some,List.nil_append,hrec,href,vD ls' ls' (by omega) hN,decide_true,Bool.not_true,Bool.false_eq_true,if_false,if_true,hw,Bool.not_false,List.length_nil,Int.natCast_zero,show(decide ((3:Int)=0))=false from rfl]
theorem E2(lines:List (List UInt8))(bs:List Int)(h:∀x∈bs,0≤x∧x≤255):CW 30000 lines bs=some true:=EC 30000 (by omega) (by omega) vr lines bs h
end Go.Proofs.YtiaoloodgildeaaGreatDoor
