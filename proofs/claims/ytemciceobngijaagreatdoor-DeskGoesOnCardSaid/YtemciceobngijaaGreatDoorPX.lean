/-
  The plain part.
-/
import Derived.Test.YtemciceobngijaaGreatDoorDDeskGoesOn
import Derived.Test.YtemciceobngijaaGreatDoorDef
import Derived.Test.YtemciceobngijaaGreatDoorLib
import Derived.KernelRfl
set_option linter.all false
namespace Go.Proofs.YtemciceobngijaaGreatDoor
open Go.Kp
variable {N:Nat}
theorem zh{σ R:Type}{B:(σ→Option R)→σ→Option R}(I:Nat→σ→Prop)(Q:R→Prop)
  (h:∀k x rec,I k x→(∀k' y,k'<k→I k' y→∃r,rec y=some r∧Q r)→∃r,B rec x=some r∧Q r) :
  ∀(n k:Nat) (x:σ),I k x→k<n→∃r,aj B n x=some r∧Q r:=by
 intro n
 induction n with
 | zero=>intro k x _ hk;omega
 | succ n ih=>intro k x hI hk;exact h k x _ hI fun k' y hk' hy=>ih k' y hy (by omega)
/-! The house's games: a play is one of 276. -/
def zk:FrameLaw:=FrameLaw.mk 3 10 2 10
def code (c:Nat):FrameAt:=let z:=Ar2.mk 0 0
 if c<22 then(if c % 11=0 then FrameAt.mk (c / 11:Nat) 0 10 true 2 z else FrameAt.mk (c / 11:Nat) 1 (c % 11:Nat) false 2 z)
 else if c=22 then FrameAt.mk 2 0 10 true 2 z
 else if c<33 then FrameAt.mk 2 1 (c-22:Nat) false 2 z
 else if c=33 then FrameAt.mk 2 1 10 true 3 z
 else if c<44 then FrameAt.mk 2 2 (c-33:Nat) false 3 z
 else if c=44 then FrameAt.mk 2 2 10 true 3 z
 else FrameAt.mk 3 0 10 true 2 z
def pl (n:Nat):FramePlay:=let a:=code (n / 6);FramePlay.mk zk (FrameAt.mk a.fFrame a.fThrown a.fStanding a.fFresh a.fNeed (Ar2.mk (n / 2 % 3:Nat) (n % 2:Nat)))
def num (p:FramePlay):Nat :=
 let f:=p.fAt.fFrame.toNat;let t:=p.fAt.fThrown.toNat;let s:=p.fAt.fStanding.toNat
 let c:=if f≤1 then 11*f+(if t=0 then 0 else s)else if f=2 then(if t=0 then 22 else if t=1 then(if p.fAt.fFresh then 33 else 22+s)else(if p.fAt.fFresh then 44 else 33+s))else 45
 6*c+2*p.fAt.fAfter.a0.toNat+p.fAt.fAfter.a1.toNat
def goes (p q:FramePlay):Bool:=(decide (q.fAt.fFrame=p.fAt.fFrame)&&decide (q.fAt.fThrown=p.fAt.fThrown+1))||(decide (q.fAt.fFrame=p.fAt.fFrame+1)&&decide (q.fAt.fThrown=0)&&(decide (p.fAt.fFrame≠2)||decide (1≤p.fAt.fThrown)))
def BO (p:FramePlay)(b:Int):Bool:=match dx 0 p b with
 | some true=>(match bA 0 p b with
  | some (q,n,_)=>decide (num q<276)&&decide (pl (num q)=q)&&goes p q&&(decide (0≤n)&&decide (n≤10))
  | none=>false)
 | some false=>true
 | none=>false
theorem BP:((List.range 276).all fun n=>(List.range 12).all fun k=>BO (pl n) ((k:Int)-1))=true:=by decide +kernel
theorem Ce:((List.range 276).all fun n=>decide (0≤(pl n).fAt.fStanding)&&decide ((pl n).fAt.fStanding≤10)&&decide (0≤(pl n).fAt.fFrame)&&decide ((pl n).fAt.fFrame≤3)&&decide (0≤(pl n).fAt.fThrown)&&decide ((pl n).fAt.fThrown≤2))=true:=by decide +kernel
end Go.Proofs.YtemciceobngijaaGreatDoor
namespace Go.Proofs.YtemciceobngijaaGreatDoor
open Go.Kp
variable {N:Nat}
/-! The knock-out's next matches are told, whatever the results. -/
theorem zg{α A σ R:Type}{N:Nat}{B:(σ→Option R)→σ→Option R}(l:List α)(X:Nat→A→σ)(ok:Nat→A→Prop)(Q:R→Prop)
  (h0:∀a rec,ok l.length a→∃r,B rec (X l.length a)=some r∧Q r)
  (h1:∀i x a rec,l[i]? = some x→ok i a→(∀a',ok (i+1) a'→∃r,rec (X (i+1) a')=some r∧Q r)→∃r,B rec (X i a)=some r∧Q r)
  (hN:l.length<N) (a:A) (ha:ok 0 a):∃r,aj B N (X 0 a)=some r∧Q r:=by
 refine zh (fun k x=>∃i a,x=X i a∧i+k=l.length∧ok i a) Q ?_ N l.length _ ⟨0,a,rfl,by omega,ha⟩ hN
 rintro k x rec ⟨i,a,rfl,hk,hok⟩ ih
 by_cases h:i<l.length
 ·exact h1 i _ a rec (List.getElem?_eq_getElem h) hok fun a' h'=>ih (k-1) _ (by omega) ⟨i+1,a',rfl,by omega,h'⟩
 ·have:i=l.length:=by omega
  subst this
  exact h0 a rec hok
theorem zI(n a b:Int):eH N n a b=some (decide (a≤n)&&decide (n≤b)):=by
 unfold eH
 by_cases h:a≤n<;>simp[h]
theorem A3(l:List Int)(hl:l.length<100000)(hN:l.length<N):∃r,gq N l=some r:=by
 obtain⟨r,hr,_⟩:=zg (N:=N) (B:=fun rec3 x=>eJ N l rec3 x.1 x.2.1 x.2.2) l (fun i (a:Int)=>(a,(l.length:Int),(i:Int))) (fun _ _=>True) (fun _=>True)
  (fun a rec _=>⟨_,by unfold eJ;rw[if_neg (by simp)],trivial⟩)
  (fun i x a rec hx _ ih=>by
   have hlt:=lP hx
   unfold eJ
   rw[if_pos (by simp only[decide_eq_true_eq];omega),ij hx,Option.bind_some,fN (by omega)]
   exact ih _ trivial)
  hN 0 trivial
 exact⟨r,by unfold gq;simp only[Int.natCast_zero]at hr;rw[hr];rfl⟩
theorem AA{m:Int}{gs:List Int}{c1 c2 c3:Int}{c4:List LadderResult}{c5:List LadderPair}{m1:List (Int×LadderResult)}{l1:List (Ar2 Int)}(hm:0≤m∧m<l1.length)(hg:gs.length≤60)(hN:20000≤N):∃r,xS N m gs c1 c2 c3 c4 c5 m1 l1=some r:=by
 have hx:=List.getElem?_eq_getElem (show m.toNat<l1.length by omega)
 generalize l1[m.toNat]=x at hx
 unfold xS
 rw[yy hm.1 hx,Option.bind_some]
 obtain⟨r,hr,_⟩:=zg (N:=N) (B:=fun rec7 y=>Fd N gs x rec7 y.1 y.2.1 y.2.2) gs (fun i (a:Ar2 Int)=>((gs.length:Int),(i:Int),a)) (fun _ _=>True) (fun _=>True)
  (fun a rec _=>⟨_,by unfold Fd;rw[if_neg (by simp)],trivial⟩)
  (fun i y a rec hy _ ih=>by
   have hlt:=lP hy
   unfold Fd
   rw[if_pos (by simp only[decide_eq_true_eq];omega),ij hy,Option.bind_some,fN (by omega)]
   split
   ·obtain⟨z,hz⟩:=A3 (N:=N) [a.a0,1] (by simp) (by simp;omega)
    rw[hz];exact ih _ trivial
   ·exact ih _ trivial)
  (by omega) (Ar2.mk 0 0) trivial
 simp only[Int.natCast_zero]at hr
 rw[hr,Option.bind_some]
 obtain⟨r2,hr2,_⟩:=zg (N:=N) (B:=fun rec9 y=>Fe N gs x rec9 y.1 y.2.1 y.2.2) gs (fun i (a:Ar2 Int)=>((gs.length:Int),(i:Int),a)) (fun _ _=>True) (fun _=>True)
  (fun a rec _=>⟨_,by unfold Fe;rw[if_neg (by simp)],trivial⟩)
  (fun i y a rec hy _ ih=>by
   have hlt:=lP hy
   unfold Fe
   rw[if_pos (by simp only[decide_eq_true_eq];omega),ij hy,Option.bind_some,fN (by omega)]
   split
   ·obtain⟨z,hz⟩:=A3 (N:=N) [a.a1,1] (by simp) (by simp;omega)
    rw[hz];exact ih _ trivial
   ·exact ih _ trivial)
  (by omega) r trivial
 simp only[Int.natCast_zero]at hr2
 rw[hr2,Option.bind_some]
 exact⟨_,rfl⟩
theorem zZ{m:Int}{gs:List Int}{c1 c2 c3:Int}{c4:List LadderResult}{c5:List LadderPair}{m1:List (Int×LadderResult)}{l1:List (Ar2 Int)}(hm:0≤m∧m<l1.length)(hg:gs.length≤60)(hN:20000≤N):∃r,xP N m gs c1 c2 c3 c4 c5 m1 l1=some r:=by
 obtain⟨r,hr⟩:=AA (N:=N) (c1:=c1) (c2:=c2) (c3:=c3) (c4:=c4) (c5:=c5) (m1:=m1) hm hg hN
 have hx:=List.getElem?_eq_getElem (show m.toNat<l1.length by omega)
 generalize l1[m.toNat]=x at hx
 unfold xP
 rw[hr,Option.bind_some,yy hm.1 hx]
 split
 ·exact⟨_,rfl⟩
 ·split<;>exact⟨_,rfl⟩
def Mp (m:List (Int×LadderResult)):Prop:=∀k v,mget m k=some v→v.fMatch=k∧v.fGames.length=1
theorem AK{m:Int}{c1 c2 c3:Int}{c4:List LadderResult}{c5:List LadderPair}{m1:List (Int×LadderResult)}{l1:List (Ar2 Int)}(hp:Mp m1)(hm:0≤m∧m<l1.length)(hN:20000≤N):∃r,Db N m c1 c2 c3 c4 c5 m1 l1=some r:=by
 unfold Db mgt
 rw[Option.bind_some]
 dsimp only
 cases hv:mget m1 m with
 | none=>exact⟨_,rfl⟩
 | some v =>
  have:=hp _ _ hv
  obtain⟨r,hr⟩:=zZ (N:=N) (c1:=c1) (c2:=c2) (c3:=c3) (c4:=c4) (c5:=c5) (m1:=m1) (gs:=v.fGames) hm (by omega) hN
  exact⟨r,by simp only[Option.isSome_some,Option.getD_some,Bool.not_true,Bool.false_eq_true,if_false];rw[hr];rfl⟩
theorem AL(a b x:Int)(hN:20000≤N):∃r,yP N [a,b] x=some r:=⟨_,AZ (N:=N) [a,b] x (by simp;omega) (by simp)⟩
theorem Bm{r:LadderResult}{c1 c2 c3:Int}{c4:List LadderResult}{c5:List LadderPair}{m1:List (Int×LadderResult)}{l1:List (Ar2 Int)}(hm:0≤r.fMatch∧r.fMatch<l1.length)(hg:r.fGames.length=1)(hN:20000≤N):∃z,yg N r c1 c2 c3 c4 c5 m1 l1=some z:=by
 have hx:=List.getElem?_eq_getElem (show r.fMatch.toNat<l1.length by omega)
 generalize l1[r.fMatch.toNat]=x at hx
 unfold yg
 rw[yy hm.1 hx,Option.bind_some]
 have hb:∃b,(if decide (x.a0=-1)then some true else some (decide (x.a1=-1)))=some b:=by split<;>exact⟨_,rfl⟩
 obtain⟨b,hb⟩:=hb
 rw[hb,Option.bind_some]
 cases b with
 | true=>exact⟨_,rfl⟩
 | false =>
  obtain⟨z,hz,_⟩:=zg (N:=N) (B:=fun rec3 y=>Ff N r c1 c2 c3 c4 c5 m1 l1 x rec3 y.1 y.2) r.fGames (fun i (_:Unit)=>((r.fGames.length:Int),(i:Int))) (fun _ _=>True) (fun _=>True)
   (fun a rec _=>⟨_,by unfold Ff;rw[if_neg (by simp)],trivial⟩)
   (fun i y a rec hy _ ih=>by
    have hlt:=lP hy
    unfold Ff
    rw[if_pos (by simp only[decide_eq_true_eq];omega),ij hy,Option.bind_some]
    obtain⟨q,hq⟩:=AL (N:=N) x.a0 x.a1 y hN
    rw[hq,Option.bind_some,rX (by omega) (by omega) (by omega),Option.bind_some]
    obtain⟨w,hw⟩:=zZ (N:=N) (c1:=c1) (c2:=c2) (c3:=c3) (c4:=c4) (c5:=c5) (m1:=m1) (gs:=(r.fGames.take (i:Int).toNat).drop (0:Int).toNat) hm (by simp;omega) hN
    rw[hw,Option.bind_some,fN (by omega)]
    cases q with
    | false=>exact⟨_,rfl,trivial⟩
    | true =>
     simp only[Bool.not_true,Bool.false_eq_true,if_false,Option.bind_some]
     split
     ·exact⟨_,rfl,trivial⟩
     ·exact ih () trivial)
   (by omega) () trivial
  simp only[Int.natCast_zero]at hz
  simp only[Bool.false_eq_true,if_false]
  rw[hz]
  exact⟨_,rfl⟩
def Tr (t:List LadderPair):Prop:=t.length≤60∧∀(i:Nat) (p:LadderPair),t[i]? = some p→(p.fFirst.fMatch=-1∨(0≤p.fFirst.fMatch∧p.fFirst.fMatch<i))∧(p.fSecond.fMatch=-1∨(0≤p.fSecond.fMatch∧p.fSecond.fMatch<i))
theorem BM{c1 c2 c3:Int}{c4:List LadderResult}{t:List LadderPair}{m1:List (Int×LadderResult)}(ht:Tr t)(hp:Mp m1)(hN:20000≤N):∃z,fZ N c1 c2 c3 c4 t m1=some z∧(z.1=true→z.2.2.2.2.2.2.length≤60):=by
 unfold fZ
 have htl:=ht.1
 refine zg (N:=N) (B:=fun rec3 y=>Fw N c1 c2 c3 c4 t m1 rec3 y.1 y.2.1 y.2.2) t (fun i (a:List (Ar2 Int))=>((t.length:Int),(i:Int),a)) (fun i a=>a.length=i) (fun z=>z.1=true→z.2.2.2.2.2.2.length≤60)
  (fun a rec ha=>⟨_,by unfold Fw;rw[if_neg (by simp)];rfl,fun _=>by simp only;omega⟩)
  (fun i p a rec hx ha ih=>?_) (by omega) [] rfl
 have hlt:=lP hx
 have hpr:=ht.2 i p hx
 unfold Fw
 rw[if_pos (by simp only[decide_eq_true_eq];omega),ij hx,Option.bind_some,show jD N=some ()from rfl,Option.bind_some]
 have h1:∃z,(Option.bind (fY N p) fun r303=>if decide (r303.fMatch=(-1))then some ((Ar2.mk r303.fPlayer (-1)))else Option.bind (Db N r303.fMatch c1 c2 c3 c4 t m1 a) fun r304=>some ((Ar2.mk r304 (-1))))=some z:=by
  rw[show fY N p=some p.fFirst from rfl,Option.bind_some]
  by_cases hm:p.fFirst.fMatch=-1
  ·rw[if_pos (by simp only[decide_eq_true_eq];exact hm)];exact⟨_,rfl⟩
  ·rw[if_neg (by simp only[decide_eq_true_eq];exact hm)]
   obtain⟨w,hw⟩:=AK (N:=N) (c1:=c1) (c2:=c2) (c3:=c3) (c4:=c4) (c5:=t) hp (show 0≤p.fFirst.fMatch∧p.fFirst.fMatch<a.length by have:=hpr.1.resolve_left hm;omega) hN
   rw[hw];exact⟨_,rfl⟩
 obtain⟨z1,h1⟩:=h1
 rw[h1,Option.bind_some]
 have h2:∃z,(Option.bind (e8 N p) fun r309=>if decide (r309.fMatch=(-1))then some (Ar2.mk z1.a0 r309.fPlayer)else Option.bind (Db N r309.fMatch c1 c2 c3 c4 t m1 a) fun r310=>some (Ar2.mk z1.a0 r310))=some z:=by
  rw[show e8 N p=some p.fSecond from rfl,Option.bind_some]
  by_cases hm:p.fSecond.fMatch=-1
  ·rw[if_pos (by simp only[decide_eq_true_eq];exact hm)];exact⟨_,rfl⟩
  ·rw[if_neg (by simp only[decide_eq_true_eq];exact hm)]
   obtain⟨w,hw⟩:=AK (N:=N) (c1:=c1) (c2:=c2) (c3:=c3) (c4:=c4) (c5:=t) hp (show 0≤p.fSecond.fMatch∧p.fSecond.fMatch<a.length by have:=hpr.2.resolve_left hm;omega) hN
   rw[hw];exact⟨_,rfl⟩
 obtain⟨z2,h2⟩:=h2
 rw[h2,Option.bind_some,nL (by simp;omega),Option.bind_some]
 unfold mgt
 rw[Option.bind_some]
 dsimp only
 have fin:∀b:Bool,∃r,(if b=true then some (false,c1,c2,c3,c4,t,a++[z2])else rec ((t.length:Int),w64 ((i:Int)+1),a++[z2]))=some r∧(r.1=true→r.2.2.2.2.2.2.length≤60):=by
  intro b
  cases b with
  | true=>exact⟨_,rfl,fun h=>by cases h⟩
  | false=>rw[fN (by omega)];exact ih _ (by simp[ha])
 cases hv:mget m1 (i:Int)with
 | none =>
  simp only[Option.isSome_none,Bool.false_eq_true,if_false,Option.bind_some]
  exact fin false
 | some v =>
  have hvm:=hp _ _ hv
  simp only[Option.isSome_some,Option.getD_some,if_true]
  obtain⟨w,hw⟩:=Bm (N:=N) (r:=v) (c1:=c1) (c2:=c2) (c3:=c3) (c4:=c4) (c5:=t) (m1:=m1) (l1:=a++[z2]) (by rw[hvm.1];simp;omega) hvm.2 hN
  rw[hw,Option.bind_some,Option.bind_some]
  exact fin (!w)
end Go.Proofs.YtemciceobngijaaGreatDoor
namespace Go.Proofs.YtemciceobngijaaGreatDoor
open Go.Kp
variable {N:Nat}
theorem BN(c:LadderCup)(hf:c.fForm=1)(hp:2≤c.fPlayers∧c.fPlayers≤16)(hN:20000≤N):∃t,ie N c=some t∧Tr t:=by
 unfold ie fX gi
 rw[if_pos (by simp only[decide_eq_true_eq];exact hf),Option.bind_some,Option.bind_some]
 have e1:w64 (c.fPlayers-1)=c.fPlayers-1:=bE (by omega) (by omega)
 rw[e1]
 have key:=zh (B:=fun rec3 x=>bV N rec3 x.1 x.2.1 x.2.2) (fun k (x:Int×Int×List LadderPair)=>x.1=c.fPlayers-1∧1≤x.2.1∧x.2.1≤c.fPlayers-1∧x.2.1+k=c.fPlayers-1∧(x.2.2.length:Int)=x.2.1∧Tr x.2.2) Tr
  (fun k x rec hI ih=>by
   obtain⟨v,n,t⟩:=x
   obtain⟨hv,h1,h2,h3,h4,h5⟩:=hI
   simp only at hv h1 h2 h3 h4 h5
   subst hv
   unfold bV gi y8
   by_cases h:n<c.fPlayers-1
   ·rw[if_pos (by simp only[decide_eq_true_eq];exact h),Option.bind_some,Option.bind_some,nL (by simp;omega),Option.bind_some]
    have e2:w64 (n-1)=n-1:=bE (by omega) (by omega)
    have e3:w64 (n+1)=n+1:=bE (by omega) (by omega)
    rw[e2]
    simp only[e3]
    refine ih (k-1) _ (by omega) ⟨rfl,by simp only;omega,by simp only;omega,by simp only;omega,by simp;omega,by simp;omega,fun i p hx=>?_⟩
    rw[List.getElem?_append]at hx
    split at hx
    ·exact h5.2 i p hx
    ·rename_i hi
     have hi2:i=t.length:=by
      have:=(List.getElem?_eq_some_iff.1 hx).1
      simp at this;omega
     subst hi2
     simp at hx
     subst hx
     exact⟨.inl rfl,.inr ⟨by simp only;omega,by simp only;omega⟩⟩
   ·rw[if_neg (by simp only[decide_eq_true_eq];exact h)]
    exact⟨_,rfl,h5⟩)
  N (c.fPlayers-2).toNat (c.fPlayers-1,1,[LadderPair.mk (LadderSide.mk (w64 (c.fPlayers-1-1)) (-1)) (LadderSide.mk (c.fPlayers-1) (-1))]) ⟨rfl,by simp,by simp only;omega,by simp only;omega,rfl,by simp,fun i p hx=>by
   have hi:=(List.getElem?_eq_some_iff.1 hx).1
   simp at hi;subst hi;simp at hx;subst hx;exact⟨.inl rfl,.inl rfl⟩⟩ (by omega)
 obtain⟨t,ht,hT⟩:=key
 rw[ht]
 exact⟨t,rfl,hT⟩
theorem A4{c1 c2 c3:Int}{c4:List LadderResult}{c5:List LadderPair}{m1:List (Int×LadderResult)}{l1:List (Ar2 Int)}(hp:Mp m1)(hl:l1.length≤60)(hN:20000≤N):∃z,yG N c1 c2 c3 c4 c5 m1 l1=some z:=by
 unfold yG yI
 obtain⟨z,hz,_⟩:=zg (N:=N) (B:=fun rec3 x=>FC N c1 c2 c3 c4 c5 m1 l1 rec3 x.1 x.2.1 x.2.2) l1 (fun i (a:List LadderMatch)=>((l1.length:Int),(i:Int),a)) (fun i a=>a.length≤i) (fun _=>True)
  (fun a rec _=>⟨_,by unfold FC;rw[if_neg (by simp)],trivial⟩)
  (fun i x a rec hx ha ih=>by
   have hlt:=lP hx
   unfold FC
   rw[if_pos (by simp only[decide_eq_true_eq];omega),ij hx,Option.bind_some,fN (by omega)]
   have hb:∃b,(if decide (x.a0=(-1))then some true else if decide (x.a1=(-1))then some true else Option.bind (Db N (i:Int) c1 c2 c3 c4 c5 m1 l1) fun r70=>some (!decide (r70=(-1))))=some b:=by
    split
    ·exact⟨_,rfl⟩
    ·split
     ·exact⟨_,rfl⟩
     ·obtain⟨w,hw⟩:=AK (N:=N) (c1:=c1) (c2:=c2) (c3:=c3) (c4:=c4) (c5:=c5) hp (show(0:Int)≤(i:Int)∧(i:Int)<l1.length by omega) hN
      rw[hw];exact⟨_,rfl⟩
   obtain⟨b,hb⟩:=hb
   rw[hb,Option.bind_some]
   cases b with
   | true =>
    simp only[if_true,Option.bind_some]
    exact ih _ (by omega)
   | false =>
    have hg:(((mget m1 (i:Int)).getD (LadderResult.mk 0 [] false)).fGames).length≤60:=by
     cases hv:mget m1 (i:Int)with
     | none=>simp
     | some v=>have:=(hp _ _ hv).2;simp only[Option.getD_some];omega
    obtain⟨w,hw⟩:=AA (N:=N) (c1:=c1) (c2:=c2) (c3:=c3) (c4:=c4) (c5:=c5) (m1:=m1) (show(0:Int)≤(i:Int)∧(i:Int)<l1.length by omega) hg hN
    unfold mgt
    simp only[Bool.false_eq_true,if_false,Option.bind_some,hw]
    rw[nL (by simp;omega),Option.bind_some,Option.bind_some]
    exact ih _ (by simp;omega))
  (by omega) [] (by simp)
 simp only[Int.natCast_zero]at hz
 rw[hz]
 exact⟨_,rfl⟩
theorem Cd{m:List (Int×LadderResult)}(h:Mp m){r:LadderResult}(hr:r.fGames.length=1):Mp (mput m r.fMatch r):=by
 intro k v hv
 rw[Az]at hv
 split at hv
 ·rename_i e;cases hv;exact⟨e.symm,hr⟩
 ·exact h k v hv
theorem Bz(c:LadderCup)(hf:c.fForm=1)(hr:c.fResults.length≤60)(hg:∀r∈c.fResults,r.fGames.length=1)(hN:20000≤N):∃ms e,yh N c=some (ms,e):=by
 have hd:(∃e,ig N c=some (.inl e)∧e≠0)∨∃z,ig N c=some (.inr z)∧Mp z.2.2.2.2.2.2.1∧z.2.2.2.2.2.2.2.length≤60:=by
  unfold ig
  have ha:lM N c.fResults=some (c.fResults.all fun r=>decide ((r.fGames.length:Int)≤5)) :=
   tZ c.fResults (fun y=>kD N y) (fun r=>decide ((r.fGames.length:Int)≤5)) (fun x _=>rfl) (by omega) (by omega)
  by_cases h15:15<(c.fResults.length:Int)
  ·rw[if_pos (by simp only[decide_eq_true_eq];exact h15)]
   exact .inl ⟨3,rfl,by decide⟩
  ·rw[if_neg (by simp only[decide_eq_true_eq];exact h15),ha,Option.bind_some,Option.bind_some]
   cases(c.fResults.all fun r=>decide ((r.fGames.length:Int)≤5))with
   | false=>exact .inl ⟨3,rfl,by decide⟩
   | true =>
    simp only[Bool.not_true,Bool.false_eq_true,if_false]
    have hck:gJ N c=some (if 2≤c.fPlayers∧c.fPlayers≤16∧1≤c.fGames∧c.fGames≤5∧¬Int.tmod c.fGames 2=0 then 0 else 1):=by
     unfold gJ
     rw[if_neg (by simp[hf]),zI,zI]
     simp only[Option.bind_some]
     by_cases h1:2≤c.fPlayers<;>by_cases h2:c.fPlayers≤16<;>by_cases h3:1≤c.fGames<;>by_cases h4:c.fGames≤5<;>by_cases h5:Int.tmod c.fGames 2=0<;>simp[h1,h2,h3,h4,h5]
    rw[hck,Option.bind_some]
    by_cases hc:2≤c.fPlayers∧c.fPlayers≤16∧1≤c.fGames∧c.fGames≤5∧¬Int.tmod c.fGames 2=0
    ·rw[if_pos hc]
     simp only[decide_true,Bool.not_true,Bool.false_eq_true,if_false]
     have ha2:∃b,kE N c.fResults c=some b:=by
      refine⟨_,tZ c.fResults (fun y=>jC N y c) (fun r=>decide (0≤r.fMatch)&&decide (r.fMatch≤w64 (c.fPlayers-2))&&decide (0<(r.fGames.length:Int))) (fun x _=>?_) (by omega) (by omega)⟩
      show jC N x c=_
      unfold jC gK
      rw[zI,Option.bind_some]
      cases(decide (0≤x.fMatch)&&decide (x.fMatch≤w64 (c.fPlayers-2)))<;>simp
     obtain⟨b,hb⟩:=ha2
     rw[hb,Option.bind_some,Option.bind_some]
     cases b with
     | false=>exact .inl ⟨1,rfl,by decide⟩
     | true =>
      simp only[Bool.not_true,Bool.false_eq_true,if_false]
      obtain⟨t,ht,hT⟩:=BN (N:=N) c hf ⟨hc.1,hc.2.1⟩ hN
      rw[ht,Option.bind_some]
      obtain⟨z,hz,hq⟩:=zg (N:=N) (B:=fun rec3 x=>dy N c t rec3 x.1 x.2.1 x.2.2) c.fResults (fun i (a:List (Int×LadderResult))=>((c.fResults.length:Int),(i:Int),a)) (fun _ a=>Mp a) (fun z=>(∃e,z=.inl e∧e≠0)∨∃y,z=.inr y∧Mp y.2.2.2.2.2.2.1∧y.2.2.2.2.2.2.2.length≤60)
       (fun a rec hm=>by
        unfold dy yC
        rw[if_neg (by simp)]
        obtain⟨z,hz,hz1⟩:=BM (N:=N) (c1:=c.fForm) (c2:=c.fPlayers) (c3:=c.fGames) (c4:=c.fResults) (t:=t) hT hm hN
        rw[hz,Option.bind_some]
        obtain⟨b,z2,z3,z4,z5,z6,z7⟩:=z
        cases b with
        | false=>exact⟨_,rfl,.inl ⟨10,rfl,by decide⟩⟩
        | true=>exact⟨_,rfl,.inr ⟨_,rfl,hm,hz1 rfl⟩⟩)
       (fun i x a rec hx hm ih=>by
        have hlt:=lP hx
        unfold dy mgt
        rw[if_pos (by simp only[decide_eq_true_eq];omega),ij hx,Option.bind_some,Option.bind_some,Option.bind_some,fN (by omega)]
        split
        ·exact⟨_,rfl,.inl ⟨6,rfl,by decide⟩⟩
        ·exact ih _ (Cd hm (hg x (List.mem_of_getElem? hx))))
       (by omega) [] (fun k v h=>by cases h)
      simp only[Int.natCast_zero]at hz
      rw[hz]
      rcases hq with⟨e,rfl,he⟩ | ⟨y,rfl,hy⟩
      ·exact .inl ⟨e,rfl,he⟩
      ·exact .inr ⟨y,rfl,hy⟩
    ·rw[if_neg hc]
     exact .inl ⟨1,rfl,by decide⟩
 unfold yh
 rcases hd with⟨e,he,h0⟩ | ⟨⟨z1,z2,z3,z4,z5,z6,z7,z8⟩,hz,hm,hl⟩
 ·rw[he,Option.bind_some]
  simp only[h0,decide_false,Bool.not_false,if_true]
  exact⟨_,_,rfl⟩
 ·rw[hz,Option.bind_some]
  dsimp only at hm hl ⊢
  split
  ·exact⟨_,_,rfl⟩
  ·rw[show yQ N z2 z3 z4 z5 z6 z7 z8=some ()from rfl,Option.bind_some]
   obtain⟨w,hw⟩:=A4 (N:=N) (c1:=z2) (c2:=z3) (c3:=z4) (c4:=z5) (c5:=z6) hm hl hN
   rw[hw]
   exact⟨_,_,rfl⟩
end Go.Proofs.YtemciceobngijaaGreatDoor
namespace Go.Proofs.YtemciceobngijaaGreatDoor
open Go.Kp
variable {N:Nat}
def Ok (p:FramePlay):Prop:=∃n<276,p=pl n
theorem Ok.bds{p:FramePlay}(h:Ok p):0≤p.fAt.fStanding∧p.fAt.fStanding≤10∧0≤p.fAt.fFrame∧p.fAt.fFrame≤3∧0≤p.fAt.fThrown∧p.fAt.fThrown≤2∧p.fLaw=zk:=by
 obtain⟨n,hn,rfl⟩:=h
 have:=List.all_eq_true.1 Ce n (List.mem_range.2 hn)
 simp only[Bool.and_eq_true,decide_eq_true_eq]at this
 exact⟨this.1.1.1.1.1,this.1.1.1.1.2,this.1.1.1.2,this.1.1.2,this.1.2,this.2,rfl⟩
theorem AB(n a b:Int):db N n a b=some (decide (a≤n)&&decide (n≤b)):=by
 unfold db
 by_cases h:a≤n<;>simp[h]
theorem Al(p:FramePlay)(b:Int):dx N p b=some (!decide (p.fAt.fFrame=p.fLaw.fFrames)&&(decide (-1≤b)&&decide (b≤p.fAt.fStanding))):=by
 unfold dx cT
 by_cases h:p.fAt.fFrame=p.fLaw.fFrames<;>simp[h,AB]
def stp (p:FramePlay)(b:Int):Option (FramePlay×Int×Int):=if dx 0 p b=some true then bA 0 p b else none
def Goes (p q:FramePlay):Prop:=(q.fAt.fFrame=p.fAt.fFrame∧q.fAt.fThrown=p.fAt.fThrown+1)∨(q.fAt.fFrame=p.fAt.fFrame+1∧q.fAt.fThrown=0∧(p.fAt.fFrame=2→1≤p.fAt.fThrown))
theorem zL{p:FramePlay}(hp:Ok p)(b:Int):(dx N p b=some false∧stp p b=none)∨(dx N p b=some true∧∃q n w,stp p b=some (q,n,w)∧bA N p b=some (q,n,w)∧Ok q∧Goes p q∧0≤n∧n≤10):=by
 have e:dx N p b=dx 0 p b:=by rw[Al,Al]
 have e2:bA N p b=bA 0 p b:=rfl
 rw[e,e2]
 by_cases h:dx 0 p b=some true
 ·right
  refine⟨h,?_⟩
  have hb:=hp.bds
  have h2:=h
  rw[Al]at h2
  simp only[Option.some.injEq,Bool.and_eq_true,decide_eq_true_eq,Bool.not_eq_true',decide_eq_false_iff_not]at h2
  obtain⟨n,hn,rfl⟩:=hp
  have:=List.all_eq_true.1 (List.all_eq_true.1 BP n (List.mem_range.2 hn)) (b+1).toNat (List.mem_range.2 (by omega))
  have eb:(((b+1).toNat:Nat):Int)-1=b:=by omega
  rw[eb]at this
  unfold BO at this
  rw[h]at this
  simp only at this
  unfold stp
  rw[if_pos h]
  cases hq:bA 0 (pl n) b with
  | none=>rw[hq]at this;cases this
  | some z =>
   obtain⟨q,c,w⟩:=z
   rw[hq]at this
   simp only[Bool.and_eq_true,decide_eq_true_eq,goes,Bool.or_eq_true,ne_eq,decide_not,Bool.not_eq_true',decide_eq_false_iff_not]at this
   refine⟨q,c,w,rfl,rfl,⟨num q,this.1.1.1,this.1.1.2.symm⟩,?_,this.2⟩
   rcases this.1.2 with h | ⟨⟨h1,h2⟩,h3⟩
   ·exact .inl h
   ·exact .inr ⟨h1,h2,fun hf=>h3.resolve_left (fun hn=>hn hf)⟩
 ·left
  refine⟨?_,by unfold stp;rw[if_neg h]⟩
  rw[Al]at h ⊢
  congr 1
  simpa using h
def yZ:FramePlay:=FramePlay.mk zk (FrameAt.mk 0 0 10 true 2 (Ar2.mk 0 0))
theorem Am:bL N zk=some yZ:=rfl
theorem An:Ok yZ:=⟨0,by omega,by decide +kernel⟩
def zu:FramePlay→List Int→Nat
 | _,[]=>0
 | p,b::r=>match stp p b with
  | some (q,_,_)=>zu q r+1
  | none=>0
theorem AM:∀(l:List Int) (p:FramePlay),zu p l≤l.length
 | [],_=>by simp[zu]
 | b::r,p=>by
  unfold zu
  cases stp p b with
  | none=>simp
  | some z=>have:=AM r z.1;simp only[List.length_cons];omega
def behind:FramePlay→List Int→FramePlay
 | p,[]=>p
 | p,b::r=>match stp p b with
  | some (q,_,_)=>behind q r
  | none=>p
theorem AC:∀(l:List Int) {p:FramePlay},Ok p→Ok (behind p l)
 | [],_,h=>h
 | b::r,p,h=>by
  unfold behind
  rcases zL (N:=0) h b with⟨_,e⟩ | ⟨_,q,n,w,e,_,hq,_⟩<;>rw[e]
  ·exact h
  ·exact AC r hq
theorem bad_eq(l:List Int)(hl:l.length<100000)(hN':l.length<N):jy N zk l=some (zu yZ l:Int):=by
 have key:=lO (N:=N) (B:=fun rec3 x=>de N l rec3 x.1 x.2.1 x.2.2.1 x.2.2.2) l (fun i (a:FramePlay)=>((l.length:Int),(i:Int),a,(i:Int)))
  (fun r a=>some (((l.length-r.length+zu a r:Nat):Int))) (fun _ a=>Ok a)
  (fun a rec _=>by simp[de,zu])
  (fun i b a rec hx ha h=>by
   have hlt:=lP hx
   unfold de
   rw[if_pos (by simp only[decide_eq_true_eq];omega),ij hx,Option.bind_some]
   simp only[zu,List.length_cons,List.length_drop]
   rcases zL (N:=N) ha b with⟨e1,e2⟩ | ⟨e1,q,n,w,e2,e3,hq,_⟩
   ·rw[e1,e2,Option.bind_some]
    simp only[Bool.not_false,if_true]
    congr 1;omega
   ·rw[e1,e2,Option.bind_some,e3,Option.bind_some]
    simp only[Bool.not_true,Bool.false_eq_true,if_false]
    rw[fN (by omega),h q hq]
    simp only[List.length_drop]
    congr 1;omega)
  hN' yZ An
 unfold jy cS
 rw[Option.bind_some]
 dsimp only
 rw[Am,Option.bind_some]
 simp only[Int.natCast_zero,Nat.sub_self,Nat.zero_add]at key
 rw[key,Option.bind_some]
theorem Cf:FG N zk=some 0:=by
 unfold FG
 simp only[AB]
 rfl
theorem BA(l:List Int)(hl:l.length<100000)(hN:l.length<N):fj N zk l=some (if 40<l.length then 3 else if zu yZ l<l.length then 10 else 0):=by
 unfold fj
 rw[Cf,Option.bind_some]
 simp only[decide_true,Bool.not_true,Bool.false_eq_true,if_false]
 by_cases h:40<l.length
 ·rw[if_pos (by simp only[decide_eq_true_eq];omega),if_pos h]
 ·rw[if_neg (by simp only[decide_eq_true_eq];omega),if_neg h,bad_eq l hl hN,Option.bind_some]
  by_cases h2:zu yZ l<l.length
  ·rw[if_pos (by simp only[decide_eq_true_eq];omega),if_pos h2]
  ·rw[if_neg (by simp only[decide_eq_true_eq];omega),if_neg h2]
theorem BB(l:List Int)(hl:l.length<100000)(hN:l.length<N):dg N zk l=some (behind yZ l):=by
 have key:=lO (N:=N) (B:=fun rec3 x=>cd N l rec3 x.1 x.2.1 x.2.2.1 x.2.2.2) l (fun i (a:FramePlay)=>((l.length:Int),(i:Int),a,a))
  (fun r a=>some (behind a r)) (fun _ a=>Ok a)
  (fun a rec _=>by simp[cd,behind])
  (fun i b a rec hx ha h=>by
   have hlt:=lP hx
   unfold cd
   rw[if_pos (by simp only[decide_eq_true_eq];omega),ij hx,Option.bind_some]
   simp only[behind]
   rcases zL (N:=N) ha b with⟨e1,e2⟩ | ⟨e1,q,n,w,e2,e3,hq,_⟩
   ·rw[e1,e2,Option.bind_some];rfl
   ·rw[e1,e2,Option.bind_some,e3,Option.bind_some]
    simp only[Bool.not_true,Bool.false_eq_true,if_false]
    rw[fN (by omega),h q hq])
  hN yZ An
 unfold dg cS
 rw[Am,Option.bind_some,Option.bind_some]
 dsimp only
 rw[Am,Option.bind_some]
 simp only[Int.natCast_zero]at key
 rw[key,Option.bind_some]
theorem BQ(l:List Int)(hl:l.length<100000)(hN:l.length<N):∃r,fL N l=some r:=by
 have key:=zh (B:=fun rec3 x=>fK N l rec3 x.1 x.2.1 x.2.2) (fun k (x:Int×Int×Int)=>x.2.1=l.length∧∃i:Nat,x.2.2=i∧i+k=l.length) (fun _=>True)
  (fun k x rec hI ih=>by
   obtain⟨n,v,w⟩:=x
   obtain⟨rfl,i,rfl,hk⟩:=hI
   unfold fK
   by_cases h:i<l.length
   ·rw[if_pos (by simp only[decide_eq_true_eq];omega)]
    simp only[ij (List.getElem?_eq_getElem h),Option.bind_some]
    exact ih (k-1) _ (by omega) ⟨rfl,i+1,fN (by omega),by omega⟩
   ·rw[if_neg (by simp only[decide_eq_true_eq];omega)];exact⟨_,rfl,trivial⟩)
  N l.length (0,(l.length:Int),0) ⟨rfl,0,rfl,by omega⟩ hN
 obtain⟨r,hr,_⟩:=key
 exact⟨r,by unfold fL;rw[hr];rfl⟩
end Go.Proofs.YtemciceobngijaaGreatDoor
namespace Go.Proofs.YtemciceobngijaaGreatDoor
open Go.Kp
variable {N:Nat}
def lbv (p:FramePlay):Int:=if p.fAt.fFrame=1 then p.fAt.fThrown else if p.fAt.fFrame=2 then 1+p.fAt.fThrown else 3
structure CI(i:Nat)(p:FramePlay)(cs es ms fs:List Int):Prop where
 ok:Ok p
 cl:cs.length=i
 el:(es.length:Int)=p.fAt.fFrame
 ml:ms.length=es.length
 fl:fs.length=3
 fb:∀x∈fs,0≤x∧x≤(i:Int)
 eb:∀x∈es,0≤x∧x≤(i:Int)
 ep:es.Pairwise (·≤·)
 mb:∀x∈ms,0≤x∧x≤2
 lb:∀x,es[0]? = some x→x+lbv p≤i
 cb:∀x∈cs,0≤x∧x≤10
 il:(i:Int)≤3*p.fAt.fFrame+p.fAt.fThrown
theorem CI.step{i:Nat}{p q:FramePlay}{cs es ms fs:List Int}(h:CI i p cs es ms fs)(hq:Ok q)(hg:Goes p q)(c x:Int)(hc0:0≤c∧c≤10)(hx:fs[p.fAt.fFrame.toNat]? = some x) :
  (q.fAt.fFrame=p.fAt.fFrame→CI (i+1) q (cs++[c]) es ms (fs.set p.fAt.fFrame.toNat (x+1))) ∧
  (p.fAt.fFrame<q.fAt.fFrame→∀m:List Int,m.length=ms.length+1→(∀y∈m,0≤y∧y≤2)→CI (i+1) q (cs++[c]) (es++[(i:Int)+1]) m (fs.set p.fAt.fFrame.toNat (x+1))):=by
 have hb:=h.ok.bds
 have hx2:=h.fb x (List.mem_of_getElem? hx)
 have hil:=h.il
 have hcb:∀y∈cs++[c],0≤y∧y≤10:=fun y hy=>by
  rcases List.mem_append.1 hy with hy | hy
  ·exact h.cb y hy
  ·simp at hy;subst hy;exact hc0
 have hfb:∀y∈fs.set p.fAt.fFrame.toNat (x+1),0≤y∧y≤((i+1:Nat):Int):=fun y hy=>by
  rcases List.mem_or_eq_of_mem_set hy with hy | rfl
  ·have:=h.fb y hy;omega
  ·omega
 constructor
 ·intro e
  rcases hg with⟨_,g2⟩ | ⟨g1,_⟩
  ·refine⟨hq,by simp[h.cl],by rw[h.el,e],h.ml,by simp[h.fl],hfb,fun y hy=>?_,h.ep,h.mb,fun y hy=>?_,hcb,by push_cast;omega⟩
   ·have:=h.eb y hy;omega
   ·have:=h.lb y hy
    unfold lbv at *
    rw[e,g2]
    push_cast
    have he:es.length≠0:=by intro e0;have:=List.eq_nil_of_length_eq_zero e0;subst this;simp at hy
    have:=h.el
    by_cases h1:p.fAt.fFrame=1
    ·simp only[if_pos h1]at *;omega
    ·by_cases h2:p.fAt.fFrame=2
     ·simp only[if_neg h1,if_pos h2]at *;omega
     ·simp only[if_neg h1,if_neg h2]at *
      have h3:=hq.bds
      have h4:p.fAt.fFrame=3:=by omega
      omega
  ·omega
 ·intro e m hm1 hm2
  rcases hg with⟨g1,_⟩ | ⟨g1,g2,g3⟩
  ·omega
  ·refine⟨hq,by simp[h.cl],by simp[h.el,g1],by simp[hm1,h.ml],by simp[h.fl],hfb,fun y hy=>?_,?_,hm2,fun y hy=>?_,hcb,by push_cast;omega⟩
   ·rcases List.mem_append.1 hy with hy | hy
    ·have:=h.eb y hy;omega
    ·simp at hy;omega
   ·rw[List.pairwise_append]
    refine⟨h.ep,by simp,fun a ha b hb=>?_⟩
    have:=h.eb a ha
    simp at hb;omega
   ·unfold lbv
    rw[g1,g2]
    have hel:=h.el
    cases hes:es with
    | nil =>
     rw[hes]at hy hel
     simp at hy hel
     rw[← hel]
     simp;omega
    | cons z r =>
     rw[hes]at hy hel
     simp at hy hel
     subst hy
     have:=h.lb z (by rw[hes];rfl)
     unfold lbv at this
     have hp1:1≤p.fAt.fFrame:=by omega
     have hp3:p.fAt.fFrame+1≤3:=by have:=hq.bds;omega
     rw[if_neg (by omega)]
     by_cases h1:p.fAt.fFrame=1
     ·rw[if_pos h1]at this
      rw[if_pos (by omega)];push_cast;omega
     ·have h2:p.fAt.fFrame=2:=by omega
      have:=g3 h2
      rw[if_neg h1,if_pos h2]at *
      rw[if_neg (by omega)];push_cast;omega
theorem A6(l:List Int)(hl:l.length<100000)(hN:l.length+10<N):∃r,aj (fun rec3 x=>ca N zk l rec3 x.1 x.2.1 x.2.2.1 x.2.2.2.1 x.2.2.2.2.1 x.2.2.2.2.2.1 x.2.2.2.2.2.2) N ((l.length:Int),0,yZ,[],[],[],List.replicate 3 0)=some r ∧
  ∃fs,CI (zu yZ l) (behind yZ l) r.1 r.2.1 r.2.2 fs:=by
 refine zh (B:=fun rec3 x=>ca N zk l rec3 x.1 x.2.1 x.2.2.1 x.2.2.2.1 x.2.2.2.2.1 x.2.2.2.2.2.1 x.2.2.2.2.2.2)
  (fun k (x:Int×Int×FramePlay×List Int×List Int×List Int×List Int)=>x.1=l.length∧∃i:Nat,x.2.1=i∧i+k=l.length∧CI i x.2.2.1 x.2.2.2.1 x.2.2.2.2.1 x.2.2.2.2.2.1 x.2.2.2.2.2.2∧zu yZ l=i+zu x.2.2.1 (l.drop i)∧behind yZ l=behind x.2.2.1 (l.drop i)) _ ?_ N l.length _ ⟨rfl,0,rfl,by omega,?_,by simp,by simp⟩ (by omega)
 ·rintro k ⟨v,w,p,cs,es,ms,fs⟩ rec ⟨hv,i,hw,hk,hci,hg1,hg2⟩ ih
  simp only at hv hw hci hg1 hg2
  subst hv hw
  have hbd:=hci.ok.bds
  unfold ca
  by_cases h:i<l.length
  ·have hx:=List.getElem?_eq_getElem h
   generalize l[i]=b at hx
   have hdrop:l.drop i=b::l.drop (i+1):=by
    rw[List.drop_eq_getElem_cons h]
    have:=(List.getElem?_eq_some_iff.1 hx).2
    rw[this]
   rw[if_pos (by simp only[decide_eq_true_eq];omega)]
   simp only[ij hx,Option.bind_some]
   rw[hdrop]at hg1 hg2
   rw[zu]at hg1
   rw[behind]at hg2
   rcases zL (N:=N) hci.ok b with⟨e1,e2⟩ | ⟨e1,q,n,w,e2,e3,hq,hgo,hnb⟩
   ·rw[e1,Option.bind_some]
    simp only[Bool.not_false,if_true]
    rw[e2]at hg1 hg2
    refine⟨_,rfl,fs,?_⟩
    simp only[Nat.add_zero]at hg1
    rw[hg1,hg2];exact hci
   ·rw[e1,Option.bind_some]
    simp only[Bool.not_true,Bool.false_eq_true,if_false]
    rw[e3,Option.bind_some]
    rw[e2]at hg1 hg2
    simp only at hg1 hg2 ⊢
    have hes:es.length≤3:=by have:=hci.el;omega
    rw[nL (by have:=hci.cl;simp;omega),Option.bind_some]
    have hf3:p.fAt.fFrame<3:=by
     by_cases h3:p.fAt.fFrame=3
     ·rw[Al,hbd.2.2.2.2.2.2,h3]at e1;simp[zk]at e1
     ·omega
    have hfx:fs[p.fAt.fFrame.toNat]? = some (fs[p.fAt.fFrame.toNat]'(by have:=hci.fl;omega)):=List.getElem?_eq_getElem (by have:=hci.fl;omega)
    generalize fs[p.fAt.fFrame.toNat]'(by have:=hci.fl;omega)=x at hfx
    have hxb:=hci.fb x (List.mem_of_getElem? hfx)
    rw[yy (by omega) hfx,Option.bind_some]
    have ex:w64 (x+1)=x+1:=bE (by omega) (by omega)
    have ei:w64 ((i:Int)+1)=(i:Int)+1:=bE (by omega) (by omega)
    have hst:=hci.step hq hgo n x hnb hfx
    simp only[ex,ei]
    have fin:∀cs' es' ms' fs',CI (i+1) q cs' es' ms' fs'→∃r,rec ((l.length:Int),(i:Int)+1,q,cs',es',ms',fs')=some r∧∃fs,CI (zu yZ l) (behind yZ l) r.1 r.2.1 r.2.2 fs:=fun cs' es' ms' fs' hc =>
     ih (k-1) _ (by omega) ⟨rfl,i+1,by simp,by omega,hc,by simp only;omega,hg2⟩
    by_cases hf:p.fAt.fFrame<q.fAt.fFrame
    ·rw[if_pos (by simp only[decide_eq_true_eq];exact hf)]
     rw[nL (by simp;omega),Option.bind_some,nL (by simp[hci.ml];omega),Option.bind_some]
     have hset:(fs.set p.fAt.fFrame.toNat (x+1))[p.fAt.fFrame.toNat]? = some (x+1):=by rw[List.getElem?_set_self (by have:=hci.fl;omega)]
     rw[yy (by omega) hset,Option.bind_some]
     have e5:w64 ((i:Int)+1-(x+1))=(i:Int)-x:=by rw[bE (by omega) (by omega)];omega
     rw[e5,rX (by omega) (by simp[hci.cl];omega) (by simp),Option.bind_some]
     obtain⟨sm,hsm⟩:=BQ (N:=N) (((cs++[n]).take ((cs++[n]).length:Int).toNat).drop ((i:Int)-x).toNat) (by simp[hci.cl];omega) (by simp[hci.cl];omega)
     rw[hsm,Option.bind_some]
     have hm0:CI (i+1) q (cs++[n]) (es++[(i:Int)+1]) (ms++[0]) (fs.set p.fAt.fFrame.toNat (x+1)):=hst.2 hf _ (by simp) (fun y hy=>by
      rcases List.mem_append.1 hy with hy | hy
      ·exact hci.mb y hy
      ·simp at hy;omega)
     have hlast:∀d:Bool,(d=true→x+1<3)→∃r,(Option.bind (some (d,fs.set p.fAt.fFrame.toNat (x+1))) fun x_1=>match x_1 with
       | (v96,l713)=>if v96 then(Option.bind (idx l713 p.fAt.fFrame) fun x311=>Option.bind (idx (ms++[0]) p.fAt.fFrame) fun x312=>some (cs++[n],es++[(i:Int)+1],(ms++[0]).set p.fAt.fFrame.toNat (w64 (3-x311)),l713))else some (cs++[n],es++[(i:Int)+1],ms++[0],l713))=some r∧CI (i+1) q r.1 r.2.1 r.2.2.1 r.2.2.2:=by
      intro d hd
      rw[Option.bind_some]
      cases d with
      | false=>exact⟨_,rfl,hm0⟩
      | true =>
       simp only[if_true]
       have hml:p.fAt.fFrame.toNat<(ms++[0]).length:=by have:=hci.el;have:=hci.ml;simp;omega
       rw[yy (by omega) hset,Option.bind_some,yy (by omega) (List.getElem?_eq_getElem hml),Option.bind_some]
       refine⟨_,rfl,?_⟩
       have:=hd rfl
       have e6:w64 (3-(x+1))=3-(x+1):=bE (by omega) (by omega)
       rw[e6]
       refine hst.2 hf _ (by simp) (fun y hy=>?_)
       rcases List.mem_or_eq_of_mem_set hy with hy | rfl
       ·rcases List.mem_append.1 hy with hy | hy
        ·exact hci.mb y hy
        ·simp at hy;omega
       ·omega
     have hd2:∃d:Bool,(d=true→x+1<3)∧(if decide (p.fAt.fFrame<w64 (zk.fFrames-1))then(if decide (sm=zk.fPins)then some ((decide (x+1<3),fs.set p.fAt.fFrame.toNat (x+1)))else some ((false,fs.set p.fAt.fFrame.toNat (x+1))))else some ((false,fs.set p.fAt.fFrame.toNat (x+1))))=some (d,fs.set p.fAt.fFrame.toNat (x+1)):=by
      split
      ·split
       ·exact⟨_,by simp,rfl⟩
       ·exact⟨_,by simp,rfl⟩
      ·exact⟨_,by simp,rfl⟩
     obtain⟨d,hd,e7⟩:=hd2
     obtain⟨r,hr,hc⟩:=hlast d hd
     rw[e7,hr,Option.bind_some]
     exact fin _ _ _ _ hc
    ·rw[if_neg (by simp only[decide_eq_true_eq];exact hf),Option.bind_some]
     exact fin _ _ _ _ (hst.1 (by rcases hgo with g | g<;>omega))
  ·rw[if_neg (by simp only[decide_eq_true_eq];omega)]
   have hi:i=l.length:=by omega
   subst hi
   rw[List.drop_length]at hg1 hg2
   simp only[zu,behind,Nat.add_zero]at hg1 hg2
   refine⟨_,rfl,fs,?_⟩
   rw[hg1,hg2];exact hci
 ·exact⟨An,rfl,rfl,rfl,rfl,by simp,by simp,by simp,by simp,by simp,by simp,by simp[yZ]⟩
end Go.Proofs.YtemciceobngijaaGreatDoor
namespace Go.Proofs.YtemciceobngijaaGreatDoor
open Go.Kp
variable {N:Nat}
theorem Bu(l:List Int)(hb:∀x∈l,0≤x∧x≤1000000)(hl:l.length≤1000000)(hN:l.length<N):fL N l=some l.sum:=by
 have:=By (N:=N) l hb hl hN
 unfold fL
 show Option.bind (aj (fun(rec:Int×Int×Int→Option Int) (x:Int×Int×Int)=>if decide (x.2.2<x.2.1)then Option.bind (idx l x.2.2) fun y=>rec (w64 (x.1+y),x.2.1,w64 (x.2.2+1))else some x.1) N (0,(l.length:Int),0)) _=_
 rw[this];rfl
theorem Bn(l:List Int)(hl:l.length<100000)(hN:l.length+10<N):∃r,gC N zk l=some r∧r.length≤3∧((behind yZ l).fAt.fFrame=3→r≠[])∧∀c,r.getLast? = some c→0≤c∧c≤300:=by
 unfold gC cS
 rw[show mkl N zk.fFrames (0:Int)=some (List.replicate 3 0)from by unfold mkl;rw[if_pos ⟨by decide,by simp only[zk];omega⟩];rfl,Option.bind_some,Option.bind_some]
 dsimp only
 rw[Am,Option.bind_some]
 obtain⟨⟨cs,es,ms⟩,hr,fs,hc⟩:=A6 l hl hN
 rw[hr,Option.bind_some]
 simp only at hc ⊢
 have hbd:=hc.ok.bds
 have hgl:=AM l yZ
 have hes:es.length≤3:=by have:=hc.el;omega
 refine(fun⟨r,h1,h2⟩=>⟨r,h1,h2⟩) (zh (B:=fun rec5 x=>FD N cs es ms rec5 x.1 x.2.1 x.2.2.1 x.2.2.2)
  (fun k (x:Int×Int×Int×List Int)=>x.2.1=es.length∧∃i:Nat,x.2.2.1=i∧i+k=es.length∧x.2.2.2.length=i∧0≤x.1∧(∀y,es[i]? = some y→x.1≤y)∧x.1≤cs.length∧∀y,x.2.2.2.getLast? = some y→0≤y∧y≤10*(x.1+2*(i:Int))) (fun r=>r.length≤3∧((behind yZ l).fAt.fFrame=3→r≠[])∧∀c,r.getLast? = some c→0≤c∧c≤300) ?_ N es.length (0,(es.length:Int),0,[]) ⟨rfl,0,rfl,by omega,rfl,by simp,fun y hy=>(hc.eb y (List.mem_of_getElem? hy)).1,by simp only;omega,by simp⟩ (by omega))
 rintro k ⟨fr,v,w,acc⟩ rec ⟨hv,i,hw,hk,ha,hfr,hle,hfc,hlast⟩ ih
 simp only at hv hw ha hfr hle hfc hlast
 have hcl:=hc.cl
 have hil:=hc.il
 have fin:∀c,acc.getLast? = some c→0≤c∧c≤300:=fun c h=>by have:=hlast c h;omega
 subst hv hw
 unfold FD
 by_cases h:i<es.length
 ·rw[if_pos (by simp only[decide_eq_true_eq];omega)]
  have hx:=List.getElem?_eq_getElem h
  generalize es[i]=e at hx
  have hm:i<ms.length:=by have:=hc.ml;omega
  have hy:=List.getElem?_eq_getElem hm
  generalize ms[i]=m at hy
  have heb:=hc.eb e (List.mem_of_getElem? hx)
  have hmb:=hc.mb m (List.mem_of_getElem? hy)
  simp only[ij hx,ij hy,Option.bind_some]
  have e1:w64 (e+m)=e+m:=bE (by omega) (by omega)
  rw[e1]
  by_cases hlt:(cs.length:Int)<e+m
  ·rw[if_pos (by simp only[decide_eq_true_eq];exact hlt)]
   refine⟨_,rfl,by omega,fun h3=>?_,fin⟩
   rcases Nat.eq_zero_or_pos i with h0 | h0
   ·subst h0
    have:=hc.lb e hx
    unfold lbv at this
    rw[h3]at this
    simp at this
    omega
   ·intro e0;subst e0;simp at ha;omega
  ·rw[if_neg (by simp only[decide_eq_true_eq];exact hlt)]
   have hle2:=hle e hx
   rw[rX hfr (by omega) (by omega),Option.bind_some]
   have hsl:∀x∈(cs.take (e+m).toNat).drop fr.toNat,0≤x∧x≤10:=fun x hx=>hc.cb x (List.mem_of_mem_take (List.mem_of_mem_drop hx))
   have hsll:((cs.take (e+m).toNat).drop fr.toNat).length=(e+m).toNat-fr.toNat:=by rw[List.length_drop,List.length_take];omega
   generalize(cs.take (e+m).toNat).drop fr.toNat=sl at hsl hsll
   have hsum:=BL (B:=10) (by omega) sl hsl
   rw[Bu sl (fun x hx=>by have:=hsl x hx;omega) (by omega) (by omega),Option.bind_some]
   generalize sl.sum=sm at hsum
   have hs2:∃z,(if decide (0<(i:Int))then Option.bind (idx acc (w64 ((i:Int)-1))) fun x400=>Option.bind (fL N [sm,x400]) fun r188=>some r188 else some sm)=some z∧0≤z∧z≤10*(e+2*((i:Int)+1)):=by
    by_cases h0:0<i
    ·rw[if_pos (by simp only[decide_eq_true_eq];omega)]
     have e2:w64 ((i:Int)-1)=((i-1:Nat):Int):=by rw[bE (by omega) (by omega)];omega
     have h1:i-1<acc.length:=by omega
     have hgl:acc.getLast? = some acc[i-1]:=by rw[List.getLast?_eq_getElem?,ha,List.getElem?_eq_getElem h1]
     have hlb:=hlast _ hgl
     rw[e2,ij (List.getElem?_eq_getElem h1),Option.bind_some]
     generalize acc[i-1]=y at hlb
     rw[Bu [sm,y] (fun x hx=>by simp at hx;rcases hx with rfl | rfl<;>omega) (by simp) (by simp;omega)]
     exact⟨_,rfl,by simp;omega,by simp;omega⟩
    ·rw[if_neg (by simp only[decide_eq_true_eq];omega)];exact⟨_,rfl,by omega,by omega⟩
   obtain⟨z,hz,hz0,hz1⟩:=hs2
   rw[hz,Option.bind_some,nL (by simp;omega),Option.bind_some,fN (by omega)]
   refine ih (k-1) _ (by omega) ⟨rfl,i+1,rfl,by omega,by simp[ha],heb.1,fun y hy=>?_,by simp only;omega,fun y hy=>by simp at hy;subst hy;exact⟨hz0,by push_cast;exact hz1⟩⟩
   have:=List.pairwise_iff_getElem.1 hc.ep i (i+1) h (List.getElem?_eq_some_iff.1 hy).1 (by omega)
   rw[(List.getElem?_eq_some_iff.1 hx).2,(List.getElem?_eq_some_iff.1 hy).2]at this
   exact this
 ·rw[if_neg (by simp only[decide_eq_true_eq];omega)]
  unfold eB
  refine⟨_,rfl,by simp only;omega,fun h3=>?_,fin⟩
  have:=hc.el
  intro e0;subst e0;simp at ha;omega
theorem Bo(l:List Int)(hl:l.length<100000)(hN:l.length+10<N):∃r,aj (fun rec3 x=>eC N l rec3 x.1 x.2.1 x.2.2.1 x.2.2.2) N ((l.length:Int),0,yZ,[])=some r:=by
 refine(fun⟨r,h1,_⟩=>⟨r,h1⟩) (zh (B:=fun rec3 x=>eC N l rec3 x.1 x.2.1 x.2.2.1 x.2.2.2)
  (fun k (x:Int×Int×FramePlay×List (List Int))=>x.1=l.length∧∃i:Nat,x.2.1=i∧i+k=l.length∧Ok x.2.2.1∧(∀y∈x.2.2.2,y.length≤i)∧((x.2.2.2.length:Int)=x.2.2.1.fAt.fFrame∨(x.2.2.2.length:Int)=x.2.2.1.fAt.fFrame+1)) (fun _=>True) ?_ N l.length ((l.length:Int),0,yZ,[]) ⟨rfl,0,rfl,by omega,An,by simp,.inl rfl⟩ (by omega))
 rintro k ⟨v,w,p,g⟩ rec ⟨hv,i,hw,hk,hp,hb,hlen⟩ ih
 simp only at hv hw hp hb hlen
 subst hv hw
 have hbd:=hp.bds
 unfold eC
 by_cases h:i<l.length
 ·rw[if_pos (by simp only[decide_eq_true_eq];omega)]
  have hx:=List.getElem?_eq_getElem h
  generalize l[i]=b at hx
  simp only[ij hx,Option.bind_some]
  rcases zL (N:=N) hp b with⟨e1,e2⟩ | ⟨e1,q,n,w,e2,e3,hq,hgo,hnb⟩
  ·rw[e1];exact⟨_,rfl,trivial⟩
  ·rw[e1,Option.bind_some]
   simp only[Bool.not_true,Bool.false_eq_true,if_false]
   rw[e3,Option.bind_some]
   simp only
   have hg:∃g',(if decide (p.fAt.fFrame=(g.length:Int))then Option.bind (app N g [[]]) fun l218=>some l218 else some g)=some g'∧(g'.length:Int)=p.fAt.fFrame+1∧∀y∈g',y.length≤i:=by
    by_cases he:p.fAt.fFrame=(g.length:Int)
    ·rw[if_pos (by simp only[decide_eq_true_eq];exact he),nL (by simp;omega)]
     refine⟨_,rfl,by simp;omega,fun y hy=>?_⟩
     rcases List.mem_append.1 hy with hy | hy
     ·exact hb y hy
     ·simp at hy;subst hy;simp
    ·rw[if_neg (by simp only[decide_eq_true_eq];exact he)]
     exact⟨g,rfl,by omega,hb⟩
   obtain⟨g',hg',hgl,hgb⟩:=hg
   rw[hg',Option.bind_some]
   have hlt:p.fAt.fFrame.toNat<g'.length:=by omega
   have hx2:=List.getElem?_eq_getElem hlt
   have hyl:=hgb _ (List.getElem_mem hlt)
   generalize g'[p.fAt.fFrame.toNat]=y at hx2 hyl
   rw[yy (by omega) hx2,Option.bind_some,nL (by simp;omega),Option.bind_some,fN (by omega)]
   refine ih (k-1) _ (by omega) ⟨rfl,i+1,rfl,by omega,hq,fun z hz=>?_,?_⟩
   ·rcases List.mem_or_eq_of_mem_set hz with hz | rfl
    ·have:=hgb z hz;omega
    ·simp;omega
   ·simp only[List.length_set]
    rcases hgo with⟨g1,_⟩ | ⟨g1,_⟩<;>omega
 ·rw[if_neg (by simp only[decide_eq_true_eq];omega)];exact⟨_,rfl,trivial⟩
def fit (l:List Int):Bool:=decide (l.length≤40)&&decide (zu yZ l=l.length)
theorem A7(l:List Int)(hl:l.length<100000)(hN:l.length+10<N):∃g e,gm N zk l=some (g,e)∧(decide (e=0)=fit l)∧g.fCounts.length≤3∧(g.fDone=true→g.fCounts≠[])∧∀c,g.fCounts.getLast? = some c→0≤c∧c≤300:=by
 unfold gm
 rw[BA l hl (by omega),Option.bind_some]
 have hgl:=AM l yZ
 by_cases h1:40<l.length
 ·rw[if_pos h1]
  exact⟨_,_,rfl,by simp[fit];omega,by simp,by simp,by simp⟩
 ·rw[if_neg h1]
  by_cases h2:zu yZ l<l.length
  ·rw[if_pos h2]
   exact⟨_,_,rfl,by simp[fit];omega,by simp,by simp,by simp⟩
  ·rw[if_neg h2]
   simp only[decide_true,Bool.not_true,Bool.false_eq_true,if_false]
   obtain⟨r,hr,hr0,hr3,hrb⟩:=Bn l hl hN
   obtain⟨g,hg⟩:=Bo l hl hN
   rw[hr,Option.bind_some]
   unfold cS
   rw[Option.bind_some]
   dsimp only
   rw[Am,Option.bind_some,hg,Option.bind_some,BB l hl (by omega),Option.bind_some]
   have hb:=(AC l An).bds
   unfold cT
   rw[Option.bind_some,hb.2.2.2.2.2.2]
   have hfit:decide ((0:Int)=0)=fit l:=by
    simp[fit];omega
   by_cases hd:(behind yZ l).fAt.fFrame=zk.fFrames
   ·simp only[hd,decide_true,Bool.not_true,Bool.false_eq_true,if_false,Option.bind_some]
    exact⟨_,_,rfl,hfit,hr0,fun _=>hr3 hd,hrb⟩
   ·simp only[hd,decide_false,Bool.not_false,if_true,Option.bind_some]
    exact⟨_,_,rfl,hfit,hr0,by simp,hrb⟩
end Go.Proofs.YtemciceobngijaaGreatDoor
namespace Go.Proofs.YtemciceobngijaaGreatDoor
open Go.Kp
variable {N:Nat}
/-! What each word does with its numbers, in plain words. -/
theorem zi(n a b:Int):cJ N n a b=some (decide (a≤n)&&decide (n≤b)):=by
 unfold cJ
 by_cases h:a≤n<;>simp[h]
theorem yl(b:Bool)(e:Int):b7 N b e=some (if b then .inr ()else .inl (DeskRefusal.mk e)):=by cases b<;>rfl
theorem yS(l:List Int)(h:l.length≤N):cG N l=some l:=by
 unfold cG gc;rw[nL (by simpa using h)];rfl
theorem zX(l:List (List Int))(h:l.length≤N):gd N l=some l:=by
 unfold gd ff;rw[nL (by simpa using h)];rfl
theorem Ao(l:List DeskLane)(h:l.length≤N):fh N l=some l:=by
 unfold fh eA;rw[nL (by simpa using h)];rfl
theorem Aa(l:List RateSheet)(h:l.length≤N):gD N l=some l:=by
 unfold gD dR;rw[nL (by simpa using h)];rfl
theorem zM(l:List LadderResult)(h:l.length≤N):yk N l=some l:=by
 unfold yk yp;rw[nL (by simpa using h)];rfl
theorem AN(l:List Int)(x:Int)(h:l.length<N):jw N l x=some (l++[x]):=by
 unfold jw;rw[yS l (by omega),Option.bind_some,nL (by simp;omega)];rfl
theorem BR(l:List (List Int))(x:List Int)(h:l.length<N):lH N l x=some (l++[x]):=by
 unfold lH;rw[zX l (by omega),Option.bind_some,nL (by simp;omega)];rfl
theorem BC(l:List RateSheet)(x:RateSheet)(h:l.length<N):ze N l x=some (l++[x]):=by
 unfold ze;rw[Aa l (by omega),Option.bind_some,nL (by simp;omega)];rfl
theorem Bp(l:List LadderResult)(x:LadderResult)(h:l.length<N):yY N l x=some (l++[x]):=by
 unfold yY;rw[zM l (by omega),Option.bind_some,nL (by simp;omega)];rfl
structure SI(i:Nat)(s:DeskState):Prop where
 la:s.fLanes.length=4
 lb:∀x∈s.fLanes,-1≤x.fBowler∧x.fBowler<s.fBowlers.length∧x.fBalls.length≤i
 bl:s.fBowlers.length≤8
 kl:s.fKept.length=s.fBowlers.length
 kb:∀x∈s.fKept,x.length≤i
 sl:s.fSheets.length≤40
 wl:s.fWithdrawn.length≤i
 rl:s.fResults.length≤i
 rg:∀r∈s.fResults,r.fGames.length=1
def emb (s:DeskState):Int⊕DeskState→(DeskRefusal×DeskWork)⊕DeskWork
 | .inl e=>.inl (DeskRefusal.mk e,DeskWork.mk s)
 | .inr t=>.inr (DeskWork.mk t)
def lane (s:DeskState)(n:Int):Option DeskLane:=if 0≤n then s.fLanes[n.toNat]? else none
def put (s:DeskState)(n:Int)(x:DeskLane):DeskState:={s with fLanes:=s.fLanes.set n.toNat x}
def zN (s:DeskState)(a:Int):Int⊕DeskState :=
 if ¬(0≤a∧a≤300)then .inl 2 else if ¬s.fBowlers.length<8 then .inl 3 else if s.fResults.length≠0 then .inl 8
 else .inr {s with fBowlers:=s.fBowlers++[a],fKept:=s.fKept++[[]]}
def known(s:DeskState)(b:Int):Prop:=0≤b∧b<s.fBowlers.length
instance (s:DeskState) (b:Int):Decidable (known s b):=inferInstanceAs (Decidable (_∧_))
def AO (s:DeskState)(n b:Int):Int⊕DeskState:=match lane s n with
 | none=>.inl 7
 | some x=>if ¬known s b then .inl 7 else if x.fBowler=-1∧¬(∃y∈s.fLanes,y.fBowler=b)then .inr (put s n (DeskLane.mk b []))else .inl 6
def AP (s:DeskState)(n p:Int):Int⊕DeskState:=match lane s n with
 | none=>.inl 7
 | some x=>if x.fBowler=-1 then .inl 8 else if fit (x.fBalls++[p])then .inr (put s n (DeskLane.mk x.fBowler (x.fBalls++[p])))else .inl 10
def AQ (s:DeskState)(n:Int):Int⊕DeskState:=match lane s n with
 | none=>.inl 7
 | some x=>if x.fBowler=-1 then .inl 8 else if x.fBalls=[] then .inl 8 else .inr (put s n (DeskLane.mk x.fBowler x.fBalls.dropLast))
theorem Bv{s:DeskState}(h:s.fLanes.length=4)(n:Int):ge N n (DeskWork.mk s)=some (match lane s n with | none=>.inl (DeskRefusal.mk 7) | some x=>.inr x):=by
 unfold ge lane
 simp only[h,zi,Option.bind_some,yl]
 have e:w64 (((4:Nat):Int)-1)=3:=by decide
 rw[e]
 by_cases h0:0≤n
 ·by_cases h3:n≤3
  ·simp only[h0,h3,decide_true,Bool.and_true,if_true]
   have hlt:n.toNat<s.fLanes.length:=by omega
   rw[yy h0 (List.getElem?_eq_getElem hlt),List.getElem?_eq_getElem hlt]
   rfl
  ·have:s.fLanes.length≤n.toNat:=by omega
   simp[h0,h3,List.getElem?_eq_none this]
 ·simp[h0]
theorem AR{s:DeskState}(h:s.fLanes.length=4)(n:Int):gf N n (DeskWork.mk s)=some (match lane s n with | none=>.inl (DeskRefusal.mk 7) | some x=>if x.fBowler=-1 then .inl (DeskRefusal.mk 8)else .inr x):=by
 unfold gf
 rw[Bv h]
 cases lane s n with
 | none=>rfl
 | some x =>
  simp only[Option.bind_some,yl]
  by_cases hb:x.fBowler=-1<;>simp[hb]
theorem A8{s:DeskState}(h:s.fBowlers.length≤8)(b:Int):fg N b (DeskWork.mk s)=some (decide (known s b)):=by
 unfold fg
 dsimp only
 rw[bE (by omega) (by omega),zi,Option.bind_some]
 congr 1
 unfold known
 by_cases h0:0≤b
 ·by_cases h1:b<s.fBowlers.length
  ·simp[h0,h1];omega
  ·simp[h0,h1];omega
 ·simp[h0]
theorem zr{s:DeskState}{n:Int}{x:DeskLane}(h:lane s n=some x):0≤n∧n.toNat<s.fLanes.length∧s.fLanes[n.toNat]? = some x:=by
 unfold lane at h
 split at h
 ·rename_i h0;exact⟨h0,(List.getElem?_eq_some_iff.1 h).1,h⟩
 ·cases h
theorem put_eq{s:DeskState}(h:s.fLanes.length=4)(hN:100≤N){n:Int}{x:DeskLane}(hx:lane s n=some x)(y:DeskLane):gU N n y (DeskWork.mk s)=some (DeskWork.mk (put s n y)):=by
 obtain⟨h0,_,hx⟩:=zr hx
 unfold gU
 rw[Ao _ (by simp only[h];omega),Option.bind_some,yy h0 hx,Option.bind_some]
 rfl
theorem BD{i:Nat}{s:DeskState}(h:SI i s)(hi:i≤60)(hN:20000≤N){l:List Int}{a:Int}(hl:l[0]? = some a):gB N l (DeskWork.mk s)=some (emb s (zN s a)):=by
 unfold gB zN
 have e0:idx l 0=some a:=ij (i:=0) hl
 rw[e0]
 simp only[Option.bind_some,zi,yl]
 have hb:=h.bl
 have hk:=h.kl
 by_cases h1:0≤a∧a≤300
 ·simp only[h1.1,h1.2,decide_true,Bool.and_self,if_true,and_self,not_true_eq_false,if_false]
  by_cases h2:s.fBowlers.length<8
  ·rw[decide_eq_true (by omega:((s.fBowlers.length:Int)<8))]
   simp only[h2,if_true,not_true_eq_false,if_false]
   by_cases h3:s.fResults.length=0
   ·rw[decide_eq_true (by omega:((s.fResults.length:Int)=0))]
    simp only[h3,if_true,ne_eq,not_true_eq_false,if_false]
    rw[AN _ _ (by omega),Option.bind_some,BR _ _ (by omega),Option.bind_some]
    rfl
   ·rw[decide_eq_false (by omega:¬((s.fResults.length:Int)=0))]
    simp[h3,emb]
  ·rw[decide_eq_false (by omega:¬((s.fBowlers.length:Int)<8))]
   simp[h2,emb]
 ·rw[if_pos h1]
  have:(decide (0≤a)&&decide (a≤300))=false:=by
   rw[Bool.eq_false_iff];intro e;simp only[Bool.and_eq_true,decide_eq_true_eq]at e;exact h1 e
  rw[this]
  rfl
theorem B1{i:Nat}{s:DeskState}(h:SI i s)(hi:i≤60)(hN:20000≤N){l:List Int}{a b:Int}(hl:l[0]? = some a)(hl1:l[1]? = some b):iO N l (DeskWork.mk s)=some (emb s (AO s a b)):=by
 unfold iO dP AO
 have e0:idx l 0=some a:=ij (i:=0) hl
 have e1:idx l 1=some b:=ij (i:=1) hl1
 rw[e0,Option.bind_some,Bv h.la,Option.bind_some]
 cases hx:lane s a with
 | none=>rfl
 | some x =>
  simp only[e1,e0,Option.bind_some,A8 h.bl,yl]
  by_cases hk:known s b
  ·simp only[hk,decide_true,if_true,not_true_eq_false,if_false]
   by_cases hb:x.fBowler=-1
   ·have hcf:dD N s.fLanes l=some (s.fLanes.any fun y=>decide (y.fBowler=b)) :=
     nM (N:=N) s.fLanes (fun y=>gZ N y l) (fun y=>decide (y.fBowler=b)) (fun y _=>by unfold gZ;rw[e1];rfl) (by rw[h.la];omega) (by rw[h.la];omega)
    simp only[hb,decide_true,if_true,hcf,Option.bind_some,true_and]
    by_cases ha:∃y∈s.fLanes,y.fBowler=b
    ·have:(s.fLanes.any fun y=>decide (y.fBowler=b))=true:=by simpa using ha
     simp only[this,Bool.not_true,Bool.false_eq_true,if_false,ha,not_true_eq_false]
     rfl
    ·have:(s.fLanes.any fun y=>decide (y.fBowler=b))=false:=by simpa using ha
     simp only[this,Bool.not_false,if_true,ha,not_false_eq_true]
     rw[put_eq h.la (by omega) hx]
     rfl
   ·simp only[hb,decide_false,Bool.false_eq_true,if_false,false_and]
    rfl
  ·simp only[hk,decide_false,Bool.false_eq_true,if_false,not_false_eq_true,if_true]
   rfl
theorem B2{i:Nat}{s:DeskState}(h:SI i s)(hi:i≤60)(hN:20000≤N){l:List Int}{a b:Int}(hl:l[0]? = some a)(hl1:l[1]? = some b):iQ N l (DeskWork.mk s)=some (emb s (AP s a b)):=by
 unfold iQ AP
 have e0:idx l 0=some a:=ij (i:=0) hl
 have e1:idx l 1=some b:=ij (i:=1) hl1
 rw[e0,Option.bind_some,AR h.la,Option.bind_some]
 cases hx:lane s a with
 | none=>rfl
 | some x =>
  by_cases hb:x.fBowler=-1
  ·simp only[hb,if_true];rfl
  ·have hlb:=h.lb x (List.mem_of_getElem? (zr hx).2.2)
   simp only[hb,if_false,e1,e0,Option.bind_some]
   rw[AN _ _ (by omega),Option.bind_some]
   obtain⟨g,e,hr,hf,_,_⟩:=A7 (N:=N) (x.fBalls++[b]) (by simp;omega) (by simp;omega)
   rw[show iP N=some zk from rfl,Option.bind_some,hr,Option.bind_some]
   simp only[Option.bind_some,yl,hf]
   cases fit (x.fBalls++[b])with
   | false=>rfl
   | true =>
    simp only[if_true]
    rw[put_eq h.la (by omega) hx]
    rfl
theorem B3{i:Nat}{s:DeskState}(h:SI i s)(hi:i≤60)(hN:20000≤N){l:List Int}{a:Int}(hl:l[0]? = some a):yO N l (DeskWork.mk s)=some (emb s (AQ s a)):=by
 unfold yO AQ
 have e0:idx l 0=some a:=ij (i:=0) hl
 rw[e0,Option.bind_some,AR h.la,Option.bind_some]
 cases hx:lane s a with
 | none=>rfl
 | some x =>
  by_cases hb:x.fBowler=-1
  ·simp only[hb,if_true];rfl
  ·have hlb:=h.lb x (List.mem_of_getElem? (zr hx).2.2)
   simp only[hb,if_false,yl,Option.bind_some]
   by_cases hn:x.fBalls=[]
   ·simp[hn,emb]
   ·have hpos:0<x.fBalls.length:=List.length_pos_iff.2 hn
    rw[decide_eq_true (by omega:(0:Int)<(x.fBalls.length:Int))]
    simp only[if_true,hn,if_false]
    have e1:w64 ((x.fBalls.length:Int)-1)=((x.fBalls.length-1:Nat):Int):=by rw[bE (by omega) (by omega)];omega
    rw[e1,rX (by omega) (by omega) (by omega),Option.bind_some]
    have e2:(x.fBalls.take ((x.fBalls.length-1:Nat):Int).toNat).drop (0:Int).toNat=x.fBalls.dropLast:=by rw[List.dropLast_eq_take];simp
    rw[e2,yS _ (by simp;omega),Option.bind_some,put_eq h.la (by omega) hx]
    rfl
end Go.Proofs.YtemciceobngijaaGreatDoor
namespace Go.Proofs.YtemciceobngijaaGreatDoor
open Go.Kp
variable {N:Nat}
def fin (N:Nat)(l:List Int):Option Int:=match gm N zk l with
 | some (g,_)=>if g.fDone then g.fCounts.getLast? else none
 | none=>none
def Af (N:Nat)(s:DeskState)(n:Int):Int⊕DeskState:=match lane s n with
 | none=>.inl 7
 | some x=>if x.fBowler=-1 then .inl 8 else match fin N x.fBalls,s.fKept[x.fBowler.toNat]? with
  | some c,some k=>.inr (put {s with fKept:=s.fKept.set x.fBowler.toNat (k++[c])} n (DeskLane.mk (-1) []))
  | _,_=>.inl 8
theorem BS{i:Nat}{s:DeskState}(h:SI i s)(hi:i≤60)(hN:20000≤N){l:List Int}{a:Int}(hl:l[0]? = some a):g8 N l (DeskWork.mk s)=some (emb s (Af N s a)):=by
 unfold g8 Af
 have e0:idx l 0=some a:=ij (i:=0) hl
 rw[e0,Option.bind_some,AR h.la,Option.bind_some]
 cases hx:lane s a with
 | none=>rfl
 | some x =>
  by_cases hb:x.fBowler=-1
  ·simp only[hb,if_true];rfl
  ·have hlb:=h.lb x (List.mem_of_getElem? (zr hx).2.2)
   simp only[hb,if_false]
   obtain⟨g,e,hr,hf,hln,hd,_⟩:=A7 (N:=N) x.fBalls (by omega) (by omega)
   unfold fin
   rw[show iP N=some zk from rfl,Option.bind_some,hr,Option.bind_some]
   simp only[Option.bind_some,yl]
   cases hdn:g.fDone with
   | false=>rfl
   | true =>
    have hne:=hd hdn
    have hpos:0<g.fCounts.length:=List.length_pos_iff.2 hne
    simp only[if_true]
    have hk:=h.kl
    have hbl:=h.bl
    have hkl:x.fBowler.toNat<s.fKept.length:=by omega
    have hkx:=List.getElem?_eq_getElem hkl
    have hkb:=h.kb _ (List.getElem_mem hkl)
    generalize s.fKept[x.fBowler.toNat]=k at hkx hkb
    have el:w64 ((g.fCounts.length:Int)-1)=((g.fCounts.length-1:Nat):Int):=by rw[bE (by omega) (by omega)];omega
    have hlast:g.fCounts[g.fCounts.length-1]? = g.fCounts.getLast?:=by rw[List.getLast?_eq_getElem?]
    rw[hkx,zX _ (by omega),Option.bind_some,yy (by omega) hkx,Option.bind_some,el]
    cases hgl:g.fCounts.getLast? with
    | none=>rw[List.getLast?_eq_none_iff]at hgl;exact absurd hgl hne
    | some c =>
     rw[ij (hlast.trans hgl),Option.bind_some,AN _ _ (by omega),Option.bind_some]
     unfold iR
     obtain⟨h0,_,hx2⟩:=zr hx
     rw[Ao _ (by simp only[h.la];omega),Option.bind_some,yy h0 hx2,Option.bind_some,Option.bind_some]
     rfl
end Go.Proofs.YtemciceobngijaaGreatDoor
namespace Go.Proofs.YtemciceobngijaaGreatDoor
open Go.Kp
variable {N:Nat}
def Ag (s:DeskState)(w b:Int):Int⊕DeskState :=
 if ¬(1≤w∧w≤30)then .inl 2 else if ¬known s b then .inl 7 else match s.fKept[b.toNat]? with
 | none=>.inl 7
 | some k=>if k.length<3 then .inl 8 else if ¬s.fSheets.length<40 then .inl 3 else
  .inr {s with fKept:=s.fKept.set b.toNat (k.take (k.length-3)),fSheets:=s.fSheets++[RateSheet.mk (s.fSheets.length+1) b w (Ar3.mk (k.getD (k.length-3) 0) (k.getD (k.length-2) 0) (k.getD (k.length-1) 0))]}
theorem BT{i:Nat}{s:DeskState}(h:SI i s)(hi:i≤60)(hN:20000≤N){l:List Int}{a b:Int}(hl:l[0]? = some a)(hl1:l[1]? = some b):yF N l (DeskWork.mk s)=some (emb s (Ag s a b)):=by
 unfold yF Ag
 have e0:idx l 0=some a:=ij (i:=0) hl
 have e1:idx l 1=some b:=ij (i:=1) hl1
 rw[e0,Option.bind_some,zi,Option.bind_some,yl,Option.bind_some]
 by_cases hw:1≤a∧a≤30
 ·simp only[hw.1,hw.2,decide_true,Bool.and_self,if_true,and_self,not_true_eq_false,if_false]
  rw[e1,Option.bind_some,A8 h.bl,Option.bind_some,yl,Option.bind_some]
  by_cases hk:known s b
  ·simp only[hk,decide_true,if_true,not_true_eq_false,if_false]
   have hb:=h.bl
   have hkl:=h.kl
   have hlt:b.toNat<s.fKept.length:=by unfold known at hk;omega
   have hkx:=List.getElem?_eq_getElem hlt
   have hkb:=h.kb _ (List.getElem_mem hlt)
   generalize s.fKept[b.toNat]=k at hkx hkb
   rw[hkx,yy hk.1 hkx,Option.bind_some,yl,Option.bind_some]
   by_cases h3:k.length<3
   ·rw[decide_eq_false (by omega:¬((3:Int)≤(k.length:Int)))]
    simp[h3,emb]
   ·rw[decide_eq_true (by omega:((3:Int)≤(k.length:Int)))]
    simp only[if_true,h3,if_false,yl,Option.bind_some]
    have hsl:=h.sl
    by_cases h40:s.fSheets.length<40
    ·rw[decide_eq_true (by omega:((s.fSheets.length:Int)<40))]
     simp only[h40,if_true,not_true_eq_false,if_false]
     have e3:w64 ((k.length:Int)-3)=((k.length-3:Nat):Int):=by rw[bE (by omega) (by omega)];omega
     have e4:w64 ((s.fSheets.length:Int)+1)=(s.fSheets.length:Int)+1:=bE (by omega) (by omega)
     rw[e3,e4,rX (by omega) (by omega) (by omega),Option.bind_some]
     have hx:∀j,j<3→idx (((k.take (k.length:Int).toNat).drop ((k.length-3:Nat):Int).toNat)) (j:Nat)=some (k.getD (k.length-3+j) 0):=fun j hj=>by
      refine ij ?_
      rw[List.getElem?_drop]
      simp only[Int.toNat_natCast]
      rw[List.take_length,List.getD_eq_getElem?_getD,List.getElem?_eq_getElem (by omega)]
      simp
     have x0:=hx 0 (by omega)
     have x1:=hx 1 (by omega)
     have x2:=hx 2 (by omega)
     simp only[Int.natCast_zero,Nat.add_zero]at x0
     have c1:(((1:Nat):Int))=1:=rfl
     have c2:(((2:Nat):Int))=2:=rfl
     rw[c1]at x1
     rw[c2]at x2
     rw[x0,Option.bind_some,x1,Option.bind_some,x2,Option.bind_some,Option.bind_some]
     rw[zX _ (by omega),Option.bind_some,rX (by omega) (by omega) (by omega),Option.bind_some,yS _ (by simp;omega),Option.bind_some,yy hk.1 hkx,Option.bind_some,BC _ _ (by omega),Option.bind_some]
     have f1:k.length-3+1=k.length-2:=by omega
     have f2:k.length-3+2=k.length-1:=by omega
     rw[f1,f2]
     simp[emb]
    ·rw[decide_eq_false (by omega:¬((s.fSheets.length:Int)<40))]
     simp[h40,emb]
  ·simp only[hk,decide_false,Bool.false_eq_true,if_false,not_false_eq_true,if_true]
   rfl
 ·rw[if_pos hw]
  have:(decide (1≤a)&&decide (a≤30))=false:=by
   rw[Bool.eq_false_iff];intro e;simp only[Bool.and_eq_true,decide_eq_true_eq]at e;exact hw e
  rw[this]
  rfl
theorem half{a b:Nat}(h1:a<b)(h2:b<100000):w64 (Bs .u64 (Go.IntKind.wrap .u64 (w64 ((a:Int)+(b:Int)))) 1)=(((a+b) / 2:Nat):Int):=by
 rw[bE (n:=(a:Int)+b) (by omega) (by omega)]
 have e:Go.IntKind.wrap .u64 ((a:Int)+b)=(a:Int)+b:=by
  unfold Go.IntKind.wrap
  simp only[Go.IntKind.bits,Go.IntKind.signed,Bool.false_and,Bool.false_eq_true,if_false]
  omega
 rw[e]
 unfold Bs
 have e2:Int.fdiv ((a:Int)+b) (2 ^ min (1:Int).toNat Go.IntKind.u64.bits)=(((a+b) / 2:Nat):Int):=by
  have:(2:Int) ^ min (1:Int).toNat Go.IntKind.u64.bits=2:=by rfl
  rw[this,Int.fdiv_eq_ediv_of_nonneg _ (by omega)]
  omega
 rw[e2,bE (by omega) (by omega)]
theorem Cj(l:List Int)(t:Int)(hl:l.length<1000)(hN:20000≤N):∃i:Nat,i≤l.length∧xX N l t=some ((i:Int),decide (l[i]? = some t))∧(l.Pairwise (·<·)→(∀k x,l[k]? = some x→k<i→x<t)∧(∀k x,l[k]? = some x→i≤k→t≤x)):=by
 have key:=zh (B:=fun rec3 x=>Fh N l t rec3 x.1 x.2.1 x.2.2) (fun k (x:Int×Int×Int)=>x.1=l.length∧∃a b:Nat,x.2.1=a∧x.2.2=b∧a≤b∧b≤l.length∧k=b-a∧(l.Pairwise (·<·)→(∀k x,l[k]? = some x→k<a→x<t)∧(∀k x,l[k]? = some x→b≤k→t≤x)))
  (fun r=>∃i:Nat,r=((l.length:Int),(i:Int))∧i≤l.length∧(l.Pairwise (·<·)→(∀k x,l[k]? = some x→k<i→x<t)∧(∀k x,l[k]? = some x→i≤k→t≤x)))
  (fun k x rec hI ih=>by
   obtain⟨n,v,w⟩:=x
   obtain⟨hn,a,b,hv,hw,hab,hbl,hk,hs⟩:=hI
   simp only at hn hv hw
   subst hn hv hw
   unfold Fh yi
   by_cases h:a<b
   ·rw[if_pos (by simp only[decide_eq_true_eq];omega)]
    simp only[half h (by omega)]
    have hm:(a+b) / 2<l.length:=by omega
    have hx:=List.getElem?_eq_getElem hm
    generalize l[(a+b) / 2]=y at hx
    simp only[ij hx,Option.bind_some]
    have hc:zK N y t=some (decide (y<t)):=by
     unfold zK zw
     simp
    rw[hc,Option.bind_some]
    by_cases hyt:y<t
    ·rw[if_pos (by simp only[decide_eq_true_eq];exact hyt)]
     refine ih (b-((a+b) / 2+1)) _ (by omega) ⟨rfl,(a+b) / 2+1,b,by rw[fN (by omega)],rfl,by omega,hbl,rfl,fun hp=>⟨fun k x hkx hlt=>?_,(hs hp).2⟩⟩
     by_cases he:k=(a+b) / 2
     ·subst he;rw[hx]at hkx;cases hkx;exact hyt
     ·have hlt2:k<(a+b) / 2:=by omega
      have:=List.pairwise_iff_getElem.1 hp k ((a+b) / 2) (by omega) hm hlt2
      rw[(List.getElem?_eq_some_iff.1 hkx).2,(List.getElem?_eq_some_iff.1 hx).2]at this
      omega
    ·rw[if_neg (by simp only[decide_eq_true_eq];exact hyt)]
     refine ih ((a+b) / 2-a) _ (by omega) ⟨rfl,a,(a+b) / 2,rfl,rfl,by omega,by omega,rfl,fun hp=>⟨(hs hp).1,fun k x hkx hlt=>?_⟩⟩
     by_cases he:k=(a+b) / 2
     ·subst he;rw[hx]at hkx;cases hkx;omega
     ·have:=List.pairwise_iff_getElem.1 hp ((a+b) / 2) k hm (List.getElem?_eq_some_iff.1 hkx).1 (by omega)
      rw[(List.getElem?_eq_some_iff.1 hkx).2,(List.getElem?_eq_some_iff.1 hx).2]at this
      omega
   ·rw[if_neg (by simp only[decide_eq_true_eq];omega)]
    have:a=b:=by omega
    subst this
    exact⟨_,rfl,a,rfl,hbl,hs⟩)
  N l.length ((l.length:Int),0,(l.length:Int)) ⟨rfl,0,l.length,rfl,rfl,by omega,by omega,rfl,fun _=>⟨fun k x _ h=>by omega,fun k x h1 h2=>by have:=(List.getElem?_eq_some_iff.1 h1).1;omega⟩⟩ (by omega)
 obtain⟨r,hr,i,rfl,hi,hs⟩:=key
 refine⟨i,hi,?_,hs⟩
 unfold xX
 rw[hr,Option.bind_some]
 dsimp only
 by_cases h:i<l.length
 ·rw[if_pos (by simp only[decide_eq_true_eq];omega)]
  have hx:=List.getElem?_eq_getElem h
  generalize l[i]=y at hx
  rw[ij hx,hx]
  unfold yX
  by_cases he:y=t<;>simp[he]
 ·rw[if_neg (by simp only[decide_eq_true_eq];omega),List.getElem?_eq_none (by omega)]
  simp
def zO (N:Nat)(s:DeskState)(n:Int):Int⊕DeskState :=
 if ¬(1≤n∧n≤s.fSheets.length)then .inl 7 else match xX N s.fWithdrawn n with
 | some (i,false)=>.inr {s with fWithdrawn:=s.fWithdrawn.take i.toNat++[n]++s.fWithdrawn.drop i.toNat}
 | _=>.inl 6
theorem BE{i:Nat}{s:DeskState}(h:SI i s)(hi:i≤60)(hN:20000≤N){l:List Int}{a:Int}(hl:l[0]? = some a):yz N l (DeskWork.mk s)=some (emb s (zO N s a)):=by
 unfold yz zO
 have e0:idx l 0=some a:=ij (i:=0) hl
 rw[e0,Option.bind_some,zi,Option.bind_some,yl,Option.bind_some]
 by_cases hw:1≤a∧a≤s.fSheets.length
 ·simp only[hw.1,hw.2,decide_true,Bool.and_self,if_true,and_self,not_true_eq_false,if_false]
  have hwl:=h.wl
  obtain⟨j,hj,hb,_⟩:=Cj (N:=N) s.fWithdrawn a (by omega) hN
  rw[hb,Option.bind_some]
  simp only[yl,Option.bind_some]
  cases decide (s.fWithdrawn[j]? = some a)with
  | true=>rfl
  | false =>
   simp only[Bool.not_false,if_true]
   rw[yS _ (by omega),Option.bind_some]
   have:BJ N (j:Int) s.fWithdrawn [a]=some (s.fWithdrawn.take (j:Int).toNat++[a]++s.fWithdrawn.drop (j:Int).toNat):=by
    unfold BJ
    rw[if_pos ⟨by omega,by omega,by simp,by simp;omega⟩]
   rw[this,Option.bind_some]
   rfl
 ·rw[if_pos hw]
  have:(decide (1≤a)&&decide (a≤(s.fSheets.length:Int)))=false:=by
   rw[Bool.eq_false_iff];intro e;simp only[Bool.and_eq_true,decide_eq_true_eq]at e;exact hw e
  rw[this]
  rfl
end Go.Proofs.YtemciceobngijaaGreatDoor
namespace Go.Proofs.YtemciceobngijaaGreatDoor
open Go.Kp
variable {N:Nat}
theorem A9{α:Type}(s:List α)(p:α→Option Bool)(q:α→Bool)(hp:∀x∈s,p x=some (q x))(hN:s.length<N)(hs:s.length<4611686018427387904) :
  aj (fun(rec:Int×Int→Option Int) (x:Int×Int)=>if decide (x.2<x.1)then Option.bind (idx s x.2) fun y=>Option.bind (p y) fun r=>if r then some x.2 else rec (x.1,w64 (x.2+1))else some (-1)) N ((s.length:Int),0)=some (match s.findIdx? q with | some i=>(i:Int) | none=>-1):=by
 have key:=o6 (N:=N) (B:=fun(rec:Int×Int→Option Int) (x:Int×Int)=>if decide (x.2<x.1)then Option.bind (idx s x.2) fun y=>Option.bind (p y) fun r=>if r then some x.2 else rec (x.1,w64 (x.2+1))else some (-1))
  s (fun i=>((s.length:Int),(i:Int))) (fun i r=>some (match r.findIdx? q with | some j=>((i+j:Nat):Int) | none=>-1))
  (fun rec=>by simp)
  (fun i x rec hx h=>by
   have hlt:=lP hx
   have hm:x∈s:=List.mem_of_getElem? hx
   simp only[show((i:Int)<(s.length:Int))from by omega,decide_true,if_true,ij hx,Option.bind_some,hp x hm,fN (i:=i) (by omega),h]
   rw[List.findIdx?_cons]
   cases hq:q x with
   | true=>simp
   | false =>
    simp only[Bool.false_eq_true,if_false]
    cases(s.drop (i+1)).findIdx? q with
    | none=>rfl
    | some j=>simp only[Option.map_some];rw[show i+1+j=i+(j+1)from by omega])
  hN 0 (by omega)
 simp only[Int.natCast_zero,Nat.zero_add,List.drop_zero]at key
 rw[key]
def cup (s:DeskState):LadderCup:=LadderCup.mk 1 (s.fBowlers.length:Int) 1 s.fResults
def AS (s:DeskState)(l:List LadderMatch)(n:Int):Int⊕DeskState:=match l with
 | []=>.inl 8
 | m::_=>if n=m.fFirst∨n=m.fSecond then .inr {s with fResults:=s.fResults++[LadderResult.mk m.fNumber [n] false]}else .inl 10
theorem B4{i:Nat}{s:DeskState}(h:SI i s)(hi:i≤60)(hN:20000≤N){ms:List LadderMatch}{e:Int}(hL:yh N (cup s)=some (ms,e)){l:List Int}{a:Int}(hl:l[0]? = some a):yR N l (DeskWork.mk s)=some (emb s (AS s ms a)):=by
 unfold yR yw AS
 have e0:idx l 0=some a:=ij (i:=0) hl
 have hrl:=h.rl
 rw[show jB N (DeskWork.mk s)=some (cup s)from rfl,Option.bind_some,hL,Option.bind_some]
 simp only[yl,Option.bind_some]
 cases ms with
 | nil=>rfl
 | cons m r =>
  rw[decide_eq_true (by simp:(0:Int)<((m::r).length:Int))]
  have em:idx (m::r) 0=some m:=rfl
  simp only[if_true,e0,em,Option.bind_some]
  rw[Bp _ _ (by omega)]
  by_cases h1:a=m.fFirst
  ·rw[if_pos (by simp only[decide_eq_true_eq];exact h1),if_pos (.inl h1)]
   rfl
  ·rw[if_neg (by simp only[decide_eq_true_eq];exact h1)]
   by_cases h2:a=m.fSecond
   ·rw[if_pos (show a=m.fFirst∨a=m.fSecond from .inr h2),if_pos (by simp only[decide_eq_true_eq];exact h2)]
    rfl
   ·have h3:¬(a=m.fFirst∨a=m.fSecond):=fun h=>h.elim h1 h2
    rw[if_neg h3,if_neg (by simp only[decide_eq_true_eq];exact h2)]
    rfl
def Ah (s:DeskState)(n:Int):Int⊕DeskState:=match s.fResults.findIdx? (fun r=>decide (r.fMatch=n))with
 | none=>.inl 7
 | some i=>match s.fResults[i]? with
  | none=>.inl 7
  | some r=>if r.fProtested then .inl 6 else .inr {s with fResults:=s.fResults.set i (LadderResult.mk r.fMatch r.fGames true)}
theorem BU{i:Nat}{s:DeskState}(h:SI i s)(hi:i≤60)(hN:20000≤N){l:List Int}{a:Int}(hl:l[0]? = some a):yH N l (DeskWork.mk s)=some (emb s (Ah s a)):=by
 unfold yH Ah
 have e0:idx l 0=some a:=ij (i:=0) hl
 have hrl:=h.rl
 have hi:dE N s.fResults l=some (match s.fResults.findIdx? (fun r=>decide (r.fMatch=a))with | some i=>(i:Int) | none=>-1) :=
  A9 (N:=N) s.fResults (fun y=>yB N y l) (fun r=>decide (r.fMatch=a)) (fun y _=>by unfold yB;rw[e0];rfl) (by omega) (by omega)
 rw[hi,Option.bind_some,yl,Option.bind_some]
 cases hf:s.fResults.findIdx? (fun r=>decide (r.fMatch=a))with
 | none=>rfl
 | some j =>
  have hj:j<s.fResults.length:=by
   have:=List.findIdx?_eq_some_iff_findIdx_eq.1 hf
   omega
  have hx:=List.getElem?_eq_getElem hj
  generalize s.fResults[j]=r at hx
  simp only[show(0:Int)≤(j:Int)from by omega,decide_true,if_true,ij hx,hx,Option.bind_some,yl]
  cases r.fProtested with
  | true=>rfl
  | false =>
   simp only[Bool.not_false,if_true]
   rw[zM _ (by omega),Option.bind_some,ij hx,Option.bind_some]
   rfl
/-! A line. -/
theorem AT(c:UInt8):∀l:List UInt8,se c l≠[]
 | []=>by simp[se]
 | b::l=>by
  unfold se
  split
  ·simp
  ·split<;>simp
theorem Ba(c:UInt8):∀l:List UInt8,(se c l).length≤l.length+1∧∀x∈se c l,x.length≤l.length
 | []=>by simp[se]
 | b::l=>by
  have ih:=Ba c l
  unfold se
  split
  ·refine⟨by simp only[List.length_cons];omega,fun x hx=>?_⟩
   rcases List.mem_cons.1 hx with rfl | hx
   ·simp
   ·have:=ih.2 x hx;simp only[List.length_cons];omega
  ·split
   ·rename_i h;exact absurd h (AT c l)
   ·rename_i y r h
    rw[h]at ih
    refine⟨by simp only[List.length_cons]at *;omega,fun x hx=>?_⟩
    rcases List.mem_cons.1 hx with rfl | hx
    ·have:=ih.2 y (by simp);simp only[List.length_cons];omega
    ·have:=ih.2 x (by simp[hx]);simp only[List.length_cons];omega
theorem BV{l:List UInt8}{v:Int}(h:Go.Lib.atoiAll l=.ok v):-9223372036854775808≤v∧v≤9223372036854775807:=by
 unfold Go.Lib.atoiAll at h
 split at h
 ·cases h
 ·dsimp only at h
  split at h
  ·cases h
  ·cases h
  ·split at h
   ·cases h
   ·split at h
    ·cases h
    ·injection h with h
     split at h<;>omega
def B5 (s:List UInt8):Option Int:=match Go.Lib.atoiAll s with
 | .ok v=>if w7 v=s∧((if([45]:List UInt8).isPrefixOf s then s.drop 1 else s).length≤9)then some v else none
 | _=>none
theorem number_eq(s:List UInt8)(hs:s.length≤N):FM N s=some (match B5 s with | some v=>.inl v | none=>.inr (DeskRefusal.mk 4)):=by
 unfold FM fe gY B5 nV
 rw[if_pos hs]
 cases ha:Go.Lib.atoiAll s with
 | ok v =>
  have hb:=BV ha
  simp only[Option.bind_some,yl]
  have e1:nU N v=some (w7 v):=by unfold nU;rw[if_pos hb]
  rw[e1,Option.bind_some]
  by_cases h1:w7 v=s
  ·simp only[h1,decide_true,if_true,true_and]
   unfold Gn
   rw[Option.bind_some]
   by_cases h2:(if([45]:List UInt8).isPrefixOf s then s.drop 1 else s).length≤9
   ·have h3:((if([45]:List UInt8).isPrefixOf s=true then List.drop ([45]:List UInt8).length s else s).length:Int)≤9:=by
     have:([45]:List UInt8).length=1:=rfl
     rw[this];omega
    rw[decide_eq_true h3,if_pos h2]
    rfl
   ·have h3:¬((if([45]:List UInt8).isPrefixOf s=true then List.drop ([45]:List UInt8).length s else s).length:Int)≤9:=by
     have:([45]:List UInt8).length=1:=rfl
     rw[this];omega
    rw[decide_eq_false h3,if_neg h2]
    rfl
  ·simp only[h1,decide_false,Bool.false_eq_true,if_false,false_and]
 | range=>simp only[Option.bind_some,yl];rfl
 | _=>simp only[Option.bind_some,yl];rfl
def Ap:List (List UInt8)→Option (List Int)
 | []=>some []
 | x::r=>match B5 x with
  | none=>none
  | some v=>match Ap r with
   | none=>none
   | some l=>some (v::l)
def AD (N:Nat)(s:DeskState)(ms:List LadderMatch)(d:Int)(l:List Int):Int⊕DeskState :=
 let a:=l.getD 0 0;let b:=l.getD 1 0
 if d=0 then zN s a else if d=1 then AO s a b else if d=2 then AP s a b else if d=3 then AQ s a else if d=4 then Af N s a
 else if d=5 then Ag s a b else if d=6 then zO N s a else if d=7 then AS s ms a else Ah s a
def pick:(DeskRefusal×DeskWork)⊕DeskWork→Option ((DeskRefusal×DeskWork)⊕DeskWork)
 | .inl (a,b)=>some (.inl (a,b))
 | .inr r=>some (.inr r)
theorem Cg{i:Nat}{s:DeskState}(h:SI i s)(hi:i≤60)(hN:20000≤N){ms:List LadderMatch}{e:Int}(hL:yh N (cup s)=some (ms,e)){c:DeskAct}{l:List Int}(hd:0≤c.fDo∧c.fDo≤8)(h1:1≤l.length)(h2:c.fDo=1∨c.fDo=2∨c.fDo=5→2≤l.length) :
  fV N (DeskWork.mk s) c l=some (emb s (AD N s ms c.fDo l)):=by
 obtain⟨many,d⟩:=c
 simp only at hd h2
 have g0:l[0]? = some (l.getD 0 0):=by rw[List.getD_eq_getElem?_getD,List.getElem?_eq_getElem (by omega)];rfl
 have g1:d=1∨d=2∨d=5→l[1]? = some (l.getD 1 0):=fun hh=>by have:=h2 hh;rw[List.getD_eq_getElem?_getD,List.getElem?_eq_getElem (by omega)];rfl
 have pk:∀z:Int⊕DeskState,(match emb s z with | .inl (ra1,rb1)=>some (.inl (ra1,rb1)) | .inr r=>some (.inr r))=some (emb s z):=fun z=>by cases z<;>rfl
 have hd9:d=0∨d=1∨d=2∨d=3∨d=4∨d=5∨d=6∨d=7∨d=8:=by omega
 unfold fV
 rcases hd9 with rfl | rfl | rfl | rfl | rfl | rfl | rfl | rfl | rfl
 ·rw[BD h hi hN g0];exact pk _
 ·rw[B1 h hi hN g0 (g1 (by simp))];exact pk _
 ·rw[B2 h hi hN g0 (g1 (by simp))];exact pk _
 ·rw[B3 h hi hN g0];exact pk _
 ·rw[BS h hi hN g0];exact pk _
 ·rw[BT h hi hN g0 (g1 (by simp))];exact pk _
 ·rw[BE h hi hN g0];exact pk _
 ·rw[B4 h hi hN hL g0];exact pk _
 ·rw[BU h hi hN g0];exact pk _
end Go.Proofs.YtemciceobngijaaGreatDoor
namespace Go.Proofs.YtemciceobngijaaGreatDoor
open Go.Kp
variable {N:Nat}
theorem B6{k:List UInt8}{c:DeskAct}(h:mget aM9 k=some c):(0≤c.fDo∧c.fDo≤8)∧(c.fMany=1∨c.fMany=2)∧(c.fDo=1∨c.fDo=2∨c.fDo=5→c.fMany=2):=by
 unfold aM9 aM8 aM7 aM6 aM5 aM4 aM3 aM2 aM1 at h
 simp only[Az]at h
 repeat' (split at h)
 all_goals first | (injection h with h;subst h;simp) | cases h
def zJ (N:Nat)(s:DeskState)(ms:List LadderMatch)(line:List UInt8):Int⊕DeskState :=
 match mget aM9 ((se 32 line).headD [])with
 | none=>.inl 4
 | some c=>if((se 32 line).length:Int)≠c.fMany+1 then .inl 4 else match Ap (se 32 line).tail with
  | none=>.inl 4
  | some l=>AD N s ms c.fDo l
theorem BF{i:Nat}{s:DeskState}(h:SI i s)(hi:i≤60)(hN:20000≤N){ms:List LadderMatch}{e:Int}(hL:yh N (cup s)=some (ms,e)){c:DeskAct}(q:List (List UInt8))(hq:q.length≤1000)(hx:∀x∈q,x.length≤N)(hd:0≤c.fDo∧c.fDo≤8)(h1:1≤q.length)(h2:c.fDo=1∨c.fDo=2∨c.fDo=5→2≤q.length) :
  aj (fun rec3 x=>cN N (DeskWork.mk s) c q rec3 x.1 x.2.1 x.2.2) N ((q.length:Int),0,[])=some (emb s (match Ap q with | none=>.inl 4 | some l=>AD N s ms c.fDo l)):=by
 have key:=lO (N:=N) (B:=fun rec3 x=>cN N (DeskWork.mk s) c q rec3 x.1 x.2.1 x.2.2) q (fun i (a:List Int)=>((q.length:Int),(i:Int),a))
  (fun r a=>some (emb s (match Ap r with | none=>.inl 4 | some l=>AD N s ms c.fDo (a++l)))) (fun i a=>a.length=i)
  (fun a rec ha=>by
   unfold cN
   rw[if_neg (by simp)]
   have ha':a.length=q.length:=ha
   dsimp only
   rw[Cg h hi hN hL hd (by omega) (by omega)]
   simp[Ap])
  (fun i x a rec hx' ha ih=>by
   have hlt:=lP hx'
   unfold cN
   rw[if_pos (by simp only[decide_eq_true_eq];omega),ij hx',Option.bind_some,number_eq x (hx x (List.mem_of_getElem? hx')),Option.bind_some]
   unfold Ap
   cases B5 x with
   | none=>rfl
   | some v =>
    simp only
    rw[nL (by simp;omega),Option.bind_some,fN (by omega),ih _ (by simp[ha])]
    cases Ap (q.drop (i+1))with
    | none=>rfl
    | some l=>simp)
  (by omega) [] rfl
 simpa using key
theorem B7{i:Nat}{s:DeskState}(h:SI i s)(hi:i≤60)(hN:20000≤N){ms:List LadderMatch}{e:Int}(hL:yh N (cup s)=some (ms,e))(line:List UInt8)(hl:line.length≤210):iS N line (DeskWork.mk s)=some (emb s (zJ N s ms line)):=by
 unfold iS zJ
 have hsl:=Ba 32 line
 rw[show wA N line ([32]:List UInt8)=some (se 32 line)from by unfold wA;dsimp only;rw[if_pos (by omega)],Option.bind_some]
 generalize hp:se 32 line=p at hsl
 have hne:p≠[]:=hp▸AT 32 line
 cases p with
 | nil=>exact absurd rfl hne
 | cons x r =>
  have e0:idx (x::r) 0=some x:=rfl
  rw[e0,Option.bind_some,show nD N=some aM9 from rfl,Option.bind_some]
  unfold mgt
  rw[Option.bind_some]
  simp only[List.headD_cons,List.tail_cons]
  cases hm:mget aM9 x with
  | none=>simp only[Option.isSome_none,Option.bind_some,Bool.false_eq_true,if_false,yl];rfl
  | some c =>
   obtain⟨hd,hmany,h2⟩:=B6 hm
   simp only[Option.isSome_some,Option.getD_some,Option.bind_some,if_true,yl]
   have ew:w64 (c.fMany+1)=c.fMany+1:=bE (by omega) (by omega)
   rw[ew]
   by_cases hlen:((x::r).length:Int)=c.fMany+1
   ·rw[decide_eq_true hlen]
    simp only[if_true,ne_eq,hlen,not_true_eq_false,if_false]
    have hrl:(r.length:Int)=c.fMany:=by simp at hlen;omega
    unfold dQ
    rw[rX (by omega) (by simp;omega) (by simp),Option.bind_some]
    have er:((x::r).take ((x::r).length:Int).toNat).drop (1:Int).toNat=r:=by
     rw[Int.toNat_natCast,List.take_length];rfl
    rw[er]
    exact BF h hi hN hL r (by omega) (fun y hy=>by have:=hsl.2 y (by simp[hy]);omega) hd (by omega) (fun hh=>by have:=h2 hh;omega)
   ·rw[decide_eq_false hlen]
    simp only[ne_eq,hlen,not_false_eq_true,if_true]
    rfl
/-! Sizes go on. -/
theorem SI.mono{i j:Nat}{s:DeskState}(h:SI i s)(hij:i≤j):SI j s :=
 ⟨h.la,fun x hx=>by have:=h.lb x hx;omega,h.bl,h.kl,fun x hx=>by have:=h.kb x hx;omega,h.sl,by have:=h.wl;omega,by have:=h.rl;omega,h.rg⟩
theorem SI.put{i:Nat}{s:DeskState}(h:SI i s)(n:Int)(y:DeskLane)(hy:-1≤y.fBowler∧y.fBowler<s.fBowlers.length∧y.fBalls.length≤i):SI i (put s n y) :=
 ⟨by simp[Proofs.YtemciceobngijaaGreatDoor.put,h.la],fun x hx=>(List.mem_or_eq_of_mem_set hx).elim (h.lb x) (fun e=>e▸hy),h.bl,h.kl,h.kb,h.sl,h.wl,h.rl,h.rg⟩
def okR (i:Nat):Int⊕DeskState→Prop
 | .inl e=>e≠0
 | .inr t=>SI (i+1) t
theorem Ch{i:Nat}{s:DeskState}(h:SI i s)(hi:i≤60)(hN:20000≤N)(ms:List LadderMatch)(d:Int)(l:List Int):okR i (AD N s ms d l):=by
 have h':=h.mono (Nat.le_succ i)
 have hl4:=h.la
 unfold AD
 simp only
 split
 ·unfold zN
  split
  ·show(2:Int)≠0;decide
  split
  ·show(3:Int)≠0;decide
  rename_i h2
  split
  ·show(8:Int)≠0;decide
  refine⟨h'.la,fun x hx=>?_,by simp;omega,by simp[h.kl],fun x hx=>?_,h'.sl,h'.wl,h'.rl,h'.rg⟩
  ·have:=h'.lb x hx;simp;omega
  ·rcases List.mem_append.1 hx with hx | hx
   ·exact h'.kb x hx
   ·simp at hx;subst hx;simp
 split
 ·unfold AO
  split
  ·show(7:Int)≠0;decide
  ·split
   ·show(7:Int)≠0;decide
   ·rename_i hk
    split
    ·exact h'.put _ _ ⟨by simp only[Classical.not_not,known]at hk;simp only;omega,by simp only[Classical.not_not,known]at hk;simp only;omega,by simp⟩
    ·show(6:Int)≠0;decide
 split
 ·unfold AP
  split
  ·show(7:Int)≠0;decide
  ·rename_i x hx
   have hlb:=h.lb x (List.mem_of_getElem? (zr hx).2.2)
   split
   ·show(8:Int)≠0;decide
   ·split
    ·exact h'.put _ _ ⟨hlb.1,hlb.2.1,by simp;omega⟩
    ·show(10:Int)≠0;decide
 split
 ·unfold AQ
  split
  ·show(7:Int)≠0;decide
  ·rename_i x hx
   have hlb:=h.lb x (List.mem_of_getElem? (zr hx).2.2)
   split
   ·show(8:Int)≠0;decide
   ·split
    ·show(8:Int)≠0;decide
    ·exact h'.put _ _ ⟨hlb.1,hlb.2.1,by simp;omega⟩
 split
 ·unfold Af
  split
  ·show(7:Int)≠0;decide
  ·rename_i x hx
   split
   ·show(8:Int)≠0;decide
   ·split
    ·rename_i c k _ hk
     have:SI (i+1) {s with fKept:=s.fKept.set x.fBowler.toNat (k++[c])}:=⟨h'.la,h'.lb,h'.bl,by simp[h.kl],fun y hy=>(List.mem_or_eq_of_mem_set hy).elim (h'.kb y) (fun e=>by have:=h.kb k (List.mem_of_getElem? hk);subst e;simp;omega),h'.sl,h'.wl,h'.rl,h'.rg⟩
     exact this.put _ _ ⟨by simp,by simp;omega,by simp⟩
    ·show(8:Int)≠0;decide
 split
 ·unfold Ag
  split
  ·show(2:Int)≠0;decide
  ·split
   ·show(7:Int)≠0;decide
   ·split
    ·show(7:Int)≠0;decide
    ·rename_i k hk
     split
     ·show(8:Int)≠0;decide
     ·split
      ·show(3:Int)≠0;decide
      ·rename_i h40
       exact⟨h'.la,h'.lb,h'.bl,by simp[h.kl],fun y hy=>(List.mem_or_eq_of_mem_set hy).elim (h'.kb y) (fun e=>by have:=h.kb k (List.mem_of_getElem? hk);subst e;simp;omega),by simp;omega,h'.wl,h'.rl,h'.rg⟩
 split
 ·unfold zO
  split
  ·show(7:Int)≠0;decide
  ·split
   ·have:=h.wl
    refine⟨h'.la,h'.lb,h'.bl,h'.kl,h'.kb,h'.sl,?_,h'.rl,h'.rg⟩
    simp;omega
   ·show(6:Int)≠0;decide
 split
 ·unfold AS
  split
  ·show(8:Int)≠0;decide
  ·split
   ·have:=h.rl
    refine⟨h'.la,h'.lb,h'.bl,h'.kl,h'.kb,h'.sl,h'.wl,by simp;omega,fun r hr=>?_⟩
    rcases List.mem_append.1 hr with hr | hr
    ·exact h'.rg r hr
    ·simp at hr;subst hr;rfl
   ·show(10:Int)≠0;decide
 ·unfold Ah
  split
  ·show(7:Int)≠0;decide
  ·split
   ·show(7:Int)≠0;decide
   ·rename_i r hr
    split
    ·show(6:Int)≠0;decide
    ·exact⟨h'.la,h'.lb,h'.bl,h'.kl,h'.kb,h'.sl,h'.wl,by simp;exact h'.rl,fun y hy=>(List.mem_or_eq_of_mem_set hy).elim (h'.rg y) (fun e=>by have:=h.rg r (List.mem_of_getElem? hr);subst e;exact this)⟩
theorem B8{i:Nat}{s:DeskState}(h:SI i s)(hi:i≤60)(hN:20000≤N)(ms:List LadderMatch)(line:List UInt8):okR i (zJ N s ms line):=by
 unfold zJ
 split
 ·show(4:Int)≠0;decide
 ·split
  ·show(4:Int)≠0;decide
  ·split
   ·show(4:Int)≠0;decide
   ·exact Ch h hi hN ms _ _
end Go.Proofs.YtemciceobngijaaGreatDoor
namespace Go.Proofs.YtemciceobngijaaGreatDoor
open Go.Kp
variable {N:Nat}
def NX (N:Nat):Prop:=∀i s,SI i s→i≤60→∃ms e,yh N (cup s)=some (ms,e)
def nxl (N:Nat)(s:DeskState):List LadderMatch:=match yh N (cup s)with
 | some (ms,_)=>ms
 | none=>[]
def stepW(N:Nat)(s:DeskState)(line:List UInt8):Int×DeskState:=match zJ N s (nxl N s) line with
 | .inl e=>(e,s)
 | .inr t=>(0,t)
theorem step_ok{i:Nat}{s:DeskState}(h:SI i s)(hi:i≤60)(hN:20000≤N)(line:List UInt8):SI (i+1) (stepW N s line).2∧((stepW N s line).1≠0→(stepW N s line).2=s):=by
 have:=B8 h hi hN (nxl N s) line
 unfold stepW
 cases hs:zJ N s (nxl N s) line with
 | inl e=>exact⟨h.mono (Nat.le_succ i),fun _=>rfl⟩
 | inr t=>rw[hs]at this;exact⟨this,fun hh=>absurd rfl hh⟩
theorem B9{i:Nat}{s:DeskState}(hx:NX N)(h:SI i s)(hi:i≤60)(hN:20000≤N)(line:List UInt8)(hl:line.length≤210):iT N line (DeskWork.mk s)=some ((stepW N s line).1,DeskWork.mk (stepW N s line).2):=by
 obtain⟨ms,e,hL⟩:=hx i s h hi
 have hn:nxl N s=ms:=by unfold nxl;rw[hL]
 unfold iT stepW
 rw[B7 h hi hN hL line hl,hn]
 cases zJ N s ms line<;>rfl
def zv (N:Nat):DeskState→List (List UInt8)→DeskState
 | s,[]=>s
 | s,x::r=>zv N (stepW N s x).2 r
def zB (N:Nat):DeskState→List (List UInt8)→List Int
 | _,[]=>[]
 | s,x::r=>(stepW N s x).1::zB N (stepW N s x).2 r
def st0:DeskState:=DeskState.mk [] [DeskLane.mk (-1) [],DeskLane.mk (-1) [],DeskLane.mk (-1) [],DeskLane.mk (-1) []] [] [] [] []
theorem AU:SI 0 st0:=⟨rfl,fun x hx=>by simp[st0]at hx;subst hx;simp[st0],by simp[st0],rfl,by simp[st0],by simp[st0],by simp[st0],by simp[st0],by simp[st0]⟩
theorem Bq(hN:20000≤N):∀(l:List (List UInt8)) {i:Nat} {s:DeskState},SI i s→i+l.length≤60→SI (i+l.length) (zv N s l)
 | [],i,s,h,_=>h
 | x::r,i,s,h,hl=>by
  simp only[List.length_cons]at hl ⊢
  have:=Bq hN r (step_ok h (by omega) hN x).1 (by omega)
  rw[show i+(r.length+1)=i+1+r.length by omega]
  exact this
theorem Bb:∀(l:List (List UInt8)) (s:DeskState),(zB N s l).length=l.length
 | [],_=>rfl
 | x::r,s=>by simp[zB,Bb r]
theorem BW(hN:20000≤N):lG N=some (DeskWork.mk st0):=by
 unfold lG
 rw[nL (by simp;omega),Option.bind_some,nL (by simp;omega),Option.bind_some,nL (by simp;omega),Option.bind_some,nL (by simp;omega),Option.bind_some]
 rfl
theorem Ca(hx:NX N)(hN:20000≤N)(lines:List (List UInt8))(hl:lines.length≤55)(hs:∀s∈lines,s.length≤210):gn N lines=some (zB N st0 lines,DeskWork.mk (zv N st0 lines)):=by
 have key:=lO (N:=N) (B:=fun rec3 x=>eD N lines rec3 x.1 x.2.1 x.2.2.1 x.2.2.2) lines (fun i (a:DeskState×List Int)=>((lines.length:Int),(i:Int),DeskWork.mk a.1,a.2))
  (fun r a=>some (DeskWork.mk (zv N a.1 r),a.2++zB N a.1 r)) (fun i a=>SI i a.1∧a.2.length=i)
  (fun a rec _=>by
   unfold eD
   rw[if_neg (by simp)]
   simp[zv,zB])
  (fun i x a rec hx' ha ih=>by
   have hlt:=lP hx'
   unfold eD
   rw[if_pos (by simp only[decide_eq_true_eq];omega),ij hx',Option.bind_some,B9 hx ha.1 (by omega) hN x (hs x (List.mem_of_getElem? hx')),Option.bind_some]
   dsimp only
   rw[nL (by simp;omega),Option.bind_some,fN (by omega),ih (_,_) ⟨(step_ok ha.1 (by omega) hN x).1,by simp[ha.2]⟩]
   simp[zv,zB])
  (by omega) (st0,[]) ⟨AU,rfl⟩
 unfold gn
 rw[BW hN,Option.bind_some]
 simp only[Int.natCast_zero]at key
 rw[key]
 simp
theorem BG{i:Nat}{s:DeskState}(h:SI i s)(hi:i≤60)(hN:20000≤N):fW N s=some s:=by
 have hb:=h.bl
 have hsl:=h.sl
 have hwl:=h.wl
 have hkl:=h.kl
 have hrl:=h.rl
 have hla:=h.la
 have k1:=lO (N:=N) (B:=fun rec3 x=>bR N s rec3 x.1 x.2.1 x.2.2) s.fLanes (fun i (a:List DeskLane)=>((s.fLanes.length:Int),(i:Int),a)) (fun r a=>some (a++r)) (fun i a=>a.length=i)
  (fun a rec _=>by simp[bR])
  (fun j x a rec hx ha ih=>by
   have hlt:=lP hx
   have:=h.lb x (List.mem_of_getElem? hx)
   unfold bR
   rw[if_pos (by simp only[decide_eq_true_eq];omega),ij hx,Option.bind_some,yS _ (by omega),Option.bind_some,nL (by simp;omega),Option.bind_some,fN (by omega),ih _ (by simp[ha])]
   simp)
  (by omega) [] rfl
 have k2:=lO (N:=N) (B:=fun rec5 x=>bS N s rec5 x.1 x.2.1 x.2.2) s.fKept (fun i (a:List (List Int))=>((s.fKept.length:Int),(i:Int),a)) (fun r a=>some (a++r)) (fun i a=>a.length=i)
  (fun a rec _=>by simp[bS])
  (fun j x a rec hx ha ih=>by
   have hlt:=lP hx
   have:=h.kb x (List.mem_of_getElem? hx)
   unfold bS
   rw[if_pos (by simp only[decide_eq_true_eq];omega),ij hx,Option.bind_some,yS _ (by omega),Option.bind_some,nL (by simp;omega),Option.bind_some,fN (by omega),ih _ (by simp[ha])]
   simp)
  (by omega) [] rfl
 have k3:=lO (N:=N) (B:=fun rec7 x=>bT N s rec7 x.1 x.2.1 x.2.2) s.fResults (fun i (a:List LadderResult)=>((s.fResults.length:Int),(i:Int),a)) (fun r a=>some (a++r)) (fun i a=>a.length=i)
  (fun a rec _=>by simp[bT])
  (fun j x a rec hx ha ih=>by
   have hlt:=lP hx
   have:=h.rg x (List.mem_of_getElem? hx)
   unfold bT
   rw[if_pos (by simp only[decide_eq_true_eq];omega),ij hx,Option.bind_some,yS _ (by omega),Option.bind_some,nL (by simp;omega),Option.bind_some,fN (by omega),ih _ (by simp[ha])]
   simp)
  (by omega) [] rfl
 simp only[Int.natCast_zero,List.nil_append]at k1 k2 k3
 unfold fW
 rw[yS _ (by omega),Option.bind_some,Aa _ (by omega),Option.bind_some,yS _ (by omega),Option.bind_some,Option.bind_some]
 dsimp only
 rw[k1,Option.bind_some,k2,Option.bind_some,k3,Option.bind_some]
def kept (N:Nat):DeskState→List (List UInt8)→List (List UInt8)
 | _,[]=>[]
 | s,x::r=>if(stepW N s x).1=0 then x::kept N (stepW N s x).2 r else kept N (stepW N s x).2 r
theorem Bc(hN:20000≤N):∀(l:List (List UInt8)) {i:Nat} {s:DeskState},SI i s→i+l.length≤60→zv N s (kept N s l)=zv N s l∧∀e∈zB N s (kept N s l),e=0
 | [],_,_,_,_=>⟨rfl,by simp[kept,zB]⟩
 | x::r,i,s,h,hl=>by
  simp only[List.length_cons]at hl
  have hs:=step_ok h (by omega) hN x
  have ih:=Bc hN r hs.1 (by omega)
  unfold kept
  by_cases h0:(stepW N s x).1=0
  ·rw[if_pos h0]
   refine⟨ih.1,fun e he=>?_⟩
   rcases List.mem_cons.1 he with rfl | he
   ·exact h0
   ·exact ih.2 e he
  ·rw[if_neg h0]
   have e:=hs.2 h0
   rw[e]at ih ⊢
   refine⟨ih.1.trans ?_,ih.2⟩
   show _=zv N (stepW N s x).2 r
   rw[e]
theorem Bd:∀(l:List (List UInt8)) (s:DeskState),(∀x∈kept N s l,x∈l)∧(kept N s l).length≤l.length
 | [],_=>by simp[kept]
 | x::r,s=>by
  have ih:=Bd r (stepW N s x).2
  unfold kept
  split
  ·exact⟨fun y hy=>by rcases List.mem_cons.1 hy with rfl | hy;simp;exact List.mem_cons_of_mem _ (ih.1 y hy),by simp only[List.length_cons];omega⟩
  ·exact⟨fun y hy=>List.mem_cons_of_mem _ (ih.1 y hy),by simp only[List.length_cons];omega⟩
theorem Be:∀(l:List (List UInt8)) (s:DeskState),(∀e∈zB N s l,e=0)→kept N s l=l
 | [],_,_=>rfl
 | x::r,s,h=>by
  unfold kept
  rw[if_pos (h _ (by simp[zB])),Be r _ fun e he=>h e (by simp[zB,he])]
end Go.Proofs.YtemciceobngijaaGreatDoor
namespace Go.Proofs.YtemciceobngijaaGreatDoor
open Go.Kp
variable {N:Nat}
theorem vC(lines:List (List UInt8))(hN:20000≤N):∃b,j0 N lines=some b∧(b=true→lines.length≤55∧∀s∈lines,s.length≤210):=by
 have key:∀(n i:Nat),i≤56→57-i≤n→∃b,aj (fun rec3 x=>bK N lines rec3 x) n (i:Int)=some b∧(b=true→lines.length≤55∧∀j x,i≤j→lines[j]? = some x→x.length≤210):=by
  intro n
  induction n with
  | zero=>intro i h1 h2;omega
  | succ n ih =>
   intro i h1 h2
   show ∃b,bK N lines (aj (fun rec3 x=>bK N lines rec3 x) n) (i:Int)=some b∧_
   unfold bK
   by_cases hi:i<lines.length
   ·rw[if_pos (by simp only[decide_eq_true_eq];omega),Option.bind_some]
    by_cases h56:i<56
    ·rw[if_pos (by simp only[decide_eq_true_eq];omega)]
     have hx:lines[i]? = some lines[i]:=List.getElem?_eq_getElem hi
     rw[ij hx,Option.bind_some]
     by_cases h210:210<lines[i].length
     ·rw[if_pos (by simp only[decide_eq_true_eq];omega)]
      exact⟨false,rfl,fun h=>by cases h⟩
     ·rw[if_neg (by simp only[decide_eq_true_eq];omega),fN (by omega)]
      obtain⟨b,hb,hq⟩:=ih (i+1) (by omega) (by omega)
      refine⟨b,hb,fun h=>⟨(hq h).1,fun j x hj hx'=>?_⟩⟩
      rcases Nat.lt_or_ge i j with h3 | h3
      ·exact(hq h).2 j x (by omega) hx'
      ·have:j=i:=by omega
       subst this
       rw[hx]at hx';cases hx';omega
    ·rw[if_neg (by simp only[decide_eq_true_eq];omega)]
     refine⟨_,rfl,fun h=>?_⟩
     simp only[decide_eq_true_eq]at h
     omega
   ·rw[if_neg (by simp only[decide_eq_true_eq];omega),Option.bind_some]
    refine⟨_,rfl,fun h=>⟨by simp only[decide_eq_true_eq]at h;omega,fun j x hj hx'=>?_⟩⟩
    have:=lP hx'
    omega
 obtain⟨b,hb,hq⟩:=key N 0 (by omega) (by omega)
 refine⟨b,hb,fun h=>⟨(hq h).1,fun s hs=>?_⟩⟩
 obtain⟨j,hj⟩:=List.getElem?_of_mem hs
 exact(hq h).2 j s (Nat.zero_le _) hj
theorem ud(lines:List (List UInt8))(hl:lines.length≤55)(hN:20000≤N):gz N lines=some (lines.all (fun s=>decide (s.length≤200))&&decide (lines.length≤50)):=by
 have key:=rY (N:=N) (R:=Bool) (B:=fun rec3 x=>bf N lines rec3 x) lines (fun(k:Nat)=>(k:Int)) (fun r=>some (r.all (fun s=>decide (s.length≤200))&&decide (lines.length≤50)))
  (fun rec=>by
   show bf N lines rec (lines.length:Int)=_
   unfold bf
   rw[if_neg (by simp)]
   simp[fc]
   omega)
  (fun i x rec hx h=>by
   have hlt:=lP hx
   show bf N lines rec (i:Int)=_
   unfold bf
   rw[if_pos (by simp only[decide_eq_true_eq];omega),ij hx,Option.bind_some]
   by_cases h200:200<x.length
   ·rw[if_pos (by simp only[decide_eq_true_eq];omega)]
    simp
    omega
   ·rw[if_neg (by simp only[decide_eq_true_eq];omega),fN (by omega),h]
    have:decide (x.length≤200)=true:=by simp only[decide_eq_true_eq];omega
    simp[this])
  (by omega)
 unfold gz
 simpa using key
theorem vA(lines:List (List UInt8))(hl:lines.length≤50)(hs:∀s∈lines,s.length≤200)(hN:20000≤N):dw N lines=some 0:=by
 have hall:mV N lines 200=some (lines.all fun s=>decide ((s.length:Int)≤200)) :=
  tZ lines (fun y=>kV N y 200) (fun s=>decide ((s.length:Int)≤200)) (fun x _=>rfl) (by omega) (by omega)
 have ht:(lines.all fun s=>decide ((s.length:Int)≤200))=true:=List.all_eq_true.2 fun s hm=>by have:=hs s hm;simp only[decide_eq_true_eq];omega
 unfold dw
 rw[if_neg (by simp only[decide_eq_true_eq];omega),hall,ht]
 rfl
end Go.Proofs.YtemciceobngijaaGreatDoor
namespace Go.Proofs.YtemciceobngijaaGreatDoor
open Go.Kp
variable {N:Nat}
theorem Ci(hN:20000≤N):NX N:=fun i s h hi=>Bz (cup s) rfl (by have:=h.rl;show s.fResults.length≤60;omega) h.rg hN
theorem BX(hN:20000≤N)(lines:List (List UInt8))(hl:lines.length≤50)(hs:∀s∈lines,s.length≤200):nE N lines=some (zv N st0 lines,zB N st0 lines,0):=by
 unfold nE
 rw[vA lines hl hs hN,Option.bind_some,if_neg (by decide),Ca (Ci hN) hN lines (by omega) (fun s h=>by have:=hs s h;omega),Option.bind_some]
 dsimp only
 have h:=Bq (N:=N) hN lines AU (by omega)
 rw[BG h (by omega) hN,Option.bind_some]
theorem Cb(lines:List (List UInt8))(hl:lines.length≤N):iw N lines=some lines:=by
 unfold iw;rw[nL (by simpa using hl)];rfl
theorem Bf:∀(l:List (List UInt8)) (s:DeskState) (i:Nat) (x:List UInt8),l[i]? = some x→(zB N s l)[i]? = some (stepW N (zv N s (l.take i)) x).1
 | [],_,_,_,h=>by simp at h
 | y::r,s,0,x,h=>by simp at h;subst h;rfl
 | y::r,s,i+1,x,h=>by
  simp only[List.getElem?_cons_succ]at h
  simp only[zB,List.getElem?_cons_succ,List.take_succ_cons,zv]
  exact Bf r _ i x h
theorem AF:∀(l:List (List UInt8)) (s:DeskState) (x:List UInt8),zv N s (l++[x])=(stepW N (zv N s l) x).2
 | [],_,_=>rfl
 | y::r,s,x=>by simp only[List.cons_append,zv];exact AF r _ x
theorem AG(hN:20000≤N)(lines:List (List UInt8))(hl:lines.length≤50)(hs:∀s∈lines,s.length≤200):yK N lines=some (zv N st0 lines,kept N st0 lines,true):=by
 unfold yK
 rw[Cb lines (by omega),Option.bind_some,BX hN lines hl hs,Option.bind_some]
 simp only[decide_true,Bool.not_true,Bool.false_eq_true,if_false,Bb,Option.bind_some]
 have key:=lO (N:=N) (B:=fun rec3 x=>yf N lines (zB N st0 lines) rec3 x.1 x.2) lines (fun i (a:DeskState×List (List UInt8))=>((i:Int),a.2))
  (fun r a=>some (a.2++kept N a.1 r)) (fun i a=>a.1=zv N st0 (lines.take i)∧a.2.length≤i)
  (fun a rec _=>by
   unfold yf
   rw[if_neg (by simp)]
   simp[kept])
  (fun i x a rec hx ha ih=>by
   have hlt:=lP hx
   unfold yf
   rw[if_pos (by simp only[decide_eq_true_eq];omega),ij (Bf lines st0 i x hx),Option.bind_some,← ha.1,fN (by omega)]
   have htk:lines.take (i+1)=lines.take i++[x]:=by rw[List.take_add_one,hx];rfl
   have hst:(stepW N a.1 x).2=zv N st0 (lines.take (i+1)):=by rw[htk,AF,ha.1]
   unfold kept
   by_cases h0:(stepW N a.1 x).1=0
   ·rw[if_pos (by simp only[decide_eq_true_eq];exact h0),if_pos h0,ij hx,Option.bind_some,nL (by simp;omega),Option.bind_some,Option.bind_some,ih ((stepW N a.1 x).2,a.2++[x]) ⟨hst,by simp;omega⟩]
    simp
   ·rw[if_neg (by simp only[decide_eq_true_eq];exact h0),if_neg h0,Option.bind_some,ih ((stepW N a.1 x).2,a.2) ⟨hst,by simp only;omega⟩])
  (by omega) (st0,[]) ⟨rfl,by simp⟩
 simp only[Int.natCast_zero,List.nil_append]at key
 rw[key];rfl
theorem BI(hN:20000≤N)(lines:List (List UInt8)):∃b,(Option.bind (j0 N lines) fun r9=>if !r9 then some true else Option.bind (gz N lines) fun r10=>some (!r10))=some b∧(b=false→lines.length≤50∧∀s∈lines,s.length≤200):=by
 obtain⟨b,hb,hbt⟩:=vC lines hN
 rw[hb,Option.bind_some]
 cases b with
 | false=>exact⟨true,rfl,fun h=>by cases h⟩
 | true =>
  obtain⟨hl55,hs210⟩:=hbt rfl
  rw[ud lines hl55 hN]
  refine⟨_,rfl,fun h=>?_⟩
  have:(∀s∈lines,s.length≤200)∧lines.length≤50:=by simpa using h
  exact⟨this.2,this.1⟩
end Go.Proofs.YtemciceobngijaaGreatDoor
namespace Go.Proofs.YtemciceobngijaaGreatDoor
open Go.Kp
variable {N:Nat}
def sm:List UInt8→Nat→Nat
 | [],_=>0
 | c::r,k=>(k+2)*(c.toNat+1)+sm r (k+1)
def chk (s:List UInt8)(i:Nat):Nat:=(13*(i+1)+sm s 0) % 99989
theorem o8{s:List UInt8}{i:Nat}{c:UInt8}(h:s[i]? = some c):idx (bytesI s) (i:Int)=some (c.toNat:Int):=ij (by simp[bytesI,h])
theorem o9(s:List UInt8)(i:Nat)(hs:s.length≤5000)(hi:i≤5000)(hN:20000≤N):e9 N s i=some (DeskHead.mk s.length (chk s i)):=by
 have hlen:(bytesI s).length=s.length:=by simp[bytesI]
 have key:=lO (N:=N) (R:=Int) (B:=fun rec3 x=>bM N rec3 x.1 x.2.1 x.2.2.1 x.2.2.2) s (fun(k:Nat) (a:Int)=>(a,bytesI s,((bytesI s).length:Int),(k:Int)))
  (fun r a=>some (a+(sm r (s.length-r.length):Nat))) (fun k a=>0≤a∧a≤2000000*((k:Int)+1))
  (fun a rec _=>by simp[bM,hlen,sm])
  (fun k c a rec hx ha h=>by
   have hlt:=lP hx
   have hc:=c.toNat_lt
   have hp:(k+2)*(c.toNat+1)≤5002*256:=Nat.mul_le_mul (by omega) (by omega)
   unfold bM
   rw[if_pos (by simp only[hlen,decide_eq_true_eq];omega)]
   simp only[o8 hx,Option.bind_some]
   have e1:w64 ((k:Int)+2)=((k+2:Nat):Int):=by rw[bE (by omega) (by omega)];omega
   have e2:w64 (w64 (c.toNat:Int)+1)=((c.toNat+1:Nat):Int):=by rw[bE (n:=(c.toNat:Int)) (by omega) (by omega),bE (by omega) (by omega)];omega
   have e3:w64 (((k+2:Nat):Int)*((c.toNat+1:Nat):Int))=(((k+2)*(c.toNat+1):Nat):Int):=by rw[← Int.natCast_mul,bE (by omega) (by omega)]
   have e4:w64 (a+(((k+2)*(c.toNat+1):Nat):Int))=a+(((k+2)*(c.toNat+1):Nat):Int):=bE (by omega) (by omega)
   rw[e1,e2,e3,e4,fN (by omega),h _ ⟨by omega,by omega⟩]
   simp only[List.length_cons,List.length_drop,sm,Option.some.injEq]
   rw[show s.length-(s.length-(k+1)+1)=k from by omega,show s.length-(s.length-(k+1))=k+1 from by omega]
   push_cast
   omega)
  (by omega) (13*((i:Int)+1)) ⟨by omega,by omega⟩
 unfold e9
 have e0:w64 (13*w64 ((i:Int)+1))=13*((i:Int)+1):=by rw[bE (n:=(i:Int)+1) (by omega) (by omega),bE (by omega) (by omega)]
 rw[e0]
 simp only[Nat.sub_self]at key
 simp only[Int.natCast_zero]at key
 rw[key,Option.bind_some,show 13*((i:Int)+1)+((sm s 0:Nat):Int)=((13*(i+1)+sm s 0:Nat):Int)from by push_cast;omega]
 rfl
def dg3 (n:Nat):List UInt8:=[UInt8.ofNat (48+n / 100 % 10),UInt8.ofNat (48+n / 10 % 10),UInt8.ofNat (48+n % 10)]
def dg5 (n:Nat):List UInt8:=[UInt8.ofNat (48+n / 10000 % 10),UInt8.ofNat (48+n / 1000 % 10),UInt8.ofNat (48+n / 100 % 10),UInt8.ofNat (48+n / 10 % 10),UInt8.ofNat (48+n % 10)]
theorem dgt{n:Nat}(h:n<1000000):Go.IntKind.wrap .u8 (w64 (48+Int.tmod (n:Int) 10))=((48+n % 10:Nat):Int):=by
 have e:Int.tmod (n:Int) 10=((n % 10:Nat):Int):=by rw[Int.tmod_eq_emod_of_nonneg (by omega)];omega
 rw[e,bE (by omega) (by omega)]
 have:(48:Int)+((n % 10:Nat):Int)=((48+n % 10:Nat):Int):=by omega
 rw[this]
 have h10:48+n % 10<256:=by omega
 generalize 48+n % 10=m at h10 ⊢
 simp[Go.IntKind.wrap,Go.IntKind.bits,Go.IntKind.signed]
 omega
theorem dq{n:Nat}(h:n<1000000):w64 (Int.tdiv (n:Int) 10)=((n / 10:Nat):Int):=by
 have e:Int.tdiv (n:Int) 10=((n / 10:Nat):Int):=by rw[Int.tdiv_eq_ediv_of_nonneg (by omega)];omega
 rw[e,bE (by omega) (by omega)]
theorem Gd(m n k:Nat)(b:Ar5 Int)(rec:(Int×Int×(Ar5 Int))→Option (Ar5 Int))(h:n<1000000)(hk:k<5) :
  aF m rec (n:Int) (k:Int) b=rec (((n / 10:Nat):Int),(k:Int)-1,match k with
   | 0=>Ar5.mk ((48+n % 10:Nat):Int) b.a1 b.a2 b.a3 b.a4
   | 1=>Ar5.mk b.a0 ((48+n % 10:Nat):Int) b.a2 b.a3 b.a4
   | 2=>Ar5.mk b.a0 b.a1 ((48+n % 10:Nat):Int) b.a3 b.a4
   | 3=>Ar5.mk b.a0 b.a1 b.a2 ((48+n % 10:Nat):Int) b.a4
   | _=>Ar5.mk b.a0 b.a1 b.a2 b.a3 ((48+n % 10:Nat):Int)):=by
 unfold aF
 rw[dgt h,dq h,bE (n:=(k:Int)-1) (by omega) (by omega)]
 match k,hk with
 | 0,_=>rfl
 | 1,_=>rfl
 | 2,_=>rfl
 | 3,_=>rfl
 | 4,_=>rfl
theorem wH(m n:Nat)(b:Ar5 Int)(rec:(Int×Int×(Ar5 Int))→Option (Ar5 Int)):aF m rec (n:Int) (-1) b=some b:=rfl
theorem qZ(l:List Nat):mC (l.map Int.ofNat)=l.map UInt8.ofNat:=by
 unfold mC
 rw[List.map_map]
 exact List.map_congr_left fun x _=>rfl
theorem ww(n:Nat)(h:n<1000)(hN:20000≤N):dm N n 3=some (dg3 n):=by
 obtain⟨m,rfl⟩:∃m,N=m+4:=⟨N-4,by omega⟩
 unfold dm
 have key:aj (fun rec3 x=>aF (m+4) rec3 x.1 x.2.1 x.2.2) (m+4) ((n:Int),w64 (3-1),(Ar5.mk 0 0 0 0 0))=some (Ar5.mk ((48+n / 100 % 10:Nat):Int) ((48+n / 10 % 10:Nat):Int) ((48+n % 10:Nat):Int) 0 0):=by
  rw[show w64 (3-1)=((2:Nat):Int)from by decide]
  show aF (m+4) _ (n:Int) ((2:Nat):Int) _=_
  rw[Gd _ _ 2 _ _ (by omega) (by omega)]
  show aF (m+4) _ ((n / 10:Nat):Int) ((1:Nat):Int) _=_
  rw[Gd _ _ 1 _ _ (by omega) (by omega)]
  show aF (m+4) _ ((n / 10 / 10:Nat):Int) ((0:Nat):Int) _=_
  rw[Gd _ _ 0 _ _ (by omega) (by omega)]
  show aF (m+4) _ ((n / 10 / 10 / 10:Nat):Int) (-1) _=_
  rw[wH]
  simp only[Nat.div_div_eq_div_mul]
 rw[key,Option.bind_some]
 rw[rX (by decide) (by decide) (by simp),Option.bind_some]
 exact congrArg some (qZ [48+n / 100 % 10,48+n / 10 % 10,48+n % 10])
theorem wx(n:Nat)(h:n<100000)(hN:20000≤N):dm N n 5=some (dg5 n):=by
 obtain⟨m,rfl⟩:∃m,N=m+6:=⟨N-6,by omega⟩
 unfold dm
 have key:aj (fun rec3 x=>aF (m+6) rec3 x.1 x.2.1 x.2.2) (m+6) ((n:Int),w64 (5-1),(Ar5.mk 0 0 0 0 0))=some (Ar5.mk ((48+n / 10000 % 10:Nat):Int) ((48+n / 1000 % 10:Nat):Int) ((48+n / 100 % 10:Nat):Int) ((48+n / 10 % 10:Nat):Int) ((48+n % 10:Nat):Int)):=by
  rw[show w64 (5-1)=((4:Nat):Int)from by decide]
  show aF (m+6) _ (n:Int) ((4:Nat):Int) _=_
  rw[Gd _ _ 4 _ _ (by omega) (by omega)]
  show aF (m+6) _ ((n / 10:Nat):Int) ((3:Nat):Int) _=_
  rw[Gd _ _ 3 _ _ (by omega) (by omega)]
  show aF (m+6) _ ((n / 10 / 10:Nat):Int) ((2:Nat):Int) _=_
  rw[Gd _ _ 2 _ _ (by omega) (by omega)]
  show aF (m+6) _ ((n / 10 / 10 / 10:Nat):Int) ((1:Nat):Int) _=_
  rw[Gd _ _ 1 _ _ (by omega) (by omega)]
  show aF (m+6) _ ((n / 10 / 10 / 10 / 10:Nat):Int) ((0:Nat):Int) _=_
  rw[Gd _ _ 0 _ _ (by omega) (by omega)]
  show aF (m+6) _ ((n / 10 / 10 / 10 / 10 / 10:Nat):Int) (-1) _=_
  rw[wH]
  simp only[Nat.div_div_eq_div_mul]
 rw[key,Option.bind_some]
 rw[rX (by decide) (by decide) (by simp),Option.bind_some]
 exact congrArg some (qZ [48+n / 10000 % 10,48+n / 1000 % 10,48+n / 100 % 10,48+n / 10 % 10,48+n % 10])
def hd (n c:Nat):List UInt8:=(((([60]:List UInt8)++dg3 n)++[124])++dg5 c)++[62]
theorem lS{a b:List UInt8}(h:a.length+b.length≤N):cat N a b=some ():=by unfold cat;rw[if_pos h]
theorem mn(n c:Nat)(hn:n<1000)(hc:c<100000)(hN:20000≤N):dz N (DeskHead.mk n c)=some (hd n c):=by
 unfold dz
 simp only[ww n hn hN,wx c hc hN,Option.bind_some]
 rw[lS (by simp[dg3];omega),Option.bind_some,lS (by simp[dg3];omega),Option.bind_some,lS (by simp[dg3,dg5];omega),Option.bind_some,lS (by simp[dg3,dg5];omega),Option.bind_some]
 rfl
theorem iZ(n c:Nat):(hd n c).length=11:=rfl
theorem vu(s:List UInt8)(i:Nat):chk s i<100000:=by unfold chk;omega
def rc (s:List UInt8)(i:Nat):List UInt8:=hd s.length (chk s i)++s++[10]
def fw:List (List UInt8)→Nat→List UInt8
 | [],_=>[]
 | s::r,i=>rc s i++fw r (i+1)
theorem vz(s:List UInt8)(i:Nat):(rc s i).length=12+s.length:=by simp[rc,iZ];omega
theorem wy(lines:List (List UInt8))(hl:lines.length≤55)(hs:∀s∈lines,s.length≤210)(hN:20000≤N):jE N lines=some (bytesI (fw lines 0)):=by
 have key:=lO (N:=N) (R:=List Int) (B:=fun rec3 x=>cH N lines rec3 x.1 x.2.1 x.2.2) lines (fun(k:Nat) (a:List Int)=>((lines.length:Int),(k:Int),a))
  (fun r a=>some (a++bytesI (fw r (lines.length-r.length)))) (fun k a=>a.length≤222*k)
  (fun a rec _=>by simp[cH,fw,bytesI])
  (fun k s a rec hx ha h=>by
   have hlt:=lP hx
   have h210:=hs s (List.mem_of_getElem? hx)
   unfold cH
   rw[if_pos (by simp only[decide_eq_true_eq];omega)]
   simp only[ij hx,Option.bind_some,o9 s k (by omega) (by omega) hN,mn s.length (chk s k) (by omega) (vu s k) hN]
   have hrl:(hd s.length (chk s k)).length=11:=rfl
   rw[lS (by omega),Option.bind_some,lS (by simp;omega),Option.bind_some,nL (by simp[bytesI];omega),Option.bind_some,fN (by omega),h _ (by simp[bytesI];omega)]
   simp only[List.length_cons,List.length_drop,fw,Option.some.injEq]
   rw[show lines.length-(lines.length-(k+1)+1)=k from by omega,show lines.length-(lines.length-(k+1))=k+1 from by omega]
   simp[bytesI,rc])
  (by omega) [] (by simp)
 unfold jE
 simp only[Int.natCast_zero,Nat.sub_self,List.nil_append]at key
 rw[key];rfl
theorem vB(lines:List (List UInt8))(hl:lines.length≤50)(hs:∀s∈lines,s.length≤200)(hN:20000≤N):gr N lines=some (bytesI (fw lines 0),0):=by
 unfold gr
 rw[vA lines hl hs hN,Option.bind_some,if_neg (by decide),wy lines (by omega) (fun s hm=>by have:=hs s hm;omega) hN]
 rfl
theorem sU{x:Nat}(h:x<10):(UInt8.ofNat (48+x)).toNat=48+x:=by
 simp[UInt8.toNat_ofNat']
 omega
theorem nR(acc x:Nat)(r:List UInt8)(hx:x<10)(ha:acc<1000000000):Go.Lib.parseUint10 acc (UInt8.ofNat (48+x)::r)=Go.Lib.parseUint10 (acc*10+x) r:=by
 rw[Go.Lib.parseUint10,sU hx,if_pos (by omega),if_neg (by omega),if_neg (by omega),show 48+x-48=x from by omega]
theorem q7(x:Nat)(r:List UInt8)(hx:x<10)(v:Nat)(hv:v<1000000000)(h:Go.Lib.parseUint10 x r=.ok v)(hl:(UInt8.ofNat (48+x)::r).length≤N):nV N (UInt8.ofNat (48+x)::r)=some (.inl (v:Int)):=by
 have h1:Go.Lib.atoiAll (UInt8.ofNat (48+x)::r)=.ok (v:Int):=by
  unfold Go.Lib.atoiAll
  simp only[sU hx]
  rw[if_neg (by omega)]
  have h2:Go.Lib.parseMag (UInt8.ofNat (48+x)::r)=.ok v:=by
   unfold Go.Lib.parseMag
   rw[if_neg (by simp),nR 0 x r hx (by omega)]
   simpa using h
  rw[h2]
  simp only
  rw[if_neg (by omega),if_neg (by omega),if_neg (by omega)]
 unfold nV
 rw[if_pos hl,h1]
theorem xi(n:Nat)(h:n<1000)(hN:20000≤N):nV N (dg3 n)=some (.inl (n:Int)):=by
 refine q7 _ _ (by omega) n (by omega) ?_ (by simp;omega)
 rw[nR _ _ _ (by omega) (by omega),nR _ _ _ (by omega) (by omega),Go.Lib.parseUint10]
 congr 1;omega
theorem xj(n:Nat)(h:n<100000)(hN:20000≤N):nV N (dg5 n)=some (.inl (n:Int)):=by
 refine q7 _ _ (by omega) n (by omega) ?_ (by simp;omega)
 rw[nR _ _ _ (by omega) (by omega),nR _ _ _ (by omega) (by omega),nR _ _ _ (by omega) (by omega),nR _ _ _ (by omega) (by omega),Go.Lib.parseUint10]
 congr 1;omega
theorem i1(s:List UInt8):mC (bytesI s)=s:=by
 unfold mC bytesI
 rw[List.map_map]
 conv=>rhs;rw[← List.map_id s]
 exact List.map_congr_left fun c _=>by simp
theorem gu{s:List UInt8}{a b:Nat}(h1:a≤b)(h2:b≤s.length):slc (bytesI s) (a:Int) (b:Int)=some (bytesI ((s.take b).drop a)):=by
 rw[rX (by omega) (by omega) (by simp[bytesI];omega)]
 simp[bytesI,List.map_drop,List.map_take]
theorem wz(n c:Nat)(q:List UInt8)(hn:n≤200)(hc:c<100000)(hN:20000≤N):jF N (bytesI (hd n c++q))=some (DeskHead.mk n c,true):=by
 unfold jF
 have hlen:(hd n c++q).length=11+q.length:=by rw[List.length_append,iZ]
 have e1:slc (bytesI (hd n c++q)) 1 4=some (bytesI (dg3 n)):=(gu (a:=1) (b:=4) (by omega) (by omega)).trans rfl
 have e2:slc (bytesI (hd n c++q)) 5 10=some (bytesI (dg5 c)):=(gu (a:=5) (b:=10) (by omega) (by omega)).trans rfl
 have e3:slc (bytesI (hd n c++q)) 0 11=some (bytesI (hd n c)):=(gu (a:=0) (b:=11) (by omega) (by omega)).trans rfl
 rw[e1,Option.bind_some,i1,xi n (by omega) hN,Option.bind_some]
 simp only
 rw[e2,Option.bind_some,i1,xj c hc hN,Option.bind_some]
 simp only
 have hw:cJ N (n:Int) 0 200=some true:=by
  unfold cJ
  rw[if_pos (by simp)]
  simp;omega
 rw[hw,Option.bind_some]
 simp only[Bool.not_true,Bool.false_eq_true,if_false,Option.bind_some]
 rw[if_neg (by simp only[decide_eq_true_eq];omega),mn n c (by omega) hc hN,Option.bind_some,e3,Option.bind_some,i1]
 simp
end Go.Proofs.YtemciceobngijaaGreatDoor
namespace Go.Proofs.YtemciceobngijaaGreatDoor
open Go.Kp
variable {N:Nat}
theorem step{b:List UInt8}{p j n c:Nat}{cc:Int}{ls:List (List UInt8)}{q:List UInt8}{rec:(Int×Int×Int×(List (List UInt8)))→Option (Int×(List (List UInt8)))}
  (hq:b.drop p=hd n c++q) (h1:1≤q.length) (hn:n≤200) (hc:c<100000) (hb:b.length≤15000) (hj:j≤60) (hls:ls.length≤50) (hN:20000≤N) :
  aP N (bytesI b) rec (p:Int) (j:Int) cc ls=if q.length<n+1 then some (cc,ls)else if q[n]?≠some 10 then some (cc,ls)else if c≠chk (q.take n) j then some (cc,ls)else if ls.length=50 then some (cc,ls)else
   rec (((p+12+n:Nat):Int),((j+1:Nat):Int),((p+12+n:Nat):Int),ls++[q.take n]):=by
 have hL:b.length=p+11+q.length:=by
  have:=congrArg List.length hq
  rw[List.length_drop,List.length_append,iZ]at this
  omega
 have hbl:((bytesI b).length:Int)=(b.length:Int):=by simp[bytesI]
 unfold aP
 rw[hbl]
 rw[if_pos (by rw[bE (by omega) (by omega)];simp only[decide_eq_true_eq];omega)]
 have e1:slc (bytesI b) (p:Int) (b.length:Int)=some (bytesI (hd n c++q)):=by rw[gu (by omega) (by omega),List.take_length,hq]
 rw[e1,Option.bind_some,wz n c q hn hc hN,Option.bind_some]
 have eE:w64 ((w64 ((w64 ((p:Int)+11))+(n:Int)))+1)=((p+12+n:Nat):Int):=by
  rw[bE (n:=(p:Int)+11) (by omega) (by omega),bE (n:=(p:Int)+11+(n:Int)) (by omega) (by omega),bE (by omega) (by omega)];omega
 simp only[Bool.not_true,Bool.false_eq_true,if_false,eE]
 by_cases c1:q.length<n+1
 ·rw[if_pos (by simp only[decide_eq_true_eq];omega),if_pos c1]
  rfl
 rw[if_neg (by simp only[decide_eq_true_eq];omega),if_neg c1]
 have eL:w64 (((p+12+n:Nat):Int)-1)=((p+11+n:Nat):Int):=by rw[bE (by omega) (by omega)];omega
 have hx:b[p+11+n]? = some q[n]:=by
  have:(b.drop p)[11+n]? = some q[n]:=by
   rw[hq,List.getElem?_append_right (by rw[iZ];omega),iZ,show 11+n-11=n from by omega]
   simp
  rw[List.getElem?_drop]at this
  rw[← this];congr 1;omega
 rw[eL,o8 hx,Option.bind_some,Option.bind_some]
 have hqn:q[n]? = some q[n]:=List.getElem?_eq_getElem (by omega)
 by_cases c2:q[n]=10
 ·have t2:((q[n].toNat:Nat):Int)=10:=by rw[c2];rfl
  rw[if_neg (by simp[t2]),if_neg (by rw[hqn,c2];simp)]
  have e11:w64 ((p:Int)+11)=((p+11:Nat):Int):=by rw[bE (by omega) (by omega)];omega
  have eS:slc (bytesI b) (w64 ((p:Int)+11)) ((p+11+n:Nat):Int)=some (bytesI (q.take n)):=by
   rw[e11,gu (by omega) (by omega)]
   congr 2
   have h0:(b.take (p+11+n)).drop (p+11)=((b.drop p).drop 11).take n:=by
    rw[List.drop_drop,List.take_drop]
   rw[h0,hq]
   rfl
  rw[eL,eS,Option.bind_some,i1,o9 (q.take n) j (by rw[List.length_take];omega) (by omega) hN,Option.bind_some]
  have hlt:(q.take n).length=n:=by rw[List.length_take];omega
  rw[hlt]
  by_cases c3:c=chk (q.take n) j
  ·have d1:(decide ((DeskHead.mk (n:Int) (c:Int))=DeskHead.mk (n:Int) ((chk (q.take n) j:Nat):Int)))=true:=by rw[c3];simp
   have d2:¬c≠chk (q.take n) j:=by simpa using c3
   simp only[d1,if_neg d2,Bool.not_true,Bool.false_eq_true,if_false]
   by_cases c4:ls.length=50
   ·have d3:decide ((ls.length:Int)=50)=true:=by simp only[decide_eq_true_eq];omega
    rw[if_pos c4]
    simp only[d3,if_true]
   ·have d3:decide ((ls.length:Int)=50)=false:=by simp only[decide_eq_false_iff_not];omega
    simp only[d3,if_neg c4,Bool.false_eq_true,if_false]
    rw[nL (by simp;omega),Option.bind_some,fN (by omega)]
  ·have d1:(decide ((DeskHead.mk (n:Int) (c:Int))=DeskHead.mk (n:Int) ((chk (q.take n) j:Nat):Int)))=false:=by simp only[DeskHead.mk.injEq,true_and,decide_eq_false_iff_not];omega
   simp only[d1,if_pos c3,Bool.not_false,if_true]
 ·have t2:¬((q[n].toNat:Nat):Int)=10:=by
   intro e
   have h10:q[n].toNat=10:=by omega
   exact c2 (UInt8.toNat_inj.1 (by rw[h10];rfl))
  rw[if_pos (by simp[t2]),if_pos (by rw[hqn];simpa using c2)]
theorem short{b:List UInt8}{p j:Nat}{cc:Int}{ls:List (List UInt8)}{rec:(Int×Int×Int×(List (List UInt8)))→Option (Int×(List (List UInt8)))}
  (h:b.length≤p+11) (hp:p≤b.length) (hb:b.length≤15000):aP N (bytesI b) rec (p:Int) (j:Int) cc ls=some (cc,ls):=by
 have hbl:((bytesI b).length:Int)=(b.length:Int):=by simp[bytesI]
 unfold aP
 rw[hbl,if_neg (by rw[bE (by omega) (by omega)];simp only[decide_eq_true_eq];omega)]
def whole:List (List UInt8)→Nat→Nat
 | [],_=>0
 | s::r,k=>if 12+s.length≤k then whole r (k-(12+s.length))+1 else 0
def byt:List (List UInt8)→Nat
 | []=>0
 | s::r=>12+s.length+byt r
theorem sb:∀(l:List (List UInt8)) (i:Nat),(fw l i).length=byt l
 | [],_=>rfl
 | s::r,i=>by rw[fw,List.length_append,vz,sb r,byt]
theorem mo{b:List UInt8}(hb:b.length≤15000)(hN:20000≤N):∀(m:Nat) (l:List (List UInt8)) (p j k:Nat) (ls:List (List UInt8)),(∀s∈l,s.length≤200)→j+l.length≤50→ls.length=j→p≤b.length→b.drop p=(fw l j).take k→k≤(fw l j).length→l.length<m →
  aj (fun rec3 x=>aP N (bytesI b) rec3 x.1 x.2.1 x.2.2.1 x.2.2.2) m ((p:Int),(j:Int),(p:Int),ls)=some (((p+byt (l.take (whole l k)):Nat):Int),ls++l.take (whole l k))
 | 0,_,_,_,_,_,_,_,_,_,_,_,h=>by omega
 | m+1,[],p,j,k,ls,_,_,_,hp,hd0,hk,_=>by
  have h0:b.length≤p:=by
   have:=congrArg List.length hd0
   simp[fw]at this;omega
  show aP N (bytesI b) _ (p:Int) (j:Int) (p:Int) ls=_
  rw[short (by omega) hp hb]
  simp[whole,byt]
 | m+1,s::r,p,j,k,ls,hs,hj,hls,hp,hd0,hk,hm=>by
  have hs0:=hs s (by simp)
  have hLk:b.length-p=k:=by
   have:=congrArg List.length hd0
   rw[List.length_drop,List.length_take]at this;omega
  show aP N (bytesI b) _ (p:Int) (j:Int) (p:Int) ls=_
  by_cases hk11:k≤11
  ·rw[short (by omega) hp hb]
   have:whole (s::r) k=0:=by rw[whole,if_neg (by omega)]
   rw[this]
   simp[byt]
  have hfw:fw (s::r) j=hd s.length (chk s j)++(s++([10]++fw r (j+1))):=by simp[fw,rc]
  have htk:(fw (s::r) j).take k=hd s.length (chk s j)++(s++([10]++fw r (j+1))).take (k-11):=by
   rw[hfw,List.take_append,iZ,List.take_of_length_le (by rw[iZ];omega)]
  rw[htk]at hd0
  have hql:((s++([10]++fw r (j+1))).take (k-11)).length=k-11:=by
   have:=congrArg List.length hd0
   rw[List.length_drop,List.length_append,iZ]at this;omega
  have hlen2:j+(r.length+1)≤50:=by simpa using hj
  rw[step hd0 (by omega) hs0 (vu _ _) hb (by omega) (by omega) hN,hql]
  by_cases hw:12+s.length≤k
  ·have hwh:whole (s::r) k=whole r (k-(12+s.length))+1:=by rw[whole,if_pos hw]
   have hqe:(s++([10]++fw r (j+1))).take (k-11)=s++(10::(fw r (j+1)).take (k-(12+s.length))):=by
    rw[List.take_append,List.take_of_length_le (by omega)]
    congr 1
    rw[show k-11-s.length=(k-(12+s.length))+1 from by omega]
    rfl
   have hn:(s++(10::(fw r (j+1)).take (k-(12+s.length))))[s.length]? = some 10:=by simp
   have ht:(s++(10::(fw r (j+1)).take (k-(12+s.length)))).take s.length=s:=by simp
   rw[hqe,hn,ht,if_neg (by omega),if_neg (by simp),if_neg (by simp),if_neg (by omega)]
   have hd1:b.drop (p+12+s.length)=(fw r (j+1)).take (k-(12+s.length)):=by
    have e:b.drop (p+12+s.length)=(b.drop p).drop (12+s.length):=by rw[List.drop_drop];congr 1;omega
    rw[e,hd0,hqe,show 12+s.length=(hd s.length (chk s j)++s).length+1 from by rw[List.length_append,iZ];omega]
    rw[← List.append_assoc,List.drop_append]
    simp
   have hfl:(fw r (j+1)).length=(fw (s::r) j).length-(12+s.length):=by rw[fw,List.length_append,vz];omega
   have ih:=mo hb hN m r (p+12+s.length) (j+1) (k-(12+s.length)) (ls++[s]) (fun x hx=>hs x (by simp[hx])) (by omega) (by simp[hls]) (by omega) hd1 (by omega) (by simp at hm;omega)
   rw[ih,hwh]
   simp only[List.take_succ_cons,byt,List.append_assoc,List.singleton_append,Option.some.injEq,Prod.mk.injEq,and_true]
   congr 1;omega
  ·rw[if_pos (by omega)]
   have:whole (s::r) k=0:=by rw[whole,if_neg (by omega)]
   rw[this]
   simp[byt]
end Go.Proofs.YtemciceobngijaaGreatDoor
namespace Go.Proofs.YtemciceobngijaaGreatDoor
open Go.Kp
variable {N:Nat}
theorem q8:∀(l:List (List UInt8)) (k:Nat),whole l k≤l.length
 | [],_=>by simp[whole]
 | s::r,k=>by
  rw[whole]
  split
  ·have:=q8 r (k-(12+s.length));simp;omega
  ·omega
theorem sc:∀(l:List (List UInt8)),(∀s∈l,s.length≤200)→byt l≤212*l.length
 | [],_=>by simp[byt]
 | s::r,h=>by
  have:=sc r fun x hx=>h x (by simp[hx])
  have:=h s (by simp)
  simp[byt];omega
theorem nS{lines:List (List UInt8)}(hl:lines.length≤50)(hs:∀s∈lines,s.length≤200)(hN:20000≤N)(k:Nat)(hk:k≤(fw lines 0).length) :
  ef N (bytesI ((fw lines 0).take k))=some ((byt (lines.take (whole lines k)):Int),lines.take (whole lines k)):=by
 have hb:((fw lines 0).take k).length≤15000:=by
  rw[List.length_take,sb]at *
  have:=sc lines hs
  omega
 have key:=mo hb hN N lines 0 0 k [] hs (by omega) rfl (by omega) (by simp) hk (by omega)
 unfold ef gV
 simp only[Option.bind_some]
 simp only[Int.natCast_zero,Nat.zero_add,List.nil_append]at key
 rw[key];rfl
end Go.Proofs.YtemciceobngijaaGreatDoor
namespace Go.Proofs.YtemciceobngijaaGreatDoor
open Go.Kp
set_option maxRecDepth 100000
theorem dN{σ R:Type}{b:(σ→WP R)→σ→WP R}{n:Nat}{x:σ}{Q:R→Prop}(h:b (aG b n) x Q):aG b (n+1) x Q:=h
theorem br{α R:Type}{x:Option α}{a:α}{k:α→WP R}{Q:R→Prop}(e:x=some a)(h:k a Q):dO x k Q:=⟨a,e,h⟩
theorem lR{α R:Type}{a:WP R}{b:α→List α→WP R}{Q:R→Prop}(h:a Q):mq [] a b Q:=⟨fun _=>h,fun pre e post hs=>by cases pre<;>cases hs⟩
theorem o7{α R:Type}{x:α}{a:WP R}{b:α→List α→WP R}{Q:R→Prop}(h:b x [] Q):mq [x] a b Q:=by
 refine⟨fun e=>(by cases e),fun pre e post hs=>?_⟩
 cases pre with
 | nil=>cases hs;exact h
 | cons y l=>cases l<;>cases hs
theorem vo{α R:Type}{x:WP α}{k:α→WP R}{Q:R→Prop}(h:x fun a=>k a Q):Go.Kp.bindW x k Q:=h
theorem WGood.bindW{α R:Type}{x:WP α}{k:α→WP R}(hx:WGood x)(h:∀a,WGood (k a)):WGood (Go.Kp.bindW x k) :=
 ⟨fun q=>hx.no (hx.mono _ _ (fun a z=>((h a).no z).elim) q),fun P Q p q=>hx.mono _ _ (fun a z=>(h a).and P Q z.1 z.2) (hx.and _ _ p q),fun P Q m p=>hx.mono _ _ (fun a z=>(h a).mono P Q m z) p⟩
theorem wZ{R:Type}{c:Prop}[Decidable c]{a b:WP R}{Q:R→Prop}(hc:¬c)(h:b Q):(if c then a else b) Q:=by rw[if_neg hc];exact h
theorem qY:gh 30000 (RateBook.mk (RateLaw.mk 90 80 40 3 5) [70,60] [] [])=some ([],0):=by
 unfold gh
 refine vF ?_ ?_
 ·refine WGood.bindO fun z=>?_
  obtain⟨_,_,_,_,_,_,_,_,_,_⟩:=z
  refine .ite (.ret _) (WGood.loop (fun rec x hr=>?_) _ _)
  unfold bx cx
  exact .next (.bindO fun _=>.ret _) fun⟨_,_⟩ _=>.bindO fun _=>hr _
 ·unfold fp
  refine br (a:=(0,90,80,40,3,5,[70,60],[],[],[])) (by kernel_rfl) ?_
  dsimp only
  refine wZ (by decide) ?_
  refine dN (n:=29999) ?_
  unfold bx
  refine lR ?_
  unfold cx
  refine br (a:=[]) (by simp[sortI]) ?_
  rfl
theorem ua(N:Nat)(c1 c2 c3:Int)(c4:List LadderResult)(c5:List LadderPair)(m1:List (Int×LadderResult))(l1:List (Ar2 Int)):WGood (cB N c1 c2 c3 c4 c5 m1 l1):=by
 unfold cB
 refine WGood.loop (fun rec x hr=>?_) _ _
 unfold am
 refine .ite (.bindO fun _=>.bindO fun _=>WGood.loop (fun rec2 y hr2=>?_) _ _) (by unfold cf;exact .ret _)
 unfold au
 refine .next (by unfold cY;exact hr _) (fun⟨_,_⟩ _=>.bindO fun _=>WGood.loop (fun rec3 z hr3=>?_) _ _)
 unfold aw
 have k3:∀a b,WGood (bi N rec3 a b):=fun a b=>by unfold bi;exact hr3 _
 have k4:∀a b c d e f,WGood (bj N a rec3 b c d e f):=fun a b c d e f=>by unfold bj;exact .ite (k3 _ _) (k3 _ _)
 have k5:∀a b c d e,WGood (FE N a rec3 b c d e):=fun a b c d e=>by unfold FE;exact .bindO fun⟨_,_⟩=>.ite (k4 ..) (k4 ..)
 have k6:∀a b c d e f,WGood (bn N a rec3 b c d e f):=fun a b c d e f=>by unfold bn;exact .ite (.bindO fun _=>k5 ..) (k5 ..)
 have k7:∀a b c d e f g h,WGood (bp N a b rec3 c d e f g h):=fun a b c d e f g h=>by unfold bp;exact .ite (k3 _ _) (.bindO fun _=>.ite (k6 ..) (k6 ..))
 have k8:∀a b c d e f g,WGood (aV N a b rec3 c d e f g):=fun a b c d e f g=>by unfold aV;exact .bindO fun _=>.ite (k7 ..) (k7 ..)
 have k9:∀a b c d e f g h i j,WGood (bq N a b c rec3 d e f g h i j):=fun a b c d e f g h i j=>by unfold bq;exact .ite (k8 ..) (k8 ..)
 have k10:∀a b c d e f g h i,WGood (aY N a b c rec3 d e f g h i):=fun a b c d e f g h i=>by unfold aY;exact .bindO fun⟨_,_⟩=>.ite (k9 ..) (k9 ..)
 have k11:∀a b c d e f g h i j,WGood (aZ N a b c rec3 d e f g h i j):=fun a b c d e f g h i j=>by unfold aZ;exact .ite (.bindO fun _=>k10 ..) (k10 ..)
 have k12:∀a b c d e f g h i,WGood (ba N a b c rec3 d e f g h i):=fun a b c d e f g h i=>by unfold ba;exact .ite (k8 ..) (.bindO fun _=>.ite (k11 ..) (k11 ..))
 exact .next (hr2 _) fun⟨_,_⟩ _=>.bindO fun _=>.bindO fun _=>.ite (k12 ..) (k12 ..)
theorem vp(N:Nat)(c1 c2 c3:Int)(c4:List LadderResult)(c5:List LadderPair)(m1:List (Int×LadderResult))(l1:List (Ar2 Int)):WGood (cC N c1 c2 c3 c4 c5 m1 l1):=by
 unfold cC
 refine WGood.bindW (ua ..) fun m=>WGood.loop (fun rec x hr=>?_) _ _
 unfold aO
 have k2:∀a b,WGood (bG N a rec b):=fun a b=>by unfold bG;exact hr _
 refine .ite (.bindO fun _=>.bindO fun⟨_,_⟩=>.ite (.bindO fun _=>k2 _ _) (k2 _ _)) (by unfold cg;exact .ret _)
theorem ift{R:Type}{c:Bool}{a b:WP R}{Q:R→Prop}(hc:c=true)(h:a Q):(if c=true then a else b) Q:=by rw[if_pos hc];exact h
theorem ife{R:Type}{c:Bool}{a b:WP R}{Q:R→Prop}(hc:c=false)(h:b Q):(if c=true then a else b) Q:=by rw[if_neg (by rw[hc];decide)];exact h
def P2:LadderPair:=LadderPair.mk (LadderSide.mk 0 (-1)) (LadderSide.mk 1 (-1))
theorem w6:fq 30000 1 2 1 [] [LadderPair.mk (LadderSide.mk 0 (-1)) (LadderSide.mk 1 (-1))] [] [Ar2.mk 0 1]=some [0,1]:=by
 unfold fq
 refine vF (vp ..) ?_
 unfold cC
 refine vo ?_
 unfold cB
 refine dN (n:=29999) ?_
 unfold am
 refine ift (by kernel_rfl) ?_
 refine br (a:=P2) (by kernel_rfl) ?_
 refine br (a:=[(0,0)]) (by kernel_rfl) ?_
 refine dN (n:=29999) ?_
 unfold au
 refine o7 ?_
 dsimp only
 refine br (a:=[(1,0)]) (by kernel_rfl) ?_
 refine dN (n:=29999) ?_
 unfold aw
 refine o7 ?_
 dsimp only
 refine br (a:=-1) (by kernel_rfl) ?_
 refine br (a:=Ar2.mk 0 1) (by kernel_rfl) ?_
 refine ife (by kernel_rfl) ?_
 unfold ba
 refine ife (by kernel_rfl) ?_
 refine br (a:=0) (by kernel_rfl) ?_
 refine ift (by kernel_rfl) ?_
 unfold aZ
 refine ife (by kernel_rfl) ?_
 unfold aY
 refine br (a:=(LadderCheapest.mk 0 0,false)) (by kernel_rfl) ?_
 dsimp only
 refine ift (by kernel_rfl) ?_
 unfold bq
 refine ift (by kernel_rfl) ?_
 unfold aV
 refine br (a:=Ar2.mk 1 0) (by kernel_rfl) ?_
 refine ife (by kernel_rfl) ?_
 unfold bp
 refine ife (by kernel_rfl) ?_
 refine br (a:=0) (by kernel_rfl) ?_
 refine ift (by kernel_rfl) ?_
 unfold bn
 refine ift (by kernel_rfl) ?_
 refine br (a:=1) (by kernel_rfl) ?_
 unfold FE
 refine br (a:=(LadderCheapest.mk 0 0,false)) (by kernel_rfl) ?_
 dsimp only
 refine ift (by kernel_rfl) ?_
 unfold bj
 refine ift (by kernel_rfl) ?_
 change aG _ 29999 _ _
 refine dN (n:=29998) ?_
 try unfold aw
 refine lR ?_
 change aG _ 29999 _ _
 refine dN (n:=29998) ?_
 try unfold au
 refine lR ?_
 change aG _ 29999 _ _
 refine dN (n:=29998) ?_
 try unfold am
 refine ife (by kernel_rfl) ?_
 try unfold cf ug
 change aG _ 30000 _ _
 refine dN (n:=29999) ?_
 try unfold aO
 refine ift (by kernel_rfl) ?_
 refine br (a:=0) (by kernel_rfl) ?_
 refine br (a:=(LadderCheapest.mk 0 1,true)) (by kernel_rfl) ?_
 dsimp only
 refine ift (by kernel_rfl) ?_
 refine br (a:=[0]) (by kernel_rfl) ?_
 change aG _ 29999 _ _
 refine dN (n:=29998) ?_
 try unfold aO
 refine ift (by kernel_rfl) ?_
 refine br (a:=0) (by kernel_rfl) ?_
 refine br (a:=(LadderCheapest.mk 1 0,true)) (by kernel_rfl) ?_
 dsimp only
 refine ift (by kernel_rfl) ?_
 refine br (a:=[0,1]) (by kernel_rfl) ?_
 change aG _ 29998 _ _
 refine dN (n:=29997) ?_
 try unfold aO
 refine ife (by kernel_rfl) ?_
 try unfold cg
 rfl
theorem bind_ok{α β:Type}{x:Option α}{a:α}{f:α→Option β}{r:Option β}(e:x=some a)(h:f a=r):Option.bind x f=r:=by rw[e];exact h
theorem ofe{β:Type}{c:Bool}{a b r:Option β}(hc:c=false)(h:b=r):(if c=true then a else b)=r:=by rw[if_neg (by rw[hc];decide)];exact h
theorem oft{β:Type}{c:Bool}{a b r:Option β}(hc:c=true)(h:a=r):(if c=true then a else b)=r:=by rw[if_pos hc];exact h
def G7:List (List UInt8):=[[98,111,119,108,101,114,32,55,48],[98,111,119,108,101,114,32,54,48],[111,112,101,110,32,49,32,48],[98,97,108,108,32,49,32,49,48],[98,97,108,108,32,49,32,55],[98,97,108,108,32,49,32,51],[98,97,108,108,32,49,32,52]]
def G8:List (List UInt8):=G7++[[98,97,108,108,32,49,32,53]]
def G12:List (List UInt8):=G8++[[98,97,108,108,32,49,32,50],[111,112,101,110,32,49,32,49],[99,108,111,115,101,32,49],[99,108,111,115,101,32,49]]
def W7:DeskWork:=DeskWork.mk (DeskState.mk [70,60] [(DeskLane.mk (-1) []),(DeskLane.mk 0 [10,7,3,4]),(DeskLane.mk (-1) []),(DeskLane.mk (-1) [])] [[],[]] [] [] [])
def R7:List UInt8:=[108,97,110,101,32,49,32,98,111,119,108,101,114,32,48,32,99,111,117,110,116,115,32,50,48,32,51,52,10,98,111,119,108,101,114,32,48,32,107,101,112,116,32,48,32,115,104,101,101,116,115,32,48,10,98,111,119,108,101,114,32,49,32,107,101,112,116,32,48,32,115,104,101,101,116,115,32,48,10,100,117,101,108,115,32,48,32,49,10]
theorem ub:eM 30000 (LadderCup.mk 1 2 1 [])=some ([0,1],0):=by
 unfold eM
 refine bind_ok (a:=Sum.inr (0,1,2,1,[],[LadderPair.mk (LadderSide.mk 0 (-1)) (LadderSide.mk 1 (-1))],[],[Ar2.mk 0 1])) (by kernel_rfl) ?_
 dsimp only
 refine ofe (by kernel_rfl) ?_
 exact bind_ok w6 rfl
theorem uc:gM 30000 G7=some (R7,0):=by
 unfold gM
 refine bind_ok (a:=0) (by kernel_rfl) ?_
 refine ofe (by kernel_rfl) ?_
 refine bind_ok (a:=([0,0,0,0,0,0,0],W7)) (by kernel_rfl) ?_
 dsimp only
 refine bind_ok (a:=[108,97,110,101,32,49,32,98,111,119,108,101,114,32,48,32,99,111,117,110,116,115,32,50,48,32,51,52,10]) (by kernel_rfl) ?_
 refine bind_ok (a:=RateBook.mk (RateLaw.mk 90 80 40 3 5) [70,60] [] []) (by kernel_rfl) ?_
 refine bind_ok qY ?_
 dsimp only
 refine bind_ok (a:=[108,97,110,101,32,49,32,98,111,119,108,101,114,32,48,32,99,111,117,110,116,115,32,50,48,32,51,52,10,98,111,119,108,101,114,32,48,32,107,101,112,116,32,48,32,115,104,101,101,116,115,32,48,10,98,111,119,108,101,114,32,49,32,107,101,112,116,32,48,32,115,104,101,101,116,115,32,48,10]) (by kernel_rfl) ?_
 refine bind_ok (a:=R7) ?_ (by kernel_rfl)
 refine oft (by kernel_rfl) ?_
 refine bind_ok (a:=LadderCup.mk 1 2 1 []) (by kernel_rfl) ?_
 refine bind_ok ub ?_
 kernel_rfl
theorem vr:cL 30000=some true:=by
 unfold cL
 refine bind_ok (a:=G8) (by kernel_rfl) ?_
 refine bind_ok (a:=G12) (by kernel_rfl) ?_
 refine bind_ok (a:=(DeskState.mk [70,60] [(DeskLane.mk (-1) []),(DeskLane.mk (-1) []),(DeskLane.mk (-1) []),(DeskLane.mk (-1) [])] [[43],[]] [] [] [],[0,0,0,0,0,0,0,0,10,6,0,8],0)) (by kernel_rfl) ?_
 dsimp only
 refine bind_ok (a:=G8) (by kernel_rfl) ?_
 refine bind_ok (a:=G7) (by kernel_rfl) ?_
 refine bind_ok (a:=([20,34],38,54,0)) (by kernel_rfl) ?_
 dsimp only
 refine bind_ok (a:=G8) (by kernel_rfl) ?_
 refine bind_ok (a:=(70,16,0)) (by kernel_rfl) ?_
 dsimp only
 refine bind_ok (a:=G8) (by kernel_rfl) ?_
 refine bind_ok (a:=G7) (by kernel_rfl) ?_
 refine bind_ok uc ?_
 dsimp only
 refine bind_ok (a:=([60,48,48,49,124,48,48,50,48,57,62,97,10],0)) (by kernel_rfl) ?_
 kernel_rfl
end Go.Proofs.YtemciceobngijaaGreatDoor
namespace Go.Proofs.YtemciceobngijaaGreatDoor
open Go.Kp
variable {N:Nat}
theorem FSq:∀(a b:List (List UInt8)) (s:DeskState),zB N s (a++b)=zB N s a++zB N (zv N s a) b
 | [],_,_=>rfl
 | x::r,b,s=>by simp only[List.cons_append,zB,zv,FSq r]
theorem F3(l:List (List UInt8)):whole l 0=0:=by
 cases l with
 | nil=>rfl
 | cons x r=>unfold whole;rw[if_neg (by omega)]
theorem FQ(hN:20000≤N){b:List Int}{c:Int}{rl:List (List UInt8)}(hr:ef N b=some (c,rl))(more:List (List UInt8))(hlen:rl.length+more.length≤50)(hrs:∀s∈rl,s.length≤200)(hms:∀s∈more,s.length≤200) :
  FB N b more=some (bytesI (fw (rl++kept N (zv N st0 rl) more) 0),0):=by
 unfold FB
 rw[vA more (by omega) hms hN,Option.bind_some,if_neg (by decide),hr,Option.bind_some]
 dsimp only
 rw[Ca (Ci hN) hN rl (by omega) (fun s h=>by have:=hrs s h;omega),Option.bind_some]
 dsimp only
 have h0:=Bq (N:=N) hN rl AU (by omega)
 simp only[Nat.zero_add]at h0
 have key:=lO (N:=N) (B:=fun rec3 x=>Ft N more rec3 x.1 x.2.1 x.2.2.1 x.2.2.2) more (fun i (a:List (List UInt8)×DeskState)=>((more.length:Int),(i:Int),a.1,DeskWork.mk a.2))
  (fun r a=>some (a.1++kept N a.2 r)) (fun i a=>SI (rl.length+i) a.2∧a.1.length≤rl.length+i)
  (fun a rec _=>by
   unfold Ft
   rw[if_neg (by simp)]
   simp[kept])
  (fun i x a rec hx ha ih=>by
   have hlt:=lP hx
   have hso:=step_ok (N:=N) ha.1 (by omega) hN x
   unfold Ft
   rw[if_pos (by simp only[decide_eq_true_eq];omega),ij hx,Option.bind_some]
   dsimp only
   rw[B9 (Ci hN) ha.1 (by omega) hN x (by have:=hms x (List.mem_of_getElem? hx);omega),Option.bind_some,fN (by omega)]
   dsimp only
   unfold kept
   by_cases he:(stepW N a.2 x).1=0
   ·rw[if_pos (by simp only[decide_eq_true_eq];exact he),if_pos he,nL (by simp;omega),Option.bind_some,Option.bind_some,ih (a.1++[x],(stepW N a.2 x).2) ⟨hso.1,by simp;omega⟩]
    simp
   ·rw[if_neg (by simp only[decide_eq_true_eq];exact he),if_neg he,Option.bind_some,ih (a.1,(stepW N a.2 x).2) ⟨hso.1,by simp only;omega⟩])
  (by omega) (rl,zv N st0 rl) ⟨h0,Nat.le_refl _⟩
 simp only[Int.natCast_zero]at key
 rw[key,Option.bind_some]
 have hk:=Bd (N:=N) more (zv N st0 rl)
 rw[if_neg (by simp only[decide_eq_true_eq,List.length_append];omega),wy _ (by simp;omega) (fun s hm=>by
  rcases List.mem_append.1 hm with hm | hm
  ·have:=hrs s hm;omega
  ·have:=hms s (hk.1 s hm);omega) hN,Option.bind_some]
theorem FT(N:Nat)(hN:20000≤N)(hw:cL N=some true)(lines:List (List UInt8))(cut:Int)(h0:0≤cut∧cut≤65535):Fv N lines cut=some true:=by
 unfold Fv
 obtain⟨b,hb,hs⟩:=BI hN lines
 rw[hb,Option.bind_some]
 cases b with
 | true=>simp only[if_true,hw,Option.bind_some]
 | false =>
  obtain⟨h50,h200⟩:=hs rfl
  simp only[Bool.false_eq_true,if_false]
  have hk:=Bd (N:=N) lines st0
  have hkr:=Bc (N:=N) hN lines AU (by omega)
  rw[AG hN lines h50 h200,Option.bind_some]
  dsimp only
  generalize hK:kept N st0 lines=K at hk hkr
  have hK50:K.length≤50:=by omega
  have hK200:∀s∈K,s.length≤200:=fun s hm=>h200 s (hk.1 s hm)
  have hbl:=sc K hK200
  have hfl:(fw K 0).length=byt K:=sb K 0
  have hbL:(bytesI (fw K 0)).length=byt K:=by simp[bytesI,hfl]
  rw[Cb K (by omega),Option.bind_some,vB K hK50 hK200 hN,Option.bind_some]
  dsimp only
  rw[Cb lines (by omega),Option.bind_some]
  have r0:ef N []=some (0,[]):=by
   have:=nS hK50 hK200 hN 0 (by omega)
   simpa [bytesI,F3,byt]using this
  have e1:=FQ hN r0 lines (by simp;omega) (by simp) h200
  simp only[List.nil_append,zv,hK]at e1
  rw[e1,Option.bind_some]
  dsimp only
  simp only[decide_true,Bool.not_true,Bool.false_eq_true,if_false,Option.bind_some,hbL]
  have e2:w64 ((byt K:Int)+1)=((byt K+1:Nat):Int):=by rw[bE (by omega) (by omega)];omega
  obtain⟨c,rfl⟩:∃c:Nat,cut=c:=⟨cut.toNat,by omega⟩
  have e3:Int.tmod (w64 (c:Int)) ((byt K+1:Nat):Int)=((c % (byt K+1):Nat):Int):=by
   rw[bE (by omega) (by omega),Int.tmod_eq_emod_of_nonneg (by omega)];omega
  have hkc:c % (byt K+1)≤byt K:=by have:=Nat.mod_lt c (show 0<byt K+1 by omega);omega
  rw[e2,xh (by omega),Option.bind_some,e3]
  generalize c % (byt K+1)=k at hkc ⊢
  have e4:slc (bytesI (fw K 0)) 0 (k:Int)=some (bytesI ((fw K 0).take k)):=(gu (a:=0) (b:=k) (by omega) (by omega)).trans (by simp)
  have r1:=nS hK50 hK200 hN k (by omega)
  have hwl:=q8 K k
  have hta:app N [] (bytesI ((fw K 0).take k))=some (bytesI ((fw K 0).take k)):=by
   rw[nL (by simp[bytesI];omega)];rfl
  rw[e4,Option.bind_some,hta,Option.bind_some,r1,Option.bind_some]
  dsimp only
  have hlt:(K.take (whole K k)).length=whole K k:=by rw[List.length_take];omega
  rw[if_neg (by rw[hlt];simp only[decide_eq_true_eq];omega)]
  rw[Option.bind_some,hta,Option.bind_some,rX (by omega) (by rw[hlt];omega) (by omega),Option.bind_some,hlt]
  have e5:(K.take (K.length:Int).toNat).drop ((whole K k:Nat):Int).toNat=K.drop (whole K k):=by simp
  rw[e5,Cb _ (by simp;omega),Option.bind_some]
  have hall:∀e∈zB N st0 K,e=0:=hkr.2
  have hsplit:K=K.take (whole K k)++K.drop (whole K k):=(List.take_append_drop _ _).symm
  have e6:kept N (zv N st0 (K.take (whole K k))) (K.drop (whole K k))=K.drop (whole K k):=by
   refine Be _ _ fun e he=>hall e ?_
   rw[hsplit,FSq]
   exact List.mem_append_right _ he
  have e7:=FQ hN r1 (K.drop (whole K k)) (by rw[hlt,List.length_drop];omega) (fun s hm=>hK200 s (List.mem_of_mem_take hm)) (fun s hm=>hK200 s (List.mem_of_mem_drop hm))
  rw[e6,List.take_append_drop]at e7
  rw[e7,Option.bind_some,Option.bind_some]
  simp only[decide_true,if_true,hw,Option.bind_some]
theorem FW(lines:List (List UInt8))(cut:Int)(h:0≤cut∧cut≤65535):Fv 30000 lines cut=some true:=FT 30000 (by omega) vr lines cut h
end Go.Proofs.YtemciceobngijaaGreatDoor
