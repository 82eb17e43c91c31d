/-
  The plain part.
-/
import Derived.Test.YthbomkehodjepaaGreatDoorDDeskKept
import Derived.Test.YthbomkehodjepaaGreatDoorDef
import Derived.Test.YthbomkehodjepaaGreatDoorLib
import Derived.KernelRfl
set_option linter.all false
namespace Go.Proofs.YthbomkehodjepaaGreatDoor
open Go.Kp
variable {N:Nat}
theorem zh{σ R:Type}{B:(σ→Option R)→σ→Option R}(I:Nat→σ→Prop)(Q:R→Prop)
  (h:∀k x rec,I k x→(∀k' y,k'<k→I k' y→∃r,rec y=some r∧Q r)→∃r,B rec x=some r∧Q r) :
  ∀(n k:Nat) (x:σ),I k x→k<n→∃r,aj B n x=some r∧Q r:=by
 intro n
 induction n with
 | zero=>intro k x _ hk;omega
 | succ n ih=>intro k x hI hk;exact h k x _ hI fun k' y hk' hy=>ih k' y hy (by omega)
/-! The house's games: a play is one of 276. -/
def zk:FrameLaw:=FrameLaw.mk 3 10 2 10
def code (c:Nat):FrameAt:=let z:=Ar2.mk 0 0
 if c<22 then(if c % 11=0 then FrameAt.mk (c / 11:Nat) 0 10 true 2 z else FrameAt.mk (c / 11:Nat) 1 (c % 11:Nat) false 2 z)
 else if c=22 then FrameAt.mk 2 0 10 true 2 z
 else if c<33 then FrameAt.mk 2 1 (c-22:Nat) false 2 z
 else if c=33 then FrameAt.mk 2 1 10 true 3 z
 else if c<44 then FrameAt.mk 2 2 (c-33:Nat) false 3 z
 else if c=44 then FrameAt.mk 2 2 10 true 3 z
 else FrameAt.mk 3 0 10 true 2 z
def pl (n:Nat):FramePlay:=let a:=code (n / 6);FramePlay.mk zk (FrameAt.mk a.fFrame a.fThrown a.fStanding a.fFresh a.fNeed (Ar2.mk (n / 2 % 3:Nat) (n % 2:Nat)))
def num (p:FramePlay):Nat :=
 let f:=p.fAt.fFrame.toNat;let t:=p.fAt.fThrown.toNat;let s:=p.fAt.fStanding.toNat
 let c:=if f≤1 then 11*f+(if t=0 then 0 else s)else if f=2 then(if t=0 then 22 else if t=1 then(if p.fAt.fFresh then 33 else 22+s)else(if p.fAt.fFresh then 44 else 33+s))else 45
 6*c+2*p.fAt.fAfter.a0.toNat+p.fAt.fAfter.a1.toNat
def goes (p q:FramePlay):Bool:=(decide (q.fAt.fFrame=p.fAt.fFrame)&&decide (q.fAt.fThrown=p.fAt.fThrown+1))||(decide (q.fAt.fFrame=p.fAt.fFrame+1)&&decide (q.fAt.fThrown=0)&&(decide (p.fAt.fFrame≠2)||decide (1≤p.fAt.fThrown)))
def BO (p:FramePlay)(b:Int):Bool:=match dx 0 p b with
 | some true=>(match bA 0 p b with
  | some (q,n,_)=>decide (num q<276)&&decide (pl (num q)=q)&&goes p q&&(decide (0≤n)&&decide (n≤10))
  | none=>false)
 | some false=>true
 | none=>false
theorem BP:((List.range 276).all fun n=>(List.range 12).all fun k=>BO (pl n) ((k:Int)-1))=true:=by decide +kernel
theorem Ce:((List.range 276).all fun n=>decide (0≤(pl n).fAt.fStanding)&&decide ((pl n).fAt.fStanding≤10)&&decide (0≤(pl n).fAt.fFrame)&&decide ((pl n).fAt.fFrame≤3)&&decide (0≤(pl n).fAt.fThrown)&&decide ((pl n).fAt.fThrown≤2))=true:=by decide +kernel
end Go.Proofs.YthbomkehodjepaaGreatDoor
namespace Go.Proofs.YthbomkehodjepaaGreatDoor
open Go.Kp
variable {N:Nat}
/-! The knock-out's next matches are told, whatever the results. -/
theorem zg{α A σ R:Type}{N:Nat}{B:(σ→Option R)→σ→Option R}(l:List α)(X:Nat→A→σ)(ok:Nat→A→Prop)(Q:R→Prop)
  (h0:∀a rec,ok l.length a→∃r,B rec (X l.length a)=some r∧Q r)
  (h1:∀i x a rec,l[i]? = some x→ok i a→(∀a',ok (i+1) a'→∃r,rec (X (i+1) a')=some r∧Q r)→∃r,B rec (X i a)=some r∧Q r)
  (hN:l.length<N) (a:A) (ha:ok 0 a):∃r,aj B N (X 0 a)=some r∧Q r:=by
 refine zh (fun k x=>∃i a,x=X i a∧i+k=l.length∧ok i a) Q ?_ N l.length _ ⟨0,a,rfl,by omega,ha⟩ hN
 rintro k x rec ⟨i,a,rfl,hk,hok⟩ ih
 by_cases h:i<l.length
 ·exact h1 i _ a rec (List.getElem?_eq_getElem h) hok fun a' h'=>ih (k-1) _ (by omega) ⟨i+1,a',rfl,by omega,h'⟩
 ·have:i=l.length:=by omega
  subst this
  exact h0 a rec hok
theorem zI(n a b:Int):eH N n a b=some (decide (a≤n)&&decide (n≤b)):=by
 unfold eH
 by_cases h:a≤n<;>simp[h]
theorem A3(l:List Int)(hl:l.length<100000)(hN:l.length<N):∃r,gq N l=some r:=by
 obtain⟨r,hr,_⟩:=zg (N:=N) (B:=fun rec3 x=>eJ N l rec3 x.1 x.2.1 x.2.2) l (fun i (a:Int)=>(a,(l.length:Int),(i:Int))) (fun _ _=>True) (fun _=>True)
  (fun a rec _=>⟨_,by unfold eJ;rw[if_neg (by simp)],trivial⟩)
  (fun i x a rec hx _ ih=>by
   have hlt:=lP hx
   unfold eJ
   rw[if_pos (by simp only[decide_eq_true_eq];omega),ij hx,Option.bind_some,fN (by omega)]
   exact ih _ trivial)
  hN 0 trivial
 exact⟨r,by unfold gq;simp only[Int.natCast_zero]at hr;rw[hr];rfl⟩
theorem AA{m:Int}{gs:List Int}{c1 c2 c3:Int}{c4:List LadderResult}{c5:List LadderPair}{m1:List (Int×LadderResult)}{l1:List (Ar2 Int)}(hm:0≤m∧m<l1.length)(hg:gs.length≤60)(hN:20000≤N):∃r,xS N m gs c1 c2 c3 c4 c5 m1 l1=some r:=by
 have hx:=List.getElem?_eq_getElem (show m.toNat<l1.length by omega)
 generalize l1[m.toNat]=x at hx
 unfold xS
 rw[yy hm.1 hx,Option.bind_some]
 obtain⟨r,hr,_⟩:=zg (N:=N) (B:=fun rec7 y=>eE N gs x rec7 y.1 y.2.1 y.2.2) gs (fun i (a:Ar2 Int)=>((gs.length:Int),(i:Int),a)) (fun _ _=>True) (fun _=>True)
  (fun a rec _=>⟨_,by unfold eE;rw[if_neg (by simp)],trivial⟩)
  (fun i y a rec hy _ ih=>by
   have hlt:=lP hy
   unfold eE
   rw[if_pos (by simp only[decide_eq_true_eq];omega),ij hy,Option.bind_some,fN (by omega)]
   split
   ·obtain⟨z,hz⟩:=A3 (N:=N) [a.a0,1] (by simp) (by simp;omega)
    rw[hz];exact ih _ trivial
   ·exact ih _ trivial)
  (by omega) (Ar2.mk 0 0) trivial
 simp only[Int.natCast_zero]at hr
 rw[hr,Option.bind_some]
 obtain⟨r2,hr2,_⟩:=zg (N:=N) (B:=fun rec9 y=>eS N gs x rec9 y.1 y.2.1 y.2.2) gs (fun i (a:Ar2 Int)=>((gs.length:Int),(i:Int),a)) (fun _ _=>True) (fun _=>True)
  (fun a rec _=>⟨_,by unfold eS;rw[if_neg (by simp)],trivial⟩)
  (fun i y a rec hy _ ih=>by
   have hlt:=lP hy
   unfold eS
   rw[if_pos (by simp only[decide_eq_true_eq];omega),ij hy,Option.bind_some,fN (by omega)]
   split
   ·obtain⟨z,hz⟩:=A3 (N:=N) [a.a1,1] (by simp) (by simp;omega)
    rw[hz];exact ih _ trivial
   ·exact ih _ trivial)
  (by omega) r trivial
 simp only[Int.natCast_zero]at hr2
 rw[hr2,Option.bind_some]
 exact⟨_,rfl⟩
theorem zZ{m:Int}{gs:List Int}{c1 c2 c3:Int}{c4:List LadderResult}{c5:List LadderPair}{m1:List (Int×LadderResult)}{l1:List (Ar2 Int)}(hm:0≤m∧m<l1.length)(hg:gs.length≤60)(hN:20000≤N):∃r,xP N m gs c1 c2 c3 c4 c5 m1 l1=some r:=by
 obtain⟨r,hr⟩:=AA (N:=N) (c1:=c1) (c2:=c2) (c3:=c3) (c4:=c4) (c5:=c5) (m1:=m1) hm hg hN
 have hx:=List.getElem?_eq_getElem (show m.toNat<l1.length by omega)
 generalize l1[m.toNat]=x at hx
 unfold xP
 rw[hr,Option.bind_some,yy hm.1 hx]
 split
 ·exact⟨_,rfl⟩
 ·split<;>exact⟨_,rfl⟩
def Mp (m:List (Int×LadderResult)):Prop:=∀k v,mget m k=some v→v.fMatch=k∧v.fGames.length=1
theorem AK{m:Int}{c1 c2 c3:Int}{c4:List LadderResult}{c5:List LadderPair}{m1:List (Int×LadderResult)}{l1:List (Ar2 Int)}(hp:Mp m1)(hm:0≤m∧m<l1.length)(hN:20000≤N):∃r,dq N m c1 c2 c3 c4 c5 m1 l1=some r:=by
 unfold dq mgt
 rw[Option.bind_some]
 dsimp only
 cases hv:mget m1 m with
 | none=>exact⟨_,rfl⟩
 | some v =>
  have:=hp _ _ hv
  obtain⟨r,hr⟩:=zZ (N:=N) (c1:=c1) (c2:=c2) (c3:=c3) (c4:=c4) (c5:=c5) (m1:=m1) (gs:=v.fGames) hm (by omega) hN
  exact⟨r,by simp only[Option.isSome_some,Option.getD_some,Bool.not_true,Bool.false_eq_true,if_false];rw[hr];rfl⟩
theorem AL(a b x:Int)(hN:20000≤N):∃r,yP N [a,b] x=some r:=⟨_,AZ (N:=N) [a,b] x (by simp;omega) (by simp)⟩
theorem Bm{r:LadderResult}{c1 c2 c3:Int}{c4:List LadderResult}{c5:List LadderPair}{m1:List (Int×LadderResult)}{l1:List (Ar2 Int)}(hm:0≤r.fMatch∧r.fMatch<l1.length)(hg:r.fGames.length=1)(hN:20000≤N):∃z,yg N r c1 c2 c3 c4 c5 m1 l1=some z:=by
 have hx:=List.getElem?_eq_getElem (show r.fMatch.toNat<l1.length by omega)
 generalize l1[r.fMatch.toNat]=x at hx
 unfold yg
 rw[yy hm.1 hx,Option.bind_some]
 have hb:∃b,(if decide (x.a0=-1)then some true else some (decide (x.a1=-1)))=some b:=by split<;>exact⟨_,rfl⟩
 obtain⟨b,hb⟩:=hb
 rw[hb,Option.bind_some]
 cases b with
 | true=>exact⟨_,rfl⟩
 | false =>
  obtain⟨z,hz,_⟩:=zg (N:=N) (B:=fun rec3 y=>fw N r c1 c2 c3 c4 c5 m1 l1 x rec3 y.1 y.2) r.fGames (fun i (_:Unit)=>((r.fGames.length:Int),(i:Int))) (fun _ _=>True) (fun _=>True)
   (fun a rec _=>⟨_,by unfold fw;rw[if_neg (by simp)],trivial⟩)
   (fun i y a rec hy _ ih=>by
    have hlt:=lP hy
    unfold fw
    rw[if_pos (by simp only[decide_eq_true_eq];omega),ij hy,Option.bind_some]
    obtain⟨q,hq⟩:=AL (N:=N) x.a0 x.a1 y hN
    rw[hq,Option.bind_some,rX (by omega) (by omega) (by omega),Option.bind_some]
    obtain⟨w,hw⟩:=zZ (N:=N) (c1:=c1) (c2:=c2) (c3:=c3) (c4:=c4) (c5:=c5) (m1:=m1) (gs:=(r.fGames.take (i:Int).toNat).drop (0:Int).toNat) hm (by simp;omega) hN
    rw[hw,Option.bind_some,fN (by omega)]
    cases q with
    | false=>exact⟨_,rfl,trivial⟩
    | true =>
     simp only[Bool.not_true,Bool.false_eq_true,if_false,Option.bind_some]
     split
     ·exact⟨_,rfl,trivial⟩
     ·exact ih () trivial)
   (by omega) () trivial
  simp only[Int.natCast_zero]at hz
  simp only[Bool.false_eq_true,if_false]
  rw[hz]
  exact⟨_,rfl⟩
def Tr (t:List LadderPair):Prop:=t.length≤60∧∀(i:Nat) (p:LadderPair),t[i]? = some p→(p.fFirst.fMatch=-1∨(0≤p.fFirst.fMatch∧p.fFirst.fMatch<i))∧(p.fSecond.fMatch=-1∨(0≤p.fSecond.fMatch∧p.fSecond.fMatch<i))
theorem BM{c1 c2 c3:Int}{c4:List LadderResult}{t:List LadderPair}{m1:List (Int×LadderResult)}(ht:Tr t)(hp:Mp m1)(hN:20000≤N):∃z,fZ N c1 c2 c3 c4 t m1=some z∧(z.1=true→z.2.2.2.2.2.2.length≤60):=by
 unfold fZ
 have htl:=ht.1
 refine zg (N:=N) (B:=fun rec3 y=>nz N c1 c2 c3 c4 t m1 rec3 y.1 y.2.1 y.2.2) t (fun i (a:List (Ar2 Int))=>((t.length:Int),(i:Int),a)) (fun i a=>a.length=i) (fun z=>z.1=true→z.2.2.2.2.2.2.length≤60)
  (fun a rec ha=>⟨_,by unfold nz;rw[if_neg (by simp)];rfl,fun _=>by simp only;omega⟩)
  (fun i p a rec hx ha ih=>?_) (by omega) [] rfl
 have hlt:=lP hx
 have hpr:=ht.2 i p hx
 unfold nz
 rw[if_pos (by simp only[decide_eq_true_eq];omega),ij hx,Option.bind_some,show jD N=some ()from rfl,Option.bind_some]
 have h1:∃z,(Option.bind (fY N p) fun r303=>if decide (r303.fMatch=(-1))then some ((Ar2.mk r303.fPlayer (-1)))else Option.bind (dq N r303.fMatch c1 c2 c3 c4 t m1 a) fun r304=>some ((Ar2.mk r304 (-1))))=some z:=by
  rw[show fY N p=some p.fFirst from rfl,Option.bind_some]
  by_cases hm:p.fFirst.fMatch=-1
  ·rw[if_pos (by simp only[decide_eq_true_eq];exact hm)];exact⟨_,rfl⟩
  ·rw[if_neg (by simp only[decide_eq_true_eq];exact hm)]
   obtain⟨w,hw⟩:=AK (N:=N) (c1:=c1) (c2:=c2) (c3:=c3) (c4:=c4) (c5:=t) hp (show 0≤p.fFirst.fMatch∧p.fFirst.fMatch<a.length by have:=hpr.1.resolve_left hm;omega) hN
   rw[hw];exact⟨_,rfl⟩
 obtain⟨z1,h1⟩:=h1
 rw[h1,Option.bind_some]
 have h2:∃z,(Option.bind (e8 N p) fun r309=>if decide (r309.fMatch=(-1))then some (Ar2.mk z1.a0 r309.fPlayer)else Option.bind (dq N r309.fMatch c1 c2 c3 c4 t m1 a) fun r310=>some (Ar2.mk z1.a0 r310))=some z:=by
  rw[show e8 N p=some p.fSecond from rfl,Option.bind_some]
  by_cases hm:p.fSecond.fMatch=-1
  ·rw[if_pos (by simp only[decide_eq_true_eq];exact hm)];exact⟨_,rfl⟩
  ·rw[if_neg (by simp only[decide_eq_true_eq];exact hm)]
   obtain⟨w,hw⟩:=AK (N:=N) (c1:=c1) (c2:=c2) (c3:=c3) (c4:=c4) (c5:=t) hp (show 0≤p.fSecond.fMatch∧p.fSecond.fMatch<a.length by have:=hpr.2.resolve_left hm;omega) hN
   rw[hw];exact⟨_,rfl⟩
 obtain⟨z2,h2⟩:=h2
 rw[h2,Option.bind_some,nL (by simp;omega),Option.bind_some]
 unfold mgt
 rw[Option.bind_some]
 dsimp only
 have fin:∀b:Bool,∃r,(if b=true then some (false,c1,c2,c3,c4,t,a++[z2])else rec ((t.length:Int),w64 ((i:Int)+1),a++[z2]))=some r∧(r.1=true→r.2.2.2.2.2.2.length≤60):=by
  intro b
  cases b with
  | true=>exact⟨_,rfl,fun h=>by cases h⟩
  | false=>rw[fN (by omega)];exact ih _ (by simp[ha])
 cases hv:mget m1 (i:Int)with
 | none =>
  simp only[Option.isSome_none,Bool.false_eq_true,if_false,Option.bind_some]
  exact fin false
 | some v =>
  have hvm:=hp _ _ hv
  simp only[Option.isSome_some,Option.getD_some,if_true]
  obtain⟨w,hw⟩:=Bm (N:=N) (r:=v) (c1:=c1) (c2:=c2) (c3:=c3) (c4:=c4) (c5:=t) (m1:=m1) (l1:=a++[z2]) (by rw[hvm.1];simp;omega) hvm.2 hN
  rw[hw,Option.bind_some,Option.bind_some]
  exact fin (!w)
end Go.Proofs.YthbomkehodjepaaGreatDoor
namespace Go.Proofs.YthbomkehodjepaaGreatDoor
open Go.Kp
variable {N:Nat}
theorem BN(c:LadderCup)(hf:c.fForm=1)(hp:2≤c.fPlayers∧c.fPlayers≤16)(hN:20000≤N):∃t,ie N c=some t∧Tr t:=by
 unfold ie fX gi
 rw[if_pos (by simp only[decide_eq_true_eq];exact hf),Option.bind_some,Option.bind_some]
 have e1:w64 (c.fPlayers-1)=c.fPlayers-1:=bE (by omega) (by omega)
 rw[e1]
 have key:=zh (B:=fun rec3 x=>bV N rec3 x.1 x.2.1 x.2.2) (fun k (x:Int×Int×List LadderPair)=>x.1=c.fPlayers-1∧1≤x.2.1∧x.2.1≤c.fPlayers-1∧x.2.1+k=c.fPlayers-1∧(x.2.2.length:Int)=x.2.1∧Tr x.2.2) Tr
  (fun k x rec hI ih=>by
   obtain⟨v,n,t⟩:=x
   obtain⟨hv,h1,h2,h3,h4,h5⟩:=hI
   simp only at hv h1 h2 h3 h4 h5
   subst hv
   unfold bV gi y8
   by_cases h:n<c.fPlayers-1
   ·rw[if_pos (by simp only[decide_eq_true_eq];exact h),Option.bind_some,Option.bind_some,nL (by simp;omega),Option.bind_some]
    have e2:w64 (n-1)=n-1:=bE (by omega) (by omega)
    have e3:w64 (n+1)=n+1:=bE (by omega) (by omega)
    rw[e2]
    simp only[e3]
    refine ih (k-1) _ (by omega) ⟨rfl,by simp only;omega,by simp only;omega,by simp only;omega,by simp;omega,by simp;omega,fun i p hx=>?_⟩
    rw[List.getElem?_append]at hx
    split at hx
    ·exact h5.2 i p hx
    ·rename_i hi
     have hi2:i=t.length:=by
      have:=(List.getElem?_eq_some_iff.1 hx).1
      simp at this;omega
     subst hi2
     simp at hx
     subst hx
     exact⟨.inl rfl,.inr ⟨by simp only;omega,by simp only;omega⟩⟩
   ·rw[if_neg (by simp only[decide_eq_true_eq];exact h)]
    exact⟨_,rfl,h5⟩)
  N (c.fPlayers-2).toNat (c.fPlayers-1,1,[LadderPair.mk (LadderSide.mk (w64 (c.fPlayers-1-1)) (-1)) (LadderSide.mk (c.fPlayers-1) (-1))]) ⟨rfl,by simp,by simp only;omega,by simp only;omega,rfl,by simp,fun i p hx=>by
   have hi:=(List.getElem?_eq_some_iff.1 hx).1
   simp at hi;subst hi;simp at hx;subst hx;exact⟨.inl rfl,.inl rfl⟩⟩ (by omega)
 obtain⟨t,ht,hT⟩:=key
 rw[ht]
 exact⟨t,rfl,hT⟩
theorem A4{c1 c2 c3:Int}{c4:List LadderResult}{c5:List LadderPair}{m1:List (Int×LadderResult)}{l1:List (Ar2 Int)}(hp:Mp m1)(hl:l1.length≤60)(hN:20000≤N):∃z,yG N c1 c2 c3 c4 c5 m1 l1=some z:=by
 unfold yG yI
 obtain⟨z,hz,_⟩:=zg (N:=N) (B:=fun rec3 x=>rc N c1 c2 c3 c4 c5 m1 l1 rec3 x.1 x.2.1 x.2.2) l1 (fun i (a:List LadderMatch)=>((l1.length:Int),(i:Int),a)) (fun i a=>a.length≤i) (fun _=>True)
  (fun a rec _=>⟨_,by unfold rc;rw[if_neg (by simp)],trivial⟩)
  (fun i x a rec hx ha ih=>by
   have hlt:=lP hx
   unfold rc
   rw[if_pos (by simp only[decide_eq_true_eq];omega),ij hx,Option.bind_some,fN (by omega)]
   have hb:∃b,(if decide (x.a0=(-1))then some true else if decide (x.a1=(-1))then some true else Option.bind (dq N (i:Int) c1 c2 c3 c4 c5 m1 l1) fun r70=>some (!decide (r70=(-1))))=some b:=by
    split
    ·exact⟨_,rfl⟩
    ·split
     ·exact⟨_,rfl⟩
     ·obtain⟨w,hw⟩:=AK (N:=N) (c1:=c1) (c2:=c2) (c3:=c3) (c4:=c4) (c5:=c5) hp (show(0:Int)≤(i:Int)∧(i:Int)<l1.length by omega) hN
      rw[hw];exact⟨_,rfl⟩
   obtain⟨b,hb⟩:=hb
   rw[hb,Option.bind_some]
   cases b with
   | true =>
    simp only[if_true,Option.bind_some]
    exact ih _ (by omega)
   | false =>
    have hg:(((mget m1 (i:Int)).getD (LadderResult.mk 0 [] false)).fGames).length≤60:=by
     cases hv:mget m1 (i:Int)with
     | none=>simp
     | some v=>have:=(hp _ _ hv).2;simp only[Option.getD_some];omega
    obtain⟨w,hw⟩:=AA (N:=N) (c1:=c1) (c2:=c2) (c3:=c3) (c4:=c4) (c5:=c5) (m1:=m1) (show(0:Int)≤(i:Int)∧(i:Int)<l1.length by omega) hg hN
    unfold mgt
    simp only[Bool.false_eq_true,if_false,Option.bind_some,hw]
    rw[nL (by simp;omega),Option.bind_some,Option.bind_some]
    exact ih _ (by simp;omega))
  (by omega) [] (by simp)
 simp only[Int.natCast_zero]at hz
 rw[hz]
 exact⟨_,rfl⟩
theorem Cd{m:List (Int×LadderResult)}(h:Mp m){r:LadderResult}(hr:r.fGames.length=1):Mp (mput m r.fMatch r):=by
 intro k v hv
 rw[Az]at hv
 split at hv
 ·rename_i e;cases hv;exact⟨e.symm,hr⟩
 ·exact h k v hv
theorem Bz(c:LadderCup)(hf:c.fForm=1)(hr:c.fResults.length≤60)(hg:∀r∈c.fResults,r.fGames.length=1)(hN:20000≤N):∃ms e,yh N c=some (ms,e):=by
 have hd:(∃e,ig N c=some (.inl e)∧e≠0)∨∃z,ig N c=some (.inr z)∧Mp z.2.2.2.2.2.2.1∧z.2.2.2.2.2.2.2.length≤60:=by
  unfold ig
  have ha:lM N c.fResults=some (c.fResults.all fun r=>decide ((r.fGames.length:Int)≤5)) :=
   tZ c.fResults (fun y=>kD N y) (fun r=>decide ((r.fGames.length:Int)≤5)) (fun x _=>rfl) (by omega) (by omega)
  by_cases h15:15<(c.fResults.length:Int)
  ·rw[if_pos (by simp only[decide_eq_true_eq];exact h15)]
   exact .inl ⟨3,rfl,by decide⟩
  ·rw[if_neg (by simp only[decide_eq_true_eq];exact h15),ha,Option.bind_some,Option.bind_some]
   cases(c.fResults.all fun r=>decide ((r.fGames.length:Int)≤5))with
   | false=>exact .inl ⟨3,rfl,by decide⟩
   | true =>
    simp only[Bool.not_true,Bool.false_eq_true,if_false]
    have hck:gJ N c=some (if 2≤c.fPlayers∧c.fPlayers≤16∧1≤c.fGames∧c.fGames≤5∧¬Int.tmod c.fGames 2=0 then 0 else 1):=by
     unfold gJ
     rw[if_neg (by simp[hf]),zI,zI]
     simp only[Option.bind_some]
     by_cases h1:2≤c.fPlayers<;>by_cases h2:c.fPlayers≤16<;>by_cases h3:1≤c.fGames<;>by_cases h4:c.fGames≤5<;>by_cases h5:Int.tmod c.fGames 2=0<;>simp[h1,h2,h3,h4,h5]
    rw[hck,Option.bind_some]
    by_cases hc:2≤c.fPlayers∧c.fPlayers≤16∧1≤c.fGames∧c.fGames≤5∧¬Int.tmod c.fGames 2=0
    ·rw[if_pos hc]
     simp only[decide_true,Bool.not_true,Bool.false_eq_true,if_false]
     have ha2:∃b,kE N c.fResults c=some b:=by
      refine⟨_,tZ c.fResults (fun y=>jC N y c) (fun r=>decide (0≤r.fMatch)&&decide (r.fMatch≤w64 (c.fPlayers-2))&&decide (0<(r.fGames.length:Int))) (fun x _=>?_) (by omega) (by omega)⟩
      show jC N x c=_
      unfold jC gK
      rw[zI,Option.bind_some]
      cases(decide (0≤x.fMatch)&&decide (x.fMatch≤w64 (c.fPlayers-2)))<;>simp
     obtain⟨b,hb⟩:=ha2
     rw[hb,Option.bind_some,Option.bind_some]
     cases b with
     | false=>exact .inl ⟨1,rfl,by decide⟩
     | true =>
      simp only[Bool.not_true,Bool.false_eq_true,if_false]
      obtain⟨t,ht,hT⟩:=BN (N:=N) c hf ⟨hc.1,hc.2.1⟩ hN
      rw[ht,Option.bind_some]
      obtain⟨z,hz,hq⟩:=zg (N:=N) (B:=fun rec3 x=>dy N c t rec3 x.1 x.2.1 x.2.2) c.fResults (fun i (a:List (Int×LadderResult))=>((c.fResults.length:Int),(i:Int),a)) (fun _ a=>Mp a) (fun z=>(∃e,z=.inl e∧e≠0)∨∃y,z=.inr y∧Mp y.2.2.2.2.2.2.1∧y.2.2.2.2.2.2.2.length≤60)
       (fun a rec hm=>by
        unfold dy yC
        rw[if_neg (by simp)]
        obtain⟨z,hz,hz1⟩:=BM (N:=N) (c1:=c.fForm) (c2:=c.fPlayers) (c3:=c.fGames) (c4:=c.fResults) (t:=t) hT hm hN
        rw[hz,Option.bind_some]
        obtain⟨b,z2,z3,z4,z5,z6,z7⟩:=z
        cases b with
        | false=>exact⟨_,rfl,.inl ⟨10,rfl,by decide⟩⟩
        | true=>exact⟨_,rfl,.inr ⟨_,rfl,hm,hz1 rfl⟩⟩)
       (fun i x a rec hx hm ih=>by
        have hlt:=lP hx
        unfold dy mgt
        rw[if_pos (by simp only[decide_eq_true_eq];omega),ij hx,Option.bind_some,Option.bind_some,Option.bind_some,fN (by omega)]
        split
        ·exact⟨_,rfl,.inl ⟨6,rfl,by decide⟩⟩
        ·exact ih _ (Cd hm (hg x (List.mem_of_getElem? hx))))
       (by omega) [] (fun k v h=>by cases h)
      simp only[Int.natCast_zero]at hz
      rw[hz]
      rcases hq with⟨e,rfl,he⟩ | ⟨y,rfl,hy⟩
      ·exact .inl ⟨e,rfl,he⟩
      ·exact .inr ⟨y,rfl,hy⟩
    ·rw[if_neg hc]
     exact .inl ⟨1,rfl,by decide⟩
 unfold yh
 rcases hd with⟨e,he,h0⟩ | ⟨⟨z1,z2,z3,z4,z5,z6,z7,z8⟩,hz,hm,hl⟩
 ·rw[he,Option.bind_some]
  simp only[h0,decide_false,Bool.not_false,if_true]
  exact⟨_,_,rfl⟩
 ·rw[hz,Option.bind_some]
  dsimp only at hm hl ⊢
  split
  ·exact⟨_,_,rfl⟩
  ·rw[show yQ N z2 z3 z4 z5 z6 z7 z8=some ()from rfl,Option.bind_some]
   obtain⟨w,hw⟩:=A4 (N:=N) (c1:=z2) (c2:=z3) (c3:=z4) (c4:=z5) (c5:=z6) hm hl hN
   rw[hw]
   exact⟨_,_,rfl⟩
end Go.Proofs.YthbomkehodjepaaGreatDoor
namespace Go.Proofs.YthbomkehodjepaaGreatDoor
open Go.Kp
variable {N:Nat}
def Ok (p:FramePlay):Prop:=∃n<276,p=pl n
theorem Ok.bds{p:FramePlay}(h:Ok p):0≤p.fAt.fStanding∧p.fAt.fStanding≤10∧0≤p.fAt.fFrame∧p.fAt.fFrame≤3∧0≤p.fAt.fThrown∧p.fAt.fThrown≤2∧p.fLaw=zk:=by
 obtain⟨n,hn,rfl⟩:=h
 have:=List.all_eq_true.1 Ce n (List.mem_range.2 hn)
 simp only[Bool.and_eq_true,decide_eq_true_eq]at this
 exact⟨this.1.1.1.1.1,this.1.1.1.1.2,this.1.1.1.2,this.1.1.2,this.1.2,this.2,rfl⟩
theorem AB(n a b:Int):db N n a b=some (decide (a≤n)&&decide (n≤b)):=by
 unfold db
 by_cases h:a≤n<;>simp[h]
theorem Al(p:FramePlay)(b:Int):dx N p b=some (!decide (p.fAt.fFrame=p.fLaw.fFrames)&&(decide (-1≤b)&&decide (b≤p.fAt.fStanding))):=by
 unfold dx cT
 by_cases h:p.fAt.fFrame=p.fLaw.fFrames<;>simp[h,AB]
def stp (p:FramePlay)(b:Int):Option (FramePlay×Int×Int):=if dx 0 p b=some true then bA 0 p b else none
def Goes (p q:FramePlay):Prop:=(q.fAt.fFrame=p.fAt.fFrame∧q.fAt.fThrown=p.fAt.fThrown+1)∨(q.fAt.fFrame=p.fAt.fFrame+1∧q.fAt.fThrown=0∧(p.fAt.fFrame=2→1≤p.fAt.fThrown))
theorem zL{p:FramePlay}(hp:Ok p)(b:Int):(dx N p b=some false∧stp p b=none)∨(dx N p b=some true∧∃q n w,stp p b=some (q,n,w)∧bA N p b=some (q,n,w)∧Ok q∧Goes p q∧0≤n∧n≤10):=by
 have e:dx N p b=dx 0 p b:=by rw[Al,Al]
 have e2:bA N p b=bA 0 p b:=rfl
 rw[e,e2]
 by_cases h:dx 0 p b=some true
 ·right
  refine⟨h,?_⟩
  have hb:=hp.bds
  have h2:=h
  rw[Al]at h2
  simp only[Option.some.injEq,Bool.and_eq_true,decide_eq_true_eq,Bool.not_eq_true',decide_eq_false_iff_not]at h2
  obtain⟨n,hn,rfl⟩:=hp
  have:=List.all_eq_true.1 (List.all_eq_true.1 BP n (List.mem_range.2 hn)) (b+1).toNat (List.mem_range.2 (by omega))
  have eb:(((b+1).toNat:Nat):Int)-1=b:=by omega
  rw[eb]at this
  unfold BO at this
  rw[h]at this
  simp only at this
  unfold stp
  rw[if_pos h]
  cases hq:bA 0 (pl n) b with
  | none=>rw[hq]at this;cases this
  | some z =>
   obtain⟨q,c,w⟩:=z
   rw[hq]at this
   simp only[Bool.and_eq_true,decide_eq_true_eq,goes,Bool.or_eq_true,ne_eq,decide_not,Bool.not_eq_true',decide_eq_false_iff_not]at this
   refine⟨q,c,w,rfl,rfl,⟨num q,this.1.1.1,this.1.1.2.symm⟩,?_,this.2⟩
   rcases this.1.2 with h | ⟨⟨h1,h2⟩,h3⟩
   ·exact .inl h
   ·exact .inr ⟨h1,h2,fun hf=>h3.resolve_left (fun hn=>hn hf)⟩
 ·left
  refine⟨?_,by unfold stp;rw[if_neg h]⟩
  rw[Al]at h ⊢
  congr 1
  simpa using h
def yZ:FramePlay:=FramePlay.mk zk (FrameAt.mk 0 0 10 true 2 (Ar2.mk 0 0))
theorem Am:bL N zk=some yZ:=rfl
theorem An:Ok yZ:=⟨0,by omega,by decide +kernel⟩
def zu:FramePlay→List Int→Nat
 | _,[]=>0
 | p,b::r=>match stp p b with
  | some (q,_,_)=>zu q r+1
  | none=>0
theorem AM:∀(l:List Int) (p:FramePlay),zu p l≤l.length
 | [],_=>by simp[zu]
 | b::r,p=>by
  unfold zu
  cases stp p b with
  | none=>simp
  | some z=>have:=AM r z.1;simp only[List.length_cons];omega
def behind:FramePlay→List Int→FramePlay
 | p,[]=>p
 | p,b::r=>match stp p b with
  | some (q,_,_)=>behind q r
  | none=>p
theorem AC:∀(l:List Int) {p:FramePlay},Ok p→Ok (behind p l)
 | [],_,h=>h
 | b::r,p,h=>by
  unfold behind
  rcases zL (N:=0) h b with⟨_,e⟩ | ⟨_,q,n,w,e,_,hq,_⟩<;>rw[e]
  ·exact h
  ·exact AC r hq
theorem bad_eq(l:List Int)(hl:l.length<100000)(hN':l.length<N):jy N zk l=some (zu yZ l:Int):=by
 have key:=lO (N:=N) (B:=fun rec3 x=>de N l rec3 x.1 x.2.1 x.2.2.1 x.2.2.2) l (fun i (a:FramePlay)=>((l.length:Int),(i:Int),a,(i:Int)))
  (fun r a=>some (((l.length-r.length+zu a r:Nat):Int))) (fun _ a=>Ok a)
  (fun a rec _=>by simp[de,zu])
  (fun i b a rec hx ha h=>by
   have hlt:=lP hx
   unfold de
   rw[if_pos (by simp only[decide_eq_true_eq];omega),ij hx,Option.bind_some]
   simp only[zu,List.length_cons,List.length_drop]
   rcases zL (N:=N) ha b with⟨e1,e2⟩ | ⟨e1,q,n,w,e2,e3,hq,_⟩
   ·rw[e1,e2,Option.bind_some]
    simp only[Bool.not_false,if_true]
    congr 1;omega
   ·rw[e1,e2,Option.bind_some,e3,Option.bind_some]
    simp only[Bool.not_true,Bool.false_eq_true,if_false]
    rw[fN (by omega),h q hq]
    simp only[List.length_drop]
    congr 1;omega)
  hN' yZ An
 unfold jy cS
 rw[Option.bind_some]
 dsimp only
 rw[Am,Option.bind_some]
 simp only[Int.natCast_zero,Nat.sub_self,Nat.zero_add]at key
 rw[key,Option.bind_some]
theorem Cf:FM N zk=some 0:=by
 unfold FM
 simp only[AB]
 rfl
theorem BA(l:List Int)(hl:l.length<100000)(hN:l.length<N):fj N zk l=some (if 40<l.length then 3 else if zu yZ l<l.length then 10 else 0):=by
 unfold fj
 rw[Cf,Option.bind_some]
 simp only[decide_true,Bool.not_true,Bool.false_eq_true,if_false]
 by_cases h:40<l.length
 ·rw[if_pos (by simp only[decide_eq_true_eq];omega),if_pos h]
 ·rw[if_neg (by simp only[decide_eq_true_eq];omega),if_neg h,bad_eq l hl hN,Option.bind_some]
  by_cases h2:zu yZ l<l.length
  ·rw[if_pos (by simp only[decide_eq_true_eq];omega),if_pos h2]
  ·rw[if_neg (by simp only[decide_eq_true_eq];omega),if_neg h2]
theorem BB(l:List Int)(hl:l.length<100000)(hN:l.length<N):dg N zk l=some (behind yZ l):=by
 have key:=lO (N:=N) (B:=fun rec3 x=>cd N l rec3 x.1 x.2.1 x.2.2.1 x.2.2.2) l (fun i (a:FramePlay)=>((l.length:Int),(i:Int),a,a))
  (fun r a=>some (behind a r)) (fun _ a=>Ok a)
  (fun a rec _=>by simp[cd,behind])
  (fun i b a rec hx ha h=>by
   have hlt:=lP hx
   unfold cd
   rw[if_pos (by simp only[decide_eq_true_eq];omega),ij hx,Option.bind_some]
   simp only[behind]
   rcases zL (N:=N) ha b with⟨e1,e2⟩ | ⟨e1,q,n,w,e2,e3,hq,_⟩
   ·rw[e1,e2,Option.bind_some];rfl
   ·rw[e1,e2,Option.bind_some,e3,Option.bind_some]
    simp only[Bool.not_true,Bool.false_eq_true,if_false]
    rw[fN (by omega),h q hq])
  hN yZ An
 unfold dg cS
 rw[Am,Option.bind_some,Option.bind_some]
 dsimp only
 rw[Am,Option.bind_some]
 simp only[Int.natCast_zero]at key
 rw[key,Option.bind_some]
theorem BQ(l:List Int)(hl:l.length<100000)(hN:l.length<N):∃r,fL N l=some r:=by
 have key:=zh (B:=fun rec3 x=>fK N l rec3 x.1 x.2.1 x.2.2) (fun k (x:Int×Int×Int)=>x.2.1=l.length∧∃i:Nat,x.2.2=i∧i+k=l.length) (fun _=>True)
  (fun k x rec hI ih=>by
   obtain⟨n,v,w⟩:=x
   obtain⟨rfl,i,rfl,hk⟩:=hI
   unfold fK
   by_cases h:i<l.length
   ·rw[if_pos (by simp only[decide_eq_true_eq];omega)]
    simp only[ij (List.getElem?_eq_getElem h),Option.bind_some]
    exact ih (k-1) _ (by omega) ⟨rfl,i+1,fN (by omega),by omega⟩
   ·rw[if_neg (by simp only[decide_eq_true_eq];omega)];exact⟨_,rfl,trivial⟩)
  N l.length (0,(l.length:Int),0) ⟨rfl,0,rfl,by omega⟩ hN
 obtain⟨r,hr,_⟩:=key
 exact⟨r,by unfold fL;rw[hr];rfl⟩
end Go.Proofs.YthbomkehodjepaaGreatDoor
namespace Go.Proofs.YthbomkehodjepaaGreatDoor
open Go.Kp
variable {N:Nat}
def lbv (p:FramePlay):Int:=if p.fAt.fFrame=1 then p.fAt.fThrown else if p.fAt.fFrame=2 then 1+p.fAt.fThrown else 3
structure CI(i:Nat)(p:FramePlay)(cs es ms fs:List Int):Prop where
 ok:Ok p
 cl:cs.length=i
 el:(es.length:Int)=p.fAt.fFrame
 ml:ms.length=es.length
 fl:fs.length=3
 fb:∀x∈fs,0≤x∧x≤(i:Int)
 eb:∀x∈es,0≤x∧x≤(i:Int)
 ep:es.Pairwise (·≤·)
 mb:∀x∈ms,0≤x∧x≤2
 lb:∀x,es[0]? = some x→x+lbv p≤i
 cb:∀x∈cs,0≤x∧x≤10
 il:(i:Int)≤3*p.fAt.fFrame+p.fAt.fThrown
theorem CI.step{i:Nat}{p q:FramePlay}{cs es ms fs:List Int}(h:CI i p cs es ms fs)(hq:Ok q)(hg:Goes p q)(c x:Int)(hc0:0≤c∧c≤10)(hx:fs[p.fAt.fFrame.toNat]? = some x) :
  (q.fAt.fFrame=p.fAt.fFrame→CI (i+1) q (cs++[c]) es ms (fs.set p.fAt.fFrame.toNat (x+1))) ∧
  (p.fAt.fFrame<q.fAt.fFrame→∀m:List Int,m.length=ms.length+1→(∀y∈m,0≤y∧y≤2)→CI (i+1) q (cs++[c]) (es++[(i:Int)+1]) m (fs.set p.fAt.fFrame.toNat (x+1))):=by
 have hb:=h.ok.bds
 have hx2:=h.fb x (List.mem_of_getElem? hx)
 have hil:=h.il
 have hcb:∀y∈cs++[c],0≤y∧y≤10:=fun y hy=>by
  rcases List.mem_append.1 hy with hy | hy
  ·exact h.cb y hy
  ·simp at hy;subst hy;exact hc0
 have hfb:∀y∈fs.set p.fAt.fFrame.toNat (x+1),0≤y∧y≤((i+1:Nat):Int):=fun y hy=>by
  rcases List.mem_or_eq_of_mem_set hy with hy | rfl
  ·have:=h.fb y hy;omega
  ·omega
 constructor
 ·intro e
  rcases hg with⟨_,g2⟩ | ⟨g1,_⟩
  ·refine⟨hq,by simp[h.cl],by rw[h.el,e],h.ml,by simp[h.fl],hfb,fun y hy=>?_,h.ep,h.mb,fun y hy=>?_,hcb,by push_cast;omega⟩
   ·have:=h.eb y hy;omega
   ·have:=h.lb y hy
    unfold lbv at *
    rw[e,g2]
    push_cast
    have he:es.length≠0:=by intro e0;have:=List.eq_nil_of_length_eq_zero e0;subst this;simp at hy
    have:=h.el
    by_cases h1:p.fAt.fFrame=1
    ·simp only[if_pos h1]at *;omega
    ·by_cases h2:p.fAt.fFrame=2
     ·simp only[if_neg h1,if_pos h2]at *;omega
     ·simp only[if_neg h1,if_neg h2]at *
      have h3:=hq.bds
      have h4:p.fAt.fFrame=3:=by omega
      omega
  ·omega
 ·intro e m hm1 hm2
  rcases hg with⟨g1,_⟩ | ⟨g1,g2,g3⟩
  ·omega
  ·refine⟨hq,by simp[h.cl],by simp[h.el,g1],by simp[hm1,h.ml],by simp[h.fl],hfb,fun y hy=>?_,?_,hm2,fun y hy=>?_,hcb,by push_cast;omega⟩
   ·rcases List.mem_append.1 hy with hy | hy
    ·have:=h.eb y hy;omega
    ·simp at hy;omega
   ·rw[List.pairwise_append]
    refine⟨h.ep,by simp,fun a ha b hb=>?_⟩
    have:=h.eb a ha
    simp at hb;omega
   ·unfold lbv
    rw[g1,g2]
    have hel:=h.el
    cases hes:es with
    | nil =>
     rw[hes]at hy hel
     simp at hy hel
     rw[← hel]
     simp;omega
    | cons z r =>
     rw[hes]at hy hel
     simp at hy hel
     subst hy
     have:=h.lb z (by rw[hes];rfl)
     unfold lbv at this
     have hp1:1≤p.fAt.fFrame:=by omega
     have hp3:p.fAt.fFrame+1≤3:=by have:=hq.bds;omega
     rw[if_neg (by omega)]
     by_cases h1:p.fAt.fFrame=1
     ·rw[if_pos h1]at this
      rw[if_pos (by omega)];push_cast;omega
     ·have h2:p.fAt.fFrame=2:=by omega
      have:=g3 h2
      rw[if_neg h1,if_pos h2]at *
      rw[if_neg (by omega)];push_cast;omega
theorem A6(l:List Int)(hl:l.length<100000)(hN:l.length+10<N):∃r,aj (fun rec3 x=>ca N zk l rec3 x.1 x.2.1 x.2.2.1 x.2.2.2.1 x.2.2.2.2.1 x.2.2.2.2.2.1 x.2.2.2.2.2.2) N ((l.length:Int),0,yZ,[],[],[],List.replicate 3 0)=some r ∧
  ∃fs,CI (zu yZ l) (behind yZ l) r.1 r.2.1 r.2.2 fs:=by
 refine zh (B:=fun rec3 x=>ca N zk l rec3 x.1 x.2.1 x.2.2.1 x.2.2.2.1 x.2.2.2.2.1 x.2.2.2.2.2.1 x.2.2.2.2.2.2)
  (fun k (x:Int×Int×FramePlay×List Int×List Int×List Int×List Int)=>x.1=l.length∧∃i:Nat,x.2.1=i∧i+k=l.length∧CI i x.2.2.1 x.2.2.2.1 x.2.2.2.2.1 x.2.2.2.2.2.1 x.2.2.2.2.2.2∧zu yZ l=i+zu x.2.2.1 (l.drop i)∧behind yZ l=behind x.2.2.1 (l.drop i)) _ ?_ N l.length _ ⟨rfl,0,rfl,by omega,?_,by simp,by simp⟩ (by omega)
 ·rintro k ⟨v,w,p,cs,es,ms,fs⟩ rec ⟨hv,i,hw,hk,hci,hg1,hg2⟩ ih
  simp only at hv hw hci hg1 hg2
  subst hv hw
  have hbd:=hci.ok.bds
  unfold ca
  by_cases h:i<l.length
  ·have hx:=List.getElem?_eq_getElem h
   generalize l[i]=b at hx
   have hdrop:l.drop i=b::l.drop (i+1):=by
    rw[List.drop_eq_getElem_cons h]
    have:=(List.getElem?_eq_some_iff.1 hx).2
    rw[this]
   rw[if_pos (by simp only[decide_eq_true_eq];omega)]
   simp only[ij hx,Option.bind_some]
   rw[hdrop]at hg1 hg2
   rw[zu]at hg1
   rw[behind]at hg2
   rcases zL (N:=N) hci.ok b with⟨e1,e2⟩ | ⟨e1,q,n,w,e2,e3,hq,hgo,hnb⟩
   ·rw[e1,Option.bind_some]
    simp only[Bool.not_false,if_true]
    rw[e2]at hg1 hg2
    refine⟨_,rfl,fs,?_⟩
    simp only[Nat.add_zero]at hg1
    rw[hg1,hg2];exact hci
   ·rw[e1,Option.bind_some]
    simp only[Bool.not_true,Bool.false_eq_true,if_false]
    rw[e3,Option.bind_some]
    rw[e2]at hg1 hg2
    simp only at hg1 hg2 ⊢
    have hes:es.length≤3:=by have:=hci.el;omega
    rw[nL (by have:=hci.cl;simp;omega),Option.bind_some]
    have hf3:p.fAt.fFrame<3:=by
     by_cases h3:p.fAt.fFrame=3
     ·rw[Al,hbd.2.2.2.2.2.2,h3]at e1;simp[zk]at e1
     ·omega
    have hfx:fs[p.fAt.fFrame.toNat]? = some (fs[p.fAt.fFrame.toNat]'(by have:=hci.fl;omega)):=List.getElem?_eq_getElem (by have:=hci.fl;omega)
    generalize fs[p.fAt.fFrame.toNat]'(by have:=hci.fl;omega)=x at hfx
    have hxb:=hci.fb x (List.mem_of_getElem? hfx)
    rw[yy (by omega) hfx,Option.bind_some]
    have ex:w64 (x+1)=x+1:=bE (by omega) (by omega)
    have ei:w64 ((i:Int)+1)=(i:Int)+1:=bE (by omega) (by omega)
    have hst:=hci.step hq hgo n x hnb hfx
    simp only[ex,ei]
    have fin:∀cs' es' ms' fs',CI (i+1) q cs' es' ms' fs'→∃r,rec ((l.length:Int),(i:Int)+1,q,cs',es',ms',fs')=some r∧∃fs,CI (zu yZ l) (behind yZ l) r.1 r.2.1 r.2.2 fs:=fun cs' es' ms' fs' hc =>
     ih (k-1) _ (by omega) ⟨rfl,i+1,by simp,by omega,hc,by simp only;omega,hg2⟩
    by_cases hf:p.fAt.fFrame<q.fAt.fFrame
    ·rw[if_pos (by simp only[decide_eq_true_eq];exact hf)]
     rw[nL (by simp;omega),Option.bind_some,nL (by simp[hci.ml];omega),Option.bind_some]
     have hset:(fs.set p.fAt.fFrame.toNat (x+1))[p.fAt.fFrame.toNat]? = some (x+1):=by rw[List.getElem?_set_self (by have:=hci.fl;omega)]
     rw[yy (by omega) hset,Option.bind_some]
     have e5:w64 ((i:Int)+1-(x+1))=(i:Int)-x:=by rw[bE (by omega) (by omega)];omega
     rw[e5,rX (by omega) (by simp[hci.cl];omega) (by simp),Option.bind_some]
     obtain⟨sm,hsm⟩:=BQ (N:=N) (((cs++[n]).take ((cs++[n]).length:Int).toNat).drop ((i:Int)-x).toNat) (by simp[hci.cl];omega) (by simp[hci.cl];omega)
     rw[hsm,Option.bind_some]
     have hm0:CI (i+1) q (cs++[n]) (es++[(i:Int)+1]) (ms++[0]) (fs.set p.fAt.fFrame.toNat (x+1)):=hst.2 hf _ (by simp) (fun y hy=>by
      rcases List.mem_append.1 hy with hy | hy
      ·exact hci.mb y hy
      ·simp at hy;omega)
     have hlast:∀d:Bool,(d=true→x+1<3)→∃r,(Option.bind (some (d,fs.set p.fAt.fFrame.toNat (x+1))) fun x_1=>match x_1 with
       | (v96,l713)=>if v96 then(Option.bind (idx l713 p.fAt.fFrame) fun x311=>Option.bind (idx (ms++[0]) p.fAt.fFrame) fun x312=>some (cs++[n],es++[(i:Int)+1],(ms++[0]).set p.fAt.fFrame.toNat (w64 (3-x311)),l713))else some (cs++[n],es++[(i:Int)+1],ms++[0],l713))=some r∧CI (i+1) q r.1 r.2.1 r.2.2.1 r.2.2.2:=by
      intro d hd
      rw[Option.bind_some]
      cases d with
      | false=>exact⟨_,rfl,hm0⟩
      | true =>
       simp only[if_true]
       have hml:p.fAt.fFrame.toNat<(ms++[0]).length:=by have:=hci.el;have:=hci.ml;simp;omega
       rw[yy (by omega) hset,Option.bind_some,yy (by omega) (List.getElem?_eq_getElem hml),Option.bind_some]
       refine⟨_,rfl,?_⟩
       have:=hd rfl
       have e6:w64 (3-(x+1))=3-(x+1):=bE (by omega) (by omega)
       rw[e6]
       refine hst.2 hf _ (by simp) (fun y hy=>?_)
       rcases List.mem_or_eq_of_mem_set hy with hy | rfl
       ·rcases List.mem_append.1 hy with hy | hy
        ·exact hci.mb y hy
        ·simp at hy;omega
       ·omega
     have hd2:∃d:Bool,(d=true→x+1<3)∧(if decide (p.fAt.fFrame<w64 (zk.fFrames-1))then(if decide (sm=zk.fPins)then some ((decide (x+1<3),fs.set p.fAt.fFrame.toNat (x+1)))else some ((false,fs.set p.fAt.fFrame.toNat (x+1))))else some ((false,fs.set p.fAt.fFrame.toNat (x+1))))=some (d,fs.set p.fAt.fFrame.toNat (x+1)):=by
      split
      ·split
       ·exact⟨_,by simp,rfl⟩
       ·exact⟨_,by simp,rfl⟩
      ·exact⟨_,by simp,rfl⟩
     obtain⟨d,hd,e7⟩:=hd2
     obtain⟨r,hr,hc⟩:=hlast d hd
     rw[e7,hr,Option.bind_some]
     exact fin _ _ _ _ hc
    ·rw[if_neg (by simp only[decide_eq_true_eq];exact hf),Option.bind_some]
     exact fin _ _ _ _ (hst.1 (by rcases hgo with g | g<;>omega))
  ·rw[if_neg (by simp only[decide_eq_true_eq];omega)]
   have hi:i=l.length:=by omega
   subst hi
   rw[List.drop_length]at hg1 hg2
   simp only[zu,behind,Nat.add_zero]at hg1 hg2
   refine⟨_,rfl,fs,?_⟩
   rw[hg1,hg2];exact hci
 ·exact⟨An,rfl,rfl,rfl,rfl,by simp,by simp,by simp,by simp,by simp,by simp,by simp[yZ]⟩
end Go.Proofs.YthbomkehodjepaaGreatDoor
namespace Go.Proofs.YthbomkehodjepaaGreatDoor
open Go.Kp
variable {N:Nat}
theorem Bu(l:List Int)(hb:∀x∈l,0≤x∧x≤1000000)(hl:l.length≤1000000)(hN:l.length<N):fL N l=some l.sum:=by
 have:=By (N:=N) l hb hl hN
 unfold fL
 show Option.bind (aj (fun(rec:Int×Int×Int→Option Int) (x:Int×Int×Int)=>if decide (x.2.2<x.2.1)then Option.bind (idx l x.2.2) fun y=>rec (w64 (x.1+y),x.2.1,w64 (x.2.2+1))else some x.1) N (0,(l.length:Int),0)) _=_
 rw[this];rfl
theorem Bn(l:List Int)(hl:l.length<100000)(hN:l.length+10<N):∃r,gC N zk l=some r∧r.length≤3∧((behind yZ l).fAt.fFrame=3→r≠[])∧∀c,r.getLast? = some c→0≤c∧c≤300:=by
 unfold gC cS
 rw[show mkl N zk.fFrames (0:Int)=some (List.replicate 3 0)from by unfold mkl;rw[if_pos ⟨by decide,by simp only[zk];omega⟩];rfl,Option.bind_some,Option.bind_some]
 dsimp only
 rw[Am,Option.bind_some]
 obtain⟨⟨cs,es,ms⟩,hr,fs,hc⟩:=A6 l hl hN
 rw[hr,Option.bind_some]
 simp only at hc ⊢
 have hbd:=hc.ok.bds
 have hgl:=AM l yZ
 have hes:es.length≤3:=by have:=hc.el;omega
 refine(fun⟨r,h1,h2⟩=>⟨r,h1,h2⟩) (zh (B:=fun rec5 x=>Fw N cs es ms rec5 x.1 x.2.1 x.2.2.1 x.2.2.2)
  (fun k (x:Int×Int×Int×List Int)=>x.2.1=es.length∧∃i:Nat,x.2.2.1=i∧i+k=es.length∧x.2.2.2.length=i∧0≤x.1∧(∀y,es[i]? = some y→x.1≤y)∧x.1≤cs.length∧∀y,x.2.2.2.getLast? = some y→0≤y∧y≤10*(x.1+2*(i:Int))) (fun r=>r.length≤3∧((behind yZ l).fAt.fFrame=3→r≠[])∧∀c,r.getLast? = some c→0≤c∧c≤300) ?_ N es.length (0,(es.length:Int),0,[]) ⟨rfl,0,rfl,by omega,rfl,by simp,fun y hy=>(hc.eb y (List.mem_of_getElem? hy)).1,by simp only;omega,by simp⟩ (by omega))
 rintro k ⟨fr,v,w,acc⟩ rec ⟨hv,i,hw,hk,ha,hfr,hle,hfc,hlast⟩ ih
 simp only at hv hw ha hfr hle hfc hlast
 have hcl:=hc.cl
 have hil:=hc.il
 have fin:∀c,acc.getLast? = some c→0≤c∧c≤300:=fun c h=>by have:=hlast c h;omega
 subst hv hw
 unfold Fw
 by_cases h:i<es.length
 ·rw[if_pos (by simp only[decide_eq_true_eq];omega)]
  have hx:=List.getElem?_eq_getElem h
  generalize es[i]=e at hx
  have hm:i<ms.length:=by have:=hc.ml;omega
  have hy:=List.getElem?_eq_getElem hm
  generalize ms[i]=m at hy
  have heb:=hc.eb e (List.mem_of_getElem? hx)
  have hmb:=hc.mb m (List.mem_of_getElem? hy)
  simp only[ij hx,ij hy,Option.bind_some]
  have e1:w64 (e+m)=e+m:=bE (by omega) (by omega)
  rw[e1]
  by_cases hlt:(cs.length:Int)<e+m
  ·rw[if_pos (by simp only[decide_eq_true_eq];exact hlt)]
   refine⟨_,rfl,by omega,fun h3=>?_,fin⟩
   rcases Nat.eq_zero_or_pos i with h0 | h0
   ·subst h0
    have:=hc.lb e hx
    unfold lbv at this
    rw[h3]at this
    simp at this
    omega
   ·intro e0;subst e0;simp at ha;omega
  ·rw[if_neg (by simp only[decide_eq_true_eq];exact hlt)]
   have hle2:=hle e hx
   rw[rX hfr (by omega) (by omega),Option.bind_some]
   have hsl:∀x∈(cs.take (e+m).toNat).drop fr.toNat,0≤x∧x≤10:=fun x hx=>hc.cb x (List.mem_of_mem_take (List.mem_of_mem_drop hx))
   have hsll:((cs.take (e+m).toNat).drop fr.toNat).length=(e+m).toNat-fr.toNat:=by rw[List.length_drop,List.length_take];omega
   generalize(cs.take (e+m).toNat).drop fr.toNat=sl at hsl hsll
   have hsum:=BL (B:=10) (by omega) sl hsl
   rw[Bu sl (fun x hx=>by have:=hsl x hx;omega) (by omega) (by omega),Option.bind_some]
   generalize sl.sum=sm at hsum
   have hs2:∃z,(if decide (0<(i:Int))then Option.bind (idx acc (w64 ((i:Int)-1))) fun x400=>Option.bind (fL N [sm,x400]) fun r188=>some r188 else some sm)=some z∧0≤z∧z≤10*(e+2*((i:Int)+1)):=by
    by_cases h0:0<i
    ·rw[if_pos (by simp only[decide_eq_true_eq];omega)]
     have e2:w64 ((i:Int)-1)=((i-1:Nat):Int):=by rw[bE (by omega) (by omega)];omega
     have h1:i-1<acc.length:=by omega
     have hgl:acc.getLast? = some acc[i-1]:=by rw[List.getLast?_eq_getElem?,ha,List.getElem?_eq_getElem h1]
     have hlb:=hlast _ hgl
     rw[e2,ij (List.getElem?_eq_getElem h1),Option.bind_some]
     generalize acc[i-1]=y at hlb
     rw[Bu [sm,y] (fun x hx=>by simp at hx;rcases hx with rfl | rfl<;>omega) (by simp) (by simp;omega)]
     exact⟨_,rfl,by simp;omega,by simp;omega⟩
    ·rw[if_neg (by simp only[decide_eq_true_eq];omega)];exact⟨_,rfl,by omega,by omega⟩
   obtain⟨z,hz,hz0,hz1⟩:=hs2
   rw[hz,Option.bind_some,nL (by simp;omega),Option.bind_some,fN (by omega)]
   refine ih (k-1) _ (by omega) ⟨rfl,i+1,rfl,by omega,by simp[ha],heb.1,fun y hy=>?_,by simp only;omega,fun y hy=>by simp at hy;subst hy;exact⟨hz0,by push_cast;exact hz1⟩⟩
   have:=List.pairwise_iff_getElem.1 hc.ep i (i+1) h (List.getElem?_eq_some_iff.1 hy).1 (by omega)
   rw[(List.getElem?_eq_some_iff.1 hx).2,(List.getElem?_eq_some_iff.1 hy).2]at this
   exact this
 ·rw[if_neg (by simp only[decide_eq_true_eq];omega)]
  unfold eB
  refine⟨_,rfl,by simp only;omega,fun h3=>?_,fin⟩
  have:=hc.el
  intro e0;subst e0;simp at ha;omega
theorem Bo(l:List Int)(hl:l.length<100000)(hN:l.length+10<N):∃r,aj (fun rec3 x=>eC N l rec3 x.1 x.2.1 x.2.2.1 x.2.2.2) N ((l.length:Int),0,yZ,[])=some r:=by
 refine(fun⟨r,h1,_⟩=>⟨r,h1⟩) (zh (B:=fun rec3 x=>eC N l rec3 x.1 x.2.1 x.2.2.1 x.2.2.2)
  (fun k (x:Int×Int×FramePlay×List (List Int))=>x.1=l.length∧∃i:Nat,x.2.1=i∧i+k=l.length∧Ok x.2.2.1∧(∀y∈x.2.2.2,y.length≤i)∧((x.2.2.2.length:Int)=x.2.2.1.fAt.fFrame∨(x.2.2.2.length:Int)=x.2.2.1.fAt.fFrame+1)) (fun _=>True) ?_ N l.length ((l.length:Int),0,yZ,[]) ⟨rfl,0,rfl,by omega,An,by simp,.inl rfl⟩ (by omega))
 rintro k ⟨v,w,p,g⟩ rec ⟨hv,i,hw,hk,hp,hb,hlen⟩ ih
 simp only at hv hw hp hb hlen
 subst hv hw
 have hbd:=hp.bds
 unfold eC
 by_cases h:i<l.length
 ·rw[if_pos (by simp only[decide_eq_true_eq];omega)]
  have hx:=List.getElem?_eq_getElem h
  generalize l[i]=b at hx
  simp only[ij hx,Option.bind_some]
  rcases zL (N:=N) hp b with⟨e1,e2⟩ | ⟨e1,q,n,w,e2,e3,hq,hgo,hnb⟩
  ·rw[e1];exact⟨_,rfl,trivial⟩
  ·rw[e1,Option.bind_some]
   simp only[Bool.not_true,Bool.false_eq_true,if_false]
   rw[e3,Option.bind_some]
   simp only
   have hg:∃g',(if decide (p.fAt.fFrame=(g.length:Int))then Option.bind (app N g [[]]) fun l218=>some l218 else some g)=some g'∧(g'.length:Int)=p.fAt.fFrame+1∧∀y∈g',y.length≤i:=by
    by_cases he:p.fAt.fFrame=(g.length:Int)
    ·rw[if_pos (by simp only[decide_eq_true_eq];exact he),nL (by simp;omega)]
     refine⟨_,rfl,by simp;omega,fun y hy=>?_⟩
     rcases List.mem_append.1 hy with hy | hy
     ·exact hb y hy
     ·simp at hy;subst hy;simp
    ·rw[if_neg (by simp only[decide_eq_true_eq];exact he)]
     exact⟨g,rfl,by omega,hb⟩
   obtain⟨g',hg',hgl,hgb⟩:=hg
   rw[hg',Option.bind_some]
   have hlt:p.fAt.fFrame.toNat<g'.length:=by omega
   have hx2:=List.getElem?_eq_getElem hlt
   have hyl:=hgb _ (List.getElem_mem hlt)
   generalize g'[p.fAt.fFrame.toNat]=y at hx2 hyl
   rw[yy (by omega) hx2,Option.bind_some,nL (by simp;omega),Option.bind_some,fN (by omega)]
   refine ih (k-1) _ (by omega) ⟨rfl,i+1,rfl,by omega,hq,fun z hz=>?_,?_⟩
   ·rcases List.mem_or_eq_of_mem_set hz with hz | rfl
    ·have:=hgb z hz;omega
    ·simp;omega
   ·simp only[List.length_set]
    rcases hgo with⟨g1,_⟩ | ⟨g1,_⟩<;>omega
 ·rw[if_neg (by simp only[decide_eq_true_eq];omega)];exact⟨_,rfl,trivial⟩
def fit (l:List Int):Bool:=decide (l.length≤40)&&decide (zu yZ l=l.length)
theorem A7(l:List Int)(hl:l.length<100000)(hN:l.length+10<N):∃g e,gm N zk l=some (g,e)∧(decide (e=0)=fit l)∧g.fCounts.length≤3∧(g.fDone=true→g.fCounts≠[])∧∀c,g.fCounts.getLast? = some c→0≤c∧c≤300:=by
 unfold gm
 rw[BA l hl (by omega),Option.bind_some]
 have hgl:=AM l yZ
 by_cases h1:40<l.length
 ·rw[if_pos h1]
  exact⟨_,_,rfl,by simp[fit];omega,by simp,by simp,by simp⟩
 ·rw[if_neg h1]
  by_cases h2:zu yZ l<l.length
  ·rw[if_pos h2]
   exact⟨_,_,rfl,by simp[fit];omega,by simp,by simp,by simp⟩
  ·rw[if_neg h2]
   simp only[decide_true,Bool.not_true,Bool.false_eq_true,if_false]
   obtain⟨r,hr,hr0,hr3,hrb⟩:=Bn l hl hN
   obtain⟨g,hg⟩:=Bo l hl hN
   rw[hr,Option.bind_some]
   unfold cS
   rw[Option.bind_some]
   dsimp only
   rw[Am,Option.bind_some,hg,Option.bind_some,BB l hl (by omega),Option.bind_some]
   have hb:=(AC l An).bds
   unfold cT
   rw[Option.bind_some,hb.2.2.2.2.2.2]
   have hfit:decide ((0:Int)=0)=fit l:=by
    simp[fit];omega
   by_cases hd:(behind yZ l).fAt.fFrame=zk.fFrames
   ·simp only[hd,decide_true,Bool.not_true,Bool.false_eq_true,if_false,Option.bind_some]
    exact⟨_,_,rfl,hfit,hr0,fun _=>hr3 hd,hrb⟩
   ·simp only[hd,decide_false,Bool.not_false,if_true,Option.bind_some]
    exact⟨_,_,rfl,hfit,hr0,by simp,hrb⟩
end Go.Proofs.YthbomkehodjepaaGreatDoor
namespace Go.Proofs.YthbomkehodjepaaGreatDoor
open Go.Kp
variable {N:Nat}
/-! What each word does with its numbers, in plain words. -/
theorem zi(n a b:Int):cJ N n a b=some (decide (a≤n)&&decide (n≤b)):=by
 unfold cJ
 by_cases h:a≤n<;>simp[h]
theorem yl(b:Bool)(e:Int):b7 N b e=some (if b then .inr ()else .inl (DeskRefusal.mk e)):=by cases b<;>rfl
theorem yS(l:List Int)(h:l.length≤N):cG N l=some l:=by
 unfold cG gc;rw[nL (by simpa using h)];rfl
theorem zX(l:List (List Int))(h:l.length≤N):gd N l=some l:=by
 unfold gd ff;rw[nL (by simpa using h)];rfl
theorem Ao(l:List DeskLane)(h:l.length≤N):fh N l=some l:=by
 unfold fh eA;rw[nL (by simpa using h)];rfl
theorem Aa(l:List RateSheet)(h:l.length≤N):gD N l=some l:=by
 unfold gD dR;rw[nL (by simpa using h)];rfl
theorem zM(l:List LadderResult)(h:l.length≤N):yk N l=some l:=by
 unfold yk yp;rw[nL (by simpa using h)];rfl
theorem AN(l:List Int)(x:Int)(h:l.length<N):jw N l x=some (l++[x]):=by
 unfold jw;rw[yS l (by omega),Option.bind_some,nL (by simp;omega)];rfl
theorem BR(l:List (List Int))(x:List Int)(h:l.length<N):lH N l x=some (l++[x]):=by
 unfold lH;rw[zX l (by omega),Option.bind_some,nL (by simp;omega)];rfl
theorem BC(l:List RateSheet)(x:RateSheet)(h:l.length<N):ze N l x=some (l++[x]):=by
 unfold ze;rw[Aa l (by omega),Option.bind_some,nL (by simp;omega)];rfl
theorem Bp(l:List LadderResult)(x:LadderResult)(h:l.length<N):yY N l x=some (l++[x]):=by
 unfold yY;rw[zM l (by omega),Option.bind_some,nL (by simp;omega)];rfl
structure SI(i:Nat)(s:DeskState):Prop where
 la:s.fLanes.length=4
 lb:∀x∈s.fLanes,-1≤x.fBowler∧x.fBowler<s.fBowlers.length∧x.fBalls.length≤i
 bl:s.fBowlers.length≤8
 kl:s.fKept.length=s.fBowlers.length
 kb:∀x∈s.fKept,x.length≤i
 sl:s.fSheets.length≤40
 wl:s.fWithdrawn.length≤i
 rl:s.fResults.length≤i
 rg:∀r∈s.fResults,r.fGames.length=1
def emb (s:DeskState):Int⊕DeskState→(DeskRefusal×DeskWork)⊕DeskWork
 | .inl e=>.inl (DeskRefusal.mk e,DeskWork.mk s)
 | .inr t=>.inr (DeskWork.mk t)
def lane (s:DeskState)(n:Int):Option DeskLane:=if 0≤n then s.fLanes[n.toNat]? else none
def put (s:DeskState)(n:Int)(x:DeskLane):DeskState:={s with fLanes:=s.fLanes.set n.toNat x}
def zN (s:DeskState)(a:Int):Int⊕DeskState :=
 if ¬(0≤a∧a≤300)then .inl 2 else if ¬s.fBowlers.length<8 then .inl 3 else if s.fResults.length≠0 then .inl 8
 else .inr {s with fBowlers:=s.fBowlers++[a],fKept:=s.fKept++[[]]}
def known(s:DeskState)(b:Int):Prop:=0≤b∧b<s.fBowlers.length
instance (s:DeskState) (b:Int):Decidable (known s b):=inferInstanceAs (Decidable (_∧_))
def AO (s:DeskState)(n b:Int):Int⊕DeskState:=match lane s n with
 | none=>.inl 7
 | some x=>if ¬known s b then .inl 7 else if x.fBowler=-1∧¬(∃y∈s.fLanes,y.fBowler=b)then .inr (put s n (DeskLane.mk b []))else .inl 6
def AP (s:DeskState)(n p:Int):Int⊕DeskState:=match lane s n with
 | none=>.inl 7
 | some x=>if x.fBowler=-1 then .inl 8 else if fit (x.fBalls++[p])then .inr (put s n (DeskLane.mk x.fBowler (x.fBalls++[p])))else .inl 10
def AQ (s:DeskState)(n:Int):Int⊕DeskState:=match lane s n with
 | none=>.inl 7
 | some x=>if x.fBowler=-1 then .inl 8 else if x.fBalls=[] then .inl 8 else .inr (put s n (DeskLane.mk x.fBowler x.fBalls.dropLast))
theorem Bv{s:DeskState}(h:s.fLanes.length=4)(n:Int):ge N n (DeskWork.mk s)=some (match lane s n with | none=>.inl (DeskRefusal.mk 7) | some x=>.inr x):=by
 unfold ge lane
 simp only[h,zi,Option.bind_some,yl]
 have e:w64 (((4:Nat):Int)-1)=3:=by decide
 rw[e]
 by_cases h0:0≤n
 ·by_cases h3:n≤3
  ·simp only[h0,h3,decide_true,Bool.and_true,if_true]
   have hlt:n.toNat<s.fLanes.length:=by omega
   rw[yy h0 (List.getElem?_eq_getElem hlt),List.getElem?_eq_getElem hlt]
   rfl
  ·have:s.fLanes.length≤n.toNat:=by omega
   simp[h0,h3,List.getElem?_eq_none this]
 ·simp[h0]
theorem AR{s:DeskState}(h:s.fLanes.length=4)(n:Int):gf N n (DeskWork.mk s)=some (match lane s n with | none=>.inl (DeskRefusal.mk 7) | some x=>if x.fBowler=-1 then .inl (DeskRefusal.mk 8)else .inr x):=by
 unfold gf
 rw[Bv h]
 cases lane s n with
 | none=>rfl
 | some x =>
  simp only[Option.bind_some,yl]
  by_cases hb:x.fBowler=-1<;>simp[hb]
theorem A8{s:DeskState}(h:s.fBowlers.length≤8)(b:Int):fg N b (DeskWork.mk s)=some (decide (known s b)):=by
 unfold fg
 dsimp only
 rw[bE (by omega) (by omega),zi,Option.bind_some]
 congr 1
 unfold known
 by_cases h0:0≤b
 ·by_cases h1:b<s.fBowlers.length
  ·simp[h0,h1];omega
  ·simp[h0,h1];omega
 ·simp[h0]
theorem zr{s:DeskState}{n:Int}{x:DeskLane}(h:lane s n=some x):0≤n∧n.toNat<s.fLanes.length∧s.fLanes[n.toNat]? = some x:=by
 unfold lane at h
 split at h
 ·rename_i h0;exact⟨h0,(List.getElem?_eq_some_iff.1 h).1,h⟩
 ·cases h
theorem put_eq{s:DeskState}(h:s.fLanes.length=4)(hN:100≤N){n:Int}{x:DeskLane}(hx:lane s n=some x)(y:DeskLane):gU N n y (DeskWork.mk s)=some (DeskWork.mk (put s n y)):=by
 obtain⟨h0,_,hx⟩:=zr hx
 unfold gU
 rw[Ao _ (by simp only[h];omega),Option.bind_some,yy h0 hx,Option.bind_some]
 rfl
theorem BD{i:Nat}{s:DeskState}(h:SI i s)(hi:i≤60)(hN:20000≤N){l:List Int}{a:Int}(hl:l[0]? = some a):gB N l (DeskWork.mk s)=some (emb s (zN s a)):=by
 unfold gB zN
 have e0:idx l 0=some a:=ij (i:=0) hl
 rw[e0]
 simp only[Option.bind_some,zi,yl]
 have hb:=h.bl
 have hk:=h.kl
 by_cases h1:0≤a∧a≤300
 ·simp only[h1.1,h1.2,decide_true,Bool.and_self,if_true,and_self,not_true_eq_false,if_false]
  by_cases h2:s.fBowlers.length<8
  ·rw[decide_eq_true (by omega:((s.fBowlers.length:Int)<8))]
   simp only[h2,if_true,not_true_eq_false,if_false]
   by_cases h3:s.fResults.length=0
   ·rw[decide_eq_true (by omega:((s.fResults.length:Int)=0))]
    simp only[h3,if_true,ne_eq,not_true_eq_false,if_false]
    rw[AN _ _ (by omega),Option.bind_some,BR _ _ (by omega),Option.bind_some]
    rfl
   ·rw[decide_eq_false (by omega:¬((s.fResults.length:Int)=0))]
    simp[h3,emb]
  ·rw[decide_eq_false (by omega:¬((s.fBowlers.length:Int)<8))]
   simp[h2,emb]
 ·rw[if_pos h1]
  have:(decide (0≤a)&&decide (a≤300))=false:=by
   rw[Bool.eq_false_iff];intro e;simp only[Bool.and_eq_true,decide_eq_true_eq]at e;exact h1 e
  rw[this]
  rfl
theorem B1{i:Nat}{s:DeskState}(h:SI i s)(hi:i≤60)(hN:20000≤N){l:List Int}{a b:Int}(hl:l[0]? = some a)(hl1:l[1]? = some b):iO N l (DeskWork.mk s)=some (emb s (AO s a b)):=by
 unfold iO dP AO
 have e0:idx l 0=some a:=ij (i:=0) hl
 have e1:idx l 1=some b:=ij (i:=1) hl1
 rw[e0,Option.bind_some,Bv h.la,Option.bind_some]
 cases hx:lane s a with
 | none=>rfl
 | some x =>
  simp only[e1,e0,Option.bind_some,A8 h.bl,yl]
  by_cases hk:known s b
  ·simp only[hk,decide_true,if_true,not_true_eq_false,if_false]
   by_cases hb:x.fBowler=-1
   ·have hcf:dD N s.fLanes l=some (s.fLanes.any fun y=>decide (y.fBowler=b)) :=
     nM (N:=N) s.fLanes (fun y=>gZ N y l) (fun y=>decide (y.fBowler=b)) (fun y _=>by unfold gZ;rw[e1];rfl) (by rw[h.la];omega) (by rw[h.la];omega)
    simp only[hb,decide_true,if_true,hcf,Option.bind_some,true_and]
    by_cases ha:∃y∈s.fLanes,y.fBowler=b
    ·have:(s.fLanes.any fun y=>decide (y.fBowler=b))=true:=by simpa using ha
     simp only[this,Bool.not_true,Bool.false_eq_true,if_false,ha,not_true_eq_false]
     rfl
    ·have:(s.fLanes.any fun y=>decide (y.fBowler=b))=false:=by simpa using ha
     simp only[this,Bool.not_false,if_true,ha,not_false_eq_true]
     rw[put_eq h.la (by omega) hx]
     rfl
   ·simp only[hb,decide_false,Bool.false_eq_true,if_false,false_and]
    rfl
  ·simp only[hk,decide_false,Bool.false_eq_true,if_false,not_false_eq_true,if_true]
   rfl
theorem B2{i:Nat}{s:DeskState}(h:SI i s)(hi:i≤60)(hN:20000≤N){l:List Int}{a b:Int}(hl:l[0]? = some a)(hl1:l[1]? = some b):iQ N l (DeskWork.mk s)=some (emb s (AP s a b)):=by
 unfold iQ AP
 have e0:idx l 0=some a:=ij (i:=0) hl
 have e1:idx l 1=some b:=ij (i:=1) hl1
 rw[e0,Option.bind_some,AR h.la,Option.bind_some]
 cases hx:lane s a with
 | none=>rfl
 | some x =>
  by_cases hb:x.fBowler=-1
  ·simp only[hb,if_true];rfl
  ·have hlb:=h.lb x (List.mem_of_getElem? (zr hx).2.2)
   simp only[hb,if_false,e1,e0,Option.bind_some]
   rw[AN _ _ (by omega),Option.bind_some]
   obtain⟨g,e,hr,hf,_,_⟩:=A7 (N:=N) (x.fBalls++[b]) (by simp;omega) (by simp;omega)
   rw[show iP N=some zk from rfl,Option.bind_some,hr,Option.bind_some]
   simp only[Option.bind_some,yl,hf]
   cases fit (x.fBalls++[b])with
   | false=>rfl
   | true =>
    simp only[if_true]
    rw[put_eq h.la (by omega) hx]
    rfl
theorem B3{i:Nat}{s:DeskState}(h:SI i s)(hi:i≤60)(hN:20000≤N){l:List Int}{a:Int}(hl:l[0]? = some a):yO N l (DeskWork.mk s)=some (emb s (AQ s a)):=by
 unfold yO AQ
 have e0:idx l 0=some a:=ij (i:=0) hl
 rw[e0,Option.bind_some,AR h.la,Option.bind_some]
 cases hx:lane s a with
 | none=>rfl
 | some x =>
  by_cases hb:x.fBowler=-1
  ·simp only[hb,if_true];rfl
  ·have hlb:=h.lb x (List.mem_of_getElem? (zr hx).2.2)
   simp only[hb,if_false,yl,Option.bind_some]
   by_cases hn:x.fBalls=[]
   ·simp[hn,emb]
   ·have hpos:0<x.fBalls.length:=List.length_pos_iff.2 hn
    rw[decide_eq_true (by omega:(0:Int)<(x.fBalls.length:Int))]
    simp only[if_true,hn,if_false]
    have e1:w64 ((x.fBalls.length:Int)-1)=((x.fBalls.length-1:Nat):Int):=by rw[bE (by omega) (by omega)];omega
    rw[e1,rX (by omega) (by omega) (by omega),Option.bind_some]
    have e2:(x.fBalls.take ((x.fBalls.length-1:Nat):Int).toNat).drop (0:Int).toNat=x.fBalls.dropLast:=by rw[List.dropLast_eq_take];simp
    rw[e2,yS _ (by simp;omega),Option.bind_some,put_eq h.la (by omega) hx]
    rfl
end Go.Proofs.YthbomkehodjepaaGreatDoor
namespace Go.Proofs.YthbomkehodjepaaGreatDoor
open Go.Kp
variable {N:Nat}
def fin (N:Nat)(l:List Int):Option Int:=match gm N zk l with
 | some (g,_)=>if g.fDone then g.fCounts.getLast? else none
 | none=>none
def Af (N:Nat)(s:DeskState)(n:Int):Int⊕DeskState:=match lane s n with
 | none=>.inl 7
 | some x=>if x.fBowler=-1 then .inl 8 else match fin N x.fBalls,s.fKept[x.fBowler.toNat]? with
  | some c,some k=>.inr (put {s with fKept:=s.fKept.set x.fBowler.toNat (k++[c])} n (DeskLane.mk (-1) []))
  | _,_=>.inl 8
theorem BS{i:Nat}{s:DeskState}(h:SI i s)(hi:i≤60)(hN:20000≤N){l:List Int}{a:Int}(hl:l[0]? = some a):g8 N l (DeskWork.mk s)=some (emb s (Af N s a)):=by
 unfold g8 Af
 have e0:idx l 0=some a:=ij (i:=0) hl
 rw[e0,Option.bind_some,AR h.la,Option.bind_some]
 cases hx:lane s a with
 | none=>rfl
 | some x =>
  by_cases hb:x.fBowler=-1
  ·simp only[hb,if_true];rfl
  ·have hlb:=h.lb x (List.mem_of_getElem? (zr hx).2.2)
   simp only[hb,if_false]
   obtain⟨g,e,hr,hf,hln,hd,_⟩:=A7 (N:=N) x.fBalls (by omega) (by omega)
   unfold fin
   rw[show iP N=some zk from rfl,Option.bind_some,hr,Option.bind_some]
   simp only[Option.bind_some,yl]
   cases hdn:g.fDone with
   | false=>rfl
   | true =>
    have hne:=hd hdn
    have hpos:0<g.fCounts.length:=List.length_pos_iff.2 hne
    simp only[if_true]
    have hk:=h.kl
    have hbl:=h.bl
    have hkl:x.fBowler.toNat<s.fKept.length:=by omega
    have hkx:=List.getElem?_eq_getElem hkl
    have hkb:=h.kb _ (List.getElem_mem hkl)
    generalize s.fKept[x.fBowler.toNat]=k at hkx hkb
    have el:w64 ((g.fCounts.length:Int)-1)=((g.fCounts.length-1:Nat):Int):=by rw[bE (by omega) (by omega)];omega
    have hlast:g.fCounts[g.fCounts.length-1]? = g.fCounts.getLast?:=by rw[List.getLast?_eq_getElem?]
    rw[hkx,zX _ (by omega),Option.bind_some,yy (by omega) hkx,Option.bind_some,el]
    cases hgl:g.fCounts.getLast? with
    | none=>rw[List.getLast?_eq_none_iff]at hgl;exact absurd hgl hne
    | some c =>
     rw[ij (hlast.trans hgl),Option.bind_some,AN _ _ (by omega),Option.bind_some]
     unfold iR
     obtain⟨h0,_,hx2⟩:=zr hx
     rw[Ao _ (by simp only[h.la];omega),Option.bind_some,yy h0 hx2,Option.bind_some,Option.bind_some]
     rfl
end Go.Proofs.YthbomkehodjepaaGreatDoor
namespace Go.Proofs.YthbomkehodjepaaGreatDoor
open Go.Kp
variable {N:Nat}
def Ag (s:DeskState)(w b:Int):Int⊕DeskState :=
 if ¬(1≤w∧w≤30)then .inl 2 else if ¬known s b then .inl 7 else match s.fKept[b.toNat]? with
 | none=>.inl 7
 | some k=>if k.length<3 then .inl 8 else if ¬s.fSheets.length<40 then .inl 3 else
  .inr {s with fKept:=s.fKept.set b.toNat (k.take (k.length-3)),fSheets:=s.fSheets++[RateSheet.mk (s.fSheets.length+1) b w (Ar3.mk (k.getD (k.length-3) 0) (k.getD (k.length-2) 0) (k.getD (k.length-1) 0))]}
theorem BT{i:Nat}{s:DeskState}(h:SI i s)(hi:i≤60)(hN:20000≤N){l:List Int}{a b:Int}(hl:l[0]? = some a)(hl1:l[1]? = some b):yF N l (DeskWork.mk s)=some (emb s (Ag s a b)):=by
 unfold yF Ag
 have e0:idx l 0=some a:=ij (i:=0) hl
 have e1:idx l 1=some b:=ij (i:=1) hl1
 rw[e0,Option.bind_some,zi,Option.bind_some,yl,Option.bind_some]
 by_cases hw:1≤a∧a≤30
 ·simp only[hw.1,hw.2,decide_true,Bool.and_self,if_true,and_self,not_true_eq_false,if_false]
  rw[e1,Option.bind_some,A8 h.bl,Option.bind_some,yl,Option.bind_some]
  by_cases hk:known s b
  ·simp only[hk,decide_true,if_true,not_true_eq_false,if_false]
   have hb:=h.bl
   have hkl:=h.kl
   have hlt:b.toNat<s.fKept.length:=by unfold known at hk;omega
   have hkx:=List.getElem?_eq_getElem hlt
   have hkb:=h.kb _ (List.getElem_mem hlt)
   generalize s.fKept[b.toNat]=k at hkx hkb
   rw[hkx,yy hk.1 hkx,Option.bind_some,yl,Option.bind_some]
   by_cases h3:k.length<3
   ·rw[decide_eq_false (by omega:¬((3:Int)≤(k.length:Int)))]
    simp[h3,emb]
   ·rw[decide_eq_true (by omega:((3:Int)≤(k.length:Int)))]
    simp only[if_true,h3,if_false,yl,Option.bind_some]
    have hsl:=h.sl
    by_cases h40:s.fSheets.length<40
    ·rw[decide_eq_true (by omega:((s.fSheets.length:Int)<40))]
     simp only[h40,if_true,not_true_eq_false,if_false]
     have e3:w64 ((k.length:Int)-3)=((k.length-3:Nat):Int):=by rw[bE (by omega) (by omega)];omega
     have e4:w64 ((s.fSheets.length:Int)+1)=(s.fSheets.length:Int)+1:=bE (by omega) (by omega)
     rw[e3,e4,rX (by omega) (by omega) (by omega),Option.bind_some]
     have hx:∀j,j<3→idx (((k.take (k.length:Int).toNat).drop ((k.length-3:Nat):Int).toNat)) (j:Nat)=some (k.getD (k.length-3+j) 0):=fun j hj=>by
      refine ij ?_
      rw[List.getElem?_drop]
      simp only[Int.toNat_natCast]
      rw[List.take_length,List.getD_eq_getElem?_getD,List.getElem?_eq_getElem (by omega)]
      simp
     have x0:=hx 0 (by omega)
     have x1:=hx 1 (by omega)
     have x2:=hx 2 (by omega)
     simp only[Int.natCast_zero,Nat.add_zero]at x0
     have c1:(((1:Nat):Int))=1:=rfl
     have c2:(((2:Nat):Int))=2:=rfl
     rw[c1]at x1
     rw[c2]at x2
     rw[x0,Option.bind_some,x1,Option.bind_some,x2,Option.bind_some,Option.bind_some]
     rw[zX _ (by omega),Option.bind_some,rX (by omega) (by omega) (by omega),Option.bind_some,yS _ (by simp;omega),Option.bind_some,yy hk.1 hkx,Option.bind_some,BC _ _ (by omega),Option.bind_some]
     have f1:k.length-3+1=k.length-2:=by omega
     have f2:k.length-3+2=k.length-1:=by omega
     rw[f1,f2]
     simp[emb]
    ·rw[decide_eq_false (by omega:¬((s.fSheets.length:Int)<40))]
     simp[h40,emb]
  ·simp only[hk,decide_false,Bool.false_eq_true,if_false,not_false_eq_true,if_true]
   rfl
 ·rw[if_pos hw]
  have:(decide (1≤a)&&decide (a≤30))=false:=by
   rw[Bool.eq_false_iff];intro e;simp only[Bool.and_eq_true,decide_eq_true_eq]at e;exact hw e
  rw[this]
  rfl
theorem half{a b:Nat}(h1:a<b)(h2:b<100000):w64 (Bs .u64 (Go.IntKind.wrap .u64 (w64 ((a:Int)+(b:Int)))) 1)=(((a+b) / 2:Nat):Int):=by
 rw[bE (n:=(a:Int)+b) (by omega) (by omega)]
 have e:Go.IntKind.wrap .u64 ((a:Int)+b)=(a:Int)+b:=by
  unfold Go.IntKind.wrap
  simp only[Go.IntKind.bits,Go.IntKind.signed,Bool.false_and,Bool.false_eq_true,if_false]
  omega
 rw[e]
 unfold Bs
 have e2:Int.fdiv ((a:Int)+b) (2 ^ min (1:Int).toNat Go.IntKind.u64.bits)=(((a+b) / 2:Nat):Int):=by
  have:(2:Int) ^ min (1:Int).toNat Go.IntKind.u64.bits=2:=by rfl
  rw[this,Int.fdiv_eq_ediv_of_nonneg _ (by omega)]
  omega
 rw[e2,bE (by omega) (by omega)]
theorem Cj(l:List Int)(t:Int)(hl:l.length<1000)(hN:20000≤N):∃i:Nat,i≤l.length∧xX N l t=some ((i:Int),decide (l[i]? = some t))∧(l.Pairwise (·<·)→(∀k x,l[k]? = some x→k<i→x<t)∧(∀k x,l[k]? = some x→i≤k→t≤x)):=by
 have key:=zh (B:=fun rec3 x=>ls N l t rec3 x.1 x.2.1 x.2.2) (fun k (x:Int×Int×Int)=>x.1=l.length∧∃a b:Nat,x.2.1=a∧x.2.2=b∧a≤b∧b≤l.length∧k=b-a∧(l.Pairwise (·<·)→(∀k x,l[k]? = some x→k<a→x<t)∧(∀k x,l[k]? = some x→b≤k→t≤x)))
  (fun r=>∃i:Nat,r=((l.length:Int),(i:Int))∧i≤l.length∧(l.Pairwise (·<·)→(∀k x,l[k]? = some x→k<i→x<t)∧(∀k x,l[k]? = some x→i≤k→t≤x)))
  (fun k x rec hI ih=>by
   obtain⟨n,v,w⟩:=x
   obtain⟨hn,a,b,hv,hw,hab,hbl,hk,hs⟩:=hI
   simp only at hn hv hw
   subst hn hv hw
   unfold ls yi
   by_cases h:a<b
   ·rw[if_pos (by simp only[decide_eq_true_eq];omega)]
    simp only[half h (by omega)]
    have hm:(a+b) / 2<l.length:=by omega
    have hx:=List.getElem?_eq_getElem hm
    generalize l[(a+b) / 2]=y at hx
    simp only[ij hx,Option.bind_some]
    have hc:zK N y t=some (decide (y<t)):=by
     unfold zK zw
     simp
    rw[hc,Option.bind_some]
    by_cases hyt:y<t
    ·rw[if_pos (by simp only[decide_eq_true_eq];exact hyt)]
     refine ih (b-((a+b) / 2+1)) _ (by omega) ⟨rfl,(a+b) / 2+1,b,by rw[fN (by omega)],rfl,by omega,hbl,rfl,fun hp=>⟨fun k x hkx hlt=>?_,(hs hp).2⟩⟩
     by_cases he:k=(a+b) / 2
     ·subst he;rw[hx]at hkx;cases hkx;exact hyt
     ·have hlt2:k<(a+b) / 2:=by omega
      have:=List.pairwise_iff_getElem.1 hp k ((a+b) / 2) (by omega) hm hlt2
      rw[(List.getElem?_eq_some_iff.1 hkx).2,(List.getElem?_eq_some_iff.1 hx).2]at this
      omega
    ·rw[if_neg (by simp only[decide_eq_true_eq];exact hyt)]
     refine ih ((a+b) / 2-a) _ (by omega) ⟨rfl,a,(a+b) / 2,rfl,rfl,by omega,by omega,rfl,fun hp=>⟨(hs hp).1,fun k x hkx hlt=>?_⟩⟩
     by_cases he:k=(a+b) / 2
     ·subst he;rw[hx]at hkx;cases hkx;omega
     ·have:=List.pairwise_iff_getElem.1 hp ((a+b) / 2) k hm (List.getElem?_eq_some_iff.1 hkx).1 (by omega)
      rw[(List.getElem?_eq_some_iff.1 hkx).2,(List.getElem?_eq_some_iff.1 hx).2]at this
      omega
   ·rw[if_neg (by simp only[decide_eq_true_eq];omega)]
    have:a=b:=by omega
    subst this
    exact⟨_,rfl,a,rfl,hbl,hs⟩)
  N l.length ((l.length:Int),0,(l.length:Int)) ⟨rfl,0,l.length,rfl,rfl,by omega,by omega,rfl,fun _=>⟨fun k x _ h=>by omega,fun k x h1 h2=>by have:=(List.getElem?_eq_some_iff.1 h1).1;omega⟩⟩ (by omega)
 obtain⟨r,hr,i,rfl,hi,hs⟩:=key
 refine⟨i,hi,?_,hs⟩
 unfold xX
 rw[hr,Option.bind_some]
 dsimp only
 by_cases h:i<l.length
 ·rw[if_pos (by simp only[decide_eq_true_eq];omega)]
  have hx:=List.getElem?_eq_getElem h
  generalize l[i]=y at hx
  rw[ij hx,hx]
  unfold yX
  by_cases he:y=t<;>simp[he]
 ·rw[if_neg (by simp only[decide_eq_true_eq];omega),List.getElem?_eq_none (by omega)]
  simp
def zO (N:Nat)(s:DeskState)(n:Int):Int⊕DeskState :=
 if ¬(1≤n∧n≤s.fSheets.length)then .inl 7 else match xX N s.fWithdrawn n with
 | some (i,false)=>.inr {s with fWithdrawn:=s.fWithdrawn.take i.toNat++[n]++s.fWithdrawn.drop i.toNat}
 | _=>.inl 6
theorem BE{i:Nat}{s:DeskState}(h:SI i s)(hi:i≤60)(hN:20000≤N){l:List Int}{a:Int}(hl:l[0]? = some a):yz N l (DeskWork.mk s)=some (emb s (zO N s a)):=by
 unfold yz zO
 have e0:idx l 0=some a:=ij (i:=0) hl
 rw[e0,Option.bind_some,zi,Option.bind_some,yl,Option.bind_some]
 by_cases hw:1≤a∧a≤s.fSheets.length
 ·simp only[hw.1,hw.2,decide_true,Bool.and_self,if_true,and_self,not_true_eq_false,if_false]
  have hwl:=h.wl
  obtain⟨j,hj,hb,_⟩:=Cj (N:=N) s.fWithdrawn a (by omega) hN
  rw[hb,Option.bind_some]
  simp only[yl,Option.bind_some]
  cases decide (s.fWithdrawn[j]? = some a)with
  | true=>rfl
  | false =>
   simp only[Bool.not_false,if_true]
   rw[yS _ (by omega),Option.bind_some]
   have:BJ N (j:Int) s.fWithdrawn [a]=some (s.fWithdrawn.take (j:Int).toNat++[a]++s.fWithdrawn.drop (j:Int).toNat):=by
    unfold BJ
    rw[if_pos ⟨by omega,by omega,by simp,by simp;omega⟩]
   rw[this,Option.bind_some]
   rfl
 ·rw[if_pos hw]
  have:(decide (1≤a)&&decide (a≤(s.fSheets.length:Int)))=false:=by
   rw[Bool.eq_false_iff];intro e;simp only[Bool.and_eq_true,decide_eq_true_eq]at e;exact hw e
  rw[this]
  rfl
end Go.Proofs.YthbomkehodjepaaGreatDoor
namespace Go.Proofs.YthbomkehodjepaaGreatDoor
open Go.Kp
variable {N:Nat}
theorem A9{α:Type}(s:List α)(p:α→Option Bool)(q:α→Bool)(hp:∀x∈s,p x=some (q x))(hN:s.length<N)(hs:s.length<4611686018427387904) :
  aj (fun(rec:Int×Int→Option Int) (x:Int×Int)=>if decide (x.2<x.1)then Option.bind (idx s x.2) fun y=>Option.bind (p y) fun r=>if r then some x.2 else rec (x.1,w64 (x.2+1))else some (-1)) N ((s.length:Int),0)=some (match s.findIdx? q with | some i=>(i:Int) | none=>-1):=by
 have key:=o6 (N:=N) (B:=fun(rec:Int×Int→Option Int) (x:Int×Int)=>if decide (x.2<x.1)then Option.bind (idx s x.2) fun y=>Option.bind (p y) fun r=>if r then some x.2 else rec (x.1,w64 (x.2+1))else some (-1))
  s (fun i=>((s.length:Int),(i:Int))) (fun i r=>some (match r.findIdx? q with | some j=>((i+j:Nat):Int) | none=>-1))
  (fun rec=>by simp)
  (fun i x rec hx h=>by
   have hlt:=lP hx
   have hm:x∈s:=List.mem_of_getElem? hx
   simp only[show((i:Int)<(s.length:Int))from by omega,decide_true,if_true,ij hx,Option.bind_some,hp x hm,fN (i:=i) (by omega),h]
   rw[List.findIdx?_cons]
   cases hq:q x with
   | true=>simp
   | false =>
    simp only[Bool.false_eq_true,if_false]
    cases(s.drop (i+1)).findIdx? q with
    | none=>rfl
    | some j=>simp only[Option.map_some];rw[show i+1+j=i+(j+1)from by omega])
  hN 0 (by omega)
 simp only[Int.natCast_zero,Nat.zero_add,List.drop_zero]at key
 rw[key]
def cup (s:DeskState):LadderCup:=LadderCup.mk 1 (s.fBowlers.length:Int) 1 s.fResults
def AS (s:DeskState)(l:List LadderMatch)(n:Int):Int⊕DeskState:=match l with
 | []=>.inl 8
 | m::_=>if n=m.fFirst∨n=m.fSecond then .inr {s with fResults:=s.fResults++[LadderResult.mk m.fNumber [n] false]}else .inl 10
theorem B4{i:Nat}{s:DeskState}(h:SI i s)(hi:i≤60)(hN:20000≤N){ms:List LadderMatch}{e:Int}(hL:yh N (cup s)=some (ms,e)){l:List Int}{a:Int}(hl:l[0]? = some a):yR N l (DeskWork.mk s)=some (emb s (AS s ms a)):=by
 unfold yR yw AS
 have e0:idx l 0=some a:=ij (i:=0) hl
 have hrl:=h.rl
 rw[show jB N (DeskWork.mk s)=some (cup s)from rfl,Option.bind_some,hL,Option.bind_some]
 simp only[yl,Option.bind_some]
 cases ms with
 | nil=>rfl
 | cons m r =>
  rw[decide_eq_true (by simp:(0:Int)<((m::r).length:Int))]
  have em:idx (m::r) 0=some m:=rfl
  simp only[if_true,e0,em,Option.bind_some]
  rw[Bp _ _ (by omega)]
  by_cases h1:a=m.fFirst
  ·rw[if_pos (by simp only[decide_eq_true_eq];exact h1),if_pos (.inl h1)]
   rfl
  ·rw[if_neg (by simp only[decide_eq_true_eq];exact h1)]
   by_cases h2:a=m.fSecond
   ·rw[if_pos (show a=m.fFirst∨a=m.fSecond from .inr h2),if_pos (by simp only[decide_eq_true_eq];exact h2)]
    rfl
   ·have h3:¬(a=m.fFirst∨a=m.fSecond):=fun h=>h.elim h1 h2
    rw[if_neg h3,if_neg (by simp only[decide_eq_true_eq];exact h2)]
    rfl
def Ah (s:DeskState)(n:Int):Int⊕DeskState:=match s.fResults.findIdx? (fun r=>decide (r.fMatch=n))with
 | none=>.inl 7
 | some i=>match s.fResults[i]? with
  | none=>.inl 7
  | some r=>if r.fProtested then .inl 6 else .inr {s with fResults:=s.fResults.set i (LadderResult.mk r.fMatch r.fGames true)}
theorem BU{i:Nat}{s:DeskState}(h:SI i s)(hi:i≤60)(hN:20000≤N){l:List Int}{a:Int}(hl:l[0]? = some a):yH N l (DeskWork.mk s)=some (emb s (Ah s a)):=by
 unfold yH Ah
 have e0:idx l 0=some a:=ij (i:=0) hl
 have hrl:=h.rl
 have hi:dE N s.fResults l=some (match s.fResults.findIdx? (fun r=>decide (r.fMatch=a))with | some i=>(i:Int) | none=>-1) :=
  A9 (N:=N) s.fResults (fun y=>yB N y l) (fun r=>decide (r.fMatch=a)) (fun y _=>by unfold yB;rw[e0];rfl) (by omega) (by omega)
 rw[hi,Option.bind_some,yl,Option.bind_some]
 cases hf:s.fResults.findIdx? (fun r=>decide (r.fMatch=a))with
 | none=>rfl
 | some j =>
  have hj:j<s.fResults.length:=by
   have:=List.findIdx?_eq_some_iff_findIdx_eq.1 hf
   omega
  have hx:=List.getElem?_eq_getElem hj
  generalize s.fResults[j]=r at hx
  simp only[show(0:Int)≤(j:Int)from by omega,decide_true,if_true,ij hx,hx,Option.bind_some,yl]
  cases r.fProtested with
  | true=>rfl
  | false =>
   simp only[Bool.not_false,if_true]
   rw[zM _ (by omega),Option.bind_some,ij hx,Option.bind_some]
   rfl
/-! A line. -/
theorem AT(c:UInt8):∀l:List UInt8,se c l≠[]
 | []=>by simp[se]
 | b::l=>by
  unfold se
  split
  ·simp
  ·split<;>simp
theorem Ba(c:UInt8):∀l:List UInt8,(se c l).length≤l.length+1∧∀x∈se c l,x.length≤l.length
 | []=>by simp[se]
 | b::l=>by
  have ih:=Ba c l
  unfold se
  split
  ·refine⟨by simp only[List.length_cons];omega,fun x hx=>?_⟩
   rcases List.mem_cons.1 hx with rfl | hx
   ·simp
   ·have:=ih.2 x hx;simp only[List.length_cons];omega
  ·split
   ·rename_i h;exact absurd h (AT c l)
   ·rename_i y r h
    rw[h]at ih
    refine⟨by simp only[List.length_cons]at *;omega,fun x hx=>?_⟩
    rcases List.mem_cons.1 hx with rfl | hx
    ·have:=ih.2 y (by simp);simp only[List.length_cons];omega
    ·have:=ih.2 x (by simp[hx]);simp only[List.length_cons];omega
theorem BV{l:List UInt8}{v:Int}(h:Go.Lib.atoiAll l=.ok v):-9223372036854775808≤v∧v≤9223372036854775807:=by
 unfold Go.Lib.atoiAll at h
 split at h
 ·cases h
 ·dsimp only at h
  split at h
  ·cases h
  ·cases h
  ·split at h
   ·cases h
   ·split at h
    ·cases h
    ·injection h with h
     split at h<;>omega
def B5 (s:List UInt8):Option Int:=match Go.Lib.atoiAll s with
 | .ok v=>if w7 v=s∧((if([45]:List UInt8).isPrefixOf s then s.drop 1 else s).length≤9)then some v else none
 | _=>none
theorem number_eq(s:List UInt8)(hs:s.length≤N):Gh N s=some (match B5 s with | some v=>.inl v | none=>.inr (DeskRefusal.mk 4)):=by
 unfold Gh fe gY B5 nV
 rw[if_pos hs]
 cases ha:Go.Lib.atoiAll s with
 | ok v =>
  have hb:=BV ha
  simp only[Option.bind_some,yl]
  have e1:nU N v=some (w7 v):=by unfold nU;rw[if_pos hb]
  rw[e1,Option.bind_some]
  by_cases h1:w7 v=s
  ·simp only[h1,decide_true,if_true,true_and]
   unfold G9
   rw[Option.bind_some]
   by_cases h2:(if([45]:List UInt8).isPrefixOf s then s.drop 1 else s).length≤9
   ·have h3:((if([45]:List UInt8).isPrefixOf s=true then List.drop ([45]:List UInt8).length s else s).length:Int)≤9:=by
     have:([45]:List UInt8).length=1:=rfl
     rw[this];omega
    rw[decide_eq_true h3,if_pos h2]
    rfl
   ·have h3:¬((if([45]:List UInt8).isPrefixOf s=true then List.drop ([45]:List UInt8).length s else s).length:Int)≤9:=by
     have:([45]:List UInt8).length=1:=rfl
     rw[this];omega
    rw[decide_eq_false h3,if_neg h2]
    rfl
  ·simp only[h1,decide_false,Bool.false_eq_true,if_false,false_and]
 | range=>simp only[Option.bind_some,yl];rfl
 | _=>simp only[Option.bind_some,yl];rfl
def Ap:List (List UInt8)→Option (List Int)
 | []=>some []
 | x::r=>match B5 x with
  | none=>none
  | some v=>match Ap r with
   | none=>none
   | some l=>some (v::l)
theorem GD:∀{r:List (List UInt8)} {l:List Int},Ap r=some l→l.length=r.length
 | [],l,h=>by simp[Ap]at h;subst h;rfl
 | x::r,l,h=>by
  unfold Ap at h
  cases hn:B5 x with
  | none=>rw[hn]at h;simp at h
  | some v =>
   rw[hn]at h
   cases hr:Ap r with
   | none=>rw[hr]at h;simp at h
   | some l' =>
    rw[hr]at h
    simp at h
    subst h
    simp[GD hr]
def AD (N:Nat)(s:DeskState)(ms:List LadderMatch)(d:Int)(l:List Int):Int⊕DeskState :=
 let a:=l.getD 0 0;let b:=l.getD 1 0
 if d=0 then zN s a else if d=1 then AO s a b else if d=2 then AP s a b else if d=3 then AQ s a else if d=4 then Af N s a
 else if d=5 then Ag s a b else if d=6 then zO N s a else if d=7 then AS s ms a else Ah s a
def pick:(DeskRefusal×DeskWork)⊕DeskWork→Option ((DeskRefusal×DeskWork)⊕DeskWork)
 | .inl (a,b)=>some (.inl (a,b))
 | .inr r=>some (.inr r)
theorem Cg{i:Nat}{s:DeskState}(h:SI i s)(hi:i≤60)(hN:20000≤N){ms:List LadderMatch}{e:Int}(hL:yh N (cup s)=some (ms,e)){c:DeskAct}{l:List Int}(hd:0≤c.fDo∧c.fDo≤8)(h1:1≤l.length)(h2:c.fDo=1∨c.fDo=2∨c.fDo=5→2≤l.length) :
  fV N (DeskWork.mk s) c l=some (emb s (AD N s ms c.fDo l)):=by
 obtain⟨many,d⟩:=c
 simp only at hd h2
 have g0:l[0]? = some (l.getD 0 0):=by rw[List.getD_eq_getElem?_getD,List.getElem?_eq_getElem (by omega)];rfl
 have g1:d=1∨d=2∨d=5→l[1]? = some (l.getD 1 0):=fun hh=>by have:=h2 hh;rw[List.getD_eq_getElem?_getD,List.getElem?_eq_getElem (by omega)];rfl
 have pk:∀z:Int⊕DeskState,(match emb s z with | .inl (ra1,rb1)=>some (.inl (ra1,rb1)) | .inr r=>some (.inr r))=some (emb s z):=fun z=>by cases z<;>rfl
 have hd9:d=0∨d=1∨d=2∨d=3∨d=4∨d=5∨d=6∨d=7∨d=8:=by omega
 unfold fV
 rcases hd9 with rfl | rfl | rfl | rfl | rfl | rfl | rfl | rfl | rfl
 ·rw[BD h hi hN g0];exact pk _
 ·rw[B1 h hi hN g0 (g1 (by simp))];exact pk _
 ·rw[B2 h hi hN g0 (g1 (by simp))];exact pk _
 ·rw[B3 h hi hN g0];exact pk _
 ·rw[BS h hi hN g0];exact pk _
 ·rw[BT h hi hN g0 (g1 (by simp))];exact pk _
 ·rw[BE h hi hN g0];exact pk _
 ·rw[B4 h hi hN hL g0];exact pk _
 ·rw[BU h hi hN g0];exact pk _
end Go.Proofs.YthbomkehodjepaaGreatDoor
namespace Go.Proofs.YthbomkehodjepaaGreatDoor
open Go.Kp
variable {N:Nat}
theorem B6{k:List UInt8}{c:DeskAct}(h:mget aM9 k=some c):(0≤c.fDo∧c.fDo≤8)∧(c.fMany=1∨c.fMany=2)∧(c.fDo=1∨c.fDo=2∨c.fDo=5→c.fMany=2):=by
 unfold aM9 aM8 aM7 aM6 aM5 aM4 aM3 aM2 aM1 at h
 simp only[Az]at h
 repeat' (split at h)
 all_goals first | (injection h with h;subst h;simp) | cases h
def zJ (N:Nat)(s:DeskState)(ms:List LadderMatch)(line:List UInt8):Int⊕DeskState :=
 match mget aM9 ((se 32 line).headD [])with
 | none=>.inl 4
 | some c=>if((se 32 line).length:Int)≠c.fMany+1 then .inl 4 else match Ap (se 32 line).tail with
  | none=>.inl 4
  | some l=>AD N s ms c.fDo l
theorem BF{i:Nat}{s:DeskState}(h:SI i s)(hi:i≤60)(hN:20000≤N){ms:List LadderMatch}{e:Int}(hL:yh N (cup s)=some (ms,e)){c:DeskAct}(q:List (List UInt8))(hq:q.length≤1000)(hx:∀x∈q,x.length≤N)(hd:0≤c.fDo∧c.fDo≤8)(h1:1≤q.length)(h2:c.fDo=1∨c.fDo=2∨c.fDo=5→2≤q.length) :
  aj (fun rec3 x=>cN N (DeskWork.mk s) c q rec3 x.1 x.2.1 x.2.2) N ((q.length:Int),0,[])=some (emb s (match Ap q with | none=>.inl 4 | some l=>AD N s ms c.fDo l)):=by
 have key:=lO (N:=N) (B:=fun rec3 x=>cN N (DeskWork.mk s) c q rec3 x.1 x.2.1 x.2.2) q (fun i (a:List Int)=>((q.length:Int),(i:Int),a))
  (fun r a=>some (emb s (match Ap r with | none=>.inl 4 | some l=>AD N s ms c.fDo (a++l)))) (fun i a=>a.length=i)
  (fun a rec ha=>by
   unfold cN
   rw[if_neg (by simp)]
   have ha':a.length=q.length:=ha
   dsimp only
   rw[Cg h hi hN hL hd (by omega) (by omega)]
   simp[Ap])
  (fun i x a rec hx' ha ih=>by
   have hlt:=lP hx'
   unfold cN
   rw[if_pos (by simp only[decide_eq_true_eq];omega),ij hx',Option.bind_some,number_eq x (hx x (List.mem_of_getElem? hx')),Option.bind_some]
   unfold Ap
   cases B5 x with
   | none=>rfl
   | some v =>
    simp only
    rw[nL (by simp;omega),Option.bind_some,fN (by omega),ih _ (by simp[ha])]
    cases Ap (q.drop (i+1))with
    | none=>rfl
    | some l=>simp)
  (by omega) [] rfl
 simpa using key
theorem B7{i:Nat}{s:DeskState}(h:SI i s)(hi:i≤60)(hN:20000≤N){ms:List LadderMatch}{e:Int}(hL:yh N (cup s)=some (ms,e))(line:List UInt8)(hl:line.length≤210):iS N line (DeskWork.mk s)=some (emb s (zJ N s ms line)):=by
 unfold iS zJ
 have hsl:=Ba 32 line
 rw[show wA N line ([32]:List UInt8)=some (se 32 line)from by unfold wA;dsimp only;rw[if_pos (by omega)],Option.bind_some]
 generalize hp:se 32 line=p at hsl
 have hne:p≠[]:=hp▸AT 32 line
 cases p with
 | nil=>exact absurd rfl hne
 | cons x r =>
  have e0:idx (x::r) 0=some x:=rfl
  rw[e0,Option.bind_some,show nD N=some aM9 from rfl,Option.bind_some]
  unfold mgt
  rw[Option.bind_some]
  simp only[List.headD_cons,List.tail_cons]
  cases hm:mget aM9 x with
  | none=>simp only[Option.isSome_none,Option.bind_some,Bool.false_eq_true,if_false,yl];rfl
  | some c =>
   obtain⟨hd,hmany,h2⟩:=B6 hm
   simp only[Option.isSome_some,Option.getD_some,Option.bind_some,if_true,yl]
   have ew:w64 (c.fMany+1)=c.fMany+1:=bE (by omega) (by omega)
   rw[ew]
   by_cases hlen:((x::r).length:Int)=c.fMany+1
   ·rw[decide_eq_true hlen]
    simp only[if_true,ne_eq,hlen,not_true_eq_false,if_false]
    have hrl:(r.length:Int)=c.fMany:=by simp at hlen;omega
    unfold dQ
    rw[rX (by omega) (by simp;omega) (by simp),Option.bind_some]
    have er:((x::r).take ((x::r).length:Int).toNat).drop (1:Int).toNat=r:=by
     rw[Int.toNat_natCast,List.take_length];rfl
    rw[er]
    exact BF h hi hN hL r (by omega) (fun y hy=>by have:=hsl.2 y (by simp[hy]);omega) hd (by omega) (fun hh=>by have:=h2 hh;omega)
   ·rw[decide_eq_false hlen]
    simp only[ne_eq,hlen,not_false_eq_true,if_true]
    rfl
/-! Sizes go on. -/
theorem SI.mono{i j:Nat}{s:DeskState}(h:SI i s)(hij:i≤j):SI j s :=
 ⟨h.la,fun x hx=>by have:=h.lb x hx;omega,h.bl,h.kl,fun x hx=>by have:=h.kb x hx;omega,h.sl,by have:=h.wl;omega,by have:=h.rl;omega,h.rg⟩
theorem SI.put{i:Nat}{s:DeskState}(h:SI i s)(n:Int)(y:DeskLane)(hy:-1≤y.fBowler∧y.fBowler<s.fBowlers.length∧y.fBalls.length≤i):SI i (put s n y) :=
 ⟨by simp[Proofs.YthbomkehodjepaaGreatDoor.put,h.la],fun x hx=>(List.mem_or_eq_of_mem_set hx).elim (h.lb x) (fun e=>e▸hy),h.bl,h.kl,h.kb,h.sl,h.wl,h.rl,h.rg⟩
def okR (i:Nat):Int⊕DeskState→Prop
 | .inl e=>e≠0
 | .inr t=>SI (i+1) t
theorem Ch{i:Nat}{s:DeskState}(h:SI i s)(hi:i≤60)(hN:20000≤N)(ms:List LadderMatch)(d:Int)(l:List Int):okR i (AD N s ms d l):=by
 have h':=h.mono (Nat.le_succ i)
 have hl4:=h.la
 unfold AD
 simp only
 split
 ·unfold zN
  split
  ·show(2:Int)≠0;decide
  split
  ·show(3:Int)≠0;decide
  rename_i h2
  split
  ·show(8:Int)≠0;decide
  refine⟨h'.la,fun x hx=>?_,by simp;omega,by simp[h.kl],fun x hx=>?_,h'.sl,h'.wl,h'.rl,h'.rg⟩
  ·have:=h'.lb x hx;simp;omega
  ·rcases List.mem_append.1 hx with hx | hx
   ·exact h'.kb x hx
   ·simp at hx;subst hx;simp
 split
 ·unfold AO
  split
  ·show(7:Int)≠0;decide
  ·split
   ·show(7:Int)≠0;decide
   ·rename_i hk
    split
    ·exact h'.put _ _ ⟨by simp only[Classical.not_not,known]at hk;simp only;omega,by simp only[Classical.not_not,known]at hk;simp only;omega,by simp⟩
    ·show(6:Int)≠0;decide
 split
 ·unfold AP
  split
  ·show(7:Int)≠0;decide
  ·rename_i x hx
   have hlb:=h.lb x (List.mem_of_getElem? (zr hx).2.2)
   split
   ·show(8:Int)≠0;decide
   ·split
    ·exact h'.put _ _ ⟨hlb.1,hlb.2.1,by simp;omega⟩
    ·show(10:Int)≠0;decide
 split
 ·unfold AQ
  split
  ·show(7:Int)≠0;decide
  ·rename_i x hx
   have hlb:=h.lb x (List.mem_of_getElem? (zr hx).2.2)
   split
   ·show(8:Int)≠0;decide
   ·split
    ·show(8:Int)≠0;decide
    ·exact h'.put _ _ ⟨hlb.1,hlb.2.1,by simp;omega⟩
 split
 ·unfold Af
  split
  ·show(7:Int)≠0;decide
  ·rename_i x hx
   split
   ·show(8:Int)≠0;decide
   ·split
    ·rename_i c k _ hk
     have:SI (i+1) {s with fKept:=s.fKept.set x.fBowler.toNat (k++[c])}:=⟨h'.la,h'.lb,h'.bl,by simp[h.kl],fun y hy=>(List.mem_or_eq_of_mem_set hy).elim (h'.kb y) (fun e=>by have:=h.kb k (List.mem_of_getElem? hk);subst e;simp;omega),h'.sl,h'.wl,h'.rl,h'.rg⟩
     exact this.put _ _ ⟨by simp,by simp;omega,by simp⟩
    ·show(8:Int)≠0;decide
 split
 ·unfold Ag
  split
  ·show(2:Int)≠0;decide
  ·split
   ·show(7:Int)≠0;decide
   ·split
    ·show(7:Int)≠0;decide
    ·rename_i k hk
     split
     ·show(8:Int)≠0;decide
     ·split
      ·show(3:Int)≠0;decide
      ·rename_i h40
       exact⟨h'.la,h'.lb,h'.bl,by simp[h.kl],fun y hy=>(List.mem_or_eq_of_mem_set hy).elim (h'.kb y) (fun e=>by have:=h.kb k (List.mem_of_getElem? hk);subst e;simp;omega),by simp;omega,h'.wl,h'.rl,h'.rg⟩
 split
 ·unfold zO
  split
  ·show(7:Int)≠0;decide
  ·split
   ·have:=h.wl
    refine⟨h'.la,h'.lb,h'.bl,h'.kl,h'.kb,h'.sl,?_,h'.rl,h'.rg⟩
    simp;omega
   ·show(6:Int)≠0;decide
 split
 ·unfold AS
  split
  ·show(8:Int)≠0;decide
  ·split
   ·have:=h.rl
    refine⟨h'.la,h'.lb,h'.bl,h'.kl,h'.kb,h'.sl,h'.wl,by simp;omega,fun r hr=>?_⟩
    rcases List.mem_append.1 hr with hr | hr
    ·exact h'.rg r hr
    ·simp at hr;subst hr;rfl
   ·show(10:Int)≠0;decide
 ·unfold Ah
  split
  ·show(7:Int)≠0;decide
  ·split
   ·show(7:Int)≠0;decide
   ·rename_i r hr
    split
    ·show(6:Int)≠0;decide
    ·exact⟨h'.la,h'.lb,h'.bl,h'.kl,h'.kb,h'.sl,h'.wl,by simp;exact h'.rl,fun y hy=>(List.mem_or_eq_of_mem_set hy).elim (h'.rg y) (fun e=>by have:=h.rg r (List.mem_of_getElem? hr);subst e;exact this)⟩
theorem B8{i:Nat}{s:DeskState}(h:SI i s)(hi:i≤60)(hN:20000≤N)(ms:List LadderMatch)(line:List UInt8):okR i (zJ N s ms line):=by
 unfold zJ
 split
 ·show(4:Int)≠0;decide
 ·split
  ·show(4:Int)≠0;decide
  ·split
   ·show(4:Int)≠0;decide
   ·exact Ch h hi hN ms _ _
end Go.Proofs.YthbomkehodjepaaGreatDoor
namespace Go.Proofs.YthbomkehodjepaaGreatDoor
open Go.Kp
variable {N:Nat}
def NX (N:Nat):Prop:=∀i s,SI i s→i≤60→∃ms e,yh N (cup s)=some (ms,e)
def nxl (N:Nat)(s:DeskState):List LadderMatch:=match yh N (cup s)with
 | some (ms,_)=>ms
 | none=>[]
def stepW(N:Nat)(s:DeskState)(line:List UInt8):Int×DeskState:=match zJ N s (nxl N s) line with
 | .inl e=>(e,s)
 | .inr t=>(0,t)
theorem step_ok{i:Nat}{s:DeskState}(h:SI i s)(hi:i≤60)(hN:20000≤N)(line:List UInt8):SI (i+1) (stepW N s line).2∧((stepW N s line).1≠0→(stepW N s line).2=s):=by
 have:=B8 h hi hN (nxl N s) line
 unfold stepW
 cases hs:zJ N s (nxl N s) line with
 | inl e=>exact⟨h.mono (Nat.le_succ i),fun _=>rfl⟩
 | inr t=>rw[hs]at this;exact⟨this,fun hh=>absurd rfl hh⟩
theorem B9{i:Nat}{s:DeskState}(hx:NX N)(h:SI i s)(hi:i≤60)(hN:20000≤N)(line:List UInt8)(hl:line.length≤210):iT N line (DeskWork.mk s)=some ((stepW N s line).1,DeskWork.mk (stepW N s line).2):=by
 obtain⟨ms,e,hL⟩:=hx i s h hi
 have hn:nxl N s=ms:=by unfold nxl;rw[hL]
 unfold iT stepW
 rw[B7 h hi hN hL line hl,hn]
 cases zJ N s ms line<;>rfl
def zv (N:Nat):DeskState→List (List UInt8)→DeskState
 | s,[]=>s
 | s,x::r=>zv N (stepW N s x).2 r
def zB (N:Nat):DeskState→List (List UInt8)→List Int
 | _,[]=>[]
 | s,x::r=>(stepW N s x).1::zB N (stepW N s x).2 r
def st0:DeskState:=DeskState.mk [] [DeskLane.mk (-1) [],DeskLane.mk (-1) [],DeskLane.mk (-1) [],DeskLane.mk (-1) []] [] [] [] []
theorem AU:SI 0 st0:=⟨rfl,fun x hx=>by simp[st0]at hx;subst hx;simp[st0],by simp[st0],rfl,by simp[st0],by simp[st0],by simp[st0],by simp[st0],by simp[st0]⟩
theorem Bq(hN:20000≤N):∀(l:List (List UInt8)) {i:Nat} {s:DeskState},SI i s→i+l.length≤60→SI (i+l.length) (zv N s l)
 | [],i,s,h,_=>h
 | x::r,i,s,h,hl=>by
  simp only[List.length_cons]at hl ⊢
  have:=Bq hN r (step_ok h (by omega) hN x).1 (by omega)
  rw[show i+(r.length+1)=i+1+r.length by omega]
  exact this
theorem Bb:∀(l:List (List UInt8)) (s:DeskState),(zB N s l).length=l.length
 | [],_=>rfl
 | x::r,s=>by simp[zB,Bb r]
theorem BW(hN:20000≤N):lG N=some (DeskWork.mk st0):=by
 unfold lG
 rw[nL (by simp;omega),Option.bind_some,nL (by simp;omega),Option.bind_some,nL (by simp;omega),Option.bind_some,nL (by simp;omega),Option.bind_some]
 rfl
theorem Ca(hx:NX N)(hN:20000≤N)(lines:List (List UInt8))(hl:lines.length≤55)(hs:∀s∈lines,s.length≤210):gn N lines=some (zB N st0 lines,DeskWork.mk (zv N st0 lines)):=by
 have key:=lO (N:=N) (B:=fun rec3 x=>eD N lines rec3 x.1 x.2.1 x.2.2.1 x.2.2.2) lines (fun i (a:DeskState×List Int)=>((lines.length:Int),(i:Int),DeskWork.mk a.1,a.2))
  (fun r a=>some (DeskWork.mk (zv N a.1 r),a.2++zB N a.1 r)) (fun i a=>SI i a.1∧a.2.length=i)
  (fun a rec _=>by
   unfold eD
   rw[if_neg (by simp)]
   simp[zv,zB])
  (fun i x a rec hx' ha ih=>by
   have hlt:=lP hx'
   unfold eD
   rw[if_pos (by simp only[decide_eq_true_eq];omega),ij hx',Option.bind_some,B9 hx ha.1 (by omega) hN x (hs x (List.mem_of_getElem? hx')),Option.bind_some]
   dsimp only
   rw[nL (by simp;omega),Option.bind_some,fN (by omega),ih (_,_) ⟨(step_ok ha.1 (by omega) hN x).1,by simp[ha.2]⟩]
   simp[zv,zB])
  (by omega) (st0,[]) ⟨AU,rfl⟩
 unfold gn
 rw[BW hN,Option.bind_some]
 simp only[Int.natCast_zero]at key
 rw[key]
 simp
theorem BG{i:Nat}{s:DeskState}(h:SI i s)(hi:i≤60)(hN:20000≤N):fW N s=some s:=by
 have hb:=h.bl
 have hsl:=h.sl
 have hwl:=h.wl
 have hkl:=h.kl
 have hrl:=h.rl
 have hla:=h.la
 have k1:=lO (N:=N) (B:=fun rec3 x=>bR N s rec3 x.1 x.2.1 x.2.2) s.fLanes (fun i (a:List DeskLane)=>((s.fLanes.length:Int),(i:Int),a)) (fun r a=>some (a++r)) (fun i a=>a.length=i)
  (fun a rec _=>by simp[bR])
  (fun j x a rec hx ha ih=>by
   have hlt:=lP hx
   have:=h.lb x (List.mem_of_getElem? hx)
   unfold bR
   rw[if_pos (by simp only[decide_eq_true_eq];omega),ij hx,Option.bind_some,yS _ (by omega),Option.bind_some,nL (by simp;omega),Option.bind_some,fN (by omega),ih _ (by simp[ha])]
   simp)
  (by omega) [] rfl
 have k2:=lO (N:=N) (B:=fun rec5 x=>bS N s rec5 x.1 x.2.1 x.2.2) s.fKept (fun i (a:List (List Int))=>((s.fKept.length:Int),(i:Int),a)) (fun r a=>some (a++r)) (fun i a=>a.length=i)
  (fun a rec _=>by simp[bS])
  (fun j x a rec hx ha ih=>by
   have hlt:=lP hx
   have:=h.kb x (List.mem_of_getElem? hx)
   unfold bS
   rw[if_pos (by simp only[decide_eq_true_eq];omega),ij hx,Option.bind_some,yS _ (by omega),Option.bind_some,nL (by simp;omega),Option.bind_some,fN (by omega),ih _ (by simp[ha])]
   simp)
  (by omega) [] rfl
 have k3:=lO (N:=N) (B:=fun rec7 x=>bT N s rec7 x.1 x.2.1 x.2.2) s.fResults (fun i (a:List LadderResult)=>((s.fResults.length:Int),(i:Int),a)) (fun r a=>some (a++r)) (fun i a=>a.length=i)
  (fun a rec _=>by simp[bT])
  (fun j x a rec hx ha ih=>by
   have hlt:=lP hx
   have:=h.rg x (List.mem_of_getElem? hx)
   unfold bT
   rw[if_pos (by simp only[decide_eq_true_eq];omega),ij hx,Option.bind_some,yS _ (by omega),Option.bind_some,nL (by simp;omega),Option.bind_some,fN (by omega),ih _ (by simp[ha])]
   simp)
  (by omega) [] rfl
 simp only[Int.natCast_zero,List.nil_append]at k1 k2 k3
 unfold fW
 rw[yS _ (by omega),Option.bind_some,Aa _ (by omega),Option.bind_some,yS _ (by omega),Option.bind_some,Option.bind_some]
 dsimp only
 rw[k1,Option.bind_some,k2,Option.bind_some,k3,Option.bind_some]
def kept (N:Nat):DeskState→List (List UInt8)→List (List UInt8)
 | _,[]=>[]
 | s,x::r=>if(stepW N s x).1=0 then x::kept N (stepW N s x).2 r else kept N (stepW N s x).2 r
theorem Bc(hN:20000≤N):∀(l:List (List UInt8)) {i:Nat} {s:DeskState},SI i s→i+l.length≤60→zv N s (kept N s l)=zv N s l∧∀e∈zB N s (kept N s l),e=0
 | [],_,_,_,_=>⟨rfl,by simp[kept,zB]⟩
 | x::r,i,s,h,hl=>by
  simp only[List.length_cons]at hl
  have hs:=step_ok h (by omega) hN x
  have ih:=Bc hN r hs.1 (by omega)
  unfold kept
  by_cases h0:(stepW N s x).1=0
  ·rw[if_pos h0]
   refine⟨ih.1,fun e he=>?_⟩
   rcases List.mem_cons.1 he with rfl | he
   ·exact h0
   ·exact ih.2 e he
  ·rw[if_neg h0]
   have e:=hs.2 h0
   rw[e]at ih ⊢
   refine⟨ih.1.trans ?_,ih.2⟩
   show _=zv N (stepW N s x).2 r
   rw[e]
theorem Bd:∀(l:List (List UInt8)) (s:DeskState),(∀x∈kept N s l,x∈l)∧(kept N s l).length≤l.length
 | [],_=>by simp[kept]
 | x::r,s=>by
  have ih:=Bd r (stepW N s x).2
  unfold kept
  split
  ·exact⟨fun y hy=>by rcases List.mem_cons.1 hy with rfl | hy;simp;exact List.mem_cons_of_mem _ (ih.1 y hy),by simp only[List.length_cons];omega⟩
  ·exact⟨fun y hy=>List.mem_cons_of_mem _ (ih.1 y hy),by simp only[List.length_cons];omega⟩
end Go.Proofs.YthbomkehodjepaaGreatDoor
namespace Go.Proofs.YthbomkehodjepaaGreatDoor
open Go.Kp
variable {N:Nat}
theorem vC(lines:List (List UInt8))(hN:20000≤N):∃b,j0 N lines=some b∧(b=true→lines.length≤55∧∀s∈lines,s.length≤210):=by
 have key:∀(n i:Nat),i≤56→57-i≤n→∃b,aj (fun rec3 x=>bK N lines rec3 x) n (i:Int)=some b∧(b=true→lines.length≤55∧∀j x,i≤j→lines[j]? = some x→x.length≤210):=by
  intro n
  induction n with
  | zero=>intro i h1 h2;omega
  | succ n ih =>
   intro i h1 h2
   show ∃b,bK N lines (aj (fun rec3 x=>bK N lines rec3 x) n) (i:Int)=some b∧_
   unfold bK
   by_cases hi:i<lines.length
   ·rw[if_pos (by simp only[decide_eq_true_eq];omega),Option.bind_some]
    by_cases h56:i<56
    ·rw[if_pos (by simp only[decide_eq_true_eq];omega)]
     have hx:lines[i]? = some lines[i]:=List.getElem?_eq_getElem hi
     rw[ij hx,Option.bind_some]
     by_cases h210:210<lines[i].length
     ·rw[if_pos (by simp only[decide_eq_true_eq];omega)]
      exact⟨false,rfl,fun h=>by cases h⟩
     ·rw[if_neg (by simp only[decide_eq_true_eq];omega),fN (by omega)]
      obtain⟨b,hb,hq⟩:=ih (i+1) (by omega) (by omega)
      refine⟨b,hb,fun h=>⟨(hq h).1,fun j x hj hx'=>?_⟩⟩
      rcases Nat.lt_or_ge i j with h3 | h3
      ·exact(hq h).2 j x (by omega) hx'
      ·have:j=i:=by omega
       subst this
       rw[hx]at hx';cases hx';omega
    ·rw[if_neg (by simp only[decide_eq_true_eq];omega)]
     refine⟨_,rfl,fun h=>?_⟩
     simp only[decide_eq_true_eq]at h
     omega
   ·rw[if_neg (by simp only[decide_eq_true_eq];omega),Option.bind_some]
    refine⟨_,rfl,fun h=>⟨by simp only[decide_eq_true_eq]at h;omega,fun j x hj hx'=>?_⟩⟩
    have:=lP hx'
    omega
 obtain⟨b,hb,hq⟩:=key N 0 (by omega) (by omega)
 refine⟨b,hb,fun h=>⟨(hq h).1,fun s hs=>?_⟩⟩
 obtain⟨j,hj⟩:=List.getElem?_of_mem hs
 exact(hq h).2 j s (Nat.zero_le _) hj
theorem ud(lines:List (List UInt8))(hl:lines.length≤55)(hN:20000≤N):gz N lines=some (lines.all (fun s=>decide (s.length≤200))&&decide (lines.length≤50)):=by
 have key:=rY (N:=N) (R:=Bool) (B:=fun rec3 x=>bf N lines rec3 x) lines (fun(k:Nat)=>(k:Int)) (fun r=>some (r.all (fun s=>decide (s.length≤200))&&decide (lines.length≤50)))
  (fun rec=>by
   show bf N lines rec (lines.length:Int)=_
   unfold bf
   rw[if_neg (by simp)]
   simp[fc]
   omega)
  (fun i x rec hx h=>by
   have hlt:=lP hx
   show bf N lines rec (i:Int)=_
   unfold bf
   rw[if_pos (by simp only[decide_eq_true_eq];omega),ij hx,Option.bind_some]
   by_cases h200:200<x.length
   ·rw[if_pos (by simp only[decide_eq_true_eq];omega)]
    simp
    omega
   ·rw[if_neg (by simp only[decide_eq_true_eq];omega),fN (by omega),h]
    have:decide (x.length≤200)=true:=by simp only[decide_eq_true_eq];omega
    simp[this])
  (by omega)
 unfold gz
 simpa using key
theorem vA(lines:List (List UInt8))(hl:lines.length≤50)(hs:∀s∈lines,s.length≤200)(hN:20000≤N):dw N lines=some 0:=by
 have hall:mV N lines 200=some (lines.all fun s=>decide ((s.length:Int)≤200)) :=
  tZ lines (fun y=>kV N y 200) (fun s=>decide ((s.length:Int)≤200)) (fun x _=>rfl) (by omega) (by omega)
 have ht:(lines.all fun s=>decide ((s.length:Int)≤200))=true:=List.all_eq_true.2 fun s hm=>by have:=hs s hm;simp only[decide_eq_true_eq];omega
 unfold dw
 rw[if_neg (by simp only[decide_eq_true_eq];omega),hall,ht]
 rfl
end Go.Proofs.YthbomkehodjepaaGreatDoor
namespace Go.Proofs.YthbomkehodjepaaGreatDoor
open Go.Kp
variable {N:Nat}
theorem Ci(hN:20000≤N):NX N:=fun i s h hi=>Bz (cup s) rfl (by have:=h.rl;show s.fResults.length≤60;omega) h.rg hN
theorem BX(hN:20000≤N)(lines:List (List UInt8))(hl:lines.length≤50)(hs:∀s∈lines,s.length≤200):nE N lines=some (zv N st0 lines,zB N st0 lines,0):=by
 unfold nE
 rw[vA lines hl hs hN,Option.bind_some,if_neg (by decide),Ca (Ci hN) hN lines (by omega) (fun s h=>by have:=hs s h;omega),Option.bind_some]
 dsimp only
 have h:=Bq (N:=N) hN lines AU (by omega)
 rw[BG h (by omega) hN,Option.bind_some]
theorem Cb(lines:List (List UInt8))(hl:lines.length≤N):iw N lines=some lines:=by
 unfold iw;rw[nL (by simpa using hl)];rfl
theorem Bf:∀(l:List (List UInt8)) (s:DeskState) (i:Nat) (x:List UInt8),l[i]? = some x→(zB N s l)[i]? = some (stepW N (zv N s (l.take i)) x).1
 | [],_,_,_,h=>by simp at h
 | y::r,s,0,x,h=>by simp at h;subst h;rfl
 | y::r,s,i+1,x,h=>by
  simp only[List.getElem?_cons_succ]at h
  simp only[zB,List.getElem?_cons_succ,List.take_succ_cons,zv]
  exact Bf r _ i x h
theorem AF:∀(l:List (List UInt8)) (s:DeskState) (x:List UInt8),zv N s (l++[x])=(stepW N (zv N s l) x).2
 | [],_,_=>rfl
 | y::r,s,x=>by simp only[List.cons_append,zv];exact AF r _ x
theorem AG(hN:20000≤N)(lines:List (List UInt8))(hl:lines.length≤50)(hs:∀s∈lines,s.length≤200):yK N lines=some (zv N st0 lines,kept N st0 lines,true):=by
 unfold yK
 rw[Cb lines (by omega),Option.bind_some,BX hN lines hl hs,Option.bind_some]
 simp only[decide_true,Bool.not_true,Bool.false_eq_true,if_false,Bb,Option.bind_some]
 have key:=lO (N:=N) (B:=fun rec3 x=>yf N lines (zB N st0 lines) rec3 x.1 x.2) lines (fun i (a:DeskState×List (List UInt8))=>((i:Int),a.2))
  (fun r a=>some (a.2++kept N a.1 r)) (fun i a=>a.1=zv N st0 (lines.take i)∧a.2.length≤i)
  (fun a rec _=>by
   unfold yf
   rw[if_neg (by simp)]
   simp[kept])
  (fun i x a rec hx ha ih=>by
   have hlt:=lP hx
   unfold yf
   rw[if_pos (by simp only[decide_eq_true_eq];omega),ij (Bf lines st0 i x hx),Option.bind_some,← ha.1,fN (by omega)]
   have htk:lines.take (i+1)=lines.take i++[x]:=by rw[List.take_add_one,hx];rfl
   have hst:(stepW N a.1 x).2=zv N st0 (lines.take (i+1)):=by rw[htk,AF,ha.1]
   unfold kept
   by_cases h0:(stepW N a.1 x).1=0
   ·rw[if_pos (by simp only[decide_eq_true_eq];exact h0),if_pos h0,ij hx,Option.bind_some,nL (by simp;omega),Option.bind_some,Option.bind_some,ih ((stepW N a.1 x).2,a.2++[x]) ⟨hst,by simp;omega⟩]
    simp
   ·rw[if_neg (by simp only[decide_eq_true_eq];exact h0),if_neg h0,Option.bind_some,ih ((stepW N a.1 x).2,a.2) ⟨hst,by simp only;omega⟩])
  (by omega) (st0,[]) ⟨rfl,by simp⟩
 simp only[Int.natCast_zero,List.nil_append]at key
 rw[key];rfl
theorem BI(hN:20000≤N)(lines:List (List UInt8)):∃b,(Option.bind (j0 N lines) fun r9=>if !r9 then some true else Option.bind (gz N lines) fun r10=>some (!r10))=some b∧(b=false→lines.length≤50∧∀s∈lines,s.length≤200):=by
 obtain⟨b,hb,hbt⟩:=vC lines hN
 rw[hb,Option.bind_some]
 cases b with
 | false=>exact⟨true,rfl,fun h=>by cases h⟩
 | true =>
  obtain⟨hl55,hs210⟩:=hbt rfl
  rw[ud lines hl55 hN]
  refine⟨_,rfl,fun h=>?_⟩
  have:(∀s∈lines,s.length≤200)∧lines.length≤50:=by simpa using h
  exact⟨this.2,this.1⟩
end Go.Proofs.YthbomkehodjepaaGreatDoor
namespace Go.Proofs.YthbomkehodjepaaGreatDoor
open Go.Kp
set_option maxRecDepth 100000
theorem dN{σ R:Type}{b:(σ→WP R)→σ→WP R}{n:Nat}{x:σ}{Q:R→Prop}(h:b (aG b n) x Q):aG b (n+1) x Q:=h
theorem br{α R:Type}{x:Option α}{a:α}{k:α→WP R}{Q:R→Prop}(e:x=some a)(h:k a Q):dO x k Q:=⟨a,e,h⟩
theorem lR{α R:Type}{a:WP R}{b:α→List α→WP R}{Q:R→Prop}(h:a Q):mq [] a b Q:=⟨fun _=>h,fun pre e post hs=>by cases pre<;>cases hs⟩
theorem o7{α R:Type}{x:α}{a:WP R}{b:α→List α→WP R}{Q:R→Prop}(h:b x [] Q):mq [x] a b Q:=by
 refine⟨fun e=>(by cases e),fun pre e post hs=>?_⟩
 cases pre with
 | nil=>cases hs;exact h
 | cons y l=>cases l<;>cases hs
theorem vo{α R:Type}{x:WP α}{k:α→WP R}{Q:R→Prop}(h:x fun a=>k a Q):Go.Kp.bindW x k Q:=h
theorem WGood.bindW{α R:Type}{x:WP α}{k:α→WP R}(hx:WGood x)(h:∀a,WGood (k a)):WGood (Go.Kp.bindW x k) :=
 ⟨fun q=>hx.no (hx.mono _ _ (fun a z=>((h a).no z).elim) q),fun P Q p q=>hx.mono _ _ (fun a z=>(h a).and P Q z.1 z.2) (hx.and _ _ p q),fun P Q m p=>hx.mono _ _ (fun a z=>(h a).mono P Q m z) p⟩
theorem wZ{R:Type}{c:Prop}[Decidable c]{a b:WP R}{Q:R→Prop}(hc:¬c)(h:b Q):(if c then a else b) Q:=by rw[if_neg hc];exact h
theorem qY:gh 30000 (RateBook.mk (RateLaw.mk 90 80 40 3 5) [70,60] [] [])=some ([],0):=by
 unfold gh
 refine vF ?_ ?_
 ·refine WGood.bindO fun z=>?_
  obtain⟨_,_,_,_,_,_,_,_,_,_⟩:=z
  refine .ite (.ret _) (WGood.loop (fun rec x hr=>?_) _ _)
  unfold bx cx
  exact .next (.bindO fun _=>.ret _) fun⟨_,_⟩ _=>.bindO fun _=>hr _
 ·unfold fp
  refine br (a:=(0,90,80,40,3,5,[70,60],[],[],[])) (by kernel_rfl) ?_
  dsimp only
  refine wZ (by decide) ?_
  refine dN (n:=29999) ?_
  unfold bx
  refine lR ?_
  unfold cx
  refine br (a:=[]) (by simp[sortI]) ?_
  rfl
theorem ua(N:Nat)(c1 c2 c3:Int)(c4:List LadderResult)(c5:List LadderPair)(m1:List (Int×LadderResult))(l1:List (Ar2 Int)):WGood (cB N c1 c2 c3 c4 c5 m1 l1):=by
 unfold cB
 refine WGood.loop (fun rec x hr=>?_) _ _
 unfold am
 refine .ite (.bindO fun _=>.bindO fun _=>WGood.loop (fun rec2 y hr2=>?_) _ _) (by unfold cf;exact .ret _)
 unfold au
 refine .next (by unfold cY;exact hr _) (fun⟨_,_⟩ _=>.bindO fun _=>WGood.loop (fun rec3 z hr3=>?_) _ _)
 unfold aw
 have k3:∀a b,WGood (bi N rec3 a b):=fun a b=>by unfold bi;exact hr3 _
 have k4:∀a b c d e f,WGood (bj N a rec3 b c d e f):=fun a b c d e f=>by unfold bj;exact .ite (k3 _ _) (k3 _ _)
 have k5:∀a b c d e,WGood (FC N a rec3 b c d e):=fun a b c d e=>by unfold FC;exact .bindO fun⟨_,_⟩=>.ite (k4 ..) (k4 ..)
 have k6:∀a b c d e f,WGood (bn N a rec3 b c d e f):=fun a b c d e f=>by unfold bn;exact .ite (.bindO fun _=>k5 ..) (k5 ..)
 have k7:∀a b c d e f g h,WGood (bp N a b rec3 c d e f g h):=fun a b c d e f g h=>by unfold bp;exact .ite (k3 _ _) (.bindO fun _=>.ite (k6 ..) (k6 ..))
 have k8:∀a b c d e f g,WGood (aV N a b rec3 c d e f g):=fun a b c d e f g=>by unfold aV;exact .bindO fun _=>.ite (k7 ..) (k7 ..)
 have k9:∀a b c d e f g h i j,WGood (bq N a b c rec3 d e f g h i j):=fun a b c d e f g h i j=>by unfold bq;exact .ite (k8 ..) (k8 ..)
 have k10:∀a b c d e f g h i,WGood (aY N a b c rec3 d e f g h i):=fun a b c d e f g h i=>by unfold aY;exact .bindO fun⟨_,_⟩=>.ite (k9 ..) (k9 ..)
 have k11:∀a b c d e f g h i j,WGood (aZ N a b c rec3 d e f g h i j):=fun a b c d e f g h i j=>by unfold aZ;exact .ite (.bindO fun _=>k10 ..) (k10 ..)
 have k12:∀a b c d e f g h i,WGood (ba N a b c rec3 d e f g h i):=fun a b c d e f g h i=>by unfold ba;exact .ite (k8 ..) (.bindO fun _=>.ite (k11 ..) (k11 ..))
 exact .next (hr2 _) fun⟨_,_⟩ _=>.bindO fun _=>.bindO fun _=>.ite (k12 ..) (k12 ..)
theorem vp(N:Nat)(c1 c2 c3:Int)(c4:List LadderResult)(c5:List LadderPair)(m1:List (Int×LadderResult))(l1:List (Ar2 Int)):WGood (cC N c1 c2 c3 c4 c5 m1 l1):=by
 unfold cC
 refine WGood.bindW (ua ..) fun m=>WGood.loop (fun rec x hr=>?_) _ _
 unfold aO
 have k2:∀a b,WGood (bG N a rec b):=fun a b=>by unfold bG;exact hr _
 refine .ite (.bindO fun _=>.bindO fun⟨_,_⟩=>.ite (.bindO fun _=>k2 _ _) (k2 _ _)) (by unfold cg;exact .ret _)
theorem ift{R:Type}{c:Bool}{a b:WP R}{Q:R→Prop}(hc:c=true)(h:a Q):(if c=true then a else b) Q:=by rw[if_pos hc];exact h
theorem ife{R:Type}{c:Bool}{a b:WP R}{Q:R→Prop}(hc:c=false)(h:b Q):(if c=true then a else b) Q:=by rw[if_neg (by rw[hc];decide)];exact h
def P2:LadderPair:=LadderPair.mk (LadderSide.mk 0 (-1)) (LadderSide.mk 1 (-1))
theorem w6:fq 30000 1 2 1 [] [LadderPair.mk (LadderSide.mk 0 (-1)) (LadderSide.mk 1 (-1))] [] [Ar2.mk 0 1]=some [0,1]:=by
 unfold fq
 refine vF (vp ..) ?_
 unfold cC
 refine vo ?_
 unfold cB
 refine dN (n:=29999) ?_
 unfold am
 refine ift (by kernel_rfl) ?_
 refine br (a:=P2) (by kernel_rfl) ?_
 refine br (a:=[(0,0)]) (by kernel_rfl) ?_
 refine dN (n:=29999) ?_
 unfold au
 refine o7 ?_
 dsimp only
 refine br (a:=[(1,0)]) (by kernel_rfl) ?_
 refine dN (n:=29999) ?_
 unfold aw
 refine o7 ?_
 dsimp only
 refine br (a:=-1) (by kernel_rfl) ?_
 refine br (a:=Ar2.mk 0 1) (by kernel_rfl) ?_
 refine ife (by kernel_rfl) ?_
 unfold ba
 refine ife (by kernel_rfl) ?_
 refine br (a:=0) (by kernel_rfl) ?_
 refine ift (by kernel_rfl) ?_
 unfold aZ
 refine ife (by kernel_rfl) ?_
 unfold aY
 refine br (a:=(LadderCheapest.mk 0 0,false)) (by kernel_rfl) ?_
 dsimp only
 refine ift (by kernel_rfl) ?_
 unfold bq
 refine ift (by kernel_rfl) ?_
 unfold aV
 refine br (a:=Ar2.mk 1 0) (by kernel_rfl) ?_
 refine ife (by kernel_rfl) ?_
 unfold bp
 refine ife (by kernel_rfl) ?_
 refine br (a:=0) (by kernel_rfl) ?_
 refine ift (by kernel_rfl) ?_
 unfold bn
 refine ift (by kernel_rfl) ?_
 refine br (a:=1) (by kernel_rfl) ?_
 unfold FC
 refine br (a:=(LadderCheapest.mk 0 0,false)) (by kernel_rfl) ?_
 dsimp only
 refine ift (by kernel_rfl) ?_
 unfold bj
 refine ift (by kernel_rfl) ?_
 change aG _ 29999 _ _
 refine dN (n:=29998) ?_
 try unfold aw
 refine lR ?_
 change aG _ 29999 _ _
 refine dN (n:=29998) ?_
 try unfold au
 refine lR ?_
 change aG _ 29999 _ _
 refine dN (n:=29998) ?_
 try unfold am
 refine ife (by kernel_rfl) ?_
 try unfold cf ug
 change aG _ 30000 _ _
 refine dN (n:=29999) ?_
 try unfold aO
 refine ift (by kernel_rfl) ?_
 refine br (a:=0) (by kernel_rfl) ?_
 refine br (a:=(LadderCheapest.mk 0 1,true)) (by kernel_rfl) ?_
 dsimp only
 refine ift (by kernel_rfl) ?_
 refine br (a:=[0]) (by kernel_rfl) ?_
 change aG _ 29999 _ _
 refine dN (n:=29998) ?_
 try unfold aO
 refine ift (by kernel_rfl) ?_
 refine br (a:=0) (by kernel_rfl) ?_
 refine br (a:=(LadderCheapest.mk 1 0,true)) (by kernel_rfl) ?_
 dsimp only
 refine ift (by kernel_rfl) ?_
 refine br (a:=[0,1]) (by kernel_rfl) ?_
 change aG _ 29998 _ _
 refine dN (n:=29997) ?_
 try unfold aO
 refine ife (by kernel_rfl) ?_
 try unfold cg
 rfl
theorem bind_ok{α β:Type}{x:Option α}{a:α}{f:α→Option β}{r:Option β}(e:x=some a)(h:f a=r):Option.bind x f=r:=by rw[e];exact h
theorem ofe{β:Type}{c:Bool}{a b r:Option β}(hc:c=false)(h:b=r):(if c=true then a else b)=r:=by rw[if_neg (by rw[hc];decide)];exact h
theorem oft{β:Type}{c:Bool}{a b r:Option β}(hc:c=true)(h:a=r):(if c=true then a else b)=r:=by rw[if_pos hc];exact h
def G7:List (List UInt8):=[[98,111,119,108,101,114,32,55,48],[98,111,119,108,101,114,32,54,48],[111,112,101,110,32,49,32,48],[98,97,108,108,32,49,32,49,48],[98,97,108,108,32,49,32,55],[98,97,108,108,32,49,32,51],[98,97,108,108,32,49,32,52]]
def G8:List (List UInt8):=G7++[[98,97,108,108,32,49,32,53]]
def G12:List (List UInt8):=G8++[[98,97,108,108,32,49,32,50],[111,112,101,110,32,49,32,49],[99,108,111,115,101,32,49],[99,108,111,115,101,32,49]]
def W7:DeskWork:=DeskWork.mk (DeskState.mk [70,60] [(DeskLane.mk (-1) []),(DeskLane.mk 0 [10,7,3,4]),(DeskLane.mk (-1) []),(DeskLane.mk (-1) [])] [[],[]] [] [] [])
def R7:List UInt8:=[108,97,110,101,32,49,32,98,111,119,108,101,114,32,48,32,99,111,117,110,116,115,32,50,48,32,51,52,10,98,111,119,108,101,114,32,48,32,107,101,112,116,32,48,32,115,104,101,101,116,115,32,48,10,98,111,119,108,101,114,32,49,32,107,101,112,116,32,48,32,115,104,101,101,116,115,32,48,10,100,117,101,108,115,32,48,32,49,10]
theorem ub:eM 30000 (LadderCup.mk 1 2 1 [])=some ([0,1],0):=by
 unfold eM
 refine bind_ok (a:=Sum.inr (0,1,2,1,[],[LadderPair.mk (LadderSide.mk 0 (-1)) (LadderSide.mk 1 (-1))],[],[Ar2.mk 0 1])) (by kernel_rfl) ?_
 dsimp only
 refine ofe (by kernel_rfl) ?_
 exact bind_ok w6 rfl
theorem uc:gM 30000 G7=some (R7,0):=by
 unfold gM
 refine bind_ok (a:=0) (by kernel_rfl) ?_
 refine ofe (by kernel_rfl) ?_
 refine bind_ok (a:=([0,0,0,0,0,0,0],W7)) (by kernel_rfl) ?_
 dsimp only
 refine bind_ok (a:=[108,97,110,101,32,49,32,98,111,119,108,101,114,32,48,32,99,111,117,110,116,115,32,50,48,32,51,52,10]) (by kernel_rfl) ?_
 refine bind_ok (a:=RateBook.mk (RateLaw.mk 90 80 40 3 5) [70,60] [] []) (by kernel_rfl) ?_
 refine bind_ok qY ?_
 dsimp only
 refine bind_ok (a:=[108,97,110,101,32,49,32,98,111,119,108,101,114,32,48,32,99,111,117,110,116,115,32,50,48,32,51,52,10,98,111,119,108,101,114,32,48,32,107,101,112,116,32,48,32,115,104,101,101,116,115,32,48,10,98,111,119,108,101,114,32,49,32,107,101,112,116,32,48,32,115,104,101,101,116,115,32,48,10]) (by kernel_rfl) ?_
 refine bind_ok (a:=R7) ?_ (by kernel_rfl)
 refine oft (by kernel_rfl) ?_
 refine bind_ok (a:=LadderCup.mk 1 2 1 []) (by kernel_rfl) ?_
 refine bind_ok ub ?_
 kernel_rfl
theorem vr:cL 30000=some true:=by
 unfold cL
 refine bind_ok (a:=G8) (by kernel_rfl) ?_
 refine bind_ok (a:=G12) (by kernel_rfl) ?_
 refine bind_ok (a:=(DeskState.mk [70,60] [(DeskLane.mk (-1) []),(DeskLane.mk (-1) []),(DeskLane.mk (-1) []),(DeskLane.mk (-1) [])] [[43],[]] [] [] [],[0,0,0,0,0,0,0,0,10,6,0,8],0)) (by kernel_rfl) ?_
 dsimp only
 refine bind_ok (a:=G8) (by kernel_rfl) ?_
 refine bind_ok (a:=G7) (by kernel_rfl) ?_
 refine bind_ok (a:=([20,34],38,54,0)) (by kernel_rfl) ?_
 dsimp only
 refine bind_ok (a:=G8) (by kernel_rfl) ?_
 refine bind_ok (a:=(70,16,0)) (by kernel_rfl) ?_
 dsimp only
 refine bind_ok (a:=G8) (by kernel_rfl) ?_
 refine bind_ok (a:=G7) (by kernel_rfl) ?_
 refine bind_ok uc ?_
 dsimp only
 refine bind_ok (a:=([60,48,48,49,124,48,48,50,48,57,62,97,10],0)) (by kernel_rfl) ?_
 kernel_rfl
end Go.Proofs.YthbomkehodjepaaGreatDoor
namespace Go.Proofs.YthbomkehodjepaaGreatDoor
open Go.Kp
variable {N:Nat}
/-! The document's parse of a line that is accepted. -/
def vst (a:Nat)(c:UInt8):Nat:=10*a+(c.toNat-48)
def vl (a:Nat)(l:List UInt8):Nat:=l.foldl vst a
theorem GE(a:Nat):vl a []=a:=by unfold vl;exact List.foldl_nil
theorem Gu(a:Nat)(c:UInt8)(r:List UInt8):vl a (c::r)=vl (10*a+(c.toNat-48)) r:=by
 have e:10*a+(c.toNat-48)=vst a c:=by unfold vst;exact Eq.refl _
 rw[e];unfold vl;exact List.foldl_cons ..
theorem Hi(l:List UInt8):∀a:Nat,a≤vl a l:=by
 induction l with
 | nil=>intro a;rw[GE];exact Nat.le_refl a
 | cons c r ih =>
  intro a
  rw[Gu]
  exact Nat.le_trans (by omega) (ih (10*a+(c.toNat-48)))
theorem Hh(l:List UInt8)(a:Nat)(c:UInt8):vl a (l++[c])=10*vl a l+(c.toNat-48):=by
 have e:10*vl a l+(c.toNat-48)=vst (vl a l) c:=by unfold vst;exact Eq.refl _
 rw[e];unfold vl;rw[List.foldl_append];exact List.foldl_cons ..
theorem Hj(l:List UInt8):∀(a:Nat),(∀c∈l,48≤c.toNat∧c.toNat≤57)→vl a l<(a+1)*10 ^ l.length:=by
 induction l with
 | nil =>
  intro a _
  rw[GE,List.length_nil,Nat.pow_zero,Nat.mul_one]
  exact Nat.lt_succ_self a
 | cons c r ih =>
  intro a h
  have hc:=h c (List.mem_cons_self ..)
  rw[Gu]
  have h1:=ih (10*a+(c.toNat-48)) (fun d hd=>h d (List.mem_cons_of_mem c hd))
  rw[List.length_cons,Nat.pow_succ,Nat.mul_comm (10 ^ r.length) 10,← Nat.mul_assoc]
  refine Nat.lt_of_lt_of_le h1 (Nat.mul_le_mul_right _ ?_)
  omega
theorem G3{l:List UInt8}{u:Nat}(i1:vl 0 l=u)(i2:∀c∈l,48≤c.toNat∧c.toNat≤57)(hl:l.length≤9):u<1000000000:=by
 have h:=Hj l 0 i2
 rw[i1,Nat.zero_add,Nat.one_mul]at h
 have:(10:Nat) ^ l.length≤10 ^ 9:=Nat.pow_le_pow_right (by omega) hl
 have e:(10:Nat) ^ 9=1000000000:=by decide
 omega
theorem Hf:∀n<10,(UInt8.ofNat (48+n)).toNat=48+n:=by decide
theorem GF:∀(f u:Nat),u<10 ^ f→1≤f→vl 0 (uf f u)=u∧(∀c∈uf f u,48≤c.toNat∧c.toNat≤57)∧1≤(uf f u).length∧(((uf f u).headD 0).toNat=48→(uf f u).length=1)∧(1≤u→((uf f u).headD 0).toNat≠48)
 | 0,_,_,h=>by omega
 | f+1,u,hu,_=>by
  unfold uf
  by_cases h:u<10
  ·rw[if_pos h]
   have e:=Hf u h
   refine⟨by rw[Gu,GE,e];omega,fun c hc=>?_,by simp,fun _=>by simp,fun h1=>?_⟩
   ·have hc:=List.mem_singleton.1 hc
    rw[hc,e];omega
   ·simp only[List.headD_cons];omega
  ·rw[if_neg h]
   have h2:u / 10<10 ^ f:=by
    rw[Nat.pow_succ]at hu;omega
   have hf:1≤f:=by
    rcases Nat.eq_zero_or_pos f with rfl | hf
    ·simp at hu;omega
    ·exact hf
   obtain⟨i1,i2,i3,i4,i5⟩:=GF f (u / 10) h2 hf
   have e:=Hf (u % 10) (by omega)
   have hd:(uf f (u / 10)++[UInt8.ofNat (48+u % 10)]).headD 0=(uf f (u / 10)).headD 0:=by
    cases hq:uf f (u / 10)with
    | nil=>rw[hq]at i3;simp at i3
    | cons a b=>rfl
   refine⟨by rw[Hh,i1,e];omega,fun c hc=>?_,by simp,fun h0=>?_,fun _=>?_⟩
   ·rcases List.mem_append.1 hc with hc | hc
    ·exact i2 c hc
    ·have hc:=List.mem_singleton.1 hc
     rw[hc,e];omega
   ·rw[hd]at h0
    exact absurd h0 (i5 (by omega))
   ·rw[hd];exact i5 (by omega)
theorem GI(hN:20000≤N)(s:List UInt8)(less:Bool)(k u:Nat)(hs:s.length≤1000)(hk:k≤s.length)(hv:vl 0 (s.drop k)=u)(hu:u<1000000000)(hd:∀c∈s.drop k,48≤c.toNat∧c.toNat≤57) :
  aj (fun rec3 x=>FD N s less rec3 x.1 x.2) N ((k:Int),0)=some (if less then -(u:Int)else u,true):=by
 obtain⟨r,hr,hq⟩:=zh (B:=fun rec3 x=>FD N s less rec3 x.1 x.2) (fun g (x:Int×Int)=>∃a m:Nat,x.1=a∧x.2=m∧k≤a∧a+g=s.length∧vl m (s.drop a)=u) (fun r=>r=(if less then -(u:Int)else(u:Int),true))
  (fun g x rec hI ih=>by
   obtain⟨x1,x2⟩:=x
   obtain⟨a,m,ha,hm,hka,hag,hval⟩:=hI
   simp only at ha hm
   subst ha hm
   unfold FD
   by_cases h:a<s.length
   ·rw[if_pos (by simp only[decide_eq_true_eq];omega)]
    have hx:=List.getElem?_eq_getElem h
    have hdrop:s.drop a=s[a]::s.drop (a+1):=List.drop_eq_getElem_cons h
    have hdc:48≤s[a].toNat∧s[a].toNat≤57:=hd _ (by
     rw[List.mem_iff_getElem?]
     refine⟨a-k,?_⟩
     rw[List.getElem?_drop,show k+(a-k)=a by omega,hx])
    rw[hdrop,Gu]at hval
    have hge:=Hi (s.drop (a+1)) (10*m+(s[a].toNat-48))
    generalize hc:s[a]=c at hx hdc hval hge
    unfold F0
    rw[ij hx,Option.bind_some,if_neg (by simp only[decide_eq_true_eq];omega),Option.bind_some]
    rw[if_neg (by simp only[decide_eq_true_eq];omega),Option.bind_some]
    have e1:w64 (10*(m:Int))=10*(m:Int):=bE (by omega) (by omega)
    have e2:w64 (Go.IntKind.wrap .u8 ((c.toNat:Int)-48))=(c.toNat:Int)-48:=by
     have:Go.IntKind.wrap .u8 ((c.toNat:Int)-48)=(c.toNat:Int)-48:=by
      have hw:∀n<10,Go.IntKind.wrap .u8 ((n:Nat):Int)=((n:Nat):Int):=by decide
      have:=hw (c.toNat-48) (by omega)
      rw[show(((c.toNat-48:Nat)):Int)=(c.toNat:Int)-48 by omega]at this
      exact this
     rw[this,bE (by omega) (by omega)]
    rw[e1,e2,fN (by omega),bE (by omega) (by omega)]
    exact ih (g-1) _ (by omega) ⟨a+1,10*m+(c.toNat-48),rfl,by simp only;omega,by omega,by omega,hval⟩
   ·rw[if_neg (by simp only[decide_eq_true_eq];omega)]
    have:a=s.length:=by omega
    subst this
    rw[List.drop_length,GE]at hval
    subst hval
    unfold FV
    cases less with
    | true=>simp only[if_true,Option.bind_some];rw[bE (by omega) (by omega)];exact⟨_,rfl,rfl⟩
    | false=>exact⟨_,rfl,rfl⟩)
  N (s.length-k) ((k:Int),0) ⟨k,0,rfl,rfl,Nat.le_refl k,by omega,hv⟩ (by omega)
 rw[hr,hq]
theorem GO(hN:20000≤N){c:UInt8}{r:List UInt8}{u:Nat}(i1:vl 0 (c::r)=u)(i2:∀d∈c::r,48≤d.toNat∧d.toNat≤57)(h9:r.length+1≤9)(h5:c.toNat≠48):FH N (45::c::r)=some (-(u:Int),true):=by
 have hu:=G3 i1 i2 (by simpa using h9)
 have hl:(((45:UInt8)::c::r).length:Int)=(r.length:Int)+2:=by simp only[List.length_cons];omega
 unfold FH
 rw[hl]
 rw[if_pos (by simp only[decide_eq_true_eq];omega),show idx ((45:UInt8)::c::r) 0=some 45 from rfl,Option.bind_some,Option.bind_some]
 rw[if_pos (by decide),Option.bind_some]
 dsimp only
 rw[if_neg (by simp only[decide_eq_true_eq];omega),bE (by omega) (by omega)]
 rw[if_neg (by simp only[decide_eq_true_eq];omega),show idx ((45:UInt8)::c::r) 1=some c from rfl,Option.bind_some]
 rw[if_neg (by simp only[decide_eq_true_eq];omega),Option.bind_some]
 simp only[Bool.false_eq_true,if_false]
 have:=GI hN ((45:UInt8)::c::r) true 1 u (by simp only[List.length_cons];omega) (by simp) i1 hu i2
 simp only[if_true]at this
 exact this
theorem GP(hN:20000≤N){c:UInt8}{r:List UInt8}{u:Nat}(i1:vl 0 (c::r)=u)(i2:∀d∈c::r,48≤d.toNat∧d.toNat≤57)(h9:r.length+1≤9)(i4:c.toNat=48→r.length=0):FH N (c::r)=some ((u:Int),true):=by
 have hu:=G3 i1 i2 (by simpa using h9)
 have hc:=i2 c (List.mem_cons_self ..)
 have hl:((c::r).length:Int)=(r.length:Int)+1:=by simp only[List.length_cons];omega
 unfold FH
 rw[hl]
 rw[if_pos (by simp only[decide_eq_true_eq];omega),show idx (c::r) 0=some c from rfl,Option.bind_some,Option.bind_some]
 rw[if_neg (by simp only[decide_eq_true_eq];omega),Option.bind_some]
 dsimp only
 rw[if_neg (by simp only[decide_eq_true_eq];omega),bE (by omega) (by omega)]
 rw[if_neg (by simp only[decide_eq_true_eq];omega),show idx (c::r) 0=some c from rfl,Option.bind_some]
 have hz:(if decide ((c.toNat:Int)=48)=true then some (decide (1<(r.length:Int)+1))else some false)=some false:=by
  split
  ·rename_i h48
   simp only[decide_eq_true_eq]at h48
   have:=i4 (by omega)
   simp only[Option.some.injEq,decide_eq_false_iff_not];omega
  ·rfl
 rw[hz,Option.bind_some]
 simp only[Bool.false_eq_true,if_false]
 have:=GI hN (c::r) false 0 u (by simp only[List.length_cons];omega) (by simp) i1 hu i2
 simp only[Bool.false_eq_true,if_false]at this
 exact this
theorem GQ(hN:20000≤N){s:List UInt8}{v:Int}(h:B5 s=some v):FH N s=some (v,true):=by
 unfold B5 at h
 have e20:(10:Nat) ^ 20=100000000000000000000:=by decide
 cases ha:Go.Lib.atoiAll s with
 | ok v' =>
  rw[ha]at h
  simp only at h
  by_cases hc:w7 v'=s∧((if([45]:List UInt8).isPrefixOf s then s.drop 1 else s).length≤9)
  ·rw[if_pos hc]at h
   have hv:v'=v:=Option.some.inj h
   subst hv
   obtain⟨h1,h2⟩:=hc
   have hb:=BV ha
   by_cases hneg:v'<0
   ·have es:45::uf 20 v'.natAbs=s:=by rw[← h1];unfold w7;rw[if_pos hneg]
    obtain⟨i1,i2,i3,i4,i5⟩:=GF 20 v'.natAbs (by rw[e20];omega) (by omega)
    have h5:=i5 (by omega)
    generalize uf 20 v'.natAbs=l at es i1 i2 i3 i4 h5
    subst es
    rw[if_pos (by simp[List.isPrefixOf])]at h2
    cases l with
    | nil=>simp at i3
    | cons c r =>
     rw[GO hN i1 i2 (by simpa using h2) h5]
     congr 2
     omega
   ·have es:uf 20 v'.toNat=s:=by rw[← h1];unfold w7;rw[if_neg hneg]
    obtain⟨i1,i2,i3,i4,i5⟩:=GF 20 v'.toNat (by rw[e20];omega) (by omega)
    generalize uf 20 v'.toNat=l at es i1 i2 i3 i4
    subst es
    cases l with
    | nil=>simp at i3
    | cons c r =>
     have hc:=i2 c (List.mem_cons_self ..)
     have hpre:¬([45]:List UInt8).isPrefixOf (c::r)=true:=fun e=>by
      simp only[List.isPrefixOf,Bool.and_true,beq_iff_eq]at e
      subst e
      revert hc;decide
     rw[if_neg hpre]at h2
     rw[GP hN i1 i2 (by simpa using h2) (fun e=>by have:=i4 e;simpa using this)]
     congr 2
     omega
  ·rw[if_neg hc]at h;cases h
 | range=>rw[ha]at h;cases h
 | _=>rw[ha]at h;cases h
end Go.Proofs.YthbomkehodjepaaGreatDoor
namespace Go.Proofs.YthbomkehodjepaaGreatDoor
open Go.Kp
variable {N:Nat}
def prp (p:List UInt8):List (List UInt8)→List (List UInt8)
 | []=>[p]
 | x::r=>(p++x)::r
theorem Gt(b:UInt8)(l:List UInt8):se 32 (b::l)=if b=32 then []::se 32 l else prp [b] (se 32 l):=by
 show(if b=32 then []::se 32 l else match se 32 l with | []=>[[b]] | x::r=>(b::x)::r)=_
 split
 ·rfl
 ·cases se 32 l<;>rfl
theorem GR:∀l:List UInt8,se 32 l≠[]
 | []=>by simp[se]
 | b::l=>by
  rw[Gt]
  split
  ·simp
  ·cases se 32 l<;>simp[prp]
theorem Hd(p q:List UInt8)(l:List (List UInt8))(h:l≠[]):prp p (prp q l)=prp (p++q) l:=by
 cases l with
 | nil=>exact absurd rfl h
 | cons x r=>simp[prp]
theorem GS{l:List (List UInt8)}(h:l≠[]):prp [] l=l:=by
 cases l with
 | nil=>exact absurd rfl h
 | cons x r=>rfl
theorem G4:∀l:List UInt8,(se 32 l).length≤l.length+1
 | []=>by simp[se]
 | b::l=>by
  have ih:=G4 l
  rw[Gt]
  split
  ·simp;omega
  ·cases hq:se 32 l with
   | nil=>simp[prp]
   | cons x r=>rw[hq]at ih;simp[prp]at ih ⊢;omega
theorem G5{l:List UInt8}{f i:Nat}{c:UInt8}(hf:f≤i)(h:l[i]? = some c):(l.take (i+1)).drop f=(l.take i).drop f++[c]:=by
 have hi:=(List.getElem?_eq_some_iff.1 h).1
 rw[List.take_add_one,h]
 simp only[Option.toList]
 rw[List.drop_append_of_le_length (by rw[List.length_take];omega)]
theorem GW(hN:20000≤N)(line:List UInt8)(hl:line.length≤1000):aj (fun rec3 x=>FF N line rec3 x.1 x.2.1 x.2.2) N (0,0,[])=some (se 32 line):=by
 obtain⟨r,hr,hq⟩:=zh (B:=fun rec3 x=>FF N line rec3 x.1 x.2.1 x.2.2) (fun g (x:Int×Int×List (List UInt8)) =>
   (∃f i:Nat,x.1=f∧x.2.1=i∧f≤i∧i≤line.length∧g=line.length+1-i∧x.2.2.length≤i∧se 32 line=x.2.2++prp ((line.take i).drop f) (se 32 (line.drop i)))∨(x.2.1=(line.length:Int)+1∧x.2.2=se 32 line)) (fun r=>r=se 32 line)
  (fun g x rec hI ih=>by
   obtain⟨x1,x2,x3⟩:=x
   unfold FF
   rcases hI with⟨f,i,hf,hi,hfi,hil,hg,hx3,hs⟩ | ⟨hi,hs⟩
   ·simp only at hf hi hx3 hs
    subst hf hi
    rw[if_pos (by simp only[decide_eq_true_eq];omega)]
    have hsl:E9 line (f:Int) (i:Int)=some ():=by unfold E9;rw[if_pos ⟨by omega,by omega,by omega⟩]
    have hsub:Fb line (f:Int) (i:Int)=(line.take i).drop f:=by unfold Fb;rw[Int.toNat_natCast,Int.toNat_natCast]
    by_cases h:i=line.length
    ·subst h
     rw[if_pos (by simp only[decide_eq_true_eq]),Option.bind_some]
     simp only[if_true]
     rw[hsl,Option.bind_some,hsub,nL (by simp only[List.length_cons,List.length_nil];omega),Option.bind_some,Option.bind_some]
     dsimp only
     refine ih 0 _ (by omega) (.inr ⟨by simp only;rw[fN (by omega)];omega,?_⟩)
     simp only
     rw[hs,List.drop_length]
     simp[prp,se]
    ·have hlt:i<line.length:=by omega
     have hx:=List.getElem?_eq_getElem hlt
     have hdrop:line.drop i=line[i]::line.drop (i+1):=List.drop_eq_getElem_cons hlt
     generalize line[i]=c at hx hdrop
     rw[if_neg (by simp only[decide_eq_true_eq];omega),ij hx,Option.bind_some,Option.bind_some]
     rw[hdrop,Gt]at hs
     by_cases hc:c=32
     ·subst hc
      rw[if_pos rfl]at hs
      rw[if_pos (by decide)]
      rw[hsl,Option.bind_some,hsub,nL (by simp only[List.length_cons,List.length_nil];omega),Option.bind_some,Option.bind_some]
      dsimp only
      rw[fN (by omega)]
      refine ih (g-1) _ (by omega) (.inl ⟨i+1,i+1,rfl,rfl,Nat.le_refl _,hlt,by omega,by simp only[List.length_append,List.length_cons,List.length_nil];omega,?_⟩)
      simp only
      have e0:(line.take (i+1)).drop (i+1)=[]:=List.drop_eq_nil_of_le (by rw[List.length_take];omega)
      rw[hs,e0,GS (GR _)]
      simp[prp]
     ·rw[if_neg hc]at hs
      have hc':¬((c.toNat:Int)=32):=fun e=>hc (by
       apply UInt8.toNat_inj.1
       have:(32:UInt8).toNat=32:=rfl
       omega)
      rw[if_neg (by simp only[decide_eq_true_eq];exact hc'),Option.bind_some]
      dsimp only
      rw[fN (by omega)]
      refine ih (g-1) _ (by omega) (.inl ⟨f,i+1,rfl,rfl,by omega,hlt,by omega,by simp only;omega,?_⟩)
      simp only
      rw[hs,Hd _ _ _ (GR _),G5 hfi hx]
   ·simp only at hi hs
    subst hi hs
    rw[if_neg (by simp only[decide_eq_true_eq];omega)]
    exact⟨_,rfl,rfl⟩)
  N (line.length+1) (0,0,[]) (.inl ⟨0,0,rfl,rfl,Nat.le_refl _,by omega,by omega,by simp,by simp[GS (GR _)]⟩) (by omega)
 rw[hr,hq]
theorem G6(hN:20000≤N)(l:List (List UInt8))(hl:l.length≤1000){h0:List UInt8}(hh:l[0]? = some h0){ns:List Int}(hn:Ap l.tail=some ns):aj (fun rec5 x=>FE N l rec5 x.1 x.2) N (1,[])=some (h0,ns,true):=by
 obtain⟨r,hr,hq⟩:=zh (B:=fun rec5 x=>FE N l rec5 x.1 x.2) (fun g (x:Int×List Int)=>∃i:Nat,x.1=i∧1≤i∧i+g=l.length∧x.2.length≤i∧∃rest,Ap (l.drop i)=some rest∧ns=x.2++rest) (fun r=>r=(h0,ns,true))
  (fun g x rec hI ih=>by
   obtain⟨x1,x2⟩:=x
   obtain⟨i,hi,h1,hg,hx2,rest,hrest,hns⟩:=hI
   simp only at hi hx2 hns
   subst hi
   unfold FE
   by_cases h:i<l.length
   ·rw[if_pos (by simp only[decide_eq_true_eq];omega)]
    have hx:=List.getElem?_eq_getElem h
    have hdrop:l.drop i=l[i]::l.drop (i+1):=List.drop_eq_getElem_cons h
    generalize l[i]=w at hx hdrop
    rw[hdrop]at hrest
    unfold Ap at hrest
    cases hw:B5 w with
    | none=>rw[hw]at hrest;cases hrest
    | some v =>
     rw[hw]at hrest
     simp only at hrest
     cases hr:Ap (l.drop (i+1))with
     | none=>rw[hr]at hrest;cases hrest
     | some r2 =>
      rw[hr]at hrest
      have hrest:=Option.some.inj hrest
      subst hrest
      rw[ij hx,Option.bind_some,GQ hN hw,Option.bind_some]
      dsimp only
      rw[if_neg (by decide),nL (by simp only[List.length_cons,List.length_nil];omega),Option.bind_some,fN (by omega)]
      exact ih (g-1) _ (by omega) ⟨i+1,rfl,by omega,by omega,by simp only[List.length_append,List.length_cons,List.length_nil];omega,r2,hr,by simp only;rw[hns];simp⟩
   ·rw[if_neg (by simp only[decide_eq_true_eq];omega)]
    have:i=l.length:=by omega
    subst this
    rw[List.drop_length]at hrest
    have hrest:=Option.some.inj hrest
    subst hrest
    unfold Gd
    rw[show(0:Int)=((0:Nat):Int)from rfl,ij hh,Option.bind_some]
    exact⟨_,rfl,by rw[hns];simp⟩)
  N (l.length-1) (1,[]) ⟨1,rfl,Nat.le_refl 1,by have:=lP hh;omega,by simp,ns,by rw[List.drop_one];exact hn,by simp⟩ (by omega)
 rw[hr,hq]
theorem Gy{k:List UInt8}{c:DeskAct}(h:mget aM9 k=some c):(k=[98,111,119,108,101,114]∧c=DeskAct.mk 1 0)∨(k=[111,112,101,110]∧c=DeskAct.mk 2 1)∨(k=[98,97,108,108]∧c=DeskAct.mk 2 2)∨(k=[98,97,99,107]∧c=DeskAct.mk 1 3)∨(k=[99,108,111,115,101]∧c=DeskAct.mk 1 4)∨(k=[115,104,101,101,116]∧c=DeskAct.mk 2 5)∨(k=[115,116,114,105,107,101]∧c=DeskAct.mk 1 6)∨(k=[100,117,101,108]∧c=DeskAct.mk 1 7)∨(k=[100,111,117,98,116]∧c=DeskAct.mk 1 8):=by
 unfold aM9 aM8 aM7 aM6 aM5 aM4 aM3 aM2 aM1 at h
 simp only[Az]at h
 repeat' (split at h)
 all_goals first | (rename_i hk;injection h with h;subst h;simp[hk]) | cases h
theorem GX(hN:20000≤N){line:List UInt8}(hl:line.length≤210){c:DeskAct}(hc:mget aM9 ((se 32 line).headD [])=some c)(hlen:((se 32 line).length:Int)=c.fMany+1){ns:List Int}(hn:Ap (se 32 line).tail=some ns):F9 N line=some ((se 32 line).headD [],ns,true):=by
 have hll:=G4 line
 unfold F9
 rw[GW hN line (by omega),Option.bind_some]
 have hh:(se 32 line)[0]? = some ((se 32 line).headD []):=by
  cases hq:se 32 line with
  | nil=>exact absurd hq (GR _)
  | cons x r=>rfl
 have hfin:=G6 hN (se 32 line) (by omega) hh hn
 rw[show(0:Int)=((0:Nat):Int)from rfl,ij hh,Option.bind_some]
 generalize(se 32 line).headD []=k at hc hfin
 generalize se 32 line=q at hlen hfin
 have fin1:∀m:Int,(q.length:Int)=m+1→0≤m→m≤2→(if !decide ((q.length:Int)=(w64 (m+1)))then some ((([]:List UInt8),[],false))else aj (fun rec5 x=>FE N q rec5 x.1 x.2) N (1,[]))=some (k,ns,true):=fun m hm h0 h2=>by
  rw[bE (by omega) (by omega),if_neg (by simp[hm])]
  exact hfin
 rcases Gy hc with⟨rfl,rfl⟩ | ⟨rfl,rfl⟩ | ⟨rfl,rfl⟩ | ⟨rfl,rfl⟩ | ⟨rfl,rfl⟩ | ⟨rfl,rfl⟩ | ⟨rfl,rfl⟩ | ⟨rfl,rfl⟩ | ⟨rfl,rfl⟩
 ·exact fin1 1 hlen (by omega) (by omega)
 ·exact fin1 2 hlen (by omega) (by omega)
 ·exact fin1 2 hlen (by omega) (by omega)
 ·exact fin1 1 hlen (by omega) (by omega)
 ·exact fin1 1 hlen (by omega) (by omega)
 ·exact fin1 2 hlen (by omega) (by omega)
 ·exact fin1 1 hlen (by omega) (by omega)
 ·exact fin1 1 hlen (by omega) (by omega)
 ·exact fin1 1 hlen (by omega) (by omega)
end Go.Proofs.YthbomkehodjepaaGreatDoor
namespace Go.Proofs.YthbomkehodjepaaGreatDoor
open Go.Kp
variable {N:Nat}
def cnt (s:DeskState)(k:Nat):Nat:=((s.fKept[k]?).getD []).length+3*s.fSheets.countP fun x=>decide (x.fBowler=(k:Int))
def lbw (s:DeskState)(j:Nat):Int:=match s.fLanes[j]? with
 | some x=>x.fBowler
 | none=>-1
theorem Gv{s t:DeskState}{n:Nat}{x y:DeskLane}(hx:s.fLanes[n]? = some x)(ht:t.fLanes=s.fLanes.set n y)(j:Nat):lbw t j=if j=n then y.fBowler else lbw s j:=by
 have hl:=(List.getElem?_eq_some_iff.1 hx).1
 unfold lbw
 rw[ht,List.getElem?_set]
 by_cases h:n=j
 ·subst h
  rw[if_pos rfl,if_pos hl,if_pos rfl]
 ·rw[if_neg h,if_neg (fun e=>h e.symm)]
theorem GG{s:DeskState}{n:Nat}{x:DeskLane}(hx:s.fLanes[n]? = some x):lbw s n=x.fBowler:=by unfold lbw;rw[hx]
def Eff (s t:DeskState)(d a b:Int):Prop:=s.fBowlers.length≤t.fBowlers.length ∧
 (if d=1 then 0≤a∧a<4∧(∀j,lbw t j=if(j:Int)=a then b else lbw s j)∧∀k,cnt t k=cnt s k
 else if d=4 then 0≤a∧a<4∧lbw s a.toNat≠-1∧(∀j,lbw t j=if(j:Int)=a then -1 else lbw s j)∧∀k:Nat,cnt t k=cnt s k+if(k:Int)=lbw s a.toNat then 1 else 0
 else(∀j,lbw t j=lbw s j)∧∀k,cnt t k=cnt s k)
theorem Gj{s t:DeskState}{d a b:Int}(h1:d≠1)(h4:d≠4)(hb:s.fBowlers.length≤t.fBowlers.length)(hl:∀j,lbw t j=lbw s j)(hc:∀k,cnt t k=cnt s k):Eff s t d a b:=by
 unfold Eff
 rw[if_neg h1,if_neg h4]
 exact⟨hb,hl,hc⟩
theorem He{i:Nat}{s t:DeskState}(hS:SI i s){ms:List LadderMatch}{d:Int}{l:List Int}(hd:0≤d∧d≤8)(h:AD N s ms d l=.inr t):Eff s t d (l.getD 0 0) (l.getD 1 0):=by
 have hla:=hS.la
 have hkl:=hS.kl
 unfold AD at h
 simp only at h
 generalize l.getD 0 0=a at h ⊢
 generalize l.getD 1 0=b at h ⊢
 split at h
 ·rename_i h0
  subst h0
  unfold zN at h
  split at h
  ·cases h
  split at h
  ·cases h
  split at h
  ·cases h
  cases h
  refine Gj (by decide) (by decide) (by simp) (fun j=>rfl) fun k=>?_
  unfold cnt
  simp only
  congr 1
  rcases Nat.lt_trichotomy k s.fKept.length with hk | hk | hk
  ·rw[List.getElem?_append_left hk]
  ·subst hk
   rw[List.getElem?_append_right (Nat.le_refl _),Nat.sub_self,List.getElem?_eq_none (Nat.le_refl _)];rfl
  ·rw[List.getElem?_eq_none (by simp;omega),List.getElem?_eq_none (by omega)]
 split at h
 ·rename_i h1
  subst h1
  unfold AO at h
  split at h
  ·cases h
  rename_i x hx
  obtain⟨q1,q2,q3⟩:=zr hx
  split at h
  ·cases h
  split at h
  ·cases h
   unfold Eff
   rw[if_pos rfl]
   refine⟨Nat.le_refl _,q1,by omega,fun j=>?_,fun k=>rfl⟩
   rw[Gv q3 rfl j]
   by_cases hj:j=a.toNat
   ·rw[if_pos hj,if_pos (by omega)]
   ·rw[if_neg hj,if_neg (by omega)]
  ·cases h
 split at h
 ·rename_i h2
  subst h2
  unfold AP at h
  split at h
  ·cases h
  rename_i x hx
  obtain⟨q1,q2,q3⟩:=zr hx
  split at h
  ·cases h
  split at h
  ·cases h
   refine Gj (by decide) (by decide) (Nat.le_refl _) (fun j=>?_) fun k=>rfl
   rw[Gv q3 rfl j]
   split
   ·rename_i hj;rw[hj,GG q3]
   ·rfl
  ·cases h
 split at h
 ·rename_i h3
  subst h3
  unfold AQ at h
  split at h
  ·cases h
  rename_i x hx
  obtain⟨q1,q2,q3⟩:=zr hx
  split at h
  ·cases h
  split at h
  ·cases h
  cases h
  refine Gj (by decide) (by decide) (Nat.le_refl _) (fun j=>?_) fun k=>rfl
  rw[Gv q3 rfl j]
  split
  ·rename_i hj;rw[hj,GG q3]
  ·rfl
 split at h
 ·rename_i h4
  subst h4
  unfold Af at h
  split at h
  ·cases h
  rename_i x hx
  obtain⟨q1,q2,q3⟩:=zr hx
  have hlb:=hS.lb x (List.mem_of_getElem? q3)
  split at h
  ·cases h
  rename_i hne
  split at h
  ·rename_i c k _ hk
   cases h
   unfold Eff
   rw[if_neg (by decide),if_pos rfl,GG q3]
   refine⟨Nat.le_refl _,q1,by omega,hne,fun j=>?_,fun m=>?_⟩
   ·rw[Gv (s:={s with fKept:=s.fKept.set x.fBowler.toNat (k++[c])}) q3 rfl j]
    by_cases hj:j=a.toNat
    ·rw[if_pos hj,if_pos (by omega)]
    ·rw[if_neg hj,if_neg (by omega)];rfl
   ·unfold cnt put
    simp only
    rw[List.getElem?_set]
    by_cases hm:x.fBowler.toNat=m
    ·subst hm
     rw[if_pos rfl,if_pos (List.getElem?_eq_some_iff.1 hk).1,hk,if_pos (by omega)]
     simp only[Option.getD_some,List.length_append,List.length_cons,List.length_nil]
     omega
    ·rw[if_neg hm,if_neg (by omega)];omega
  ·cases h
 split at h
 ·rename_i h5
  subst h5
  unfold Ag at h
  split at h
  ·cases h
  split at h
  ·cases h
  rename_i hkn
  have hkn:known s b:=Classical.not_not.1 hkn
  split at h
  ·cases h
  rename_i k hk
  split at h
  ·cases h
  rename_i h3
  split at h
  ·cases h
  cases h
  refine Gj (by decide) (by decide) (Nat.le_refl _) (fun j=>rfl) fun m=>?_
  unfold cnt
  simp only
  rw[List.getElem?_set,List.countP_append]
  have hb0:=hkn.1
  by_cases hm:b.toNat=m
  ·subst hm
   rw[if_pos rfl,if_pos (List.getElem?_eq_some_iff.1 hk).1,hk]
   have hbb:decide (b=((b.toNat:Nat):Int))=true:=by simp only[decide_eq_true_eq];omega
   simp only[Option.getD_some,List.length_take,List.countP_cons,List.countP_nil,hbb,if_true]
   omega
  ·rw[if_neg hm]
   have hbb:decide (b=((m:Nat):Int))=false:=by simp only[decide_eq_false_iff_not];omega
   simp[List.countP_cons,hbb]
 split at h
 ·rename_i h6
  subst h6
  unfold zO at h
  split at h
  ·cases h
  split at h
  ·cases h
   exact Gj (by decide) (by decide) (Nat.le_refl _) (fun j=>rfl) fun k=>rfl
  ·cases h
 split at h
 ·rename_i h7
  subst h7
  unfold AS at h
  split at h
  ·cases h
  split at h
  ·cases h
   exact Gj (by decide) (by decide) (Nat.le_refl _) (fun j=>rfl) fun k=>rfl
  ·cases h
 ·have:d=8:=by omega
  subst this
  unfold Ah at h
  split at h
  ·cases h
  split at h
  ·cases h
  split at h
  ·cases h
  ·cases h
   exact Gj (by decide) (by decide) (Nat.le_refl _) (fun j=>rfl) fun k=>rfl
theorem GJ{i:Nat}{s:DeskState}(hS:SI i s)(hi:i≤60)(hN:20000≤N){line:List UInt8}(hl:line.length≤210)(h0:(stepW N s line).1=0):∃c ns,mget aM9 ((se 32 line).headD [])=some c∧(ns.length:Int)=c.fMany∧F9 N line=some ((se 32 line).headD [],ns,true)∧Eff s (stepW N s line).2 c.fDo (ns.getD 0 0) (ns.getD 1 0):=by
 have hok:=B8 hS hi hN (nxl N s) line
 unfold stepW at h0 ⊢
 cases hs:zJ N s (nxl N s) line with
 | inl e =>
  rw[hs]at h0 hok
  exact absurd h0 hok
 | inr t =>
  simp only
  unfold zJ at hs
  split at hs
  ·cases hs
  rename_i c hc
  split at hs
  ·cases hs
  rename_i hlen
  have hlen:((se 32 line).length:Int)=c.fMany+1:=Classical.not_not.1 hlen
  split at hs
  ·cases hs
  rename_i ns hns
  refine⟨c,ns,hc,?_,GX hN hl hc hlen hns,He hS (B6 hc).1 hs⟩
  have h1:=GD hns
  rw[List.length_tail]at h1
  have h2:=(B6 hc).2.1
  omega
end Go.Proofs.YthbomkehodjepaaGreatDoor
namespace Go.Proofs.YthbomkehodjepaaGreatDoor
open Go.Kp
variable {N:Nat}
def ga (L:Ar4 Int)(j:Nat):Int:=if j=0 then L.a0 else if j=1 then L.a1 else if j=2 then L.a2 else L.a3
def LI (s:DeskState)(L:Ar4 Int):Prop:=∀j,j<4→lbw s j=-1∨lbw s j=ga L j
def KC (B:Nat)(s:DeskState)(l:List Int):Prop:=l.length=B∧∀k,k<B→l[k]? = some (cnt s k:Int)
theorem GZ(n a b:Int):Gl N n a b=some (decide (a≤n∧n≤b)):=by
 unfold Gl
 by_cases h:a≤n
 ·simp[h]
 ·simp[h]
theorem Hg{i:Nat}{s:DeskState}(hS:SI i s)(hi:i≤60)(k:Nat):cnt s k≤180:=by
 unfold cnt
 have h1:s.fSheets.countP (fun x=>decide (x.fBowler=(k:Int)))≤s.fSheets.length:=List.countP_le_length
 have h2:=hS.sl
 have h3:((s.fKept[k]?).getD []).length≤i:=by
  cases hk:s.fKept[k]? with
  | none=>simp
  | some x=>exact hS.kb x (List.mem_of_getElem? hk)
 omega
theorem G0(hN:20000≤N):∀(r:List (List UInt8)) {i:Nat} {s:DeskState},SI i s→i+r.length≤60→(∀y∈r,y.length≤210)→(∀e∈zB N s r,e=0)→s.fBowlers.length≤(zv N s r).fBowlers.length
 | [],_,_,_,_,_,_=>Nat.le_refl _
 | y::r,i,s,hS,hl,hy,he=>by
  simp only[List.length_cons]at hl
  have h0:(stepW N s y).1=0:=he _ (List.mem_cons_self ..)
  obtain⟨c,ns,_,_,_,hE⟩:=GJ hS (by omega) hN (hy y (List.mem_cons_self ..)) h0
  exact Nat.le_trans hE.1 (G0 hN r (step_ok hS (by omega) hN y).1 (by omega) (fun z hz=>hy z (List.mem_cons_of_mem _ hz)) (fun e hh=>he e (List.mem_cons_of_mem _ hh)))
theorem G1(hN:20000≤N)(hw:cL N=some true){i:Nat}{s:DeskState}(hS:SI i s)(hi:i≤60){l:List Int}(hl:KC s.fBowlers.length s l):FG N s l=some true:=by
 have hbl:=hS.bl
 have hkl:=hS.kl
 have hsl:=hS.sl
 unfold FG
 have key:=rY (N:=N) (B:=fun rec x=>Fd N s l rec x) s.fKept (fun i=>(i:Int)) (fun _=>some true)
  (fun rec=>by
   show Fd N s l rec (s.fKept.length:Int)=_
   unfold Fd FI
   rw[if_neg (by simp only[decide_eq_true_eq];have:=hl.1;omega),hw];rfl)
  (fun j x rec hx ih=>by
   have hlt:=lP hx
   have hxl:=hS.kb x (List.mem_of_getElem? hx)
   show Fd N s l rec (j:Int)=_
   unfold Fd
   rw[if_pos (by simp only[decide_eq_true_eq];have:=hl.1;omega),ij hx,Option.bind_some]
   have k3:=lO (N:=N) (B:=fun rec28 y=>Fh N s (j:Int) rec28 y.1 y.2) s.fSheets (fun i (c:Nat)=>((c:Int),(i:Int))) (fun r c=>some (((c+3*r.countP (fun x=>decide (x.fBowler=(j:Int))):Nat)):Int)) (fun i c=>c≤100+3*i)
    (fun c rec _=>by
     unfold Fh
     rw[if_neg (by simp)];simp)
    (fun q y c rec hy hc ih2=>by
     have hlt2:=lP hy
     unfold Fh
     rw[if_pos (by simp only[decide_eq_true_eq];omega),ij hy,Option.bind_some,fN (by omega)]
     by_cases hyx:y.fBowler=(j:Int)
     ·rw[if_pos (by simp only[decide_eq_true_eq];exact hyx),Option.bind_some,show w64 ((c:Int)+3)=((c+3:Nat):Int)from by rw[bE (by omega) (by omega)];rfl]
      rw[ih2 (c+3) (by omega),List.countP_cons]
      simp only[hyx,decide_true,if_true]
      congr 1;omega
     ·rw[if_neg (by simp only[decide_eq_true_eq];exact hyx),Option.bind_some]
      rw[ih2 c (by omega),List.countP_cons]
      simp only[hyx,decide_false,Bool.false_eq_true,if_false,Nat.add_zero])
    (by omega) x.length (by omega)
   simp only[Int.natCast_zero]at k3
   rw[k3,Option.bind_some,ij (hl.2 j (by omega)),Option.bind_some]
   have:(((x.length+3*s.fSheets.countP (fun x=>decide (x.fBowler=(j:Int))):Nat)):Int)=(cnt s j:Int):=by
    unfold cnt;rw[hx];rfl
   rw[this]
   simp only[decide_true,Bool.not_true,Bool.false_eq_true,if_false]
   unfold FJ
   rw[fN (by omega),ih])
  (by omega)
 simp only[Int.natCast_zero]at key
 exact key
theorem GU(hN:20000≤N)(hw:cL N=some true)(F:DeskState)(ks:List (List UInt8))(hk:ks.length≤55)(hy:∀y∈ks,y.length≤210)(h0:∀e∈zB N st0 ks,e=0)(hF:zv N st0 ks=F){l:List Int}(hl:l=List.replicate F.fBowlers.length 0):aj (fun rec29 x=>Ff N F ks rec29 x.1 x.2.1 x.2.2) N (0,Ar4.mk 0 0 0 0,l)=some true:=by
 obtain⟨r,hr,hq⟩:=zh (B:=fun rec29 x=>Ff N F ks rec29 x.1 x.2.1 x.2.2) (fun g (x:Int×Ar4 Int×List Int)=>∃(pre r:List (List UInt8)) (s:DeskState),ks=pre++r∧x.1=(pre.length:Int)∧g=r.length∧SI pre.length s∧zv N s r=F∧(∀e∈zB N s r,e=0)∧LI s x.2.1∧KC F.fBowlers.length s x.2.2) (fun r=>r=true)
  (fun g x rec hI ih=>by
   obtain⟨x1,L,l⟩:=x
   obtain⟨pre,r,s,hks,hx1,hg,hS,hrun,he,hLI,hCI⟩:=hI
   simp only at hx1 hLI hCI
   subst hx1 hg
   have hlen:ks.length=pre.length+r.length:=by rw[hks];simp
   unfold Ff
   cases r with
   | nil =>
    simp only[List.length_nil]at hlen
    rw[if_neg (by simp only[decide_eq_true_eq];omega)]
    have hrun:s=F:=hrun
    subst hrun
    exact⟨_,G1 hN hw hS (by omega) hCI,rfl⟩
   | cons y r =>
    simp only[List.length_cons]at hlen
    have hyk:ks[pre.length]? = some y:=by rw[hks,List.getElem?_append_right (Nat.le_refl _),Nat.sub_self];rfl
    have hyl:=hy y (List.mem_of_getElem? hyk)
    have hst0:(stepW N s y).1=0:=he _ (List.mem_cons_self ..)
    obtain⟨c,ns,hc,hns,hparse,hb,hE⟩:=GJ hS (by omega) hN hyl hst0
    have hT:=(step_ok hS (by omega) hN y).1
    have hre:∀e∈zB N (stepW N s y).2 r,e=0:=fun e hh=>he e (List.mem_cons_of_mem _ hh)
    have hrn:zv N (stepW N s y).2 r=F:=hrun
    have hmono:=G0 hN r hT (by omega) (fun z hz=>hy z (by rw[hks];exact List.mem_append_right _ (List.mem_cons_of_mem _ hz))) hre
    rw[hrn]at hmono
    have hnext:∀(L':Ar4 Int) (l':List Int),LI (stepW N s y).2 L'→KC F.fBowlers.length (stepW N s y).2 l'→∃b,Fe N (pre.length:Int) rec L' l'=some b∧b=true:=fun L' l' h1 h2=>by
     unfold Fe
     rw[fN (by omega)]
     exact ih r.length _ (by simp) ⟨pre++[y],r,(stepW N s y).2,by rw[hks];simp,by simp,rfl,by rw[List.length_append];exact hT,hrn,hre,h1,h2⟩
    generalize(stepW N s y).2=t at hb hE hT hmono hnext
    rw[if_pos (by simp only[decide_eq_true_eq];omega),ij hyk,Option.bind_some,hparse,Option.bind_some]
    dsimp only
    simp only[Bool.not_true,Bool.false_eq_true,if_false]
    have hsame:(if c.fDo=1 then False else if c.fDo=4 then False else True)→LI t L∧KC F.fBowlers.length t l:=fun hd=>by
     split at hd
     ·exact hd.elim
     split at hd
     ·exact hd.elim
     rename_i h1 h4
     rw[if_neg h1,if_neg h4]at hE
     refine⟨fun j hj=>by rw[hE.1];exact hLI j hj,hCI.1,fun k hk2=>by rw[hE.2];exact hCI.2 k hk2⟩
    have hns0:∀m:Nat,c.fMany=m→1≤m→idx ns 0=some (ns.getD 0 0):=fun m hm h1=>by
     refine ij (i:=0) ?_
     rw[List.getD_eq_getElem?_getD,List.getElem?_eq_getElem (by omega)];rfl
    rcases Gy hc with⟨hk0,rfl⟩ | ⟨hk0,rfl⟩ | ⟨hk0,rfl⟩ | ⟨hk0,rfl⟩ | ⟨hk0,rfl⟩ | ⟨hk0,rfl⟩ | ⟨hk0,rfl⟩ | ⟨hk0,rfl⟩ | ⟨hk0,rfl⟩<;>rw[hk0]
    ·exact hnext L l (hsame trivial).1 (hsame trivial).2
    ·rw[if_pos rfl]at hE
     have e0:=hns0 2 rfl (by omega)
     have e1:idx ns 1=some (ns.getD 1 0):=by
      refine ij (i:=1) ?_
      simp only at hns
      rw[List.getD_eq_getElem?_getD,List.getElem?_eq_getElem (by omega)];rfl
     generalize ns.getD 0 0=a at hE e0
     generalize ns.getD 1 0=b at hE e1
     obtain⟨ha0,ha4,hlb,hcn⟩:=hE
     rw[if_pos (by decide),e0,Option.bind_some,GZ,Option.bind_some,Option.bind_some,decide_eq_true (show 0≤a∧a≤3 by omega)]
     simp only[if_true,Option.bind_some,e1]
     have hCI':KC F.fBowlers.length t l:=⟨hCI.1,fun k hk2=>by rw[hcn];exact hCI.2 k hk2⟩
     have hgo:∀L',(∀j,j<4→ga L' j=if(j:Int)=a then b else ga L j)→LI t L':=fun L' hL' j hj=>by
      rw[hL' j hj,hlb j]
      split
      ·exact .inr rfl
      ·exact hLI j hj
     have ha:a=0∨a=1∨a=2∨a=3:=by omega
     rcases ha with rfl | rfl | rfl | rfl
     ·exact hnext _ l (hgo _ (fun j hj=>by have hj:j=0∨j=1∨j=2∨j=3:=(by omega);rcases hj with rfl | rfl | rfl | rfl<;>rfl)) hCI'
     ·exact hnext _ l (hgo _ (fun j hj=>by have hj:j=0∨j=1∨j=2∨j=3:=(by omega);rcases hj with rfl | rfl | rfl | rfl<;>rfl)) hCI'
     ·exact hnext _ l (hgo _ (fun j hj=>by have hj:j=0∨j=1∨j=2∨j=3:=(by omega);rcases hj with rfl | rfl | rfl | rfl<;>rfl)) hCI'
     ·exact hnext _ l (hgo _ (fun j hj=>by have hj:j=0∨j=1∨j=2∨j=3:=(by omega);rcases hj with rfl | rfl | rfl | rfl<;>rfl)) hCI'
    ·exact hnext L l (hsame trivial).1 (hsame trivial).2
    ·exact hnext L l (hsame trivial).1 (hsame trivial).2
    ·rw[if_neg (by decide),if_pos rfl]at hE
     have e0:=hns0 1 rfl (by omega)
     generalize ns.getD 0 0=a at hE e0
     obtain⟨ha0,ha4,hne,hlb,hcn⟩:=hE
     rw[if_neg (by decide),Option.bind_some]
     simp only[Bool.false_eq_true,if_false]
     rw[if_pos (by decide),e0,Option.bind_some,GZ,Option.bind_some,Option.bind_some,decide_eq_true (show 0≤a∧a≤3 by omega)]
     simp only[if_true,Option.bind_some]
     obtain⟨w,hwv⟩:∃w,w=lbw s a.toNat:=⟨_,rfl⟩
     have hga:ga L a.toNat=w:=by
      rcases hLI a.toNat (by omega)with h | h
      ·exact absurd h hne
      ·rw[hwv,h]
     have hsel:(if decide (a=0)=true then some L.a0 else if decide (a=1)=true then some L.a1 else if decide (a=2)=true then some L.a2 else if decide (a=3)=true then some L.a3 else none)=some w:=by
      rw[← hga]
      have ha:a=0∨a=1∨a=2∨a=3:=by omega
      rcases ha with rfl | rfl | rfl | rfl<;>rfl
     rw[hsel,Option.bind_some]
     have hwb:0≤w∧w<s.fBowlers.length:=by
      have hx:s.fLanes[a.toNat]? = some (s.fLanes[a.toNat]'(by have:=hS.la;omega)):=List.getElem?_eq_getElem _
      have:=hS.lb _ (List.getElem_mem (by have:=hS.la;omega:a.toNat<s.fLanes.length))
      rw[GG hx]at hwv hne
      omega
     have hFb:F.fBowlers.length≤8∨True:=.inr trivial
     have hlb8:=hS.bl
     have hle:(l.length:Int)=(F.fBowlers.length:Int):=by rw[hCI.1]
     have hF8:F.fBowlers.length≤1000:=by
      have h1:=Bq (N:=N) hN ks AU (by omega)
      rw[hF]at h1
      have:=h1.bl
      omega
     rw[GZ,Option.bind_some,hle,bE (by omega) (by omega),decide_eq_true (show 0≤w∧w≤(F.fBowlers.length:Int)-1 by omega)]
     simp only[if_true]
     have hcw:=hCI.2 w.toNat (by omega)
     have hc180:=Hg hS (by omega) w.toNat
     rw[yy hwb.1 hcw,Option.bind_some]
     have e2:w64 ((cnt s w.toNat:Int)+1)=((cnt s w.toNat+1:Nat):Int):=fN (by omega)
     rw[e2]
     refine hnext L _ (fun j hj=>?_) ⟨by rw[List.length_set];exact hCI.1,fun k hk2=>?_⟩
     ·rw[hlb j]
      split
      ·exact .inl rfl
      ·exact hLI j hj
     ·rw[List.getElem?_set,hcn,← hwv]
      by_cases hkw:w.toNat=k
      ·rw[if_pos hkw,if_pos (by rw[hCI.1];omega),if_pos (by omega),hkw]
      ·rw[if_neg hkw,if_neg (by omega),Nat.add_zero];exact hCI.2 k hk2
    ·exact hnext L l (hsame trivial).1 (hsame trivial).2
    ·exact hnext L l (hsame trivial).1 (hsame trivial).2
    ·exact hnext L l (hsame trivial).1 (hsame trivial).2
    ·exact hnext L l (hsame trivial).1 (hsame trivial).2)
  N ks.length (0,Ar4.mk 0 0 0 0,l) ⟨[],ks,st0,rfl,rfl,rfl,AU,hF,h0,fun j hj=>.inl (by
   have:j=0∨j=1∨j=2∨j=3:=by omega
   rcases this with rfl | rfl | rfl | rfl<;>rfl),by rw[hl];simp,fun k hk2=>by
    simp only
    rw[hl,List.getElem?_replicate,if_pos hk2];rfl⟩ (by omega)
 rw[hr,hq]
theorem GV(N:Nat)(hN:20000≤N)(hw:cL N=some true)(lines:List (List UInt8)):FL N lines=some true:=by
 unfold FL
 obtain⟨b,hb,hs⟩:=BI hN lines
 rw[hb,Option.bind_some]
 cases b with
 | true=>simp only[if_true];rw[hw];rfl
 | false =>
  obtain⟨h50,h200⟩:=hs rfl
  simp only[Bool.false_eq_true,if_false]
  rw[AG hN lines h50 h200,Option.bind_some]
  dsimp only
  have hS:=Bq (N:=N) hN lines AU (by omega)
  have hkl:=hS.kl
  have hbl:=hS.bl
  obtain⟨hk1,hk2⟩:=Bc (N:=N) hN lines AU (by omega)
  obtain⟨hm1,hm2⟩:=Bd (N:=N) lines st0
  simp only[Bool.not_true,Bool.false_eq_true,if_false,hkl,decide_true,Option.bind_some]
  unfold mkl
  rw[if_pos ⟨by omega,by omega⟩,Option.bind_some]
  exact GU hN hw _ _ (by omega) (fun y hy=>by have:=h200 y (hm1 y hy);omega) hk2 hk1 (by rw[Int.toNat_natCast])
theorem G2(lines:List (List UInt8)):FL 30000 lines=some true:=GV 30000 (by omega) vr lines
end Go.Proofs.YthbomkehodjepaaGreatDoor
