/-
 Values that may be compared: their kinds, cell by cell; '==' and a map's keys on them, as the model runs them.
-/
import Derived.Test.YtdodahpkpeodfaaGreatDoorAbsB
import Derived.ChangeKeysEq
import Derived.WideKeyRuns
import Derived.MapKept
import Derived.DeepKeys2
set_option linter.all false
open Bool renaming and_eq_true→wH,and_true→Cf
open List renaming drop_drop→Bo,eq_nil_of_length_eq_zero→JB,flatten_cons→Bz,length_cons→IS,replicate→Iu,replicate_succ→CB
namespace Go.Abs
open Go
def SK.ok:SK→Value→Bool
 | .int k,.int k' _=>decide (k=k')
 | .bool,.bool _=>true
 | .str,.string _=>true
 | _,_=>false
def aN:List SK→List Value→Bool
 | [],[]=>true
 | k::ks,v::vs=>k.ok v&&aN ks vs
 | _,_=>false
def eqV:Value→Value→Bool
 | .int _ a,.int _ b=>a == b
 | .bool a,.bool b=>a == b
 | .string a,.string b=>a.toList == b.toList
 | _,_=>false
def dW:List Value→List Value→Bool
 | [],[]=>true
 | a::as,b::bs=>eqV a b&&dW as bs
 | _,_=>false
theorem cR:∀{ks:List SK} {l:List Value},aN ks l=true→ks.length=l.length
 | [],[],_=>rfl
 | _::_,_::_,h=>by simp only[aN,wH]at h;simp[cR h.2]
 | [],_::_,h=>by simp[aN]at h
 | _::_,[],h=>by simp[aN]at h
theorem LJ:∀{ks ks':List SK} {l:List Value},aN (ks++ks') l=true→aN ks (l.take ks.length)=true∧aN ks' (l.drop ks.length)=true
 | [],_,_,h=>by simpa [aN]using h
 | k::ks,ks',[],h=>by simp[aN]at h
 | k::ks,ks',v::l,h=>by
  simp only[List.cons_append,aN,wH]at h
  have:=LJ h.2
  simp only[IS,List.take_succ_cons,List.drop_succ_cons,aN,wH]
  exact⟨⟨h.1,this.1⟩,this.2⟩
theorem ny(k:Nat):∀(a b:List Value),k≤a.length→k≤b.length→dW a b=(dW (a.take k) (b.take k)&&dW (a.drop k) (b.drop k)):=by
 induction k with
 | zero=>intro a b _ _;simp[dW]
 | succ k ih =>
  intro a b ha hb
  cases a with
  | nil=>simp at ha
  | cons x a =>
   cases b with
   | nil=>simp at hb
   | cons y b =>
    simp only[IS]at ha hb
    simp only[dW,List.take_succ_cons,List.drop_succ_cons,ih a b (by omega) (by omega),Bool.and_assoc]
def bP (P:Program)(t:TypeId)(v:Value)(l:List Value):Prop:=match P.underlying t with
 | some (.struct _) | some (.array _ _)=>v=.agg ⟨l⟩
 | _=>l=[v]
section
variable {P:Program}
theorem tR{f:Nat}{t:TypeId}{ks:List SK}(h:flatK P f t=some ks)(ha:(∃fs,P.underlying t=some (.struct fs))∨∃n e,P.underlying t=some (.array n e)):ks.length=P.cellsOf t:=by
 cases f with
 | zero=>simp[flatK]at h
 | succ f =>
  unfold flatK at h
  rcases ha with⟨fs,hu⟩ | ⟨n,e,hu⟩
  ·simp only[hu]at h
   split at h
   ·split at h
    ·split at h
     ·cases h;assumption
     ·cases h
    ·cases h
   ·cases h
  ·simp only[hu]at h
   split at h
   ·split at h
    ·rename_i hl;cases h
     simp[← hl.2]
    ·cases h
   ·cases h
theorem d8{f:Nat}{t:TypeId}{ks:List SK}(h:flatK P f t=some ks)(w:World)(xs:Array Value)(off:Nat)(hf:aN ks ((xs.toList.drop off).take ks.length)=true) :
  ∃v,(part t xs off).run P w=.ok v w∧bP P t v ((xs.toList.drop off).take ks.length):=by
 have agg:(∃fs,P.underlying t=some (.struct fs))∨(∃n e,P.underlying t=some (.array n e))→∃v,(part t xs off).run P w=.ok v w∧bP P t v ((xs.toList.drop off).take ks.length):=by
  intro ha
  have hl:=tR h ha
  have hx:(xs.extract off (off+P.cellsOf t))=⟨(xs.toList.drop off).take ks.length⟩:=by
   rw[hl,← Array.toList_inj,Array.toList_extract];simp[List.extract]
  refine⟨.agg (xs.extract off (off+P.cellsOf t)),?_,?_⟩
  ·rcases ha with⟨fs,hu⟩ | ⟨n,e,hu⟩
   ·obtain⟨i,hi⟩:=info_of_underlying hu
    simp[part,isAgg,run_underlying hu,run_sizeOf w hi]
   ·obtain⟨i,hi⟩:=info_of_underlying hu
    simp[part,isAgg,run_underlying hu,run_sizeOf w hi]
  ·rw[hx]
   rcases ha with⟨fs,hu⟩ | ⟨n,e,hu⟩<;>simp[bP,hu]
 have one:∀{k:SK} {d:TypeDesc},P.underlying t=some d→(match d with | .struct _ | .array _ _=>false | _=>true)=true→ks=[k]→∃v,(part t xs off).run P w=.ok v w∧bP P t v ((xs.toList.drop off).take ks.length):=by
  intro k d hu hd hk
  subst hk
  have hlen:=cR hf
  simp only[IS,List.length_nil,Nat.zero_add,List.length_take,List.length_drop,Array.length_toList]at hlen
  have hlt:off<xs.size:=by omega
  refine⟨xs[off],?_,?_⟩
  ·cases d<;>simp at hd<;>simp[part,isAgg,run_underlying hu,hlt]
  ·have:(xs.toList.drop off).take 1=[xs[off]]:=by
    rw[List.drop_eq_getElem_cons (by simpa using hlt)];simp
   show bP P t xs[off] ((xs.toList.drop off).take 1)
   rw[this]
   cases d<;>simp at hd<;>simp[bP,hu]
 cases f with
 | zero=>simp[flatK]at h
 | succ f =>
  cases hu:P.underlying t with
  | none=>simp[flatK,hu]at h
  | some d =>
   cases d with
   | struct fs=>exact agg (.inl ⟨fs,hu⟩)
   | array n e=>exact agg (.inr ⟨n,e,hu⟩)
   | int k=>simp[flatK,hu]at h;exact one (k:=.int k) hu rfl h.symm
   | bool=>simp[flatK,hu]at h;exact one (k:=.bool) hu rfl h.symm
   | string=>simp[flatK,hu]at h;exact one (k:=.str) hu rfl h.symm
   | _=>simp[flatK,hu]at h
def wV (P:Program)(dd:Nat)(t:TypeId)(ks:List SK):Prop :=
 ∀(w:World) (v1 v2:Value) (l1 l2:List Value),bP P t v1 l1→bP P t v2 l2→aN ks l1=true→aN ks l2=true→(Op.equalIn dd t v1 v2).run P w=.ok (dW l1 l2) w
theorem jk{f dd:Nat}(IH:∀t ks,flatK P f t=some ks→wV P dd t ks)(xs ys:Array Value)(w:World):∀(fs:List Field) (off:Nat) (ks:List SK),kh P (flatK P f) fs off=some ks →
  aN ks (xs.toList.drop off)=true→aN ks (ys.toList.drop off)=true→(Op.eqFields dd xs ys fs).run P w=.ok (dW (xs.toList.drop off) (ys.toList.drop off)) w
 | [],off,ks,h,hx,hy=>by
  simp[kh]at h;subst h
  have h1:=cR hx;have h2:=cR hy
  rw[JB h1.symm,JB h2.symm]
  simp[Op.eqFields,dW]
 | g::fs,off,ks,h,hx,hy=>by
  unfold kh at h
  split at h
  ·rename_i hn
   split at h
   ·rename_i k1 hk1
    split at h
    ·rename_i k2 hk2
     cases h
     obtain⟨hx1,hx2⟩:=LJ hx
     obtain⟨hy1,hy2⟩:=LJ hy
     obtain⟨a,pa,qa⟩:=d8 hk1 w xs off hx1
     obtain⟨b,pb,qb⟩:=d8 hk1 w ys off hy1
     have he:=IH _ _ hk1 w a b _ _ qa qb hx1 hy1
     rw[Bo]at hx2 hy2
     have hr:=jk IH xs ys w fs (off+k1.length) k2 hk2 hx2 hy2
     have hsp:=ny k1.length (xs.toList.drop off) (ys.toList.drop off) (by have:=cR hx;simp at this ⊢;omega) (by have:=cR hy;simp at this ⊢;omega)
     rw[hsp,Bo,Bo]
     simp only[Op.eqFields,hn.1,ne_eq,not_false_eq_true,if_true,hn.2,Sem.run_bind,pa,pb,he,Result.andThen_ok]
     cases dW (List.take k1.length (xs.toList.drop off)) (List.take k1.length (ys.toList.drop off))
     ·simp
     ·simpa using hr
    ·cases h
   ·cases h
  ·cases h
theorem lD{ks:List SK}:∀{m:Nat} {l:List Value},aN (Iu (m+1) ks).flatten l=true→aN ks (l.take ks.length)=true∧aN (Iu m ks).flatten (l.drop ks.length)=true:=by
 intro m l h
 rw[CB,Bz]at h
 exact LJ h
theorem jv{f dd:Nat}{e:TypeId}{ks:List SK}(hk:flatK P f e=some ks)(hl:ks.length=P.cellsOf e)(IH:wV P dd e ks)(xs ys:Array Value)(w:World):∀(m s:Nat),
  aN (Iu m ks).flatten (xs.toList.drop (s*ks.length))=true→aN (Iu m ks).flatten (ys.toList.drop (s*ks.length))=true →
  (Op.eqItems dd e (P.cellsOf e) xs ys (List.range' s m)).run P w=.ok (dW (xs.toList.drop (s*ks.length)) (ys.toList.drop (s*ks.length))) w
 | 0,s,hx,hy=>by
  have h1:=cR hx;have h2:=cR hy
  rw[JB h1.symm,JB h2.symm]
  simp[Op.eqItems,dW]
 | m+1,s,hx,hy=>by
  obtain⟨hx1,hx2⟩:=lD hx
  obtain⟨hy1,hy2⟩:=lD hy
  obtain⟨a,pa,qa⟩:=d8 hk w xs (s*ks.length) hx1
  obtain⟨b,pb,qb⟩:=d8 hk w ys (s*ks.length) hy1
  have he:=IH w a b _ _ qa qb hx1 hy1
  have hss:s*ks.length+ks.length=(s+1)*ks.length:=by rw[Nat.succ_mul]
  rw[Bo,hss]at hx2 hy2
  have hr:=jv hk hl IH xs ys w m (s+1) hx2 hy2
  have lx:=cR hx;have ly:=cR hy
  rw[CB,Bz,List.length_append]at lx ly
  have hsp:=ny ks.length (xs.toList.drop (s*ks.length)) (ys.toList.drop (s*ks.length)) (by omega) (by omega)
  rw[hsp,Bo,Bo,hss]
  rw[List.range'_succ]
  rw[← hl]at hr ⊢
  simp only[Op.eqItems,Sem.run_bind,pa,pb,he,Result.andThen_ok]
  cases dW (List.take ks.length (xs.toList.drop (s*ks.length))) (List.take ks.length (ys.toList.drop (s*ks.length)))
  ·simp
  ·simpa using hr
theorem gb:∀(f d:Nat) (t:TypeId) (ks:List SK),flatK P f t=some ks→wV P (d+f) t ks
 | 0,d,t,ks,h=>by simp[flatK]at h
 | f+1,d,t,ks,h=>by
  intro w v1 v2 l1 l2 h1 h2 g1 g2
  rw[show d+(f+1)=(d+f)+1 from rfl]
  unfold flatK at h
  split at h
  ·rename_i k hu
   cases h
   simp only[bP,hu]at h1 h2
   subst h1;subst h2
   cases v1<;>simp[aN,SK.ok]at g1
   cases v2<;>simp[aN,SK.ok]at g2
   subst g1;subst g2
   rw[run_equalIn_int w _ t _ _ _ _ hu];simp[dW,eqV]
  ·rename_i hu
   cases h
   simp only[bP,hu]at h1 h2
   subst h1;subst h2
   cases v1<;>simp[aN,SK.ok]at g1
   cases v2<;>simp[aN,SK.ok]at g2
   rw[run_equalIn_bool' w _ t _ _ hu];simp[dW,eqV]
  ·rename_i hu
   cases h
   simp only[bP,hu]at h1 h2
   subst h1;subst h2
   cases v1<;>simp[aN,SK.ok]at g1
   cases v2<;>simp[aN,SK.ok]at g2
   rw[run_equalIn_string w _ t _ _ hu];simp[dW,eqV]
  ·rename_i fs hu
   split at h
   ·rename_i hp
    split at h
    ·rename_i ks' hk
     split at h
     ·cases h
      simp only[bP,hu]at h1 h2
      subst h1;subst h2
      have hfo:P.fieldsOf t=fs:=by simp[Program.fieldsOf,hu]
      rw[run_equalIn_agg w _ t _ _ (by rw[hfo];exact hu) hp,hfo]
      have:=jk (dd:=d+f) (fun t ks h=>gb f d t ks h) ⟨l1⟩ ⟨l2⟩ w fs.toList 0 ks hk (by simpa using g1) (by simpa using g2)
      simpa using this
     ·cases h
    ·cases h
   ·cases h
  ·rename_i n e hu
   split at h
   ·rename_i ks' hk
    split at h
    ·rename_i hl
     cases h
     simp only[bP,hu]at h1 h2
     subst h1;subst h2
     have hi:∃i,P.info? e=some i:=by
      cases f with
      | zero=>simp[flatK]at hk
      | succ f =>
       cases hue:P.underlying e with
       | none=>simp[flatK,hue]at hk
       | some _=>exact info_of_underlying hue
     obtain⟨i,hi⟩:=hi
     rw[run_equalIn_array w _ _ _ hu hi,List.range_eq_range']
     have:=jv hk hl.1 (gb f d e ks' hk) ⟨l1⟩ ⟨l2⟩ w n 0 (by simpa using g1) (by simpa using g2)
     simpa using this
    ·cases h
   ·cases h
  ·cases h
def xo (P:Program)(em:Bool)(dd:Nat)(t:TypeId)(ks:List SK):Prop :=
 ∀(w:World) (v:Value) (l:List Value),bP P t v l→aN ks l=true→(Instr.checkKey em dd t v).run P w=.ok () w
theorem iM(em:Bool):∀(f d:Nat) (t:TypeId) (ks:List SK),flatK P f t=some ks→xo P em (d+f) t ks
 | 0,d,t,ks,h=>by simp[flatK]at h
 | f+1,d,t,ks,h=>by
  intro w v l h1 g1
  rw[show d+(f+1)=(d+f)+1 from rfl]
  unfold flatK at h
  split at h
  ·rename_i k hu
   cases h
   simp only[bP,hu]at h1
   subst h1
   cases v<;>simp[aN,SK.ok]at g1
   simp[Instr.checkKey,run_underlying hu]
  ·rename_i hu
   cases h
   simp only[bP,hu]at h1
   subst h1
   cases v<;>simp[aN,SK.ok]at g1
   simp[Instr.checkKey,run_underlying hu]
  ·rename_i hu
   cases h
   simp only[bP,hu]at h1
   subst h1
   cases v<;>simp[aN,SK.ok]at g1
   simp[Instr.checkKey,run_underlying hu]
  ·rename_i fs hu
   split at h
   ·rename_i hp
    split at h
    ·rename_i ks' hk
     split at h
     ·cases h
      simp only[bP,hu]at h1
      subst h1
      rw[Instr.checkKey]
      simp only[Sem.run_bind,run_underlying hu,Result.andThen_ok]
      rw[← Array.forIn_toList]
      have key:∀(L:List Field) (off:Nat) (ks:List SK),kh P (flatK P f) L off=some ks→aN ks (l.drop off)=true →
        (forIn (m:=Sem) L PUnit.unit fun g _=>do
         if g.name ≠ "_" then do
          Instr.checkKey em (d+f) g.type (← part g.type ⟨l⟩ g.offset)
          pure (ForInStep.yield PUnit.unit)
         else pure (ForInStep.yield PUnit.unit)).run P w=.ok PUnit.unit w:=by
       intro L
       induction L with
       | nil=>intro _ _ _ _;simp
       | cons g L ih =>
        intro off ks h hx
        unfold kh at h
        split at h
        ·rename_i hn
         split at h
         ·rename_i k1 hk1
          split at h
          ·rename_i k2 hk2
           cases h
           obtain⟨hx1,hx2⟩:=LJ hx
           obtain⟨a,pa,qa⟩:=d8 hk1 w ⟨l⟩ off hx1
           have hc:=iM em f d _ _ hk1 w a _ qa hx1
           rw[Bo]at hx2
           have:=ih (off+k1.length) k2 hk2 hx2
           simp only[List.forIn_cons,Sem.run_bind,hn.1,ne_eq,not_false_eq_true,if_true,hn.2,Result.andThen_ok,pa,hc,Sem.run_pure]
           simpa using this
          ·cases h
         ·cases h
        ·cases h
      have:=key fs.toList 0 ks hk (by simpa using g1)
      simp at this ⊢
      rw[this];rfl
     ·cases h
    ·cases h
   ·cases h
  ·rename_i n e hu
   split at h
   ·rename_i ks' hk
    split at h
    ·rename_i hl
     cases h
     simp only[bP,hu]at h1
     subst h1
     have hi:∃i,P.info? e=some i:=by
      cases f with
      | zero=>simp[flatK]at hk
      | succ f =>
       cases hue:P.underlying e with
       | none=>simp[flatK,hue]at hk
       | some _=>exact info_of_underlying hue
     obtain⟨i,hi⟩:=hi
     rw[Instr.checkKey]
     simp only[Sem.run_bind,run_underlying hu,Result.andThen_ok]
     simp only[Std.Legacy.Range.forIn_eq_forIn_range',Std.Legacy.Range.size,Nat.sub_zero,Nat.add_one_sub_one,Nat.div_one]
     have key:∀(m s:Nat),aN (Iu m ks').flatten (l.drop (s*ks'.length))=true →
       (forIn (m:=Sem) (List.range' s m) PUnit.unit fun i _=>do
        Instr.checkKey em (d+f) e (← part e ⟨l⟩ (i*(← sizeOf e)))
        pure (ForInStep.yield PUnit.unit)).run P w=.ok PUnit.unit w:=by
      intro m
      induction m with
      | zero=>intro s _;simp
      | succ m ih =>
       intro s hx
       obtain⟨hx1,hx2⟩:=lD hx
       obtain⟨a,pa,qa⟩:=d8 hk w ⟨l⟩ (s*ks'.length) hx1
       have hc:=iM em f d _ _ hk w a _ qa hx1
       have hss:s*ks'.length+ks'.length=(s+1)*ks'.length:=by rw[Nat.succ_mul]
       rw[Bo,hss]at hx2
       have:=ih (s+1) hx2
       rw[List.range'_succ]
       simp only[List.forIn_cons,Sem.run_bind,run_sizeOf w hi,Result.andThen_ok,← hl.1,pa,hc,Sem.run_pure]
       simpa [run_sizeOf w hi,← hl.1]using this
     have:=key n 0 (by simpa using g1)
     simp at this ⊢
     rw[this];rfl
    ·cases h
   ·cases h
  ·cases h
def pV (P:Program)(kt:TypeId)(ks:List SK)(v:Value)(l:List Value):Prop:=bP P kt v l∧aN ks l=true
def d9 (l:List Value):List (List Value×Value)→Nat→Option (Nat×Value)
 | [],_=>none
 | (k,v)::es,i=>if dW l k then some (i,v)else d9 l es (i+1)
def KeysV(P:Program)(kt:TypeId)(ks:List SK):List MapEntry→List (List Value×Value)→Prop
 | [],[]=>True
 | e::es,p::ps=>pV P kt ks e.key p.1∧e.val=p.2∧KeysV P kt ks es ps
 | _,_=>False
theorem mh{f:Nat}{kt:TypeId}{ks:List SK}(h:flatK P f kt=some ks)(hf:f≤10000){w:World}{k:Value}{l:List Value}(hk:pV P kt ks k l){es:List MapEntry}{ps:List (List Value×Value)}(hes:KeysV P kt ks es ps) :
  (Instr.findKey kt k es).run P w=.ok (d9 l ps 0) w:=by
 have heq:∀k' l',pV P kt ks k' l'→(Op.equal kt k k').run P w=.ok (dW l l') w:=by
  intro k' l' h'
  have:=gb f (10000-f) kt ks h w k k' l l' hk.1 h'.1 hk.2 h'.2
  rw[show 10000-f+f=10000 from by omega]at this
  exact this
 have ask:(Instr.findAsking kt k es 0).run P w=.ok (d9 l ps 0) w:=by
  generalize 0=i
  induction es generalizing ps i with
  | nil =>
   cases ps with
   | nil=>simp[Instr.findAsking,d9]
   | cons p ps=>exact hes.elim
  | cons e es ih =>
   cases ps with
   | nil=>exact hes.elim
   | cons p ps =>
    obtain⟨h1,h2,h3⟩:=hes
    simp only[Instr.findAsking,Sem.run_bind,heq _ _ h1,Result.andThen_ok,d9]
    cases dW l p.1
    ·simpa using ih h3 (i+1)
    ·simp[h2]
 have now:∀{sk:SK} {d:TypeDesc},P.underlying kt=some d→(match d with | .struct _ | .array _ _=>false | _=>true)=true→ks=[sk] →
   (∀a b,SK.ok sk a=true→SK.ok sk b=true→Instr.sameNow d a b=some (eqV a b))→(Instr.findKey kt k es).run P w=.ok (d9 l ps 0) w:=by
  intro sk d hu hd hks hs
  subst hks
  have pk:∀v l',pV P kt [sk] v l'→l'=[v]∧SK.ok sk v=true:=by
   intro v l' h'
   have h1:=h'.1
   have h2:=h'.2
   have:l'=[v]:=by cases d<;>simp at hd<;>simpa [bP,hu]using h1
   subst this
   simpa [aN]using h2
  obtain⟨rfl,hk2⟩:=pk k l hk
  have:∀i,Instr.findNow d k es i=some (d9 [k] ps i):=by
   clear ask
   intro i
   induction es generalizing ps i with
   | nil =>
    cases ps with
    | nil=>simp[Instr.findNow,d9]
    | cons p ps=>exact hes.elim
   | cons e es ih =>
    cases ps with
    | nil=>exact hes.elim
    | cons p ps =>
     obtain⟨h1,h2,h3⟩:=hes
     obtain⟨e1,e2⟩:=pk _ _ h1
     obtain⟨p1,p2⟩:=p
     simp only at e1 h2
     subst e1
     simp only[Instr.findNow,hs _ _ hk2 e2,d9,dW,Cf]
     cases eqV k e.key
     ·simpa using ih h3 (i+1)
     ·simp[h2]
  simp[Instr.findKey,run_underlying hu,this]
 cases f with
 | zero=>simp[flatK]at h
 | succ f =>
  cases hu:P.underlying kt with
  | none=>simp[flatK,hu]at h
  | some d =>
   cases d with
   | struct fs=>rw[run_findKey_eq w (by rw[hu])];exact ask
   | array n e=>rw[run_findKey_eq w (by rw[hu])];exact ask
   | int q =>
    simp[flatK,hu]at h
    refine now (sk:=.int q) hu rfl h.symm fun a b ha hb=>?_
    cases a<;>simp[SK.ok]at ha
    cases b<;>simp[SK.ok]at hb
    subst ha;subst hb
    simp[Instr.sameNow,eqV]
   | bool =>
    simp[flatK,hu]at h
    refine now (sk:=.bool) hu rfl h.symm fun a b ha hb=>?_
    cases a<;>simp[SK.ok]at ha
    cases b<;>simp[SK.ok]at hb
    simp[Instr.sameNow,eqV]
   | string =>
    simp[flatK,hu]at h
    refine now (sk:=.str) hu rfl h.symm fun a b ha hb=>?_
    cases a<;>simp[SK.ok]at ha
    cases b<;>simp[SK.ok]at hb
    simp[Instr.sameNow,eqV,beq_toListBytes]
   | _=>simp[flatK,hu]at h
theorem lE{f:Nat}{kt:TypeId}{ks:List SK}(h:flatK P f kt=some ks)(hf:f≤10000)(em:Bool){w:World}{k:Value}{l:List Value}(hk:pV P kt ks k l):(Instr.checkKey em 10000 kt k).run P w=.ok () w:=by
 have:=iM em f (10000-f) kt ks h w k l hk.1 hk.2
 rwa[show 10000-f+f=10000 from by omega]at this
theorem rT{f:Nat}{t kt et:TypeId}{ks:List SK}(ht:P.underlying t=some (.map kt et))(h:flatK P f kt=some ks)(hf:f≤10000){w:World}{k z:Value}{l:List Value}(hk:pV P kt ks k l)(hz:(zeroValue et).run P w=.ok z w)
  {es:Array MapEntry} {ps:List (List Value×Value)} (hes:KeysV P kt ks es.toList ps) {m:Value} (hm:(m=.map none∧es=#[])∨∃b clock,m=.map (some b)∧w.heap[b]? = some (.map es clock)) (ok:Bool) :
  (Instr.lookup t m k ok).run P w=.ok (match d9 l ps 0 with | some (_,v)=>(if ok then .tuple #[v,.bool true] else v) | none=>(if ok then .tuple #[z,.bool false] else z)) w:=by
 have hfind:=mh h hf (w:=w) hk hes
 rcases hm with⟨rfl,rfl⟩ | ⟨b,clock,rfl,hb⟩
 ·simp only[Instr.lookup,Sem.run_bind,run_underlying ht,Result.andThen_ok,Sem.run_pure,lE h hf _ hk,hfind]
  cases d9 l ps 0 with
  | none=>simp[hz]
  | some p=>simp
 ·simp only[Instr.lookup,Sem.run_bind,run_underlying ht,Result.andThen_ok,Sem.run_pure,MapKept.run_getObj_map hb,lE h hf _ hk,hfind]
  cases d9 l ps 0 with
  | none=>simp[hz]
  | some p=>simp
theorem qS{a b:Value}(h:eqV a b=true){sk:SK}(ha:sk.ok a=true)(hb:sk.ok b=true)(m:Nat):Instr.sameBits m a b=true:=by
 cases sk<;>cases a<;>simp[SK.ok]at ha<;>cases b<;>simp[SK.ok]at hb<;>simp_all[eqV,Instr.sameBits,beq_toListBytes]
theorem o3:∀{ks:List SK} {l l':List Value},dW l l'=true→aN ks l=true→aN ks l'=true→∀m,(l.length == l'.length)=true∧(l.zip l').all (fun(x,y)=>Instr.sameBits m x y)=true
 | [],[],[],_,_,_,_=>by simp
 | k::ks,a::l,b::l',h,h1,h2,m=>by
  simp only[dW,aN,wH]at h h1 h2
  have:=o3 h.2 h1.2 h2.2 m
  simp only[IS,List.zip_cons_cons,List.all_cons,wH,qS h.1 h1.1 h2.1 m,true_and]
  exact⟨by simpa using this.1,this.2⟩
 | [],_::_,_,_,h1,_,_=>by simp[aN]at h1
 | _::_,[],_,_,h1,_,_=>by simp[aN]at h1
 | [],[],_::_,_,_,h2,_=>by simp[aN]at h2
 | _::_,_::_,[],_,_,h2,_=>by simp[aN]at h2
theorem nA{l:List Value}:∀{ps:List (List Value×Value)} {i j:Nat} {v:Value},d9 l ps i=some (j,v)→∃k,i≤j∧ps[j-i]? = some (k,v)∧dW l k=true
 | [],i,j,v,h=>by simp[d9]at h
 | (k,u)::ps,i,j,v,h=>by
  simp only[d9]at h
  split at h
  ·rename_i e;cases h;exact⟨k,Nat.le_refl _,by simp,e⟩
  ·obtain⟨k',h1,h2,h3⟩:=nA h
   refine⟨k',by omega,?_,h3⟩
   rw[show j-i=(j-(i+1))+1 from by omega];simpa using h2
theorem KeysV.get:∀{kt:TypeId} {ks:List SK} {es:List MapEntry} {ps:List (List Value×Value)},KeysV P kt ks es ps→∀{j:Nat} {p:List Value×Value},ps[j]? = some p→∃e,es[j]? = some e∧pV P kt ks e.key p.1∧e.val=p.2
 | _,_,[],[],_,j,p,h=>by simp at h
 | _,_,e::es,q::ps,h,j,p,hp=>by
  obtain⟨h1,h2,h3⟩:=h
  cases j with
  | zero=>simp at hp;subst hp;exact⟨e,by simp,h1,h2⟩
  | succ j=>obtain⟨e',g1,g2⟩:=h3.get (by simpa using hp);exact⟨e',by simpa using g1,g2⟩
 | _,_,[],_::_,h,_,_,_=>h.elim
 | _,_,_::_,[],h,_,_,_=>h.elim
theorem o4:∀{ks:List SK} {l q:List Value},dW l q=true→aN ks l=true→aN ks q=true→dW q l=true
 | [],[],[],_,_,_=>rfl
 | k::ks,a::l,b::q,h,h1,h2=>by
  simp only[dW,aN,wH]at h h1 h2 ⊢
  refine⟨?_,o4 h.2 h1.2 h2.2⟩
  have h0:=h.1;have f1:=h1.1;have f2:=h2.1
  cases k<;>cases a<;>simp[SK.ok]at f1<;>cases b<;>simp[SK.ok]at f2<;>simp_all[eqV]
 | [],_::_,_,_,h1,_=>by simp[aN]at h1
 | _::_,[],_,_,h1,_=>by simp[aN]at h1
 | [],[],_::_,_,_,h2=>by simp[aN]at h2
 | _::_,_::_,[],_,_,h2=>by simp[aN]at h2
theorem oz{f:Nat}{t kt et:TypeId}{ks:List SK}(ht:P.underlying t=some (.map kt et))(h:flatK P f kt=some ks)(hf:f≤10000){w:World}{k u:Value}{l:List Value}(hk:pV P kt ks k l)
  {es:Array MapEntry} {ps:List (List Value×Value)} (hes:KeysV P kt ks es.toList ps) {b clock:Nat} (hb:w.heap[b]? = some (.map es clock)) :
  (Instr.mapUpdate t (.map (some b)) k u).run P w=.ok () {w with heap:=w.heap.setIfInBounds b (match d9 l ps 0 with
   | some (i,_)=>.map (es.modify i fun e=>{e with key:=k,val:=u}) clock
   | none=>.map (es.push {key:=k,val:=u,born:=clock}) (clock+1))}:=by
 have hfind:=mh h hf (w:=w) hk hes
 simp only[Instr.mapUpdate,Sem.run_bind,run_underlying ht,Result.andThen_ok,MapKept.run_getObj_map hb,lE h hf _ hk,hfind]
 cases hfv:d9 l ps 0 with
 | none=>simp[MapKept.run_setObj_map _ hb]
 | some p =>
  obtain⟨i,v⟩:=p
  obtain⟨q,_,h2,h3⟩:=nA hfv
  rw[Nat.sub_zero]at h2
  obtain⟨e,g1,g2,g3⟩:=hes.get h2
  have g1':es[i]? = some e:=by simpa using g1
  have hbits:Instr.sameBits 10000 e.key k=true:=by
   have hp1:=g2.1;have hp2:=hk.1
   have hsym:dW q l=true:=o4 h3 hk.2 g2.2
   have same:=o3 hsym g2.2 hk.2
   unfold bP at hp1 hp2
   split at hp1
   ·rename_i hu;simp only[hu]at hp2;rw[hp1,hp2]
    simp only[Instr.sameBits,wH]
    exact same 9999
   ·rename_i hu;simp only[hu]at hp2;rw[hp1,hp2]
    simp only[Instr.sameBits,wH]
    exact same 9999
   ·rename_i hu1 hu2
    have hp2:l=[k]:=by
     split at hp2
     ·rename_i hu;exact absurd hu (hu1 _)
     ·rename_i hu;exact absurd hu (hu2 _ _)
     ·exact hp2
    simp only at hp1
    subst hp2
    rw[hp1]at hsym
    have f2:=g2.2
    rw[hp1]at f2
    cases ks with
    | nil=>simp[aN]at f2
    | cons sk ks =>
     simp only[dW,Cf]at hsym
     have f1:=hk.2
     simp only[aN,wH]at f1 f2
     exact qS hsym f2.1 f1.1 _
  simp[g1',Instr.keyThatStays,hbits,MapKept.run_setObj_map _ hb]
end
end Go.Abs
