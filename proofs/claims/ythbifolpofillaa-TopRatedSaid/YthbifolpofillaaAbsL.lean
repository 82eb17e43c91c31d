/-
  Soundness, ninth part: slice expressions, calls; all operations together (opA_ok).
-/
import Derived.Test.YthbifolpofillaaAbsK
import Derived.WalkSmall
set_option linter.all false
namespace Go.Abs
open Go

section
variable {P : Program} {tt : TT} {an : Ann} {M M' : GM} {s s' : St} {a : Act} {w w' : World}

theorem bndE_ok (hR : Rel M s a w) {x : Option Operand} {dflt : Int} {K : Int → Prop} (h : bndE (x.map s.eval) dflt K) :
    ∃ n, K n ∧ ((x.map a.eval = none ∧ n = dflt) ∨ ∃ k, x.map a.eval = some (.int k n)) := by
  cases x with
  | none => exact ⟨dflt, h, .inl ⟨rfl, rfl⟩⟩
  | some x =>
    have hx := gamA_toD (hR.eval x)
    simp only [Option.map_some, bndE] at h
    split at h
    · rename_i k n e
      rw [e] at hx
      generalize hv : a.eval x = v at hx
      cases hx with | d _ _ hx => ?_
      cases hx
      exact ⟨_, h, .inr ⟨k, by simp [hv]⟩⟩
    · exact h.elim

theorem run_bounds {len cap : Nat} {lo hi : Option Value} {m n : Int} (isSl : Bool) (hlo : (lo = none ∧ m = 0) ∨ ∃ k, lo = some (.int k m)) (hhi : (hi = none ∧ n = len) ∨ ∃ k, hi = some (.int k n))
    (h0 : 0 ≤ m) (h1 : m ≤ n) (h2 : n ≤ len) (h3 : len ≤ cap) : (Instr.sliceBounds isSl len cap lo hi none).run P w = .ok (m.toNat, n.toNat, cap) w := by
  have hn : ((n.toNat : Nat) : Int) = n := Int.toNat_of_nonneg (by omega)
  have b1 : ∀ k code, (Instr.sliceBound (.int k n) cap code).run P w = .ok n.toNat w := by
    intro k code
    simp [Instr.sliceBound, asIntOf, show 0 ≤ n from by omega, show n ≤ (cap : Int) from by omega]
  have b2 : ∀ k code, (Instr.sliceBound (.int k m) n.toNat code).run P w = .ok m.toNat w := by
    intro k code
    simp [Instr.sliceBound, asIntOf, h0, hn, h1]
  rcases hlo with ⟨rfl, rfl⟩ | ⟨k1, rfl⟩ <;> rcases hhi with ⟨rfl, rfl⟩ | ⟨k2, rfl⟩ <;> simp only [Instr.sliceBounds] <;> cases isSl <;> simp [b1, b2] <;> (have := b2; simp only [Int.toNat_natCast] at this; simp [this])

theorem run_slice' {t e : TypeId} (hdd : P.underlying t = some (.slice e)) {sz : Nat} (hso : (sizeOf e).run P w = .ok sz w) {ad : Option Addr} {len cap : Nat} {lo hi : Option Value} {m n : Int}
    (hlo : (lo = none ∧ m = 0) ∨ ∃ k, lo = some (.int k m)) (hhi : (hi = none ∧ n = len) ∨ ∃ k, hi = some (.int k n)) (h0 : 0 ≤ m) (h1 : m ≤ n) (h2 : n ≤ len) (h3 : len ≤ cap) :
    (Instr.sliceAt t (.slice ad len cap) lo hi none).run P w = .ok (.slice (if cap = m.toNat then ad else ad.map (·.add (m.toNat * sz))) (n.toNat - m.toNat) (cap - m.toNat)) w := by
  have hb := run_bounds (P := P) (w := w) true hlo hhi h0 h1 h2 h3
  simp only [Instr.sliceAt, Instr.slice, Sem.run_bind, run_underlying hdd, Result.andThen_ok, hb, hso]
  rfl

theorem take_drop_flat {xs : List D} {sz m n : Nat} (hs : ∀ x ∈ xs, (cellsOf x).length = sz) {i : Nat} {d : D} (h : (((xs.take n).drop m).flatMap cellsOf)[i]? = some d) : (xs.flatMap cellsOf)[m * sz + i]? = some d := by
  have e1 : xs.flatMap cellsOf = ((xs.take n).flatMap cellsOf) ++ ((xs.drop n).flatMap cellsOf) := by rw [← List.flatMap_append, List.take_append_drop]
  have e2 : (xs.take n).flatMap cellsOf = (((xs.take n).take m).flatMap cellsOf) ++ (((xs.take n).drop m).flatMap cellsOf) := by rw [← List.flatMap_append, List.take_append_drop]
  by_cases hm : m ≤ (xs.take n).length
  · have hl : (((xs.take n).take m).flatMap cellsOf).length = m * sz := by
      rw [flat_len (sz := sz) (fun x hx => hs x (List.mem_of_mem_take (List.mem_of_mem_take hx)))]
      congr 1; simp at hm ⊢; omega
    have hlt : i < (((xs.take n).drop m).flatMap cellsOf).length := (List.getElem?_eq_some_iff.1 h).1
    rw [e1, List.getElem?_append_left (by rw [e2, List.length_append]; omega), e2, List.getElem?_append_right (by omega), hl, show m * sz + i - m * sz = i from by omega]
    exact h
  · rw [List.drop_of_length_le (by omega)] at h
    simp at h

theorem sliceList_ok {t e : TypeId} (hdd : P.underlying t = some (.slice e)) {i : TI} (hso : (sizeOf e).run P w = .ok i.esz w) {sz : Nat} {xs : List D} {val : Value} (hv : GamA M (.d (.list sz xs)) val) (hsz : sz = i.esz)
    {lo hi : Option Value} {m n : Int} (hlo : (lo = none ∧ m = 0) ∨ ∃ k, lo = some (.int k m)) (hhi : (hi = none ∧ n = xs.length) ∨ ∃ k, hi = some (.int k n)) (h0 : 0 ≤ m) (h1 : m ≤ n) (h2 : n ≤ xs.length) :
    ∃ v, (Instr.sliceAt t val lo hi none).run P w = .ok v w ∧ GamA M (.d (.list sz ((xs.take n.toNat).drop m.toNat))) v := by
  cases hv with | d _ _ hv => ?_
  generalize hxs : xs = ys at hv
  cases hv with
  | nils =>
    subst hxs
    simp only [List.length_nil] at *
    have e0 : m = 0 := by omega
    have e1 : n = 0 := by omega
    subst e0 e1
    refine ⟨_, run_slice' hdd hso hlo hhi h0 h1 (by omega) (by omega), ?_⟩
    simp; exact .d _ _ (.nils _)
  | listz _ ad cap =>
    subst hxs
    simp only [List.length_nil] at *
    have e0 : m = 0 := by omega
    have e1 : n = 0 := by omega
    subst e0 e1
    refine ⟨_, run_slice' hdd hso hlo hhi h0 h1 (by omega) (by omega), ?_⟩
    simp
    split <;> exact .d _ _ (.listz _ _ _)
  | list _ _ b off cap vf hc hs hm hg hone =>
    subst hxs hsz
    refine ⟨_, run_slice' hdd hso hlo hhi h0 h1 h2 hc, .d _ _ ?_⟩
    have hl : ((xs.take n.toNat).drop m.toNat).length = n.toNat - m.toNat := by simp; omega
    by_cases he : cap = m.toNat
    · rw [if_pos he]
      have : (xs.take n.toNat).drop m.toNat = [] := List.eq_nil_of_length_eq_zero (by omega)
      rw [this, show n.toNat - m.toNat = 0 from by omega]
      exact .list _ [] b off _ vf (by simp) (by simp) (by simp) (by simp) (by simp)
    · rw [if_neg he, ← hl]
      simp only [Option.map_some, addr_add]
      refine .list _ _ b (off + m.toNat * i.esz) _ (fun q => vf (m.toNat * i.esz + q)) (by omega) (fun x hx => hs x (List.mem_of_mem_take (List.mem_of_mem_drop hx)))
        (fun q d hd => ?_) (fun q d hd => hg _ _ (take_drop_flat hs hd)) (fun q d hd => hone _ _ (take_drop_flat hs hd))
      rw [Nat.add_assoc]; exact hm _ _ (take_drop_flat hs hd)

theorem run_bounds3 {len cap : Nat} {lo : Option Value} {k k' : IntKind} {m n : Int} (hlo : (lo = none ∧ m = 0) ∨ ∃ k, lo = some (.int k m))
    (h0 : 0 ≤ m) (h1 : m ≤ n) (h2 : n ≤ len) (h3 : len ≤ cap) : (Instr.sliceBounds true len cap lo (some (.int k n)) (some (.int k' n))).run P w = .ok (m.toNat, n.toNat, n.toNat) w := by
  have hn : ((n.toNat : Nat) : Int) = n := Int.toNat_of_nonneg (by omega)
  have b1 : ∀ k code, (Instr.sliceBound (.int k n) cap code).run P w = .ok n.toNat w := by
    intro k code
    simp [Instr.sliceBound, asIntOf, show 0 ≤ n from by omega, show n ≤ (cap : Int) from by omega]
  have b3 : ∀ k code, (Instr.sliceBound (.int k n) n.toNat code).run P w = .ok n.toNat w := by
    intro k code
    simp [Instr.sliceBound, asIntOf, show 0 ≤ n from by omega, hn]
  have b2 : ∀ k code, (Instr.sliceBound (.int k m) n.toNat code).run P w = .ok m.toNat w := by
    intro k code
    simp [Instr.sliceBound, asIntOf, h0, hn, h1]
  rcases hlo with ⟨rfl, rfl⟩ | ⟨k1, rfl⟩ <;> simp [Instr.sliceBounds, b1, b2, b3]

theorem run_slice3' {t e : TypeId} (hdd : P.underlying t = some (.slice e)) {sz : Nat} (hso : (sizeOf e).run P w = .ok sz w) {ad : Option Addr} {len cap : Nat} {lo : Option Value} {k k' : IntKind} {m n : Int}
    (hlo : (lo = none ∧ m = 0) ∨ ∃ k, lo = some (.int k m)) (h0 : 0 ≤ m) (h1 : m ≤ n) (h2 : n ≤ len) (h3 : len ≤ cap) :
    (Instr.sliceAt t (.slice ad len cap) lo (some (.int k n)) (some (.int k' n))).run P w = .ok (.slice (if n.toNat = m.toNat then ad else ad.map (·.add (m.toNat * sz))) (n.toNat - m.toNat) (n.toNat - m.toNat)) w := by
  have hb := run_bounds3 (P := P) (w := w) (k := k) (k' := k') hlo h0 h1 h2 h3
  simp only [Instr.sliceAt, Instr.slice, Sem.run_bind, run_underlying hdd, Result.andThen_ok, hb, hso]
  rfl

theorem slice3List_ok {t e : TypeId} (hdd : P.underlying t = some (.slice e)) {i : TI} (hso : (sizeOf e).run P w = .ok i.esz w) {sz : Nat} {xs : List D} {val : Value} (hv : GamA M (.d (.list sz xs)) val) (hsz : sz = i.esz)
    {lo : Option Value} {k k' : IntKind} {m n : Int} (hlo : (lo = none ∧ m = 0) ∨ ∃ k, lo = some (.int k m)) (h0 : 0 ≤ m) (h1 : m ≤ n) (h2 : n ≤ xs.length) :
    ∃ v, (Instr.sliceAt t val lo (some (.int k n)) (some (.int k' n))).run P w = .ok v w ∧ GamA M (.cl sz ((xs.take n.toNat).drop m.toNat)) v := by
  cases hv with | d _ _ hv => ?_
  generalize hxs : xs = ys at hv
  cases hv with
  | nils =>
    subst hxs
    simp only [List.length_nil] at *
    have e0 : m = 0 := by omega
    have e1 : n = 0 := by omega
    subst e0 e1
    refine ⟨_, run_slice3' hdd hso hlo h0 h1 (by omega) (by omega), ?_⟩
    simp; exact .cl _ _ _ _ (.nils _)
  | listz _ ad cap =>
    subst hxs
    simp only [List.length_nil] at *
    have e0 : m = 0 := by omega
    have e1 : n = 0 := by omega
    subst e0 e1
    refine ⟨_, run_slice3' hdd hso hlo h0 h1 (by omega) (by omega), ?_⟩
    simp; exact .cl _ _ _ _ (.listz _ _ _)
  | list _ _ b off cap vf hc hs hm hg hone =>
    subst hxs hsz
    refine ⟨_, run_slice3' hdd hso hlo h0 h1 h2 hc, .cl _ _ _ _ ?_⟩
    have hl : ((xs.take n.toNat).drop m.toNat).length = n.toNat - m.toNat := by simp; omega
    by_cases he : n.toNat = m.toNat
    · rw [if_pos he]
      have : (xs.take n.toNat).drop m.toNat = [] := List.eq_nil_of_length_eq_zero (by omega)
      rw [this, show n.toNat - m.toNat = 0 from by omega]
      exact .list _ [] b off _ vf (by simp) (by simp) (by simp) (by simp) (by simp)
    · rw [if_neg he, ← hl]
      simp only [Option.map_some, addr_add]
      refine .list _ _ b (off + m.toNat * i.esz) _ (fun q => vf (m.toNat * i.esz + q)) (by omega) (fun x hx => hs x (List.mem_of_mem_take (List.mem_of_mem_drop hx)))
        (fun q d hd => ?_) (fun q d hd => hg _ _ (take_drop_flat hs hd)) (fun q d hd => hone _ _ (take_drop_flat hs hd))
      rw [Nat.add_assoc]; exact hm _ _ (take_drop_flat hs hd)

theorem slice3_ok {o : Oper} {K : St → Prop} (hR : Rel M s a w) {t : TypeId} {i : TI} (hi : tiOK P t i = true) {x : Operand} {lo hi' : Option Operand} {mx : Operand} (ho : o.op = .slice t x lo hi' (some mx))
    (h : slice3E s i o.dst (s.eval x) (lo.map s.eval) (hi'.map s.eval) (some (s.eval mx)) K) : EOk P o a M w s K := by
  obtain ⟨_, dd, _, hdd, _, _, htk, _⟩ := tiOK_get hi
  have hex : ∀ v w1, (Instr.sliceAt t (a.eval x) (lo.map a.eval) (hi'.map a.eval) (some (a.eval mx))).run P w = .ok v w1 → (execOp a.eval o).run P w = .ok (.value v) w1 := by
    intro v w1 hrun
    simp [execOp, ho, hrun]
  unfold slice3E at h
  split at h
  · rename_i e _ hk hhi
    obtain ⟨rfl, he, hpos⟩ := tk_slice htk hk
    have hso := run_sizeOf_cells (P := P) (t := e) (by omega) w
    rw [he] at hso
    have hx := gamA_toD (hR.eval x)
    obtain ⟨s1, v1, M1, h, r1, p1, l1, g1, q1, n1⟩ := view1_ok hR hx h
    split at h
    · rename_i sz xs
      obtain ⟨n, h, hn⟩ := bndE_ok hR h
      obtain ⟨n', h, hn'⟩ := bndE_ok (x := some mx) hR h
      obtain ⟨m, ⟨⟨h0, h1, h2, rfl, h3⟩, zs, rfl, h⟩, hm⟩ := bndE_ok hR h
      rcases hn with ⟨hn, _⟩ | ⟨k1, hn⟩
      · rw [Option.map_eq_none_iff] at hn; rw [hn] at hhi; cases hhi
      rcases hn' with ⟨hn', _⟩ | ⟨k2, hn'⟩
      · cases hn'
      obtain ⟨v, hrun, hg⟩ := slice3List_ok (w := w) (k := k1) (k' := k2) hdd hso g1 h3 hm h0 h1 h2
      obtain ⟨s2, k1, k2, k3⟩ := r1.put h hg
      refine ⟨_, w, _, hex _ _ ?_, .inl rfl, s2, M1, k1, k2, p1.ob_eq k3⟩
      rw [hn]; simp only [Option.map_some, Option.some.injEq] at hn'; rw [hn']; exact hrun
    · rename_i sz
      obtain ⟨n, h, hn⟩ := bndE_ok hR h
      obtain ⟨n', h, hn'⟩ := bndE_ok (x := some mx) hR h
      obtain ⟨m, ⟨⟨e1, e2, e3⟩, h4⟩, hm⟩ := bndE_ok hR h
      subst e1 e2 e3
      rcases hn with ⟨hn, _⟩ | ⟨k1, hn⟩
      · rw [Option.map_eq_none_iff] at hn; rw [hn] at hhi; cases hhi
      rcases hn' with ⟨hn', _⟩ | ⟨k2, hn'⟩
      · cases hn'
      generalize hav : a.eval x = av at g1
      cases g1
      have hrun := run_slice3' (w := w) (k := k1) (k' := k2) hdd hso (ad := none) (len := 0) (cap := 0) hm (Int.le_refl _) (Int.le_refl _) (by simp) (by simp)
      obtain ⟨s2, k1', k2', k3⟩ := r1.put h4 (.nils sz)
      refine ⟨_, w, _, hex _ _ ?_, .inl rfl, s2, M1, k1', k2', p1.ob_eq k3⟩
      rw [hn, hav]; simp only [Option.map_some, Option.some.injEq] at hn'; rw [hn']; simpa using hrun
    · exact h.elim
  · exact h.elim

theorem slice_ok {o : Oper} {K : St → Prop} (hR : Rel M s a w) {t : TypeId} {i : TI} (hi : tiOK P t i = true) {x : Operand} {lo hi' : Option Operand} (ho : o.op = .slice t x lo hi' none)
    (h : sliceE an s i o.dst (s.eval x) (lo.map s.eval) (hi'.map s.eval) K) : EOk P o a M w s K := by
  obtain ⟨_, dd, _, hdd, _, _, htk, _⟩ := tiOK_get hi
  have hex : ∀ v w1, (Instr.sliceAt t (a.eval x) (lo.map a.eval) (hi'.map a.eval) none).run P w = .ok v w1 → (execOp a.eval o).run P w = .ok (.value v) w1 := by
    intro v w1 hrun
    simp [execOp, ho, hrun]
  unfold sliceE at h
  split at h
  · rename_i e hk
    obtain ⟨rfl, he, hpos⟩ := tk_slice htk hk
    have hso := run_sizeOf_cells (P := P) (t := e) (by omega) w
    rw [he] at hso
    have hx := hR.eval x
    split at h
    · rename_i k hd em ex
      rw [ex] at hx
      split at h
      · rename_i d e' sz xs hd' hlo0 hlk
        have hlo1 : lo = none := by cases lo <;> simp_all
        subst hlo1
        obtain ⟨rfl, h⟩ := h
        obtain ⟨n, ⟨⟨h0, h1⟩, zs, rfl, h⟩, hn⟩ := bndE_ok hR h
        have hokk := hR.ob.ok k _ hlk
        obtain ⟨vals, hown, hall, h1', hsz, hfree⟩ := hokk
        obtain ⟨hax, aa, nn, cc, hhd⟩ := hx.sl_inv
        have hsl := hown.2
        have hnn : nn = xs.length ∧ nn ≤ cc := by
          rcases hown.2 with ⟨q1, q2⟩ | ⟨g, cap, cur, q1, _, _, q3, _⟩
          · rw [hhd] at q1; simp only [Value.slice.injEq] at q1; omega
          · rw [hhd] at q1; simp only [Value.slice.injEq] at q1; omega
        have hrun := run_slice' (w := w) hdd hso (ad := aa) (len := nn) (cap := cc) (lo := none) (hi := hi'.map a.eval) (m := 0) (n := n) (.inl ⟨rfl, rfl⟩) (by rw [hnn.1]; exact hn) (Int.le_refl _) h0 (by omega) hnn.2
        have hrun2 : (Instr.sliceAt t (a.eval x) ((none : Option Operand).map a.eval) (hi'.map a.eval) none).run P w = .ok (.slice aa n.toNat cc) w := by
          rw [hax, hhd]
          refine hrun.trans ?_
          by_cases hc0 : cc = 0
          · simp [hc0]
          · have : aa.map (·.add (0 * i.esz)) = aa := by cases aa <;> simp [Addr.add]
            simp only [Int.toNat_zero, if_neg hc0, this, Nat.sub_zero]
        have h := h (.slice aa n.toNat cc)
        obtain ⟨s1, hks, hn1, hg1, ho1, hj1⟩ := St.setO_ok h
        have hok : okOb M w (.arr (.slice aa n.toNat cc) e' sz false (xs.take n.toNat)) := by
          have hle : n.toNat ≤ xs.length := by omega
          refine ⟨vals.take (n.toNat * sz), ⟨?_, ?_⟩, ?_, fun v hv => h1' v (List.mem_of_mem_take hv), fun x hx => hsz x (List.mem_of_mem_take hx), fun b hb => ?_⟩
          · have := Nat.mul_le_mul_right sz hle
            simp [hown.1]
          · rcases hown.2 with ⟨q1, q2⟩ | ⟨g, cap, cur, q1, q0, q2, q3, q4, q5, q6⟩
            · rw [hhd] at q1; simp only [Value.slice.injEq] at q1
              obtain ⟨rfl, rfl, rfl⟩ := q1
              have : n.toNat = 0 := by omega
              exact .inl ⟨by rw [this], by simp; omega⟩
            · rw [hhd] at q1; simp only [Value.slice.injEq] at q1
              obtain ⟨rfl, rfl, rfl⟩ := q1
              refine .inr ⟨g, cc, cur, by rw [List.length_take, Nat.min_eq_left hle], q0, q2, by simp; omega, q4, q5, ?_⟩
              rw [← q6, List.take_take, List.length_take, Nat.min_eq_left hle, Nat.min_eq_left (Nat.mul_le_mul_right sz hle)]
          · have := hall.take (n.toNat * sz)
            have e3 : (xs.flatMap cellsOf).take (n.toNat * sz) = (xs.take n.toNat).flatMap cellsOf := by
              have e1 : xs.flatMap cellsOf = ((xs.take n.toNat).flatMap cellsOf) ++ ((xs.drop n.toNat).flatMap cellsOf) := by rw [← List.flatMap_append, List.take_append_drop]
              have hl : ((xs.take n.toNat).flatMap cellsOf).length = n.toNat * sz := by
                rw [flat_len (sz := sz) (fun x hx => hsz x (List.mem_of_mem_take hx)), List.length_take, Nat.min_eq_left hle]
              rw [e1, ← hl, List.take_left]
            rw [e3] at this; exact this
          · have hb' : (Value.ownBlock (a.eval x)) = some b := by
              rw [hax, hhd]
              cases aa with
              | none => simp [Value.ownBlock] at hb
              | some _ => simpa [Value.ownBlock] using hb
            rw [hax] at hb'
            exact ⟨(hfree b hb').1, fun o _ => (hfree b hb').2 o (.inl rfl)⟩
        obtain ⟨r1, p1⟩ := hR.upd (S := fun _ => False) (M' := M) (w' := w) k _ hn1 hg1 ho1 hj1 (.refl _ _ _) hR.rs (fun _ _ h => h.elim) hok (fun b hb => .inr ⟨_, hlk, by
          rw [hhd]
          cases aa with
          | none => simp [blkO, Value.ownBlock] at hb
          | some _ => simpa [blkO, Value.ownBlock] using hb⟩)
        obtain ⟨s2, g1, g2, g3⟩ := r1.set hks (.sl k aa n.toNat cc)
        exact ⟨_, w, _, hex _ _ hrun2, .inl rfl, s2, M, g1, by rw [hd']; exact g2, p1.ob_eq g3⟩
      · exact h.elim
    · obtain ⟨s1, v1, M1, h, r1, p1, l1, g1, q1, n1⟩ := view1_ok hR (gamA_toD hx) h
      have hR1 := hR
      split at h
      · rename_i sz xs
        obtain ⟨n, h, hn⟩ := bndE_ok hR h
        obtain ⟨m, ⟨⟨h0, h1, h2, h3⟩, zs, rfl, h⟩, hm⟩ := bndE_ok hR h
        obtain ⟨v, hrun, hg⟩ := sliceList_ok (w := w) hdd hso g1 h3 hm hn h0 h1 h2
        obtain ⟨s2, k1, k2, k3⟩ := r1.put h hg
        exact ⟨_, w, _, hex _ _ hrun, .inl rfl, s2, M1, k1, k2, p1.ob_eq k3⟩
      · rename_i sz
        obtain ⟨n, h, hn⟩ := bndE_ok hR h
        obtain ⟨m, ⟨⟨e1, e2⟩, h4⟩, hm⟩ := bndE_ok hR h
        subst e1 e2
        generalize hav : a.eval x = av at g1
        cases g1
        have hrun := run_slice' (w := w) hdd hso (ad := none) (len := 0) (cap := 0) hm (hn.imp (fun q => ⟨q.1, rfl⟩) id) (Int.le_refl _) (Int.le_refl _) (by simp) (by simp)
        obtain ⟨s2, k1, k2, k3⟩ := r1.put h4 (.nils sz)
        exact ⟨_, w, _, hex _ _ (by rw [hav]; simpa using hrun), .inl rfl, s2, M1, k1, k2, p1.ob_eq k3⟩
      · exact h.elim
  · rename_i hk
    have e := tk_string htk hk
    subst e
    have hx := hR.eval x
    split at h
    · rename_i b ex
      rw [ex] at hx
      obtain ⟨n, h, hn⟩ := bndE_ok hR h
      obtain ⟨m, ⟨⟨h0, h1, h2⟩, h⟩, hm⟩ := bndE_ok hR h
      generalize hav : a.eval x = av at hx
      cases hx with | d _ _ hx => ?_
      cases hx with | str _ u hu => ?_
      have hsz : u.size = b.length := by rw [← hu, Array.length_toList]; rfl
      have hb := run_bounds (P := P) (w := w) (len := u.size) (cap := u.size) false hm (by rw [hsz]; exact hn) h0 h1 (by rw [hsz]; exact h2) (Nat.le_refl _)
      have hrun : (Instr.sliceAt t (a.eval x) (lo.map a.eval) (hi'.map a.eval) none).run P w = .ok (.string (u.extract m.toNat n.toNat)) w := by
        simp only [Instr.sliceAt, Instr.slice, hav, Sem.run_bind, run_underlying hdd, Result.andThen_ok]
        simp [hb]
      obtain ⟨s2, k1, k2, k3⟩ := hR.put h (val := .string (u.extract m.toNat n.toNat)) (.d _ _ (.str _ _ (by
        rw [ByteArray.data_extract, Array.toList_extract, hu, List.extract_eq_take_drop, List.drop_take])))
      exact ⟨_, w, _, hex _ _ hrun, .inl rfl, s2, M, k1, k2, (Stp.refl _ _ _).ob_eq k3⟩
    · exact h.elim
  · rename_i n e hk
    obtain ⟨rfl, he, hpos, hsz⟩ := tk_array htk hk
    have hso := run_sizeOf_cells (P := P) (t := e) (by omega) w
    rw [he] at hso
    have hx := gamA_toD (hR.eval x)
    split at h
    · rename_i hlo hhi
      have hlo1 : lo = none := by cases lo <;> simp_all
      have hhi1 : hi' = none := by cases hi' <;> simp_all
      subst hlo1 hhi1
      split at h
      · rename_i d ex
        rw [ex] at hx
        obtain ⟨xs, h1, h2, h3, h⟩ := h
        generalize hav : a.eval x = av at hx
        cases hx with | d _ _ hx => ?_
        cases hx with | ref _ b off val hm hv ho => ?_
        have hb := run_bounds (P := P) (w := w) (len := n) (cap := n) (lo := none) (hi := none) (m := 0) (n := (n : Int)) false (.inl ⟨rfl, rfl⟩) (.inl ⟨rfl, rfl⟩) (Int.le_refl _) (by omega) (by omega) (Nat.le_refl _)
        have hrun : (Instr.sliceAt t (a.eval x) ((none : Option Operand).map a.eval) ((none : Option Operand).map a.eval) none).run P w = .ok (.slice (some ⟨b, off, none⟩) n n) w := by
          simp only [Instr.sliceAt, hav, Sem.run_bind, run_underlying hdd, Result.andThen_ok, Instr.sureAddr, Sem.run_pure, Option.map_none]
          rw [hb]
          simp only [Result.andThen_ok, Sem.run_bind, hso, Sem.run_pure, Int.toNat_zero, Int.toNat_natCast]
          by_cases hn : n = 0
          · simp [hn]
          · simp [hn, Addr.add]
        obtain ⟨s2, k1, k2, k3⟩ := hR.put h (val := .slice (some ⟨b, off, none⟩) n n) (.d _ _ (by rw [← h1]; exact .list _ xs b off _ val (Nat.le_refl _) h3 (by rw [h2]; exact hm) (by rw [h2]; exact hv) (by rw [h2]; exact ho)))
        exact ⟨_, w, _, hex _ _ hrun, .inl rfl, s2, M, k1, k2, (Stp.refl _ _ _).ob_eq k3⟩
      · rename_i k b o ex
        rw [ex] at hx
        split at h
        · rename_i b' cs hlk
          obtain ⟨rfl, h⟩ := h
          generalize hav : a.eval x = av at hx
          cases hx
          obtain ⟨vals, elem, hb, hall, hone, hfree⟩ := hR.ob.ok k _ hlk
          obtain ⟨l, ⟨xs, h1, h2, h3, h⟩, hl, hn, hn'⟩ := cellsR_ok h hall
          obtain ⟨s', hks, hnn, hgg, hoo, hjj⟩ := St.setO_ok h
          have hc2 : ∀ o v, vals[o]? = some v → w.cell? ⟨b, o, none⟩ = some v := fun o v hv => by rw [cell_block hb]; exact hv
          have hle : M.le (M.row b vals) := GM.le_row fun o v hv' u hu => by
            have := hR.rs.c _ _ _ hv'
            rw [hc2 o u hu] at this; cases this; rfl
          obtain ⟨r1, p1⟩ := hR.upd (S := fun q => q = b) (M' := M.row b vals) (w' := w) k _ hnn hgg hoo hjj
            ⟨rfl, rfl, rfl, Nat.le_refl _, fun _ _ _ => rfl, hle, fun q _ hq o => GM.row_other M _ vals hq o, fun _ _ _ => rfl⟩ (hR.rs.row hc2)
            (fun q _ hq => ⟨_, hlk, by rw [hq]; rfl⟩)
            (by refine ⟨[], ⟨rfl, .inl ⟨rfl, rfl⟩⟩, ⟨rfl, fun i x y hx => by simp at hx⟩, by simp, by simp, fun q hq => by simp [Value.ownBlock] at hq⟩)
            (fun q hq => by simp [blkO, Value.ownBlock] at hq)
          have hb' := run_bounds (P := P) (w := w) (len := n) (cap := n) (lo := none) (hi := none) (m := 0) (n := (n : Int)) false (.inl ⟨rfl, rfl⟩) (.inl ⟨rfl, rfl⟩) (Int.le_refl _) (by omega) (by omega) (Nat.le_refl _)
          have hrun : (Instr.sliceAt t (a.eval x) ((none : Option Operand).map a.eval) ((none : Option Operand).map a.eval) none).run P w = .ok (.slice (some ⟨b, o, none⟩) n n) w := by
            simp only [Instr.sliceAt, hav, Sem.run_bind, run_underlying hdd, Result.andThen_ok, Instr.sureAddr, Sem.run_pure, Option.map_none]
            rw [hb']
            simp only [Result.andThen_ok, Sem.run_bind, hso, Sem.run_pure, Int.toNat_zero, Int.toNat_natCast]
            by_cases hn : n = 0
            · simp [hn]
            · simp [hn, Addr.add]
          have hat : ∀ (i : Nat) d, (xs.flatMap cellsOf)[i]? = some d → ∃ v, vals[o + i]? = some v ∧ Gam M d v := by
            intro i d hd
            have e1 : (l.map AV.toD)[i]? = some (.d d) := by rw [h2, List.getElem?_map, hd]; rfl
            rw [List.getElem?_map, Option.map_eq_some_iff] at e1
            obtain ⟨av, e2, e3⟩ := e1
            obtain ⟨v, e4, e5⟩ := hl.get e2
            have e6 := gamA_toD e5
            rw [e3] at e6
            cases e6 with | d _ _ e6 => ?_
            exact ⟨v, getElem?_seg e4, e6⟩
          have hg : GamA (M.row b vals) (.d (.list i.esz xs)) (.slice (some ⟨b, o, none⟩) n n) := by
            refine .d _ _ ?_
            rw [← h1]
            refine .list _ xs b o _ (fun i => (vals[o + i]?).getD undef) (Nat.le_refl _) h3 (fun i d hd => ?_) (fun i d hd => ?_) (fun i d hd => ?_)
            · obtain ⟨v, e1, e2⟩ := hat i d hd; rw [e1]; exact GM.row_at M _ e1
            · obtain ⟨v, e1, e2⟩ := hat i d hd; rw [e1]; exact e2.mono hle
            · obtain ⟨v, e1, e2⟩ := hat i d hd; rw [e1]; exact hone v (List.mem_of_getElem? e1)
          obtain ⟨s2, k1, k2, k3⟩ := r1.put hks hg
          exact ⟨_, w, _, hex _ _ hrun, .inl rfl, s2, _, k1, k2, p1.ob_eq k3⟩
        · exact h.elim
      · exact h.elim
    · exact h.elim
  · exact h.elim

theorem argsE_ok {own : Bool} (hR : Rel M s a w) {vs : List AV} {vals : List Value} (hv : All2 (GamA M) vs vals) {K : St → List AV → Prop} (h : argsE own vs s K) :
    ∃ s' vs' M', K s' vs' ∧ Rel M' s' a w ∧ Stp s.ob M w s'.ob M' w ∧ M.le M' ∧ All2 (GamA M') vs' vals ∧ (∀ q, s'.get q = s.get q) ∧ s'.n = s.n := by
  cases own with
  | true => exact ⟨s, vs, M, h, hR, .refl _ _ _, M.le_refl, hv, fun _ => rfl, rfl⟩
  | false => exact viewsA_ok hR hv h

theorem argsAt_ok (htt : ttOK P tt = true) : ∀ {vs : List AV} {vals : List Value} {ts : List TypeId} {K : List AV → Prop}, All2 (GamA M) vs vals → argsAt tt vs ts K → ∃ vs', K vs' ∧ All2 (GamA M) vs' vals
  | [], vals, ts, K, hv, h => ⟨[], h, hv⟩
  | v :: vs, vals, [], K, hv, h => h.elim
  | v :: vs, vals, t :: ts, K, hv, h => by
    obtain ⟨u, us, rfl, hu, ht⟩ := hv.inv
    rw [argsAt_cons] at h
    unfold arg1 at h
    split at h
    · obtain ⟨i, _, h⟩ := withTI_ok htt h
      obtain ⟨vs', h1, h2⟩ := argsAt_ok htt ht h
      cases hu
      exact ⟨_, h1, .cons (.d _ _ (.nils _)) h2⟩
    · simp only [forceAV_iff] at h
      obtain ⟨vs', h1, h2⟩ := argsAt_ok htt ht h
      exact ⟨_, h1, .cons (gamA_toD hu) h2⟩

theorem look_ren {ren : Nat → Nat} : ∀ {l : List (Nat × Ob)} {k : Nat} {o : Ob}, look (renOs ren l) k = some o → ∃ k', look l k' = some o ∧ ren k' = k
  | [], _, _, h => by simp [renOs, look_nil] at h
  | (j, x) :: r, k, o, h => by
    simp only [renOs, List.map_cons, look_cons] at h
    split at h
    · rename_i e
      cases h
      exact ⟨j, by simp [look_cons], Nat.eq_of_beq_eq_true e⟩
    · rename_i e
      obtain ⟨k', h1, h2⟩ := look_ren (l := r) h
      refine ⟨k', ?_, h2⟩
      have hne : Nat.beq j k' = false := by
        rw [← Bool.not_eq_true]; intro e'
        have := Nat.eq_of_beq_eq_true e'
        subst this
        rw [h2] at e; simp at e
      simp only [look_cons, hne]; exact h1

theorem look_append : ∀ {l r : List (Nat × Ob)} {k : Nat} {o : Ob}, look (l ++ r) k = some o → look l k = some o ∨ look r k = some o
  | [], _, _, _, h => .inr h
  | (j, x) :: l, r, k, o, h => by
    simp only [List.cons_append, look_cons] at h ⊢
    split at h
    · exact .inl h
    · exact look_append h

def St.withOb (s : St) (ob : List (Nat × Ob)) : St := match s with | ⟨n, tm, _⟩ => ⟨n, tm, ob⟩

/-- Behind a call that was handed some objects. -/
theorem Rel.called (hR : Rel M s a w) {os os' rest : List (Nat × Ob)} {ren : Nat → Nat} (hos : ∀ k o, look os k = some o → look s.ob (ren k) = some o) (hr : RenOK ren os rest)
    (hrest : ∀ k o, look rest k = some o → look s.ob k = some o) (ho : Obs M' w' os') (hrs : Resp M' w') (hst : Stp os M w os' M' w') :
    Rel M' (s.withOb (renOs ren os' ++ rest)) a w' ∧ Stp s.ob M w (s.withOb (renOs ren os' ++ rest)).ob M' w' := by
  obtain ⟨n, tm, ob⟩ := s
  have hown : ∀ b, Owns os b → Owns ob b := fun b ⟨k, o, h1, h2⟩ => ⟨ren k, o, hos k o h1, h2⟩
  have hrestn : ∀ k o b, look rest k = some o → blkO o b → ¬ Owns os b := by
    rintro k o b h1 h2 ⟨k0, o0, h3, h4⟩
    have := hR.ob.dj (ren k0) k o0 o b (hos k0 o0 h3) (hrest k o h1) h4 h2
    have h5 := hr.apart k0 o0 h3
    rw [this, h1] at h5; cases h5
  refine ⟨⟨hR.df, hR.sz, fun t => (hR.tm t).mono hst.fr.mle, ⟨fun k o h => ?_, fun k1 k2 o1 o2 b h1 h2 h3 h4 => ?_⟩, hrs⟩,
    ⟨⟨hst.fr.os, hst.fr.tape, hst.fr.output, hst.fr.size, fun b hb hn => hst.fr.keep b hb fun h => hn (hown b h), hst.fr.mle, fun b hb hn => hst.fr.mc b hb fun h => hn (hown b h), fun b hb hn => hst.fr.mm b hb fun h => hn (hown b h)⟩, ?_⟩⟩
  · rcases look_append h with h | h
    · obtain ⟨k', h1, _⟩ := look_ren h
      exact ho.ok k' o h1
    · have hok := hR.ob.ok k o (hrest k o h)
      refine okOb_keep hok hst.fr.mle fun b hb => ?_
      have hlt := okOb_lt hok hb
      have hn := hrestn k o b h hb
      exact ⟨hst.fr.keep b hlt hn, hst.fr.mc b hlt hn, hst.fr.mm b hlt hn⟩
  · have mixed : ∀ k1 k2 o1 o2, look (renOs ren os') k1 = some o1 → look rest k2 = some o2 → blkO o1 b → blkO o2 b → False := by
      intro k1 k2 o1 o2 h1 h2 h3 h4
      obtain ⟨k', h5, _⟩ := look_ren h1
      rcases hst.ow b ⟨k', o1, h5, h3⟩ with h6 | h6
      · exact hrestn k2 o2 b h2 h4 h6
      · exact absurd (okOb_lt (hR.ob.ok k2 o2 (hrest k2 o2 h2)) h4) (by omega)
    rcases look_append h1 with h1 | h1 <;> rcases look_append h2 with h2 | h2
    · obtain ⟨k1', h5, e1⟩ := look_ren h1
      obtain ⟨k2', h6, e2⟩ := look_ren h2
      have := ho.dj k1' k2' o1 o2 b h5 h6 h3 h4
      rw [← e1, ← e2, this]
    · exact (mixed k1 k2 o1 o2 h1 h2 h3 h4).elim
    · exact (mixed k2 k1 o2 o1 h2 h1 h4 h3).elim
    · exact hR.ob.dj k1 k2 o1 o2 b (hrest _ _ h1) (hrest _ _ h2) h3 h4
  · rintro b ⟨k, o, h1, h2⟩
    rcases look_append h1 with h1 | h1
    · obtain ⟨k', h3, _⟩ := look_ren h1
      exact (hst.ow b ⟨k', o, h3, h2⟩).imp (hown b) id
    · exact .inl ⟨k, o, hrest k o h1, h2⟩

/-- How a run goes on. -/
def Goes (s : St) (M : GM) (w : World) (K : St → Prop) (a' : Act) (w' : World) : Prop := ∃ s' M', K s' ∧ Rel M' s' a' w' ∧ Stp s.ob M w s'.ob M' w'
def Pans (s : St) (M : GM) (w : World) (Kp : D → St → Prop) : Exit → Act → World → Prop := fun e a' w' => ∃ d v s' M', e = .panic [{ v, recovered := false }] ∧ Gam M' d v ∧ Kp d s' ∧ Rel M' s' a' w' ∧ Stp s.ob M w s'.ob M' w'

theorem Oper.wp_mono' {o : Oper} {a : Act} {w : World} {K K' : Act → World → Prop} {Q Q' : Exit → Act → World → Prop} (hh : o.wp P a w K Q) (h : ∀ a w, K a w → K' a w) (hq : ∀ e a w, Q e a w → Q' e a w) : o.wp P a w K' Q' := by
  unfold Oper.wp at *
  generalize (execOp a.eval o).run P w = r at *
  cases r with
  | ok n w' =>
    cases n <;> simp only [Oper.upon] at hh ⊢ <;>
      first
        | exact h _ _ hh
        | exact Calls.mono hh (fun e w'' he => by cases e <;> first | exact h _ _ he | exact hq _ _ _ he | exact he.imp fun _ x => x.imp fun _ y => hq _ _ _ y)
        | exact Rows.mono hh (fun _ _ he => h _ _ he)
  | halt x w' => cases x <;> simp only [Oper.upon] at hh ⊢ <;> first | exact hh | exact hq _ _ _ hh

theorem EOk.wp {o : Oper} {K : St → Prop} {Q : Exit → Act → World → Prop} (h : EOk P o a M w s K) : o.wp P a w (Goes s M w K) Q := by
  obtain ⟨r, w1, v, h1, h2, h3⟩ := h
  unfold Oper.wp
  rw [h1]
  rcases h2 with rfl | ⟨rfl, rfl⟩
  · exact h3
  · exact h3

theorem RdOk.wp {o : Oper} {K : St → Prop} {Q : Exit → Act → World → Prop} (hR : Rel M s a w) (h : RdOk P o a M w fun v => s.put o.dst v K) : o.wp P a w (Goes s M w K) Q := by
  obtain ⟨av, val, h1, h2, h3⟩ := h
  unfold Oper.wp
  rw [h1]
  obtain ⟨s', k1, k2, k3⟩ := hR.put h3 h2
  exact ⟨s', M, k1, k2, (Stp.refl _ _ _).ob_eq k3⟩

theorem obs_nil (M : GM) (w : World) : Obs M w [] := ⟨fun _ _ h => by simp [look_nil] at h, fun _ _ _ _ _ h => by simp [look_nil] at h⟩

theorem callE_ok {o : Oper} {K : St → Prop} {Kp : D → St → Prop} (hR : Rel M s a w) {f : FuncId} {args : List AV} {vals : List Value} (hargs : All2 (GamA M) args vals)
    (hex : CallOk P f → (execOp a.eval o).run P w = .ok (.enter f ⟨vals⟩) w) (h : callE P f args s o.dst K Kp) : o.wp P a w (Goes s M w K) (Pans s M w Kp) := by
  obtain ⟨n, tm, ob⟩ := s
  simp only [callE, force_iff] at h
  unfold Oper.wp
  cases h with
  | pure r h k =>
    rw [hex h.ok]
    refine (h.run M w vals hR.rs hargs (obs_nil _ _)).mono ?_
    rintro e w' ⟨os', M', ho, hrs, hst, hq⟩
    rcases hq with ⟨r', v, rfl, ⟨he, rfl⟩, hg⟩ | ⟨d, v, rfl, ⟨he, _⟩, _⟩
    · simp only [AE.ret.injEq] at he
      subst he
      have hfr : Frm (fun _ => False) M w M' w' := ⟨hst.fr.os, hst.fr.tape, hst.fr.output, hst.fr.size, fun b hb _ => hst.fr.keep b hb (by rintro ⟨_, _, h, _⟩; simp [look_nil] at h), hst.fr.mle,
        fun b hb _ => hst.fr.mc b hb (by rintro ⟨_, _, h, _⟩; simp [look_nil] at h), fun b hb _ => hst.fr.mm b hb (by rintro ⟨_, _, h, _⟩; simp [look_nil] at h)⟩
      obtain ⟨r1, p1⟩ := hR.upd0 hfr hrs
      obtain ⟨s', k1, k2, k3⟩ := r1.put k hg
      exact ⟨s', M', k1, k2, p1.ob_eq k3⟩
    · cases he
  | ex r R h k =>
    rw [hex h.ok]
    refine (h.run M w vals hR.rs hargs (obs_nil _ _)).mono ?_
    rintro e w' ⟨os', M', ho, hrs, hst, hq⟩
    rcases hq with ⟨r', v, rfl, ⟨x, hx, he, rfl⟩, hg⟩ | ⟨d, v, rfl, ⟨x, hx, he, _⟩, _⟩
    · simp only [AE.ret.injEq] at he
      subst he
      have hfr : Frm (fun _ => False) M w M' w' := ⟨hst.fr.os, hst.fr.tape, hst.fr.output, hst.fr.size, fun b hb _ => hst.fr.keep b hb (by rintro ⟨_, _, h, _⟩; simp [look_nil] at h), hst.fr.mle,
        fun b hb _ => hst.fr.mc b hb (by rintro ⟨_, _, h, _⟩; simp [look_nil] at h), fun b hb _ => hst.fr.mm b hb (by rintro ⟨_, _, h, _⟩; simp [look_nil] at h)⟩
      obtain ⟨r1, p1⟩ := hR.upd0 hfr hrs
      obtain ⟨s', k1, k2, k3⟩ := r1.put (k x hx) hg
      exact ⟨s', M', k1, k2, p1.ob_eq k3⟩
    · cases he
  | gen args' os Q ren rest ha hos hr hrest h k kp =>
    rw [hex h.ok]
    have hargs' : All2 (GamA M) args' vals := ⟨ha.1 ▸ hargs.1, fun i x y hx hy => by
      have hi : i < args.length := by rw [ha.1]; exact (List.getElem?_eq_some_iff.1 hx).1
      exact ha.2 i args[i] x (by simp [hi]) hx M y (hargs.2 i args[i] y (by simp [hi]) hy)⟩
    have hobs : Obs M w os := ⟨fun k o h => hR.ob.ok _ o (hos k o h), fun k k' o o' b h1 h2 h3 h4 => hr.inj k k' o o' h1 h2 (hR.ob.dj _ _ o o' b (hos _ _ h1) (hos _ _ h2) h3 h4)⟩
    refine (h.run M w vals hR.rs hargs' hobs).mono ?_
    rintro e w' ⟨os', M', ho, hrs, hst, hq⟩
    rcases hq with ⟨r, v, rfl, hq, hg⟩ | ⟨d, v, rfl, hq, hg⟩
    · obtain ⟨r', hle, hk⟩ := k r os' hq
      obtain ⟨r1, p1⟩ := hR.called hos hr hrest ho hrs hst
      obtain ⟨s', k1, k2, k3⟩ := r1.put hk (hle M' v hg)
      exact ⟨s', M', k1, k2, p1.ob_eq k3⟩
    · have hk := kp d os' hq
      obtain ⟨r1, p1⟩ := hR.called hos hr hrest ho hrs hst
      exact ⟨d, v, _, M', rfl, hg, hk, r1, p1⟩

theorem call_exec {o : Oper} {c : Call} {x : Operand} (ho : o.op = .call c) (hc : c.callee = .value x) {f : FuncId} {first caps : List Value} (hx : a.eval x = .func (.func f) ⟨first⟩ ⟨caps⟩) {vals : List Value}
    (hv : (c.args.map a.eval).toList = vals) (hok : CallOk P f) : (execOp a.eval o).run P w = .ok (.enter f ⟨first ++ vals ++ caps⟩) w := by
  have hv' : c.args.map a.eval = ⟨vals⟩ := by rw [← Array.toList_inj]; exact hv
  have e : (⟨first⟩ ++ ⟨vals⟩ ++ ⟨caps⟩ : Array Value) = ⟨first ++ vals ++ caps⟩ := by simp
  simp only [execOp, ho, resolve, hc, hx, hv', Deferred.ofValue, Sem.run_bind, Sem.run_pure, Result.andThen_ok, invoke, e, hok _ w]

theorem mapE_ok (hR : Rel M s a w) {v : AV} {val : Value} (hv : GamA M v val) {K : List (D × D) → Prop} (h : mapE s v K) :
    ∃ (es : List (D × D)) (arr : Array MapEntry), K es ∧ ((val = .map none ∧ arr = #[]) ∨ ∃ b clock, val = .map (some b) ∧ w.heap[b]? = some (.map arr clock)) ∧ es.length = arr.size ∧
      ∀ (i : Nat) (e : D × D) (v : MapEntry), es[i]? = some e → arr[i]? = some v → Gam M e.1 v.key ∧ Gam M e.2 v.val := by
  unfold mapE at h
  split at h
  · split at h
    · rename_i b' es hk
      obtain ⟨rfl, h⟩ := h
      cases hv
      obtain ⟨arr, clock, hb, hl, hg, _⟩ := hR.ob.ok _ _ hk
      exact ⟨es, ⟨arr⟩, h, .inr ⟨_, _, rfl, hb⟩, hl, fun i e v h1 h2 => let ⟨p, q, _⟩ := hg i e v h1 (by simpa using h2); ⟨p, q⟩⟩
    · exact h.elim
  · rename_i es
    cases hv with | d _ _ hv => ?_
    cases hv with | mp _ b arr clock hm hl g1 g2 _ _ => ?_
    exact ⟨es, ⟨arr⟩, h, .inr ⟨_, _, rfl, hR.rs.m _ _ hm⟩, hl, fun i e v h1 h2 => ⟨g1 i e v h1 (by simpa using h2), g2 i e v h1 (by simpa using h2)⟩⟩
  · cases hv with | d _ _ hv => ?_
    cases hv
    exact ⟨[], #[], h, .inl ⟨rfl, rfl⟩, rfl, fun _ _ _ h => by simp at h⟩
  · exact h.elim

/-- entries of a map, by their cells -/
theorem keys_ok {kt : TypeId} {ki : TI} (hki : tiOK P kt ki = true) : ∀ {es : List (D × D)} {arr : List MapEntry}, es.length = arr.length → (∀ (i : Nat) (e : D × D) (v : MapEntry), es[i]? = some e → arr[i]? = some v → Gam M e.1 v.key ∧ Gam M e.2 v.val) →
    (∀ e ∈ es, fitK ki e.1 = true) → KeysV P kt ki.ek arr (arr.map fun v => (v.key.cells.toList, v.val))
  | [], [], _, _, _ => trivial
  | e :: es, v :: arr, hl, hg, hf => by
    obtain ⟨_, _, k, _⟩ := fitK_key hki (hg 0 e v rfl rfl).1 (hf e (by simp))
    exact ⟨k, rfl, keys_ok hki (by simpa using hl) (fun i e' v' h1 h2 => hg (i + 1) e' v' (by simpa using h1) (by simpa using h2)) (fun e' h => hf e' (by simp [h]))⟩
  | [], _ :: _, h, _, _ => by simp at h
  | _ :: _, [], h, _, _ => by simp at h

theorem find_ok {kt : TypeId} {ki : TI} (hki : tiOK P kt ki = true) {x : D} {kv : Value} (hx : Gam M x kv) (hfx : fitK ki x = true) : ∀ {es : List (D × D)} {arr : List MapEntry} (i : Nat), es.length = arr.length →
    (∀ (i : Nat) (e : D × D) (v : MapEntry), es[i]? = some e → arr[i]? = some v → Gam M e.1 v.key ∧ Gam M e.2 v.val) → (∀ e ∈ es, fitK ki e.1 = true) →
    (findV kv.cells.toList (arr.map fun v => (v.key.cells.toList, v.val)) i = none ∧ findD (cellsOf x) es = none ∧ ∀ y, putD (cellsOf x) x y es = es ++ [(x, y)]) ∨
    ∃ j e v, findV kv.cells.toList (arr.map fun v => (v.key.cells.toList, v.val)) i = some (i + j, v.val) ∧ es[j]? = some e ∧ arr[j]? = some v ∧ findD (cellsOf x) es = some e.2 ∧ ∀ y, putD (cellsOf x) x y es = es.set j (x, y)
  | [], [], i, _, _, _ => .inl ⟨rfl, rfl, fun _ => rfl⟩
  | e :: es, v :: arr, i, hl, hg, hf => by
    obtain ⟨_, _, k1, c1⟩ := fitK_key hki (hg 0 e v rfl rfl).1 (hf e (by simp))
    obtain ⟨_, _, k2, c2⟩ := fitK_key hki hx hfx
    have hfe := hf e (by simp)
    simp only [fitK, Bool.and_eq_true] at hfx hfe
    have heq := eq_gam c2 c1 hfx.1.1 hfe.1.1
    simp only [List.map_cons, findV, findD, putD, heq]
    cases eqDs (cellsOf x) (cellsOf e.1) with
    | true => exact .inr ⟨0, e, v, by simp, rfl, rfl, by simp, fun y => by simp⟩
    | false =>
      have hfx' : fitK ki x = true := by simp only [fitK, Bool.and_eq_true]; exact hfx
      rcases find_ok hki hx hfx' (i + 1) (by simpa using hl) (fun i e' v' h1 h2 => hg (i + 1) e' v' (by simpa using h1) (by simpa using h2)) (fun e' h => hf e' (by simp [h])) with ⟨h1, h2, h3⟩ | ⟨j, e', v', h1, h2, h3, h4, h5⟩
      · exact .inl ⟨by simpa using h1, by simpa using h2, fun y => by simp [h3 y]⟩
      · exact .inr ⟨j + 1, e', v', by simp only [Bool.false_eq_true, if_false, h1]; congr 2; omega, by simpa using h2, by simpa using h3, by simpa using h4, fun y => by simp [h5 y]⟩
  | [], _ :: _, _, h, _, _ => by simp at h
  | _ :: _, [], _, h, _, _ => by simp at h

theorem zeroD_ok {et : TypeId} {ei : TI} (hei : tiOK P et ei = true) {zd : D} (h : zeroD ei = some zd) {z : Value} {w : World} (hz : (zeroValue et).run P w = .ok z w) (M : GM) : Gam M zd z := by
  obtain ⟨inf, d, hi1, _, _, _, _, z', hz', hzz, _, hag⟩ := tiOK_get hei
  have hz1 := zerosOK_gam hzz M
  have ez : z' = z := by
    rw [show (zeroValue et).run P w = .ok z' w from by simp [zeroValue, typeInfo, hi1, hz']] at hz
    cases hz; rfl
  subst ez
  unfold zeroD at h
  split at h
  · rename_i hag0
    rw [hag0] at hag
    split at h
    · rename_i z0 hze
      cases h
      have hc : z'.cells.toList = [z'] := by cases z' <;> first | rfl | cases hag
      rw [hc, hze] at hz1
      obtain ⟨u, us, e0, hu, _⟩ := hz1.1.inv
      cases e0; exact hu
    · cases h
  · rename_i hag0
    rw [hag0] at hag
    cases h
    cases z' with
    | agg cs => exact .agg _ _ hz1.1.1 hz1.1.2 hz1.2
    | _ => cases hag

theorem lkAV_ok (ok q : Bool) {vd : D} {vv : Value} (hv : Gam M vd vv) : GamA M (lkAV ok vd q) (if ok then .tuple #[vv, .bool q] else vv) := by
  cases ok
  · exact .d _ _ hv
  · refine .d _ _ (.tup [vd, .bool q] [vv, .bool q] rfl fun j c u h1 h2 => ?_)
    rcases j with _ | _ | j
    · simp at h1 h2; subst h1; subst h2; exact hv
    · simp at h1 h2; subst h1; subst h2; exact .bool _
    · simp at h1

theorem lookup_ok {o : Oper} {K : St → Prop} (htt : ttOK P tt = true) (hR : Rel M s a w) {t kt et : TypeId} {i ki ei : TI} (hi : tiOK P t i = true) (hk : i.k = .map kt et) (hki : tiOK P kt ki = true) (hei : tiOK P et ei = true) {m x : Operand} {ok : Bool}
    (ho : o.op = .lookup t m x ok) (h : lookupE s ki ei o.dst (s.eval m) (s.eval x) ok K) : EOk P o a M w s K := by
  obtain ⟨_, d, _, hd, _, _, htk, _⟩ := tiOK_get hi
  have ed : d = .map kt et := by cases d <;> simp [tkOK, hk] at htk; rw [htk.1, htk.2]
  subst ed
  unfold lookupE at h
  obtain ⟨es, arr, h, hm, hl, hg⟩ := mapE_ok hR (hR.eval m) h
  unfold keyE at h
  have hx := gamA_toD (hR.eval x)
  split at h
  · rename_i kd ex
    rw [ex] at hx
    obtain ⟨hfk, hfe, h⟩ := h
    cases hx with | d _ _ hx => ?_
    obtain ⟨e1, e2, k1, c1⟩ := fitK_key hki hx hfk
    obtain ⟨inf, z, _, _, hz, hzs, hzrun⟩ := ti_zero hei
    have hz1 := zerosOK_gam hz M
    have hl' : es.length = arr.toList.length := by simpa using hl
    have hg' : ∀ (i : Nat) (e : D × D) (v : MapEntry), es[i]? = some e → arr.toList[i]? = some v → Gam M e.1 v.key ∧ Gam M e.2 v.val := fun i e v h1 h2 => hg i e v h1 (by simpa using h2)
    have hrun := run_lookup hd e1 (by omega) k1 (hzrun w) (keys_ok hki hl' hg' hfe) hm ok
    split at h
    · rename_i zd hzd
      have hzg := zeroD_ok hei hzd (hzrun w) M
      obtain ⟨v, b, rfl, rfl, h⟩ := h
      have fin : ∀ (vd : D) (vv : Value) (q : Bool), Gam M vd vv → (Instr.lookup t (a.eval m) (a.eval x) ok).run P w = .ok (if ok then .tuple #[vv, .bool q] else vv) w →
          s.put o.dst (lkAV ok vd q) K → EOk P o a M w s K := by
        intro vd vv q hv hrun h
        have hga : GamA M (lkAV ok vd q) (if ok then .tuple #[vv, .bool q] else vv) := lkAV_ok ok q hv
        obtain ⟨s', g1, g2, g3⟩ := hR.put h hga
        refine ⟨_, _, _, ?_, .inl rfl, s', M, g1, g2, (Stp.refl s.ob M w).ob_eq g3⟩
        simp only [execOp, ho, Sem.run_bind, hrun]; rfl
      rcases find_ok hki hx hfk 0 hl' hg' hfe with ⟨h1, h2, _⟩ | ⟨j, e, v, h1, h2, h3, h4, _⟩
      · rw [h1] at hrun
        rw [h2] at h
        exact fin _ _ _ hzg hrun h
      · rw [h1] at hrun
        rw [h4] at h
        exact fin _ _ _ (hg' j e v h2 h3).2 hrun h
    · exact h.elim
  · exact h.elim

theorem makeMap_ok {o : Oper} {K : St → Prop} (hR : Rel M s a w) {t : TypeId} (ho : o.op = .makeMap t none) {d kk : Nat} (hd : o.dst = some d)
    (h : ∀ b, s.setO kk (.map b []) fun s' => s'.putN d (.mp kk b) K) : EOk P o a M w s K := by
  have h := h w.heap.size
  have hfree := hR.rs.free (Nat.le_refl w.heap.size)
  obtain ⟨s1, h1, r1, p1, _, _⟩ := hR.new (.map #[] 0) kk _ h ⟨[], 0, by rw [heap_alloc_new], rfl, fun _ _ _ h => by simp at h, rfl, hfree⟩ (fun b e => by simp [blkO] at e; exact e.symm)
  obtain ⟨s', h1, h2, h3⟩ := r1.set h1 (.mp kk w.heap.size)
  exact ⟨.value (.map (some w.heap.size)), _, _, by simp [execOp, ho, Instr.makeMap], .inl rfl, s', M, h1, by rw [hd]; exact h2, p1.ob_eq h3⟩

theorem mapUpdate_ok {o : Oper} {K : St → Prop} (htt : ttOK P tt = true) (hR : Rel M s a w) {t kt et : TypeId} {i ki : TI} (hi : tiOK P t i = true) (hk : i.k = .map kt et) (hki : tiOK P kt ki = true) {m x v : Operand}
    (ho : o.op = .mapUpdate t m x v) (hdst : o.dst = none) (h : mapUpdateE tt s ki et (s.eval m) (s.eval x) (s.eval v) K) : EOk P o a M w s K := by
  obtain ⟨_, d, _, hd, _, _, htk, _⟩ := tiOK_get hi
  have ed : d = .map kt et := by cases d <;> simp [tkOK, hk] at htk; rw [htk.1, htk.2]
  subst ed
  unfold mapUpdateE at h
  obtain ⟨s1, v1, M1, h, r1, p1, l1, g1, q1, n1⟩ := viewE_ok hR (hR.eval v) h
  have hv2 : ∃ v2, GamA M1 v2 (a.eval v) ∧ (match v2 with
    | .d vd => match s.eval m with
      | .mp k b => match look s1.ob k with
        | some (.map b' es) => Side (b = b') (keyE ki (s.eval x) fun kd => Need (∀ e ∈ es, fitK ki e.1 = true) (MEqv (putD (cellsOf kd) kd vd es) fun es' => s1.setO k (.map b es') K))
        | _ => False
      | _ => False
    | _ => False) := by
    unfold arg1 at h
    split at h
    · obtain ⟨_, _, h⟩ := withTI_ok htt h
      have e0 : a.eval v = .slice none 0 0 := by generalize a.eval v = q at g1; cases g1; rfl
      rw [e0]; exact ⟨_, .d _ _ (.nils _), h⟩
    · rw [forceAV_iff] at h
      exact ⟨_, gamA_toD g1, h⟩
  obtain ⟨v2, g2, h⟩ := hv2
  split at h
  · rename_i vd
    cases g2 with | d _ _ g2 => ?_
    split at h
    · rename_i k b em
      have hm := hR.eval m
      rw [em] at hm
      generalize hmv : a.eval m = mv at hm
      cases hm
      split at h
      · rename_i b' es hlk
        obtain ⟨rfl, h⟩ := h
        obtain ⟨arr, clock, hb, hl, hg, hck, hfree⟩ := r1.ob.ok _ _ hlk
        unfold keyE at h
        have hx := (gamA_toD (hR.eval x)).mono l1
        split at h
        · rename_i kd ex
          rw [ex] at hx
          obtain ⟨hfk, hfe, zs, rfl, h⟩ := h
          cases hx with | d _ _ hx => ?_
          obtain ⟨e1, e2, k1, c1⟩ := fitK_key hki hx hfk
          have hl' : es.length = arr.length := hl
          have hg' : ∀ (i : Nat) (e : D × D) (v : MapEntry), es[i]? = some e → arr[i]? = some v → Gam M1 e.1 v.key ∧ Gam M1 e.2 v.val := fun i e v h1 h2 => ⟨(hg i e v h1 h2).1, (hg i e v h1 h2).2.1⟩
          have hrun := run_mapUpdate (u := a.eval v) hd e1 (by omega) k1 (es := ⟨arr⟩) (keys_ok hki hl' hg' hfe) hb
          obtain ⟨s', hks, hn, hgt, ho', hj⟩ := St.setO_ok h
          have hlt : b < w.heap.size := heap_lt hb
          -- the world behind the change
          have fin : ∀ (arr' : List MapEntry) (clock' : Nat), (Instr.mapUpdate t (.map (some b)) (a.eval x) (a.eval v)).run P w = .ok () { w with heap := w.heap.setIfInBounds b (.map ⟨arr'⟩ clock') } →
              (putD (cellsOf kd) kd vd es).length = arr'.length → (∀ (i : Nat) (e : D × D) (v : MapEntry), (putD (cellsOf kd) kd vd es)[i]? = some e → arr'[i]? = some v → Gam M1 e.1 v.key ∧ Gam M1 e.2 v.val ∧ v.born = i) → clock' = arr'.length → EOk P o a M w s K := by
            intro arr' clock' hrun hl2 hg2 hck2
            have hsame : ({ w with heap := w.heap.setIfInBounds b (.map ⟨arr'⟩ clock') } : World).heap[b]? = some (.map ⟨arr'⟩ clock') := by simp [hlt]
            have hoth : ∀ q, q ≠ b → ({ w with heap := w.heap.setIfInBounds b (.map ⟨arr'⟩ clock') } : World).heap[q]? = w.heap[q]? := by
              intro q hq
              simp only [Array.getElem?_setIfInBounds]
              rw [if_neg (Ne.symm hq)]
            have hrs : Resp M1 { w with heap := w.heap.setIfInBounds b (.map ⟨arr'⟩ clock') } := by
              refine ⟨fun q off u hu => ?_, fun q y hy => ?_⟩
              · have hq : q ≠ b := by rintro rfl; rw [hfree.c] at hu; cases hu
                rw [World.cell?_of_block (w := w) (hoth q hq)]; exact r1.rs.c _ _ _ hu
              · have hq : q ≠ b := by rintro rfl; rw [hfree.m] at hy; cases hy
                rw [hoth q hq]; exact r1.rs.m _ _ hy
            obtain ⟨r2, p2⟩ := r1.upd (S := fun q => q = b) (M' := M1) (w' := { w with heap := w.heap.setIfInBounds b (.map ⟨arr'⟩ clock') }) k _ hn hgt ho' hj
              ⟨rfl, rfl, rfl, by simp, fun q _ hq => hoth q hq, M1.le_refl, fun _ _ _ _ => rfl, fun _ _ _ => rfl⟩ hrs (fun q _ hq => ⟨_, hlk, by rw [hq]; rfl⟩)
              ⟨arr', clock', hsame, hl2, hg2, hck2, hfree⟩ (fun q hq => .inr ⟨_, hlk, hq⟩)
            refine ⟨.skip, _, undef, ?_, .inr ⟨rfl, rfl⟩, s', M1, hks, by rw [hdst]; exact r2, p1.trans p2⟩
            simp only [execOp, ho, hmv, Sem.run_bind, hrun]; rfl
          rcases find_ok hki hx hfk 0 hl' hg' hfe with ⟨h1, h2, h3⟩ | ⟨j, e, u, h1, h2, h3, h4, h5⟩
          · rw [h1] at hrun
            refine fin (arr ++ [{ key := a.eval x, val := a.eval v, born := clock }]) (clock + 1) (by simpa using hrun) (by rw [h3]; simp [hl]) ?_ (by simp [hck])
            rw [h3]
            intro q e' v' hq1 hq2
            rcases Nat.lt_or_ge q es.length with hq | hq
            · rw [List.getElem?_append_left hq] at hq1
              rw [List.getElem?_append_left (by omega)] at hq2
              exact hg q e' v' hq1 hq2
            · rw [List.getElem?_append_right hq] at hq1
              rw [List.getElem?_append_right (by omega)] at hq2
              have hq0 : q - es.length = 0 := by
                have := (List.getElem?_eq_some_iff.1 hq1).1; simp at this; omega
              have hq3 : q - arr.length = 0 := by omega
              rw [hq0] at hq1; rw [hq3] at hq2
              simp at hq1 hq2
              subst hq1; subst hq2
              exact ⟨hx, g2, by simp; omega⟩
          · rw [h1, Nat.zero_add] at hrun
            have hmod : (⟨arr⟩ : Array MapEntry).modify j (fun e => { e with key := a.eval x, val := a.eval v }) = ⟨arr.set j { u with key := a.eval x, val := a.eval v }⟩ := by
              rw [← Array.toList_inj]
              have hjl : j < arr.length := (List.getElem?_eq_some_iff.1 h3).1
              apply List.ext_getElem?
              intro q
              simp only [Array.toList_modify, List.getElem?_modify, List.getElem?_set]
              by_cases e : j = q
              · subst e
                have h3' := h3
                rw [List.getElem?_eq_getElem hjl] at h3'
                cases h3'
                simp [hjl]
              · simp [e]
            simp only [hmod] at hrun
            refine fin _ clock hrun (by rw [h5]; simp [hl]) ?_ (by simp [hck])
            rw [h5]
            intro q e' v' hq1 hq2
            rw [List.getElem?_set] at hq1 hq2
            have hjl : j < es.length := (List.getElem?_eq_some_iff.1 h2).1
            by_cases e : j = q
            · subst e
              simp [hjl] at hq1
              simp [show j < arr.length by omega] at hq2
              subst hq1; subst hq2
              exact ⟨hx, g2, (hg j _ u h2 h3).2.2⟩
            · simp only [e, if_false] at hq1 hq2
              exact hg q e' v' hq1 hq2
        · exact h.elim
      · exact h.elim
    · exact h.elim
  · exact h.elim


theorem opE_ok (htt : ttOK P tt = true) (hR : Rel M s a w) {o : Oper} {K : St → Prop} {Kp : D → St → Prop} (h : opE P tt an o s K Kp) : o.wp P a w (Goes s M w K) (Pans s M w Kp) := by
  unfold opE at h
  split at h
  · rename_i t e
    split at h
    · rename_i d hd
      obtain ⟨i, hi, h⟩ := withTI_ok htt h
      split at h
      · exact (alloc_ok (kk := Nat.add an.off d) (imm := true) hR hi e hd h).wp
      · split at h
        · split at h
          · split at h
            · rename_i hz0
              exact (allocOwn_ok hR hi e hd hz0 h).wp
            · exact h.elim
          · exact h.elim
        · exact (alloc_ok (kk := Nat.add an.off d) (imm := false) hR hi e hd h).wp
    · exact h.elim
  · rename_i t x e
    split at h
    · rename_i d hd
      obtain ⟨i, hi, h⟩ := withTI_ok htt h
      exact (box_ok htt hR e hd h).wp
    · exact h.elim
  · rename_i t x y e
    split at h
    · rename_i hd
      obtain ⟨i, hi, h⟩ := withTI_ok htt h
      exact (store_ok htt hR e hd hi h).wp
    · exact h.elim
  · rename_i t parts e
    obtain ⟨i, hi, h⟩ := withTI_ok htt h
    exact (build_ok hR hi e h).wp
  · rename_i t n parts e
    split at h
    · rename_i d hd
      obtain ⟨i, hi, h⟩ := withTI_ok htt h
      split at h
      · rename_i el hk
        obtain ⟨ei, hei, h⟩ := withTI_ok htt h
        exact (buildSlice_ok hR hi hk hei e hd h).wp
      · exact h.elim
    · exact h.elim
  · rename_i t l c e
    split at h
    · rename_i d hd
      split at h
      · rename_i kn n km m hl hc
        obtain ⟨i, hi, h⟩ := withTI_ok htt h
        split at h
        · rename_i el hk
          obtain ⟨ei, hei, h⟩ := withTI_ok htt h
          obtain ⟨hb, h⟩ := h
          split at h
          · rename_i z hag hz
            obtain ⟨zs, rfl, h⟩ := h
            have hcz : cellsOf z = ei.zero := by
              rw [hz]
              obtain ⟨_, _, _, _, hzz, _, _⟩ := ti_zero hei
              rw [hz] at hzz
              cases z <;> first | rfl | (rename_i q; exfalso; revert hzz; generalize Value.cells _ = cc; cases cc with | mk l => cases l with | nil => simp [zerosOK] | cons v l => simp [zerosOK, zeroOK])
            exact (makeSlice_ok hR hi hk hei e hd hl hc hb hcz h).wp
          · obtain ⟨zs, rfl, h⟩ := h
            exact (makeSlice_ok hR hi hk hei e hd hl hc hb rfl h).wp
          · exact h.elim
        · exact h.elim
      · exact h.elim
    · exact h.elim
  · rename_i t x lo hi' e
    obtain ⟨i, hi, h⟩ := withTI_ok htt h
    exact (slice_ok (an := an) hR hi e h).wp
  · rename_i t x lo hi' mx e
    obtain ⟨i, hi, h⟩ := withTI_ok htt h
    exact (slice3_ok hR hi e h).wp
  · rename_i t e
    split at h
    · rename_i d hd
      exact (makeMap_ok hR e hd h).wp
    · exact h.elim
  · rename_i t m x ok e
    obtain ⟨i, hi, h⟩ := withTI_ok htt h
    split at h
    · rename_i kt et hk
      obtain ⟨ki, hki, h⟩ := withTI_ok htt h
      obtain ⟨ei, hei, h⟩ := withTI_ok htt h
      exact (lookup_ok htt hR hi hk hki hei e h).wp
    · exact h.elim
  · rename_i t m x v e
    split at h
    · rename_i hd
      obtain ⟨i, hi, h⟩ := withTI_ok htt h
      split at h
      · rename_i kt et hk
        obtain ⟨ki, hki, h⟩ := withTI_ok htt h
        exact (mapUpdate_ok htt hR hi hk hki e hd h).wp
      · exact h.elim
    · exact h.elim
  · rename_i c e
    simp only [mapR_eq, appR_eq] at h
    split at h
    · rename_i hc
      split at h
      · rename_i d x y t t' hd hargs hts
        split at h
        · rename_i et
          have et := Nat.eq_of_beq_eq_true et
          subst et
          obtain ⟨i, hi, h⟩ := withTI_ok htt h
          split at h
          · rename_i el hk
            obtain ⟨ei, hei, h⟩ := withTI_ok htt h
            exact (append_ok hR e hc hd hargs hts hi hk hei h).wp
          · exact h.elim
        · exact h.elim
      · exact h.elim
    · rename_i x hc
      have hall : All2 (GamA M) (c.args.toList.map s.eval) (c.args.map a.eval).toList := by rw [Array.toList_map]; exact .list_map _ _ _ hR.eval
      obtain ⟨s1, vs1, M1, h, r1, p1, l1, g1, q1, n1⟩ := argsE_ok hR hall h
      obtain ⟨vs2, h, g2⟩ := argsAt_ok htt g1 h
      have hx := (hR.eval x).mono l1
      have fin : ∀ (f : FuncId) (args : List AV) (first caps : List Value), a.eval x = .func (.func f) ⟨first⟩ ⟨caps⟩ → All2 (GamA M1) args (first ++ (c.args.map a.eval).toList ++ caps) → callE P f args s1 o.dst K Kp →
          o.wp P a w (Goes s M w K) (Pans s M w Kp) := by
        intro f args first caps hv hargs hcall
        have := callE_ok r1 hargs (fun hok => call_exec (w := w) e hc hv rfl hok) hcall
        refine Oper.wp_mono' this ?_ ?_
        · rintro a' w' ⟨s', M', k1, k2, k3⟩
          exact ⟨s', M', k1, k2, p1.trans k3⟩
        · rintro x a' w' ⟨d, v, s', M', k0, k1, k2, k3, k4⟩
          exact ⟨d, v, s', M', k0, k1, k2, k3, p1.trans k4⟩
      split at h
      · rename_i f first caps ex
        rw [ex] at hx
        generalize hv : a.eval x = vx at hx
        cases hx with | d _ _ hx => ?_
        cases hx with | fn _ _ _ fv cv h1 h2 h3 h4 => ?_
        exact fin f _ fv cv hv (by rw [List.append_assoc]; exact (map_d_ok ⟨h1, h2⟩).append (g2.append (map_d_ok ⟨h3, h4⟩))) h
      · rename_i f first caps ex
        rw [ex] at hx
        generalize hv : a.eval x = vx at hx
        cases hx with | fn _ _ _ fv cv h1 h2 h3 h4 => ?_
        exact fin f _ fv cv hv (by rw [List.append_assoc]; exact All2.append ⟨h1, h2⟩ (g2.append ⟨h3, h4⟩)) h
      · exact h.elim
    · exact h.elim
  · rename_i x e
    have hx := hR.eval x
    split at h
    · rename_i t d ex
      rw [ex] at hx
      generalize hv : a.eval x = vx at hx
      cases hx with | d _ _ hx => ?_
      cases hx with | ifc _ _ v hx => ?_
      have hrun : (execOp a.eval o).run P w = .halt (.panic (.iface t v)) w := by
        simp only [execOp, e, hv, Sem.run_bind, run_panic_iface]
        rfl
      unfold Oper.wp
      rw [hrun]
      exact ⟨.ifc t d, _, s, M, rfl, .ifc _ _ _ hx, h, hR, .refl _ _ _⟩
    · exact h.elim
  · exact h.elim

theorem opA_ok (htt : ttOK P tt = true) (hR : Rel M s a w) {o : Oper} {K : St → Prop} {Kp : D → St → Prop} (h : opA P tt an o s K Kp) : o.wp P a w (Goes s M w K) (Pans s M w Kp) := by
  unfold opA at h
  split at h
  · exact (opR_ok htt hR h).wp hR
  · exact opE_ok htt hR h

end
end Go.Abs
