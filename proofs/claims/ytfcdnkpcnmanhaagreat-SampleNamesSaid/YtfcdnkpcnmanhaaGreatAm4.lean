/- A verified abstract machine for the code of the model, part 4: nothing in it speaks of one program. -/
import Derived.Test.YtfcdnkpcnmanhaaGreatAm3
import Derived.Orders
/- Regions in text order: the model's run of them. -/
namespace Go.Am
variable {P : Program} {ih : Ex} {rnd : Option Pos} {fc : Fc} {β : Ren}

inductive DfR (β : Ren) : ADef → Deferred → Prop where
  | call {f : AFn} {f' : Fn} {cap args : List AV} {cap' args' : List Value} (hf : FnR β f f') (hc : VRs β cap cap') (ha : VRs β args args') :
      DfR β (.call f cap args) { target := .fn f' (Array.mk cap'), args := Array.mk args' }
  | coll {p : Pos} {r n : Nat} (h : β p = some (r, n)) : DfR β (.coll p) { target := .collected r, args := #[] }
inductive DfsR (β : Ren) : List ADef → List Deferred → Prop where
  | nil : DfsR β [] []
  | cons {d : ADef} {d' : Deferred} {l : List ADef} {l' : List Deferred} (h : DfR β d d') (hl : DfsR β l l') : DfsR β (d :: l) (d' :: l')
theorem DfR.mono {β' : Ren} (hb : β.le β') {d : ADef} {d' : Deferred} (h : DfR β d d') : DfR β' d d' := by
  cases h with
  | call hf hc ha => exact .call (hf.mono hb) (hc.mono hb) (ha.mono hb)
  | coll h => exact .coll (hb _ _ h)
theorem DfsR.mono {β' : Ren} (hb : β.le β') {d : List ADef} {d' : List Deferred} (h : DfsR β d d') : DfsR β' d d' := by
  induction h with
  | nil => exact .nil
  | cons h _ ih => exact .cons (h.mono hb) ih

/-- What is known of the slots in a region. -/
def OvT (β : Ren) (tm : Tm) (arr : Array Value) : Prop := ∀ t v, eTmp t tm = some v → VR β v (arr.getD t undef)
theorem eTmp_eq (t : Tmp) (tm : PTree AV) (ov : List (Nat × AV)) : eTmp t ⟨tm, ov⟩ = findOv t ov (PTree.get (Pos.key t) tm) := by
  show findOv t ov (PTree.getK (Pos.key t) tm) = _
  rw [PTree.getK_eq]
theorem OvT.mono {β' : Ren} (hb : β.le β') {tm : Tm} {arr : Array Value} (h : OvT β tm arr) : OvT β' tm arr := fun t v e => (h t v e).mono hb
theorem OvT.op {tm : Tm} {arr : Array Value} (h : OvT β tm arr) : OpR β tm (evl arr) := by
  intro x v hv
  cases x with
  | tmp t => exact h t v hv
  | const c =>
    obtain ⟨a, h1, h2⟩ := obind_some.1 (show obind (ofVal 8 c) some = some v from hv)
    cases h2
    exact ofVal_VR _ _ _ h1
  | global g => cases hv
  | func f => cases hv; exact .func (a' := []) (c' := []) (.func f) .nil .nil
theorem TmT.ov {tm : PTree AV} {arr : Array Value} (h : TmT β tm arr) : OvT β ⟨tm, []⟩ arr := fun t v e => h t v (by rw [eTmp_eq] at e; exact e)
theorem getD_put (arr : Array Value) {d : Tmp} (hd : d < arr.size) (v : Value) (t : Tmp) : (putT arr (some d) v).getD t undef = if d = t then v else arr.getD t undef := by
  simp only [putT, Array.getD_eq_getD_getElem?, Array.getElem?_setIfInBounds]
  by_cases h : d = t
  · subst h; simp [hd]
  · simp [h]
theorem OvT.put {tm : PTree AV} {ov : List (Nat × AV)} {arr : Array Value} (h : OvT β ⟨tm, ov⟩ arr) {d : Tmp} (hd : d < arr.size) {v : AV} {v' : Value} (hv : VR β v v') :
    OvT β ⟨tm, (d, v) :: ov⟩ (putT arr (some d) v') := by
  intro t u e
  rw [eTmp_eq, findOv_cons] at e
  rw [getD_put arr hd]
  split at e
  · rename_i hdt; rw [if_pos hdt]; cases e; exact hv
  · rename_i hdt; rw [if_neg hdt]; exact h t u (by rw [eTmp_eq]; exact e)
theorem guardA_some {ops : Array Oper} {tm : Tm} {arr : Array Value} (h : OvT β tm arr) {o : Oper} {g : Bool} (hg : wantD ops.toList tm o.guard = some g) : Region.wanted o (yielded ops arr) = g := by
  unfold Region.wanted
  cases ho : o.guard with
  | none => rw [ho] at hg; cases hg; rfl
  | some jw =>
    obtain ⟨j, w⟩ := jw
    rw [ho] at hg
    obtain ⟨d, h1, h2⟩ := obind_some.1 (show obind (dstOf ops.toList j) _ = some g from hg)
    obtain ⟨v, h3, h4⟩ := obind_some.1 h2
    have hgetO : ∀ (l : List Oper) n, getO l n = l[n]? := by
      intro l
      induction l with
      | nil => intro n; rfl
      | cons x l ih => intro n; cases n with
        | zero => rfl
        | succ n => exact (ih n).trans (by simp)
    obtain ⟨oj, h5, h6⟩ := obind_some.1 (show obind (getO ops.toList j) (·.dst) = some d from h1)
    rw [hgetO] at h5
    have h5' : ops[j]? = some oj := by simpa using h5
    have hv := h d v h3
    simp only [yielded, h5', Option.bind_some, h6]
    cases hb : toBool v with
    | some bb =>
      rw [hb] at h4
      rw [toBool_some hb] at hv
      have e := hv.toBool
      have e2 : arr[d]? = some (.bool bb) := by
        rw [Array.getD_eq_getD_getElem?] at e
        cases hx : arr[d]? with
        | none => rw [hx] at e; simp [undef] at e
        | some y => rw [hx] at e; simpa using e
      rw [e2]
      have h4' : some (bcase bb (not w) w) = some g := h4
      cases h4'
      cases bb <;> cases w <;> rfl
    | none =>
      rw [hb] at h4
      have h4' : some false = some g := h4
      cases h4'
      cases hx : arr[d]? with
      | none => rfl
      | some y =>
        rw [Array.getD_eq_getD_getElem?, hx] at hv
        simp only [Option.getD_some] at hv
        cases hv <;> first | rfl | (simp [toBool] at hb)

/-- A region's operations one after the other. -/
theorem stepA_sim (hC : CallOk P ih) (hR : RoundOk P ih) {ops : Array Oper} {tm : PTree AV} {o : Oper} {s s' : St} (hs : stepA P ih rnd ops.toList fc tm o s = some s') {w : World} {arr : Array Value}
    {b : Frame} {k : List Item} {dv : List Deferred} {cs : List Frame} {i : Nat} {rest : List Nat} (hi : ops[i]? = some o) (hrd : RndR β rnd b) (hq : QuietK b.kind cs) (hr : Rel β s.h w)
    (ho : OvT β ⟨tm, s.ov⟩ arr) (hsz : arr.size = fc.nt) (hdf : DfsR β s.ds dv) (hd : Dom β s.h s'.h) :
    ∃ arr' w' β' dv', Steps P (mach b arr (.inRegion ops (i :: rest) :: k) dv cs w) (mach b arr' (.inRegion ops rest :: k) dv' cs w') ∧ arr'.size = arr.size ∧
      OvT β' ⟨tm, s'.ov⟩ arr' ∧ Rel β' s'.h w' ∧ Ext β s.h w β' s'.h w' ∧ DfsR β' s'.ds dv' := by
  obtain ⟨ov, ds, h⟩ := s
  simp only at hr ho hdf hd ⊢
  -- a value is put
  have put : ∀ {v : AV} {v' : Value} {h' : Heap} {w' : World} {β' : Ren} {dv' : List Deferred} {ds' : List ADef}, putS fc.nt o.dst v ov ds' h' = some s' → VR β' v v' → Rel β' h' w' → Ext β h w β' h' w' → DfsR β' ds' dv' →
      Steps P (mach b arr (.inRegion ops (i :: rest) :: k) dv cs w) (mach b (putT arr o.dst v') (.inRegion ops rest :: k) dv' cs w') →
      ∃ arr' w' β' dv', Steps P (mach b arr (.inRegion ops (i :: rest) :: k) dv cs w) (mach b arr' (.inRegion ops rest :: k) dv' cs w') ∧ arr'.size = arr.size ∧
        OvT β' ⟨tm, s'.ov⟩ arr' ∧ Rel β' s'.h w' ∧ Ext β h w β' s'.h w' ∧ DfsR β' s'.ds dv' := by
    intro v v' h' w' β' dv' ds' hp hv hr' he hdf' hst
    refine ⟨putT arr o.dst v', w', β', dv', hst, putT_size _ _ _, ?_⟩
    rcases putS_some hp with ⟨hd0, rfl⟩ | ⟨d, hd0, hlt, rfl⟩
    · rw [hd0]; exact ⟨ho.mono he.le, hr', he, hdf'⟩
    · rw [hd0]; exact ⟨(ho.mono he.le).put (by rw [hsz]; exact hlt) hv, hr', he, hdf'⟩
  -- the operation is wanted
  have wanted : Region.wanted o (yielded ops arr) = true → opH o.op P ih rnd fc tm o.dst ov ds h = some s' →
      ∃ arr' w' β' dv', Steps P (mach b arr (.inRegion ops (i :: rest) :: k) dv cs w) (mach b arr' (.inRegion ops rest :: k) dv' cs w') ∧ arr'.size = arr.size ∧
        OvT β' ⟨tm, s'.ov⟩ arr' ∧ Rel β' s'.h w' ∧ Ext β h w β' s'.h w' ∧ DfsR β' s'.ds dv' := by
    intro hw hop
    unfold opH at hop
    have hcls := cls_ok o.op
    cases hc : clsOf o.op with
    | lite f force reads =>
      rw [hc] at hop hcls
      obtain ⟨v, h1, h2⟩ := obind_some.1 (show obind (f P h ⟨tm, ov⟩) _ = some s' from hop)
      rw [bcase_eq, forceV_eq, ite_self] at h2
      cases hcls with
      | lite _ _ hl _ hn =>
        obtain ⟨v', e1, e2⟩ := hl P β h w ⟨tm, ov⟩ (evl arr) v o rfl hr ho.op h1
        exact put h2 e2 hr (Ext.refl _ _ _) hdf (Steps.one (s_value hi hw (.inr hn) e1))
    | lay f =>
      rw [hc] at hop hcls
      obtain ⟨⟨ob, mk⟩, h1, h2⟩ := obind_some.1 (show obind (f P ⟨tm, ov⟩) _ = some s' from hop)
      simp only [Heap.push_eq] at h2
      cases hcls with
      | lay hl hn =>
        have hlt : h.next.toNat < s'.h.next.toNat := by
          rw [(putS_h h2).1]; simp only [Pos.toNat_succ]; omega
        have hbn := hd.next hlt
        obtain ⟨n, v', o', e1, e2, e3⟩ := hl P β h.next w ⟨tm, ov⟩ (evl arr) _ o rfl ho.op h1 hbn
        have hp := hr.push hbn e2
        exact put h2 e3 hp.1 hp.2 (hdf.mono hp.2.le) (Steps.one (s_value hi hw (.inr hn) e1))
    | work f =>
      rw [hc] at hop hcls
      obtain ⟨⟨v, h'⟩, h1, h2⟩ := obind_some.1 (show obind (f P ih rnd h ⟨tm, ov⟩) (fin o.dst fc.nt ov ds) = some s' from hop)
      have h2' : putS fc.nt o.dst v ov ds h' = some s' := h2
      cases hcls with
      | work hv =>
        have hh := (putS_h h2').1
        obtain ⟨v', w', β', e1, e2, e3, e4⟩ := hv P ih rnd β h w ⟨tm, ov⟩ arr b k dv cs ops i rest o _ hC hR rfl hi hw hrd hq hr ho.op h1 (by rw [hh] at hd; exact hd)
        exact put h2' e4 e2 e3 (hdf.mono e3.le) e1
    | late f args =>
      rw [hc] at hop hcls
      cases hop2 : o.op with
      | defer c =>
        rw [hop2] at hcls
        cases hcls with
        | late hcal =>
          cases rnd with
          | some p => cases hop
          | none =>
            obtain ⟨fv, h1, hop⟩ := obind_some.1 (show obind (evalO ⟨tm, ov⟩ f) _ = some s' from hop)
            obtain ⟨f3, h3, hop⟩ := obind_some.1 hop
            obtain ⟨av, h5, hop⟩ := obind_some.1 hop
            have hfv := ho.op f fv h1
            rw [toFunc_some h3] at hfv
            have hl := evalL_sim ho.op _ _ h5
            cases hqv : evl arr f with
            | func f' first' cap' =>
              rw [hqv] at hfv
              cases hfv with
              | @func _ _ _ _ first' cap' hf ha hcp =>
                refine put hop (undef_VR β) hr (Ext.refl _ _ _) (.cons (.call hf hcp (ha.append hl)) hdf) (Steps.one (s_defer hi hw (.inl hrd) ?_))
                simp only [execOp, hop2, resolve, hcal, hqv, Deferred.ofValue, Sem.run_bind, Sem.run_pure, Result.andThen_ok]
                congr 2
                congr 1
                apply Array.ext'; simp
            | _ => rw [hqv] at hfv; cases hfv
      | _ => rw [hop2] at hcls; cases hcls
    | no => rw [hc] at hop; cases hop
  unfold stepA at hs
  cases hg : o.guard with
  | none =>
    simp only [hg] at hs
    exact wanted (guardA_some (o := o) (g := true) ho (by rw [hg]; rfl)) hs
  | some g =>
    obtain ⟨j, wt⟩ := g
    simp only [hg] at hs
    obtain ⟨gb, h1, h2⟩ := obind_some.1 hs
    have hwt := guardA_some (o := o) (g := gb) ho (by rw [hg]; exact h1)
    cases gb with
    | false => exact put (show putS fc.nt o.dst undefA ov ds h = some s' from h2) (undef_VR β) hr (Ext.refl _ _ _) hdf (Steps.one (s_unwanted hi hwt))
    | true => exact wanted hwt (show opH o.op P ih rnd fc tm o.dst ov ds h = some s' from h2)
end Go.Am

/- Regions in text order. -/
namespace Go.Am
variable {P : Program} {ih : Ex} {rnd : Option Pos} {fc : Fc} {β : Ren}

theorem opsA_sim (hm : ExMono ih) (hC : CallOk P ih) (hR : RoundOk P ih) {ops : Array Oper} {tm : PTree AV} {b : Frame} {k : List Item} {cs : List Frame} (hq : QuietK b.kind cs) :
    ∀ (l : List Oper) (i : Nat) {s s' : St} {β : Ren} {w : World} {arr : Array Value} {dv : List Deferred}, ops.toList.drop i = l → opsA P ih rnd ops.toList fc tm l s = some s' →
      RndR β rnd b → Rel β s.h w → OvT β ⟨tm, s.ov⟩ arr → arr.size = fc.nt → DfsR β s.ds dv → Dom β s.h s'.h →
    ∃ arr' w' β' dv', Steps P (mach b arr (.inRegion ops (List.range' i l.length) :: k) dv cs w) (mach b arr' k dv' cs w') ∧ arr'.size = arr.size ∧
      OvT β' ⟨tm, s'.ov⟩ arr' ∧ Rel β' s'.h w' ∧ Ext β s.h w β' s'.h w' ∧ DfsR β' s'.ds dv'
  | [], i, s, s', β, w, arr, dv, _, hs, _, hr, ho, _, hdf, _ => by
    cases hs
    exact ⟨arr, w, β, dv, Steps.one (s_regionEnd), rfl, ho, hr, Ext.refl _ _ _, hdf⟩
  | o :: l, i, s, s', β, w, arr, dv, hl, hs, hrd, hr, ho, hsz, hdf, hd => by
    obtain ⟨s₁, h1, h2⟩ := obind_some.1 (show obind (stepA P ih rnd ops.toList fc tm o s) (opsA P ih rnd ops.toList fc tm l) = some s' from hs)
    have hi : ops[i]? = some o := by
      have : (ops.toList.drop i)[0]? = some o := by rw [hl]; rfl
      rw [List.getElem?_drop] at this
      simpa using this
    have hl' : ops.toList.drop (i + 1) = l := by
      rw [← List.drop_drop, hl]; rfl
    have hn2 : nx s₁.h ≤ nx s'.h := mono_opsA hm h2
    obtain ⟨arr₁, w₁, β₁, dv₁, e1, e2, e3, e4, e5, e6⟩ := stepA_sim (cs := cs) (k := k) (rest := List.range' (i + 1) l.length) hC hR h1 hi hrd hq hr ho hsz hdf (hd.first hn2)
    obtain ⟨arr₂, w₂, β₂, dv₂, f1, f2, f3, f4, f5, f6⟩ := opsA_sim hm hC hR hq (k := k) l (i + 1) hl' h2 (hrd.mono e5.le) e4 e3 (e2.trans hsz) e6 (hd.second e5)
    refine ⟨arr₂, w₂, β₂, dv₂, Steps.trans ?_ f1, f2.trans e2, f3, f4, Ext.trans hd e4 e5 f5, f6⟩
    simpa [List.range'_succ] using e1
/-- What is kept is still known. -/
theorem keep_flush {arr : Array Value} {tm tm' : PTree AV} {ov : List (Nat × AV)} {keep : Nat → Bool} (ho : OvT β ⟨tm, ov⟩ arr) (hk : ∀ t v, PTree.get (Pos.key t) tm = some v → keep t = true)
    (hf : ∀ t, PTree.get (Pos.key t) tm' = if keep t = true ∧ t ∉ ([] : List Nat) then findOv t ov (PTree.get (Pos.key t) tm) else PTree.get (Pos.key t) tm) :
    TmT β tm' arr ∧ (∀ t v, PTree.get (Pos.key t) tm' = some v → keep t = true) := by
  refine ⟨fun t v e => ?_, fun t v e => ?_⟩
  · rw [hf] at e
    by_cases hkt : keep t = true
    · simp only [hkt, List.not_mem_nil, not_false_eq_true, and_self, if_true] at e
      exact ho t v (by rw [eTmp_eq]; exact e)
    · simp only [hkt, Bool.false_eq_true, false_and, if_false] at e
      exact absurd (hk t v e) hkt
  · rw [hf] at e
    by_cases hkt : keep t = true
    · exact hkt
    · simp only [hkt, Bool.false_eq_true, false_and, if_false] at e
      exact hk t v e
theorem region_sim (hm : ExMono ih) (hC : CallOk P ih) (hR : RoundOk P ih) {ops : Array Oper} {id : Nat} {s : Cs} {x : AExit × Cs} {b : Frame} {k : List Item} {cs : List Frame} {w : World} {arr : Array Value}
    {dv : List Deferred} (hx : cRegion id ops false P ih rnd fc s = some x) (hq : QuietK b.kind cs) (hrd : RndR β rnd b) (hr : Rel β s.h w) (ht : TmT β s.tm arr) (hkp : Kp fc s.tm) (hsz : arr.size = fc.nt)
    (hdf : DfsR β s.ds dv) (hd : Dom β s.h x.2.h) :
    ∃ arr' w' β' dv', x.1 = .norm ∧ Steps P (mach b arr (.code (.region id ops false) :: k) dv cs w) (mach b arr' k dv' cs w') ∧ arr'.size = arr.size ∧
      TmT β' x.2.tm arr' ∧ Kp fc x.2.tm ∧ Rel β' x.2.h w' ∧ Ext β s.h w β' x.2.h w' ∧ DfsR β' x.2.ds dv' := by
  obtain ⟨tm, ds, h⟩ := s
  obtain ⟨r, h1, h2⟩ := obind_some.1 (show obind (opsA P ih rnd ops.toList fc tm ops.toList ⟨[], ds, h⟩) (regionK fc tm) = some x from hx)
  obtain ⟨ov, ds', h'⟩ := r
  obtain ⟨tm', h3, h4⟩ := flush_spec fc.keep ov [] tm
  rw [show regionK fc tm ⟨ov, ds', h'⟩ = some (.norm, ⟨tm', ds', h'⟩) from h3 _] at h2
  cases h2
  obtain ⟨arr', w', β', dv', e1, e2, e3, e4, e5, e6⟩ := opsA_sim hm hC hR hq (k := k) ops.toList 0 rfl h1 hrd hr ht.ov hsz hdf hd
  obtain ⟨g1, g2⟩ := keep_flush e3 hkp h4
  refine ⟨arr', w', β', dv', rfl, Steps.head s_region ?_, e2, g1, g2, e4, e5, e6⟩
  rw [List.range_eq_range']
  simpa using e1
end Go.Am

/- Regions whose order is drawn: the run along one order, and what it says of every other. -/
namespace Go.Am
variable {P : Program} {ih : Ex} {rnd : Option Pos} {fc : Fc} {β : Ren}

/-! ## Sets of numbers as numbers -/
theorem hasB_eq (m i : Nat) : hasB m i = m.testBit i := by
  unfold hasB Nat.testBit
  rw [beq_eq]
  show decide ((m >>> i) &&& 1 = 1) = _
  rw [Nat.and_comm]
  cases h : (1 &&& m >>> i) with
  | zero => simp
  | succ n =>
    have : 1 &&& m >>> i ≤ 1 := Nat.and_le_left
    have h1 : n = 0 := by omega
    subst h1; simp
theorem hasB_lor (m n i : Nat) : hasB (Nat.lor m n) i = (hasB m i || hasB n i) := by
  rw [hasB_eq, hasB_eq, hasB_eq]; exact Nat.testBit_or m n i
theorem hasB_bit (i j : Nat) : hasB (bitN i) j = decide (i = j) := by
  rw [hasB_eq]
  show (1 <<< i).testBit j = _
  rw [Nat.one_shiftLeft]; exact Nat.testBit_two_pow
theorem hasB_zero (i : Nat) : hasB 0 i = false := by rw [hasB_eq]; exact Nat.zero_testBit i
theorem subB_has {m a : Nat} (h : subB m a = true) {i : Nat} (hi : hasB m i = true) : hasB a i = true := by
  unfold subB at h
  rw [beq_eq] at h
  have h' : Nat.lor m a = a := by simpa using h
  rw [← h', hasB_lor, hi]; rfl

/-! ## Surely the same value -/
theorem eqP_eq : ∀ {p q : Pos}, eqP p q = true → p = q
  | .h, .h, _ => rfl
  | .o p, .o q, h => by rw [eqP_eq (p := p) (q := q) h]
  | .i p, .i q, h => by rw [eqP_eq (p := p) (q := q) h]
  | .h, .o _, h => by cases h
  | .h, .i _, h => by cases h
  | .o _, .h, h => by cases h
  | .o _, .i _, h => by cases h
  | .i _, .h, h => by cases h
  | .i _, .o _, h => by cases h
theorem nbeq {a b : Nat} (h : Nat.beq a b = true) : a = b := by rw [beq_eq] at h; simpa using h
theorem eqAt_eq {a b : Option AAd} (h : eqAt a b = true) : a = b := by
  cases a <;> cases b <;> first | rfl | cases h | skip
  rename_i x y
  obtain ⟨p, o⟩ := x
  obtain ⟨q, o'⟩ := y
  simp only [eqAt, Bool.and_eq_true] at h
  rw [eqP_eq h.1, nbeq h.2]
theorem eqOP_eq {a b : Option Pos} (h : eqOP a b = true) : a = b := by
  cases a <;> cases b <;> first | rfl | cases h | skip
  rw [eqP_eq h]
theorem eqON_eq {a b : Option Nat} (h : eqON a b = true) : a = b := by
  cases a <;> cases b <;> first | rfl | cases h | skip
  rw [nbeq h]
theorem eqVs_eq {f : AV → AV → Bool} (hf : ∀ a b, f a b = true → a = b) : ∀ {l m : List AV}, eqVs f l m = true → l = m
  | [], [], _ => rfl
  | a :: l, b :: m, h => by
    simp only [eqVs, Bool.and_eq_true] at h
    rw [hf _ _ h.1, eqVs_eq hf h.2]
  | [], _ :: _, h => by cases h
  | _ :: _, [], h => by cases h
theorem eqFn_eq {f g : AFn} (h : eqFn f g = true) : f = g := by
  cases f <;> cases g <;> first | (cases h; done) | skip
  · rw [nbeq h]
  · rw [eq_of_beq h]
  · simp only [eqFn, Bool.and_eq_true] at h
    rw [nbeq h.1, eq_of_beq h.2]
theorem eqV_eq : ∀ (n : Nat) (a b : AV), eqV n a b = true → a = b
  | 0, _, _, h => by cases h
  | n + 1, a, b, h => by
    unfold eqV at h
    split at h
    · rw [eq_of_beq h]
    · simp only [Bool.and_eq_true] at h; rw [eq_of_beq h.1, eq_of_beq h.2]
    · rename_i s t
      have h1 := eq_of_beq h
      obtain ⟨⟨l⟩⟩ := s
      obtain ⟨⟨m⟩⟩ := t
      simp only at h1
      rw [h1]
    · rw [eqAt_eq h]
    · simp only [Bool.and_eq_true] at h; rw [eqAt_eq h.1, nbeq h.2.1, nbeq h.2.2.1, eqON_eq h.2.2.2]
    · rw [eqOP_eq h]
    · rw [eqOP_eq h]
    · simp only [Bool.and_eq_true] at h; rw [eqFn_eq h.1, eqVs_eq (eqV_eq n) h.2.1, eqVs_eq (eqV_eq n) h.2.2]
    · rfl
    · rfl
    · simp only [Bool.and_eq_true] at h; rw [nbeq h.1, eqV_eq n _ _ h.2]
    · rw [eqVs_eq (eqV_eq n) h]
    · rw [eqVs_eq (eqV_eq n) h]
    · cases h
theorem sameV_eq {f : Heap → Option AV} {h : Heap} {v : AV} (e : sameV f h v = true) : f h = some v := by
  unfold sameV at e
  cases hf : f h with
  | none => rw [hf] at e; cases e
  | some u => rw [hf] at e; rw [eqV_eq 8 u v e]

/-! ## What a run along one order has shown -/
section
variable (P ih rnd) (ops : List Oper) (nt : Nat) (tm0 : Pl → PTree AV)
/-- A stage at which an operation may be. -/
def Poss (x : Pl) (ev : Nat → Pl) (m j : Nat) : Prop := (∀ c, c < j → hasB (ev c).a x.i = false) ∧ (j < m → hasB x.a (ev j).i = false)
inductive Found (x : Pl) (ov : List (Nat × AV)) (v : AV) (K : Nat → Heap) (ev : Nat → Pl) (m : Nat) : Prop where
  | lite (f : Lt) (force reads : Bool) (hc : clsOf x.o.op = .lite f force reads) (h : ∀ j, j ≤ m → Poss x ev m j → f P (K j) ⟨tm0 x, ov⟩ = some v)
  | lay (f : Fs) (ob : AObj) (mk : Pos → AV) (c : Nat) (hc : clsOf x.o.op = .lay f) (hm : c < m) (he : ev c = x) (h : f P ⟨tm0 x, ov⟩ = some (ob, mk)) (hv : v = mk (K c).next)
      (hk : K (c + 1) = ⟨PTree.set ob (K c).next (K c).t, (K c).next.succ⟩)
  | work (f : Hv) (c : Nat) (hc : clsOf x.o.op = .work f) (hm : c < m) (he : ev c = x) (ha : ∀ c', c' < c → hasB x.a (ev c').i = true) (h : f P ih rnd (K c) ⟨tm0 x, ov⟩ = some (v, K (c + 1)))
structure Rec (x : Pl) (es : List (Nat × Nat × AV)) (K : Nat → Heap) (ev : Nat → Pl) (m : Nat) (ov : List (Nat × AV)) (g : Bool) (v : AV) : Prop where
  sub : ∀ y ∈ ov, ∃ i, (i, y) ∈ es ∧ hasB x.a i = true
  all : ∀ e ∈ es, hasB x.a e.1 = true → e.2 ∈ ov
  want : wantD ops ⟨tm0 x, ov⟩ x.o.guard = some g
  ent : ∀ e ∈ es, e.1 = x.i → x.o.dst = some e.2.1 ∧ e.2.2 = v
  dst : ∀ d, x.o.dst = some d → d < nt ∧ (x.i, d, v) ∈ es
  off : g = false → v = undefA
  on : g = true → Found P ih rnd tm0 x ov v K ev m
/-- The masks and heaps of the events. -/
def EvsOk (K : Nat → Heap) (ev : Nat → Pl) : Nat → List (Nat × Heap) → Prop
  | 0, l => l = []
  | m + 1, l => ∃ mask l', l = (mask, K m) :: l' ∧ (∀ i, hasB mask i = true ↔ ∃ c, c < m + 1 ∧ (ev c).i = i) ∧ EvsOk K ev m l'
structure Good (D : List Pl) (s : Dr) (K : Nat → Heap) (ev : Nat → Pl) (m : Nat) : Prop where
  heap : K m = s.h
  em : ∀ i, hasB s.em i = true ↔ ∃ c, c < m ∧ (ev c).i = i
  evs : EvsOk K ev m s.evs
  evD : ∀ c, c < m → ev c ∈ D
  inj : ∀ c c', c < m → c' < m → (ev c).i = (ev c').i → c = c'
  lin : ∀ c, c < m → nx (K c) ≤ nx (K (c + 1))
  rec_ : ∀ x ∈ D, ∃ ov g v, Rec P ih rnd ops nt tm0 x s.es K ev m ov g v ∧ (g = true → ∀ f force, clsOf x.o.op = .lite f force true → (∀ c, c < m → hasB (ev c).a x.i = false) →
    (x.i, (fun h => f P h ⟨tm0 x, ov⟩), v) ∈ s.lv) ∧ (∀ c, c < m → ev c = x → g = true ∧ ∀ f force reads, clsOf x.o.op ≠ .lite f force reads)
  dm : ∀ e ∈ s.es, hasB s.dm e.2.1 = true
  uniq : ∀ e ∈ s.es, ∀ e' ∈ s.es, e.2.1 = e'.2.1 → e = e'
  own : ∀ e ∈ s.es, ∃ x ∈ D, x.i = e.1 ∧ x.o.dst = some e.2.1
end
theorem backD_spec {K : Nat → Heap} {ev : Nat → Pl} {a : Nat} {f : Heap → Option AV} {v : AV} : ∀ {m : Nat} {evs : List (Nat × Heap)}, EvsOk K ev m evs → backD a f v evs = true →
    ∀ j, j < m → hasB a (ev j).i = false → f (K j) = some v
  | 0, _, _, _, j, hj, _ => absurd hj (Nat.not_lt_zero _)
  | m + 1, _, ⟨mask, l', e, hm, hl⟩, hb, j, hj, hn => by
    subst e
    have hb' : bcase (subB mask a) (and (sameV f (K m) v) (backD a f v l')) true = true := hb
    rw [bcase_eq] at hb'
    split at hb'
    · rename_i hs
      have := subB_has hs ((hm (ev j).i).2 ⟨j, hj, rfl⟩)
      rw [hn] at this; cases this
    · simp only [Bool.and_eq_true] at hb'
      rcases Nat.lt_succ_iff_lt_or_eq.1 hj with h | h
      · exact backD_spec hl hb'.2 j h hn
      · subst h; exact sameV_eq hb'.1
theorem sureD_spec {h : Heap} : ∀ {lv : Lv}, sureD h lv = true → ∀ x ∈ lv, x.2.1 h = some x.2.2
  | [], _, x, hx => by cases hx
  | y :: l, hs, x, hx => by
    have hs' : bcase (sameV y.2.1 h y.2.2) false (sureD h l) = true := hs
    rw [bcase_eq] at hs'
    split at hs'
    · rename_i he
      rcases List.mem_cons.1 hx with rfl | hx
      · exact sameV_eq he
      · exact sureD_spec hs' x hx
    · cases hs'
variable {ops : List Oper} {nt : Nat} {tm0 : Pl → PTree AV}
theorem seen_all {a : Nat} {es : List (Nat × Nat × AV)} {e : Nat × Nat × AV} (he : e ∈ es) (hb : hasB a e.1 = true) : e.2 ∈ seen a es := by
  unfold seen
  exact List.mem_map.2 ⟨e, List.mem_filter.2 ⟨he, hb⟩, rfl⟩
theorem seen_sub {a : Nat} {es : List (Nat × Nat × AV)} {y : Nat × AV} (hy : y ∈ seen a es) : ∃ i, (i, y) ∈ es ∧ hasB a i = true := by
  unfold seen at hy
  obtain ⟨x, hx, rfl⟩ := List.mem_map.1 hy
  obtain ⟨h1, h2⟩ := List.mem_filter.1 hx
  exact ⟨x.1, h1, h2⟩
/-- The entries behind one operation more. -/
theorem Rec.grow {x y : Pl} {es es' : List (Nat × Nat × AV)} {K : Nat → Heap} {ev : Nat → Pl} {m : Nat} {ov : List (Nat × AV)} {g : Bool} {v : AV} (h : Rec P ih rnd ops nt tm0 y es K ev m ov g v)
    (hne : x.i ≠ y.i) (hanc : hasB y.a x.i = false) (hes : ∀ e ∈ es, e ∈ es') (hnew : ∀ e ∈ es', e ∈ es ∨ e.1 = x.i) : Rec P ih rnd ops nt tm0 y es' K ev m ov g v := by
  refine ⟨fun z hz => ?_, fun e he hb => ?_, h.want, fun e he hi => ?_, fun d hd => ?_, h.off, h.on⟩
  · obtain ⟨i, h1, h2⟩ := h.sub z hz; exact ⟨i, hes _ h1, h2⟩
  · rcases hnew e he with h1 | h1
    · exact h.all e h1 hb
    · rw [h1, hanc] at hb; cases hb
  · rcases hnew e he with h1 | h1
    · exact h.ent e h1 hi
    · exact absurd (h1.symm.trans hi) hne
  · exact ⟨(h.dst d hd).1, hes _ (h.dst d hd).2⟩
end Go.Am

/- Regions whose order is drawn: the run along one order keeps its books. -/
namespace Go.Am
variable {P : Program} {ih : Ex} {rnd : Option Pos} {fc : Fc} {ops : List Oper} {nt : Nat} {tm0 : Pl → PTree AV}
variable {D : List Pl} {s s' : Dr} {K : Nat → Heap} {ev : Nat → Pl} {m : Nat} {x : Pl}

def Puts (nt : Nat) (x : Pl) (v : AV) (es : List (Nat × Nat × AV)) (dm : Nat) (es' : List (Nat × Nat × AV)) (dm' : Nat) : Prop :=
  (x.o.dst = none ∧ es' = es ∧ dm' = dm) ∨ ∃ d, x.o.dst = some d ∧ d < nt ∧ hasB dm d = false ∧ es' = (x.i, d, v) :: es ∧ dm' = Nat.lor dm (bitN d)
theorem Puts.sub {v : AV} {es es' : List (Nat × Nat × AV)} {dm dm' : Nat} (hp : Puts nt x v es dm es' dm') : ∀ e ∈ es, e ∈ es' := by
  intro e he
  rcases hp with ⟨_, rfl, _⟩ | ⟨d, _, _, _, rfl, _⟩
  · exact he
  · exact List.mem_cons_of_mem _ he
theorem Puts.new {v : AV} {es es' : List (Nat × Nat × AV)} {dm dm' : Nat} (hp : Puts nt x v es dm es' dm') : ∀ e ∈ es', e ∈ es ∨ e.1 = x.i := by
  intro e he
  rcases hp with ⟨_, rfl, _⟩ | ⟨d, _, _, _, rfl, _⟩
  · exact .inl he
  · rcases List.mem_cons.1 he with rfl | he
    · exact .inr rfl
    · exact .inl he
theorem Puts.ent {v : AV} {es es' : List (Nat × Nat × AV)} {dm dm' : Nat} (hp : Puts nt x v es dm es' dm') (hno : ∀ e ∈ es, e.1 ≠ x.i) : ∀ e ∈ es', e.1 = x.i → x.o.dst = some e.2.1 ∧ e.2.2 = v := by
  intro e he hi
  rcases hp with ⟨_, rfl, _⟩ | ⟨d, h1, _, _, rfl, _⟩
  · exact absurd hi (hno e he)
  · rcases List.mem_cons.1 he with rfl | he
    · exact ⟨h1, rfl⟩
    · exact absurd hi (hno e he)
theorem Puts.dst {v : AV} {es es' : List (Nat × Nat × AV)} {dm dm' : Nat} (hp : Puts nt x v es dm es' dm') : ∀ d, x.o.dst = some d → d < nt ∧ (x.i, d, v) ∈ es' := by
  intro d hd
  rcases hp with ⟨h1, _, _⟩ | ⟨d', h1, h2, _, rfl, _⟩
  · rw [h1] at hd; cases hd
  · rw [h1] at hd; cases hd; exact ⟨h2, List.mem_cons_self ..⟩
theorem Puts.dmk {v : AV} {es es' : List (Nat × Nat × AV)} {dm dm' : Nat} (hp : Puts nt x v es dm es' dm') (h : ∀ e ∈ es, hasB dm e.2.1 = true) : ∀ e ∈ es', hasB dm' e.2.1 = true := by
  intro e he
  rcases hp with ⟨_, rfl, rfl⟩ | ⟨d, _, _, _, rfl, rfl⟩
  · exact h e he
  · rw [hasB_lor]
    rcases List.mem_cons.1 he with rfl | he
    · simp [hasB_bit]
    · rw [h e he]; rfl
theorem Puts.uniq {v : AV} {es es' : List (Nat × Nat × AV)} {dm dm' : Nat} (hp : Puts nt x v es dm es' dm') (h : ∀ e ∈ es, hasB dm e.2.1 = true) (hu : ∀ e ∈ es, ∀ e' ∈ es, e.2.1 = e'.2.1 → e = e') :
    ∀ e ∈ es', ∀ e' ∈ es', e.2.1 = e'.2.1 → e = e' := by
  intro e he e' he' heq
  rcases hp with ⟨_, rfl, _⟩ | ⟨d, _, _, hn, rfl, _⟩
  · exact hu e he e' he' heq
  · have hd : ∀ y ∈ es, y.2.1 ≠ d := by
      intro y hy e; have := h y hy; rw [e, hn] at this; cases this
    rcases List.mem_cons.1 he with rfl | he <;> rcases List.mem_cons.1 he' with rfl | he'
    · rfl
    · exact absurd heq.symm (hd e' he')
    · exact absurd heq (hd e he)
    · exact hu e he e' he' heq
theorem Puts.own {v : AV} {es es' : List (Nat × Nat × AV)} {dm dm' : Nat} (hp : Puts nt x v es dm es' dm') (h : ∀ e ∈ es, ∃ y ∈ D, y.i = e.1 ∧ y.o.dst = some e.2.1) :
    ∀ e ∈ es', ∃ y ∈ x :: D, y.i = e.1 ∧ y.o.dst = some e.2.1 := by
  intro e he
  rcases hp with ⟨_, rfl, _⟩ | ⟨d, h1, _, _, rfl, _⟩
  · obtain ⟨y, hy, h2⟩ := h e he; exact ⟨y, List.mem_cons_of_mem _ hy, h2⟩
  · rcases List.mem_cons.1 he with rfl | he
    · exact ⟨x, List.mem_cons_self .., rfl, h1⟩
    · obtain ⟨y, hy, h2⟩ := h e he; exact ⟨y, List.mem_cons_of_mem _ hy, h2⟩
/-- No event. -/
theorem Good.quiet (hg : Good P ih rnd ops nt tm0 D s K ev m) (hx : ∀ y ∈ D, x.i ≠ y.i) (hA : ∀ y ∈ D, hasB y.a x.i = false) (hself : hasB x.a x.i = false) {ov : List (Nat × AV)} {g : Bool} {v : AV} {es' : List (Nat × Nat × AV)} {dm' : Nat} {lv' : Lv}
    (hp : Puts nt x v s.es s.dm es' dm') (hov : ov = seen x.a s.es) (hw : wantD ops ⟨tm0 x, ov⟩ x.o.guard = some g) (hoff : g = false → v = undefA) (hon : g = true → Found P ih rnd tm0 x ov v K ev m)
    (hlv : ∀ z ∈ s.lv, z ∈ lv') (hxl : g = true → ∀ f force, clsOf x.o.op = .lite f force true → (x.i, (fun h => f P h ⟨tm0 x, ov⟩), v) ∈ lv') :
    Good P ih rnd ops nt tm0 (x :: D) ⟨es', dm', s.em, s.evs, lv', s.h⟩ K ev m := by
  have hno : ∀ e ∈ s.es, e.1 ≠ x.i := by
    intro e he hi
    obtain ⟨y, hy, h1, _⟩ := hg.own e he
    exact hx y hy (h1.trans hi).symm
  refine ⟨hg.heap, hg.em, hg.evs, fun c hc => List.mem_cons_of_mem _ (hg.evD c hc), hg.inj, hg.lin, fun y hy => ?_, hp.dmk hg.dm, hp.uniq hg.dm hg.uniq, hp.own hg.own⟩
  rcases List.mem_cons.1 hy with rfl | hy
  · refine ⟨ov, g, v, ⟨fun z hz => ?_, fun e he hb => ?_, hw, hp.ent hno, hp.dst, hoff, hon⟩, fun h f force hc _ => hxl h f force hc, fun c hc he => absurd rfl (hx y (he ▸ hg.evD c hc))⟩
    · subst hov
      obtain ⟨i, h1, h2⟩ := seen_sub hz
      exact ⟨i, hp.sub _ h1, h2⟩
    · subst hov
      rcases hp.new e he with h1 | h1
      · exact seen_all h1 hb
      · rw [h1, hself] at hb; cases hb
  · obtain ⟨ov₁, g₁, v₁, h1, h2, h4⟩ := hg.rec_ y hy
    exact ⟨ov₁, g₁, v₁, h1.grow (hx y hy) (hA y hy) hp.sub hp.new, fun h f force hc hl => hlv _ (h2 h f force hc hl), h4⟩

/-! ## An event -/
def updK (K : Nat → Heap) (m : Nat) (h : Heap) : Nat → Heap := fun c => if c ≤ m then K c else h
def updE (ev : Nat → Pl) (m : Nat) (x : Pl) : Nat → Pl := fun c => if c < m then ev c else x
theorem updK_old {h : Heap} {c : Nat} (hc : c ≤ m) : updK K m h c = K c := if_pos hc
theorem updK_new {h : Heap} : updK K m h (m + 1) = h := if_neg (by omega)
theorem updE_old {c : Nat} (hc : c < m) : updE ev m x c = ev c := if_pos hc
theorem updE_new : updE ev m x m = x := if_neg (by omega)
theorem EvsOk.upd {h : Heap} : ∀ {n : Nat} {l : List (Nat × Heap)}, n ≤ m → EvsOk K ev n l → EvsOk (updK K m h) (updE ev m x) n l
  | 0, _, _, e => e
  | n + 1, _, hn, ⟨mask, l', e, hm, hl⟩ => by
    refine ⟨mask, l', ?_, fun i => ?_, EvsOk.upd (by omega) hl⟩
    · rw [e, updK_old (by omega)]
    · rw [hm]
      constructor
      · rintro ⟨c, hc, e⟩; exact ⟨c, hc, by rw [updE_old (by omega)]; exact e⟩
      · rintro ⟨c, hc, e⟩; exact ⟨c, hc, by rw [updE_old (by omega)] at e; exact e⟩
theorem Poss.down {y : Pl} {j : Nat} (hj : j ≤ m) (h : Poss y (updE ev m x) (m + 1) j) : Poss y ev m j := by
  refine ⟨fun c hc => ?_, fun hjm => ?_⟩
  · have := h.1 c hc; rw [updE_old (by omega)] at this; exact this
  · have := h.2 (by omega); rw [updE_old hjm] at this; exact this
theorem Good.event (hg : Good P ih rnd ops nt tm0 D s K ev m) (hx : ∀ y ∈ D, x.i ≠ y.i) (hA : ∀ y ∈ D, hasB y.a x.i = false) (hself : hasB x.a x.i = false) {ov : List (Nat × AV)} {v : AV} {es' : List (Nat × Nat × AV)} {dm' : Nat} {h' : Heap}
    (hp : Puts nt x v s.es s.dm es' dm') (hov : ov = seen x.a s.es) (hw : wantD ops ⟨tm0 x, ov⟩ x.o.guard = some true) (hnl : ∀ f force reads, clsOf x.o.op ≠ .lite f force reads)
    (hon : Found P ih rnd tm0 x ov v (updK K m h') (updE ev m x) (m + 1)) (hlin : nx s.h ≤ nx h') (hsure : sureD h' (s.lv.filter fun z => !hasB x.a z.1) = true) :
    Good P ih rnd ops nt tm0 (x :: D) ⟨es', dm', Nat.lor s.em (bitN x.i), (Nat.lor s.em (bitN x.i), s.h) :: s.evs, s.lv.filter fun z => !hasB x.a z.1, h'⟩ (updK K m h') (updE ev m x) (m + 1) := by
  have hno : ∀ e ∈ s.es, e.1 ≠ x.i := by
    intro e he hi
    obtain ⟨y, hy, h1, _⟩ := hg.own e he
    exact hx y hy (h1.trans hi).symm
  have hem : ∀ i, hasB (Nat.lor s.em (bitN x.i)) i = true ↔ ∃ c, c < m + 1 ∧ (updE ev m x c).i = i := by
    intro i
    rw [hasB_lor, Bool.or_eq_true, hg.em, hasB_bit, decide_eq_true_iff]
    constructor
    · rintro (⟨c, hc, e⟩ | e)
      · exact ⟨c, by omega, by rw [updE_old hc]; exact e⟩
      · exact ⟨m, by omega, by rw [updE_new]; exact e⟩
    · rintro ⟨c, hc, e⟩
      rcases Nat.lt_succ_iff_lt_or_eq.1 hc with h | h
      · rw [updE_old h] at e; exact .inl ⟨c, h, e⟩
      · subst h; rw [updE_new] at e; exact .inr e
  refine ⟨updK_new, hem, ⟨_, _, ?_, hem, hg.evs.upd (Nat.le_refl _)⟩, fun c hc => ?_, fun c c' hc hc' he => ?_, fun c hc => ?_, fun y hy => ?_, hp.dmk hg.dm, hp.uniq hg.dm hg.uniq, hp.own hg.own⟩
  · rw [updK_old (Nat.le_refl _), hg.heap]
  · rcases Nat.lt_succ_iff_lt_or_eq.1 hc with h | h
    · rw [updE_old h]; exact List.mem_cons_of_mem _ (hg.evD c h)
    · subst h; rw [updE_new]; exact List.mem_cons_self ..
  · rcases Nat.lt_succ_iff_lt_or_eq.1 hc with h | h <;> rcases Nat.lt_succ_iff_lt_or_eq.1 hc' with h' | h'
    · rw [updE_old h, updE_old h'] at he; exact hg.inj c c' h h' he
    · subst h'; rw [updE_old h, updE_new] at he; exact absurd he.symm (hx _ (hg.evD c h))
    · subst h; rw [updE_new, updE_old h'] at he; exact absurd he (hx _ (hg.evD c' h'))
    · omega
  · rcases Nat.lt_succ_iff_lt_or_eq.1 hc with h | h
    · rw [updK_old (by omega), updK_old (by omega)]; exact hg.lin c h
    · subst h; rw [updK_old (Nat.le_refl _), updK_new, hg.heap]; exact hlin
  · rcases List.mem_cons.1 hy with rfl | hy
    · refine ⟨ov, true, v, ⟨fun z hz => ?_, fun e he hb => ?_, hw, hp.ent hno, hp.dst, fun e => (by cases e), fun _ => hon⟩, fun _ f force hc => absurd hc (hnl f force true), fun _ _ _ => ⟨rfl, hnl⟩⟩
      · subst hov
        obtain ⟨i, h1, h2⟩ := seen_sub hz
        exact ⟨i, hp.sub _ h1, h2⟩
      · subst hov
        rcases hp.new e he with h1 | h1
        · exact seen_all h1 hb
        · rw [h1, hself] at hb; cases hb
    · obtain ⟨ov₁, g₁, v₁, h1, h2, h4⟩ := hg.rec_ y hy
      have h3 := h1.grow (hx y hy) (hA y hy) hp.sub hp.new
      have live : (∀ c, c < m + 1 → hasB (updE ev m x c).a y.i = false) → (∀ c, c < m → hasB (ev c).a y.i = false) ∧ hasB x.a y.i = false := by
        intro hl
        refine ⟨fun c hc => ?_, ?_⟩
        · have := hl c (by omega); rw [updE_old hc] at this; exact this
        · have := hl m (by omega); rw [updE_new] at this; exact this
      refine ⟨ov₁, g₁, v₁, ⟨h3.sub, h3.all, h3.want, h3.ent, h3.dst, h3.off, fun hgt => ?_⟩, fun hgt f force hc hl => ?_, fun c hc he => ?_⟩
      · cases h1.on hgt with
        | lite f force reads hc hf =>
          refine .lite f force reads hc fun j hj hposs => ?_
          rcases Nat.lt_succ_iff_lt_or_eq.1 (Nat.lt_succ_of_le hj) with h | h
          · rw [updK_old (by omega)]; exact hf j (by omega) (hposs.down (by omega))
          · subst h
            rw [updK_new]
            obtain ⟨hl1, hl2⟩ := live hposs.1
            cases reads with
            | true =>
              have hmem := h2 hgt f force hc hl1
              exact sureD_spec hsure _ (List.mem_filter.2 ⟨hmem, by simp [hl2]⟩)
            | false =>
              have hm := hf m (Nat.le_refl _) ⟨hl1, fun h => absurd h (Nat.lt_irrefl _)⟩
              have hcls := cls_ok y.o.op
              rw [hc] at hcls
              cases hcls with
              | lite _ _ _ hpure _ => rw [hpure rfl P h' (K m)]; exact hm
        | lay f ob mk c hc hcm he hf hv hk =>
          exact .lay f ob mk c hc (by omega) (by rw [updE_old hcm]; exact he) hf (by rw [updK_old (by omega)]; exact hv) (by rw [updK_old (by omega), updK_old (by omega)]; exact hk)
        | work f c hc hcm he ha hf =>
          exact .work f c hc (by omega) (by rw [updE_old hcm]; exact he) (fun c' hc' => by rw [updE_old (by omega)]; exact ha c' hc') (by rw [updK_old (by omega), updK_old (by omega)]; exact hf)
      · obtain ⟨hl1, hl2⟩ := live hl
        exact List.mem_filter.2 ⟨h2 hgt f force hc hl1, by simp [hl2]⟩
      · rcases Nat.lt_succ_iff_lt_or_eq.1 hc with h | h
        · rw [updE_old h] at he; exact h4 c h he
        · subst h; rw [updE_new] at he; exact absurd (congrArg Pl.i he) (hx y hy)
end Go.Am

/- Regions whose order is drawn: the whole run along one order; the order, and what comes before what. -/
namespace Go.Am
variable {P : Program} {ih : Ex} {rnd : Option Pos} {fc : Fc} {ops : List Oper} {tm0 : Pl → PTree AV}

theorem puts_of {nt i : Nat} {dst : Option Tmp} {v : AV} {es : List (Nat × Nat × AV)} {dm : Nat} {k : List (Nat × Nat × AV) → Nat → Option Dr} {s : Dr} {x : Pl} (hi : x.i = i) (hd : x.o.dst = dst)
    (hs : putD nt i dst v es dm k = some s) : ∃ es' dm', Puts nt x v es dm es' dm' ∧ k es' dm' = some s := by
  subst hi
  rcases putD_some hs with ⟨e, hk⟩ | ⟨d, e1, e2, e3, hk⟩
  · exact ⟨_, _, .inl ⟨hd.trans e, rfl, rfl⟩, hk⟩
  · exact ⟨_, _, .inr ⟨d, hd.trans e1, e2, e3, rfl, rfl⟩, hk⟩
theorem Good.step (hm : ExMono ih) {D : List Pl} {s s' : Dr} {K : Nat → Heap} {ev : Nat → Pl} {m : Nat} {x : Pl} (hg : Good P ih rnd ops fc.nt tm0 D s K ev m) (hx : ∀ y ∈ D, x.i ≠ y.i)
    (hA : ∀ y ∈ D, hasB y.a x.i = false) (hself : hasB x.a x.i = false)
    (hs : drawOp P ih rnd ops fc (tm0 x) x s = some s') : ∃ K' ev' m', Good P ih rnd ops fc.nt tm0 (x :: D) s' K' ev' m' ∧ K' 0 = K 0 := by
  obtain ⟨g, hw, h⟩ := drawOp_some hs
  rcases h with ⟨rfl, h⟩ | ⟨rfl, ⟨f, force, reads, v, hc, hv, h⟩ | ⟨f, ob, mk, hc, hv, h⟩ | ⟨f, v, h', hc, hsub, hv, h⟩⟩
  · obtain ⟨es', dm', hp, e⟩ := puts_of rfl rfl h
    cases e
    exact ⟨K, ev, m, hg.quiet hx hA hself hp rfl hw (fun _ => rfl) (fun e => by cases e) (fun z hz => hz) (fun e => by cases e), rfl⟩
  · rw [← hg.heap] at hv
    rcases h with ⟨rfl, h⟩ | ⟨rfl, hb, h⟩
    · obtain ⟨es', dm', hp, e⟩ := puts_of rfl rfl h
      cases e
      refine ⟨K, ev, m, hg.quiet hx hA hself hp rfl hw (fun e => by cases e) (fun _ => .lite f force false hc fun j _ _ => ?_) (fun z hz => hz) (fun _ f' force' hc' => ?_), rfl⟩
      · have hcls := cls_ok x.o.op
        rw [hc] at hcls
        cases hcls with
        | lite _ _ _ hpure _ => rw [hpure rfl P (K j) (K m)]; exact hv
      · rw [hc] at hc'; cases hc'
    · obtain ⟨es', dm', hp, e⟩ := puts_of rfl rfl h
      cases e
      refine ⟨K, ev, m, hg.quiet hx hA hself hp rfl hw (fun e => by cases e) (fun _ => .lite f force true hc fun j hj hposs => ?_) (fun z hz => List.mem_cons_of_mem _ hz) (fun _ f' force' hc' => ?_), rfl⟩
      · rcases Nat.lt_or_eq_of_le hj with h1 | h1
        · exact backD_spec hg.evs hb j h1 (hposs.2 h1)
        · subst h1; exact hv
      · rw [hc] at hc'; cases hc'; exact List.mem_cons_self ..
  · obtain ⟨es', dm', rfl, hsure, hp⟩ := eventD_some h
    refine ⟨_, _, _, hg.event (v := mk s.h.next) hx hA hself hp rfl hw (fun f' force' reads' e => by rw [hc] at e; cases e)
      (.lay f ob mk m hc (by omega) updE_new hv ?_ ?_) (by rw [nx_push]; omega) hsure, updK_old (by omega)⟩
    · rw [updK_old (Nat.le_refl _), hg.heap]
    · rw [updK_new, updK_old (Nat.le_refl _), hg.heap]
  · obtain ⟨es', dm', rfl, hsure, hp⟩ := eventD_some h
    refine ⟨_, _, _, hg.event (v := v) hx hA hself hp rfl hw (fun f' force' reads' e => by rw [hc] at e; cases e)
      (.work f m hc (by omega) updE_new (fun c' hc' => ?_) ?_) (cls_mono _ f hc P ih rnd _ _ _ hm hv) hsure, updK_old (by omega)⟩
    · rw [updE_old hc']; exact subB_has hsub ((hg.em _).2 ⟨c', hc', rfl⟩)
    · rw [updK_new, updK_old (Nat.le_refl _), hg.heap]; exact hv
theorem laterB_false {x : Pl} : ∀ {l : List Pl}, laterB x l = false → ∀ y ∈ l, hasB x.a y.i = false
  | [], _, y, hy => by cases hy
  | z :: l, h, y, hy => by
    have h' : bcase (hasB x.a z.i) (laterB x l) true = false := h
    rw [bcase_eq] at h'
    split at h'
    · cases h'
    · rename_i hn
      rcases List.mem_cons.1 hy with rfl | hy
      · simpa using hn
      · exact laterB_false h' y hy
theorem orderedB_cons {x : Pl} {l : List Pl} (h : orderedB (x :: l) = true) : hasB x.a x.i = false ∧ (∀ y ∈ l, hasB x.a y.i = false) ∧ orderedB l = true := by
  have h' : bcase (or (hasB x.a x.i) (laterB x l)) (orderedB l) false = true := h
  rw [bcase_eq] at h'
  split at h'
  · cases h'
  · rename_i hn
    simp only [Bool.or_eq_true, not_or, Bool.not_eq_true] at hn
    exact ⟨hn.1, laterB_false hn.2, h'⟩
theorem Good.go (hm : ExMono ih) : ∀ (l : List Pl) {D : List Pl} {s s' : Dr} {K : Nat → Heap} {ev : Nat → Pl} {m : Nat}, Good P ih rnd ops fc.nt tm0 D s K ev m → (∀ x ∈ l, ∀ y ∈ D, x.i ≠ y.i) → (l.map (·.i)).Nodup →
    (∀ x ∈ l, ∀ y ∈ D, hasB y.a x.i = false) → orderedB l = true →
    goD P ih rnd ops fc tm0 l s = some s' → ∃ D' K' ev' m', Good P ih rnd ops fc.nt tm0 D' s' K' ev' m' ∧ K' 0 = K 0 ∧ ∀ x, x ∈ D' ↔ x ∈ l ∨ x ∈ D
  | [], D, s, s', K, ev, m, hg, _, _, _, _, hs => by cases hs; exact ⟨D, K, ev, m, hg, rfl, fun x => by simp⟩
  | x :: l, D, s, s', K, ev, m, hg, hx, hnd, hA, hor, hs => by
    obtain ⟨hself, hlat, hor'⟩ := orderedB_cons hor
    obtain ⟨s₁, h1, h2⟩ := obind_some.1 (show obind (drawOp P ih rnd ops fc (tm0 x) x s) (goD P ih rnd ops fc tm0 l) = some s' from hs)
    obtain ⟨K₁, ev₁, m₁, hg₁, hk₁⟩ := hg.step hm (hx x (List.mem_cons_self ..)) (hA x (List.mem_cons_self ..)) hself h1
    rw [List.map_cons, List.nodup_cons] at hnd
    obtain ⟨D', K', ev', m', hg', hk', hD⟩ := Good.go hm l hg₁ (fun y hy z hz => by
      rcases List.mem_cons.1 hz with rfl | hz
      · intro e; exact hnd.1 (e ▸ List.mem_map_of_mem hy)
      · exact hx y (List.mem_cons_of_mem _ hy) z hz) hnd.2 (fun y hy z hz => by
      rcases List.mem_cons.1 hz with rfl | hz
      · exact hlat y hy
      · exact hA y (List.mem_cons_of_mem _ hy) z hz) hor' h2
    refine ⟨D', K', ev', m', hg', hk'.trans hk₁, fun y => ?_⟩
    rw [hD]
    simp only [List.mem_cons]
    constructor
    · rintro (h | h | h)
      · exact .inl (.inr h)
      · exact .inl (.inl h)
      · exact .inr h
    · rintro ((h | h) | h)
      · exact .inr (.inl h)
      · exact .inl h
      · exact .inr (.inr h)
theorem Good.start (h : Heap) : Good P ih rnd ops fc.nt tm0 [] ⟨[], 0, 0, [], [], h⟩ (fun _ => h) (fun _ => ⟨0, 0, default⟩) 0 where
  heap := rfl
  em := fun i => by rw [hasB_zero]; simp
  evs := rfl
  evD := fun c hc => absurd hc (Nat.not_lt_zero _)
  inj := fun c _ hc => absurd hc (Nat.not_lt_zero _)
  lin := fun c hc => absurd hc (Nat.not_lt_zero _)
  rec_ := fun x hx => by cases hx
  dm := fun e he => by cases he
  uniq := fun e he => by cases he
  own := fun e he => by cases he

/-! ## The order -/
theorem partP_perm : ∀ (l : List Pl) (dm : Nat), ((partP l dm).1 ++ (partP l dm).2).Perm l
  | [], _ => .nil
  | x :: l, dm => by
    have e : partP (x :: l) dm = bcase (or (not (Nat.beq (Nat.land x.a dm) 0)) (and (isLay (clsOf x.o.op)) (waitsB x l)))
      (Prod.rec (motive := fun _ => List Pl × List Pl) (fun a b => (x :: a, b)) (partP l dm))
      (Prod.rec (motive := fun _ => List Pl × List Pl) (fun a b => (a, x :: b)) (partP l (Nat.lor dm (bitN x.i)))) := rfl
    rw [e, bcase_eq]
    split
    · have := partP_perm l (Nat.lor dm (bitN x.i))
      generalize partP l (Nat.lor dm (bitN x.i)) = r at this ⊢
      obtain ⟨a, b⟩ := r
      exact List.perm_middle.trans (this.cons x)
    · have := partP_perm l dm
      generalize partP l dm = r at this ⊢
      obtain ⟨a, b⟩ := r
      exact this.cons x
theorem sched_some {l : List Pl} (h : sched ops = some l) : ∃ l₀, plan ops 0 [] = some l₀ ∧ l.Perm l₀ := by
  obtain ⟨l₀, h1, h2⟩ := obind_some.1 h
  refine ⟨l₀, h1, ?_⟩
  have := partP_perm l₀ 0
  generalize partP l₀ 0 = r at this h2
  obtain ⟨a, b⟩ := r
  cases h2
  exact this
theorem nthN_eq : ∀ (l : List Nat) n, nthN l n = l[n]?
  | [], n => rfl
  | x :: l, 0 => rfl
  | x :: l, n + 1 => (nthN_eq l n).trans (by simp)
theorem ancE_some {prev : List Nat} {i : Nat} : ∀ {es : List Edge} {a : Nat}, ancE prev i es = some a →
    (∀ e ∈ es, Region.binds .any e = true → e.on < i) ∧ (∀ j, hasB a j = true → ∃ e ∈ es, Region.binds .any e = true ∧ (j = e.on ∨ ∃ y, prev[i - 1 - e.on]? = some y ∧ hasB y j = true))
  | [], a, h => by cases h; exact ⟨fun e he => (by cases he), fun j hj => by rw [hasB_zero] at hj; cases hj⟩
  | e :: es, a, h => by
    have h' : bcase (Region.binds .any e) (ancE prev i es) (bcase (Nat.blt e.on i) none
      (obind (ancE prev i es) fun m => obind (nthN prev (Nat.sub (Nat.pred i) e.on)) fun a => some (Nat.lor (Nat.lor m a) (bitN e.on)))) = some a := h
    rw [bcase_eq] at h'
    split at h'
    · rename_i hb
      obtain ⟨h1, h2⟩ := bcase_none h'
      rw [Nat.blt_eq] at h1
      obtain ⟨m, h3, h4⟩ := obind_some.1 h2
      obtain ⟨y, h5, h6⟩ := obind_some.1 h4
      cases h6
      obtain ⟨i1, i2⟩ := ancE_some h3
      rw [nthN_eq] at h5
      refine ⟨fun e' he' hb' => ?_, fun j hj => ?_⟩
      · rcases List.mem_cons.1 he' with rfl | he'
        · exact h1
        · exact i1 e' he' hb'
      · rw [hasB_lor, hasB_lor, Bool.or_eq_true, Bool.or_eq_true, hasB_bit, decide_eq_true_iff] at hj
        rcases hj with (hj | hj) | hj
        · obtain ⟨e', he', r⟩ := i2 j hj
          exact ⟨e', List.mem_cons_of_mem _ he', r⟩
        · exact ⟨e, List.mem_cons_self .., hb, .inr ⟨y, h5, hj⟩⟩
        · exact ⟨e, List.mem_cons_self .., hb, .inl hj.symm⟩
    · rename_i hb
      obtain ⟨i1, i2⟩ := ancE_some h'
      refine ⟨fun e' he' hb' => ?_, fun j hj => ?_⟩
      · rcases List.mem_cons.1 he' with rfl | he'
        · exact absurd hb' hb
        · exact i1 e' he' hb'
      · obtain ⟨e', he', r⟩ := i2 j hj
        exact ⟨e', List.mem_cons_of_mem _ he', r⟩
end Go.Am

/- Regions whose order is drawn: what comes before what; how the model draws. -/
namespace Go.Am

theorem plan_gen : ∀ (l : List Oper) (i : Nat) (prev : List Nat) (r : List Pl), plan l i prev = some r → r.length = l.length ∧
    ∀ n x, r[n]? = some x → x.i = i + n ∧ l[n]? = some x.o ∧ ancE (((r.take n).map (·.a)).reverse ++ prev) (i + n) x.o.after.toList = some x.a
  | [], i, prev, r, h => by cases h; exact ⟨rfl, fun n x hx => by simp at hx⟩
  | o :: l, i, prev, r, h => by
    obtain ⟨a, h1, h2⟩ := obind_some.1 (show obind (ancE prev i o.after.toList) (fun a => forceN a fun a => forceN (Nat.succ i) fun j => obind (plan l j (a :: prev)) fun r => some (⟨i, a, o⟩ :: r)) = some r from h)
    rw [forceN_eq, forceN_eq] at h2
    obtain ⟨r', h3, h4⟩ := obind_some.1 h2
    cases h4
    obtain ⟨i1, i2⟩ := plan_gen l (i + 1) (a :: prev) r' h3
    refine ⟨by simp [i1], fun n x hx => ?_⟩
    cases n with
    | zero =>
      simp at hx
      subst hx
      exact ⟨rfl, rfl, h1⟩
    | succ n =>
      simp at hx
      obtain ⟨j1, j2, j3⟩ := i2 n x hx
      refine ⟨by omega, by simpa using j2, ?_⟩
      rw [show i + (n + 1) = i + 1 + n by omega]
      simpa using j3
theorem plan_spec {ops : List Oper} {r : List Pl} (h : plan ops 0 [] = some r) : r.length = ops.length ∧ ∀ n x, r[n]? = some x → x.i = n ∧ ops[n]? = some x.o ∧
    (∀ e ∈ x.o.after.toList, Region.binds .any e = true → e.on < n) ∧
    (∀ j, hasB x.a j = true → ∃ e ∈ x.o.after.toList, Region.binds .any e = true ∧ (j = e.on ∨ ∃ y, r[e.on]? = some y ∧ hasB y.a j = true)) := by
  obtain ⟨h1, h2⟩ := plan_gen ops 0 [] r h
  refine ⟨h1, fun n x hx => ?_⟩
  obtain ⟨a1, a2, a3⟩ := h2 n x hx
  rw [Nat.zero_add] at a1 a3
  rw [List.append_nil] at a3
  obtain ⟨b1, b2⟩ := ancE_some a3
  refine ⟨a1, a2, b1, fun j hj => ?_⟩
  obtain ⟨e, he, hb, h3⟩ := b2 j hj
  refine ⟨e, he, hb, ?_⟩
  rcases h3 with h3 | ⟨y, h3, h4⟩
  · exact .inl h3
  · have hlt := b1 e he hb
    have hn : n < r.length := by
      rcases Nat.lt_or_ge n r.length with h | h
      · exact h
      · rw [List.getElem?_eq_none h] at hx; cases hx
    have hlen : ((r.take n).map (·.a)).length = n := by simp; omega
    rw [List.getElem?_reverse (by omega), hlen, show n - 1 - (n - 1 - e.on) = e.on by omega, List.getElem?_map, List.getElem?_take, if_pos hlt] at h3
    cases hz : r[e.on]? with
    | none => rw [hz] at h3; simp at h3
    | some z =>
      rw [hz] at h3
      simp at h3
      exact .inr ⟨z, rfl, h3 ▸ h4⟩
/-- What comes before an operation in every order has been done when it is its turn. -/
theorem anc_done {ops : List Oper} {r : List Pl} (h : plan ops 0 [] = some r) {S : Nat → Prop} (hcl : ∀ i, S i → ∀ o, ops[i]? = some o → ∀ e ∈ o.after.toList, Region.binds .any e = true → S e.on) :
    ∀ (n : Nat) (x : Pl), r[n]? = some x → (∀ e ∈ x.o.after.toList, Region.binds .any e = true → S e.on) → ∀ j, hasB x.a j = true → S j := by
  obtain ⟨_, h2⟩ := plan_spec h
  intro n
  induction n using Nat.strongRecOn with
  | _ n ih =>
    intro x hx hrd j hj
    obtain ⟨_, _, hlt, hanc⟩ := h2 n x hx
    obtain ⟨e, he, hb, h3⟩ := hanc j hj
    have hS := hrd e he hb
    rcases h3 with rfl | ⟨y, hy, h4⟩
    · exact hS
    · obtain ⟨_, hyo, _, _⟩ := h2 e.on y hy
      exact ih e.on (hlt e he hb) y hy (hcl e.on hS y.o hyo) j h4

/-! ## How the model draws -/
section
variable {ops : Array Oper}
theorem mem_ready {md : Region.Mode} {listed : Array Bool} {i : Nat} (h : i ∈ Region.ready md ops listed) : i < ops.size ∧ listed.getD i true = false ∧ ∃ o, ops[i]? = some o ∧ ∀ e ∈ o.after.toList, Region.binds md e = true → listed.getD e.on false = true := by
  unfold Region.ready at h
  obtain ⟨h1, h2⟩ := List.mem_filter.1 h
  have h1' : i < ops.size := List.mem_range.1 h1
  simp only [Bool.and_eq_true, Bool.not_eq_true'] at h2
  refine ⟨h1', h2.1, ops[i], by simp [h1'], fun e he hb => ?_⟩
  have h3 := h2.2
  rw [Array.getElem?_eq_getElem h1'] at h3
  simp only [Option.map_some, Option.getD_some, Array.all_eq_true'] at h3
  have := h3 e (by simpa using he)
  rw [hb] at this
  simpa using this
end
end Go.Am

/- Regions whose order is drawn: the model's run in another order. -/
namespace Go.Am
variable {P : Program} {ih : Ex} {rnd : Option Pos} {fc : Fc}

/-- The state of the model's run when some of the operations have been done. -/
structure Sim (K : Nat → Heap) (ev : Nat → Pl) (m : Nat) (es : List (Nat × Nat × AV)) (β₀ : Ren) (w₀ : World) (arr₀ : Array Value)
    (S : Nat → Prop) (j : Nat) (β : Ren) (w : World) (arr : Array Value) : Prop where
  jm : j ≤ m
  pre : ∀ c, c < j → S (ev c).i
  rel : Rel β (K j) w
  le : β₀.le β
  size : w₀.heap.size ≤ w.heap.size
  new : ∀ p r n, β p = some (r, n) → β₀ p = some (r, n) ∨
    (nx (K 0) ≤ p.toNat ∧ p.toNat < nx (K j) ∧ (w₀.heap.size ≤ r ∨ ∃ q k, Live (K 0) q ∧ β₀ q = some (r, k))) ∨
    (∃ c, j ≤ c ∧ c < m ∧ S (ev c).i ∧ p = (K c).next ∧ w₀.heap.size ≤ r)
  stay : ∀ p, p.toNat < nx (K 0) → (PTree.get p (K 0).t = none → PTree.get p (K j).t = none) ∧ (PTree.get p (K 0).t = some .dead → PTree.get p (K j).t = some .dead)
  frame : ∀ r, r < w₀.heap.size → (∀ q k, β₀ q = some (r, k) → ¬ Live (K 0) q) → w.heap[r]? = w₀.heap[r]?
  pend : ∀ c, j ≤ c → c < m → S (ev c).i → ∃ ob r n o', K (c + 1) = ⟨PTree.set ob (K c).next (K c).t, (K c).next.succ⟩ ∧ β (K c).next = some (r, n) ∧ w.heap[r]? = some o' ∧ OR β n ob o' ∧
    ∀ q k, β q = some (r, k) → q = (K c).next
  asz : arr.size = arr₀.size
  val : ∀ e ∈ es, S e.1 → VR β e.2.2 (arr.getD e.2.1 undef)
  old : ∀ t, (∀ e ∈ es, e.2.1 = t → ¬ S e.1) → arr.getD t undef = arr₀.getD t undef
  same : SameW w₀ w

section
variable {K : Nat → Heap} {ev : Nat → Pl} {m : Nat} {es : List (Nat × Nat × AV)} {β₀ : Ren} {w₀ : World} {arr₀ : Array Value} {S : Nat → Prop} {j : Nat} {β : Ren} {w : World} {arr : Array Value}
theorem nx_mono (hl : ∀ c, c < m → nx (K c) ≤ nx (K (c + 1))) : ∀ {a b : Nat}, a ≤ b → b ≤ m → nx (K a) ≤ nx (K b) := by
  intro a b hab hb
  induction b with
  | zero => have : a = 0 := by omega
            subst this; exact Nat.le_refl _
  | succ b ih =>
    rcases Nat.lt_or_eq_of_le hab with h | h
    · exact Nat.le_trans (ih (by omega) (by omega)) (hl b (by omega))
    · subst h; exact Nat.le_refl _
/-- A block that lies there already is seen. -/
theorem Sim.lay (h : Sim K ev m es β₀ w₀ arr₀ S j β w arr) (hl : ∀ c, c < m → nx (K c) ≤ nx (K (c + 1))) (hj : j < m) (hS : S (ev j).i) : Sim K ev m es β₀ w₀ arr₀ S (j + 1) β w arr := by
  obtain ⟨ob, r, n, o', hk, hb, hw, ho, hu⟩ := h.pend j (Nat.le_refl _) hj hS
  have hnn : ∀ o, PTree.get (K j).next (K j).t = some o → False := fun o e => Nat.lt_irrefl _ (h.rel.fresh _ o e)
  have hg : ∀ p, p ≠ (K j).next → PTree.get p (K (j + 1)).t = PTree.get p (K j).t := by
    intro p hp; rw [hk]; exact PTree.get_set_other _ _ hp
  have hdead : ∀ p, PTree.get p (K j).t = some .dead → PTree.get p (K (j + 1)).t = some .dead := by
    intro p e
    rw [hg p (by intro e'; subst e'; exact hnn _ e)]; exact e
  refine ⟨hj, fun c hc => ?_, ⟨?_, ?_, ?_, h.rel.inW⟩, h.le, h.size, ?_, ?_, h.frame, fun c hc => h.pend c (by omega), h.asz, h.val, h.old, h.same⟩
  · rcases Nat.lt_succ_iff_lt_or_eq.1 hc with h1 | h1
    · exact h.pre c h1
    · subst h1; exact hS
  · intro p o r' n' hp hbp
    by_cases e : p = (K j).next
    · subst e
      rw [hk] at hp
      simp only [PTree.get_set_same] at hp
      cases hp
      rw [hb] at hbp; cases hbp
      exact ⟨o', hw, ho⟩
    · rw [hg p e] at hp
      exact h.rel.obj p o r' n' hp hbp
  · intro p q r' n' m' hp hq
    rcases h.rel.inj p q r' n' m' hp hq with h1 | h1 | h1
    · exact .inl h1
    · exact .inr (.inl (hdead _ h1))
    · exact .inr (.inr (hdead _ h1))
  · intro p o hp
    by_cases e : p = (K j).next
    · subst e; rw [hk]; simp only [Pos.toNat_succ]; omega
    · rw [hg p e] at hp
      have := h.rel.fresh p o hp
      have h2 := hl j hj
      simp only [nx] at h2
      omega
  · intro p r' n' hp
    rcases h.new p r' n' hp with h1 | ⟨h1, h2, h3⟩ | ⟨c, h1, h2, h3, h4, h5⟩
    · exact .inl h1
    · exact .inr (.inl ⟨h1, Nat.lt_of_lt_of_le h2 (hl j hj), h3⟩)
    · rcases Nat.lt_or_eq_of_le h1 with h6 | h6
      · exact .inr (.inr ⟨c, h6, h2, h3, h4, h5⟩)
      · subst h6
        subst h4
        refine .inr (.inl ⟨nx_mono hl (Nat.zero_le _) (by omega), ?_, .inl h5⟩)
        rw [hk]; simp only [nx, Pos.toNat_succ]; omega
  · intro p hp
    have hne : p ≠ (K j).next := by
      intro e; subst e
      have := nx_mono hl (Nat.zero_le j) (by omega)
      simp only [nx] at hp this
      omega
    rw [hg p hne]; exact h.stay p hp
/-- As many as lie there. -/
theorem Sim.norm (hl : ∀ c, c < m → nx (K c) ≤ nx (K (c + 1))) : ∀ (f : Nat) {j : Nat}, m - j ≤ f → Sim K ev m es β₀ w₀ arr₀ S j β w arr → ∃ j', Sim K ev m es β₀ w₀ arr₀ S j' β w arr ∧ (j' < m → ¬ S (ev j').i)
  | 0, j, hf, h => ⟨j, h, fun hj => by omega⟩
  | f + 1, j, hf, h => by
    by_cases hj : j < m
    · by_cases hS : S (ev j).i
      · exact Sim.norm hl f (by omega) (h.lay hl hj hS)
      · exact ⟨j, h, fun _ => hS⟩
    · exact ⟨j, h, fun h' => absurd h' hj⟩
/-- The slots behind one operation more. -/
theorem Sim.slots (h : Sim K ev m es β₀ w₀ arr₀ S j β w arr) {β' : Ren} (hb : β.le β') {x : Pl} {v : AV} {v' : Value} (hx : ¬ S x.i) (hu : ∀ e ∈ es, ∀ e' ∈ es, e.2.1 = e'.2.1 → e = e')
    (hent : ∀ e ∈ es, e.1 = x.i → x.o.dst = some e.2.1 ∧ e.2.2 = v) (hdst : ∀ d, x.o.dst = some d → d < arr.size ∧ (x.i, d, v) ∈ es) (hv : VR β' v v') :
    (∀ e ∈ es, (S e.1 ∨ e.1 = x.i) → VR β' e.2.2 ((putT arr x.o.dst v').getD e.2.1 undef)) ∧
      (∀ t, (∀ e ∈ es, e.2.1 = t → ¬ (S e.1 ∨ e.1 = x.i)) → (putT arr x.o.dst v').getD t undef = arr₀.getD t undef) := by
  refine ⟨fun e he hs => ?_, fun t ht => ?_⟩
  · rcases hs with hs | hs
    · cases hd : x.o.dst with
      | none => exact (h.val e he hs).mono hb
      | some d =>
        obtain ⟨h1, h2⟩ := hdst d hd
        rw [getD_put arr h1]
        have hne : ¬ d = e.2.1 := by
          intro e1
          have := hu e he _ h2 e1.symm
          rw [this] at hs
          exact hx hs
        rw [if_neg hne]
        exact (h.val e he hs).mono hb
    · obtain ⟨h1, h2⟩ := hent e he hs
      obtain ⟨h3, _⟩ := hdst _ h1
      rw [h1, getD_put arr h3, if_pos rfl, h2]; exact hv
  · cases hd : x.o.dst with
    | none => exact h.old t fun e he e1 hs => ht e he e1 (.inl hs)
    | some d =>
      obtain ⟨h1, h2⟩ := hdst d hd
      rw [getD_put arr h1]
      have hne : ¬ d = t := fun e1 => ht _ h2 e1 (.inr rfl)
      rw [if_neg hne]
      exact h.old t fun e he e1 hs => ht e he e1 (.inl hs)
end
end Go.Am

/- Regions whose order is drawn: one operation in another order. -/
namespace Go.Am
variable {P : Program} {ih : Ex} {rnd : Option Pos} {fc : Fc}
variable {K : Nat → Heap} {ev : Nat → Pl} {m : Nat} {es : List (Nat × Nat × AV)} {β₀ : Ren} {w₀ : World} {arr₀ : Array Value} {S : Nat → Prop} {j : Nat} {β : Ren} {w : World} {arr : Array Value}
variable {x : Pl} {v : AV} {v' : Value}

/-- One operation more. -/
abbrev more (S : Nat → Prop) (i : Nat) : Nat → Prop := fun n => S n ∨ n = i
theorem Sim.quiet (h : Sim K ev m es β₀ w₀ arr₀ S j β w arr) (hx : ¬ S x.i) (hne : ∀ c, c < m → (ev c).i ≠ x.i) (hu : ∀ e ∈ es, ∀ e' ∈ es, e.2.1 = e'.2.1 → e = e')
    (hent : ∀ e ∈ es, e.1 = x.i → x.o.dst = some e.2.1 ∧ e.2.2 = v) (hdst : ∀ d, x.o.dst = some d → d < arr.size ∧ (x.i, d, v) ∈ es) (hv : VR β v v') :
    Sim K ev m es β₀ w₀ arr₀ (more S x.i) j β w (putT arr x.o.dst v') := by
  obtain ⟨s1, s2⟩ := h.slots (Ren.le_refl β) hx hu hent hdst hv
  refine ⟨h.jm, fun c hc => .inl (h.pre c hc), h.rel, h.le, h.size, fun p r n hp => ?_, h.stay, h.frame, fun c h1 h2 h3 => h.pend c h1 h2 (h3.resolve_right (hne c h2)), (putT_size _ _ _).trans h.asz, s1, s2, h.same⟩
  rcases h.new p r n hp with h1 | h1 | ⟨c, h1, h2, h3, h4⟩
  · exact .inl h1
  · exact .inr (.inl h1)
  · exact .inr (.inr ⟨c, h1, h2, .inl h3, h4⟩)
theorem Sim.at (h : Sim K ev m es β₀ w₀ arr₀ S j β w arr) (hx : ¬ S x.i) {c : Nat} (he : ev c = x) : j ≤ c := by
  rcases Nat.lt_or_ge c j with h1 | h1
  · have := h.pre c h1; rw [he] at this; exact absurd this hx
  · exact h1
theorem alloc_heap (o' : Obj) : (w.alloc o').heap = w.heap.push o' := rfl
theorem alloc_old {o' : Obj} {r : Nat} {o : Obj} (h : w.heap[r]? = some o) : (w.alloc o').heap[r]? = some o := by
  have hlt := block_lt h
  rw [alloc_heap, Array.getElem?_push, if_neg (Nat.ne_of_lt hlt)]; exact h
theorem alloc_new {o' : Obj} : (w.alloc o').heap[w.heap.size]? = some o' := by rw [alloc_heap]; simp
theorem Sim.free (h : Sim K ev m es β₀ w₀ arr₀ S j β w arr) (hl : ∀ c, c < m → nx (K c) ≤ nx (K (c + 1))) (hd : Dom β₀ (K 0) (K m)) (hx : ¬ S x.i) {c : Nat} (hc : c < m) (he : ev c = x)
    {ob : AObj} (hk : K (c + 1) = ⟨PTree.set ob (K c).next (K c).t, (K c).next.succ⟩) : β (K c).next = none := by
  have hjc := h.at hx he
  have hlt : nx (K c) < nx (K (c + 1)) := by rw [hk]; simp only [nx, Pos.toNat_succ]; omega
  cases hb : β (K c).next with
  | none => rfl
  | some rn =>
    exfalso
    obtain ⟨r, n⟩ := rn
    rcases h.new _ r n hb with h1 | ⟨_, h2, _⟩ | ⟨c', h1, h2, h3, h4, _⟩
    · rcases hd _ _ h1 with h2 | h2
      · have := nx_mono hl (Nat.zero_le c) (by omega); simp only [nx] at this; omega
      · have := nx_mono hl (show c + 1 ≤ m by omega) (Nat.le_refl m); simp only [nx] at this hlt; omega
    · have := nx_mono hl hjc (by omega); simp only [nx] at this h2; omega
    · obtain ⟨ob', _, _, _, hk', _⟩ := h.pend c' h1 h2 h3
      have hlt' : nx (K c') < nx (K (c' + 1)) := by rw [hk']; simp only [nx, Pos.toNat_succ]; omega
      have heq : nx (K c) = nx (K c') := by simp only [nx, h4]
      rcases Nat.lt_trichotomy c c' with h5 | h5 | h5
      · have := nx_mono hl (show c + 1 ≤ c' by omega) (by omega); omega
      · subst h5; rw [he] at h3; exact hx h3
      · have := nx_mono hl (show c' + 1 ≤ c by omega) (by omega); omega
theorem Sim.laid (h : Sim K ev m es β₀ w₀ arr₀ S j β w arr) (hl : ∀ c, c < m → nx (K c) ≤ nx (K (c + 1))) (hx : ¬ S x.i) {c : Nat} (hc : c < m) (he : ev c = x)
    (hinj : ∀ c c', c < m → c' < m → (ev c).i = (ev c').i → c = c') {ob : AObj} (hk : K (c + 1) = ⟨PTree.set ob (K c).next (K c).t, (K c).next.succ⟩) (hfree : β (K c).next = none)
    (hu : ∀ e ∈ es, ∀ e' ∈ es, e.2.1 = e'.2.1 → e = e') (hent : ∀ e ∈ es, e.1 = x.i → x.o.dst = some e.2.1 ∧ e.2.2 = v) (hdst : ∀ d, x.o.dst = some d → d < arr.size ∧ (x.i, d, v) ∈ es)
    {n : Nat} {o' : Obj} (ho : OR (β.set (K c).next (w.heap.size, n)) n ob o') (hv : VR (β.set (K c).next (w.heap.size, n)) v v') :
    Sim K ev m es β₀ w₀ arr₀ (more S x.i) j (β.set (K c).next (w.heap.size, n)) (w.alloc o') (putT arr x.o.dst v') := by
  have hle := Ren.le_set (β := β) (x := (w.heap.size, n)) hfree
  obtain ⟨s1, s2⟩ := h.slots hle hx hu hent hdst hv
  have hjc := h.at hx he
  have hset : ∀ p r k, (β.set (K c).next (w.heap.size, n)) p = some (r, k) → (p = (K c).next ∧ r = w.heap.size ∧ k = n) ∨ (p ≠ (K c).next ∧ β p = some (r, k)) := by
    intro p r k hp
    by_cases e : p = (K c).next
    · subst e; rw [Ren.set_same] at hp; cases hp; exact .inl ⟨rfl, rfl, rfl⟩
    · refine .inr ⟨e, ?_⟩
      simpa [Ren.set, e] using hp
  have hge : nx (K j) ≤ (K c).next.toNat := nx_mono hl hjc (by omega)
  refine ⟨h.jm, fun c hc => .inl (h.pre c hc), ⟨?_, ?_, h.rel.fresh, ?_⟩, Ren.le_trans h.le hle, by rw [alloc_heap, Array.size_push]; have := h.size; omega, fun p r k hp => ?_, h.stay, fun r hr hq => ?_,
    fun c' h1 h2 h3 => ?_, (putT_size _ _ _).trans h.asz, s1, s2, h.same.trans ⟨rfl, rfl, rfl⟩⟩
  · intro p o r k hp hb
    rcases hset p r k hb with ⟨e, _, _⟩ | ⟨_, hb⟩
    · have := h.rel.fresh p o hp; rw [e] at this; simp only [nx] at hge; omega
    · obtain ⟨o₁, h1, h2⟩ := h.rel.obj p o r k hp hb
      exact ⟨o₁, alloc_old h1, h2.mono hle⟩
  · intro p q r k l hp hq
    rcases hset p r k hp with ⟨e1, e2, _⟩ | ⟨_, hp⟩ <;> rcases hset q r l hq with ⟨f1, f2, _⟩ | ⟨_, hq⟩
    · exact .inl (e1.trans f1.symm)
    · have := h.rel.inW q r l hq; omega
    · have := h.rel.inW p r k hp; omega
    · exact h.rel.inj p q r k l hp hq
  · intro p r k hp
    have hs : (w.alloc o').heap.size = w.heap.size + 1 := by rw [alloc_heap, Array.size_push]
    rw [hs]
    rcases hset p r k hp with ⟨_, e, _⟩ | ⟨_, hp⟩
    · omega
    · have := h.rel.inW p r k hp; omega
  · rcases hset p r k hp with ⟨e1, e2, _⟩ | ⟨_, hp⟩
    · exact .inr (.inr ⟨c, hjc, hc, .inr (by rw [he]), e1, by rw [e2]; exact h.size⟩)
    · rcases h.new p r k hp with h1 | h1 | ⟨c, h1, h2, h3, h4⟩
      · exact .inl h1
      · exact .inr (.inl h1)
      · exact .inr (.inr ⟨c, h1, h2, .inl h3, h4⟩)
  · rw [← h.frame r hr hq]
    have : r < w.heap.size := Nat.lt_of_lt_of_le hr h.size
    rw [alloc_heap, Array.getElem?_push, if_neg (Nat.ne_of_lt this)]
  · by_cases hcc : c' = c
    · subst hcc
      refine ⟨ob, w.heap.size, n, o', hk, Ren.set_same _ _, alloc_new, ho, fun q k hq => ?_⟩
      rcases hset q _ k hq with ⟨e, _, _⟩ | ⟨_, hq⟩
      · exact e
      · have := h.rel.inW q _ k hq; omega
    · have hS : S (ev c').i := by
        rcases h3 with h3 | h3
        · exact h3
        · exact absurd (hinj c' c h2 hc (by rw [he]; exact h3)) hcc
      obtain ⟨ob', r, k, o₁, g1, g2, g3, g4, g5⟩ := h.pend c' h1 h2 hS
      refine ⟨ob', r, k, o₁, g1, hle _ _ g2, alloc_old g3, g4.mono hle, fun q l hq => ?_⟩
      rcases hset q r l hq with ⟨_, e, _⟩ | ⟨_, hq⟩
      · have := h.rel.inW _ _ _ g2; omega
      · exact g5 q l hq
theorem Sim.dom (h : Sim K ev m es β₀ w₀ arr₀ S j β w arr) (hl : ∀ c, c < m → nx (K c) ≤ nx (K (c + 1))) (hd : Dom β₀ (K 0) (K m)) (hj : j < m) (hn : ¬ S (ev j).i) : Dom β (K j) (K (j + 1)) := by
  intro p x hp
  obtain ⟨r, n⟩ := x
  rcases h.new p r n hp with h1 | ⟨_, h2, _⟩ | ⟨c, h1, h2, h3, h4, _⟩
  · rcases hd p _ h1 with h2 | h2
    · have := nx_mono hl (Nat.zero_le j) (by omega); simp only [nx] at this; exact .inl (by omega)
    · have := nx_mono hl (show j + 1 ≤ m by omega) (Nat.le_refl m); simp only [nx] at this; exact .inr (by omega)
  · exact .inl h2
  · rcases Nat.lt_or_eq_of_le h1 with h5 | h5
    · have := nx_mono hl (show j + 1 ≤ c by omega) (by omega)
      rw [h4]; exact .inr this
    · subst h5; exact absurd h3 hn
theorem Sim.worked (h : Sim K ev m es β₀ w₀ arr₀ S j β w arr) (hl : ∀ c, c < m → nx (K c) ≤ nx (K (c + 1))) (hx : ¬ S x.i) (hj : j < m) (he : ev j = x)
    (hinj : ∀ c c', c < m → c' < m → (ev c).i = (ev c').i → c = c') (hd0 : Dom β₀ (K 0) (K m))
    (hu : ∀ e ∈ es, ∀ e' ∈ es, e.2.1 = e'.2.1 → e = e') (hent : ∀ e ∈ es, e.1 = x.i → x.o.dst = some e.2.1 ∧ e.2.2 = v) (hdst : ∀ d, x.o.dst = some d → d < arr.size ∧ (x.i, d, v) ∈ es)
    {β' : Ren} {w' : World} (hr : Rel β' (K (j + 1)) w') (hE : Ext β (K j) w β' (K (j + 1)) w') (hv : VR β' v v') :
    Sim K ev m es β₀ w₀ arr₀ (more S x.i) (j + 1) β' w' (putT arr x.o.dst v') := by
  obtain ⟨s1, s2⟩ := h.slots hE.le hx hu hent hdst hv
  have h0j : nx (K 0) ≤ nx (K j) := nx_mono hl (Nat.zero_le j) (by omega)
  -- a live block of the start is a live block now
  have back : ∀ q k r, β₀ q = some (r, k) → Live (K j) q → Live (K 0) q := by
    intro q k r e hq
    rcases hd0 q _ e with h1 | h1
    · exact live_back (h.stay q h1) hq
    · obtain ⟨o, e2, _⟩ := hq
      have := h.rel.fresh q o e2
      have h3 := nx_mono hl (show j ≤ m by omega) (Nat.le_refl m)
      simp only [nx] at h3
      omega
  have pendNew : ∀ c, j + 1 ≤ c → c < m → more S x.i (ev c).i → S (ev c).i := by
    intro c h1 h2 h3
    rcases h3 with h3 | h3
    · exact h3
    · have := hinj c j h2 hj (by rw [he]; exact h3); omega
  have fr : ∀ r, r < w₀.heap.size → (∀ q k, β₀ q = some (r, k) → ¬ Live (K 0) q) → w'.heap[r]? = w₀.heap[r]? := by
    intro r hr' hq
    rw [hE.frame r (Nat.lt_of_lt_of_le hr' h.size) ?_, h.frame r hr' hq]
    intro q k e hlive
    rcases h.new q r k e with h1 | ⟨_, _, h3⟩ | ⟨c, _, _, _, _, h5⟩
    · exact hq q k h1 (back q k r h1 hlive)
    · rcases h3 with h3 | ⟨q', k', hl', e'⟩
      · omega
      · exact hq q' k' e' hl'
    · omega
  refine ⟨hj, fun c hc => ?_, hr, Ren.le_trans h.le hE.le, Nat.le_trans h.size hE.sizeLe, fun p r k hp => ?_, fun p hp => ?_, fr, fun c h1 h2 h3 => ?_, (putT_size _ _ _).trans h.asz, s1, s2, h.same.trans hE.same⟩
  · rcases Nat.lt_succ_iff_lt_or_eq.1 hc with h1 | h1
    · exact .inl (h.pre c h1)
    · subst h1; exact .inr (by rw [he])
  · rcases hE.new p r k hp with h1 | ⟨h1, h2, h3⟩
    · rcases h.new p r k h1 with h2 | ⟨h2, h3, h4⟩ | ⟨c, h2, h3, h4, h5⟩
      · exact .inl h2
      · exact .inr (.inl ⟨h2, Nat.lt_of_lt_of_le h3 (hl j hj), h4⟩)
      · refine .inr (.inr ⟨c, ?_, h3, .inl h4, h5⟩)
        rcases Nat.lt_or_eq_of_le h2 with h6 | h6
        · exact h6
        · subst h6; rw [he] at h4; exact absurd h4 hx
    · refine .inr (.inl ⟨Nat.le_trans h0j h1, h2, ?_⟩)
      rcases h3 with h3 | ⟨q, l, hq, e⟩
      · exact .inl (Nat.le_trans h.size h3)
      · rcases h.new q r l e with h4 | ⟨_, _, h6⟩ | ⟨_, _, _, _, _, h8⟩
        · exact .inr ⟨q, l, back q l r h4 hq, h4⟩
        · exact h6
        · exact .inl h8
  · have a := h.stay p hp
    have b := hE.stay p (Nat.lt_of_lt_of_le hp h0j)
    exact ⟨fun e => b.1 (a.1 e), fun e => b.2 (a.2 e)⟩
  · have hS := pendNew c h1 h2 h3
    obtain ⟨ob', r, k, o₁, g1, g2, g3, g4, g5⟩ := h.pend c (by omega) h2 hS
    have hrw : r < w.heap.size := block_lt g3
    have hcn : ∀ q l, β q = some (r, l) → ¬ Live (K j) q := by
      intro q l e hlive
      have := g5 q l e
      subst this
      obtain ⟨o, e2, _⟩ := hlive
      have h4 := h.rel.fresh _ o e2
      have h5 := nx_mono hl (show j ≤ c by omega) (by omega)
      simp only [nx] at h5
      omega
    refine ⟨ob', r, k, o₁, g1, hE.le _ _ g2, ?_, g4.mono hE.le, fun q l hq => ?_⟩
    · rw [hE.frame r hrw hcn]; exact g3
    · rcases hE.new q r l hq with h4 | ⟨_, _, h6⟩
      · exact g5 q l h4
      · rcases h6 with h6 | ⟨q', l', hq', e'⟩
        · omega
        · exact absurd hq' (hcn q' l' e')
end Go.Am

/- Regions whose order is drawn: every order leads to the same. -/
namespace Go.Am
variable {P : Program} {ih : Ex} {rnd : Option Pos} {fc : Fc}

theorem findOv_some {t : Nat} {d : Option AV} {v : AV} : ∀ {ov : List (Nat × AV)}, findOv t ov d = some v → (t, v) ∈ ov ∨ (d = some v ∧ ∀ y ∈ ov, y.1 ≠ t)
  | [], h => .inr ⟨h, fun y hy => by cases hy⟩
  | (s, u) :: ov, h => by
    rw [findOv_cons] at h
    split at h
    · rename_i e; subst e; cases h; exact .inl (List.mem_cons_self ..)
    · rename_i e
      rcases findOv_some h with h1 | ⟨h1, h2⟩
      · exact .inl (List.mem_cons_of_mem _ h1)
      · refine .inr ⟨h1, fun y hy => ?_⟩
        rcases List.mem_cons.1 hy with rfl | hy
        · exact e
        · exact h2 y hy
/-- All that is known of a drawn region once it has been run along one order. -/
structure Run (P : Program) (ih : Ex) (rnd : Option Pos) (fc : Fc) (ops : Array Oper) (tm0 : Pl → PTree AV) (D : List Pl) (sF : Dr) (K : Nat → Heap) (ev : Nat → Pl) (m : Nat)
    (β₀ : Ren) (arr₀ : Array Value) (b : Frame) (cs : List Frame) : Prop where
  hm : ExMono ih
  hC : CallOk P ih
  hR : RoundOk P ih
  good : Good P ih rnd ops.toList fc.nt tm0 D sF K ev m
  quiet : QuietK b.kind cs
  rnd : RndR β₀ rnd b
  dom : Dom β₀ (K 0) (K m)
  size : arr₀.size = fc.nt
  tm : ∀ x ∈ D, ∀ t v, PTree.get (Pos.key t) (tm0 x) = some v → VR β₀ v (arr₀.getD t undef) ∧ ∀ y ∈ D, y.o.dst = some t → hasB y.a x.i = true ∨ hasB x.a y.i = true ∨ y.i = x.i
  ops : ∀ x ∈ D, ops[x.i]? = some x.o
  ids : ∀ x ∈ D, ∀ y ∈ D, x.i = y.i → x = y
section
variable {ops : Array Oper} {tm0 : Pl → PTree AV} {D : List Pl} {sF : Dr} {K : Nat → Heap} {ev : Nat → Pl} {m : Nat} {β₀ : Ren} {w₀ : World} {arr₀ : Array Value} {b : Frame} {cs : List Frame}
theorem Run.op (R : Run P ih rnd fc ops tm0 D sF K ev m β₀ arr₀ b cs) {S : Nat → Prop} {j : Nat} {β : Ren} {w : World} {arr : Array Value} (h : Sim K ev m sF.es β₀ w₀ arr₀ S j β w arr)
    (hn : j < m → ¬ S (ev j).i) {x : Pl} (hxD : x ∈ D) (hx : ¬ S x.i) (hanc : ∀ n, hasB x.a n = true → S n) (hcl : ∀ y ∈ D, S y.i → ∀ n, hasB y.a n = true → S n)
    {k : List Item} {dv : List Deferred} {rest : List Nat} :
    ∃ j' β' w' arr', Steps P (mach b arr (.inRegion ops (x.i :: rest) :: k) dv cs w) (mach b arr' (.inRegion ops rest :: k) dv cs w') ∧ Sim K ev m sF.es β₀ w₀ arr₀ (more S x.i) j' β' w' arr' ∧
      (j' < m → ¬ more S x.i (ev j').i) := by
  obtain ⟨ov, g, v, hrec, _, hevt⟩ := R.good.rec_ x hxD
  have hl := R.good.lin
  have hi := R.ops x hxD
  have hasz : arr.size = fc.nt := h.asz.trans R.size
  -- what is seen of the slots
  have hov : OvT β ⟨tm0 x, ov⟩ arr := by
    intro t u e
    rw [eTmp_eq] at e
    rcases findOv_some e with h1 | ⟨h1, hno⟩
    · obtain ⟨i, h2, h3⟩ := hrec.sub _ h1
      exact h.val _ h2 (hanc i h3)
    · obtain ⟨h2, h3⟩ := R.tm x hxD t u h1
      rw [h.old t fun e he e1 hs => ?_]
      · exact h2.mono h.le
      · obtain ⟨y, hy, h4, h5⟩ := R.good.own e he
        rw [← h4] at hs
        rcases h3 y hy (by rw [h5, e1]) with h6 | h6 | h6
        · exact hx (hcl y hy hs _ h6)
        · exact hno e.2 (hrec.all e he (by rw [← h4]; exact h6)) e1
        · exact hx (h6 ▸ hs)
  have hdst : ∀ d, x.o.dst = some d → d < arr.size ∧ (x.i, d, v) ∈ sF.es := fun d hd => by rw [hasz]; exact hrec.dst d hd
  have fin : ∀ {S' : Nat → Prop} {j' : Nat} {β' : Ren} {w' : World} {arr' : Array Value}, Sim K ev m sF.es β₀ w₀ arr₀ S' j' β' w' arr' → ∃ j', Sim K ev m sF.es β₀ w₀ arr₀ S' j' β' w' arr' ∧ (j' < m → ¬ S' (ev j').i) :=
    fun h => Sim.norm hl _ (Nat.le_refl _) h
  have hwt := guardA_some (o := x.o) (g := g) hov hrec.want
  have hquiet : (g = false ∨ ∃ f force reads, clsOf x.o.op = .lite f force reads) → ∀ c, c < m → (ev c).i ≠ x.i := by
    intro hc c hcm e
    have h1 := R.ids _ (R.good.evD c hcm) x hxD e
    obtain ⟨h2, h3⟩ := hevt c hcm h1
    rcases hc with hc | ⟨f, force, reads, hc⟩
    · rw [h2] at hc; cases hc
    · exact h3 _ _ _ hc
  cases g with
  | false =>
    have hv : VR β v undef := by rw [hrec.off rfl]; exact undef_VR β
    obtain ⟨j', h1, h2⟩ := fin (h.quiet hx (hquiet (.inl rfl)) R.good.uniq hrec.ent hdst hv)
    exact ⟨j', β, w, _, Steps.one (s_unwanted hi hwt), h1, h2⟩
  | true =>
    have hcls := cls_ok x.o.op
    cases hrec.on rfl with
    | lite f force reads hc hf =>
      rw [hc] at hcls
      cases hcls with
      | lite _ _ hlt _ hnd =>
        have hposs : Poss x ev m j := by
          refine ⟨fun c hc => ?_, fun hj => ?_⟩
          · cases hb : hasB (ev c).a x.i with
            | false => rfl
            | true => exact absurd (hcl (ev c) (R.good.evD c (by have := h.jm; omega)) (h.pre c hc) x.i hb) hx
          · cases hb : hasB x.a (ev j).i with
            | false => rfl
            | true => exact absurd (hanc _ hb) (hn hj)
        obtain ⟨v', e1, e2⟩ := hlt P β (K j) w ⟨tm0 x, ov⟩ (evl arr) v x.o rfl h.rel hov.op (hf j h.jm hposs)
        obtain ⟨j', h1, h2⟩ := fin (h.quiet hx (hquiet (.inr ⟨f, force, reads, hc⟩)) R.good.uniq hrec.ent hdst e2)
        exact ⟨j', β, w, _, Steps.one (s_value hi hwt (.inr hnd) e1), h1, h2⟩
    | lay f ob mk c hc hcm he hf hv hk =>
      rw [hc] at hcls
      cases hcls with
      | lay hlay hnd =>
        have hfree := h.free hl R.dom hx hcm he hk
        obtain ⟨n, v', o', e1, e2, e3⟩ := hlay P β (K c).next w ⟨tm0 x, ov⟩ (evl arr) _ x.o rfl hov.op hf hfree
        obtain ⟨j', h1, h2⟩ := fin (h.laid hl hx hcm he R.good.inj hk hfree R.good.uniq hrec.ent hdst e2 (by rw [hv]; exact e3))
        exact ⟨j', _, _, _, Steps.one (s_value hi hwt (.inr hnd) e1), h1, h2⟩
    | work f c hc hcm he ha hf =>
      rw [hc] at hcls
      cases hcls with
      | work hw =>
        have hjc := h.at hx he
        have hcj : c = j := by
          rcases Nat.lt_or_eq_of_le hjc with h1 | h1
          · exact absurd (hanc _ (ha j h1)) (hn (by omega))
          · exact h1.symm
        subst hcj
        have hd := h.dom hl R.dom hcm (hn hcm)
        obtain ⟨v', w', β', e1, e2, e3, e4⟩ := hw P ih rnd β (K c) w ⟨tm0 x, ov⟩ arr b k dv cs ops x.i rest x.o _ R.hC R.hR rfl hi hwt (R.rnd.mono h.le) R.quiet h.rel hov.op hf hd
        obtain ⟨j', h1, h2⟩ := fin (h.worked hl hx hcm he R.good.inj R.dom R.good.uniq hrec.ent hdst e2 e3 e4)
        exact ⟨j', _, _, _, e1, h1, h2⟩
end
end Go.Am

/- Regions whose order is drawn: the whole region. -/
namespace Go.Am
variable {P : Program} {ih : Ex} {rnd : Option Pos} {fc : Fc}
variable {ops : Array Oper} {tm0 : Pl → PTree AV} {D : List Pl} {sF : Dr} {K : Nat → Heap} {ev : Nat → Pl} {m : Nat} {β₀ : Ren} {w₀ : World} {arr₀ : Array Value} {b : Frame} {cs : List Frame}

def Done (listed : Array Bool) (i : Nat) : Prop := listed.getD i false = true
theorem done_more {listed : Array Bool} {i : Nat} (hi : i < listed.size) : Done (listed.setIfInBounds i true) = more (Done listed) i := by
  funext n
  apply propext
  unfold more Done
  simp only [Array.getD_eq_getD_getElem?, Array.getElem?_setIfInBounds]
  by_cases h : i = n
  · subst h; simp [hi]
  · have h' : ¬ n = i := fun e => h e.symm
    simp [h, h']
def left (n : Nat) (listed : Array Bool) : Nat := (List.range n).countP fun i => !listed.getD i false
theorem left_zero {n : Nat} {listed : Array Bool} (h : left n listed = 0) : ∀ i, i < n → Done listed i := by
  intro i hi
  unfold left at h
  rw [List.countP_eq_zero] at h
  have := h i (List.mem_range.2 hi)
  simpa [Done] using this
theorem countP_lt {p q : Nat → Bool} : ∀ {l : List Nat} (_ : ∀ x ∈ l, q x = true → p x = true) {i : Nat} (_ : i ∈ l) (_ : p i = true) (_ : q i = false), l.countP q < l.countP p
  | [], _, i, hi, _, _ => by cases hi
  | y :: l, hpq, i, hi, hp, hq => by
    rw [List.countP_cons, List.countP_cons]
    have hle : l.countP q ≤ l.countP p := List.countP_mono_left fun x hx => hpq x (List.mem_cons_of_mem _ hx)
    rcases List.mem_cons.1 hi with rfl | hi
    · rw [hp, hq]; simp; omega
    · have := countP_lt (fun x hx => hpq x (List.mem_cons_of_mem _ hx)) hi hp hq
      have h2 := hpq y (List.mem_cons_self ..)
      cases hqy : q y with
      | false => simp; omega
      | true => rw [h2 hqy]; simp; omega
theorem left_set {n : Nat} {listed : Array Bool} {i : Nat} (hi : i < listed.size) (hn : i < n) (hd : listed.getD i true = false) : left n (listed.setIfInBounds i true) < left n listed := by
  have e : ∀ j, (listed.setIfInBounds i true).getD j false = if i = j then true else listed.getD j false := by
    intro j
    simp only [Array.getD_eq_getD_getElem?, Array.getElem?_setIfInBounds]
    by_cases h : i = j
    · subst h; simp [hi]
    · simp [h]
  refine countP_lt (fun x _ hx => ?_) (List.mem_range.2 hn) ?_ ?_
  · rw [e] at hx
    by_cases h : i = x
    · rw [if_pos h] at hx; simp at hx
    · rw [if_neg h] at hx; exact hx
  · simp only [Array.getD_eq_getD_getElem?, Array.getElem?_eq_getElem hi, Option.getD_some] at hd ⊢
    simp [hd]
  · rw [e, if_pos rfl]; rfl
theorem Run.go (R : Run P ih rnd fc ops tm0 D sF K ev m β₀ arr₀ b cs) {r : List Pl} (hp : plan ops.toList 0 [] = some r) (hD : ∀ x, x ∈ D ↔ x ∈ r) {k : List Item} {dv : List Deferred} :
    ∀ (fuel t : Nat) (listed : Array Bool) {j : Nat} {β : Ren} {w : World} {arr : Array Value}, listed.size = ops.size → left ops.size listed ≤ fuel →
      (∀ i, Done listed i → ∀ o, ops.toList[i]? = some o → ∀ e ∈ o.after.toList, Region.binds .any e = true → Done listed e.on) →
      Sim K ev m sF.es β₀ w₀ arr₀ (Done listed) j β w arr → (j < m → ¬ Done listed (ev j).i) →
      ∃ β' w' arr', Steps P (mach b arr (.inRegion ops (Region.linearise.go .any ops fuel t listed []) :: k) dv cs w) (mach b arr' k dv cs w') ∧
        ∃ S : Nat → Prop, (∀ i, i < ops.size → S i) ∧ ∃ j', Sim K ev m sF.es β₀ w₀ arr₀ S j' β' w' arr' ∧ (j' < m → ¬ S (ev j').i) := by
  obtain ⟨hplen, hpl⟩ := plan_spec hp
  intro fuel
  induction fuel with
  | zero =>
    intro t listed j β w arr hsz hleft hcl h hn
    refine ⟨β, w, arr, Steps.one ?_, Done listed, left_zero (by omega), j, h, hn⟩
    simp only [Region.linearise.go, List.reverse_nil]
    exact s_regionEnd
  | succ fuel ihf =>
    intro t listed j β w arr hsz hleft hcl h hn
    have hgo : Region.linearise.go .any ops (fuel + 1) t listed [] = (match (Region.ready .any ops listed)[t % (Region.ready .any ops listed).length]? with
      | some i => Region.linearise.go .any ops fuel (t / (Region.ready .any ops listed).length) (listed.setIfInBounds i true) [i]
      | none => [].reverse) := by rfl
    rw [hgo]
    cases hi : (Region.ready .any ops listed)[t % (Region.ready .any ops listed).length]? with
    | none =>
      have hnil : Region.ready .any ops listed = [] := by
        cases hr : Region.ready .any ops listed with
        | nil => rfl
        | cons x xs =>
          rw [hr] at hi
          have hlt : t % (x :: xs).length < (x :: xs).length := Nat.mod_lt _ (by simp)
          rw [List.getElem?_eq_getElem hlt] at hi
          cases hi
      refine ⟨β, w, arr, Steps.one s_regionEnd, Done listed, fun i hi => ?_, j, h, hn⟩
      -- the least operation that is not done would be ready
      induction i using Nat.strongRecOn with
      | _ i ihi =>
        by_cases hdn : Done listed i
        · exact hdn
        · exfalso
          have hli : i < listed.size := by omega
          obtain ⟨x, hro⟩ : ∃ x, r[i]? = some x := ⟨_, List.getElem?_eq_getElem (by rw [hplen]; simpa using hi)⟩
          obtain ⟨_, ho, hlt, _⟩ := hpl i x hro
          have hmem : i ∈ Region.ready .any ops listed := by
            unfold Region.ready
            refine List.mem_filter.2 ⟨List.mem_range.2 hi, ?_⟩
            have e1 : listed.getD i true = false := by
              unfold Done at hdn
              simp only [Array.getD_eq_getD_getElem?, Array.getElem?_eq_getElem hli, Option.getD_some] at hdn ⊢
              simpa using hdn
            have ho' : ops[i]? = some x.o := by simpa using ho
            rw [e1, ho']
            simp only [Bool.not_false, Option.map_some, Option.getD_some, Bool.true_and, Array.all_eq_true']
            intro e he
            have he' : e ∈ x.o.after.toList := by simpa using he
            cases hb : Region.binds .any e with
            | false => rfl
            | true =>
              have h3 := hlt e he' hb
              simp only [Bool.not_true, Bool.false_or]
              exact ihi e.on h3 (by omega)
          rw [hnil] at hmem
          cases hmem
    | some i =>
      have hmem := List.mem_of_getElem? hi
      obtain ⟨hin, hdi, o, ho, hedge⟩ := mem_ready hmem
      simp only
      rw [linearise_go_acc, List.reverse_singleton, List.singleton_append]
      obtain ⟨x, hir⟩ : ∃ x, r[i]? = some x := ⟨_, List.getElem?_eq_getElem (by rw [hplen]; simpa using hin)⟩
      obtain ⟨hxi, hxo, _, _⟩ := hpl i x hir
      have hox : o = x.o := by
        have : ops.toList[i]? = some o := by simpa using ho
        rw [this] at hxo; exact Option.some.inj hxo
      subst hxi
      have hnd : ¬ Done listed x.i := by
        have hli : x.i < listed.size := by omega
        unfold Done
        simp only [Array.getD_eq_getD_getElem?, Array.getElem?_eq_getElem hli, Option.getD_some] at hdi ⊢
        simp [hdi]
      have hanc := anc_done hp hcl x.i x hir (fun e he hb => hedge e (by rw [hox]; exact he) hb)
      obtain ⟨j', β', w', arr', e1, e2, e3⟩ := R.op h hn ((hD x).2 (List.mem_of_getElem? hir)) hnd hanc (fun y hy hSy n hb => by
        obtain ⟨q, hq⟩ := List.mem_iff_getElem?.1 ((hD y).1 hy)
        obtain ⟨hyi, hyo, _, _⟩ := hpl q y hq
        subst hyi
        exact anc_done hp hcl y.i y hq (hcl y.i hSy y.o hyo) n hb) (k := k) (dv := dv)
        (rest := Region.linearise.go .any ops fuel (t / (Region.ready .any ops listed).length) (listed.setIfInBounds x.i true) [])
      have hli : x.i < listed.size := by omega
      rw [← done_more hli] at e2 e3
      obtain ⟨β₂, w₂, arr₂, f1, f2⟩ := ihf (t / (Region.ready .any ops listed).length) (listed.setIfInBounds x.i true) (by rw [Array.size_setIfInBounds]; exact hsz)
        (by have := left_set hli hin hdi; omega) (fun n hdn o' ho' e he hb => by
          rw [done_more hli] at hdn ⊢
          rcases hdn with hdn | hdn
          · exact .inl (hcl n hdn o' ho' e he hb)
          · subst hdn
            rw [hxo] at ho'; cases ho'
            exact .inl (hedge e (by rw [hox]; exact he) hb)) e2 e3
      exact ⟨β₂, w₂, arr₂, Steps.trans e1 f1, f2⟩
end Go.Am

/- Regions whose order is drawn, as regions in text order. -/
namespace Go.Am
variable {P : Program} {ih : Ex} {rnd : Option Pos} {fc : Fc} {β : Ren}

theorem dropL_some {tm : PTree AV} {t : Nat} {v : AV} : ∀ {l : List Nat}, PTree.get (Pos.key t) (dropL tm l) = some v → PTree.get (Pos.key t) tm = some v ∧ t ∉ l
  | [], h => ⟨h, by simp⟩
  | d :: l, h => by
    have h' : PTree.get (Pos.key t) (PTree.delK (Pos.key d) (dropL tm l) fun t => t) = some v := h
    rw [PTree.delK_eq, PTree.get_del] at h'
    split at h'
    · cases h'
    · rename_i hne
      obtain ⟨h1, h2⟩ := dropL_some h'
      refine ⟨h1, fun hm => ?_⟩
      rcases List.mem_cons.1 hm with rfl | hm
      · exact hne rfl
      · exact h2 hm
theorem clearsD_some {keep : Nat → Bool} {x y : Pl} {d : Nat} : ∀ {l : List Pl}, y ∈ l → y.o.dst = some d → keep d = true → d ∈ clearsD keep x l ∨ hasB y.a x.i = true ∨ y.i = x.i
  | [], hy, _, _ => by cases hy
  | z :: l, hy, hd, hk => by
    have e : clearsD keep x (z :: l) = Option.rec (motive := fun _ => List Nat) (clearsD keep x l)
      (fun d => bcase (and (keep d) (and (not (hasB z.a x.i)) (not (Nat.beq z.i x.i)))) (clearsD keep x l) (d :: clearsD keep x l)) z.o.dst := rfl
    rcases List.mem_cons.1 hy with rfl | hy
    · rw [e, hd]
      show d ∈ bcase _ _ _ ∨ _
      rw [bcase_eq, hk]
      cases h1 : hasB y.a x.i with
      | true => exact .inr (.inl rfl)
      | false =>
        cases h2 : Nat.beq y.i x.i with
        | true => exact .inr (.inr (Nat.eq_of_beq_eq_true h2))
        | false => exact .inl (by simp)
    · rcases clearsD_some (x := x) hy hd hk with h | h
      · left
        rw [e]
        cases z.o.dst with
        | none => exact h
        | some d' =>
          show d ∈ bcase _ _ _
          rw [bcase_eq]
          split
          · exact List.mem_cons_of_mem _ h
          · exact h
      · exact .inr h
theorem draw_sim (hmix : P.follows .mixedOrders = true) (hm : ExMono ih) (hC : CallOk P ih) (hR : RoundOk P ih) {ops : Array Oper} {id : Nat} {s : Cs} {x : AExit × Cs} {b : Frame} {k : List Item}
    {cs : List Frame} {w : World} {arr : Array Value}
    {dv : List Deferred} (hx : cRegion id ops true P ih rnd fc s = some x) (hq : QuietK b.kind cs) (hrd : RndR β rnd b) (hr : Rel β s.h w) (ht : TmT β s.tm arr) (hkp : Kp fc s.tm) (hsz : arr.size = fc.nt)
    (hdf : DfsR β s.ds dv) (hd : Dom β s.h x.2.h) :
    ∃ arr' w' β' dv', x.1 = .norm ∧ Steps P (mach b arr (.code (.region id ops true) :: k) dv cs w) (mach b arr' k dv' cs w') ∧ arr'.size = arr.size ∧
      TmT β' x.2.tm arr' ∧ Kp fc x.2.tm ∧ Rel β' x.2.h w' ∧ Ext β s.h w β' x.2.h w' ∧ DfsR β' x.2.ds dv' := by
  obtain ⟨tm, ds, h⟩ := s
  simp only at hr ht hkp hdf hd
  obtain ⟨l, h1, h2⟩ := obind_some.1 (show obind (sched ops.toList) _ = some x from hx)
  obtain ⟨hord, h2⟩ := bcase_none h2
  obtain ⟨sF, h4, h5⟩ := obind_some.1 h2
  obtain ⟨tm', h6, hfl⟩ := flushD_spec fc.keep sF.es tm
  have h5' : some (AExit.norm, (⟨tm', ds, sF.h⟩ : Cs)) = some x := by
    rw [← h5]
    show _ = flushD fc.keep sF.es tm fun tm => some (AExit.norm, (⟨tm, ds, sF.h⟩ : Cs))
    rw [h6]
  cases h5'
  obtain ⟨r, hp, hperm⟩ := sched_some h1
  obtain ⟨hplen, hpl⟩ := plan_spec hp
  have hids : r.map (·.i) = List.range r.length := by
    apply List.ext_getElem
    · simp
    · intro i h1 h2
      simp only [List.getElem_map, List.getElem_range]
      have hi : i < r.length := by simpa using h2
      exact (hpl i r[i] (List.getElem?_eq_getElem hi)).1
  have hnd : (l.map (·.i)).Nodup := by
    rw [(hperm.map (·.i)).nodup_iff, hids]; exact List.nodup_range
  obtain ⟨D, K, ev, m, hg, hK0, hD⟩ := Good.go hm l (Good.start h) (fun _ _ y hy => by cases hy) hnd (fun _ _ y hy => by cases hy) hord h4
  have hD' : ∀ y, y ∈ D ↔ y ∈ r := fun y => by rw [hD]; simp [hperm.mem_iff]
  have hK0' : K 0 = h := hK0
  have hKm : K m = sF.h := hg.heap
  have R : Run P ih rnd fc ops (tmD fc.keep l tm) D sF K ev m β arr b cs := by
    refine ⟨hm, hC, hR, hg, hq, hrd, by rw [hK0', hKm]; exact hd, hsz, fun z hz t v e => ?_, fun y hy => ?_, fun y hy z hz e => ?_⟩
    · obtain ⟨e1, e2⟩ := dropL_some e
      refine ⟨ht t v e1, fun y hy hyd => ?_⟩
      have hyl : y ∈ l := by have := (hD y).1 hy; simpa using this
      rcases clearsD_some hyl hyd (hkp t v e1) with h | h | h
      · exact absurd h e2
      · exact .inl h
      · exact .inr (.inr h)
    · obtain ⟨n, hn⟩ := List.mem_iff_getElem?.1 ((hD' y).1 hy)
      obtain ⟨e1, e2, _⟩ := hpl n y hn
      rw [e1]; simpa using e2
    · obtain ⟨n, hn⟩ := List.mem_iff_getElem?.1 ((hD' y).1 hy)
      obtain ⟨n', hn'⟩ := List.mem_iff_getElem?.1 ((hD' z).1 hz)
      have e1 := (hpl n y hn).1
      have e2 := (hpl n' z hn').1
      have : n = n' := by omega
      subst this
      rw [hn] at hn'; exact Option.some.inj hn'
  have hrep : ∀ n i, (Array.replicate n false).getD i false = false := by
    intro n i
    simp only [Array.getD_eq_getD_getElem?, Array.getElem?_replicate]
    split <;> rfl
  have hno : ∀ i, ¬ Done (Array.replicate ops.size false) i := by
    intro i hdn
    unfold Done at hdn
    rw [hrep] at hdn; cases hdn
  have start : Sim K ev m sF.es β w.drew arr (Done (Array.replicate ops.size false)) 0 β w.drew arr := by
    refine ⟨Nat.zero_le _, fun c hc => absurd hc (Nat.not_lt_zero _), by rw [hK0']; exact hr.drew, Ren.le_refl β, Nat.le_refl _, fun p r n e => .inl e, fun p hp => ⟨fun e => e, fun e => e⟩, fun r _ _ => rfl,
      fun c _ _ hS => absurd hS (hno _), rfl, fun e _ hS => absurd hS (hno _), fun t _ => rfl, ⟨rfl, rfl, rfl⟩⟩
  obtain ⟨β', w', arr', e1, S, hS, j', hsim, hnx⟩ := R.go (w₀ := w.drew) hp hD' (k := k) (dv := dv) ops.size (w.tape w.drawn (.order b.fn id)) (Array.replicate ops.size false) (by simp)
    (by unfold left; exact Nat.le_trans List.countP_le_length (by simp)) (fun i hdn => absurd hdn (hno i)) start (fun _ => hno _)
  have hev : ∀ y ∈ D, S y.i := by
    intro y hy
    obtain ⟨n, hn⟩ := List.mem_iff_getElem?.1 ((hD' y).1 hy)
    have e1 := (hpl n y hn).1
    have hlt : n < r.length := by
      rcases Nat.lt_or_ge n r.length with h | h
      · exact h
      · rw [List.getElem?_eq_none h] at hn; cases hn
    exact hS _ (by rw [e1]; rw [hplen] at hlt; simpa using hlt)
  have hj : j' = m := by
    rcases Nat.lt_or_eq_of_le hsim.jm with h | h
    · exact absurd (hev _ (hg.evD _ h)) (hnx h)
    · exact h
  subst hj
  have hSe : ∀ e ∈ sF.es, S e.1 := by
    intro e he
    obtain ⟨y, hy, h1, _⟩ := hg.own e he
    rw [← h1]; exact hev y hy
  have hrel := hsim.rel
  rw [hKm] at hrel
  refine ⟨arr', w', β', dv, rfl, Steps.head s_draw ?_, hsim.asz, fun t v e => ?_, fun t v e => ?_, hrel, ?_, hdf.mono hsim.le⟩
  · simp only [Region.schedule, hmix, Bool.true_or, if_true]
    exact e1
  · rcases hfl t v e with ⟨_, i, h7⟩ | ⟨h7, h8⟩
    · exact hsim.val _ h7 (hSe _ h7)
    · rw [hsim.old t fun e' he' h9 _ => h8 (hkp t v h7) e' he' h9]
      exact (ht t v h7).mono hsim.le
  · rcases hfl t v e with ⟨h7, _⟩ | ⟨h7, _⟩
    · exact h7
    · exact hkp t v h7
  · have hlin := nx_mono hg.lin (Nat.zero_le j') (Nat.le_refl _)
    rw [hK0', hKm] at hlin
    refine ⟨hsim.le, hlin, hsim.size, fun p r n e => ?_, fun p hp => ?_, fun r hr' hq' => hsim.frame r hr' (by rw [hK0']; exact hq'), hsim.same⟩
    · rcases hsim.new p r n e with h7 | h7 | ⟨c, h7, h8, _⟩
      · exact .inl h7
      · rw [hK0', hKm] at h7; exact .inr h7
      · omega
    · have := hsim.stay p (by rw [hK0']; exact hp)
      rw [hK0', hKm] at this; exact this
end Go.Am
