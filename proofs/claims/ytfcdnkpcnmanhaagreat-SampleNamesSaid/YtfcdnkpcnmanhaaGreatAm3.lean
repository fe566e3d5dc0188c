/- A verified abstract machine for the code of the model, part 3: nothing in it speaks of one program. -/
import Derived.Test.YtfcdnkpcnmanhaaGreatAm2
/- Operations that lay one new block. -/
namespace Go.Am

def FsOk (f : Fs) (op : Op) : Prop := ∀ (P : Program) (β : Ren) (q : Pos) (w : World) (tm : Tm) (ρ : Operand → Value) (x : AObj × (Pos → AV)) (o : Oper), o.op = op → OpR β tm ρ →
  f P tm = some x → β q = none → ∃ n v' o', (execOp ρ o).run P w = .ok (.value v') (w.alloc o') ∧ OR (β.set q (w.heap.size, n)) n x.1 o' ∧
    VR (β.set q (w.heap.size, n)) (x.2 q) v'

theorem or_cells {β : Ren} {c : List AV} {c' : List Value} {t : TypeId} (hc : VRs β c c') (hf : c.all flat = true) : OR β c'.length (.cells c) (.cells (Array.mk c') t (0, 0)) := by
  refine .cells ?_ rfl ?_ hf
  · rw [hc.length]; exact Nat.le_refl _
  · rw [hc.length]; simpa using hc
theorem map_range (z : Array Value) (s : Nat) (hz : z.size = s) : ((List.range s).map fun i => z[i]!) = z.toList := by
  apply List.ext_getElem
  · simp [hz]
  · intro i h1 h2
    simp at h1
    simp [getElem!_pos z i (by omega)]
theorem map_range_mod (z : Array Value) (s : Nat) (hz : z.size = s) (hs : 0 < s) : ∀ m, ((List.range (m * s)).map fun i => z[i % s]!) = (List.replicate m z.toList).flatten
  | 0 => by simp
  | m + 1 => by
    rw [Nat.succ_mul, List.range_add, List.map_append, map_range_mod z s hz hs m, List.replicate_succ', List.flatten_append]
    congr 1
    rw [List.map_map]
    have : ((fun i => z[i % s]!) ∘ fun x => m * s + x) = fun x => z[x % s]! := by
      funext x
      simp [Nat.mul_comm m s]
    rw [this, show [z.toList].flatten = z.toList from by simp, ← map_range z s hz]
    apply List.map_congr_left
    intro i hi
    rw [Nat.mod_eq_of_lt (by simpa using hi)]
theorem ok_alloc (t : TypeId) : FsOk (sAlloc t) (.alloc t) := by
  intro P β q w tm ρ x o ho hρ hv hn
  obtain ⟨z, h1, h2⟩ := obind_some.1 hv
  cases h2
  obtain ⟨z', ez, hz, hzf⟩ := zeroC_VRs (β := β) h1 w
  have hle := Ren.le_set (β := β) (x := (w.heap.size, z'.cells.toList.length)) hn
  refine ⟨z'.cells.toList.length, .pointer (some ⟨w.heap.size, 0, none⟩), .cells z'.cells t (0, 0), ?_, or_cells (hz.mono hle) hzf, .ptr (Ren.set_same _ _)⟩
  simp only [execOp, ho, Instr.alloc, Sem.run_bind, ez, Result.andThen_ok, newVar, newRow, run_newObj, Sem.run_pure]
  rfl
theorem ok_box (t : TypeId) (y : Operand) : FsOk (sBox t y) (.box t y) := by
  intro P β q w tm ρ x o ho hρ hv hn
  obtain ⟨v, h1, h2⟩ := obind_some.1 hv
  obtain ⟨c, h3, h4⟩ := obind_some.1 h2
  cases h4
  obtain ⟨hc, hf⟩ := (hρ y v h1).cells h3
  have hle := Ren.le_set (β := β) (x := (w.heap.size, (ρ y).cells.toList.length)) hn
  refine ⟨(ρ y).cells.toList.length, .pointer (some ⟨w.heap.size, 0, none⟩), .cells (ρ y).cells t (0, 0), ?_, or_cells (hc.mono hle) hf, .ptr (Ren.set_same _ _)⟩
  simp only [execOp, ho, Instr.box, Sem.run_bind, newVar, newRow, run_newObj, Sem.run_pure, Result.andThen_ok]
  rfl
theorem elemT_some {P : Program} {t e : TypeId} (h : elemT P t = some e) : P.underlying t = some (.slice e) := by
  unfold elemT at h; split at h
  · cases h; assumption
  · cases h
theorem ok_buildSlice (t : TypeId) (len : Nat) (ps : Array (Nat × Operand)) : FsOk (sBuildSlice t len ps) (.buildSlice t len ps) := by
  intro P β q w tm ρ x o ho hρ hv hn
  obtain ⟨e, h1, h2⟩ := obind_some.1 hv
  obtain ⟨l, h3, h4⟩ := obind_some.1 h2
  obtain ⟨n, h5, h6⟩ := obind_some.1 h4
  obtain ⟨z, h7, h8⟩ := obind_some.1 h6
  unfold bsA at h8
  obtain ⟨h9, h10⟩ := bcase_none h8
  obtain ⟨c, h11, h12⟩ := obind_some.1 h10
  cases h12
  simp only [Bool.and_eq_true, ble_eq, blt_eq, beq_eq, decide_eq_true_eq] at h9
  obtain ⟨h9a, h9b, h9c⟩ := h9
  have ht := elemT_some h1
  obtain ⟨z', ez, hz, hzf⟩ := zeroC_VRs (β := β) h7 w
  have hzs : z'.cells.size = n := by have := hz.length; simp at this; omega
  have hrep : VRs β (repL z len) (((Array.range (len * n)).map fun i => z'.cells[i % z'.cells.size]!).toList) := by
    have := VRs.replicateL hz len
    rw [← map_range_mod z'.cells n hzs h9b len] at this
    simpa [hzs] using this
  have hrepf : ∀ m, (repL z m).all flat = true := by
    intro m
    induction m with
    | zero => rfl
    | succ m ih => exact all_append hzf ih
  obtain ⟨c', f1, f2, f3, _⟩ := fillA_sim (place' := fun i => some (i * n, n)) (fun i x hx => hx) l _ (repL z len) _ c (evalP_sim hρ _ _ h3) hrep (hrepf len) h11
  have hle := Ren.le_set (β := β) (x := (w.heap.size, c'.toList.length)) hn
  refine ⟨c'.toList.length, .slice (some ⟨w.heap.size, 0, none⟩) len len, .cells c' e (0, 0), ?_, or_cells (f2.mono hle) f3, .sliceK (Ren.set_same _ _)⟩
  have hps : (ps.map fun (i, x) => (i, ρ x)).toList = ps.toList.map fun x => (x.1, ρ x.2) := by simp
  have hne : ¬ (len * n > 2 ^ 24) := by have : len * n ≤ 16777216 := h9a; omega
  simp only [execOp, ho, Instr.buildSlice, Sem.run_bind, run_underlying ht, Result.andThen_ok, run_siz h5, Sem.run_ite, if_neg hne, Sem.run_pure, hps]
  by_cases h0 : len * n = 0
  · have hl0 : len = 0 := by
      rcases Nat.eq_zero_or_pos len with h | h
      · exact h
      · have := Nat.mul_pos h h9b; omega
    have hemp : ((Array.range (len * n)).map fun i => z'.cells[i % z'.cells.size]!) = #[] := by rw [h0]; simp
    rw [hemp] at f1
    simp only [h0, if_true]
    rw [show ((Array.range 0).map fun i => (#[] : Array Value)[i % (#[] : Array Value).size]!) = #[] from by simp, f1]
    simp only [Sem.run_bind, newRow, run_newObj, Sem.run_pure, Result.andThen_ok]
    rfl
  · simp only [h0, if_false, ez, Result.andThen_ok]
    rw [f1]
    simp only [Sem.run_bind, newRow, run_newObj, Sem.run_pure, Result.andThen_ok]
    rfl
theorem mapT_some {P : Program} {t : TypeId} (h : mapT P t = true) : ∃ k e, P.underlying t = some (.map k e) := by
  unfold mapT at h; split at h
  · exact ⟨_, _, by assumption⟩
  · cases h
theorem ok_makeMap (t : TypeId) (r : Option Operand) : FsOk (sMakeMap t r) (.makeMap t r) := by
  intro P β q w tm ρ x o ho hρ hv hn
  obtain ⟨h1, h2⟩ := bcase_none hv
  obtain ⟨k, e, ht⟩ := mapT_some h1
  cases r with
  | none =>
    cases h2
    refine ⟨0, .map (some w.heap.size), .map #[] 0, ?_, .map 0 .nil, .map (Ren.set_same _ _)⟩
    simp only [execOp, ho, Instr.makeMap, Option.map_none, Sem.run_bind, run_newObj, Sem.run_pure, Result.andThen_ok]
    rfl
  | some y =>
    obtain ⟨v, h3, h4⟩ := obind_some.1 (show obind (evalO tm y) (fun r => obind (toInt r) fun _ => some (AObj.map [] 0, fun p => AV.map (some p))) = some x from h2)
    obtain ⟨i, h5, h6⟩ := obind_some.1 h4
    cases h6
    have hy := hρ y v h3
    rw [toInt_some h5] at hy
    have ey := hy.toInt
    refine ⟨0, .map (some w.heap.size), .map #[] 0, ?_, .map 0 .nil, .map (Ren.set_same _ _)⟩
    simp only [execOp, ho, Instr.makeMap, Option.map_some, ey, Sem.run_bind, run_underlying ht, asInt, asIntOf, run_newObj, Sem.run_pure, Result.andThen_ok]
    rfl
theorem ok_makeChan (t : TypeId) (s : Operand) : FsOk (sMakeChan t s) (.makeChan t s) := by
  intro P β q w tm ρ x o ho hρ hv hn
  obtain ⟨v, h1, h2⟩ := obind_some.1 hv
  obtain ⟨n, h3, h4⟩ := obind_some.1 h2
  obtain ⟨i, h5, h6⟩ := obind_some.1 h4
  obtain ⟨h7, h8⟩ := bcase_none h6
  cases h8
  simp only [Bool.and_eq_true, blt_eq, decide_eq_true_eq] at h7
  obtain ⟨k, rfl⟩ := toIdx_some h3
  have es := (hρ s _ h1).toInt
  unfold chanT at h5
  split at h5
  · rename_i d e ht
    have hnb := ofNat_bounds n
    refine ⟨0, .chan (some w.heap.size), .chan n #[] false 0 0 false, ?_, .chan n 0 0 .nil, .chan (Ren.set_same _ _)⟩
    have hti : (typeInfo e).run P w = .ok i w := by simp [typeInfo, h5]
    have hmul : i.bytes * n ≤ 100000 * 100000 := Nat.mul_le_mul (by omega) (by omega)
    have hc : ¬ ((Int.ofNat n) < 0 ∨ (Int.ofNat n) > IntKind.i64.max ∨ (i.bytes : Int) * (Int.ofNat n) > 2 ^ 48 - 112) := by
      rw [IntKind.max_i64, hnb.2]
      have : (i.bytes : Int) * (n : Int) = ((i.bytes * n : Nat) : Int) := by simp
      rw [this]
      omega
    simp only [execOp, ho, Instr.makeChan, es, Sem.run_bind, asInt, asIntOf, run_underlying ht, hti, Sem.run_ite, if_neg hc, run_newObj, Sem.run_pure, Result.andThen_ok]
    rfl
  · cases h5
theorem ok_makeSlice (t : TypeId) (l c : Operand) : FsOk (sMakeSlice t l c) (.makeSlice t l c) := by
  intro P β q w tm ρ x o ho hρ hv hn
  obtain ⟨e, h1, h2⟩ := obind_some.1 hv
  obtain ⟨lv, h3, h4⟩ := obind_some.1 h2
  obtain ⟨ln, h5, h6⟩ := obind_some.1 h4
  obtain ⟨cv, h7, h8⟩ := obind_some.1 h6
  obtain ⟨cn, h9, h10⟩ := obind_some.1 h8
  obtain ⟨i, h11, h12⟩ := obind_some.1 h10
  obtain ⟨z, h13, h14⟩ := obind_some.1 h12
  unfold msA at h14
  obtain ⟨h15, h16⟩ := bcase_none h14
  cases h16
  simp only [Bool.and_eq_true, ble_eq, blt_eq, beq_eq, decide_eq_true_eq] at h15
  obtain ⟨hlc, hc, hb, hs, hzl⟩ := h15
  have ht := elemT_some h1
  obtain ⟨k1, rfl⟩ := toIdx_some h5
  obtain ⟨k2, rfl⟩ := toIdx_some h9
  have el := (hρ l _ h3).toInt
  have ec := (hρ c _ h7).toInt
  have hb1 := ofNat_bounds ln
  have hb2 := ofNat_bounds cn
  have hti : (typeInfo e).run P w = .ok i w := by simp [typeInfo, h11]
  have hsz : (sizeOf e).run P w = .ok i.size w := by simp [sizeOf, hti]
  obtain ⟨z', ez, hz, hzf⟩ := zeroC_VRs (β := β) h13 w
  have hzs : z'.cells.size = i.size := by have := hz.length; simp at this; omega
  have hrep : VRs β (repL z cn) (((Array.range (cn * i.size)).map fun j => z'.cells[j % z'.cells.size]!).toList) := by
    have := VRs.replicateL hz cn
    rw [← map_range_mod z'.cells i.size hzs hs cn] at this
    simpa [hzs] using this
  have hrepf : ∀ m, (repL z m).all flat = true := by
    intro m
    induction m with
    | zero => rfl
    | succ m ih => exact all_append hzf ih
  have wl : IntKind.i64.wrap (Int.ofNat ln) = Int.ofNat ln := IntWalk.i64_in _ ⟨by omega, by omega⟩
  have wc : IntKind.i64.wrap (Int.ofNat cn) = Int.ofNat cn := IntWalk.i64_in _ ⟨by omega, by omega⟩
  have hmul : i.bytes * cn ≤ 100000 * 100000 := Nat.mul_le_mul (by omega) (by omega)
  have hmulI : (i.bytes : Int) * (Int.ofNat cn) ≤ 10000000000 := by
    rw [hb2.2]
    have : (i.bytes : Int) * (cn : Int) = ((i.bytes * cn : Nat) : Int) := by simp
    rw [this]
    omega
  generalize hcells : ((Array.range (cn * i.size)).map fun j => z'.cells[j % z'.cells.size]!) = cells at hrep
  have hle := Ren.le_set (β := β) (x := (w.heap.size, cells.toList.length)) hn
  refine ⟨cells.toList.length, .slice (some ⟨w.heap.size, 0, none⟩) ln cn, .cells cells e (0, 0), ?_, or_cells (hrep.mono hle) (hrepf cn), .sliceK (Ren.set_same _ _)⟩
  have htl : (decide (Int.ofNat cn < 0) || decide ((i.bytes : Int) * Int.ofNat cn > 2 ^ 48)) = false := by
    simp only [Bool.or_eq_false_iff, decide_eq_false_iff_not]
    omega
  simp only [execOp, ho, Instr.makeSlice, el, ec, Sem.run_bind, run_underlying ht, asInt, asIntOf, hti, Sem.run_pure, Result.andThen_ok, wl, wc, htl]
  have hcond : ¬ (((false || decide (Int.ofNat ln < 0)) || decide (Int.ofNat ln > Int.ofNat cn)) = true) := by
    simp only [Bool.or_eq_true, decide_eq_true_eq, Bool.false_eq_true, false_or]
    omega
  rw [if_neg hcond]
  simp only [Sem.run_bind, Result.andThen_ok, run_askRoom, hsz]
  rw [show (Int.ofNat cn).toNat = cn from rfl, show (Int.ofNat ln).toNat = ln from rfl]
  by_cases h0 : cn * i.size = 0
  · rw [if_pos h0]
    rw [h0] at hcells ⊢
    subst hcells
    have e0 : ∀ f : Nat → Value, (Array.range 0).map f = #[] := by intro f; simp
    simp only [Sem.run_bind, newRow, run_newObj, Sem.run_pure, Result.andThen_ok, e0]
    rfl
  · rw [if_neg h0]
    simp only [Sem.run_bind, ez, newRow, run_newObj, Sem.run_pure, Result.andThen_ok, hcells]
    rfl
end Go.Am

/- Operations that write memory: stores, append, copy, clear, maps. -/
namespace Go.Am
variable {β : Ren} {P : Program} {h : Heap} {w : World}

/-! ## Worlds that differ in the count of draws alone; blocks that are not looked at again -/
theorem Rel.drew (hr : Rel β h w) : Rel β h w.drew := ⟨hr.obj, hr.inj, hr.fresh, hr.inW⟩
theorem Ext.drew (β : Ren) (h : Heap) (w : World) : Ext β h w β h w.drew := ⟨Ren.le_refl β, Nat.le_refl _, Nat.le_refl _, fun _ _ _ e => .inl e, fun _ _ => ⟨id, id⟩, fun _ _ _ => rfl, ⟨rfl, rfl, rfl⟩⟩
theorem Rel.kill (hr : Rel β h w) {p : Pos} {o : AObj} (hp : PTree.get p h.t = some o) : Rel β ⟨PTree.set .dead p h.t, h.next⟩ w ∧ Ext β h w β ⟨PTree.set .dead p h.t, h.next⟩ w := by
  have hdead : ∀ q, PTree.get q h.t = some .dead → PTree.get q (PTree.set .dead p h.t) = some .dead := by
    intro q hq
    rw [PTree.get_set]
    split
    · rfl
    · exact hq
  refine ⟨⟨?_, ?_, ?_, hr.inW⟩, ⟨Ren.le_refl β, Nat.le_refl _, Nat.le_refl _, fun _ _ _ e => .inl e, ?_, fun _ _ _ => rfl, ⟨rfl, rfl, rfl⟩⟩⟩
  · intro q oq r n hq hb
    by_cases e : q = p
    · subst e
      rw [PTree.get_set_same] at hq; cases hq
      obtain ⟨o', h1, _⟩ := hr.obj q o r n hp hb
      exact ⟨o', h1, .dead _⟩
    · rw [PTree.get_set_other _ _ e] at hq; exact hr.obj q oq r n hq hb
  · intro a b r n m ha hb
    rcases hr.inj a b r n m ha hb with h1 | h1 | h1
    · exact .inl h1
    · exact .inr (.inl (hdead _ h1))
    · exact .inr (.inr (hdead _ h1))
  · intro q oq hq
    by_cases e : q = p
    · subst e; exact hr.fresh q o hp
    · rw [PTree.get_set_other _ _ e] at hq; exact hr.fresh q oq hq
  · intro q _
    refine ⟨fun hq => ?_, hdead q⟩
    have e : q ≠ p := by intro e; subst e; rw [hp] at hq; cases hq
    show PTree.get q (PTree.set .dead p h.t) = none
    rw [PTree.get_set_other _ _ e]; exact hq
/-- A block goes on under a new name. -/
theorem Rel.move (hr : Rel β h w) {p : Pos} {o o₁ : AObj} {r n : Nat} {o' : Obj} (hp : PTree.get p h.t = some o) (hd : o ≠ .dead) (hb : β p = some (r, n)) (hn : β h.next = none)
    (ho : OR (β.set h.next (r, n)) n o₁ o') :
    Rel (β.set h.next (r, n)) ⟨PTree.set o₁ h.next (PTree.set .dead p h.t), h.next.succ⟩ (setBlock w r o') ∧
    Ext β h w (β.set h.next (r, n)) ⟨PTree.set o₁ h.next (PTree.set .dead p h.t), h.next.succ⟩ (setBlock w r o') := by
  have hle := Ren.le_set (β := β) (x := (r, n)) hn
  have hlt := hr.inW p r n hb
  have hpn : p ≠ h.next := pos_ne_of_lt (hr.fresh p o hp)
  have hold : ∀ q x, (β.set h.next (r, n)) q = some x → q ≠ h.next → β q = some x := by
    intro q x hq e
    unfold Ren.set at hq
    rwa [if_neg e] at hq
  have hget : ∀ q, q ≠ h.next → q ≠ p → PTree.get q (PTree.set o₁ h.next (PTree.set .dead p h.t)) = PTree.get q h.t := by
    intro q h1 h2
    rw [PTree.get_set_other _ _ h1, PTree.get_set_other _ _ h2]
  have hgp : PTree.get p (PTree.set o₁ h.next (PTree.set .dead p h.t)) = some .dead := by
    rw [PTree.get_set_other _ _ hpn, PTree.get_set_same]
  have hdead : ∀ q, q ≠ h.next → PTree.get q h.t = some .dead → PTree.get q (PTree.set o₁ h.next (PTree.set .dead p h.t)) = some .dead := by
    intro q h1 hq
    by_cases e : q = p
    · subst e; exact hgp
    · rw [hget q h1 e]; exact hq
  -- whatever else lies there is dead
  have others : ∀ q m, q ≠ h.next → β q = some (r, m) → PTree.get q (PTree.set o₁ h.next (PTree.set .dead p h.t)) = some .dead := by
    intro q m h1 hq
    rcases hr.inj q p r m n hq hb with h2 | h2 | h2
    · subst h2; exact hgp
    · exact hdead q h1 h2
    · rw [hp] at h2; exact absurd (Option.some.inj h2) hd
  refine ⟨⟨?_, ?_, ?_, ?_⟩, ⟨hle, by rw [Pos.toNat_succ]; omega, by rw [setBlock_size]; exact Nat.le_refl _, ?_, ?_, ?_, ⟨rfl, rfl, rfl⟩⟩⟩
  · intro q oq rq nq hq hbq
    by_cases e : q = h.next
    · subst e
      rw [Ren.set_same] at hbq; cases hbq
      rw [PTree.get_set_same] at hq; cases hq
      exact ⟨o', setBlock_same hlt o', ho⟩
    · have hbq' := hold q _ hbq e
      by_cases er : rq = r
      · subst er
        have := others q nq e hbq'
        rw [this] at hq; cases hq
        exact ⟨o', setBlock_same hlt o', .dead _⟩
      · by_cases ep : q = p
        · subst ep; rw [hb] at hbq'; cases hbq'; exact absurd rfl er
        · rw [hget q e ep] at hq
          obtain ⟨ox, h1, h2⟩ := hr.obj q oq rq nq hq hbq'
          exact ⟨ox, by rw [setBlock_other er]; exact h1, h2.mono hle⟩
  · intro a b s m k ha hbb
    by_cases ea : a = h.next
    · by_cases eb : b = h.next
      · exact .inl (ea.trans eb.symm)
      · have hb' := hold b _ hbb eb
        rw [ea, Ren.set_same] at ha; cases ha
        exact .inr (.inr (others b k eb hb'))
    · have ha' := hold a _ ha ea
      by_cases eb : b = h.next
      · rw [eb, Ren.set_same] at hbb; cases hbb
        exact .inr (.inl (others a m ea ha'))
      · rcases hr.inj a b s m k ha' (hold b _ hbb eb) with h1 | h1 | h1
        · exact .inl h1
        · exact .inr (.inl (hdead a ea h1))
        · exact .inr (.inr (hdead b eb h1))
  · intro q oq hq
    show q.toNat < h.next.succ.toNat
    rw [Pos.toNat_succ]
    by_cases e : q = h.next
    · subst e; omega
    · by_cases ep : q = p
      · subst ep; have := hr.fresh q o hp; omega
      · rw [hget q e ep] at hq; have := hr.fresh q oq hq; omega
  · intro q s m hq
    rw [setBlock_size]
    by_cases e : q = h.next
    · subst e; rw [Ren.set_same] at hq; cases hq; exact hlt
    · exact hr.inW q s m (hold q _ hq e)
  · intro q s m hq
    by_cases e : q = h.next
    · subst e; rw [Ren.set_same] at hq; cases hq
      exact .inr ⟨Nat.le_refl _, by show _ < h.next.succ.toNat; rw [Pos.toNat_succ]; omega, .inr ⟨p, n, ⟨o, hp, hd⟩, hb⟩⟩
    · exact .inl (hold q _ hq e)
  · intro q hq
    have e : q ≠ h.next := pos_ne_of_lt hq
    refine ⟨fun hh => ?_, hdead q e⟩
    have ep : q ≠ p := by intro ep; subst ep; rw [hp] at hh; cases hh
    exact (hget q e ep).trans hh
  · intro s _ hs
    have : s ≠ r := by intro e; subst e; exact hs p n hb ⟨o, hp, hd⟩
    exact setBlock_other this o'

/-- What an operation that writes comes to. -/
def HvOk (f : Hv) (op : Op) : Prop := ∀ (P : Program) (ih : Ex) (rnd : Option Pos) (β : Ren) (h : Heap) (w : World) (tm : Tm) (ρ : Operand → Value) (x : AV × Heap) (o : Oper), o.op = op → Rel β h w → OpR β tm ρ →
  f P ih rnd h tm = some x → Dom β h x.2 → ∃ v' w' β', ((execOp ρ o).run P w = .ok (.value v') w' ∨ ((execOp ρ o).run P w = .ok .skip w' ∧ v' = undef)) ∧
    Rel β' x.2 w' ∧ Ext β h w β' x.2 w' ∧ VR β' x.1 v'
theorem undef_VR (β : Ren) : VR β undefA undef := .tuple (l' := []) .nil

/-! ## Stores -/
/-- Cells are laid over what a block holds. -/
theorem put_sim (hr : Rel β h w) {p : Pos} {o r m : Nat} {c c2 vs : List AV} {vs' : List Value} (hc : h.cellsAt p = some c) (hb : β p = some (r, m)) (hvs : VRs β vs vs') (hf : vs.all flat = true)
    (hp : put vs o c = some c2) : ∃ w', (storeCells ⟨r, o, none⟩ vs').run P w = .ok () w' ∧ Rel β ⟨PTree.set (.cells c2) p h.t, h.next⟩ w' ∧ Ext β h w β ⟨PTree.set (.cells c2) p h.t, h.next⟩ w' := by
  obtain ⟨c', e, hblk, hl, hn, hcs, hcf⟩ := hr.cells hc hb
  obtain ⟨hp1, hp2⟩ := put_some hp
  have hlen := hvs.length
  have hle : o + vs'.length ≤ c'.size := by omega
  refine ⟨setBlock w r (.cells (laid c' o vs') e (0, 0)), run_storeCells_block hblk hle (hvs.oneCell hf), ?_⟩
  have ho : OR β m (.cells c2) (.cells (laid c' o vs') e (0, 0)) := by
    have hc2 : c2.length = c.length := by rw [hp2]; simp; omega
    refine .cells (by omega) (by rw [laid_size _ _ _ hle]; exact hn) ?_ (put_flat hf hcf hp)
    rw [hp2]
    unfold laid
    have e1 : (c.take o ++ vs ++ c.drop (o + vs.length)).length = c.length := by simp; omega
    rw [e1, ← hlen]
    have e2 : (c'.toList.take o ++ vs' ++ c'.toList.drop (o + vs.length)).take c.length =
        (c'.toList.take c.length).take o ++ vs' ++ (c'.toList.take c.length).drop (o + vs.length) := by
      have l1 : (c'.toList.take o).length = o := by simp; omega
      have l2 : vs'.length = vs.length := hlen.symm
      have l3 : (c'.toList.take o).take c.length = c'.toList.take o := List.take_of_length_le (by rw [l1]; omega)
      have l4 : vs'.take (c.length - o) = vs' := List.take_of_length_le (by rw [l2]; omega)
      rw [List.take_append, List.take_append, List.length_append, l1, l2, l3, l4, List.take_take, Nat.min_eq_left (by omega : o ≤ c.length), List.drop_take]
    rw [show (c'.toList.take o ++ vs' ++ c'.toList.drop (o + vs.length)).toArray.toList = c'.toList.take o ++ vs' ++ c'.toList.drop (o + vs.length) from rfl, e2]
    exact ((hcs.take o).append hvs).append (hcs.drop (o + vs.length))
  exact hr.turn (Heap.cellsAt_some hc) (by intro hh; cases hh) hb ho
theorem storeA_sim (hr : Rel β h w) {t : TypeId} {a v : AV} {a' v' : Value} {x : AV × Heap} (ha : VR β a a') (hv : VR β v v') (hx : storeA P h t a v = some x) :
    ∃ w', (Instr.storeAt t a' v').run P w = .ok () w' ∧ Rel β x.2 w' ∧ Ext β h w β x.2 w' ∧ x.1 = undefA := by
  obtain ⟨⟨p, o⟩, h1, h2⟩ := obind_some.1 hx
  obtain ⟨n, h3, h4⟩ := obind_some.1 h2
  obtain ⟨vc, h5, h6⟩ := obind_some.1 h4
  obtain ⟨c, h7, h8⟩ := obind_some.1 h6
  dsimp only at h7 h8
  unfold storeC at h8
  obtain ⟨h9, h10⟩ := bcase_none h8
  obtain ⟨c2, h11, h12⟩ := obind_some.1 h10
  rw [forceL_eq, Heap.put_eq] at h12
  cases h12
  rw [beq_eq, decide_eq_true_eq] at h9
  rw [toPtr_some h1] at ha
  obtain ⟨r, m, hb, rfl⟩ := ha.toPtr
  obtain ⟨hvc, hvf⟩ := hv.cells h5
  obtain ⟨w', e, g1, g2⟩ := put_sim (P := P) hr h7 hb hvc hvf h11
  refine ⟨w', ?_, g1, g2, rfl⟩
  have hsz : v'.cells.size = n := by have : vc.length = n := h9; rw [← this, hvc.length]; simp
  simp only [Instr.storeAt, Instr.sureAddr, Sem.run_bind, Sem.run_pure, Result.andThen_ok, storeVar, run_siz h3]
  rw [if_neg (by simp [hsz])]
  exact e
theorem ok_store (t : TypeId) (a y : Operand) : HvOk (vStore t a y) (.store t a y) := by
  intro P ih rnd β h w tm ρ x o ho hr hρ hv hd
  obtain ⟨av, h1, h2⟩ := obind_some.1 hv
  obtain ⟨yv, h3, h4⟩ := obind_some.1 h2
  obtain ⟨w', e, g1, g2, g3⟩ := storeA_sim hr (hρ a av h1) (hρ y yv h3) h4
  exact ⟨undef, w', β, .inr ⟨by simp [execOp, ho, e], rfl⟩, g1, g2, by rw [g3]; exact undef_VR β⟩

/-! ## What stands in a slice or a string -/
theorem srcA_sim (hr : Rel β h w) {sz n : Nat} {y : AV} {y' : Value} {new : List AV} (hy : VR β y y') (hle : ∀ l, lenOfA y = some l → n ≤ l) (hs : srcA h sz n y = some new) :
    ∃ new', (Builtin.firstCells sz n y').run P w = .ok (Array.mk new') w ∧ VRs β new new' ∧ new.all flat = true ∧ new.length = n * sz := by
  unfold srcA at hs
  split at hs
  · obtain ⟨h1, h2⟩ := bcase_none hs
    rw [beq_eq, decide_eq_true_eq] at h1
    cases h2; subst h1
    cases hy
    exact ⟨[], rfl, .nil, rfl, by simp⟩
  · rename_i p o l c u
    split at hs
    · rename_i cs hcs
      obtain ⟨h1, h2⟩ := sub_some hs
      have key : ∀ r m, β p = some (r, m) → ∃ new', (_root_.Go.loadCells ⟨r, o, none⟩ (n * sz)).run P w = .ok (Array.mk new') w ∧ VRs β new new' ∧ new.all flat = true ∧ new.length = n * sz := by
        intro r m hb
        obtain ⟨c', e, hblk, hl, hn, hrel, hf⟩ := hr.cells hcs hb
        subst h1
        have hlen : ((cs.drop o).take (n * sz)).length = n * sz := by simp; omega
        refine ⟨(c'.toList.drop o).take (n * sz), ?_, ?_, all_take (all_drop hf o) _, hlen⟩
        · by_cases h0 : n * sz = 0
          · rw [h0]; simp [_root_.Go.loadCells, loadCellsFrom]
          · exact run_loadCells_block hblk (by omega)
        · have h13 := (hrel.drop o).take (n * sz)
          rw [List.drop_take, List.take_take, Nat.min_eq_left h2] at h13
          exact h13
      cases hy with
      | sliceK hb => obtain ⟨new', e, g⟩ := key _ _ hb; exact ⟨new', by simpa [Builtin.firstCells] using e, g⟩
      | sliceU hb _ _ _ => obtain ⟨new', e, g⟩ := key _ _ hb; exact ⟨new', by simpa [Builtin.firstCells] using e, g⟩
      | sliceE =>
        have h0 : n = 0 := by have := hle 0 rfl; omega
        subst h0
        have : new = [] := by rw [h1]; simp
        subst this
        exact ⟨[], by simp [Builtin.firstCells, _root_.Go.loadCells, loadCellsFrom], .nil, rfl, by simp⟩
    · cases hs
  · rename_i s
    obtain ⟨h1, h2⟩ := bcase_none hs
    simp only [Bool.and_eq_true, beq_eq, ble_eq, decide_eq_true_eq] at h1
    obtain ⟨rfl, h1⟩ := h1
    cases h2
    obtain rfl := hy.toStr
    refine ⟨(s.data.toList.take n).map fun b => .int .u8 b.toNat, ?_, ?_, ?_, ?_⟩
    · simp only [Builtin.firstCells, Sem.run_pure]
      congr 1
      apply Array.ext'
      simp [ByteArray.data_extract]
    · generalize s.data.toList.take n = l
      induction l with
      | nil => exact .nil
      | cons b l ih => exact .cons (.int _ _) ih
    · rw [List.all_map]; exact List.all_eq_true.2 fun _ _ => rfl
    · have : s.data.toList.length = s.size := by simp
      simp; omega
  · cases hs

/-! ## append -/
theorem growBy_le (n : Nat) : ∀ (k c : Nat), Builtin.growBy n k c + 768 ≤ 2 ^ k * (c + 768)
  | 0, c => by simp [Builtin.growBy]
  | k + 1, c => by
    unfold Builtin.growBy
    split
    · have : 1 ≤ 2 ^ (k + 1) := Nat.one_le_two_pow
      exact Nat.le_mul_of_pos_left _ this
    · refine Nat.le_trans (growBy_le n k _) ?_
      rw [Nat.pow_succ, Nat.mul_assoc]
      refine Nat.mul_le_mul_left _ ?_
      omega
theorem nextslicecap_le (n c : Nat) (h : c < n) : Builtin.nextslicecap n c ≤ 16 * n + 16 * 768 := by
  unfold Builtin.nextslicecap
  split
  · omega
  · split
    · omega
    · have := growBy_le n 4 c
      have : (2 : Nat) ^ 4 = 16 := by decide
      omega
theorem zeroCells_size (z : Array Value) (n : Nat) : (Builtin.zeroCells z n).size = n * z.size := by simp [Builtin.zeroCells]

section append
variable {ts : Array TypeId} {ty e st : TypeId} {i : TypeInfo} {d1 : TypeDesc} {base : Option Addr} {len cap n : Nat} {y' : Value} {z' : Value}
/-- The head of append: types, lengths. -/
structure AppH (P : Program) (w : World) (ts : Array TypeId) (e st : TypeId) (i : TypeInfo) (d1 : TypeDesc) (y' z' : Value) (n : Nat) : Prop where
  t0 : ∃ t, ts[0]? = some t ∧ P.underlying t = some (.slice e)
  t1 : ts[1]? = some st
  u1 : P.underlying st = some d1
  sl : (∃ e', d1 = .slice e') ∨ d1 = .string
  inf : P.info? e = some i
  len : (Builtin.lenOf y').run P w = .ok n w
  zero : ∀ w, (zeroValue e).run P w = .ok z' w
theorem append_fits (H : AppH P w ts e st i d1 y' z' n) (hle : len + n ≤ cap) {new : Array Value} {w1 w2 : World} (hnew : (Builtin.firstCells i.size n y').run P w = .ok new w1)
    (hst : (match base with | some a => storeCells (a.add (len * i.size)) new.toList | none => pure () : Sem Unit).run P w1 = .ok () w2) :
    (Builtin.append_ ts ty #[.slice base len cap, y']).run P w = .ok (.slice base (len + n) cap) w2 := by
  obtain ⟨t, h0, ht⟩ := H.t0
  have hsz : (sizeOf e).run P w = .ok i.size w := by simp [sizeOf, typeInfo, H.inf]
  have hu := run_underlying H.u1 w
  have hl := H.len
  have h1 := H.t1
  have hs := H.sl
  clear H
  unfold Builtin.append_
  rcases hs with ⟨e', rfl⟩ | rfl
  all_goals
    cases base with
    | none => simp at hst; simp [h0, h1, run_underlying ht, hu, hsz, hl, hle, hnew, hst]
    | some a => simp [h0, h1, run_underlying ht, hu, hsz, hl, hle, hnew, hst]
theorem append_grows (H : AppH P w ts e st i d1 y' z' n) (hgt : cap < len + n) (hsmall : len + n < 100000) (hb : i.bytes < 100000) {old new : Array Value}
    (hold : ∀ w', w'.heap = w.heap → (Builtin.firstCells i.size len (.slice base len cap)).run P w' = .ok old w') (hnew : ∀ w', w'.heap = w.heap → (Builtin.firstCells i.size n y').run P w' = .ok new w') :
    ∃ c', len + n ≤ c' ∧ (Builtin.append_ ts ty #[.slice base len cap, y']).run P w =
      .ok (.slice (some ⟨w.heap.size, 0, none⟩) (len + n) c') (w.drew.alloc (.cells (old ++ new ++ Builtin.zeroCells z'.cells (c' - (len + n))) e (0, 0))) := by
  obtain ⟨t, h0, ht⟩ := H.t0
  have hsz : (sizeOf e).run P w = .ok i.size w := by simp [sizeOf, typeInfo, H.inf]
  have hti : ∀ w, (typeInfo e).run P w = .ok i w := by intro w; simp [typeInfo, H.inf]
  have hnle : ¬ (len + n ≤ cap) := by omega
  have hmax : ¬ ((len + n : Int) > 9223372036854775807) := by omega
  have hcap : ¬ (Builtin.nextslicecap (len + n) cap * i.bytes > 2 ^ 48) := by
    have h1 := nextslicecap_le (len + n) cap hgt
    have h2 : Builtin.nextslicecap (len + n) cap * i.bytes ≤ 2000000 * 100000 := Nat.mul_le_mul (by omega) (by omega)
    omega
  refine ⟨(Question.appendCap (len + n) cap e).cut (w.tape w.drawn (.appendCap (len + n) cap e)), by simp [Question.cut], ?_⟩
  have h1 := hold w.drew rfl
  have h2 := hnew w.drew rfl
  have hu := run_underlying H.u1 w
  have hl := H.len
  have h3 := H.t1
  have hs := H.sl
  have hz := H.zero
  clear H hold hnew
  unfold Builtin.append_
  rcases hs with ⟨e', rfl⟩ | rfl
  all_goals
    simp [h0, h3, run_underlying ht, hu, hsz, hl, hnle, hti, hmax, hcap, Question.forced, h1, h2, hz, newRow]
/-- The head of append(s, make(..)...). -/
structure AppZ (P : Program) (w : World) (ts : Array TypeId) (e st : TypeId) (i : TypeInfo) (k : IntKind) (z' : Value) : Prop where
  t0 : ∃ t, ts[0]? = some t ∧ P.underlying t = some (.slice e)
  t1 : ts[1]? = some st
  u1 : P.underlying st = some (.int k)
  inf : P.info? e = some i
  one : i.size = 1
  zero : ∀ w, (zeroValue e).run P w = .ok z' w
theorem wrap_small {n : Nat} (h : n < 100000) : IntKind.i64.wrap (n : Int) = n := by
  have h1 : inK .i64 (.ofNat n) = true := by simp only [inK, blt_eq, decide_eq_true_eq]; omega
  have h2 := wrapA_eq .i64 (n : Int)
  unfold wrapA at h2
  rw [show inK .i64 ((n : Nat) : Int) = true from h1] at h2
  exact h2.symm
theorem appendZ_fits {k : IntKind} (H : AppZ P w ts e st i k z') {kd : IntKind} (hn : 0 < n) (hs : n < 100000) (hb : i.bytes < 100000) (hle : len + n ≤ cap) {w2 : World}
    (hst : (match base with | some a => storeCells (a.add (len * i.size)) (Builtin.zeroCells z'.cells n).toList | none => pure () : Sem Unit).run P w = .ok () w2) :
    (Builtin.append_ ts ty #[.slice base len cap, .int kd (n : Int)]).run P w = .ok (.slice base (len + n) cap) w2 := by
  obtain ⟨t, h0, ht⟩ := H.t0
  have hsz : (sizeOf e).run P w = .ok i.size w := by simp [sizeOf, typeInfo, H.inf]
  have hti : ∀ w, (typeInfo e).run P w = .ok i w := by intro w; simp [typeInfo, H.inf]
  have hu := run_underlying H.u1 w
  have h1 := H.t1
  have hone := H.one
  have hz := H.zero
  have hw := wrap_small (n := n) (by omega)
  have hneg : ¬ ((n : Int) < 0) := by omega
  have hbig : ¬ (281474976710656 < (n : Int) * (i.bytes : Int)) := by
    have h2 : n * i.bytes ≤ 100000 * 100000 := Nat.mul_le_mul (by omega) (by omega)
    have : ((n * i.bytes : Nat) : Int) ≤ 10000000000 := by omega
    rw [← Int.natCast_mul]; omega
  have hn0 : ¬ n = 0 := by omega
  rw [hone] at hst
  clear H
  unfold Builtin.append_
  cases base with
  | none => simp at hst; subst hst; simp [h0, h1, run_underlying ht, hu, hsz, hti, asInt, asIntOf, hw, hneg, hbig, hle, hone, hz]
  | some a => simp at hst; simp [h0, h1, run_underlying ht, hu, hsz, hti, asInt, asIntOf, hw, hneg, hbig, hle, hone, hn0, hz, hst]
theorem appendZ_grows {k : IntKind} (H : AppZ P w ts e st i k z') {kd : IntKind} (hn : 0 < n) (hgt : cap < len + n) (hsmall : len + n < 100000) (hb : i.bytes < 100000) {old : Array Value}
    (hold : ∀ w', w'.heap = w.heap → (Builtin.firstCells i.size len (.slice base len cap)).run P w' = .ok old w') :
    ∃ c', len + n ≤ c' ∧ (Builtin.append_ ts ty #[.slice base len cap, .int kd (n : Int)]).run P w =
      .ok (.slice (some ⟨w.heap.size, 0, none⟩) (len + n) c') (w.drew.alloc (.cells (old ++ Builtin.zeroCells z'.cells n ++ Builtin.zeroCells z'.cells (c' - (len + n))) e (0, 0))) := by
  obtain ⟨t, h0, ht⟩ := H.t0
  have hsz : (sizeOf e).run P w = .ok i.size w := by simp [sizeOf, typeInfo, H.inf]
  have hti : ∀ w, (typeInfo e).run P w = .ok i w := by intro w; simp [typeInfo, H.inf]
  have hnle : ¬ (len + n ≤ cap) := by omega
  have hmax : ¬ ((len + n : Int) > 9223372036854775807) := by omega
  have hcap : ¬ (Builtin.nextslicecap (len + n) cap * i.bytes > 2 ^ 48) := by
    have h1 := nextslicecap_le (len + n) cap hgt
    have h2 : Builtin.nextslicecap (len + n) cap * i.bytes ≤ 2000000 * 100000 := Nat.mul_le_mul (by omega) (by omega)
    omega
  refine ⟨(Question.appendCap (len + n) cap e).cut (w.tape w.drawn (.appendCap (len + n) cap e)), by simp [Question.cut], ?_⟩
  have h1 := hold w.drew rfl
  have hu := run_underlying H.u1 w
  have h3 := H.t1
  have hone := H.one
  have hz := H.zero
  have hw := wrap_small (n := n) (by omega)
  have hneg : ¬ ((n : Int) < 0) := by omega
  have hbig : ¬ (281474976710656 < (n : Int) * (i.bytes : Int)) := by
    have h2 : n * i.bytes ≤ 100000 * 100000 := Nat.mul_le_mul (by omega) (by omega)
    have : ((n * i.bytes : Nat) : Int) ≤ 10000000000 := by omega
    rw [← Int.natCast_mul]; omega
  have hn0 : ¬ n = 0 := by omega
  rw [hone] at h1
  clear H hold
  unfold Builtin.append_
  simp [h0, h3, run_underlying ht, hu, hsz, hnle, hti, asInt, asIntOf, hw, hneg, hbig, hmax, hcap, hone, hn0, Question.forced, h1, hz, newRow]
theorem zeroCells_one {z : Array Value} (h : z.size = 1) (n : Nat) : (Builtin.zeroCells z n).toList = List.replicate n z[0]! := by
  unfold Builtin.zeroCells
  rw [h, Nat.mul_one]
  apply List.ext_getElem
  · simp
  · intro i h1 h2
    simp [Nat.mod_one]
end append
end Go.Am

/- append, copy, clear and maps, as the model carries them out. -/
namespace Go.Am
variable {β : Ren} {P : Program} {h : Heap} {w : World}

theorem zeroC_all (β : Ren) {t : TypeId} {z : List AV} (h : zeroC P t = some z) : ∃ z', (∀ w, (zeroValue t).run P w = .ok z' w) ∧ VRs β z z'.cells.toList ∧ z.all flat = true := by
  obtain ⟨z', e, hz, hf⟩ := zeroC_VRs (β := β) (P := P) h default
  refine ⟨z', fun w => ?_, hz, hf⟩
  obtain ⟨z2, e2, _⟩ := zeroC_VRs (β := β) (P := P) h w
  unfold zeroC zeroA at h
  cases h1 : P.info? t with
  | none => rw [h1] at h; cases h
  | some i =>
    cases h2 : i.zero with
    | none => simp [h1, h2] at h
    | some v =>
      simp only [zeroValue, typeInfo, Sem.run_bind, run_program, Result.andThen_ok, h1, h2, Sem.run_pure] at e ⊢
      cases e; rfl
theorem lenOfA_sim {y : AV} {y' : Value} {n : Nat} (hy : VR β y y') (hl : lenOfA y = some n) (w : World) : (Builtin.lenOf y').run P w = .ok n w := by
  unfold lenOfA at hl
  split at hl
  · cases hl; obtain ⟨a', c', rfl, _⟩ := hy.slice; rfl
  · cases hl; obtain rfl := hy.toStr; rfl
  · cases hl
theorem srcT_some {t : TypeId} (h : srcT P t = true) : ∃ d, P.underlying t = some d ∧ ((∃ e', d = .slice e') ∨ d = .string) := by
  unfold srcT at h
  split at h
  · rename_i e ht; exact ⟨_, ht, .inl ⟨e, rfl⟩⟩
  · rename_i ht; exact ⟨_, ht, .inr rfl⟩
  · cases h
theorem head2_array {ts : Array TypeId} {t : TypeId} (h : ts.toList.tail.head? = some t) : ts[1]? = some t := by
  obtain ⟨l⟩ := ts
  match l with
  | [] => cases h
  | [x] => cases h
  | x :: y :: l => simpa using h
theorem firstCells_heap {sz n : Nat} {y' : Value} {new : List Value} {w w' : World} (hh : w'.heap = w.heap) (hf : (Builtin.firstCells sz n y').run P w = .ok (Array.mk new) w)
    (hs : ∀ a l c, y' = .slice (some a) l c → ∃ c' e f, w.heap[a.block]? = some (.cells c' e f) ∧ a.spot = none ∧ a.off + n * sz ≤ c'.size ∨ n * sz = 0) :
    (Builtin.firstCells sz n y').run P w' = .ok (Array.mk new) w' := by
  cases y' with
  | slice a l c =>
    cases a with
    | none => simp only [Builtin.firstCells, Sem.run_pure] at hf ⊢; cases hf; rfl
    | some a =>
      obtain ⟨c', e, f, hc⟩ := hs a l c rfl
      rcases hc with ⟨h1, h2, h3⟩ | h0
      · obtain ⟨r, o, sp⟩ := a
        simp only at h2; subst h2
        simp only [Builtin.firstCells] at hf ⊢
        rw [run_loadCells_block h1 h3] at hf
        rw [run_loadCells_block (w := w') (by rw [hh]; exact h1) h3]
        cases hf; rfl
      · simp only [Builtin.firstCells, h0] at hf ⊢
        simp [_root_.Go.loadCells, loadCellsFrom] at hf ⊢
        exact hf
  | string s =>
    simp only [Builtin.firstCells, Sem.run_pure] at hf ⊢
    injection hf with h1
    rw [h1]
  | _ => simp [Builtin.firstCells] at hf

/-- A slice that has grown into a new block. -/
theorem grow_sim (hr : Rel β h w) {c old new : List AV} {old' new' : List Value} {len n sz c' : Nat} {e : TypeId} {zc : Array Value} {x : AV × Heap} (hold : VRs β old old') (hnew : VRs β new new')
    (fo : old.all flat = true) (fn : new.all flat = true) (lo : old.length = len * sz) (ln : new.length = n * sz) (hc : c = old ++ new) (hle : len + n ≤ c') (hz : zc.size = (c' - (len + n)) * sz)
    (hx : grow h c (len + n) sz = some x) (hd : Dom β h x.2) :
    ∃ β', Rel β' x.2 (w.alloc (.cells (Array.mk old' ++ Array.mk new' ++ zc) e (0, 0))) ∧ Ext β h w β' x.2 (w.alloc (.cells (Array.mk old' ++ Array.mk new' ++ zc) e (0, 0))) ∧
      VR β' x.1 (.slice (some ⟨w.heap.size, 0, none⟩) (len + n) c') := by
  unfold grow at hx
  rw [forceL_eq, Heap.push_eq] at hx
  cases hx
  have hn : β h.next = none := hd.next (by show _ < h.next.succ.toNat; rw [Pos.toNat_succ]; omega)
  have l1 := hold.length
  have l2 := hnew.length
  have hsz : (Array.mk old' ++ Array.mk new' ++ zc).size = c' * sz := by
    have e0 : (Array.mk old' ++ Array.mk new' ++ zc).size = old'.length + new'.length + zc.size := by simp
    rw [e0, ← l1, ← l2, lo, ln, hz, ← Nat.add_mul, ← Nat.add_mul]
    congr 1; omega
  have hle' := Ren.le_set (β := β) (x := (w.heap.size, c' * sz)) hn
  have ho : OR (β.set h.next (w.heap.size, c' * sz)) (c' * sz) (.cells c) (.cells (Array.mk old' ++ Array.mk new' ++ zc) e (0, 0)) := by
    subst hc
    have hlen : (old ++ new).length = (len + n) * sz := by rw [List.length_append, lo, ln, Nat.add_mul]
    refine .cells (by rw [hlen]; exact Nat.mul_le_mul_right _ hle) hsz ?_ (all_append fo fn)
    have e1 : ((Array.mk old' ++ Array.mk new' ++ zc).toList.take (old ++ new).length) = old' ++ new' := by
      simp only [Array.toList_append]
      rw [List.take_append_of_le_length (by simp [l1, l2])]
      rw [List.take_of_length_le (by simp [l1, l2])]
    rw [e1]
    exact (hold.append hnew).mono hle'
  obtain ⟨g1, g2⟩ := hr.push hn ho
  exact ⟨_, g1, g2, .sliceU (Ren.set_same _ _) hle (by omega) (Nat.zero_le _)⟩

/-- What append comes to, once it is known what is appended. -/
structure AppG (P : Program) (w : World) (ts : Array TypeId) (ty e : TypeId) (i : TypeInfo) (y' z' : Value) (n : Nat) (new' : List Value) : Prop where
  fits : ∀ {base : Option Addr} {len cap : Nat} {w2 : World}, len + n ≤ cap → (match base with | some a => storeCells (a.add (len * i.size)) new' | none => pure () : Sem Unit).run P w = .ok () w2 →
    (Builtin.append_ ts ty #[.slice base len cap, y']).run P w = .ok (.slice base (len + n) cap) w2
  grows : ∀ {base : Option Addr} {len cap : Nat} {old : Array Value}, cap < len + n → len + n < 100000 →
    (∀ w', w'.heap = w.heap → (Builtin.firstCells i.size len (.slice base len cap)).run P w' = .ok old w') →
    ∃ c', len + n ≤ c' ∧ (Builtin.append_ ts ty #[.slice base len cap, y']).run P w =
      .ok (.slice (some ⟨w.heap.size, 0, none⟩) (len + n) c') (w.drew.alloc (.cells (old ++ Array.mk new' ++ Builtin.zeroCells z'.cells (c' - (len + n))) e (0, 0)))
theorem appN_sim (hr : Rel β h w) {ts : Array TypeId} {ty e : TypeId} {a : Option AAd} {len cap : Nat} {u : Option Nat} {x' y' z' : Value} {r : AV × Heap} {i : TypeInfo} {n : Nat} {new : List AV} {new' : List Value}
    (hx : VR β (.slice a len cap u) x') (hG : AppG P w ts ty e i y' z' n new') (hnew : VRs β new new') (hnf : new.all flat = true) (hnl : new.length = n * i.size) (hzs : z'.cells.size = i.size) (hn0 : ¬ n = 0)
    (hsm : len + n < 100000) (h18 : appN h a len cap u n i.size new = some r) (hd : Dom β h r.2) :
    ∃ v' w' β', (Builtin.append_ ts ty #[x', y']).run P w = .ok v' w' ∧ Rel β' r.2 w' ∧ Ext β h w β' r.2 w' ∧ VR β' r.1 v' := by
  unfold appN at h18
  split at h18
  · -- nil
    obtain ⟨h19, h20⟩ := bcase_none h18
    simp only [Bool.and_eq_true, beq_eq, decide_eq_true_eq] at h19
    obtain ⟨rfl, rfl⟩ := h19
    cases hx
    obtain ⟨c', hle, e2⟩ := hG.grows (base := none) (cap := 0) (len := 0) (by omega) (by omega) (old := #[]) (fun w' _ => rfl)
    obtain ⟨β', g1, g2, g3⟩ := grow_sim (w := w.drew) (e := e) (old := []) (old' := []) (zc := Builtin.zeroCells z'.cells (c' - (0 + n))) (c' := c') (len := 0) hr.drew .nil hnew rfl hnf (by simp) hnl rfl hle
      (by rw [zeroCells_size, hzs]) (by simpa using h20) hd
    exact ⟨_, _, β', e2, g1, (Ext.drew β h w).trans hd hr.drew g2, g3⟩
  · -- the capacity is known
    rename_i a
    obtain ⟨p, o⟩ := a
    unfold appK at h18
    obtain ⟨c, h19, h20⟩ := obind_some.1 h18
    dsimp only at h19 h20
    cases hx with
    | sliceK hb =>
      rename_i rb m
      rw [bcase_eq] at h20
      split at h20
      · rename_i hle
        rw [ble_eq, decide_eq_true_eq] at hle
        obtain ⟨c2, h21, h22⟩ := obind_some.1 h20
        rw [forceL_eq, Heap.put_eq] at h22
        cases h22
        obtain ⟨w', e3, g1, g2⟩ := put_sim (P := P) hr h19 hb hnew hnf h21
        refine ⟨.slice (some ⟨rb, o, none⟩) (len + n) cap, w', β, hG.fits hle ?_, g1, g2, .sliceK hb⟩
        simp only [addr_add]
        exact e3
      · rename_i hgt
        rw [ble_eq, decide_eq_true_eq] at hgt
        obtain ⟨old, h21, h22⟩ := obind_some.1 h20
        obtain ⟨hs1, hs2⟩ := sub_some h21
        obtain ⟨c', ec, hblk, hl, hn, hrel, hcf⟩ := hr.cells h19 hb
        have hs2' : len * i.size ≤ c.length - o := hs2
        have hold : ∀ w', w'.heap = w.heap → (Builtin.firstCells i.size len (.slice (some ⟨rb, o, none⟩) len cap)).run P w' = .ok (Array.mk ((c'.toList.drop o).take (len * i.size))) w' := by
          intro w' hh
          simp only [Builtin.firstCells]
          by_cases h0 : len * i.size = 0
          · rw [h0]; simp [_root_.Go.loadCells, loadCellsFrom]
          · exact run_loadCells_block (by rw [hh]; exact hblk) (by omega)
        obtain ⟨c'', hle, e2⟩ := hG.grows (base := some ⟨rb, o, none⟩) (cap := cap) (len := len) (by have : ¬ (len + n ≤ cap) := hgt; omega) hsm hold
        have hro : VRs β old ((c'.toList.drop o).take (len * i.size)) := by
          have h13 := (hrel.drop o).take (len * i.size)
          rw [List.drop_take, List.take_take, Nat.min_eq_left hs2'] at h13
          rw [hs1]; exact h13
        have hlo : old.length = len * i.size := by rw [hs1]; simp; show min (len * i.size) (c.length - o) = len * i.size; omega
        obtain ⟨β', g1, g2, g3⟩ := grow_sim (w := w.drew) (e := e) (zc := Builtin.zeroCells z'.cells (c'' - (len + n))) (c' := c'') hr.drew hro hnew (by rw [hs1]; exact all_take (all_drop hcf o) _) hnf hlo hnl rfl hle
          (by rw [zeroCells_size, hzs]) h22 hd
        exact ⟨_, _, β', e2, g1, (Ext.drew β h w).trans hd hr.drew g2, g3⟩
  · -- append chose the capacity
    rename_i a u
    obtain ⟨p, o⟩ := a
    rw [bcase_eq] at h18
    split at h18
    · -- there surely is room
      rename_i hle
      rw [ble_eq, decide_eq_true_eq] at hle
      have hle' : len + n ≤ cap := hle
      unfold appI at h18
      obtain ⟨c, h19, h20⟩ := obind_some.1 h18
      dsimp only at h19 h20
      cases hx with
      | sliceU hb hl hbn hcc =>
        rename_i rb m cap'
        obtain ⟨c2, h21, h22⟩ := obind_some.1 h20
        rw [forceL_eq, Heap.put_eq] at h22
        cases h22
        obtain ⟨w', e3, g1, g2⟩ := put_sim (P := P) hr h19 hb hnew hnf h21
        refine ⟨.slice (some ⟨rb, o, none⟩) (len + n) cap', w', β, hG.fits (by omega) ?_, g1, g2, .sliceU hb (by show len + n ≤ cap'; omega) hbn hcc⟩
        simp only [addr_add]
        exact e3
      | sliceE => omega
    · unfold appU at h18
      obtain ⟨c, h19, h20⟩ := obind_some.1 h18
      dsimp only at h19 h20
      obtain ⟨h21, h22⟩ := bcase_none h20
      simp only [Bool.and_eq_true, beq_eq, decide_eq_true_eq] at h21
      obtain ⟨rfl, rfl⟩ := h21
      obtain ⟨old, h23, h24⟩ := obind_some.1 h22
      rw [Heap.put_eq] at h24
      obtain ⟨hs1, hs2⟩ := sub_some h23
      have hs2' : len * i.size ≤ c.length := by simpa using hs2
      have hs1' : old = c.take (len * i.size) := by simpa using hs1
      obtain ⟨k1, k2⟩ := hr.kill (Heap.cellsAt_some h19)
      have hlo : old.length = len * i.size := by rw [hs1']; simp; omega
      cases hx with
      | sliceE a0 a' sz0 =>
        -- an emptied slice grows
        have hlen0 : old = [] := by rw [hs1']; simp
        obtain ⟨c'', hle, e2⟩ := hG.grows (base := some a') (cap := 0) (len := 0) (by omega) (by omega) (old := #[]) (fun w' _ => by simp [Builtin.firstCells, _root_.Go.loadCells, loadCellsFrom])
        have hd' : Dom β ⟨PTree.set .dead p h.t, h.next⟩ r.2 := hd
        obtain ⟨β', g1, g2, g3⟩ := grow_sim (w := w.drew) (e := e) (old := []) (old' := []) (zc := Builtin.zeroCells z'.cells (c'' - (0 + n))) (c' := c'') (len := 0) k1.drew .nil hnew rfl hnf (by simp) hnl (by rw [hlen0]) hle
          (by rw [zeroCells_size, hzs]) h24 hd'
        exact ⟨_, _, β', e2, g1, (k2.trans (by intro _ _ _; exact Nat.lt_or_ge _ _) k1 (Ext.drew β _ w)).trans hd k1.drew g2, g3⟩
      | sliceU hb hl hbn hcc =>
        rename_i rb m cap'
        obtain ⟨c', ec, hblk, hcl, hn, hrel, hcf⟩ := hr.cells h19 hb
        have hro : VRs β old (c'.toList.take (len * i.size)) := by
          have h13 := hrel.take (len * i.size)
          rw [List.take_take, Nat.min_eq_left hs2'] at h13
          rw [hs1']; exact h13
        have hof : old.all flat = true := by rw [hs1']; exact all_take hcf _
        by_cases hroom : len + n ≤ cap'
        · -- there was room
          have hgrow := h24
          unfold grow at hgrow
          rw [forceL_eq, Heap.push_eq] at hgrow
          cases hgrow
          have hnx : β h.next = none := hd.next (by show _ < h.next.succ.toNat; rw [Pos.toNat_succ]; omega)
          have hle1 : len * i.size + new'.length ≤ c'.size := by
            rw [← hnew.length, hnl, ← Nat.add_mul, hn]
            have := Nat.mul_le_mul_right i.size hroom
            omega
          have hle' := Ren.le_set (β := β) (x := (rb, m)) hnx
          have ho : OR (β.set h.next (rb, m)) m (.cells (old ++ new)) (.cells (laid c' (len * i.size) new') ec (0, 0)) := by
            have hl2 : (old ++ new).length = len * i.size + new'.length := by rw [List.length_append, hlo, hnew.length]
            refine .cells (by omega) (by rw [laid_size _ _ _ hle1]; exact hn) ?_ (all_append hof hnf)
            unfold laid
            rw [hl2]
            have e5 : (c'.toList.take (len * i.size) ++ new' ++ c'.toList.drop (len * i.size + new'.length)).toArray.toList.take (len * i.size + new'.length) = c'.toList.take (len * i.size) ++ new' := by
              have l1 : (c'.toList.take (len * i.size) ++ new').length = len * i.size + new'.length := by simp; omega
              show List.take _ (c'.toList.take (len * i.size) ++ new' ++ c'.toList.drop (len * i.size + new'.length)) = _
              rw [← l1]
              exact List.take_left
            rw [e5]
            exact (hro.append hnew).mono hle'
          obtain ⟨g1, g2⟩ := hr.move (Heap.cellsAt_some h19) (by intro hh; cases hh) hb hnx ho
          refine ⟨.slice (some ⟨rb, 0, none⟩) (len + n) cap', setBlock w rb (.cells (laid c' (len * i.size) new') ec (0, 0)), _, hG.fits hroom ?_, g1, g2, .sliceU (Ren.set_same _ _) hroom hbn (Nat.zero_le _)⟩
          simp only [addr_add, Nat.zero_add]
          exact run_storeCells_block hblk hle1 (hnew.oneCell hnf)
        · have hold : ∀ w', w'.heap = w.heap → (Builtin.firstCells i.size len (.slice (some ⟨rb, 0, none⟩) len cap')).run P w' = .ok (Array.mk (c'.toList.take (len * i.size))) w' := by
            intro w' hh
            simp only [Builtin.firstCells]
            by_cases h0 : len * i.size = 0
            · rw [h0]; simp [_root_.Go.loadCells, loadCellsFrom]
            · have := run_loadCells_block (P := P) (w := w') (r := rb) (o := 0) (n := len * i.size) (by rw [hh]; exact hblk) (by omega)
              simpa using this
          obtain ⟨c'', hle, e2⟩ := hG.grows (base := some ⟨rb, 0, none⟩) (cap := cap') (len := len) (by omega) hsm hold
          have hd' : Dom β ⟨PTree.set .dead p h.t, h.next⟩ r.2 := hd
          obtain ⟨β', g1, g2, g3⟩ := grow_sim (w := w.drew) (e := e) (zc := Builtin.zeroCells z'.cells (c'' - (len + n))) (c' := c'') k1.drew hro hnew hof hnf hlo hnl rfl hle (by rw [zeroCells_size, hzs]) h24 hd'
          exact ⟨_, _, β', e2, g1, (k2.trans (by intro _ _ _; exact Nat.lt_or_ge _ _) k1 (Ext.drew β _ w)).trans hd k1.drew g2, g3⟩
  · cases h18
theorem one_cell : ∀ {l : Array Value}, l.size = 1 → l.toList = [l[0]!]
  | ⟨[q]⟩, _ => rfl
  | ⟨[]⟩, h => by simp at h
  | ⟨_ :: _ :: _⟩, h => by simp at h
theorem all_repL {z : List AV} (h : z.all flat = true) : ∀ n, (repL z n).all flat = true
  | 0 => rfl
  | n + 1 => all_append h (all_repL h n)
theorem appendA_sim (hr : Rel β h w) {ts : Array TypeId} {ty : TypeId} {x y : AV} {x' y' : Value} {r : AV × Heap} (hx : VR β x x') (hy : VR β y y')
    (hv : appendA P h ts.toList x y = some r) (hd : Dom β h r.2) :
    ∃ v' w' β', (Builtin.append_ ts ty #[x', y']).run P w = .ok v' w' ∧ Rel β' r.2 w' ∧ Ext β h w β' r.2 w' ∧ VR β' r.1 v' := by
  obtain ⟨e, h1, h2⟩ := obind_some.1 hv
  obtain ⟨t, h1a, h1b⟩ := obind_some.1 h1
  obtain ⟨st, h3, h4⟩ := obind_some.1 h2
  rw [bcase_eq] at h4
  split at h4
  rotate_left
  · -- zeros
    obtain ⟨h5, h6⟩ := bcase_none h4
    obtain ⟨i, h7, h8⟩ := obind_some.1 h6
    obtain ⟨z, h9, h10⟩ := obind_some.1 h8
    obtain ⟨X, h11, h12⟩ := obind_some.1 h10
    obtain ⟨n, h13, h14⟩ := obind_some.1 h12
    unfold appendZ at h14
    obtain ⟨h15, h16⟩ := bcase_none h14
    simp only [Bool.and_eq_true, blt_eq, beq_eq, decide_eq_true_eq] at h15
    obtain ⟨hsm, hby, hone, hzl, hfit⟩ := h15
    obtain ⟨a, len, cap, u⟩ := X
    dsimp only at h16 hsm hfit
    have hsm : len + n < 100000 := hsm
    have hxx := toSlice_some h11
    dsimp only at hxx
    subst hxx
    obtain ⟨kk, hu1⟩ : ∃ k, P.underlying st = some (.int k) := by
      unfold intT at h5
      split at h5
      · rename_i k hk; exact ⟨k, hk⟩
      · cases h5
    obtain ⟨kd, rfl⟩ : ∃ kd, y' = .int kd (n : Int) := by
      unfold toIdx at h13
      split at h13
      · cases h13; exact ⟨_, hy.toInt⟩
      · cases h13
    obtain ⟨z', hz, hzr, hzf⟩ := zeroC_all β h9
    have hzs : z'.cells.size = i.size := by have := hzr.length; simp at this; omega
    have H : AppZ P w ts e st i kk z' := ⟨⟨t, head_array h1a, elemT_some h1b⟩, head2_array h3, hu1, h7, hone, hz⟩
    rw [bcase_eq] at h16
    split at h16
    · rename_i hn0
      rw [beq_eq, decide_eq_true_eq] at hn0
      subst hn0
      cases h16
      obtain ⟨a', c', rfl, hc1, _, hc2⟩ := hx.slice
      have hle : len + 0 ≤ c' := by
        cases u with
        | none => rw [hc1 rfl]; unfold fits at hfit; rw [ble_eq, decide_eq_true_eq] at hfit; omega
        | some u => have := hc2 (by simp); omega
      obtain ⟨t0, q0, qt⟩ := H.t0
      have hsz : (sizeOf e).run P w = .ok i.size w := by simp [sizeOf, typeInfo, H.inf]
      have hti : ∀ w, (typeInfo e).run P w = .ok i w := by intro w; simp [typeInfo, H.inf]
      have hu := run_underlying H.u1 w
      have q1 := H.t1
      have hw := wrap_small (n := 0) (by omega)
      have hle' : len ≤ c' := by omega
      refine ⟨.slice a' len c', w, β, ?_, hr, Ext.refl _ _ _, hx⟩
      simp only [Int.natCast_zero] at hw
      unfold Builtin.append_
      cases a' with
      | none => simp [q0, q1, run_underlying qt, hu, hsz, hti, asInt, asIntOf, hw, hle']
      | some a' => simp [q0, q1, run_underlying qt, hu, hsz, hti, asInt, asIntOf, hw, hle', storeCells]
    · rename_i hn0
      have hn0 : ¬ n = 0 := by simpa using hn0
      have hz1 : z'.cells.size = 1 := by omega
      have hzc := zeroCells_one hz1 n
      have hcells : VRs β (repL z n) (List.replicate n z'.cells[0]!) := by
        have hr1 := hzr.replicateL n
        have e1 : z'.cells.toList = [z'.cells[0]!] := one_cell hz1
        rw [e1] at hr1
        have e2 : (List.replicate n [z'.cells[0]!]).flatten = List.replicate n z'.cells[0]! := by simp
        rw [e2] at hr1; exact hr1
      have hfl : (repL z n).all flat = true := all_repL hzf n
      have hln : (repL z n).length = n * i.size := by
        have := hcells.length
        rw [this, hone]; simp
      have earr : Array.mk (List.replicate n z'.cells[0]!) = Builtin.zeroCells z'.cells n := by
        apply Array.ext'; exact hzc.symm
      refine appN_sim (e := e) hr hx ⟨fun hle hst => appendZ_fits H (by omega) (by omega) hby hle (by rw [hzc]; exact hst), fun hgt hs hold => ?_⟩ hcells hfl hln hzs hn0 hsm h16 hd
      obtain ⟨c', k1, k2⟩ := appendZ_grows (ty := ty) (kd := kd) H (by omega) hgt hs hby hold
      exact ⟨c', k1, by rw [k2, earr]⟩
  rename_i h5
  have h6 := h4
  obtain ⟨i, h7, h8⟩ := obind_some.1 h6
  obtain ⟨z, h9, h10⟩ := obind_some.1 h8
  obtain ⟨X, h11, h12⟩ := obind_some.1 h10
  obtain ⟨n, h13, h14⟩ := obind_some.1 h12
  unfold appendS at h14
  obtain ⟨h15, h16⟩ := bcase_none h14
  simp only [Bool.and_eq_true, blt_eq, beq_eq, decide_eq_true_eq] at h15
  obtain ⟨hsm, hby, hsz, hzl, hfit⟩ := h15
  obtain ⟨a, len, cap, u⟩ := X
  dsimp only at h16 hsm hfit
  have hxx := toSlice_some h11
  dsimp only at hxx
  subst hxx
  obtain ⟨d1, hu1, hsl⟩ := srcT_some h5
  obtain ⟨z', hz, hzr, hzf⟩ := zeroC_all β h9
  have hzs : z'.cells.size = i.size := by have := hzr.length; simp at this; omega
  have H : AppH P w ts e st i d1 y' z' n := ⟨⟨t, head_array h1a, elemT_some h1b⟩, head2_array h3, hu1, hsl, h7, lenOfA_sim hy h13 w, hz⟩
  rw [bcase_eq] at h16
  split at h16
  · -- nothing is appended
    rename_i hn0
    rw [beq_eq, decide_eq_true_eq] at hn0
    subst hn0
    cases h16
    obtain ⟨a', c', rfl, hc1, _, hc2⟩ := hx.slice
    have hle : len + 0 ≤ c' := by
      cases u with
      | none => rw [hc1 rfl]; unfold fits at hfit; rw [ble_eq, decide_eq_true_eq] at hfit; omega
      | some u => have := hc2 (by simp); omega
    have hnew : ∃ new, (Builtin.firstCells i.size 0 y').run P w = .ok (Array.mk new) w ∧ new = [] := by
      unfold lenOfA at h13
      split at h13
      · obtain ⟨a2, c2, rfl, _⟩ := hy.slice
        cases a2 with
        | none => exact ⟨[], rfl, rfl⟩
        | some a2 => exact ⟨[], by simp [Builtin.firstCells, _root_.Go.loadCells, loadCellsFrom], rfl⟩
      · obtain rfl := hy.toStr
        refine ⟨[], ?_, rfl⟩
        simp only [Builtin.firstCells, Sem.run_pure]
        congr 1
        apply Array.ext'
        simp
      · cases h13
    obtain ⟨new, e1, rfl⟩ := hnew
    refine ⟨.slice a' (len + 0) c', w, β, append_fits H hle e1 ?_, hr, Ext.refl _ _ _, by simpa using hx⟩
    cases a' <;> rfl
  · rename_i hn0
    rw [beq_eq, decide_eq_true_eq] at hn0
    obtain ⟨new, h17, h18⟩ := obind_some.1 h16
    obtain ⟨new', e1, hnew, hnf, hnl⟩ := srcA_sim (P := P) hr hy (by intro l hl; rw [h13] at hl; cases hl; exact Nat.le_refl _) h17
    -- the source, in any world with this memory
    have hsrc : ∀ w', w'.heap = w.heap → (Builtin.firstCells i.size n y').run P w' = .ok (Array.mk new') w' := by
      intro w' hh
      refine firstCells_heap hh e1 ?_
      intro a2 l2 c2 hy2
      subst hy2
      unfold srcA at h17
      cases hy with
      | sliceK hb =>
        rename_i p o r m
        simp only at h17
        split at h17
        · rename_i cs hcs
          obtain ⟨c', e', hblk, hl, hn, _, _⟩ := hr.cells hcs hb
          have := (sub_some h17).2
          by_cases h0 : n * i.size = 0
          · exact ⟨#[], 0, (0, 0), .inr h0⟩
          · exact ⟨c', e', _, .inl ⟨hblk, rfl, by dsimp only; omega⟩⟩
        · cases h17
      | sliceU hb _ _ _ =>
        rename_i p o r m _ _
        simp only at h17
        split at h17
        · rename_i cs hcs
          obtain ⟨c', e', hblk, hl, hn, _, _⟩ := hr.cells hcs hb
          have := (sub_some h17).2
          by_cases h0 : n * i.size = 0
          · exact ⟨#[], 0, (0, 0), .inr h0⟩
          · exact ⟨c', e', _, .inl ⟨hblk, rfl, by dsimp only; omega⟩⟩
        · cases h17
      | sliceE =>
        simp [lenOfA] at h13
        omega
    refine appN_sim hr hx ⟨fun hle hst => append_fits H hle e1 hst, fun hgt hs hold => append_grows (ty := ty) H hgt hs hby hold hsrc⟩ hnew hnf hnl hzs (by simpa using hn0) hsm h18 hd
end Go.Am


/- append, copy, clear, maps, channels: each as an operation of the model's. -/
namespace Go.Am
variable {β : Ren} {P : Program} {h : Heap} {w : World}

theorem two_some {l : List AV} {x : AV × AV} (h : two l = some x) : l = [x.1, x.2] := by
  unfold two at h; split at h
  · cases h; rfl
  · cases h
theorem ok_append (c : Call) (hc : c.callee = .builtin .append) : HvOk (vAppend c.args.toList c.argTypes.toList) (.call c) := by
  intro P ih rnd β h w tm ρ x o ho hr hρ hv hd
  obtain ⟨l, h1, h2⟩ := obind_some.1 hv
  obtain ⟨y, h3, h4⟩ := obind_some.1 h2
  have hl := evalL_sim hρ _ _ h1
  rw [two_some h3] at hl
  obtain ⟨a', b', e, ha, hb⟩ := hl.two
  obtain ⟨v', w', β', e1, g1, g2, g3⟩ := appendA_sim (ty := o.type) hr ha hb h4 hd
  refine ⟨v', w', β', .inl ?_, g1, g2, g3⟩
  rw [run_builtin o ho hc, e]
  simp only [builtin, Sem.run_bind]
  rw [show (Array.mk [a', b'] : Array Value) = #[a', b'] from rfl, e1]
  rfl
theorem copyA_sim (hr : Rel β h w) {ts : Array TypeId} {ty : TypeId} {x y : AV} {x' y' : Value} {r : AV × Heap} (hx : VR β x x') (hy : VR β y y')
    (hv : copyA P h ts.toList x y = some r) : ∃ v' w', (Builtin.copy_ ts ty #[x', y']).run P w = .ok v' w' ∧ Rel β r.2 w' ∧ Ext β h w β r.2 w' ∧ VR β r.1 v' := by
  obtain ⟨e, h1, h2⟩ := obind_some.1 hv
  obtain ⟨t, h1a, h1b⟩ := obind_some.1 h1
  obtain ⟨sz, h3, h4⟩ := obind_some.1 h2
  obtain ⟨D, h5, h6⟩ := obind_some.1 h4
  obtain ⟨sl, h7, h8⟩ := obind_some.1 h6
  rw [forceN_eq] at h8
  obtain ⟨new, h9, h10⟩ := obind_some.1 h8
  obtain ⟨a, dl, c, u⟩ := D
  have hxx := toSlice_some h5
  dsimp only at hxx h9 h10
  subst hxx
  have ht := elemT_some h1b
  obtain ⟨new', e1, hnew, hnf, hnl⟩ := srcA_sim (P := P) hr hy (by intro l hl; rw [h7] at hl; cases hl; omega) h9
  have hlen := lenOfA_sim (P := P) hy h7 w
  obtain ⟨a', c', rfl, _⟩ := hx.slice
  have hgo : ∀ w', (match a' with | some b => storeCells b new' | none => pure () : Sem Unit).run P w = .ok () w' →
      (Builtin.copy_ ts ty #[.slice a' dl c', y']).run P w = .ok (goInt ((min sl dl : Nat) : Int)) w' := by
    intro w' hst
    have hmin : Nat.min sl dl = min sl dl := rfl
    unfold Builtin.copy_
    cases a' with
    | none =>
      obtain rfl : w = w' := by simpa using hst
      simp [head_array h1a, run_underlying ht, hlen, run_siz h3, hmin, e1]
    | some b => simp [head_array h1a, run_underlying ht, hlen, run_siz h3, hmin, e1, hst]
  unfold copyC at h10
  split at h10
  · cases h10
    cases hx
    exact ⟨_, w, hgo w rfl, hr, Ext.refl _ _ _, .int _ _⟩
  · rename_i b
    obtain ⟨p, o⟩ := b
    obtain ⟨cs, h11, h12⟩ := obind_some.1 h10
    obtain ⟨c2, h13, h14⟩ := obind_some.1 h12
    dsimp only at h11 h13 h14
    rw [forceL_eq, Heap.put_eq] at h14
    cases h14
    have key : ∀ rb m, β p = some (rb, m) → a' = some ⟨rb, o, none⟩ → ∃ v' w', (Builtin.copy_ ts ty #[.slice a' dl c', y']).run P w = .ok v' w' ∧
        Rel β ⟨PTree.set (.cells c2) p h.t, h.next⟩ w' ∧ Ext β h w β ⟨PTree.set (.cells c2) p h.t, h.next⟩ w' ∧ VR β (.int .i64 (min sl dl : Nat)) v' := by
      intro rb m hb ea
      obtain ⟨w', e3, g1, g2⟩ := put_sim (P := P) hr h11 hb hnew hnf h13
      exact ⟨_, w', hgo w' (by rw [ea]; exact e3), g1, g2, .int _ _⟩
    cases hx with
    | sliceK hb => exact key _ _ hb rfl
    | sliceU hb _ _ _ => exact key _ _ hb rfl
    | sliceE a0 a'' sz0 =>
      -- nothing is copied into an emptied slice
      have h0 : min sl 0 = 0 := by omega
      have hn0 : new = [] := by
        have : new.length = 0 := by rw [hnl, h0]; simp
        exact List.eq_nil_of_length_eq_zero this
      subst hn0
      cases hnew
      have hc2 : c2 = cs := by
        obtain ⟨_, h2⟩ := put_some h13
        rw [h2]; simp
      subst hc2
      -- the block is turned into itself
      have hself : Rel β ⟨PTree.set (.cells c2) p h.t, h.next⟩ w ∧ Ext β h w β ⟨PTree.set (.cells c2) p h.t, h.next⟩ w := by
        have hg := Heap.cellsAt_some h11
        have heq : ∀ q, PTree.get q (PTree.set (.cells c2) p h.t) = PTree.get q h.t := by
          intro q
          rw [PTree.get_set]
          split
          · rename_i e; rw [e, hg]
          · rfl
        refine ⟨⟨?_, ?_, ?_, hr.inW⟩, ⟨Ren.le_refl β, Nat.le_refl _, Nat.le_refl _, fun _ _ _ e => .inl e, ?_, fun _ _ _ => rfl, ⟨rfl, rfl, rfl⟩⟩⟩
        · intro q oq r n hq hb; exact hr.obj q oq r n ((heq q).symm.trans hq) hb
        · intro q s r n m hq hs
          rcases hr.inj q s r n m hq hs with h1 | h1 | h1
          · exact .inl h1
          · exact .inr (.inl ((heq q).trans h1))
          · exact .inr (.inr ((heq s).trans h1))
        · intro q oq hq; exact hr.fresh q oq ((heq q).symm.trans hq)
        · intro q _
          exact ⟨fun hh => (heq q).trans hh, fun hh => (heq q).trans hh⟩
      exact ⟨_, w, hgo w (by rfl), hself.1, hself.2, .int _ _⟩
theorem ok_copy (c : Call) (hc : c.callee = .builtin .copy) : HvOk (vCopy c.args.toList c.argTypes.toList) (.call c) := by
  intro P ih rnd β h w tm ρ x o ho hr hρ hv hd
  obtain ⟨l, h1, h2⟩ := obind_some.1 hv
  obtain ⟨y, h3, h4⟩ := obind_some.1 h2
  have hl := evalL_sim hρ _ _ h1
  rw [two_some h3] at hl
  obtain ⟨a', b', e, ha, hb⟩ := hl.two
  obtain ⟨v', w', e1, g1, g2, g3⟩ := copyA_sim (ty := o.type) hr ha hb h4
  refine ⟨v', w', β, .inl ?_, g1, g2, g3⟩
  rw [run_builtin o ho hc, e]
  simp only [builtin, Sem.run_bind]
  rw [show (Array.mk [a', b'] : Array Value) = #[a', b'] from rfl, e1]
  rfl
theorem clearA_sim (hr : Rel β h w) {ts : Array TypeId} {ty : TypeId} {x : AV} {x' : Value} {r : AV × Heap} (hx : VR β x x')
    (hv : clearA P h ts.toList x = some r) : ∃ w', (Builtin.clear_ ts ty #[x']).run P w = .ok undef w' ∧ Rel β r.2 w' ∧ Ext β h w β r.2 w' ∧ r.1 = undefA := by
  obtain ⟨e, h1, h2⟩ := obind_some.1 hv
  obtain ⟨t, h1a, h1b⟩ := obind_some.1 h1
  obtain ⟨z, h3, h4⟩ := obind_some.1 h2
  obtain ⟨D, h5, h6⟩ := obind_some.1 h4
  obtain ⟨a, dl, c, u⟩ := D
  have hxx := toSlice_some h5
  subst hxx
  have ht := elemT_some h1b
  obtain ⟨z', hz, hzr, hzf⟩ := zeroC_all β h3
  unfold clearC at h6
  dsimp only at h6
  split at h6
  · cases h6
    cases hx
    exact ⟨w, by simp [Builtin.clear_, head_array h1a, run_underlying ht]; rfl, hr, Ext.refl _ _ _, rfl⟩
  · rename_i b
    obtain ⟨p, o⟩ := b
    rw [bcase_eq] at h6
    split at h6
    · rename_i h0
      rw [beq_eq, decide_eq_true_eq] at h0
      subst h0
      cases h6
      obtain ⟨a', c', rfl, _⟩ := hx.slice
      refine ⟨w, ?_, hr, Ext.refl _ _ _, rfl⟩
      cases a' <;> (simp [Builtin.clear_, head_array h1a, run_underlying ht]; rfl)
    · rename_i h0
      rw [beq_eq, decide_eq_true_eq] at h0
      obtain ⟨cs, h7, h8⟩ := obind_some.1 h6
      obtain ⟨c2, h9, h10⟩ := obind_some.1 h8
      dsimp only at h7 h9 h10
      rw [forceL_eq, Heap.put_eq] at h10
      cases h10
      have hrep : VRs β (repL z dl) ((Builtin.zeroCells z'.cells dl).toList) := by
        have := VRs.replicateL hzr dl
        by_cases hs : 0 < z'.cells.size
        · rw [← map_range_mod z'.cells z'.cells.size rfl hs dl] at this
          simpa [Builtin.zeroCells] using this
        · have h0 : z'.cells.size = 0 := by omega
          have e1 : z'.cells.toList = [] := by apply List.eq_nil_of_length_eq_zero; simpa using h0
          rw [e1] at this
          have e2 : (Builtin.zeroCells z'.cells dl).toList = [] := by
            apply List.eq_nil_of_length_eq_zero
            simp [Builtin.zeroCells, h0]
          rw [e2]
          simpa using this
      have hrepf : ∀ m, (repL z m).all flat = true := by
        intro m
        induction m with
        | zero => rfl
        | succ m ih => exact all_append hzf ih
      have key : ∀ rb m c', β p = some (rb, m) → ∃ w', (Builtin.clear_ ts ty #[.slice (some ⟨rb, o, none⟩) dl c']).run P w = .ok undef w' ∧
          Rel β ⟨PTree.set (.cells c2) p h.t, h.next⟩ w' ∧ Ext β h w β ⟨PTree.set (.cells c2) p h.t, h.next⟩ w' ∧ undefA = undefA := by
        intro rb m c' hb
        obtain ⟨w', e3, g1, g2⟩ := put_sim (P := P) hr h7 hb hrep (hrepf dl) h9
        refine ⟨w', ?_, g1, g2, rfl⟩
        have hdl : dl ≠ 0 := h0
        obtain ⟨k, rfl⟩ : ∃ k, dl = k + 1 := ⟨dl - 1, by omega⟩
        simp [Builtin.clear_, head_array h1a, run_underlying ht, hz, e3]
        rfl
      cases hx with
      | sliceK hb => exact key _ _ _ hb
      | sliceU hb _ _ _ => exact key _ _ _ hb
      | sliceE => exact absurd rfl h0
theorem ok_clear (c : Call) (hc : c.callee = .builtin .clear) : HvOk (vClear c.args.toList c.argTypes.toList) (.call c) := by
  intro P ih rnd β h w tm ρ x o ho hr hρ hv hd
  obtain ⟨l, h1, h2⟩ := obind_some.1 hv
  obtain ⟨y, h3, h4⟩ := obind_some.1 h2
  have hl := evalL_sim hρ _ _ h1
  rw [one_some h3] at hl
  obtain ⟨a', e, ha⟩ := hl.one
  obtain ⟨w', e1, g1, g2, g3⟩ := clearA_sim (ty := o.type) hr ha h4
  refine ⟨undef, w', β, .inl ?_, g1, g2, by rw [g3]; exact undef_VR β⟩
  rw [run_builtin o ho hc, e]
  simp only [builtin, Sem.run_bind]
  rw [show (Array.mk [a'] : Array Value) = #[a'] from rfl, e1]
  rfl

/-! ## Maps -/
theorem ERs.get {es : List AEnt} {es' : List MapEntry} (h : ERs β es es') {i : Nat} {e : AEnt} (hi : es[i]? = some e) : ∃ e', es'[i]? = some e' ∧ VR β e.key e'.key ∧ VR β e.val e'.val ∧ e.born = e'.born := by
  induction h generalizing i with
  | nil => simp at hi
  | cons b hk hv h ih => cases i with
    | zero => simp at hi; subst hi; exact ⟨_, rfl, hk, hv, rfl⟩
    | succ i => simp at hi; simpa using ih hi
theorem ERs.setVal {es : List AEnt} {es' : List MapEntry} (h : ERs β es es') {v k : AV} {v' k' : Value} (hv : VR β v v') (hk : VR β k k') : ∀ i, ERs β (setVal v k es i) (es'.modify i fun e => { e with key := k', val := v' }) := by
  induction h with
  | nil => intro i; cases i <;> exact .nil
  | cons b hk1 hv1 h ih =>
    intro i
    cases i with
    | zero => exact .cons b hk hv h
    | succ i => exact .cons b hk1 hv1 (ih i)
theorem ERs.append {a b : List AEnt} {a' b' : List MapEntry} (h : ERs β a a') (h' : ERs β b b') : ERs β (a ++ b) (a' ++ b') := by
  induction h with
  | nil => exact h'
  | cons n hk hv _ ih => exact .cons n hk hv ih
theorem mapPutA_sim (hr : Rel β h w) {t : TypeId} {m k v : AV} {m' k' v' : Value} {r : AV × Heap} (hm : VR β m m') (hk : VR β k k') (hv : VR β v v')
    (hx : mapPutA P h t m k v = some r) : ∃ w', (Instr.mapUpdate t m' k' v').run P w = .ok () w' ∧ Rel β r.2 w' ∧ Ext β h w β r.2 w' ∧ r.1 = undefA := by
  unfold mapPutA at hx
  split at hx
  · rename_i kt et p ht
    split at hx
    · rename_i kd es clock hkd hobj
      rw [Heap.obj_eq] at hobj
      cases hm with
      | map hb =>
        rename_i rb mm
        obtain ⟨o', e1, e2⟩ := hr.obj p _ _ _ hobj hb
        cases e2 with
        | map _ hes =>
          rename_i es'
          have hg : (getObj rb).run P w = .ok (.map es' clock) w := by simp [getObj, Sem.run, e1]
          have hset : ∀ o, (setObj rb o).run P w = .ok () (setBlock w rb o) := by intro o; simp [setObj, Sem.run, e1, setBlock]
          cases hf : findK P kt kd k es with
          | none => rw [hf] at hx; cases hx
          | some r1 =>
            rw [hf] at hx
            obtain ⟨hck, r', hfind, f2, f3⟩ := findK_sim hkd hk hes hf w
            have hck := hck false
            cases r1 with
            | none =>
              obtain rfl := f2 rfl
              simp only at hx
              rw [Heap.put_eq] at hx
              cases hx
              refine ⟨setBlock w rb (.map (es'.push { key := k', val := v', born := clock }) (clock + 1)), ?_, ?_⟩
              · simp only [Instr.mapUpdate, Sem.run_bind, run_underlying ht, Result.andThen_ok, hg, hck, hfind, hset]
              · have ho : OR β mm (.map (es ++ [⟨k, v, clock⟩]) (clock + 1)) (.map (es'.push { key := k', val := v', born := clock }) (clock + 1)) := by
                  refine .map _ ?_
                  rw [Array.toList_push]
                  exact hes.append (.cons clock hk hv .nil)
                obtain ⟨g1, g2⟩ := hr.turn hobj (by intro hh; cases hh) hb ho
                exact ⟨g1, g2, rfl⟩
            | some jv =>
              obtain ⟨j, u⟩ := jv
              obtain ⟨u', e', g1, g2, g3, g4⟩ := f3 j u rfl
              subst g1
              simp only at hx
              rw [Heap.put_eq] at hx
              cases hx
              have hkey : (Instr.keyThatStays (((es'[j]?).map (·.key)).getD k') k').run P w = .ok k' w := by
                have : es'[j]? = some e' := by simpa using g3
                simp only [this, Option.map_some, Option.getD_some, g4]
              refine ⟨setBlock w rb (.map (es'.modify j fun e => { e with key := k', val := v' }) clock), ?_, ?_⟩
              · simp only [Instr.mapUpdate, Sem.run_bind, run_underlying ht, Result.andThen_ok, hg, hck, hfind, hkey, hset]
              · have ho : OR β mm (.map (setVal v k es j) clock) (.map (es'.modify j fun e => { e with key := k', val := v' }) clock) := by
                  refine .map _ ?_
                  rw [Array.toList_modify]
                  exact hes.setVal hv hk j
                obtain ⟨g1, g2⟩ := hr.turn hobj (by intro hh; cases hh) hb ho
                exact ⟨g1, g2, rfl⟩
    · cases hx
  · cases hx
theorem ERs.setKey {es : List AEnt} {es' : List MapEntry} (h : ERs β es es') {k : AV} {k' : Value} (hk : VR β k k') : ∀ i, ERs β (setKey k es i) (es'.modify i fun e => { e with key := k' }) := by
  induction h with
  | nil => intro i; cases i <;> exact .nil
  | cons b hk1 hv1 h ih =>
    intro i
    cases i with
    | zero => exact .cons b hk hv1 h
    | succ i => exact .cons b hk1 hv1 (ih i)
theorem ERs.setAt {es : List AEnt} {es' : List MapEntry} (h : ERs β es es') {v : AV} {v' : Value} (hv : VR β v v') : ∀ i, ERs β (setAt v es i) (es'.modify i fun e => { e with val := v' }) := by
  induction h with
  | nil => intro i; cases i <;> exact .nil
  | cons b hk1 hv1 h ih =>
    intro i
    cases i with
    | zero => exact .cons b hk1 hv h
    | succ i => exact .cons b hk1 hv1 (ih i)
theorem ERs.find {es : List AEnt} {es' : List MapEntry} (h : ERs β es es') (n : Int) : es'.findIdx? (fun e => (e.born : Int) == n) = es.findIdx? (fun e => (e.born : Int) == n) := by
  induction h with
  | nil => rfl
  | cons b hk1 hv1 h ih => simp only [List.findIdx?_cons, ih]
theorem mapEntryA_sim (hr : Rel β h w) {t : TypeId} {m k : AV} {m' k' : Value} {r : AV × Heap} (hm : VR β m m') (hk : VR β k k')
    (hx : mapEntryA P h t m k = some r) : ∃ v' w', (Instr.mapEntry t m' k').run P w = .ok v' w' ∧ Rel β r.2 w' ∧ Ext β h w β r.2 w' ∧ VR β r.1 v' := by
  unfold mapEntryA at hx
  split at hx
  · rename_i kt et p ht
    split at hx
    · rename_i kd es clock hkd hobj
      rw [Heap.obj_eq] at hobj
      cases hm with
      | map hb =>
        rename_i rb mm
        obtain ⟨o', e1, e2⟩ := hr.obj p _ _ _ hobj hb
        cases e2 with
        | map _ hes =>
          rename_i es'
          have hg : (getObj rb).run P w = .ok (.map es' clock) w := by simp [getObj, Sem.run, e1]
          have hset : ∀ o, (setObj rb o).run P w = .ok () (setBlock w rb o) := by intro o; simp [setObj, Sem.run, e1, setBlock]
          cases hf : findK P kt kd k es with
          | none => rw [hf] at hx; cases hx
          | some r1 =>
            rw [hf] at hx
            obtain ⟨hck, r', hfind, f2, f3⟩ := findK_sim hkd hk hes hf w
            have hck := hck false
            cases r1 with
            | none =>
              obtain rfl := f2 rfl
              simp only at hx
              cases hz : zeroA P et with
              | none => rw [hz] at hx; cases hx
              | some z =>
                rw [hz] at hx
                obtain ⟨z', ez, hzr⟩ := zeroA_VR (β := β) hz w
                simp only [Heap.put_eq] at hx
                cases hx
                refine ⟨.tuple #[z', goInt clock], setBlock w rb (.map (es'.push { key := k', val := z', born := clock }) (clock + 1)), ?_, ?_⟩
                · simp only [Instr.mapEntry, Sem.run_bind, run_underlying ht, Result.andThen_ok, hg, hck, hfind, ez, hset, Sem.run_pure]
                · have ho : OR β mm (.map (es ++ [⟨k, z, clock⟩]) (clock + 1)) (.map (es'.push { key := k', val := z', born := clock }) (clock + 1)) := by
                    refine .map _ ?_
                    rw [Array.toList_push]
                    exact hes.append (.cons clock hk hzr .nil)
                  obtain ⟨g1, g2⟩ := hr.turn hobj (by intro hh; cases hh) hb ho
                  exact ⟨g1, g2, .tuple (l' := [z', goInt clock]) (.cons hzr (.cons (.int _ _) .nil))⟩
            | some jv =>
              obtain ⟨j, u⟩ := jv
              obtain ⟨u', e', g1, g2, g3, g4⟩ := f3 j u rfl
              subst g1
              simp only at hx
              cases hgj : es[j]? with
              | none => rw [hgj] at hx; cases hx
              | some ej =>
                rw [hgj] at hx
                simp only [Heap.put_eq] at hx
                cases hx
                obtain ⟨e'', q1, _, _, q4⟩ := hes.get hgj
                rw [g3] at q1; cases q1
                have hej : es'[j]? = some e' := by simpa using g3
                have hkey : (Instr.keyThatStays (((es'[j]?).map (·.key)).getD k') k').run P w = .ok k' w := by
                  simp only [hej, Option.map_some, Option.getD_some, g4]
                refine ⟨.tuple #[u', goInt e'.born], setBlock w rb (.map (es'.modify j fun e => { e with key := k' }) clock), ?_, ?_⟩
                · simp only [Instr.mapEntry, Sem.run_bind, run_underlying ht, Result.andThen_ok, hg, hck, hfind, hkey, hset, Sem.run_pure]
                  simp only [hej, Option.map_some, Option.getD_some]
                · have ho : OR β mm (.map (setKey k es j) clock) (.map (es'.modify j fun e => { e with key := k' }) clock) := by
                    refine .map _ ?_
                    rw [Array.toList_modify]
                    exact hes.setKey hk j
                  obtain ⟨g1, g2'⟩ := hr.turn hobj (by intro hh; cases hh) hb ho
                  refine ⟨g1, g2', .tuple (l' := [u', goInt e'.born]) (.cons g2 (.cons ?_ .nil))⟩
                  rw [q4]; exact .int _ _
    · cases hx
  · cases hx
theorem entryStoreA_sim (hr : Rel β h w) {t : TypeId} {m st v : AV} {m' st' v' : Value} {r : AV × Heap} (hm : VR β m m') (hs : VR β st st') (hv : VR β v v')
    (hx : entryStoreA h m st v = some r) : ∃ w', (Instr.entryStore t m' st' v').run P w = .ok () w' ∧ Rel β r.2 w' ∧ Ext β h w β r.2 w' ∧ r.1 = undefA := by
  unfold entryStoreA at hx
  split at hx
  · rename_i p kd n
    split at hx
    · rename_i es clock hobj
      rw [Heap.obj_eq] at hobj
      cases hm with
      | map hb =>
        rename_i rb mm
        obtain ⟨o', e1, e2⟩ := hr.obj p _ _ _ hobj hb
        cases e2 with
        | map _ hes =>
          rename_i es'
          have hg : (getObj rb).run P w = .ok (.map es' clock) w := by simp [getObj, Sem.run, e1]
          have hset : ∀ o, (setObj rb o).run P w = .ok () (setBlock w rb o) := by intro o; simp [setObj, Sem.run, e1, setBlock]
          obtain rfl := hs.toInt
          cases hf : es.findIdx? (fun e => (e.born : Int) == n) with
          | none => rw [hf] at hx; cases hx
          | some j =>
            rw [hf] at hx
            simp only [Heap.put_eq] at hx
            cases hx
            have hfi : es'.findIdx? (fun e => (e.born : Int) == n) = some j := by
              rw [← hf, ← hes.find n]
              cases es' with | mk l => simp
            refine ⟨setBlock w rb (.map (es'.modify j fun e => { e with val := v' }) clock), ?_, ?_⟩
            · have has : (asInt (.int kd n)).run P w = .ok n w := by simp [asInt, asIntOf]
              simp only [Instr.entryStore, Sem.run_bind, hg, Result.andThen_ok, has, hfi, hset]
            · have ho : OR β mm (.map (setAt v es j) clock) (.map (es'.modify j fun e => { e with val := v' }) clock) := by
                refine .map _ ?_
                rw [Array.toList_modify]
                exact hes.setAt hv j
              obtain ⟨g1, g2⟩ := hr.turn hobj (by intro hh; cases hh) hb ho
              exact ⟨g1, g2, rfl⟩
    · cases hx
  · cases hx
theorem ok_mapPut (t : TypeId) (m k y : Operand) : HvOk (vMapPut t m k y) (.mapUpdate t m k y) := by
  intro P ih rnd β h w tm ρ x o ho hr hρ hv hd
  obtain ⟨a, h1, h2⟩ := obind_some.1 hv
  obtain ⟨b, h3, h4⟩ := obind_some.1 h2
  obtain ⟨c, h5, h6⟩ := obind_some.1 h4
  obtain ⟨w', e, g1, g2, g3⟩ := mapPutA_sim hr (hρ m a h1) (hρ k b h3) (hρ y c h5) h6
  exact ⟨undef, w', β, .inr ⟨by simp [execOp, ho, e], rfl⟩, g1, g2, by rw [g3]; exact undef_VR β⟩
theorem ok_insert (t : TypeId) (m k y : Operand) : HvOk (vMapPut t m k y) (.insert t m k y) := by
  intro P ih rnd β h w tm ρ x o ho hr hρ hv hd
  obtain ⟨a, h1, h2⟩ := obind_some.1 hv
  obtain ⟨b, h3, h4⟩ := obind_some.1 h2
  obtain ⟨c, h5, h6⟩ := obind_some.1 h4
  obtain ⟨w', e, g1, g2, g3⟩ := mapPutA_sim hr (hρ m a h1) (hρ k b h3) (hρ y c h5) h6
  exact ⟨undef, w', β, .inr ⟨by simp [execOp, ho, e], rfl⟩, g1, g2, by rw [g3]; exact undef_VR β⟩
theorem ok_mapEntry (t : TypeId) (m k : Operand) : HvOk (vMapEntry t m k) (.mapEntry t m k) := by
  intro P ih rnd β h w tm ρ x o ho hr hρ hv hd
  obtain ⟨a, h1, h2⟩ := obind_some.1 hv
  obtain ⟨b, h3, h4⟩ := obind_some.1 h2
  obtain ⟨v', w', e, g1, g2, g3⟩ := mapEntryA_sim hr (hρ m a h1) (hρ k b h3) h4
  exact ⟨v', w', β, .inl (by simp [execOp, ho, e]), g1, g2, g3⟩
theorem ok_entryStore (t : TypeId) (m st y : Operand) : HvOk (vEntryStore m st y) (.entryStore t m st y) := by
  intro P ih rnd β h w tm ρ x o ho hr hρ hv hd
  obtain ⟨a, h1, h2⟩ := obind_some.1 hv
  obtain ⟨b, h3, h4⟩ := obind_some.1 h2
  obtain ⟨c, h5, h6⟩ := obind_some.1 h4
  obtain ⟨w', e, g1, g2, g3⟩ := entryStoreA_sim (P := P) (t := t) hr (hρ m a h1) (hρ st b h3) (hρ y c h5) h6
  exact ⟨undef, w', β, .inr ⟨by simp [execOp, ho, e], rfl⟩, g1, g2, by rw [g3]; exact undef_VR β⟩
end Go.Am

/- Single steps of the model's machine, for one goroutine, in plain frames and in rounds of a range over a function. -/
namespace Go.Am
variable {P : Program}

/-- A frame that runs. -/
def frm (b : Frame) (arr : Array Value) (todo : List Item) (ds : List Deferred) : Frame :=
  { fn := b.fn, tmps := arr, todo, defers := ds, mode := .run, kind := b.kind, roundOf := b.roundOf }
def mach (b : Frame) (arr : Array Value) (todo : List Item) (ds : List Deferred) (cs : List Frame) (w : World) : Machine := lone (frm b arr todo ds) cs w
def evl (arr : Array Value) : Operand → Value := Act.eval ⟨arr, []⟩
theorem frm_eval (b : Frame) (arr : Array Value) (todo : List Item) (ds : List Deferred) : (frm b arr todo ds).eval = evl arr := by
  funext x; cases x <;> rfl
section
variable {b : Frame} {arr : Array Value} {k : List Item} {ds : List Deferred} {cs : List Frame} {w w' : World}
theorem s_skip : step P (mach b arr (.code .skip :: k) ds cs w) = .next (mach b arr k ds cs w) := step_lone_go (by simp [stepG, stepG.exec, frm])
theorem s_label {l : Nat} : step P (mach b arr (.code (.label l) :: k) ds cs w) = .next (mach b arr k ds cs w) := step_lone_go (by simp [stepG, stepG.exec, frm])
theorem s_inBlock {id : Nat} : step P (mach b arr (.inBlock id :: k) ds cs w) = .next (mach b arr k ds cs w) := step_lone_go (by simp [stepG, stepG.exec, frm])
theorem s_inScope {c : Code} : step P (mach b arr (.inScope c :: k) ds cs w) = .next (mach b arr k ds cs w) := step_lone_go (by simp [stepG, stepG.exec, frm])
theorem s_seq {x y : Code} : step P (mach b arr (.code (.seq x y) :: k) ds cs w) = .next (mach b arr (.code x :: .code y :: k) ds cs w) := step_lone_go (by simp [stepG, stepG.exec, frm])
theorem s_cond {c : Operand} {x y : Code} {t : Bool} (h : evl arr c = .bool t) : step P (mach b arr (.code (.cond c x y) :: k) ds cs w) = .next (mach b arr (.code (if t then x else y) :: k) ds cs w) :=
  step_lone_go (by
    have := frm_eval b arr (.code (.cond c x y) :: k) ds
    simp only [frm] at this
    simp [stepG, stepG.exec, frm, this, h])
theorem s_block {id : Nat} {c : Code} : step P (mach b arr (.code (.block id c) :: k) ds cs w) = .next (mach b arr (.code c :: .inBlock id :: k) ds cs w) := step_lone_go (by simp [stepG, stepG.exec, frm])
theorem s_scope {c : Code} : step P (mach b arr (.code (.scope c) :: k) ds cs w) = .next (mach b arr (.code c :: .inScope c :: k) ds cs w) := step_lone_go (by simp [stepG, stepG.exec, frm])
theorem s_loop {c : Code} : step P (mach b arr (.code (.loop c) :: k) ds cs w) = .next (mach b arr (.code c :: .inLoop c :: k) ds cs w) := step_lone_go (by simp [stepG, stepG.exec, frm])
theorem s_inLoop {c : Code} : step P (mach b arr (.inLoop c :: k) ds cs w) = .next (mach b arr (.code c :: .inLoop c :: k) ds cs w) := step_lone_go (by simp [stepG, stepG.exec, frm])
theorem s_exit {id : Nat} {k' : List Item} (h : exitTo id k = some k') : step P (mach b arr (.code (.exit id) :: k) ds cs w) = .next (mach b arr k' ds cs w) := step_lone_go (by simp [stepG, stepG.exec, frm, h])
theorem s_ret (hr : b.roundOf = none) : step P (mach b arr (.code .ret :: k) ds cs w) = .next (lone { frm b arr (.code .ret :: k) ds with mode := .returning } cs w) :=
  step_lone_go (by simp [stepG, stepG.exec, frm, hr])
theorem s_end (hr : b.roundOf = none) : step P (mach b arr [] ds cs w) = .next (lone { frm b arr [] ds with mode := .returning } cs w) :=
  step_lone_go (by simp [stepG, stepG.exec, frm, hr])
variable {ops : Array Oper}
theorem s_region {id : Nat} : step P (mach b arr (.code (.region id ops false) :: k) ds cs w) = .next (mach b arr (.inRegion ops (List.range ops.size) :: k) ds cs w) := step_lone_go (by simp [stepG, stepG.exec, frm])
theorem s_draw {id : Nat} : step P (mach b arr (.code (.region id ops true) :: k) ds cs w) =
    .next (mach b arr (.inRegion ops (Region.schedule (P.follows .mixedOrders) ops (w.tape w.drawn (.order b.fn id))) :: k) ds cs w.drew) :=
  step_lone_go (by simp [stepG, stepG.exec, frm, choose, Sem.run, Question.forced, Question.cut])
theorem s_regionEnd : step P (mach b arr (.inRegion ops [] :: k) ds cs w) = .next (mach b arr k ds cs w) := step_lone_go (by simp [stepG, stepG.exec, frm])

/-! ## Operations in a region -/
def putT (arr : Array Value) (dst : Option Tmp) (v : Value) : Array Value :=
  match dst with
  | some d => arr.setIfInBounds d v
  | none => arr
theorem putT_size (arr : Array Value) (dst : Option Tmp) (v : Value) : (putT arr dst v).size = arr.size := by cases dst <;> simp [putT]
theorem frm_finish {i : Nat} {rest : List Nat} {o : Oper} (ho : ops[i]? = some o) (v : Value) :
    (frm b arr (.inRegion ops (i :: rest) :: k) ds).finish v = frm b (putT arr o.dst v) (.inRegion ops rest :: k) ds := by
  cases hd : o.dst <;> simp [Frame.finish, frm, putT, ho, hd]
theorem s_unwanted {i : Nat} {rest : List Nat} {o : Oper} (ho : ops[i]? = some o) (hw : Region.wanted o (yielded ops arr) = false) :
    step P (mach b arr (.inRegion ops (i :: rest) :: k) ds cs w) = .next (mach b (putT arr o.dst undef) (.inRegion ops rest :: k) ds cs w) := by
  unfold mach
  rw [← frm_finish ho]
  exact step_lone_go (by simp [stepG, stepG.exec, frm, ho, hw])
/-- No defer statement in a round. -/
def NoDefer (b : Frame) (o : Oper) : Prop := b.roundOf = none ∨ ∀ c, o.op ≠ .defer c
theorem g_op {i : Nat} {rest : List Nat} {o : Oper} (ho : ops[i]? = some o) (hw : Region.wanted o (yielded ops arr) = true) (hn : NoDefer b o) :
    stepG P true { frame := frm b arr (.inRegion ops (i :: rest) :: k) ds, callers := cs, status := .running, dying := none } w =
      stepG.apply P true (frm b arr (.inRegion ops (i :: rest) :: k) ds) cs none (execOp (evl arr) o) w := by
  have he := frm_eval b arr (.inRegion ops (i :: rest) :: k) ds
  have : stepG P true { frame := frm b arr (.inRegion ops (i :: rest) :: k) ds, callers := cs, status := .running, dying := none } w =
      stepG.oper P true (frm b arr (.inRegion ops (i :: rest) :: k) ds) cs none w := by
    simp [stepG, stepG.exec, frm, ho, hw]
  rw [this]
  unfold stepG.oper
  have hop : (frm b arr (.inRegion ops (i :: rest) :: k) ds).oper? = some o := by simp [Frame.oper?, frm, ho]
  simp only [hop, he]
  have hro : (frm b arr (.inRegion ops (i :: rest) :: k) ds).roundOf = b.roundOf := rfl
  rw [hro]
  rcases hn with hn | hn
  · rw [hn]
  · cases hb : b.roundOf with
    | none => rfl
    | some l =>
      cases hop2 : o.op <;> first | rfl | exact absurd hop2 (hn _)
theorem s_value {i : Nat} {rest : List Nat} {o : Oper} {v : Value} (ho : ops[i]? = some o) (hw : Region.wanted o (yielded ops arr) = true) (hn : NoDefer b o)
    (hr : (execOp (evl arr) o).run P w = .ok (.value v) w') : step P (mach b arr (.inRegion ops (i :: rest) :: k) ds cs w) = .next (mach b (putT arr o.dst v) (.inRegion ops rest :: k) ds cs w') := by
  unfold mach
  rw [← frm_finish ho]
  exact step_lone_go (by rw [g_op ho hw hn]; simp [stepG.apply, hr])
theorem s_skipOp {i : Nat} {rest : List Nat} {o : Oper} (ho : ops[i]? = some o) (hw : Region.wanted o (yielded ops arr) = true) (hn : NoDefer b o)
    (hr : (execOp (evl arr) o).run P w = .ok .skip w') : step P (mach b arr (.inRegion ops (i :: rest) :: k) ds cs w) = .next (mach b (putT arr o.dst undef) (.inRegion ops rest :: k) ds cs w') := by
  unfold mach
  rw [← frm_finish ho]
  exact step_lone_go (by rw [g_op ho hw hn]; simp [stepG.apply, hr])
theorem s_defer {i : Nat} {rest : List Nat} {o : Oper} {d : Deferred} (ho : ops[i]? = some o) (hw : Region.wanted o (yielded ops arr) = true) (hn : NoDefer b o)
    (hr : (execOp (evl arr) o).run P w = .ok (.defer d) w') : step P (mach b arr (.inRegion ops (i :: rest) :: k) ds cs w) = .next (mach b (putT arr o.dst undef) (.inRegion ops rest :: k) (d :: ds) cs w') := by
  unfold mach
  rw [← frm_finish (ds := d :: ds) ho]
  exact step_lone_go (by rw [g_op ho hw hn]; simp [stepG.apply, hr, frm])
theorem s_recover {i : Nat} {rest : List Nat} {o : Oper} (ho : ops[i]? = some o) (hw : Region.wanted o (yielded ops arr) = true) (hb : b.roundOf = none)
    (hq : tryRecover (frm b arr (.inRegion ops (i :: rest) :: k) ds) cs = none)
    (hr : (execOp (evl arr) o).run P w = .ok .recover w') : step P (mach b arr (.inRegion ops (i :: rest) :: k) ds cs w) = .next (mach b (putT arr o.dst .nilIface) (.inRegion ops rest :: k) ds cs w') := by
  unfold mach
  rw [← frm_finish ho]
  have hro : (frm b arr (.inRegion ops (i :: rest) :: k) ds).roundOf = none := hb
  exact step_lone_go (by rw [g_op ho hw (.inl hb)]; simp [stepG.apply, hr, hro, hq])
theorem s_enter {i : Nat} {rest : List Nat} {o : Oper} {f : FuncId} {args : Array Value} (ho : ops[i]? = some o) (hw : Region.wanted o (yielded ops arr) = true) (hn : NoDefer b o)
    (hr : (execOp (evl arr) o).run P w = .ok (.enter f args) w') :
    step P (mach b arr (.inRegion ops (i :: rest) :: k) ds cs w) = .next (lone (Frame.enter P f args .normal) (frm b arr (.inRegion ops (i :: rest) :: k) ds :: cs) w') :=
  step_lone_go (by rw [g_op ho hw hn]; simp [stepG.apply, hr, frm])
theorem s_round {i : Nat} {rest : List Nat} {o : Oper} {l : Nat} {f : FuncId} {tmps : Array Value} {assign body : Code} (ho : ops[i]? = some o) (hw : Region.wanted o (yielded ops arr) = true) (hn : NoDefer b o)
    (hr : (execOp (evl arr) o).run P w = .ok (.round l f tmps assign body) w') :
    step P (mach b arr (.inRegion ops (i :: rest) :: k) ds cs w) = .next (lone (Frame.round l f tmps assign body .normal) (frm b arr (.inRegion ops (i :: rest) :: k) ds :: cs) w') :=
  step_lone_go (by rw [g_op ho hw hn]; simp [stepG.apply, hr, frm])
/-- A frame that is about to hand its results back. -/
def Gone (P : Program) (fr : Frame) (v : Value) (w : World) : Prop :=
  fr.mode = .returning ∧ fr.defers = [] ∧ fr.roundOf = none ∧ ∃ fn, P.funcs[fr.fn]? = some fn ∧ (results fn fr.tmps).run P w = .ok v w
theorem s_back {fr c : Frame} {v : Value} (h : Gone P fr v w) (hk : fr.kind = .normal) : step P (lone fr (c :: cs) w) = .next (lone (c.finish v) cs w) := by
  obtain ⟨hm, hd, _, fn, hf, hr⟩ := h
  exact step_lone_go (by simp [stepG, unwind, doReturn, hm, hd, hk, hf, hr])
end
end Go.Am

/- Steps of the model's machine: channels with room, rounds of a range over a function, deferred calls. -/
namespace Go.Am
variable {P : Program} {b : Frame} {arr : Array Value} {k : List Item} {ds : List Deferred} {cs : List Frame} {w w' : World} {ops : Array Oper}

theorem bare_comm {s : GStep} {g : Goroutine} {cases : Array CommCase} {bl : Bool} {sh : CommShape} {w : World} (h : s.bare = .comm g cases bl sh w) : ∃ es, s = .comm g cases bl sh w es := by
  cases s <;> simp at h
  obtain ⟨rfl, rfl, rfl, rfl, rfl⟩ := h
  exact ⟨_, rfl⟩
theorem s_comm {i : Nat} {rest : List Nat} {o : Oper} {cases : Array CommCase} {bl : Bool} {sh : CommShape} (ho : ops[i]? = some o) (hw : Region.wanted o (yielded ops arr) = true) (hn : NoDefer b o)
    (hr : (execOp (evl arr) o).run P w = .ok (.comm cases bl sh) w') :
    step P (mach b arr (.inRegion ops (i :: rest) :: k) ds cs w) =
      (communicate P { timers := #[], alone := none, slice := none } #[{ (default : Goroutine) with status := .finished }] 0
        { frame := frm b arr (.inRegion ops (i :: rest) :: k) ds, callers := cs, status := .running, dying := none } cases bl sh w').1 := by
  have hg := g_op (k := k) (ds := ds) (cs := cs) (rest := rest) (P := P) (w := w) ho hw hn
  have hb : (stepG P true { frame := frm b arr (.inRegion ops (i :: rest) :: k) ds, callers := cs, status := .running, dying := none } w).bare =
      .comm { frame := frm b arr (.inRegion ops (i :: rest) :: k) ds, callers := cs, status := .running, dying := none } cases bl sh w' := by
    rw [hg]; simp [stepG.apply, hr]
  obtain ⟨es, he⟩ := bare_comm hb
  unfold mach
  rw [step, stepT, move_lone]
  simp [runT, lone, Array.swapAt!, he]
theorem s_send {i : Nat} {rest : List Nat} {o : Oper} {r cap s rc : Nat} {v : Value} {buf : Array Value} {zero : Value} (ho : ops[i]? = some o) (hw : Region.wanted o (yielded ops arr) = true) (hn : NoDefer b o)
    (hr : (execOp (evl arr) o).run P w = .ok (.comm #[{ chan := .chan (some r), send := some v, zero }] true .send) w)
    (hc : w.heap[r]? = some (.chan cap buf false s rc false)) (hroom : buf.size < cap) :
    step P (mach b arr (.inRegion ops (i :: rest) :: k) ds cs w) =
      .next (mach b (putT arr o.dst undef) (.inRegion ops rest :: k) ds cs (setBlock w r (.chan cap (buf.push v) false (s + 1) rc false))) := by
  rw [s_comm ho hw hn hr]
  have hf := frm_finish (b := b) (arr := arr) (k := k) (ds := ds) (rest := rest) ho undef
  simp [communicate, ways, partners, hc, hroom, choose, Sem.run, Question.forced, Goroutine.finishComm, commResult, hf, setBlock, mach, lone, pure, bind, Sem.bind]
theorem s_recv {i : Nat} {rest : List Nat} {o : Oper} {r cap s rc : Nat} {v : Value} {buf : List Value} {zero : Value} {ok : Bool} (ho : ops[i]? = some o) (hw : Region.wanted o (yielded ops arr) = true) (hn : NoDefer b o)
    (hr : (execOp (evl arr) o).run P w = .ok (.comm #[{ chan := .chan (some r), send := none, zero }] true (.recv ok)) w)
    (hc : w.heap[r]? = some (.chan cap (Array.mk (v :: buf)) false s rc false)) :
    step P (mach b arr (.inRegion ops (i :: rest) :: k) ds cs w) =
      .next (mach b (putT arr o.dst (if ok then .tuple #[v, .bool true] else v)) (.inRegion ops rest :: k) ds cs (setBlock w r (.chan cap (Array.mk buf) false s (rc + 1) false))) := by
  rw [s_comm ho hw hn hr]
  have hf := fun x => frm_finish (b := b) (arr := arr) (k := k) (ds := ds) (rest := rest) ho x
  cases ok
  all_goals
    simp [communicate, ways, partners, hc, choose, Sem.run, Question.forced, Goroutine.finishComm, commResult, hf, setBlock, mach, lone, pure, bind, Sem.bind]

/-! ## Rounds of a range over a function -/
theorem run_getLoop {l : Nat} {L : Loop} (h : w.heap[l]? = some (.loop L)) : (Instr.getLoop l).run P w = .ok L w := by
  simp [Instr.getLoop, getObj, Sem.run, h]
theorem run_setLoop {l : Nat} {L : Loop} (h : w.heap[l]? = some (.loop L)) (o : Obj) : (setObj l o).run P w = .ok () (setBlock w l o) := by
  simp [setObj, Sem.run, h, setBlock]
theorem s_beginRound {l : Nat} {L : Loop} (hb : b.roundOf = some l) (h : w.heap[l]? = some (.loop L)) (hs : L.state = .ready) :
    step P (mach b arr (.beginRound :: k) ds cs w) = .next (mach b arr k ds cs (setBlock w l (.loop { L with state := .busy }))) := by
  refine step_lone_go ?_
  have e4 : (b.roundOf.elim (stuck "beginRound: no round") Instr.beginRound : Sem Unit).run P w = .ok () (setBlock w l (.loop { L with state := .busy })) := by
    rw [hb]
    simp [Instr.beginRound, run_getLoop h, run_setLoop h, hs]
  simp [stepG, stepG.exec, frm, stepG.apply, e4, Frame.finish]
/-- The end of a round. -/
theorem s_roundEnd {l : Nat} {L : Loop} {c : Frame} (hb : b.roundOf = some l) (hk : b.kind = .normal) (h : w.heap[l]? = some (.loop L)) :
    step P (mach b arr [] ds (c :: cs) w) = .next (lone (c.finish (.bool true)) cs (setBlock w l (.loop { L with state := .ready, pending := none }))) := by
  have hro : (frm b arr [] ds).roundOf = some l := hb
  have hki : (frm b arr [] ds).kind = .normal := hk
  have e : (Instr.endRound l none).run P w = .ok (.bool true) (setBlock w l (.loop { L with state := .ready, pending := none })) := by
    simp [Instr.endRound, run_getLoop h, run_setLoop h]
  refine step_lone_go ?_
  simp only [frm] at hro hki
  simp [stepG, stepG.exec, frm, hro, e, doReturn, hki]
theorem s_roundRet {l : Nat} {L : Loop} {c : Frame} (hb : b.roundOf = some l) (hk : b.kind = .normal) (h : w.heap[l]? = some (.loop L)) :
    step P (mach b arr (.code .ret :: k) ds (c :: cs) w) = .next (lone (c.finish (.bool false)) cs (setBlock w l (.loop { L with state := .done, pending := some .ret }))) := by
  have hro : (frm b arr (.code .ret :: k) ds).roundOf = some l := hb
  have hki : (frm b arr (.code .ret :: k) ds).kind = .normal := hk
  have e : (Instr.endRound l (some .ret)).run P w = .ok (.bool false) (setBlock w l (.loop { L with state := .done, pending := some .ret })) := by
    simp [Instr.endRound, run_getLoop h, run_setLoop h]
  refine step_lone_go ?_
  simp only [frm] at hro hki
  simp [stepG, stepG.exec, frm, hro, e, doReturn, hki]
theorem s_roundExit {l id : Nat} {L : Loop} {c : Frame} (hb : b.roundOf = some l) (hk : b.kind = .normal) (hx : exitTo id k = none) (h : w.heap[l]? = some (.loop L)) :
    step P (mach b arr (.code (.exit id) :: k) ds (c :: cs) w) = .next (lone (c.finish (.bool false)) cs (setBlock w l (.loop { L with state := .done, pending := some (.exit id) }))) := by
  have hro : (frm b arr (.code (.exit id) :: k) ds).roundOf = some l := hb
  have hki : (frm b arr (.code (.exit id) :: k) ds).kind = .normal := hk
  have e : (Instr.endRound l (some (.exit id))).run P w = .ok (.bool false) (setBlock w l (.loop { L with state := .done, pending := some (.exit id) })) := by
    simp [Instr.endRound, run_getLoop h, run_setLoop h]
  refine step_lone_go ?_
  simp only [frm] at hro hki
  simp [stepG, stepG.exec, frm, hx, hro, e, doReturn, hki]
/-- The frame of a range over a function, while the function runs. -/
theorem s_endRange {l : Nat} {L : Loop} (h : w.heap[l]? = some (.loop L)) (hs : L.state ≠ .busy) :
    step P (mach b arr (.endRangeFunc l :: k) ds cs w) = .next (mach b arr ((L.pending.map Item.code).toList ++ k) ds cs (setBlock w l (.loop { L with state := .exhausted }))) := by
  have e : (Instr.endLoop l).run P w = .ok L.pending (setBlock w l (.loop { L with state := .exhausted })) := by
    simp [Instr.endLoop, run_getLoop h, run_setLoop h, hs]
  exact step_lone_go (by simp [stepG, stepG.exec, frm, e])
theorem s_range {f : Operand} {params : Array Tmp} {assign body : Code} {fid : FuncId} {first cap : Array Value} {fn : Func} {c : Code} (hb : b.roundOf = none)
    (hf : evl arr f = .func (.func fid) first cap) (hfn : P.funcs[fid]? = some fn) (hnm : (fn.name == "runtime.NumGoroutine") = false) (hbody : fn.body = some c) :
    step P (mach b arr (.code (.rangeFunc f params assign body) :: k) ds cs w) =
      .next (lone (Frame.enter P fid (first ++ #[.func (.yield (w.heap.size + 1)) #[] #[]] ++ cap) .normal)
        (frm b arr (.inRangeFunc (w.heap.size + 1) :: k) ({ target := .collected w.heap.size, args := #[] } :: ds) :: cs)
        ((w.alloc (.deferred (some []))).alloc (.loop { state := .ready, pending := none, fn := b.fn, tmps := arr, params, assign, body, defers := w.heap.size }))) := by
  have hro : (frm b arr (.code (.rangeFunc f params assign body) :: k) ds).roundOf = none := hb
  have e : (Instr.enterLoop b.fn arr params assign body none).run P w = .ok (w.heap.size + 1, [{ target := .collected w.heap.size, args := #[] }])
      ((w.alloc (.deferred (some []))).alloc (.loop { state := .ready, pending := none, fn := b.fn, tmps := arr, params, assign, body, defers := w.heap.size })) := by
    simp [Instr.enterLoop]
  have he : ∀ todo ds', (frm b arr todo ds').eval = evl arr := fun todo ds' => frm_eval b arr todo ds'
  refine step_lone_go ?_
  have e3 : ∀ W : World, (resolve (evl arr) { callee := .value f, args := #[.const (.func (.yield (w.heap.size + 1)) #[] #[])], argTypes := #[] } 0).run P W =
      .ok { target := .fn (.func fid) cap, args := first ++ #[.func (.yield (w.heap.size + 1)) #[] #[]] } W := by
    intro W
    have ec : ∀ v, evl arr (.const v) = v := fun _ => rfl
    simp [resolve, hf, Deferred.ofValue, ec]
  have e5 : ∀ W : World, (invoke (.fn (.func fid) cap) (first ++ #[.func (.yield (w.heap.size + 1)) #[] #[]])).run P W =
      .ok (.enter fid (first ++ #[.func (.yield (w.heap.size + 1)) #[] #[]] ++ cap)) W := by
    intro W
    have hnm' : ¬ fn.name = "runtime.NumGoroutine" := by simpa using hnm
    simp [invoke, callFunc, hfn, hnm', hbody]
  simp only [frm, hb] at he
  simp at e5
  simp [stepG, stepG.exec, frm, hb, e, stepG.apply, he, e3, e5]
end Go.Am

/- Steps of a frame that returns, and its deferred calls. -/
namespace Go.Am
variable {P : Program} {b : Frame} {arr : Array Value} {k : List Item} {ds : List Deferred} {cs : List Frame} {w w' : World} {ops : Array Oper}

/-- A frame that returns. -/
def rtn (b : Frame) (arr : Array Value) (todo : List Item) (ds : List Deferred) : Frame := { frm b arr todo ds with mode := .returning }
theorem s_takeColl {r : Nat} {args : Array Value} (h : w.heap[r]? = some (.deferred (some []))) :
    step P (lone (rtn b arr k ({ target := .collected r, args } :: ds)) cs w) = .next (lone (rtn b arr k ds) cs (setBlock w r (.deferred none))) := by
  have e : (Instr.takeDeferred r).run P w = .ok [] (setBlock w r (.deferred none)) := by
    simp [Instr.takeDeferred, getObj, setObj, Sem.run, h, bind, Sem.bind, setBlock, pure]
  exact step_lone_go (by simp [stepG, unwind, rtn, frm, e])
theorem s_callDef {f : FuncId} {cap args : Array Value} {fn : Func} {c : Code} (hfn : P.funcs[f]? = some fn) (hnm : (fn.name == "runtime.NumGoroutine") = false) (hbody : fn.body = some c) :
    step P (lone (rtn b arr k ({ target := .fn (.func f) cap, args } :: ds)) cs w) = .next (lone (Frame.enter P f (args ++ cap) .deferred) (rtn b arr k ds :: cs) w) := by
  have hnm' : ¬ fn.name = "runtime.NumGoroutine" := by simpa using hnm
  have e : (invoke (.fn (.func f) cap) args).run P w = .ok (.enter f (args ++ cap)) w := by
    simp [invoke, callFunc, hfn, hnm', hbody]
  exact step_lone_go (by simp [stepG, unwind, callDeferred, rtn, frm, e])
theorem s_backD {fr c : Frame} {v : Value} (h : Gone P fr v w) (hk : fr.kind = .deferred) (hc : c.mode = .returning) : step P (lone fr (c :: cs) w) = .next (lone c cs w) := by
  obtain ⟨hm, hd, _, fn, hf, hr⟩ := h
  exact step_lone_go (by simp [stepG, unwind, doReturn, hm, hd, hk, hf, hr, hc])

end Go.Am

/- Work in a region: what writes, and calls. -/
namespace Go.Am
variable {P : Program} {β : Ren} {h : Heap} {w : World}

/-- A recover finds nothing. -/
def QuietK (kd : CallKind) (cs : List Frame) : Prop := kd = .normal ∨ (kd = .deferred ∧ ∃ c rest, cs = c :: rest ∧ c.mode = .returning)
theorem QuietK.recover {fr : Frame} {cs : List Frame} (hq : QuietK fr.kind cs) : tryRecover fr cs = none := by
  unfold tryRecover
  rcases hq with h | ⟨h, c, rest, rfl, hm⟩
  · rw [h]
  · rw [h]; simp only [hm]
/-- The round that a frame is, if it is one. -/
def RndR (β : Ren) (rnd : Option Pos) (b : Frame) : Prop :=
  match rnd with
  | none => b.roundOf = none
  | some p => b.kind = .normal ∧ ∃ r n, β p = some (r, n) ∧ b.roundOf = some r
theorem RndR.mono {β' : Ren} (hb : β.le β') {rnd : Option Pos} {b : Frame} (hr : RndR β rnd b) : RndR β' rnd b := by
  cases rnd with
  | none => exact hr
  | some p => obtain ⟨h, r, n, e, e'⟩ := hr; exact ⟨h, r, n, hb _ _ e, e'⟩
theorem RndR.none {b : Frame} (hr : RndR β none b) : b.roundOf = none := hr

/-- What a call of the abstract machine says of the model's. -/
def CallOk (P : Program) (ih : Ex) : Prop := ∀ f args h x, ih.call f args h = some x → ∀ β w args' kd cs, VRs β args args' → Rel β h w → Dom β h x.2 → QuietK kd cs →
  ∃ fr v' w' β', Steps P (lone (Frame.enter P f (Array.mk args') kd) cs w) (lone fr cs w') ∧ Gone P fr v' w' ∧ fr.kind = kd ∧ fr.fn = f ∧
    Rel β' x.2 w' ∧ Ext β h w β' x.2 w' ∧ VR β' x.1 v'
/-- The slots of a loop's body as a round begins. -/
def roundT (L : Loop) (args : Array Value) : Array Value := (L.params.zip args).foldl (fun tmps (t, a) => tmps.setIfInBounds t a) L.tmps
def RoundOk (P : Program) (ih : Ex) : Prop := ∀ p args h x, ih.round p args h = some x → ∀ β w args' r n c cs, β p = some (r, n) → VRs β args args' → Rel β h w → Dom β h x.2 →
  ∃ L v' w' β', w.heap[r]? = some (.loop L) ∧ args'.length = L.params.size ∧
    Steps P (lone (Frame.round r L.fn (roundT L (Array.mk args')) L.assign L.body .normal) (c :: cs) w) (lone (c.finish v') cs w') ∧
    Rel β' x.2 w' ∧ Ext β h w β' x.2 w' ∧ VR β' x.1 v'

/-- Work in a region. -/
def WorkOk (f : Hv) (op : Op) : Prop := ∀ (P : Program) (ih : Ex) (rnd : Option Pos) (β : Ren) (h : Heap) (w : World) (tm : Tm) (arr : Array Value) (b : Frame) (k : List Item)
  (ds : List Deferred) (cs : List Frame) (ops : Array Oper) (i : Nat) (rest : List Nat) (o : Oper) (x : AV × Heap),
  CallOk P ih → RoundOk P ih → o.op = op → ops[i]? = some o → Region.wanted o (yielded ops arr) = true → RndR β rnd b → QuietK b.kind cs → Rel β h w → OpR β tm (evl arr) →
  f P ih rnd h tm = some x → Dom β h x.2 →
  ∃ v' w' β', Steps P (mach b arr (.inRegion ops (i :: rest) :: k) ds cs w) (mach b (putT arr o.dst v') (.inRegion ops rest :: k) ds cs w') ∧ Rel β' x.2 w' ∧ Ext β h w β' x.2 w' ∧ VR β' x.1 v'
theorem HvOk.work {f : Hv} {op : Op} (hv : HvOk f op) (hn : ∀ c, op ≠ .defer c) : WorkOk f op := by
  intro P ih rnd β h w tm arr b k ds cs ops i rest o x _ _ ho hi hw _ _ hr hρ hx hd
  obtain ⟨v', w', β', e, h1, h2, h3⟩ := hv P ih rnd β h w tm (evl arr) x o ho hr hρ hx hd
  refine ⟨v', w', β', ?_, h1, h2, h3⟩
  have hnd : NoDefer b o := .inr fun c => by rw [ho]; exact hn c
  rcases e with e | ⟨e, rfl⟩
  · exact Steps.one (s_value hi hw hnd e)
  · exact Steps.one (s_skipOp hi hw hnd e)

/-! ## Calls -/
theorem enterA_some {ih : Ex} {f : FuncId} {args : List AV} {x : AV × Heap} (hx : enterA P ih f args h = some x) :
    ∃ fn c, P.funcs[f]? = some fn ∧ (fn.name == "runtime.NumGoroutine") = false ∧ fn.body = some c ∧ ih.call f args h = some x := by
  unfold enterA at hx
  split at hx
  · rename_i fn hfn
    split at hx
    · cases hx
    · rename_i hnm
      split at hx
      · rename_i c hb
        exact ⟨fn, c, hfn, by simpa using hnm, hb, hx⟩
      · cases hx
  · cases hx
theorem run_callFunc {f : FuncId} {fn : Func} {c : Code} (hfn : P.funcs[f]? = some fn) (hnm : (fn.name == "runtime.NumGoroutine") = false) (hb : fn.body = some c) (args : Array Value) (w : World) :
    (callFunc f args).run P w = .ok (.enter f args) w := by
  have hnm' : ¬ fn.name = "runtime.NumGoroutine" := by simpa using hnm
  simp [callFunc, hfn, hnm', hb]
theorem run_typeInfo {t : TypeId} {i : TypeInfo} (h : P.info? t = some i) (w : World) : (typeInfo t).run P w = .ok i w := by simp [typeInfo, h]
theorem followA_sim : ∀ (l : List FieldStep) {t : TypeId} {v : AV} {v' : Value} {x : TypeId × AV}, VR β v v' → followA P l t v = some x → ∀ w,
    ∃ y', (follow l t (.val v')).run P w = .ok (x.1, .val y') w ∧ VR β x.2 y'
  | [], t, v, v', x, hv, hx, w => by cases hx; exact ⟨v', by simp [follow], hv⟩
  | s :: rest, t, v, v', x, hv, hx, w => by
    unfold followA at hx
    split at hx
    · cases hx
    · rename_i hdr
      split at hx
      · rename_i fs cs hu
        cases hv with
        | agg hcs hf =>
          split at hx
          · rename_i fd hfd
            split at hx
            · rename_i u hpu
              obtain ⟨u', e1, e2⟩ := partA_sim hcs hf hpu w
              obtain ⟨y', e3, e4⟩ := followA_sim rest e2 hx w
              refine ⟨y', ?_, e4⟩
              have hdr' : s.deref = false := by simpa using hdr
              simp [follow, run_underlying hu, hfd, hdr', e1, e3]
            · cases hx
          · cases hx
      · cases hx
theorem methodA_sim {t : TypeId} {v : AV} {v' : Value} {name : String} {x : FuncId × AV} (hv : VR β v v') (hx : methodA P t v name = some x) (n : Nat) (w : World) :
    ∃ y', (method (n + 1) t v' name).run P w = .ok (x.1, y') w ∧ VR β x.2 y' := by
  unfold methodA at hx
  split at hx
  · cases hx
  · rename_i i hi
    split at hx
    · cases hx
    · rename_i m hm
      split at hx
      · rename_i xt u f ptr hfo hfn
        obtain ⟨y', e1, e2⟩ := followA_sim _ hv hfo w
        have hm' : i.methods.find? (·.name == name) = some m := by rw [← Array.find?_toList]; exact hm
        split at hx
        · rename_i el hu
          split at hx
          · rename_i hp
            cases hx
            refine ⟨y', ?_, e2⟩
            simp [method, run_typeInfo hi, hm', e1, hfn, receiverAt, run_underlying hu, hp, Place.get]
          · cases hx
        · rename_i d hnp hu
          split at hx
          · cases hx
          · rename_i hp
            cases hx
            have hp' : ptr = false := by simpa using hp
            refine ⟨y', ?_, e2⟩
            cases d <;> first | exact absurd rfl (hnp _) | simp [method, run_typeInfo hi, hm', e1, hfn, receiverAt, run_underlying hu, hp', Place.get]
        · cases hx
      · cases hx
/-- What a call comes to: a function is entered. -/
def Enters (P : Program) (β : Ren) (ih : Ex) (s : Sem Next) (h : Heap) (w : World) (x : AV × Heap) : Prop :=
  ∃ f args args', s.run P w = .ok (.enter f (Array.mk args')) w ∧ VRs β args args' ∧ ih.call f args h = some x
theorem callM_sim {ih : Ex} {r : AV} {r' : Value} {name : String} {args : List AV} {args' : List Value} {x : AV × Heap} (hr : VR β r r') (ha : VRs β args args') (hx : callM P ih r name args h = some x) :
    Enters P β ih (callMethod r' name (Array.mk args')) h w x := by
  unfold callM at hx
  split at hx
  · rename_i t v
    split at hx
    · rename_i f y hm
      obtain ⟨fn, c, hfn, hnm, hb, hc⟩ := enterA_some hx
      cases hr with
      | iface _ hv =>
        rename_i v'
        obtain ⟨y', e1, e2⟩ := methodA_sim hv hm (P.types.size + Made.depth - 1) w
        have hd : P.types.size + Made.depth - 1 + 1 = P.types.size + Made.depth := by simp [Made.depth]
        rw [hd] at e1
        refine ⟨f, y :: args, y' :: args', ?_, .cons e2 ha, hc⟩
        have := run_callFunc hfn hnm hb (#[y'] ++ Array.mk args') w
        simp only [callMethod, Sem.run_bind, run_program, Result.andThen_ok, e1, this]
        congr 2
        apply Array.ext'; simp
    · cases hx
  · cases hx
theorem run_underlying_bind {t : TypeId} {d : TypeDesc} (h : P.underlying t = some d) (w : World) : (underlying t).run P w = .ok d w := run_underlying h w
/-- What a call comes to: a function is entered, or a round begins. -/
def Begins (P : Program) (β : Ren) (ih : Ex) (s : Sem Next) (h : Heap) (w : World) (x : AV × Heap) (args : List AV) (args' : List Value) : Prop :=
  Enters P β ih s h w x ∨ ∃ p r n, β p = some (r, n) ∧ ih.round p args h = some x ∧ ∀ L, w.heap[r]? = some (.loop L) → args'.length = L.params.size →
    s.run P w = .ok (.round r L.fn (roundT L (Array.mk args')) L.assign L.body) w
theorem callT_sim {ih : Ex} {f : AFn} {f' : Fn} {cap args : List AV} {cap' args' : List Value} {x : AV × Heap} (hf : FnR β f f') (hc : VRs β cap cap') (ha : VRs β args args')
    (hx : callT P ih f cap args h = some x) : Begins P β ih (invoke (.fn f' (Array.mk cap')) (Array.mk args')) h w x args args' := by
  unfold callT at hx
  cases hf with
  | func f =>
    obtain ⟨fn, c, hfn, hnm, hb, hcl⟩ := enterA_some hx
    refine .inl ⟨f, args ++ cap, args' ++ cap', ?_, ha.append hc, hcl⟩
    simp only [invoke, run_callFunc hfn hnm hb]
    congr 2
    apply Array.ext'; simp
  | @yield p r n hb =>
    refine .inr ⟨p, r, n, hb, hx, fun L hL hn => ?_⟩
    simp [invoke, Instr.yield, run_getLoop hL, hn, roundT]
  | method name =>
    cases ha with
    | nil => cases hx
    | @cons r r' as as' hr ha =>
      obtain ⟨g, gs, gs', e, h1, h2⟩ := callM_sim (w := w) hr ha hx
      refine .inl ⟨g, gs, gs', ?_, h1, h2⟩
      rw [← e]
      simp only [invoke]
      simp
  | methodOf t name =>
    cases ha with
    | nil => cases hx
    | @cons r r' as as' hr ha =>
      simp only at hx
      split at hx
      · rename_i r₁ as₁ q1 q2 q3 q4
        cases q3
        obtain ⟨g, gs, gs', e, h1, h2⟩ := callM_sim (w := w) hr ha hx
        refine .inl ⟨g, gs, gs', ?_, h1, h2⟩
        rw [← e]
        simp [invoke, run_underlying q4]
      · rename_i d hni q3 q4
        cases q3
        obtain ⟨g, gs, gs', e, h1, h2⟩ := callM_sim (w := w) (.iface t hr) ha hx
        refine .inl ⟨g, gs, gs', ?_, h1, h2⟩
        rw [← e]
        cases d <;> first | exact absurd rfl (hni _) | simp [invoke, run_underlying q4]
      · cases hx
theorem work_begins {ih : Ex} {b : Frame} {arr : Array Value} {k : List Item} {ds : List Deferred} {cs : List Frame} {ops : Array Oper} {i : Nat} {rest : List Nat} {o : Oper}
    {x : AV × Heap} {args : List AV} {args' : List Value} (hC : CallOk P ih) (hR : RoundOk P ih) (hi : ops[i]? = some o) (hw : Region.wanted o (yielded ops arr) = true) (hn : NoDefer b o)
    (hr : Rel β h w) (ha : VRs β args args') (hd : Dom β h x.2) (hb : Begins P β ih (execOp (evl arr) o) h w x args args') :
    ∃ v' w' β', Steps P (mach b arr (.inRegion ops (i :: rest) :: k) ds cs w) (mach b (putT arr o.dst v') (.inRegion ops rest :: k) ds cs w') ∧ Rel β' x.2 w' ∧ Ext β h w β' x.2 w' ∧ VR β' x.1 v' := by
  rcases hb with ⟨f, as, as', e, h1, h2⟩ | ⟨p, r, n, hp, hx, e⟩
  · obtain ⟨fr, v', w', β', e1, e2, e3, _, e4, e5, e6⟩ := hC f as h x h2 β w as' .normal (frm b arr (.inRegion ops (i :: rest) :: k) ds :: cs) h1 hr hd (.inl rfl)
    refine ⟨v', w', β', ?_, e4, e5, e6⟩
    refine Steps.head (s_enter hi hw hn e) (Steps.trans e1 (Steps.one ?_))
    rw [s_back e2 e3, frm_finish hi]
    rfl
  · obtain ⟨L, v', w', β', e0, e00, e1, e4, e5, e6⟩ := hR p args h x hx β w args' r n (frm b arr (.inRegion ops (i :: rest) :: k) ds) cs hp ha hr hd
    refine ⟨v', w', β', ?_, e4, e5, e6⟩
    refine Steps.head (s_round hi hw hn (e L e0 e00)) ?_
    rw [frm_finish hi] at e1
    exact e1
theorem isClone_some {f : AFn} (h : isClone P f = true) : ∃ g fn, f = .func g ∧ P.funcs[g]? = some fn ∧ fn.body = none ∧ fn.name = "maps.clone" ∧ fn.origin = "" := by
  unfold isClone at h
  split at h
  · split at h
    · rename_i g _ fn hfn
      simp only [Bool.and_eq_true, Option.isNone_iff_eq_none, beq_iff_eq] at h
      exact ⟨g, fn, rfl, hfn, h.1, h.2.1, h.2.2⟩
    · cases h
  · cases h
theorem clone_next : Extern.allNextRows.lookup "maps.clone" = none := by rfl
theorem clone_next0 : Extern.allNextRows.lookup "" = none := by rfl
theorem clone_rows : Extern.allRows.lookup "maps.clone" = some Extern.MapsClone.clone := by rfl
theorem clone_gen : Extern.allGenericRows.lookup "maps.clone" = none := by rfl
theorem clone_typed : Extern.allTypedRows.lookup "maps.clone" = none := by rfl
theorem run_clone {g : FuncId} {fn : Func} (hfn : P.funcs[g]? = some fn) (hb : fn.body = none) (hnm : fn.name = "maps.clone") (hor : fn.origin = "") {t : TypeId} {r : Nat} {es : Array MapEntry} {clock : Nat}
    (hm : w.heap[r]? = some (.map es clock)) : (callFunc g #[.iface t (.map (some r))]).run P w = .ok (.value (.iface t (.map (some w.heap.size)))) (w.alloc (.map es clock)) := by
  have h1 : ¬ (fn.name == "runtime.NumGoroutine") = true := by rw [hnm]; decide
  have h2 : Extern.findNext fn = none := by simp [Extern.findNext, hnm, hor, clone_next, clone_next0]
  have h3 : Extern.find fn = some Extern.MapsClone.clone := by simp [Extern.find, hnm, clone_rows, clone_gen, clone_typed]
  have hg : (getObj r).run P w = .ok (.map es clock) w := by simp [getObj, Sem.run, hm]
  have h4 : (Extern.MapsClone.clone #[.iface t (.map (some r))]).run P w = .ok (.iface t (.map (some w.heap.size))) (w.alloc (.map es clock)) := by
    have e : Extern.MapsClone.clone #[.iface t (.map (some r))] = (getObj r >>= fun o => match o with
      | .map entries clock => (newObj (.map entries clock) >>= fun n => pure (.iface t (.map (some n))))
      | _ => stuck "maps.clone: a map expected") := rfl
    rw [e]
    simp only [Sem.run_bind, hg, Result.andThen_ok]
    simp [newObj, Sem.run]
  simp only [callFunc, Sem.run_bind, run_program, Result.andThen_ok, hfn, h1, hb, h2, h3, Option.isNone_none, if_true]
  simp [h4]
theorem work_callV (c : Call) (f : Operand) (hc : c.callee = .value f) : WorkOk (vCallV f c.args.toList) (.call c) := by
  intro P ih rnd β h w tm arr b k ds cs ops i rest o x hC hR ho hi hw _ _ hr hρ hx hd
  obtain ⟨fv, h1, h2⟩ := obind_some.1 hx
  obtain ⟨f3, h3, h4⟩ := obind_some.1 h2
  obtain ⟨args, h5, h6⟩ := obind_some.1 h4
  have hfv := hρ f fv h1
  rw [toFunc_some h3] at hfv
  have hl := evalL_sim hρ _ _ h5
  have hn : NoDefer b o := .inr fun c => by rw [ho]; intro e; cases e
  rw [bcase_eq] at h6
  split at h6
  · rename_i hcl
    obtain ⟨g, fn, hg, hfn, hb, hnm, hor⟩ := isClone_some hcl
    cases hq : evl arr f with
    | func f' first' cap' =>
      rw [hq] at hfv
      cases hfv with
      | @func _ _ _ _ first' cap' hf ha hcp =>
        rw [hg] at hf
        cases hf
        have hall := (ha.append hl).append hcp
        unfold cloneM at h6
        split at h6
        · rename_i t r hargs
          split at h6
          · rename_i es clock hobj
            rw [Heap.push_eq] at h6
            cases h6
            rw [Heap.obj_eq] at hobj
            rw [hargs] at hall
            generalize hvs : first' ++ List.map (evl arr) c.args.toList ++ cap' = vs at hall
            cases hall with
            | cons hv hnil =>
              cases hnil
              cases hv with
              | iface _ hv =>
                cases hv with
                | @map _ rr m hbr =>
                  obtain ⟨o', e1, e2⟩ := hr.obj r _ _ _ hobj hbr
                  cases e2 with
                  | map _ hes =>
                    rename_i es'
                    have hnx : β h.next = none := hd.next (by show _ < h.next.succ.toNat; rw [Pos.toNat_succ]; omega)
                    have ho2 : OR (β.set h.next (w.heap.size, 0)) 0 (.map es clock) (.map es' clock) := .map _ (hes.mono (Ren.le_set hnx))
                    obtain ⟨k1, k2⟩ := hr.push hnx ho2
                    refine ⟨.iface t (.map (some w.heap.size)), w.alloc (.map es' clock), _, Steps.one (s_value hi hw hn ?_), k1, k2, .iface _ (.map (Ren.set_same _ _))⟩
                    have e : (execOp (evl arr) o).run P w = (invoke (.fn (.func g) (Array.mk cap')) (Array.mk (first' ++ List.map (evl arr) c.args.toList))).run P w := by
                      simp only [execOp, ho, resolve, hc, hq, Deferred.ofValue, Sem.run_bind, Sem.run_pure, Result.andThen_ok]
                      congr 2
                      apply Array.ext'; simp
                    rw [e]
                    have e3 : (Array.mk (first' ++ List.map (evl arr) c.args.toList) ++ Array.mk cap' : Array Value) = #[.iface t (.map (some rr))] := by
                      apply Array.ext'; simp; simpa using hvs
                    simp only [invoke, e3]
                    exact run_clone hfn hb hnm hor e1
          · cases h6
        · cases h6
    | _ => rw [hq] at hfv; cases hfv
  cases hq : evl arr f with
  | func f' first' cap' =>
    rw [hq] at hfv
    cases hfv with
    | @func _ _ _ _ first' cap' hf ha hcp =>
      refine work_begins hC hR hi hw hn hr (ha.append hl) hd ?_
      have hbg := callT_sim (w := w) hf hcp (ha.append hl) h6
      have e : (execOp (evl arr) o).run P w = (invoke (.fn f' (Array.mk cap')) (Array.mk (first' ++ List.map (evl arr) c.args.toList))).run P w := by
        simp only [execOp, ho, resolve, hc, hq, Deferred.ofValue, Sem.run_bind, Sem.run_pure, Result.andThen_ok]
        congr 2
        apply Array.ext'; simp
      rcases hbg with ⟨g, as, as', e1, e2⟩ | ⟨p, r, n, e1, e2, e3⟩
      · exact .inl ⟨g, as, as', by rw [e, e1], e2⟩
      · exact .inr ⟨p, r, n, e1, e2, fun L hL hn => by rw [e, e3 L hL hn]⟩
  | _ => rw [hq] at hfv; cases hfv
theorem work_invoke (c : Call) (r : Operand) (name : String) (hc : c.callee = .invoke r name) : WorkOk (vInvoke r name c.args.toList) (.call c) := by
  intro P ih rnd β h w tm arr b k ds cs ops i rest o x hC hR ho hi hw _ _ hr hρ hx hd
  obtain ⟨rv, h1, h2⟩ := obind_some.1 hx
  obtain ⟨args, h5, h6⟩ := obind_some.1 h2
  have hl := evalL_sim hρ _ _ h5
  have hn : NoDefer b o := .inr fun c => by rw [ho]; intro e; cases e
  refine work_begins hC hR hi hw hn hr hl hd (.inl ?_)
  obtain ⟨g, as, as', e1, e2⟩ := callM_sim (w := w) (hρ r rv h1) hl h6
  refine ⟨g, as, as', ?_, e2⟩
  rw [← e1]
  have ea : (#[evl arr r] ++ c.args.map (evl arr)) = Array.mk (evl arr r :: c.args.toList.map (evl arr)) := by apply Array.ext'; simp
  have eb : (Array.mk (evl arr r :: c.args.toList.map (evl arr))).extract 1 (Array.mk (evl arr r :: c.args.toList.map (evl arr))).size = Array.mk (c.args.toList.map (evl arr)) := by
    apply Array.ext'; simp [List.take_of_length_le]
  simp only [execOp, ho, resolve, hc, Sem.run_bind, Sem.run_pure, Result.andThen_ok, invoke, ea, eb]
  rfl
theorem work_recover (c : Call) (hc : c.callee = .builtin .recover) : WorkOk (vRecover c.args.toList c.argTypes.toList) (.call c) := by
  intro P ih rnd β h w tm arr b k ds cs ops i rest o x _ _ ho hi hw hrd hq hr hρ hx _
  obtain ⟨l, _, h2⟩ := obind_some.1 hx
  cases rnd with
  | some p => cases h2
  | none =>
    cases h2
    refine ⟨.nilIface, w, β, Steps.one (s_recover hi hw hrd (QuietK.recover (fr := frm b arr (.inRegion ops (i :: rest) :: k) ds) hq) ?_), hr, Ext.refl _ _ _, .nilIface⟩
    rw [run_builtin o ho hc]
    simp [builtin]
theorem toChan {v' : Value} {p : Pos} (h : VR β (.chan (some p)) v') : ∃ r n, β p = some (r, n) ∧ v' = .chan (some r) := by
  cases h with
  | chan hb => exact ⟨_, _, hb, rfl⟩
theorem work_send (c y : Operand) : WorkOk (vSend c y) (.send c y) := by
  intro P ih rnd β h w tm arr b k ds cs ops i rest o x _ _ ho hi hw _ _ hr hρ hx _
  obtain ⟨cv, h1, h2⟩ := obind_some.1 hx
  obtain ⟨yv, h3, h4⟩ := obind_some.1 h2
  unfold sendA at h4
  split at h4
  · rename_i p
    split at h4
    · rename_i cap buf s rc hobj
      obtain ⟨r, n, hb, hc⟩ := toChan (hρ c _ h1)
      rw [Heap.obj_eq] at hobj
      obtain ⟨o', e1, e2⟩ := hr.obj p _ r n hobj hb
      cases e2 with
      | @chan _ _ buf' _ _ hbuf =>
        cases hlt : Nat.blt buf.length cap with
        | false => rw [hlt] at h4; cases h4
        | true =>
          rw [hlt] at h4
          simp only [cond_true, Heap.put_eq] at h4
          cases h4
          have hlt' : buf'.size < cap := by
            have := hlt; rw [Nat.blt_eq] at this
            have hl := hbuf.length
            simp at hl
            omega
          have hn : NoDefer b o := .inr fun c => by rw [ho]; intro e; cases e
          have ht := hr.turn (o₁ := .chan cap (buf ++ [yv]) (s + 1) rc) hobj (by intro e; cases e) hb (o' := .chan cap (buf'.push (evl arr y)) false (s + 1) rc false)
            (.chan cap (s + 1) rc (by simpa using hbuf.append (.cons (hρ y _ h3) .nil)))
          exact ⟨undef, _, β, Steps.one (s_send (zero := .tuple #[]) hi hw hn (by simp only [execOp, ho, hc, Sem.run_pure]) e1 hlt'), ht.1, ht.2, undef_VR β⟩
    · cases h4
  · cases h4
theorem chanZ_some {t : TypeId} {z : AV} (h : chanZ P t = some z) : ∃ d e, P.underlying t = some (.chan d e) ∧ zeroA P e = some z := by
  unfold chanZ at h
  split at h
  · rename_i d e hu; exact ⟨d, e, hu, h⟩
  · cases h
theorem work_recv (t : TypeId) (c : Operand) (ok : Bool) : WorkOk (vRecv t c ok) (.recv t c ok) := by
  intro P ih rnd β h w tm arr b k ds cs ops i rest o x _ _ ho hi hw _ _ hr hρ hx _
  obtain ⟨z, h0, h2⟩ := obind_some.1 hx
  obtain ⟨cv, h1, h4⟩ := obind_some.1 h2
  obtain ⟨d, e, hu, hz⟩ := chanZ_some h0
  obtain ⟨z', ez, _⟩ := zeroA_VR (β := β) hz w
  unfold recvA at h4
  split at h4
  · rename_i p
    split at h4
    · rename_i cap v buf s rc hobj
      obtain ⟨r, n, hb, hc⟩ := toChan (hρ c _ h1)
      rw [Heap.obj_eq] at hobj
      obtain ⟨o', e1, e2⟩ := hr.obj p _ r n hobj hb
      cases e2 with
      | @chan _ _ buf' _ _ hbuf =>
        obtain ⟨bl⟩ := buf'
        simp only at hbuf
        cases hbuf with
        | @cons _ v' _ bl' hv hbl =>
          simp only [Heap.put_eq] at h4
          cases h4
          have hn : NoDefer b o := .inr fun c => by rw [ho]; intro e; cases e
          have ht := hr.turn (o₁ := .chan cap buf s (rc + 1)) hobj (by intro e; cases e) hb (o' := .chan cap (Array.mk bl') false s (rc + 1) false)
            (.chan cap s (rc + 1) hbl)
          refine ⟨if ok then .tuple #[v', .bool true] else v', _, β, Steps.one (s_recv hi hw hn (by simp [execOp, ho, hc, run_underlying hu, ez]; rfl) e1), ht.1, ht.2, ?_⟩
          cases ok
          · exact hv
          · exact .tuple (l' := [v', .bool true]) (.cons hv (.cons (.bool true) .nil))
    · cases h4
  · cases h4
end Go.Am

/- Every operation by its kind. -/
namespace Go.Am

/-- What a kind says of the operation. -/
inductive ClsOk : Cls → Op → Prop where
  | lite {f : Lt} {op : Op} (force reads : Bool) (h : LtOk f op) (hr : reads = false → ∀ P h h' tm, f P h tm = f P h' tm) (hn : ∀ c, op ≠ .defer c) : ClsOk (.lite f force reads) op
  | lay {f : Fs} {op : Op} (h : FsOk f op) (hn : ∀ c, op ≠ .defer c) : ClsOk (.lay f) op
  | work {f : Hv} {op : Op} (h : WorkOk f op) : ClsOk (.work f) op
  | late {c : Call} {f : Operand} (h : c.callee = .value f) : ClsOk (.late f c.args.toList) (.defer c)
  | no (op : Op) : ClsOk .no op
theorem cls_call (c : Call) : ClsOk (clsOf (.call c)) (.call c) := by
  obtain ⟨callee, args, ts⟩ := c
  cases callee with
  | value f => exact .work (work_callV ⟨.value f, args, ts⟩ f rfl)
  | invoke r n => exact .work (work_invoke ⟨.invoke r n, args, ts⟩ r n rfl)
  | builtin bi =>
    cases bi with
    | append => exact .work ((ok_append ⟨.builtin .append, args, ts⟩ rfl).work fun _ e => by cases e)
    | copy => exact .work ((ok_copy ⟨.builtin .copy, args, ts⟩ rfl).work fun _ e => by cases e)
    | clear => exact .work ((ok_clear ⟨.builtin .clear, args, ts⟩ rfl).work fun _ e => by cases e)
    | recover => exact .work (work_recover ⟨.builtin .recover, args, ts⟩ rfl)
    | len => exact .lite _ _ (ok_len ⟨.builtin .len, args, ts⟩ rfl) (fun e => by cases e) (fun _ e => by cases e)
    | cap => exact .lite _ _ (ok_cap ⟨.builtin .cap, args, ts⟩ rfl) (fun _ _ _ _ _ => rfl) (fun _ e => by cases e)
    | max => exact .lite _ _ (ok_max ⟨.builtin .max, args, ts⟩ rfl) (fun _ _ _ _ _ => rfl) (fun _ e => by cases e)
    | min => exact .lite _ _ (ok_min ⟨.builtin .min, args, ts⟩ rfl) (fun _ _ _ _ _ => rfl) (fun _ e => by cases e)
    | _ => exact .no _
theorem cls_defer (c : Call) : ClsOk (clsOf (.defer c)) (.defer c) := by
  obtain ⟨callee, args, ts⟩ := c
  cases callee with
  | value f => exact .late (c := ⟨.value f, args, ts⟩) rfl
  | invoke r n => exact .no _
  | builtin bi => exact .no _
theorem cls_ok (op : Op) : ClsOk (clsOf op) op := by
  cases op with
  | call c => exact cls_call c
  | defer c => exact cls_defer c
  | move x => exact .lite _ _ (ok_move x) (fun _ _ _ _ _ => rfl) (fun _ e => by cases e)
  | assign x => exact .lite _ _ (ok_assign x) (fun _ _ _ _ _ => rfl) (fun _ e => by cases e)
  | pick c a b => exact .lite _ _ (ok_pick c a b) (fun _ _ _ _ _ => rfl) (fun _ e => by cases e)
  | alloc t => exact .lay (ok_alloc t) (fun _ e => by cases e)
  | box t x => exact .lay (ok_box t x) (fun _ e => by cases e)
  | build t ps => exact .lite _ _ (ok_build t ps) (fun _ _ _ _ _ => rfl) (fun _ e => by cases e)
  | buildSlice t n ps => exact .lay (ok_buildSlice t n ps) (fun _ e => by cases e)
  | mapUpdate t m k x => exact .work ((ok_mapPut t m k x).work fun _ e => by cases e)
  | insert t m k x => exact .work ((ok_insert t m k x).work fun _ e => by cases e)
  | mapEntry t m k => exact .work ((ok_mapEntry t m k).work fun _ e => by cases e)
  | entryStore t m s x => exact .work ((ok_entryStore t m s x).work fun _ e => by cases e)
  | load t a => exact .lite _ _ (ok_load t a) (fun e => by cases e) (fun _ e => by cases e)
  | store t a x => exact .work ((ok_store t a x).work fun _ e => by cases e)
  | nilCheck x => exact .lite _ _ (ok_nilCheck x) (fun _ _ _ _ _ => rfl) (fun _ e => by cases e)
  | binOp op t x y u => exact .lite _ _ (ok_bin op t x y u) (fun _ _ _ _ _ => rfl) (fun _ e => by cases e)
  | unOp op t x => exact .lite _ _ (ok_un op t x) (fun _ _ _ _ _ => rfl) (fun _ e => by cases e)
  | convert s d x => exact .lite _ _ (ok_conv s d x) (fun _ _ _ _ _ => rfl) (fun _ e => by cases e)
  | makeInterface t x => exact .lite _ _ (ok_mkIface t x) (fun _ _ _ _ _ => rfl) (fun _ e => by cases e)
  | makeFunc fn a c => exact .lite _ _ (ok_mkFunc fn a c) (fun _ _ _ _ _ => rfl) (fun _ e => by cases e)
  | makeMap t r => exact .lay (ok_makeMap t r) (fun _ e => by cases e)
  | makeChan t s => exact .lay (ok_makeChan t s) (fun _ e => by cases e)
  | makeSlice t l c => exact .lay (ok_makeSlice t l c) (fun _ e => by cases e)
  | slice t x lo hi mx => exact .lite _ _ (ok_slice t x lo hi mx) (fun _ _ _ _ _ => rfl) (fun _ e => by cases e)
  | fieldAddr t x f => exact .lite _ _ (ok_fieldAddr t x f) (fun _ _ _ _ _ => rfl) (fun _ e => by cases e)
  | field t x f => exact .lite _ _ (ok_field t x f) (fun _ _ _ _ _ => rfl) (fun _ e => by cases e)
  | indexAddr t x i => exact .lite _ _ (ok_indexAddr t x i) (fun _ _ _ _ _ => rfl) (fun _ e => by cases e)
  | index t x i => exact .lite _ _ (ok_index t x i) (fun _ _ _ _ _ => rfl) (fun _ e => by cases e)
  | lookup t x i ok => exact .lite _ _ (ok_lookup t x i ok) (fun e => by cases e) (fun _ e => by cases e)
  | typeAssert x t u ok => exact .lite _ _ (ok_assert x t u ok) (fun _ _ _ _ _ => rfl) (fun _ e => by cases e)
  | extract x i => exact .lite _ _ (ok_extract x i) (fun _ _ _ _ _ => rfl) (fun _ e => by cases e)
  | send c x => exact .work (work_send c x)
  | recv t c ok => exact .work (work_recv t c ok)
  | _ => exact .no _
end Go.Am

/- New blocks only: the next name never falls back. -/
namespace Go.Am
variable {P : Program} {h : Heap}

def nx (h : Heap) : Nat := h.next.toNat
structure ExMono (ih : Ex) : Prop where
  code : ∀ c rnd fc s x, ih.code c rnd fc s = some x → nx s.h ≤ nx x.2.h
  call : ∀ f args h x, ih.call f args h = some x → nx h ≤ nx x.2
  round : ∀ p args h x, ih.round p args h = some x → nx h ≤ nx x.2
def MonoV (f : Hv) : Prop := ∀ P ih rnd h tm x, ExMono ih → f P ih rnd h tm = some x → nx h ≤ nx x.2
theorem nx_put (h : Heap) (p : Pos) (o : AObj) : nx ⟨PTree.set o p h.t, h.next⟩ = nx h := rfl
theorem nx_push (h : Heap) (o : AObj) : nx ⟨PTree.set o h.next h.t, h.next.succ⟩ = nx h + 1 := Pos.toNat_succ _

theorem mono_store (t : TypeId) (a y : Operand) : MonoV (vStore t a y) := by
  intro P ih rnd h tm x _ hx
  obtain ⟨a, _, hx⟩ := obind_some.1 hx
  obtain ⟨v, _, hx⟩ := obind_some.1 hx
  obtain ⟨a, _, hx⟩ := obind_some.1 hx
  obtain ⟨n, _, hx⟩ := obind_some.1 hx
  obtain ⟨v, _, hx⟩ := obind_some.1 hx
  obtain ⟨c, _, hx⟩ := obind_some.1 hx
  obtain ⟨_, hx⟩ := bcase_none hx
  obtain ⟨c, _, hx⟩ := obind_some.1 hx
  rw [forceL_eq, Heap.put_eq] at hx
  cases hx; exact Nat.le_refl _
theorem mono_grow {c : List AV} {len sz : Nat} {x : AV × Heap} (hx : grow h c len sz = some x) : nx h ≤ nx x.2 := by
  unfold grow at hx
  rw [forceL_eq, Heap.push_eq] at hx
  cases hx
  rw [nx_push]; omega
theorem mono_appN {a : Option AAd} {len cap : Nat} {u : Option Nat} {n sz : Nat} {new : List AV} {x : AV × Heap} (hx : appN h a len cap u n sz new = some x) : nx h ≤ nx x.2 := by
  unfold appN at hx
  split at hx
  · obtain ⟨_, hx⟩ := bcase_none hx
    exact mono_grow hx
  · obtain ⟨c, _, hx⟩ := obind_some.1 hx
    rw [bcase_eq] at hx
    split at hx
    · obtain ⟨c, _, hx⟩ := obind_some.1 hx
      rw [forceL_eq, Heap.put_eq] at hx
      cases hx; exact Nat.le_refl _
    · obtain ⟨old, _, hx⟩ := obind_some.1 hx
      exact mono_grow hx
  · rw [bcase_eq] at hx
    split at hx
    · obtain ⟨c, _, hx⟩ := obind_some.1 hx
      obtain ⟨c2, _, hx⟩ := obind_some.1 hx
      rw [forceL_eq, Heap.put_eq] at hx
      cases hx; exact Nat.le_refl _
    · obtain ⟨c, _, hx⟩ := obind_some.1 hx
      obtain ⟨_, hx⟩ := bcase_none hx
      obtain ⟨old, _, hx⟩ := obind_some.1 hx
      rw [Heap.put_eq] at hx
      have hm := mono_grow hx
      exact hm
  · cases hx
theorem mono_appendS {i : TypeInfo} {z : List AV} {a b : AV} {X : Option AAd × Nat × Nat × Option Nat} {n : Nat} {x : AV × Heap} (hx : appendS h i z a b X n = some x) : nx h ≤ nx x.2 := by
  unfold appendS at hx
  obtain ⟨_, hx⟩ := bcase_none hx
  rw [bcase_eq] at hx
  split at hx
  · cases hx; exact Nat.le_refl _
  · obtain ⟨new, _, hx⟩ := obind_some.1 hx
    exact mono_appN hx
theorem mono_appendZ {i : TypeInfo} {z : List AV} {a : AV} {X : Option AAd × Nat × Nat × Option Nat} {n : Nat} {x : AV × Heap} (hx : appendZ h i z a X n = some x) : nx h ≤ nx x.2 := by
  unfold appendZ at hx
  obtain ⟨_, hx⟩ := bcase_none hx
  rw [bcase_eq] at hx
  split at hx
  · cases hx; exact Nat.le_refl _
  · exact mono_appN hx
theorem mono_append (a : List Operand) (t : List TypeId) : MonoV (vAppend a t) := by
  intro P ih rnd h tm x _ hx
  obtain ⟨_, _, hx⟩ := obind_some.1 hx
  obtain ⟨_, _, hx⟩ := obind_some.1 hx
  obtain ⟨_, _, hx⟩ := obind_some.1 hx
  obtain ⟨_, _, hx⟩ := obind_some.1 hx
  rw [bcase_eq] at hx
  split at hx
  · obtain ⟨_, _, hx⟩ := obind_some.1 hx
    obtain ⟨_, _, hx⟩ := obind_some.1 hx
    obtain ⟨_, _, hx⟩ := obind_some.1 hx
    obtain ⟨_, _, hx⟩ := obind_some.1 hx
    exact mono_appendS hx
  · obtain ⟨_, hx⟩ := bcase_none hx
    obtain ⟨_, _, hx⟩ := obind_some.1 hx
    obtain ⟨_, _, hx⟩ := obind_some.1 hx
    obtain ⟨_, _, hx⟩ := obind_some.1 hx
    obtain ⟨_, _, hx⟩ := obind_some.1 hx
    exact mono_appendZ hx
theorem mono_copy (a : List Operand) (t : List TypeId) : MonoV (vCopy a t) := by
  intro P ih rnd h tm x _ hx
  obtain ⟨_, _, hx⟩ := obind_some.1 hx
  obtain ⟨_, _, hx⟩ := obind_some.1 hx
  obtain ⟨_, _, hx⟩ := obind_some.1 hx
  obtain ⟨_, _, hx⟩ := obind_some.1 hx
  obtain ⟨_, _, hx⟩ := obind_some.1 hx
  obtain ⟨_, _, hx⟩ := obind_some.1 hx
  rw [forceN_eq] at hx
  obtain ⟨_, _, hx⟩ := obind_some.1 hx
  unfold copyC at hx
  split at hx
  · cases hx; exact Nat.le_refl _
  · obtain ⟨_, _, hx⟩ := obind_some.1 hx
    obtain ⟨_, _, hx⟩ := obind_some.1 hx
    rw [forceL_eq, Heap.put_eq] at hx
    cases hx; exact Nat.le_refl _
theorem mono_clear (a : List Operand) (t : List TypeId) : MonoV (vClear a t) := by
  intro P ih rnd h tm x _ hx
  obtain ⟨_, _, hx⟩ := obind_some.1 hx
  obtain ⟨_, _, hx⟩ := obind_some.1 hx
  obtain ⟨_, _, hx⟩ := obind_some.1 hx
  obtain ⟨_, _, hx⟩ := obind_some.1 hx
  obtain ⟨_, _, hx⟩ := obind_some.1 hx
  unfold clearC at hx
  split at hx
  · cases hx; exact Nat.le_refl _
  · rw [bcase_eq] at hx
    split at hx
    · cases hx; exact Nat.le_refl _
    · obtain ⟨_, _, hx⟩ := obind_some.1 hx
      obtain ⟨_, _, hx⟩ := obind_some.1 hx
      rw [forceL_eq, Heap.put_eq] at hx
      cases hx; exact Nat.le_refl _
theorem mono_mapPut (t : TypeId) (m k y : Operand) : MonoV (vMapPut t m k y) := by
  intro P ih rnd h tm x _ hx
  obtain ⟨_, _, hx⟩ := obind_some.1 hx
  obtain ⟨_, _, hx⟩ := obind_some.1 hx
  obtain ⟨_, _, hx⟩ := obind_some.1 hx
  unfold mapPutA at hx
  split at hx
  · split at hx
    · split at hx
      · rw [Heap.put_eq] at hx; cases hx; exact Nat.le_refl _
      · rw [Heap.put_eq] at hx; cases hx; exact Nat.le_refl _
      · cases hx
    · cases hx
  · cases hx
theorem mono_mapEntry (t : TypeId) (m k : Operand) : MonoV (vMapEntry t m k) := by
  intro P ih rnd h tm x _ hx
  obtain ⟨_, _, hx⟩ := obind_some.1 hx
  obtain ⟨_, _, hx⟩ := obind_some.1 hx
  unfold mapEntryA at hx
  split at hx
  · split at hx
    · split at hx
      · split at hx
        · rw [Heap.put_eq] at hx; cases hx; exact Nat.le_refl _
        · cases hx
      · split at hx
        · rw [Heap.put_eq] at hx; cases hx; exact Nat.le_refl _
        · cases hx
      · cases hx
    · cases hx
  · cases hx
theorem mono_entryStore (m k y : Operand) : MonoV (vEntryStore m k y) := by
  intro P ih rnd h tm x _ hx
  obtain ⟨_, _, hx⟩ := obind_some.1 hx
  obtain ⟨_, _, hx⟩ := obind_some.1 hx
  obtain ⟨_, _, hx⟩ := obind_some.1 hx
  unfold entryStoreA at hx
  split at hx
  · split at hx
    · split at hx
      · rw [Heap.put_eq] at hx; cases hx; exact Nat.le_refl _
      · cases hx
    · cases hx
  · cases hx
theorem mono_send (c y : Operand) : MonoV (vSend c y) := by
  intro P ih rnd h tm x _ hx
  obtain ⟨_, _, hx⟩ := obind_some.1 hx
  obtain ⟨_, _, hx⟩ := obind_some.1 hx
  unfold sendA at hx
  split at hx
  · split at hx
    · cases hb : Nat.blt _ _ with
      | false => rw [hb] at hx; cases hx
      | true => rw [hb] at hx; simp only [cond_true, Heap.put_eq] at hx; cases hx; exact Nat.le_refl _
    · cases hx
  · cases hx
theorem mono_recv (t : TypeId) (c : Operand) (ok : Bool) : MonoV (vRecv t c ok) := by
  intro P ih rnd h tm x _ hx
  obtain ⟨_, _, hx⟩ := obind_some.1 hx
  obtain ⟨_, _, hx⟩ := obind_some.1 hx
  unfold recvA at hx
  split at hx
  · split at hx
    · rw [Heap.put_eq] at hx; cases hx; exact Nat.le_refl _
    · cases hx
  · cases hx
theorem mono_recover (a : List Operand) (t : List TypeId) : MonoV (vRecover a t) := by
  intro P ih rnd h tm x _ hx
  obtain ⟨_, _, hx⟩ := obind_some.1 hx
  cases rnd with
  | none => cases hx; exact Nat.le_refl _
  | some p => cases hx
theorem mono_enterA {ih : Ex} {f : FuncId} {args : List AV} {x : AV × Heap} (hm : ExMono ih) (hx : enterA P ih f args h = some x) : nx h ≤ nx x.2 := by
  obtain ⟨_, _, _, _, _, hc⟩ := enterA_some hx
  exact hm.call _ _ _ _ hc
theorem mono_callM {ih : Ex} {r : AV} {name : String} {args : List AV} {x : AV × Heap} (hm : ExMono ih) (hx : callM P ih r name args h = some x) : nx h ≤ nx x.2 := by
  unfold callM at hx
  split at hx
  · split at hx
    · exact mono_enterA hm hx
    · cases hx
  · cases hx
theorem mono_callT {ih : Ex} {f : AFn} {cap args : List AV} {x : AV × Heap} (hm : ExMono ih) (hx : callT P ih f cap args h = some x) : nx h ≤ nx x.2 := by
  unfold callT at hx
  split at hx
  · exact mono_enterA hm hx
  · exact hm.round _ _ _ _ hx
  · split at hx
    · exact mono_callM hm hx
    · cases hx
  · split at hx
    · exact mono_callM hm hx
    · exact mono_callM hm hx
    · cases hx
theorem mono_callV (f : Operand) (args : List Operand) : MonoV (vCallV f args) := by
  intro P ih rnd h tm x hm hx
  obtain ⟨_, _, hx⟩ := obind_some.1 hx
  obtain ⟨_, _, hx⟩ := obind_some.1 hx
  obtain ⟨_, _, hx⟩ := obind_some.1 hx
  rw [bcase_eq] at hx
  split at hx
  · unfold cloneM at hx
    split at hx
    · split at hx
      · rw [Heap.push_eq] at hx
        cases hx
        rw [nx_push]; omega
      · cases hx
    · cases hx
  · exact mono_callT hm hx
theorem mono_invoke (r : Operand) (name : String) (args : List Operand) : MonoV (vInvoke r name args) := by
  intro P ih rnd h tm x hm hx
  obtain ⟨_, _, hx⟩ := obind_some.1 hx
  obtain ⟨_, _, hx⟩ := obind_some.1 hx
  exact mono_callM hm hx
/-- Work of every kind. -/
theorem cls_mono (op : Op) (f : Hv) (hc : clsOf op = .work f) : MonoV f := by
  cases op with
  | call c =>
    obtain ⟨callee, args, ts⟩ := c
    cases callee with
    | value f => cases hc; exact mono_callV _ _
    | invoke r n => cases hc; exact mono_invoke _ _ _
    | builtin bi =>
      cases bi with
      | append => cases hc; exact mono_append _ _
      | copy => cases hc; exact mono_copy _ _
      | clear => cases hc; exact mono_clear _ _
      | recover => cases hc; exact mono_recover _ _
      | _ => cases hc
  | defer c =>
    obtain ⟨callee, args, ts⟩ := c
    cases callee <;> cases hc
  | mapUpdate t m k x => cases hc; exact mono_mapPut _ _ _ _
  | insert t m k x => cases hc; exact mono_mapPut _ _ _ _
  | mapEntry t m k => cases hc; exact mono_mapEntry _ _ _
  | entryStore t m s x => cases hc; exact mono_entryStore _ _ _
  | store t a x => cases hc; exact mono_store _ _ _
  | send c x => cases hc; exact mono_send _ _
  | recv t c ok => cases hc; exact mono_recv _ _ _
  | _ => cases hc
end Go.Am

/- New blocks only: regions, code, whole runs. -/
namespace Go.Am
variable {P : Program} {ih : Ex} {rnd : Option Pos} {fc : Fc}

theorem putS_some {nt : Nat} {dst : Option Tmp} {v : AV} {ov : List (Nat × AV)} {ds : List ADef} {h : Heap} {s : St} (hs : putS nt dst v ov ds h = some s) :
    (dst = none ∧ s = ⟨ov, ds, h⟩) ∨ ∃ d, dst = some d ∧ d < nt ∧ s = ⟨(d, v) :: ov, ds, h⟩ := by
  cases dst with
  | none => cases hs; exact .inl ⟨rfl, rfl⟩
  | some d =>
    obtain ⟨h1, h2⟩ := bcase_none (show bcase (Nat.blt d nt) none (some ⟨(d, v) :: ov, ds, h⟩) = some s from hs)
    cases h2
    exact .inr ⟨d, rfl, by rw [Nat.blt_eq] at h1; exact h1, rfl⟩
theorem putS_h {nt : Nat} {dst : Option Tmp} {v : AV} {ov : List (Nat × AV)} {ds : List ADef} {h : Heap} {s : St} (hs : putS nt dst v ov ds h = some s) : s.h = h ∧ s.ds = ds := by
  rcases putS_some hs with ⟨_, rfl⟩ | ⟨_, _, _, rfl⟩ <;> exact ⟨rfl, rfl⟩
theorem mono_opH (hm : ExMono ih) {op : Op} {tm : PTree AV} {dst : Option Tmp} {ov : List (Nat × AV)} {ds : List ADef} {h : Heap} {s : St}
    (hs : opH op P ih rnd fc tm dst ov ds h = some s) : nx h ≤ nx s.h := by
  unfold opH at hs
  cases hc : clsOf op with
  | lite f force reads =>
    rw [hc] at hs
    obtain ⟨v, _, h2⟩ := obind_some.1 (show obind (f P h ⟨tm, ov⟩) _ = some s from hs)
    rw [bcase_eq, forceV_eq, ite_self] at h2
    rw [(putS_h h2).1]; exact Nat.le_refl _
  | lay f =>
    rw [hc] at hs
    obtain ⟨⟨o, v⟩, _, h2⟩ := obind_some.1 (show obind (f P ⟨tm, ov⟩) _ = some s from hs)
    simp only [Heap.push_eq] at h2
    rw [(putS_h h2).1, nx_push]; omega
  | work f =>
    rw [hc] at hs
    obtain ⟨⟨v, h'⟩, h1, h2⟩ := obind_some.1 (show obind (f P ih rnd h ⟨tm, ov⟩) (fin dst fc.nt ov ds) = some s from hs)
    have := cls_mono op f hc P ih rnd h _ _ hm h1
    rw [(putS_h (show putS fc.nt dst v ov ds h' = some s from h2)).1]; exact this
  | late f args =>
    rw [hc] at hs
    cases rnd with
    | some p => cases hs
    | none =>
      obtain ⟨_, _, hs⟩ := obind_some.1 (show obind (evalO ⟨tm, ov⟩ f) _ = some s from hs)
      obtain ⟨_, _, hs⟩ := obind_some.1 hs
      obtain ⟨_, _, hs⟩ := obind_some.1 hs
      rw [(putS_h hs).1]; exact Nat.le_refl _
  | no => rw [hc] at hs; cases hs
theorem mono_stepA (hm : ExMono ih) {ops : List Oper} {tm : PTree AV} {o : Oper} {s s' : St} (hs : stepA P ih rnd ops fc tm o s = some s') : nx s.h ≤ nx s'.h := by
  obtain ⟨ov, ds, h⟩ := s
  unfold stepA at hs
  cases hg : o.guard with
  | none => simp only [hg] at hs; exact mono_opH hm hs
  | some g =>
    obtain ⟨j, w⟩ := g
    simp only [hg] at hs
    obtain ⟨b, _, h2⟩ := obind_some.1 hs
    cases b with
    | false => rw [(putS_h (show putS fc.nt o.dst undefA ov ds h = some s' from h2)).1]; exact Nat.le_refl _
    | true => exact mono_opH hm (show opH o.op P ih rnd fc tm o.dst ov ds h = some s' from h2)
theorem mono_opsA (hm : ExMono ih) {ops : List Oper} {tm : PTree AV} : ∀ {l : List Oper} {s s' : St}, opsA P ih rnd ops fc tm l s = some s' → nx s.h ≤ nx s'.h
  | [], s, s', hs => by cases hs; exact Nat.le_refl _
  | o :: l, s, s', hs => by
    obtain ⟨s₁, h1, h2⟩ := obind_some.1 (show obind (stepA P ih rnd ops fc tm o s) (opsA P ih rnd ops fc tm l) = some s' from hs)
    exact Nat.le_trans (mono_stepA hm h1) (mono_opsA hm h2)
theorem putD_some {nt i : Nat} {dst : Option Tmp} {v : AV} {es : List (Nat × Nat × AV)} {dm : Nat} {k : List (Nat × Nat × AV) → Nat → Option Dr} {s : Dr} (hs : putD nt i dst v es dm k = some s) :
    (dst = none ∧ k es dm = some s) ∨ ∃ d, dst = some d ∧ d < nt ∧ hasB dm d = false ∧ k ((i, d, v) :: es) (Nat.lor dm (bitN d)) = some s := by
  cases dst with
  | none => exact .inl ⟨rfl, hs⟩
  | some d =>
    obtain ⟨h1, h2⟩ := bcase_none (show bcase (and (Nat.blt d nt) (not (hasB dm d))) none _ = some s from hs)
    rw [forceN_eq] at h2
    simp only [Bool.and_eq_true, Bool.not_eq_true'] at h1
    exact .inr ⟨d, rfl, by have := h1.1; rw [Nat.blt_eq] at this; exact this, h1.2, h2⟩
theorem putD_h {nt i : Nat} {dst : Option Tmp} {v : AV} {es : List (Nat × Nat × AV)} {dm : Nat} {k : List (Nat × Nat × AV) → Nat → Option Dr} {s : Dr} (hs : putD nt i dst v es dm k = some s) :
    ∃ es dm, k es dm = some s := by
  rcases putD_some hs with ⟨_, h⟩ | ⟨d, _, _, _, h⟩ <;> exact ⟨_, _, h⟩
theorem stayD_eq {β : Type} (a : Nat) (lv : Lv) (k : Lv → β) : stayD a lv k = k (lv.filter fun x => !hasB a x.1) := by
  induction lv generalizing k with
  | nil => rfl
  | cons x l ih =>
    show bcase (hasB a x.1) (stayD a l fun l => k (x :: l)) (stayD a l k) = _
    rw [bcase_eq, ih, ih]
    cases hb : hasB a x.1 <;> simp [hb]
theorem eventD_some {nt i a : Nat} {dst : Option Tmp} {v : AV} {es : List (Nat × Nat × AV)} {dm em : Nat} {evs : List (Nat × Heap)} {lv : Lv} {h h' : Heap} {s : Dr}
    (hs : eventD nt i a dst v es dm em evs lv h h' = some s) :
    ∃ es' dm', s = ⟨es', dm', Nat.lor em (bitN i), (Nat.lor em (bitN i), h) :: evs, lv.filter fun x => !hasB a x.1, h'⟩ ∧ sureD h' (lv.filter fun x => !hasB a x.1) = true ∧
      ((dst = none ∧ es' = es ∧ dm' = dm) ∨ ∃ d, dst = some d ∧ d < nt ∧ hasB dm d = false ∧ es' = (i, d, v) :: es ∧ dm' = Nat.lor dm (bitN d)) := by
  have key : ∀ es' dm', (forceN (Nat.lor em (bitN i)) fun em => stayD a lv fun lv => bcase (sureD h' lv) none (some (⟨es', dm', em, (em, h) :: evs, lv, h'⟩ : Dr))) = some s →
      s = ⟨es', dm', Nat.lor em (bitN i), (Nat.lor em (bitN i), h) :: evs, lv.filter fun x => !hasB a x.1, h'⟩ ∧ sureD h' (lv.filter fun x => !hasB a x.1) = true := by
    intro es' dm' hk
    rw [forceN_eq, stayD_eq] at hk
    obtain ⟨h1, h2⟩ := bcase_none hk
    cases h2
    exact ⟨rfl, h1⟩
  rcases putD_some hs with ⟨e, hk⟩ | ⟨d, e1, e2, e3, hk⟩
  · obtain ⟨h1, h2⟩ := key _ _ hk
    exact ⟨_, _, h1, h2, .inl ⟨e, rfl, rfl⟩⟩
  · obtain ⟨h1, h2⟩ := key _ _ hk
    exact ⟨_, _, h1, h2, .inr ⟨d, e1, e2, e3, rfl, rfl⟩⟩
theorem pickK_eq {β : Type} (a : Nat) (es : List (Nat × Nat × AV)) (k : List (Nat × AV) → β) : pickK a es k = k ((es.filter fun x => hasB a x.1).map (·.2)) := by
  induction es generalizing k with
  | nil => rfl
  | cons x l ih =>
    obtain ⟨i, y⟩ := x
    show bcase (hasB a i) (pickK a l k) (pickK a l fun l => k (y :: l)) = _
    rw [bcase_eq, ih, ih]
    cases hb : hasB a i <;> simp [hb]
/-- What is seen of the values in a run along one order. -/
def seen (a : Nat) (es : List (Nat × Nat × AV)) : List (Nat × AV) := (es.filter fun x => hasB a x.1).map (·.2)
/-- One operation of a drawn region. -/
theorem drawOp_some {ops : List Oper} {tm : PTree AV} {x : Pl} {s s' : Dr} (hs : drawOp P ih rnd ops fc tm x s = some s') :
    ∃ g, wantD ops ⟨tm, seen x.a s.es⟩ x.o.guard = some g ∧
      ((g = false ∧ putD fc.nt x.i x.o.dst undefA s.es s.dm (fun es dm => some ⟨es, dm, s.em, s.evs, s.lv, s.h⟩) = some s') ∨
       (g = true ∧ ((∃ f force reads v, clsOf x.o.op = .lite f force reads ∧ f P s.h ⟨tm, seen x.a s.es⟩ = some v ∧
          ((reads = false ∧ putD fc.nt x.i x.o.dst v s.es s.dm (fun es dm => some ⟨es, dm, s.em, s.evs, s.lv, s.h⟩) = some s') ∨
           (reads = true ∧ backD x.a (fun h => f P h ⟨tm, seen x.a s.es⟩) v s.evs = true ∧
            putD fc.nt x.i x.o.dst v s.es s.dm (fun es dm => some ⟨es, dm, s.em, s.evs, (x.i, (fun h => f P h ⟨tm, seen x.a s.es⟩), v) :: s.lv, s.h⟩) = some s'))) ∨
         (∃ f ob mk, clsOf x.o.op = .lay f ∧ f P ⟨tm, seen x.a s.es⟩ = some (ob, mk) ∧
            eventD fc.nt x.i x.a x.o.dst (mk s.h.next) s.es s.dm s.em s.evs s.lv s.h ⟨PTree.set ob s.h.next s.h.t, s.h.next.succ⟩ = some s') ∨
         (∃ f v h', clsOf x.o.op = .work f ∧ subB s.em x.a = true ∧ f P ih rnd s.h ⟨tm, seen x.a s.es⟩ = some (v, h') ∧
            eventD fc.nt x.i x.a x.o.dst v s.es s.dm s.em s.evs s.lv s.h h' = some s')))) := by
  obtain ⟨es, dm, em, evs, lv, h⟩ := s
  obtain ⟨i, a, o⟩ := x
  unfold drawOp at hs
  simp only [pickK_eq] at hs
  obtain ⟨g, hg, h2⟩ := obind_some.1 hs
  refine ⟨g, hg, ?_⟩
  cases g with
  | false => exact .inl ⟨rfl, h2⟩
  | true =>
    refine .inr ⟨rfl, ?_⟩
    cases hc : clsOf o.op with
    | lite f force reads =>
      simp only [hc] at h2
      obtain ⟨v, hv, h3⟩ := obind_some.1 (show obind (f P h ⟨tm, seen a es⟩) _ = some s' from h2)
      rw [forceV_eq] at h3
      refine .inl ⟨f, force, reads, v, rfl, hv, ?_⟩
      cases reads with
      | false => exact .inl ⟨rfl, h3⟩
      | true =>
        obtain ⟨h4, h5⟩ := bcase_none (show bcase (backD a (fun h => f P h ⟨tm, seen a es⟩) v evs) none _ = some s' from h3)
        exact .inr ⟨rfl, h4, h5⟩
    | lay f =>
      simp only [hc] at h2
      obtain ⟨⟨ob, mk⟩, hv, h3⟩ := obind_some.1 (show obind (f P ⟨tm, seen a es⟩) _ = some s' from h2)
      simp only [Heap.push_eq] at h3
      exact .inr (.inl ⟨f, ob, mk, rfl, hv, h3⟩)
    | work f =>
      simp only [hc] at h2
      obtain ⟨h4, h5⟩ := bcase_none (show bcase (subB em a) none _ = some s' from h2)
      obtain ⟨⟨v, h'⟩, hv, h3⟩ := obind_some.1 h5
      exact .inr (.inr ⟨f, v, h', rfl, h4, hv, h3⟩)
    | late f args => simp only [hc] at h2; cases h2
    | no => simp only [hc] at h2; cases h2
theorem mono_drawOp (hm : ExMono ih) {ops : List Oper} {tm : PTree AV} {x : Pl} {s s' : Dr} (hs : drawOp P ih rnd ops fc tm x s = some s') : nx s.h ≤ nx s'.h := by
  obtain ⟨g, _, h⟩ := drawOp_some hs
  rcases h with ⟨_, h⟩ | ⟨_, ⟨f, _, _, v, _, _, h⟩ | ⟨f, ob, mk, _, _, h⟩ | ⟨f, v, h', hc, _, hv, h⟩⟩
  · obtain ⟨_, _, e⟩ := putD_h h; cases e; exact Nat.le_refl _
  · rcases h with ⟨_, h⟩ | ⟨_, _, h⟩
    · obtain ⟨_, _, e⟩ := putD_h h; cases e; exact Nat.le_refl _
    · obtain ⟨_, _, e⟩ := putD_h h; cases e; exact Nat.le_refl _
  · obtain ⟨_, _, e, _⟩ := eventD_some h; subst e; simp only [nx_push]; omega
  · obtain ⟨_, _, e, _⟩ := eventD_some h; subst e; exact cls_mono _ f hc P ih rnd _ _ _ hm hv
theorem mono_goD (hm : ExMono ih) {ops : List Oper} {tm : Pl → PTree AV} : ∀ {l : List Pl} {s s' : Dr}, goD P ih rnd ops fc tm l s = some s' → nx s.h ≤ nx s'.h
  | [], s, s', hs => by cases hs; exact Nat.le_refl _
  | o :: l, s, s', hs => by
    obtain ⟨s₁, h1, h2⟩ := obind_some.1 (show obind (drawOp P ih rnd ops fc (tm o) o s) (goD P ih rnd ops fc tm l) = some s' from hs)
    exact Nat.le_trans (mono_drawOp hm h1) (mono_goD hm h2)
end Go.Am

/- What is kept behind a region; new blocks only: code and whole runs. -/
namespace Go.Am
variable {P : Program} {ih : Ex} {rnd : Option Pos} {fc : Fc}

theorem findOv_nil (t : Nat) (d : Option AV) : findOv t [] d = d := rfl
theorem findOv_cons (t s : Nat) (v : AV) (l : List (Nat × AV)) (d : Option AV) : findOv t ((s, v) :: l) d = if s = t then some v else findOv t l d := by
  show bcase (Nat.beq s t) (findOv t l d) (some v) = _
  rw [bcase_eq, beq_eq]
  by_cases h : s = t <;> simp [h]
theorem seenOv_cons (t x : Nat) (l : List Nat) : seenOv t (x :: l) = (decide (x = t) || seenOv t l) := by
  show bcase (Nat.beq x t) (seenOv t l) true = _
  rw [bcase_eq, beq_eq]
  by_cases h : x = t <;> simp [h]
theorem seenOv_eq (t : Nat) (l : List Nat) : seenOv t l = decide (t ∈ l) := by
  induction l with
  | nil => rfl
  | cons x l ih =>
    rw [seenOv_cons, ih]
    by_cases h : x = t
    · subst h; simp
    · have h' : ¬ t = x := fun e => h e.symm
      simp [h, h']
theorem flush_spec (keep : Nat → Bool) : ∀ (l : List (Nat × AV)) (done : List Nat) (tm : PTree AV), ∃ tm', (∀ {β : Type} (k : PTree AV → β), flush keep l done tm k = k tm') ∧
    ∀ t, PTree.get (Pos.key t) tm' = if keep t = true ∧ t ∉ done then findOv t l (PTree.get (Pos.key t) tm) else PTree.get (Pos.key t) tm
  | [], done, tm => ⟨tm, fun _ => rfl, fun t => by simp [findOv_nil]⟩
  | (s, v) :: l, done, tm => by
    cases hk : keep s with
    | false =>
      obtain ⟨tm', h1, h2⟩ := flush_spec keep l done tm
      refine ⟨tm', fun k => ?_, fun t => ?_⟩
      · show bcase (keep s) (flush keep l done tm k) _ = _
        rw [hk]; exact h1 k
      · rw [h2, findOv_cons]
        by_cases e : s = t
        · subst e; simp [hk]
        · simp [e]
    | true =>
      by_cases hd : s ∈ done
      · obtain ⟨tm', h1, h2⟩ := flush_spec keep l done tm
        refine ⟨tm', fun k => ?_, fun t => ?_⟩
        · show bcase (keep s) _ (bcase (seenOv s done) _ (flush keep l done tm k)) = _
          rw [hk, seenOv_eq, decide_eq_true hd]; exact h1 k
        · rw [h2, findOv_cons]
          by_cases e : s = t
          · subst e; simp [hd]
          · simp [e]
      · obtain ⟨tm', h1, h2⟩ := flush_spec keep l (s :: done) (PTree.set v (Pos.key s) tm)
        refine ⟨tm', fun k => ?_, fun t => ?_⟩
        · show bcase (keep s) _ (bcase (seenOv s done) (PTree.setK v (Pos.key s) tm fun tm => flush keep l (s :: done) tm k) _) = _
          rw [hk, seenOv_eq, decide_eq_false hd]
          show PTree.setK v (Pos.key s) tm (fun tm => flush keep l (s :: done) tm k) = _
          rw [PTree.setK_eq]; exact h1 k
        · rw [h2, findOv_cons, PTree.get_set]
          by_cases e : s = t
          · subst e; simp [hk, hd]
          · have e' : ¬ Pos.key t = Pos.key s := fun h => e (Pos.key_inj h).symm
            have e'' : ¬ t = s := fun h => e h.symm
            simp [e, e', e'']
theorem flushD_spec (keep : Nat → Bool) : ∀ (es : List (Nat × Nat × AV)) (tm : PTree AV), ∃ tm', (∀ {β : Type} (k : PTree AV → β), flushD keep es tm k = k tm') ∧
    ∀ t v, PTree.get (Pos.key t) tm' = some v → (keep t = true ∧ ∃ i, (i, t, v) ∈ es) ∨ (PTree.get (Pos.key t) tm = some v ∧ (keep t = true → ∀ x ∈ es, x.2.1 ≠ t))
  | [], tm => ⟨tm, fun _ => rfl, fun t v h => .inr ⟨h, fun _ x hx => by cases hx⟩⟩
  | (i, d, u) :: es, tm => by
    cases hk : keep d with
    | false =>
      obtain ⟨tm', h1, h2⟩ := flushD_spec keep es tm
      refine ⟨tm', fun k => ?_, fun t v h => ?_⟩
      · show bcase (keep d) (flushD keep es tm k) _ = _
        rw [hk]; exact h1 k
      · rcases h2 t v h with ⟨h3, j, h4⟩ | ⟨h3, h4⟩
        · exact .inl ⟨h3, j, List.mem_cons_of_mem _ h4⟩
        · refine .inr ⟨h3, fun hk' x hx => ?_⟩
          rcases List.mem_cons.1 hx with rfl | hx
          · intro e; simp only at e; subst e; rw [hk] at hk'; cases hk'
          · exact h4 hk' x hx
    | true =>
      obtain ⟨tm', h1, h2⟩ := flushD_spec keep es (PTree.set u (Pos.key d) tm)
      refine ⟨tm', fun k => ?_, fun t v h => ?_⟩
      · show bcase (keep d) _ (PTree.setK u (Pos.key d) tm fun tm => flushD keep es tm k) = _
        rw [hk]
        show PTree.setK u (Pos.key d) tm (fun tm => flushD keep es tm k) = _
        rw [PTree.setK_eq]; exact h1 k
      · rcases h2 t v h with ⟨h3, j, h4⟩ | ⟨h3, h4⟩
        · exact .inl ⟨h3, j, List.mem_cons_of_mem _ h4⟩
        · rw [PTree.get_set] at h3
          split at h3
          · rename_i e
            have := Pos.key_inj e
            subst this
            cases h3
            exact .inl ⟨hk, i, List.mem_cons_self ..⟩
          · rename_i hne
            refine .inr ⟨h3, fun hk' x hx => ?_⟩
            rcases List.mem_cons.1 hx with rfl | hx
            · intro e; simp only at e; subst e; exact hne rfl
            · exact h4 hk' x hx

/-! ## New blocks only -/
theorem mono_rangeT (hm : ExMono ih) {f : AFn} {args : List AV} {h : Heap} {x : AV × Heap} (hx : rangeT P ih f args h = some x) : nx h ≤ nx x.2 := by
  unfold rangeT at hx
  split at hx
  · exact mono_enterA hm hx
  · cases hx
theorem mono_code (hm : ExMono ih) {c : Code} {s : Cs} {x : AExit × Cs} (hx : codeA c P ih rnd fc s = some x) : nx s.h ≤ nx x.2.h := by
  have hseq : ∀ (d : Code) (r : AExit × Cs), nx s.h ≤ nx r.2.h → seqK d ih rnd fc r = some x → nx s.h ≤ nx x.2.h := by
    intro d r h1 h2
    obtain ⟨e, s1⟩ := r
    cases e with
    | norm => exact Nat.le_trans h1 (hm.code _ _ _ _ _ h2)
    | exit id => cases h2; exact h1
    | ret => cases h2; exact h1
  cases c with
  | skip => cases hx; exact Nat.le_refl _
  | region id ops draw =>
    obtain ⟨tm, ds, h⟩ := s
    cases draw with
    | false =>
      obtain ⟨r, h1, h2⟩ := obind_some.1 (show obind (opsA P ih rnd ops.toList fc tm ops.toList ⟨[], ds, h⟩) (regionK fc tm) = some x from hx)
      have := mono_opsA hm h1
      obtain ⟨ov, ds', h'⟩ := r
      obtain ⟨tm', h3, _⟩ := flush_spec fc.keep ov [] tm
      rw [show regionK fc tm ⟨ov, ds', h'⟩ = some (.norm, ⟨tm', ds', h'⟩) from h3 _] at h2
      cases h2; exact this
    | true =>
      obtain ⟨l, _, h2⟩ := obind_some.1 (show obind (sched ops.toList) _ = some x from hx)
      replace h2 := (bcase_none h2).2
      obtain ⟨r, h4, h5⟩ := obind_some.1 h2
      have := mono_goD hm h4
      obtain ⟨es, _, _, _, _, h'⟩ := r
      obtain ⟨tm', h6, _⟩ := flushD_spec fc.keep es tm
      simp only [h6] at h5
      cases h5; exact this
  | seq a b =>
    obtain ⟨r, h1, h2⟩ := obind_some.1 (show obind (ih.code a rnd fc s) (seqK b ih rnd fc) = some x from hx)
    exact hseq b r (hm.code _ _ _ _ _ h1) h2
  | cond c a b =>
    obtain ⟨v, _, h2⟩ := obind_some.1 (show obind (evalO ⟨s.tm, []⟩ c) _ = some x from hx)
    obtain ⟨g, _, h3⟩ := obind_some.1 h2
    cases g with
    | true => exact hm.code _ _ _ _ _ (show ih.code a rnd fc s = some x from h3)
    | false => exact hm.code _ _ _ _ _ (show ih.code b rnd fc s = some x from h3)
  | block id b =>
    obtain ⟨⟨e, s1⟩, h1, h2⟩ := obind_some.1 (show obind (ih.code b rnd fc s) (blockK id) = some x from hx)
    have := hm.code _ _ _ _ _ h1
    cases e with
    | norm => cases h2; exact this
    | exit i =>
      have h3 : bcase (Nat.beq i id) (some (AExit.exit i, s1)) (some (AExit.norm, s1)) = some x := h2
      rw [bcase_eq] at h3
      split at h3 <;> (cases h3; exact this)
    | ret => cases h2; exact this
  | loop b =>
    obtain ⟨r, h1, h2⟩ := obind_some.1 (show obind (ih.code b rnd fc s) (seqK (.loop b) ih rnd fc) = some x from hx)
    exact hseq _ r (hm.code _ _ _ _ _ h1) h2
  | rangeFunc f ps a b =>
    cases rnd with
    | some p => cases hx
    | none =>
      obtain ⟨fv, _, h2⟩ := obind_some.1 (show obind (evalO ⟨s.tm, []⟩ f) _ = some x from hx)
      obtain ⟨f3, _, h3⟩ := obind_some.1 h2
      simp only [Heap.push_eq] at h3
      obtain ⟨r, h4, h5⟩ := obind_some.1 h3
      have h6 : nx (⟨_, _⟩ : Heap) ≤ nx r.2 := mono_rangeT hm h4
      have h7 : nx s.h ≤ nx r.2 := by
        refine Nat.le_trans ?_ h6
        simp only [nx, Pos.toNat_succ]; omega
      unfold afterA at h5
      split at h5
      · rw [Heap.put_eq] at h5
        split at h5
        · cases h5
        · split at h5
          · cases h5; exact h7
          · exact Nat.le_trans h7 (hm.code _ _ _ _ _ h5)
      · cases h5
  | exit id => cases hx; exact Nat.le_refl _
  | scope b => exact hm.code _ _ _ _ _ (show ih.code b rnd fc s = some x from hx)
  | label l => cases hx; exact Nat.le_refl _
  | goto l => cases hx
  | ret => cases hx; exact Nat.le_refl _
  | refuse m => cases hx
theorem mono_leave (hm : ExMono ih) : ∀ {ds : List ADef} {h h' : Heap}, leaveA P ih ds h = some h' → nx h ≤ nx h'
  | [], h, h', e => by cases e; exact Nat.le_refl _
  | .call f cap args :: ds, h, h', e => by
    unfold leaveA at e
    split at e
    · split at e
      · rename_i hc
        exact Nat.le_trans (mono_callT hm hc) (mono_leave hm e)
      · cases e
    · cases e
  | .coll p :: ds, h, h', e => by
    unfold leaveA at e
    split at e
    · rw [Heap.put_eq] at e
      exact mono_leave (h := ⟨PTree.set (.dfr none) p h.t, h.next⟩) hm e
    · cases e
theorem mono_call (hm : ExMono ih) {keep : FuncId → List Nat} {f : FuncId} {args : List AV} {h : Heap} {x : AV × Heap} (hx : callA P keep ih f args h = some x) : nx h ≤ nx x.2 := by
  obtain ⟨fn, _, hx⟩ := obind_some.1 hx
  obtain ⟨c, _, hx⟩ := obind_some.1 hx
  rw [forceN_eq] at hx
  obtain ⟨tm, _, hx⟩ := obind_some.1 hx
  obtain ⟨⟨e, s⟩, h1, h2⟩ := obind_some.1 hx
  have h3 := hm.code _ _ _ _ _ h1
  have key : backA P ih fn.results.toList s = some x → nx h ≤ nx x.2 := by
    intro hb
    obtain ⟨h', h4, h5⟩ := obind_some.1 hb
    obtain ⟨vs, _, h6⟩ := obind_some.1 h5
    cases h6
    exact Nat.le_trans h3 (mono_leave hm h4)
  cases e with
  | norm => exact key h2
  | exit id => cases h2
  | ret => exact key h2
theorem mono_round (hm : ExMono ih) {p : Pos} {args : List AV} {h : Heap} {x : AV × Heap} (hx : roundA ih p args h = some x) : nx h ≤ nx x.2 := by
  unfold roundA at hx
  split at hx
  · obtain ⟨_, hx⟩ := bcase_none hx
    obtain ⟨tm, _, hx⟩ := obind_some.1 hx
    obtain ⟨⟨e, s⟩, h1, h2⟩ := obind_some.1 hx
    have h3 := hm.code _ _ _ _ _ h1
    unfold roundBody at h2
    split at h2
    · split at h2
      · rw [Heap.put_eq] at h2
        obtain ⟨⟨e2, s2⟩, h4, h5⟩ := obind_some.1 h2
        have h6 := hm.code _ _ _ _ _ h4
        unfold roundEnd at h5
        split at h5
        · rw [Heap.put_eq] at h5
          cases h5
          exact Nat.le_trans h3 h6
        · cases h5
      · cases h2
    · cases h2
  · cases hx
theorem run_mono (P : Program) (keep : FuncId → List Nat) : ∀ n, ExMono (run P keep n)
  | 0 => ⟨fun _ _ _ _ _ h => (by cases h), fun _ _ _ _ h => (by cases h), fun _ _ _ _ h => (by cases h)⟩
  | n + 1 => ⟨fun _ _ _ _ _ h => mono_code (run_mono P keep n) h, fun _ _ _ _ h => mono_call (run_mono P keep n) h, fun _ _ _ _ h => mono_round (run_mono P keep n) h⟩
end Go.Am
