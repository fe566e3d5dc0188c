/- A verified abstract machine for the code of the model, part 5: nothing in it speaks of one program. -/
import Derived.Test.YtfcdnkpcnmanhaaGreatAm4
import Derived.Below
/- Code: the model's run of it. -/
namespace Go.Am
variable {P : Program} {ih : Ex} {rnd : Option Pos} {fc : Fc} {β : Ren}

/-- How a piece of code is left. -/
def Leaves (P : Program) (e : AExit) (m₀ : Machine) (b : Frame) (arr : Array Value) (k : List Item) (dv : List Deferred) (cs : List Frame) (w : World) : Prop :=
  match e with
  | .norm => Steps P m₀ (mach b arr k dv cs w)
  | .exit id => ∃ k2, exitTo id k2 = exitTo id k ∧ Steps P m₀ (mach b arr (.code (.exit id) :: k2) dv cs w)
  | .ret => ∃ k2, Steps P m₀ (mach b arr (.code .ret :: k2) dv cs w)
theorem Leaves.head {e : AExit} {m₀ m₁ : Machine} {b : Frame} {arr : Array Value} {k : List Item} {dv : List Deferred} {cs : List Frame} {w : World} (h : Steps P m₀ m₁)
    (hl : Leaves P e m₁ b arr k dv cs w) : Leaves P e m₀ b arr k dv cs w := by
  cases e with
  | norm => exact Steps.trans h hl
  | exit id => obtain ⟨k2, h1, h2⟩ := hl; exact ⟨k2, h1, Steps.trans h h2⟩
  | ret => obtain ⟨k2, h2⟩ := hl; exact ⟨k2, Steps.trans h h2⟩
/-- What code of the abstract machine says of the model's. -/
def CodeRes (P : Program) (β : Ren) (fc : Fc) (s : Cs) (x : AExit × Cs) (i : Item) (b : Frame) (arr : Array Value) (k : List Item) (dv : List Deferred) (cs : List Frame) (w : World) : Prop :=
  ∃ arr' w' β' dv', Leaves P x.1 (mach b arr (i :: k) dv cs w) b arr' k dv' cs w' ∧ arr'.size = arr.size ∧ TmT β' x.2.tm arr' ∧ Kp fc x.2.tm ∧
    Rel β' x.2.h w' ∧ Ext β s.h w β' x.2.h w' ∧ DfsR β' x.2.ds dv'
/-- Where code stands to be run: a loop also after a turn. -/
def Starts (c : Code) (i : Item) : Prop := i = .code c ∨ ∃ a, c = .loop a ∧ i = .inLoop a
def CodeOk (P : Program) (run : Code → Option Pos → Fc → Cs → Option (AExit × Cs)) : Prop := ∀ c rnd fc s x, run c rnd fc s = some x → ∀ i β b arr k dv cs w, Starts c i → QuietK b.kind cs → RndR β rnd b → Rel β s.h w →
  TmT β s.tm arr → Kp fc s.tm → arr.size = fc.nt → DfsR β s.ds dv → Dom β s.h x.2.h → CodeRes P β fc s x i b arr k dv cs w

theorem seq_sim (hm : ExMono ih) (hK : CodeOk P ih.code) {a d : Code} {s : Cs} {x : AExit × Cs} {b : Frame} {arr : Array Value} {k : List Item} {i : Item} {dv : List Deferred} {cs : List Frame} {w : World}
    {m₀ : Machine} (h₀ : step P m₀ = .next (mach b arr (.code a :: i :: k) dv cs w)) (hi : Starts d i)
    (hx : ∀ id, exitTo id (i :: k) = exitTo id k)
    (hs : obind (ih.code a rnd fc s) (seqK d ih rnd fc) = some x) (hq : QuietK b.kind cs) (hrd : RndR β rnd b) (hr : Rel β s.h w) (ht : TmT β s.tm arr) (hkp : Kp fc s.tm) (hsz : arr.size = fc.nt)
    (hdf : DfsR β s.ds dv) (hd : Dom β s.h x.2.h) :
    ∃ arr' w' β' dv', Leaves P x.1 m₀ b arr' k dv' cs w' ∧ arr'.size = arr.size ∧ TmT β' x.2.tm arr' ∧ Kp fc x.2.tm ∧ Rel β' x.2.h w' ∧ Ext β s.h w β' x.2.h w' ∧ DfsR β' x.2.ds dv' := by
  obtain ⟨⟨e, s₁⟩, h1, h2⟩ := obind_some.1 hs
  cases e with
  | norm =>
    have h2' : ih.code d rnd fc s₁ = some x := h2
    obtain ⟨arr₁, w₁, β₁, dv₁, e1, e2, e3, e4, e5, e6, e7⟩ := hK a rnd fc s _ h1 (.code a) β b arr (i :: k) dv cs w (.inl rfl) hq hrd hr ht hkp hsz hdf (hd.first (hm.code _ _ _ _ _ h2'))
    obtain ⟨arr₂, w₂, β₂, dv₂, f1, f2, f3, f4, f5, f6, f7⟩ := hK d rnd fc s₁ _ h2' i β₁ b arr₁ k dv₁ cs w₁ hi hq (hrd.mono e6.le) e5 e3 e4 (e2.trans hsz) e7 (hd.second e6)
    exact ⟨arr₂, w₂, β₂, dv₂, f1.head (Steps.head h₀ (show Steps P _ _ from e1)), f2.trans e2, f3, f4, f5, Ext.trans hd e5 e6 f6, f7⟩
  | exit id =>
    cases h2
    obtain ⟨arr₁, w₁, β₁, dv₁, ⟨k2, e0, e1⟩, e2⟩ := hK a rnd fc s _ h1 (.code a) β b arr (i :: k) dv cs w (.inl rfl) hq hrd hr ht hkp hsz hdf hd
    exact ⟨arr₁, w₁, β₁, dv₁, ⟨k2, by rw [e0, hx], Steps.head h₀ e1⟩, e2⟩
  | ret =>
    cases h2
    obtain ⟨arr₁, w₁, β₁, dv₁, ⟨k2, e1⟩, e2⟩ := hK a rnd fc s _ h1 (.code a) β b arr (i :: k) dv cs w (.inl rfl) hq hrd hr ht hkp hsz hdf hd
    exact ⟨arr₁, w₁, β₁, dv₁, ⟨k2, Steps.head h₀ e1⟩, e2⟩
end Go.Am

/- Code: every form. -/
namespace Go.Am
variable {P : Program} {ih : Ex} {rnd : Option Pos} {fc : Fc} {β : Ren}

theorem range_sim (hm : ExMono ih) (hK : CodeOk P ih.code) (hC : CallOk P ih) {f : Operand} {params : Array Tmp} {assign body : Code} {s : Cs} {x : AExit × Cs} {b : Frame} {arr : Array Value} {k : List Item}
    {dv : List Deferred} {cs : List Frame} {w : World}
    (hx : cRangeFunc f params assign body P ih rnd fc s = some x) (hq : QuietK b.kind cs) (hrd : RndR β rnd b) (hr : Rel β s.h w) (ht : TmT β s.tm arr) (hkp : Kp fc s.tm) (hsz : arr.size = fc.nt)
    (hdf : DfsR β s.ds dv) (hd : Dom β s.h x.2.h) : CodeRes P β fc s x (.code (.rangeFunc f params assign body)) b arr k dv cs w := by
  cases rnd with
  | some p => cases hx
  | none =>
    have hrd' : b.roundOf = none := hrd
    obtain ⟨fv, h1, h2⟩ := obind_some.1 (show obind (evalO ⟨s.tm, []⟩ f) _ = some x from hx)
    obtain ⟨f3, h3, h4⟩ := obind_some.1 h2
    simp only [Heap.push_eq] at h4
    obtain ⟨r, h5, h6⟩ := obind_some.1 h4
    have hfv := ht.ov.op f fv h1
    rw [toFunc_some h3] at hfv
    obtain ⟨fa, firstA, capA⟩ := f3
    simp only at h5 h6 hfv
    cases fa with
    | func g =>
      obtain ⟨fn, c, hfn, hnm, hbody, hcall⟩ := enterA_some (show enterA P ih g _ _ = some r from h5)
      have hmr := hm.call _ _ _ _ hcall
      -- the heap behind the call goes on to the end
      have hafter : nx r.2 ≤ nx x.2.h := by
        unfold afterA at h6
        split at h6
        · rw [Heap.put_eq] at h6
          split at h6
          · cases h6
          · split at h6
            · cases h6; exact Nat.le_refl _
            · exact hm.code _ _ _ _ _ h6
        · cases h6
      have hlt1 : s.h.next.toNat < x.2.h.next.toNat := by
        have := Nat.le_trans hmr hafter
        simp only [nx, Pos.toNat_succ] at this; omega
      have hn1 := hd.next hlt1
      have hp1 := hr.push (o := .dfr (some [])) (o' := .deferred (some [])) (n := 0) hn1 .dfrSome
      have hd1 := hd.second hp1.2
      have hlt2 : (⟨PTree.set (.dfr (some [])) s.h.next s.h.t, s.h.next.succ⟩ : Heap).next.toNat < x.2.h.next.toNat := by
        have := Nat.le_trans hmr hafter
        simp only [nx, Pos.toNat_succ] at this ⊢; omega
      have hn2 := hd1.next hlt2
      have hle2 := Ren.le_set (β := β.set s.h.next (w.heap.size, 0)) (x := ((w.alloc (.deferred (some []))).heap.size, 0)) hn2
      have hsz1 : (w.alloc (.deferred (some []))).heap.size = w.heap.size + 1 := by rw [alloc_heap, Array.size_push]
      have hdpos := hle2 _ _ (Ren.set_same (β := β) s.h.next (w.heap.size, 0))
      have hp2 := hp1.1.push (o := .loop ⟨.ready, none, fc, s.tm, params.toList, assign, body, s.h.next⟩)
        (o' := .loop { state := .ready, pending := none, fn := b.fn, tmps := arr, params, assign, body, defers := w.heap.size }) (n := 0) hn2
        (.loop ⟨rfl, rfl, rfl, rfl, rfl, hsz, (ht.mono hp1.2.le).mono hle2, hkp, 0, hdpos⟩)
      have hd2 := hd1.second hp2.2
      have hypos := Ren.set_same (β := β.set s.h.next (w.heap.size, 0)) (⟨PTree.set (.dfr (some [])) s.h.next s.h.t, s.h.next.succ⟩ : Heap).next ((w.alloc (.deferred (some []))).heap.size, 0)
      generalize hβ2 : Ren.set (β.set s.h.next (w.heap.size, 0)) (⟨PTree.set (.dfr (some [])) s.h.next s.h.t, s.h.next.succ⟩ : Heap).next ((w.alloc (.deferred (some []))).heap.size, 0) = β₂ at *
      have hle02 : β.le β₂ := Ren.le_trans hp1.2.le hle2
      cases hqv : evl arr f with
      | func f' first' cap' =>
        rw [hqv] at hfv
        cases hfv with
        | @func _ _ _ _ first' cap' hf ha hcp =>
          cases hf
          rw [hsz1] at hypos
          have hargs : VRs β₂ (firstA ++ [.func (.yield s.h.next.succ) [] []] ++ capA) (first' ++ [.func (.yield (w.heap.size + 1)) #[] #[]] ++ cap') :=
            ((ha.mono hle02).append (.cons (.func (a' := []) (c' := []) (.yield hypos) .nil .nil) .nil)).append (hcp.mono hle02)
          obtain ⟨fr, v', w₃, β₃, e1, e2, e3, _, e4, e5, e6⟩ := hC g _ _ r hcall β₂ _ _ .normal
            (frm b arr (.inRangeFunc (w.heap.size + 1) :: k) ({ target := .collected w.heap.size, args := #[] } :: dv) :: cs) hargs hp2.1 (hd2.first hafter) (.inl rfl)
          have hd3 := hd2.second e5
          have hext3 : Ext β s.h w β₃ r.2 w₃ := Ext.trans (hd.first hafter) hp2.1 (Ext.trans (hd.first (Nat.le_trans hmr hafter)) hp1.1 hp1.2 hp2.2) e5
          have hstep : Steps P (mach b arr (.code (.rangeFunc f params assign body) :: k) dv cs w) (mach b arr (.endRangeFunc (w.heap.size + 1) :: k) ({ target := .collected w.heap.size, args := #[] } :: dv) cs w₃) := by
            refine Steps.head (s_range hrd' hqv hfn hnm hbody) ?_
            have ea : (Array.mk first' ++ #[.func (.yield (w.heap.size + 1)) #[] #[]] ++ Array.mk cap' : Array Value) = Array.mk (first' ++ [.func (.yield (w.heap.size + 1)) #[] #[]] ++ cap') := by
              apply Array.ext'; simp
            rw [ea]
            refine Steps.trans e1 (Steps.one ?_)
            rw [s_back e2 e3]
            rfl
          unfold afterA at h6
          split at h6
          · rename_i L hobj
            rw [Heap.obj_eq] at hobj
            have hb3 := e5.le _ _ hypos
            obtain ⟨o', g1, g2⟩ := e4.obj _ _ _ _ hobj hb3
            cases g2 with
            | @loop _ L' hL =>
              have ht4 := e4.turn (o₁ := .loop { L with state := .exhausted }) hobj (by intro e; cases e) hb3 (o' := .loop { L' with state := .exhausted })
                (.loop ⟨rfl, hL.pending, hL.params, hL.assign, hL.body, hL.size, hL.tmps, hL.keep, hL.defers⟩)
              rw [Heap.put_eq] at h6
              have hd4 := hd3.second ht4.2
              have hdx : Dom β s.h (⟨PTree.set (.loop { L with state := .exhausted }) s.h.next.succ r.2.t, r.2.next⟩ : Heap) := hd.first hafter
              have hx4 := Ext.trans hdx e4 hext3 ht4.2
              have hdf4 : DfsR β₃ (.coll s.h.next :: s.ds) ({ target := .collected w.heap.size, args := #[] } :: dv) :=
                .cons (.coll (e5.le _ _ hdpos)) (hdf.mono hext3.le)
              split at h6
              · cases h6
              · rename_i hst
                have hend := s_endRange (P := P) (b := b) (arr := arr) (k := k) (ds := { target := .collected w.heap.size, args := #[] } :: dv) (cs := cs) g1 (by rw [← hL.state]; exact hst)
                split at h6
                · rename_i hpn
                  cases h6
                  have et : (L'.pending.map Item.code).toList ++ k = k := by rw [← hL.pending, hpn]; rfl
                  rw [et] at hend
                  exact ⟨arr, _, β₃, _, Steps.trans hstep (Steps.one hend), rfl, ht.mono hext3.le, hkp, ht4.1, hx4, hdf4⟩
                · rename_i cc hpn
                  have et : (L'.pending.map Item.code).toList ++ k = .code cc :: k := by rw [← hL.pending, hpn]; rfl
                  rw [et] at hend
                  obtain ⟨arr₅, w₅, β₅, dv₅, f1, f2, f3, f4, f5, f6, f7⟩ := hK cc none fc _ x h6 (.code cc) β₃ b arr k ({ target := .collected w.heap.size, args := #[] } :: dv) cs _ (.inl rfl) hq hrd ht4.1
                    (ht.mono hext3.le) hkp hsz hdf4 hd4
                  exact ⟨arr₅, w₅, β₅, dv₅, f1.head (Steps.trans hstep (Steps.one hend)), f2, f3, f4, f5, Ext.trans hd ht4.1 hx4 f6, f7⟩
          · cases h6
      | _ => rw [hqv] at hfv; cases hfv
    | _ => cases h5
end Go.Am

/- Code, every form; calls and rounds. -/
namespace Go.Am
variable {P : Program} {ih : Ex} {rnd : Option Pos} {fc : Fc} {β : Ren}

theorem code_ok (hmix : P.follows .mixedOrders = true) (hm : ExMono ih) (hK : CodeOk P ih.code) (hC : CallOk P ih) (hR : RoundOk P ih) : CodeOk P (fun c => codeA c P ih) := by
  intro c rnd fc s x hx i β b arr k dv cs w hi hq hrd hr ht hkp hsz hdf hd
  by_cases hlp : ∃ a, c = .loop a
  · obtain ⟨a, rfl⟩ := hlp
    refine seq_sim hm hK (m₀ := mach b arr (i :: k) dv cs w) (i := .inLoop a) (d := .loop a) ?_ (.inr ⟨a, rfl, rfl⟩) (fun _ => rfl) hx hq hrd hr ht hkp hsz hdf hd
    rcases hi with rfl | ⟨a', h1, rfl⟩
    · exact s_loop
    · cases h1; exact s_inLoop
  have hi' : i = .code c := by
    rcases hi with h | ⟨a, h1, _⟩
    · exact h
    · exact absurd ⟨a, h1⟩ hlp
  subst hi'
  have refl : x = (.norm, s) → Steps P (mach b arr (.code c :: k) dv cs w) (mach b arr k dv cs w) → CodeRes P β fc s x (.code c) b arr k dv cs w := by
    rintro rfl hst
    exact ⟨arr, w, β, dv, hst, rfl, ht, hkp, hr, Ext.refl _ _ _, hdf⟩
  cases c with
  | skip => cases hx; exact refl rfl (Steps.one s_skip)
  | region id ops draw =>
    cases draw with
    | false =>
      obtain ⟨arr', w', β', dv', h1, h2, h3⟩ := region_sim hm hC hR (k := k) hx hq hrd hr ht hkp hsz hdf hd
      exact ⟨arr', w', β', dv', by rw [h1]; exact h2, h3⟩
    | true =>
      obtain ⟨arr', w', β', dv', h1, h2, h3⟩ := draw_sim hmix hm hC hR (k := k) hx hq hrd hr ht hkp hsz hdf hd
      exact ⟨arr', w', β', dv', by rw [h1]; exact h2, h3⟩
  | seq a d =>
    exact seq_sim hm hK (m₀ := mach b arr (.code (.seq a d) :: k) dv cs w) (i := .code d) s_seq (.inl rfl) (fun _ => rfl) hx hq hrd hr ht hkp hsz hdf hd
  | loop a => exact absurd ⟨a, rfl⟩ hlp
  | cond c a d =>
    obtain ⟨v, h1, h2⟩ := obind_some.1 (show obind (evalO ⟨s.tm, []⟩ c) _ = some x from hx)
    obtain ⟨g, h3, h4⟩ := obind_some.1 h2
    have hv := ht.ov.op c v h1
    rw [toBool_some h3] at hv
    have hst := s_cond (P := P) (b := b) (arr := arr) (k := k) (ds := dv) (cs := cs) (w := w) (x := a) (y := d) hv.toBool
    cases g with
    | true =>
      obtain ⟨arr', w', β', dv', f1, f2⟩ := hK a rnd fc s x h4 (.code a) β b arr k dv cs w (.inl rfl) hq hrd hr ht hkp hsz hdf hd
      exact ⟨arr', w', β', dv', f1.head (Steps.one hst), f2⟩
    | false =>
      obtain ⟨arr', w', β', dv', f1, f2⟩ := hK d rnd fc s x h4 (.code d) β b arr k dv cs w (.inl rfl) hq hrd hr ht hkp hsz hdf hd
      exact ⟨arr', w', β', dv', f1.head (Steps.one hst), f2⟩
  | block id a =>
    obtain ⟨⟨e, s₁⟩, h1, h2⟩ := obind_some.1 (show obind (ih.code a rnd fc s) (blockK id) = some x from hx)
    have hh : x.2 = s₁ := by
      cases e with
      | norm => cases h2; rfl
      | exit i =>
        have h3 : bcase (Nat.beq i id) (some (AExit.exit i, s₁)) (some (AExit.norm, s₁)) = some x := h2
        rw [bcase_eq] at h3
        split at h3 <;> (cases h3; rfl)
      | ret => cases h2; rfl
    obtain ⟨arr', w', β', dv', f1, f2⟩ := hK a rnd fc s _ h1 (.code a) β b arr (.inBlock id :: k) dv cs w (.inl rfl) hq hrd hr ht hkp hsz hdf (by rw [hh] at hd; exact hd)
    refine ⟨arr', w', β', dv', ?_, by rw [hh]; exact f2⟩
    cases e with
    | norm => cases h2; exact Steps.head s_block (Steps.trans (show Steps P _ _ from f1) (Steps.one s_inBlock))
    | exit i =>
      obtain ⟨k2, g1, g2⟩ := f1
      have h3 : bcase (Nat.beq i id) (some (AExit.exit i, s₁)) (some (AExit.norm, s₁)) = some x := h2
      rw [bcase_eq, beq_eq] at h3
      by_cases hid : i = id
      · subst hid
        simp only [decide_true, if_true] at h3
        cases h3
        have hex : exitTo i k2 = some k := by rw [g1]; simp [exitTo]
        exact Steps.head s_block (Steps.trans g2 (Steps.one (s_exit hex)))
      · simp only [hid, decide_false, Bool.false_eq_true, if_false] at h3
        cases h3
        have hne : ¬ id = i := fun e => hid e.symm
        exact ⟨k2, by rw [g1]; simp [exitTo, hne], Steps.head s_block g2⟩
    | ret =>
      obtain ⟨k2, g2⟩ := f1
      cases h2
      exact ⟨k2, Steps.head s_block g2⟩
  | rangeFunc f ps a d => exact range_sim hm hK hC hx hq hrd hr ht hkp hsz hdf hd
  | exit id => cases hx; exact ⟨arr, w, β, dv, ⟨k, rfl, Steps.refl _ _⟩, rfl, ht, hkp, hr, Ext.refl _ _ _, hdf⟩
  | scope a =>
    obtain ⟨arr', w', β', dv', f1, f2⟩ := hK a rnd fc s x hx (.code a) β b arr (.inScope a :: k) dv cs w (.inl rfl) hq hrd hr ht hkp hsz hdf hd
    refine ⟨arr', w', β', dv', ?_, f2⟩
    obtain ⟨e, s₁⟩ := x
    cases e with
    | norm => exact Steps.head s_scope (Steps.trans (show Steps P _ _ from f1) (Steps.one s_inScope))
    | exit i =>
      obtain ⟨k2, g1, g2⟩ := f1
      exact ⟨k2, by rw [g1]; rfl, Steps.head s_scope g2⟩
    | ret =>
      obtain ⟨k2, g2⟩ := f1
      exact ⟨k2, Steps.head s_scope g2⟩
  | label l => cases hx; exact refl rfl (Steps.one s_label)
  | goto l => cases hx
  | ret => cases hx; exact ⟨arr, w, β, dv, ⟨k, Steps.refl _ _⟩, rfl, ht, hkp, hr, Ext.refl _ _ _, hdf⟩
  | refuse m => cases hx
end Go.Am

/- Calls and rounds. -/
namespace Go.Am
variable {P : Program} {ih : Ex} {rnd : Option Pos} {fc : Fc} {β : Ren}

theorem setParams_cons (t : Tmp) (ps : List Tmp) (a : AV) (as : List AV) (nt : Nat) (keep : Nat → Bool) (tm : PTree AV) :
    setParams (t :: ps) (a :: as) nt keep tm = bcase (Nat.blt t nt) none (bcase (keep t) (setParams ps as nt keep tm) (setParams ps as nt keep (PTree.set a (Pos.key t) tm))) := by
  show bcase (Nat.blt t nt) none (bcase (keep t) (setParams ps as nt keep tm) (PTree.setK a (Pos.key t) tm fun tm => setParams ps as nt keep tm)) = _
  rw [PTree.setK_eq]
/-- Arguments laid into slots. -/
theorem setParams_sim (fc : Fc) : ∀ (ps : List Tmp) {as : List AV} {as' : List Value} {tm tm' : PTree AV} {arr : Array Value}, setParams ps as fc.nt fc.keep tm = some tm' → VRs β as as' → as.length = ps.length →
    TmT β tm arr → Kp fc tm → arr.size = fc.nt →
    TmT β tm' ((ps.zip as').foldl (fun tmps (t, a) => tmps.setIfInBounds t a) arr) ∧ Kp fc tm' ∧ ((ps.zip as').foldl (fun tmps (t, a) => tmps.setIfInBounds t a) arr).size = fc.nt
  | [], as, as', tm, tm', arr, hs, ha, hl, ht, hk, hsz => by
    cases hs
    exact ⟨ht, hk, hsz⟩
  | t :: ps, as, as', tm, tm', arr, hs, ha, hl, ht, hk, hsz => by
    cases ha with
    | nil => cases hl
    | @cons a a' as as' hv ha =>
      rw [setParams_cons] at hs
      obtain ⟨h1, h2⟩ := bcase_none hs
      rw [Nat.blt_eq] at h1
      rw [List.zip_cons_cons, List.foldl_cons]
      have hput : arr.setIfInBounds t a' = putT arr (some t) a' := rfl
      simp only
      rw [hput]
      rw [bcase_eq] at h2
      split at h2
      · rename_i hkt
        refine setParams_sim fc ps h2 ha (by simpa using hl) (fun u v e => ?_) (fun u v e => ?_) ((putT_size _ _ _).trans hsz)
        · rw [getD_put arr (by rw [hsz]; exact h1)]
          rw [PTree.get_set] at e
          by_cases hu : t = u
          · subst hu; rw [if_pos rfl] at e ⊢; cases e; exact hv
          · rw [if_neg (fun h => hu (Pos.key_inj h).symm)] at e; rw [if_neg hu]; exact ht u v e
        · rw [PTree.get_set] at e
          by_cases hu : t = u
          · subst hu; exact hkt
          · rw [if_neg (fun h => hu (Pos.key_inj h).symm)] at e; exact hk u v e
      · rename_i hkt
        refine setParams_sim fc ps h2 ha (by simpa using hl) (fun u v e => ?_) hk ((putT_size _ _ _).trans hsz)
        rw [getD_put arr (by rw [hsz]; exact h1)]
        by_cases hu : t = u
        · subst hu; exact absurd (hk t v e) hkt
        · rw [if_neg hu]; exact ht u v e
theorem asAddr_ptr {w : World} {a : Addr} : (asAddr (.pointer (some a))).run P w = .ok a w := by simp [asAddr]
/-- One result of a function. -/
def rvSem (arr : Array Value) : ResultVar → Sem Value
  | .tmp t => pure (arr.getD t undef)
  | .cell a t => do loadVar t (← asAddr (arr.getD a undef))
theorem results_eq (fn : Func) (arr : Array Value) : results fn arr = (do let vs ← fn.results.mapM (rvSem arr); pure (if h : vs.size = 1 then vs[0] else .tuple vs)) := by
  unfold results
  have e : (fun rv : ResultVar => (match rv with | .tmp t => pure (arr.getD t undef) | .cell a t => do loadVar t (← asAddr (arr.getD a undef)) : Sem Value)) = rvSem arr := by
    funext rv; cases rv <;> rfl
  rw [← e]
  rfl
theorem resultA_sim {h : Heap} {w : World} {tm : PTree AV} {arr : Array Value} (hr : Rel β h w) (ht : TmT β tm arr) {rv : ResultVar} {v : AV} (hv : resultA P tm h rv = some v) :
    ∃ v', (rvSem arr rv).run P w = .ok v' w ∧ VR β v v' := by
  cases rv with
  | tmp t =>
    have hv' : PTree.getK (Pos.key t) tm = some v := hv
    rw [PTree.getK_eq] at hv'
    exact ⟨_, by simp [rvSem], ht t v hv'⟩
  | cell a t =>
    obtain ⟨av, h1, h2⟩ := obind_some.1 (show obind (PTree.getK (Pos.key a) tm) (fun a => loadA P h t a) = some v from hv)
    rw [PTree.getK_eq] at h1
    have ha := ht a av h1
    obtain ⟨v', e1, e2⟩ := loadA_sim hr ha h2
    refine ⟨v', ?_, e2⟩
    obtain ⟨p, h3, _⟩ := obind_some.1 (show obind (toPtr av) _ = some v from h2)
    rw [toPtr_some h3] at ha
    obtain ⟨r, n, _, e⟩ := ha.toPtr
    show (do loadVar t (← asAddr (arr.getD a undef)) : Sem Value).run P w = _
    rw [e] at e1 ⊢
    simp only [Instr.loadAt, Instr.sureAddr, Sem.run_bind, Sem.run_pure, Result.andThen_ok] at e1
    simp only [Sem.run_bind, asAddr_ptr, Result.andThen_ok]
    exact e1
theorem resultsA_sim {h : Heap} {w : World} {tm : PTree AV} {arr : Array Value} (hr : Rel β h w) (ht : TmT β tm arr) : ∀ {l : List ResultVar} {vs : List AV}, resultsA P tm h l = some vs →
    ∃ vs', (l.mapM (rvSem arr)).run P w = .ok vs' w ∧ VRs β vs vs'
  | [], vs, hv => by cases hv; exact ⟨[], by simp, .nil⟩
  | x :: l, vs, hv => by
    obtain ⟨v, h1, h2⟩ := obind_some.1 (show obind (resultA P tm h x) (fun v => obind (resultsA P tm h l) fun r => some (v :: r)) = some vs from hv)
    obtain ⟨r, h3, h4⟩ := obind_some.1 h2
    cases h4
    obtain ⟨v', e1, e2⟩ := resultA_sim hr ht h1
    obtain ⟨r', e3, e4⟩ := resultsA_sim hr ht h3
    exact ⟨v' :: r', by rw [List.mapM_cons]; simp only [Sem.run_bind, e1, Result.andThen_ok, e3, Sem.run_pure], .cons e2 e4⟩
theorem results_sim {h : Heap} {w : World} {tm : PTree AV} {arr : Array Value} (hr : Rel β h w) (ht : TmT β tm arr) {fn : Func} {vs : List AV} (hv : resultsA P tm h fn.results.toList = some vs) :
    ∃ v', (results fn arr).run P w = .ok v' w ∧ VR β (oneOr vs) v' := by
  obtain ⟨vs', e1, e2⟩ := resultsA_sim hr ht hv
  refine ⟨if h : (Array.mk vs').size = 1 then (Array.mk vs')[0] else .tuple (Array.mk vs'), ?_, ?_⟩
  · rw [results_eq, Array.mapM_eq_mapM_toList]
    simp [e1]
  · cases e2 with
    | nil => exact .tuple (l' := []) .nil
    | cons h1 h2 => cases h2 with
      | nil => exact h1
      | cons h2 h3 => exact .tuple (l' := _ :: _ :: _) (.cons h1 (.cons h2 h3))
/-- The deferred calls of a frame that returns. -/
theorem leave_sim (hm : ExMono ih) (hC : CallOk P ih) {b : Frame} {arr : Array Value} {k : List Item} {cs : List Frame} : ∀ (ds : List ADef) {β : Ren} {h h' : Heap} {dv : List Deferred} {w : World},
    leaveA P ih ds h = some h' → DfsR β ds dv → Rel β h w → Dom β h h' →
    ∃ w' β', Steps P (lone (rtn b arr k dv) cs w) (lone (rtn b arr k []) cs w') ∧ Rel β' h' w' ∧ Ext β h w β' h' w'
  | [], β, h, h', dv, w, hl, hdf, hr, hd => by
    cases hl; cases hdf
    exact ⟨w, β, Steps.refl _ _, hr, Ext.refl _ _ _⟩
  | .call f cap args :: ds, β, h, h', dv, w, hl, hdf, hr, hd => by
    unfold leaveA at hl
    cases hdf with
    | cons hdr hdf =>
      cases hdr with
      | @call _ f' _ _ cap' args' hf hc ha =>
        split at hl
        · rename_i g
          split at hl
          · rename_i v h₁ hcall
            cases hf
            obtain ⟨fn, c, hfn, hnm, hb, hcl⟩ := enterA_some (show enterA P ih g (args ++ cap) h = some (v, h₁) from hcall)
            have hn2 := mono_leave hm hl
            obtain ⟨fr, v', w₁, β₁, e1, e2, e3, _, e4, e5, _⟩ := hC g _ h _ hcl β w _ .deferred (rtn b arr k _ :: cs) (ha.append hc) hr (hd.first hn2) (.inr ⟨rfl, _, _, rfl, rfl⟩)
            obtain ⟨w₂, β₂, f1, f2, f3⟩ := leave_sim hm hC ds hl (hdf.mono e5.le) e4 (hd.second e5) (b := b) (arr := arr) (k := k) (cs := cs)
            refine ⟨w₂, β₂, Steps.head (s_callDef hfn hnm hb) ?_, f2, Ext.trans hd e4 e5 f3⟩
            have ea : (Array.mk args' ++ Array.mk cap' : Array Value) = Array.mk (args' ++ cap') := by apply Array.ext'; simp
            rw [ea]
            exact Steps.trans e1 (Steps.head (s_backD e2 e3 rfl) f1)
          · cases hl
        · cases hl
  | .coll p :: ds, β, h, h', dv, w, hl, hdf, hr, hd => by
    unfold leaveA at hl
    cases hdf with
    | cons hdr hdf =>
      cases hdr with
      | @coll _ r n hb =>
        split at hl
        · rename_i hobj
          rw [Heap.put_eq] at hl
          rw [Heap.obj_eq] at hobj
          obtain ⟨o', e1, e2⟩ := hr.obj p _ r n hobj hb
          cases e2
          have ht := hr.turn (o₁ := .dfr none) hobj (by intro e; cases e) hb (o' := .deferred none) .dfrNone
          obtain ⟨w₂, β₂, f1, f2, f3⟩ := leave_sim hm hC ds hl hdf ht.1 (hd.second ht.2) (b := b) (arr := arr) (k := k) (cs := cs)
          exact ⟨w₂, β₂, Steps.head (s_takeColl e1) f1, f2, Ext.trans hd ht.1 ht.2 f3⟩
        · cases hl
end Go.Am

/- Calls, rounds, whole runs. -/
namespace Go.Am
variable {P : Program} {ih : Ex} {rnd : Option Pos} {fc : Fc} {β : Ren}

theorem setParams_spec : ∀ (ps : List Tmp) {as : List AV} {nt : Nat} {keep : Nat → Bool} {tm tm' : PTree AV}, setParams ps as nt keep tm = some tm' →
    ∀ t v, PTree.get (Pos.key t) tm' = some v → (keep t = true ∧ ∃ q : Nat, ps[q]? = some t ∧ as[q]? = some v) ∨ (PTree.get (Pos.key t) tm = some v ∧ (keep t = true → t ∉ ps))
  | [], as, nt, keep, tm, tm', hs, t, v, e => by cases hs; exact .inr ⟨e, fun _ h => by cases h⟩
  | p :: ps, [], nt, keep, tm, tm', hs, t, v, e => by cases hs
  | p :: ps, a :: as, nt, keep, tm, tm', hs, t, v, e => by
    rw [setParams_cons] at hs
    obtain ⟨_, h2⟩ := bcase_none hs
    rw [bcase_eq] at h2
    split at h2
    · rename_i hk
      rcases setParams_spec ps h2 t v e with ⟨h3, q, h4, h5⟩ | ⟨h3, h4⟩
      · exact .inl ⟨h3, q + 1, by simpa using h4, by simpa using h5⟩
      · rw [PTree.get_set] at h3
        split at h3
        · rename_i he
          have := Pos.key_inj he
          subst this
          cases h3
          exact .inl ⟨hk, 0, rfl, rfl⟩
        · rename_i hne
          refine .inr ⟨h3, fun hkt hm => ?_⟩
          rcases List.mem_cons.1 hm with rfl | hm
          · exact hne rfl
          · exact h4 hkt hm
    · rename_i hnk
      rcases setParams_spec ps h2 t v e with ⟨h3, q, h4, h5⟩ | ⟨h3, h4⟩
      · exact .inl ⟨h3, q + 1, by simpa using h4, by simpa using h5⟩
      · refine .inr ⟨h3, fun hkt hm => ?_⟩
        rcases List.mem_cons.1 hm with rfl | hm
        · exact hnk hkt
        · exact h4 hkt hm
theorem memL_iff (t : Nat) : ∀ l : List Nat, memL t l = true ↔ t ∈ l
  | [] => by simp [memL]
  | x :: l => by
    have e : memL t (x :: l) = bcase (Nat.beq x t) (memL t l) true := rfl
    rw [e, bcase_eq, beq_eq]
    by_cases h : x = t
    · subst h; simp
    · have h2 : ¬ t = x := fun e => h e.symm
      simp [h, h2, memL_iff t l]
theorem undefT_some {t : Nat} {v : AV} : ∀ {l : List Nat}, PTree.get (Pos.key t) (undefT l) = some v → v = undefA ∧ t ∈ l
  | [], h => by
    have h' : PTree.get (Pos.key t) (.nil : PTree AV) = some v := h
    rw [PTree.get_nil] at h'; cases h'
  | d :: l, h => by
    have h' : PTree.get (Pos.key t) (PTree.setK undefA (Pos.key d) (undefT l) fun t => t) = some v := h
    rw [PTree.setK_eq, PTree.get_set] at h'
    split at h'
    · rename_i e
      cases h'
      exact ⟨rfl, by rw [Pos.key_inj e]; exact List.mem_cons_self ..⟩
    · obtain ⟨h1, h2⟩ := undefT_some h'
      exact ⟨h1, List.mem_cons_of_mem _ h2⟩
theorem call_ok (hm : ExMono ih) (hK : CodeOk P ih.code) (hC : CallOk P ih) {keep : FuncId → List Nat} : CallOk P ⟨ih.code, fun f as h => callA P keep ih f as h, ih.round⟩ := by
  intro f args h x hx β w args' kd cs ha hr hd hq
  obtain ⟨fn, hfn, hx⟩ := obind_some.1 (show obind P.funcs[f]? _ = some x from hx)
  obtain ⟨c, hbody, hx⟩ := obind_some.1 hx
  rw [forceN_eq] at hx
  obtain ⟨tm, htm, hx⟩ := obind_some.1 hx
  obtain ⟨⟨e, s⟩, h1, h2⟩ := obind_some.1 hx
  have hlen := ha.length
  -- the frame
  let b : Frame := Frame.enter P f (Array.mk args') kd
  have hb : Frame.enter P f (Array.mk args') kd = frm b b.tmps [.code c] [] := by
    simp only [b, frm, Frame.enter, hfn, hbody, Option.bind_some, Option.getD_some]
  have hbf : b.fn = f := rfl
  have hbr : b.roundOf = none := rfl
  have hbk : b.kind = kd := rfl
  have hsz : b.tmps.size = (⟨slots fn args.length, keepL (keep f)⟩ : Fc).nt := by
    simp only [b, Frame.enter, hfn, Option.map_some, Option.getD_some, Array.size_append, Array.size_replicate, slots, hlen]
    simp; omega
  have hspec := setParams_spec _ htm
  have ht : TmT β tm b.tmps := by
    intro t v e
    rcases hspec t v e with ⟨_, q, h3, h4⟩ | h3
    · have hq' : q = t := by
        rw [List.getElem?_range] at h3
        · exact Option.some.inj h3
        · rcases Nat.lt_or_ge q args.length with h | h
          · exact h
          · rw [List.getElem?_eq_none h] at h4; cases h4
      subst hq'
      obtain ⟨v', h5, h6⟩ := ha.get h4
      have hlt : q < args'.length := by
        rcases Nat.lt_or_ge q args'.length with h | h
        · exact h
        · rw [List.getElem?_eq_none h] at h5; cases h5
      have : b.tmps.getD q undef = v' := by
        simp only [b, Frame.enter, Array.getD_eq_getD_getElem?]
        rw [Array.getElem?_append_left (by simpa using hlt)]
        simp [h5]
      rw [this]; exact h6
    · obtain ⟨h3, h4⟩ := h3
      obtain ⟨rfl, hmem⟩ := undefT_some h3
      have hnot : t ∉ List.range args.length := h4 ((memL_iff t _).2 hmem)
      have hge : args'.length ≤ t := by
        rw [← hlen]
        rcases Nat.lt_or_ge t args.length with h | h
        · exact absurd (List.mem_range.2 h) hnot
        · exact h
      have : b.tmps.getD t undef = undef := by
        simp only [b, Frame.enter, Array.getD_eq_getD_getElem?]
        rw [Array.getElem?_append_right (by simpa using hge)]
        rw [Array.getElem?_replicate]
        split <;> rfl
      rw [this]; exact undef_VR β
  have hkp : Kp ⟨slots fn args.length, keepL (keep f)⟩ tm := by
    intro t v e
    rcases hspec t v e with ⟨h3, _⟩ | ⟨h3, _⟩
    · exact h3
    · exact (memL_iff t _).2 (undefT_some h3).2
  have fin : backA P ih fn.results.toList s = some x → (e = .norm ∨ e = .ret) →
      ∃ fr v' w' β', Steps P (lone (Frame.enter P f (Array.mk args') kd) cs w) (lone fr cs w') ∧ Gone P fr v' w' ∧ fr.kind = kd ∧ fr.fn = f ∧
        Rel β' x.2 w' ∧ Ext β h w β' x.2 w' ∧ VR β' x.1 v' := by
    intro hback he
    obtain ⟨h', h4, h5⟩ := obind_some.1 hback
    obtain ⟨vs, h6, h7⟩ := obind_some.1 h5
    cases h7
    have hmono := mono_leave hm h4
    obtain ⟨arr', w₁, β₁, dv', f1, f2, f3, f4, f5, f6, f7⟩ := hK c none ⟨slots fn args.length, keepL (keep f)⟩ ⟨tm, [], h⟩ _ h1 (.code c) β b b.tmps [] [] cs w (.inl rfl) (by rw [hbk]; exact hq) hbr hr ht hkp hsz .nil
      (hd.first hmono)
    have hst : ∃ k, Steps P (mach b b.tmps [.code c] [] cs w) (lone (rtn b arr' k dv') cs w₁) := by
      rcases he with rfl | rfl
      · exact ⟨[], Steps.trans (show Steps P _ _ from f1) (Steps.one (s_end hbr))⟩
      · obtain ⟨k2, g⟩ := f1
        exact ⟨_, Steps.trans g (Steps.one (s_ret hbr))⟩
    obtain ⟨k, hst⟩ := hst
    obtain ⟨w₂, β₂, g1, g2, g3⟩ := leave_sim hm hC s.ds h4 f7 f5 (hd.second f6) (b := b) (arr := arr') (k := k) (cs := cs)
    obtain ⟨v', r1, r2⟩ := results_sim g2 (f3.mono g3.le) h6
    refine ⟨rtn b arr' k [], v', w₂, β₂, ?_, ⟨rfl, rfl, hbr, fn, by rw [← hbf] at hfn; exact hfn, r1⟩, hbk, hbf, g2, Ext.trans hd f5 f6 g3, r2⟩
    rw [hb]
    exact Steps.trans hst g1
  cases e with
  | norm => exact fin h2 (.inl rfl)
  | exit id => cases h2
  | ret => exact fin h2 (.inr rfl)
end Go.Am

/- Rounds, whole runs. -/
namespace Go.Am
variable {P : Program} {ih : Ex} {rnd : Option Pos} {fc : Fc} {β : Ren}

theorem loop_at {h : Heap} {w : World} (hr : Rel β h w) {p : Pos} {L : ALoop} {r n : Nat} (hobj : h.obj p = some (.loop L)) (hb : β p = some (r, n)) :
    ∃ L', w.heap[r]? = some (.loop L') ∧ LoopR β L L' := by
  rw [Heap.obj_eq] at hobj
  obtain ⟨o', e1, e2⟩ := hr.obj p _ r n hobj hb
  cases e2 with
  | loop h => exact ⟨_, e1, h⟩
theorem round_ok (hm : ExMono ih) (hK : CodeOk P ih.code) : ∀ p args h x, roundA ih p args h = some x → ∀ β w args' r n c cs, β p = some (r, n) → VRs β args args' → Rel β h w → Dom β h x.2 →
    ∃ L v' w' β', w.heap[r]? = some (.loop L) ∧ args'.length = L.params.size ∧
      Steps P (lone (Frame.round r L.fn (roundT L (Array.mk args')) L.assign L.body .normal) (c :: cs) w) (lone (c.finish v') cs w') ∧
      Rel β' x.2 w' ∧ Ext β h w β' x.2 w' ∧ VR β' x.1 v' := by
  intro p args h x hx β w args' r n c cs hb ha hr hd
  unfold roundA at hx
  split at hx
  · rename_i L hobj
    obtain ⟨L', g1, hL⟩ := loop_at hr hobj hb
    obtain ⟨hlen, hx⟩ := bcase_none hx
    have hlen' : args.length = L.params.length := nbeq hlen
    obtain ⟨tm, htm, hx⟩ := obind_some.1 hx
    obtain ⟨⟨e, s⟩, h1, h2⟩ := obind_some.1 hx
    have hps : L.params = L'.params.toList := hL.params
    obtain ⟨ht, hkp, hsz⟩ := setParams_sim L.fc L.params htm ha hlen' hL.tmps hL.keep hL.size
    have hrt : roundT L' (Array.mk args') = (L.params.zip args').foldl (fun tmps (t, a) => tmps.setIfInBounds t a) L'.tmps := by
      rw [hps]
      unfold roundT
      rw [← Array.foldl_toList]
      simp
    let b : Frame := Frame.round r L'.fn (roundT L' (Array.mk args')) L'.assign L'.body .normal
    have hbm : Frame.round r L'.fn (roundT L' (Array.mk args')) L'.assign L'.body .normal = frm b (roundT L' (Array.mk args')) [.code L'.assign, .beginRound, .code L'.body] [] := rfl
    have hbr : b.roundOf = some r := rfl
    have hbk : b.kind = .normal := rfl
    rw [← hrt] at ht hsz
    refine ⟨L', ?_⟩
    unfold roundBody at h2
    split at h2
    · rename_i L2 he2 hobj2
      subst he2
      split at h2
      · rename_i hst2
        rw [Heap.put_eq] at h2
        obtain ⟨⟨e3, s3⟩, h3, h4⟩ := obind_some.1 h2
        have hmono3 := hm.code _ _ _ _ _ h3
        unfold roundEnd at h4
        split at h4
        · rename_i L4 hds hobj4
          rw [Heap.put_eq] at h4
          simp only at hds hobj4
          cases h4
          -- the assignment
          rw [hL.assign] at h1
          obtain ⟨arr₁, w₁, β₁, dv₁, f1, f2, f3, f4, f5, f6, f7⟩ := hK L'.assign (some p) L.fc ⟨tm, [], h⟩ _ h1 (.code L'.assign) β b (roundT L' (Array.mk args')) [.beginRound, .code L'.body] [] (c :: cs) w
            (.inl rfl) (.inl hbk) ⟨hbk, r, n, hb, hbr⟩ hr ht hkp hsz .nil (hd.first hmono3)
          have hb1 := f6.le _ _ hb
          obtain ⟨L2', g2, hL2⟩ := loop_at f5 hobj2 hb1
          rw [Heap.obj_eq] at hobj2
          have ht2 := f5.turn (o₁ := .loop { L2 with state := .busy }) hobj2 (by intro e; cases e) hb1 (o' := .loop { L2' with state := .busy })
            (.loop ⟨rfl, hL2.pending, hL2.params, hL2.assign, hL2.body, hL2.size, hL2.tmps, hL2.keep, hL2.defers⟩)
          have hd1 := hd.second f6
          have hd2 := hd1.second ht2.2
          -- the body
          rw [hL.body] at h3
          obtain ⟨arr₃, w₃, β₃, dv₃, k1, k2, k3, k4, k5, k6, k7⟩ := hK L'.body (some p) L.fc _ _ h3 (.code L'.body) β₁ b arr₁ [] dv₁ (c :: cs) _
            (.inl rfl) (.inl hbk) ⟨hbk, r, n, hb1, hbr⟩ ht2.1 f3 f4 (f2.trans hsz) f7 hd2
          have hb3 := k6.le _ _ hb1
          obtain ⟨L4', g4, hL4⟩ := loop_at k5 hobj4 hb3
          rw [Heap.obj_eq] at hobj4
          have hstep : Steps P (lone (Frame.round r L'.fn (roundT L' (Array.mk args')) L'.assign L'.body .normal) (c :: cs) w) (mach b arr₁ [.code L'.body] dv₁ (c :: cs) (setBlock w₁ r (.loop { L2' with state := .busy }))) := by
            rw [hbm]
            exact Steps.trans (show Steps P _ _ from f1) (Steps.one (s_beginRound hbr g2 (by rw [← hL2.state]; exact hst2)))
          have hx1 : Ext β h w β₁ s.h w₁ := f6
          have hdx : Dom β h (⟨PTree.set (.loop { L2 with state := .busy }) p s.h.t, s.h.next⟩ : Heap) := hd.first (show nx s.h ≤ _ from hmono3)
          have hx2 := Ext.trans hdx f5 hx1 ht2.2
          have hd3 : Dom β h s3.h := hd
          have hx3 : Ext β h w β₃ s3.h w₃ := Ext.trans hd3 ht2.1 hx2 k6
          have last : ∀ (st : LoopState) (pd : Option Code), ∃ w₄, setBlock w₃ r (.loop { L4' with state := st, pending := pd }) = w₄ ∧
              Rel β₃ ⟨PTree.set (.loop { L4 with state := st, pending := pd }) p s3.h.t, s3.h.next⟩ w₄ ∧ Ext β₃ s3.h w₃ β₃ ⟨PTree.set (.loop { L4 with state := st, pending := pd }) p s3.h.t, s3.h.next⟩ w₄ := by
            intro st pd
            have := k5.turn (o₁ := .loop { L4 with state := st, pending := pd }) hobj4 (by intro e; cases e) hb3 (o' := .loop { L4' with state := st, pending := pd })
              (.loop ⟨rfl, rfl, hL4.params, hL4.assign, hL4.body, hL4.size, hL4.tmps, hL4.keep, hL4.defers⟩)
            exact ⟨_, rfl, this.1, this.2⟩
          have hsz2 : args'.length = L'.params.size := by
            have := ha.length
            rw [hps] at hlen'
            simp at hlen'
            omega
          cases e3 with
          | norm =>
            obtain ⟨w₄, hw4, q1, q2⟩ := last .ready none
            refine ⟨.bool true, w₄, β₃, g1, hsz2, ?_, q1, Ext.trans hd k5 hx3 q2, .bool true⟩
            rw [← hw4]
            exact Steps.trans hstep (Steps.trans (show Steps P _ _ from k1) (Steps.one (s_roundEnd hbr hbk g4)))
          | exit id =>
            obtain ⟨w₄, hw4, q1, q2⟩ := last .done (some (.exit id))
            obtain ⟨k2', m1, m2⟩ := k1
            refine ⟨.bool false, w₄, β₃, g1, hsz2, ?_, q1, Ext.trans hd k5 hx3 q2, .bool false⟩
            rw [← hw4]
            exact Steps.trans hstep (Steps.trans m2 (Steps.one (s_roundExit hbr hbk (by rw [m1]; rfl) g4)))
          | ret =>
            obtain ⟨w₄, hw4, q1, q2⟩ := last .done (some .ret)
            obtain ⟨k2', m2⟩ := k1
            refine ⟨.bool false, w₄, β₃, g1, hsz2, ?_, q1, Ext.trans hd k5 hx3 q2, .bool false⟩
            rw [← hw4]
            exact Steps.trans hstep (Steps.trans m2 (Steps.one (s_roundRet hbr hbk g4)))
        · cases h4
      · cases h2
    · cases h2
  · cases hx
theorem run_ok (hmix : P.follows .mixedOrders = true) (keep : FuncId → List Nat) : ∀ n, CodeOk P (run P keep n).code ∧ CallOk P (run P keep n) ∧ RoundOk P (run P keep n)
  | 0 => ⟨fun _ _ _ _ _ h => (by cases h), fun _ _ _ _ h => (by cases h), fun _ _ _ _ h => (by cases h)⟩
  | n + 1 => by
    obtain ⟨h1, h2, h3⟩ := run_ok hmix keep n
    have hm := run_mono P keep n
    exact ⟨code_ok hmix hm h1 h2 h3, call_ok (keep := keep) hm h1 h2, round_ok hm h1⟩
end Go.Am

/- Answers to calls that are known beforehand: a piece of a heap is found again under other names. -/
namespace Go.Am

/-- Names of the answer's heap, and what they are in the heap at hand. -/
abbrev Rho := List (Pos × Pos)
noncomputable def rfind (ρ : Rho) (p : Pos) : Option Pos :=
  List.rec (motive := fun _ => Option Pos) none (fun x _ ih => Prod.rec (motive := fun _ => Option Pos) (fun a b => bcase (eqP a p) ih (some b)) x) ρ
noncomputable def rhas (ρ : Rho) (q : Pos) : Bool :=
  List.rec (motive := fun _ => Bool) false (fun x _ ih => Prod.rec (motive := fun _ => Bool) (fun _ b => bcase (eqP b q) ih true) x) ρ
noncomputable def madd (p q : Pos) (ρ : Rho) : Option Rho :=
  Option.rec (motive := fun _ => Option Rho) (bcase (rhas ρ q) (some ((p, q) :: ρ)) none) (fun q' => bcase (eqP q' q) none (some ρ)) (rfind ρ p)
/-- The same value but for the names; names that are new are noted. -/
noncomputable def mOAd (a b : Option AAd) (ρ : Rho) : Option Rho :=
  match a, b with
  | none, none => some ρ
  | some a, some b => bcase (Nat.beq a.o b.o) none (madd a.b b.b ρ)
  | _, _ => none
noncomputable def mOP (a b : Option Pos) (ρ : Rho) : Option Rho :=
  match a, b with
  | none, none => some ρ
  | some a, some b => madd a b ρ
  | _, _ => none
noncomputable def mAll (f : AV → AV → Rho → Option Rho) : List AV → List AV → Rho → Option Rho
  | [], [], ρ => some ρ
  | a :: l, b :: m, ρ => obind (f a b ρ) fun ρ => mAll f l m ρ
  | _, _, _ => none
noncomputable def mV : Nat → AV → AV → Rho → Option Rho
  | 0, _, _, _ => none
  | n + 1, a, b, ρ => match a, b with
    | .bool x, .bool y => bcase (x == y) none (some ρ)
    | .int k x, .int l y => bcase (and (k == l) (eqI x y)) none (some ρ)
    | .str s, .str t => bcase (s.data.toList == t.data.toList) none (some ρ)
    | .ptr p, .ptr q => mOAd p q ρ
    | .slice p l c u, .slice q m d v => bcase (and (Nat.beq l m) (and (Nat.beq c d) (eqON u v))) none (mOAd p q ρ)
    | .map p, .map q => mOP p q ρ
    | .chan p, .chan q => mOP p q ρ
    | .func f a c, .func g b d => bcase (eqFn f g) none (obind (mAll (mV n) a b ρ) fun ρ => mAll (mV n) c d ρ)
    | .nilFunc, .nilFunc => some ρ
    | .nilIface, .nilIface => some ρ
    | .iface t v, .iface u w => bcase (Nat.beq t u) none (mV n v w ρ)
    | .agg l, .agg m => mAll (mV n) l m ρ
    | .tuple l, .tuple m => mAll (mV n) l m ρ
    | _, _ => none
noncomputable def mE (n : Nat) : List AEnt → List AEnt → Rho → Option Rho
  | [], [], ρ => some ρ
  | a :: l, b :: m, ρ => bcase (Nat.beq a.born b.born) none (obind (mV n a.key b.key ρ) fun ρ => obind (mV n a.val b.val ρ) fun ρ => mE n l m ρ)
  | _, _, _ => none
noncomputable def mO (n : Nat) (a b : AObj) (ρ : Rho) : Option Rho :=
  match a, b with
  | .cells c, .cells d => mAll (mV n) c d ρ
  | .map es k, .map fs l => bcase (Nat.beq k l) none (mE n es fs ρ)
  | _, _ => none
/-- A piece of a heap: its names are counted from 1 on. -/
abbrev Piece := List (Pos × AObj)
noncomputable def mH (n : Nat) (t : PTree AObj) : Piece → Rho → Option Rho
  | [], ρ => some ρ
  | (p, o) :: l, ρ => obind (rfind ρ p) fun q => obind (PTree.getK q t) fun o' => obind (mO n o o' ρ) fun ρ => mH n t l ρ

/-- Under other names. -/
noncomputable def rOAd (ρ : Rho) (a : Option AAd) : Option (Option AAd) :=
  match a with
  | none => some none
  | some a => obind (rfind ρ a.b) fun q => some (some ⟨q, a.o⟩)
noncomputable def rOP (ρ : Rho) (a : Option Pos) : Option (Option Pos) :=
  match a with
  | none => some none
  | some a => obind (rfind ρ a) fun q => some (some q)
noncomputable def rAll (f : AV → Option AV) : List AV → Option (List AV)
  | [] => some []
  | a :: l => obind (f a) fun a => obind (rAll f l) fun l => some (a :: l)
def okFn : AFn → Bool
  | .yield _ => false
  | _ => true
noncomputable def rV (ρ : Rho) : Nat → AV → Option AV
  | 0, _ => none
  | n + 1, a => match a with
    | .bool x => some (.bool x)
    | .int k x => some (.int k x)
    | .str s => some (.str s)
    | .ptr p => obind (rOAd ρ p) fun p => some (.ptr p)
    | .slice p l c u => obind (rOAd ρ p) fun p => some (.slice p l c u)
    | .map p => obind (rOP ρ p) fun p => some (.map p)
    | .chan p => obind (rOP ρ p) fun p => some (.chan p)
    | .func f a c => bcase (okFn f) none (obind (rAll (rV ρ n) a) fun a => obind (rAll (rV ρ n) c) fun c => some (.func f a c))
    | .nilFunc => some .nilFunc
    | .nilIface => some .nilIface
    | .iface t v => obind (rV ρ n v) fun v => some (.iface t v)
    | .agg l => obind (rAll (rV ρ n) l) fun l => some (.agg l)
    | .tuple l => obind (rAll (rV ρ n) l) fun l => some (.tuple l)
noncomputable def rE (ρ : Rho) (n : Nat) : List AEnt → Option (List AEnt)
  | [] => some []
  | a :: l => obind (rV ρ n a.key) fun k => obind (rV ρ n a.val) fun v => obind (rE ρ n l) fun l => some (⟨k, v, a.born⟩ :: l)
noncomputable def rO (ρ : Rho) (n : Nat) (a : AObj) : Option AObj :=
  match a with
  | .cells c => obind (rAll (rV ρ n) c) fun c => some (.cells c)
  | .map es k => obind (rE ρ n es) fun es => some (.map es k)
  | _ => none
noncomputable def rH (ρ : Rho) (n : Nat) (t : PTree AObj) : Piece → Option (PTree AObj)
  | [] => some t
  | (p, o) :: l => obind (rfind ρ p) fun q => obind (rO ρ n o) fun o => obind (rH ρ n t l) fun t => PTree.setK o q t fun t => some t
noncomputable def look (l : Piece) (p : Pos) : Option AObj :=
  List.rec (motive := fun _ => Option AObj) none (fun x _ ih => Prod.rec (motive := fun _ => Option AObj) (fun a o => bcase (eqP a p) ih (some o)) x) l
/-- A piece as a heap. -/
noncomputable def mkT (l : Piece) : PTree AObj :=
  List.rec (motive := fun _ => PTree AObj) .nil (fun x _ ih => Prod.rec (motive := fun _ => PTree AObj) (fun a o => PTree.setK o a ih fun t => t) x) l
noncomputable def inPin (t : PTree AObj) (ρ : Rho) : Bool :=
  List.rec (motive := fun _ => Bool) true (fun x _ ih => Prod.rec (motive := fun _ => Bool) (fun a _ => Option.rec (motive := fun _ => Bool) false (fun _ => ih) (PTree.getK a t)) x) ρ
/-- Fresh names for the new blocks. -/
noncomputable def fresh : List Pos → Pos → Rho → Rho × Pos
  | [], q, ρ => (ρ, q)
  | p :: l, q, ρ => fresh l (Pos.succ q) ((p, q) :: ρ)

/-- A call and its answer: what the arguments reach, what is there behind the call (the elder blocks first), the names of the new blocks. -/
structure Entry where
  args : List AV
  pin : Piece
  v : AV
  pout : Piece
  new : List Pos
noncomputable def mDepth : Nat := 6
noncomputable def Entry.ask (e : Entry) (args : List AV) (h : Heap) : Option (AV × Heap) :=
  obind (mAll (mV mDepth) e.args args []) fun ρ => obind (mH mDepth h.t e.pin ρ) fun ρ => bcase (inPin (mkT e.pin) ρ) none
    (Prod.rec (motive := fun _ => Option (AV × Heap)) (fun ρ' next => obind (rV ρ' mDepth e.v) fun v => obind (rH ρ' mDepth h.t e.pout) fun t => some (v, ⟨t, next⟩)) (fresh e.new h.next ρ))
noncomputable def orElseK {α : Type} (a b : Option α) : Option α := Option.rec (motive := fun _ => Option α) b (fun x => some x) a
noncomputable def askL (l : List Entry) (args : List AV) (h : Heap) : Option (AV × Heap) :=
  List.rec (motive := fun _ => Option (AV × Heap)) none (fun e _ ih => orElseK (e.ask args h) ih) l
abbrev Tabs := FuncId → List Entry
noncomputable def runO (P : Program) (keep : FuncId → List Nat) (T : Tabs) (n : Nat) : Ex :=
  Nat.rec (motive := fun _ => Ex) ⟨fun _ _ _ _ => none, fun _ _ _ => none, fun _ _ _ => none⟩
    (fun _ ih => ⟨fun c => codeA c P ih, fun f as h => orElseK (askL (T f) as h) (callA P keep ih f as h), fun p as h => roundA ih p as h⟩) n
end Go.Am

/- Answers to calls that are known beforehand: matching and renaming say what they should. -/
namespace Go.Am
variable {P : Program} {β : Ren}

def RLe (ρ ρ' : Rho) : Prop := ∀ p q, rfind ρ p = some q → rfind ρ' p = some q
def RInj (ρ : Rho) : Prop := ∀ p p' q, rfind ρ p = some q → rfind ρ p' = some q → p = p'
theorem RLe.refl (ρ : Rho) : RLe ρ ρ := fun _ _ h => h
theorem RLe.trans {a b c : Rho} (h : RLe a b) (h' : RLe b c) : RLe a c := fun p q e => h' p q (h p q e)
noncomputable def cmp (β : Ren) (ρ : Rho) : Ren := fun p => (rfind ρ p).bind β
theorem cmp_of {ρ : Rho} {p q : Pos} (h : rfind ρ p = some q) : cmp β ρ p = β q := by unfold cmp; rw [h]; rfl
theorem eqP_iff (p q : Pos) : eqP p q = decide (p = q) := by
  cases h : eqP p q with
  | true => rw [eqP_eq h]; simp
  | false =>
    rw [eq_comm, decide_eq_false_iff_not]
    intro e; subst e
    have : ∀ p : Pos, eqP p p = true := by
      intro p; induction p with
      | h => rfl
      | o p ih => exact ih
      | i p ih => exact ih
    rw [this] at h; cases h
theorem rfind_cons (a b : Pos) (ρ : Rho) (p : Pos) : rfind ((a, b) :: ρ) p = if a = p then some b else rfind ρ p := by
  show bcase (eqP a p) (rfind ρ p) (some b) = _
  rw [bcase_eq, eqP_iff]; simp
theorem rhas_false {ρ : Rho} {q : Pos} (h : rhas ρ q = false) : ∀ p, rfind ρ p ≠ some q := by
  induction ρ with
  | nil => intro p e; cases e
  | cons x ρ ih =>
    obtain ⟨a, b⟩ := x
    intro p e
    have h' : bcase (eqP b q) (rhas ρ q) true = false := h
    rw [bcase_eq, eqP_iff] at h'
    rw [rfind_cons] at e
    split at h'
    · cases h'
    · rename_i hb
      split at e
      · cases e; simp at hb
      · exact ih h' p e
theorem madd_spec {p q : Pos} {ρ ρ' : Rho} (h : madd p q ρ = some ρ') : RLe ρ ρ' ∧ (RInj ρ → RInj ρ') ∧ rfind ρ' p = some q := by
  unfold madd at h
  cases hf : rfind ρ p with
  | some q' =>
    rw [hf] at h
    obtain ⟨h1, h2⟩ := bcase_none (show bcase (eqP q' q) none (some ρ) = some ρ' from h)
    cases h2
    rw [eqP_eq h1] at hf
    exact ⟨RLe.refl _, id, hf⟩
  | none =>
    rw [hf] at h
    have h' : bcase (rhas ρ q) (some ((p, q) :: ρ)) none = some ρ' := h
    rw [bcase_eq] at h'
    split at h'
    · cases h'
    · rename_i hn
      cases h'
      have hn' := rhas_false (by simpa using hn : rhas ρ q = false)
      refine ⟨fun a b e => ?_, fun hi a a' b e e' => ?_, by rw [rfind_cons, if_pos rfl]⟩
      · rw [rfind_cons]
        split
        · rename_i hh; subst hh; rw [hf] at e; cases e
        · exact e
      · rw [rfind_cons] at e e'
        split at e <;> split at e'
        · rename_i h1 h2; rw [← h1, ← h2]
        · cases e; exact absurd e' (hn' _)
        · cases e'; exact absurd e (hn' _)
        · exact hi _ _ _ e e'
theorem mOP_spec {a b : Option Pos} {ρ ρ' : Rho} (h : mOP a b ρ = some ρ') : RLe ρ ρ' ∧ (RInj ρ → RInj ρ') ∧ ((a = none ∧ b = none) ∨ ∃ p q, a = some p ∧ b = some q ∧ rfind ρ' p = some q) := by
  cases a <;> cases b <;> first | (cases h; exact ⟨RLe.refl _, id, .inl ⟨rfl, rfl⟩⟩) | cases h | skip
  obtain ⟨h1, h2, h3⟩ := madd_spec h
  exact ⟨h1, h2, .inr ⟨_, _, rfl, rfl, h3⟩⟩
theorem mOAd_spec {a b : Option AAd} {ρ ρ' : Rho} (h : mOAd a b ρ = some ρ') : RLe ρ ρ' ∧ (RInj ρ → RInj ρ') ∧
    ((a = none ∧ b = none) ∨ ∃ p q o, a = some ⟨p, o⟩ ∧ b = some ⟨q, o⟩ ∧ rfind ρ' p = some q) := by
  cases a <;> cases b <;> first | (cases h; exact ⟨RLe.refl _, id, .inl ⟨rfl, rfl⟩⟩) | cases h | skip
  rename_i x y
  obtain ⟨p, o⟩ := x
  obtain ⟨q, o'⟩ := y
  obtain ⟨h1, h2⟩ := bcase_none (show bcase (Nat.beq o o') none (madd p q ρ) = some ρ' from h)
  rw [nbeq h1]
  obtain ⟨h3, h4, h5⟩ := madd_spec h2
  exact ⟨h3, h4, .inr ⟨_, _, _, rfl, rfl, h5⟩⟩
/-- What a match of two values says. -/
def MV (f : AV → AV → Rho → Option Rho) : Prop := ∀ a b ρ ρ', f a b ρ = some ρ' → RLe ρ ρ' ∧ (RInj ρ → RInj ρ') ∧ flat a = flat b ∧
  ∀ (β : Ren) (ρ'' : Rho) (v' : Value), RLe ρ' ρ'' → VR β b v' → VR (cmp β ρ'') a v'
theorem mAll_spec {f : AV → AV → Rho → Option Rho} (hf : MV f) : ∀ (l m : List AV) (ρ ρ' : Rho), mAll f l m ρ = some ρ' → RLe ρ ρ' ∧ (RInj ρ → RInj ρ') ∧ l.all flat = m.all flat ∧ l.length = m.length ∧
    ∀ (β : Ren) (ρ'' : Rho) (l' : List Value), RLe ρ' ρ'' → VRs β m l' → VRs (cmp β ρ'') l l'
  | [], [], ρ, ρ', h => by
    cases h
    refine ⟨RLe.refl _, id, rfl, rfl, fun β ρ'' l' _ hv => ?_⟩
    cases hv; exact .nil
  | a :: l, b :: m, ρ, ρ', h => by
    obtain ⟨ρ₁, h1, h2⟩ := obind_some.1 (show obind (f a b ρ) (fun ρ => mAll f l m ρ) = some ρ' from h)
    obtain ⟨i1, i2, i3, i4⟩ := hf _ _ _ _ h1
    obtain ⟨j1, j2, j3, j5, j4⟩ := mAll_spec hf l m _ _ h2
    refine ⟨i1.trans j1, fun hi => j2 (i2 hi), by simp [i3, j3], by simp [j5], fun β ρ'' l' hl hv => ?_⟩
    cases hv with
    | cons hv hvs => exact .cons (i4 β ρ'' _ (j1.trans hl) hv) (j4 β ρ'' _ hl hvs)
  | [], _ :: _, _, _, h => by cases h
  | _ :: _, [], _, _, h => by cases h
theorem eqFn_spec {f g : AFn} {f' : Fn} (h : eqFn f g = true) (hr : FnR β g f') (γ : Ren) : FnR γ f f' := by
  cases f <;> cases g <;> first | (cases h; done) | skip
  · rw [nbeq h]; cases hr; exact .func _
  · rw [eq_of_beq h]; cases hr; exact .method _
  · simp only [eqFn, Bool.and_eq_true] at h
    rw [nbeq h.1, eq_of_beq h.2]; cases hr; exact .methodOf _ _
theorem mV_spec : ∀ n, MV (mV n)
  | 0 => fun _ _ _ _ h => by cases h
  | n + 1 => by
    intro a b ρ ρ' h
    have ih := mV_spec n
    unfold mV at h
    split at h
    · obtain ⟨h1, h2⟩ := bcase_none h
      cases h2; rw [eq_of_beq h1]
      exact ⟨RLe.refl _, id, rfl, fun β ρ'' v' _ hv => by cases hv; exact .bool _⟩
    · obtain ⟨h1, h2⟩ := bcase_none h
      cases h2
      simp only [Bool.and_eq_true, eqI_eq] at h1
      rw [eq_of_beq h1.1, eq_of_beq h1.2]
      exact ⟨RLe.refl _, id, rfl, fun β ρ'' v' _ hv => by cases hv; exact .int _ _⟩
    · rename_i s t
      obtain ⟨h1, h2⟩ := bcase_none h
      cases h2
      have h3 := eq_of_beq h1
      obtain ⟨⟨l⟩⟩ := s
      obtain ⟨⟨m⟩⟩ := t
      simp only at h3
      subst h3
      exact ⟨RLe.refl _, id, rfl, fun β ρ'' v' _ hv => by cases hv; exact .str _⟩
    · obtain ⟨h1, h2, h3⟩ := mOAd_spec h
      refine ⟨h1, h2, rfl, fun β ρ'' v' hl hv => ?_⟩
      rcases h3 with ⟨rfl, rfl⟩ | ⟨p, q, o, rfl, rfl, h4⟩
      · cases hv; exact .ptrNil
      · cases hv with | ptr hb => exact .ptr (by rw [cmp_of (hl _ _ h4)]; exact hb)
    · obtain ⟨h0, h⟩ := bcase_none h
      simp only [Bool.and_eq_true] at h0
      rw [nbeq h0.1, nbeq h0.2.1, eqON_eq h0.2.2]
      obtain ⟨h1, h2, h3⟩ := mOAd_spec h
      refine ⟨h1, h2, rfl, fun β ρ'' v' hl hv => ?_⟩
      rcases h3 with ⟨rfl, rfl⟩ | ⟨p, q, o, rfl, rfl, h4⟩
      · cases hv; exact .sliceNil _ _
      · cases hv with
        | sliceK hb => exact .sliceK (by rw [cmp_of (hl _ _ h4)]; exact hb)
        | sliceU hb h5 h6 h7 => exact .sliceU (by rw [cmp_of (hl _ _ h4)]; exact hb) h5 h6 h7
        | sliceE _ a' _ => exact .sliceE _ a' _
    · obtain ⟨h1, h2, h3⟩ := mOP_spec h
      refine ⟨h1, h2, rfl, fun β ρ'' v' hl hv => ?_⟩
      rcases h3 with ⟨rfl, rfl⟩ | ⟨p, q, rfl, rfl, h4⟩
      · cases hv; exact .mapNil
      · cases hv with | map hb => exact .map (by rw [cmp_of (hl _ _ h4)]; exact hb)
    · obtain ⟨h1, h2, h3⟩ := mOP_spec h
      refine ⟨h1, h2, rfl, fun β ρ'' v' hl hv => ?_⟩
      rcases h3 with ⟨rfl, rfl⟩ | ⟨p, q, rfl, rfl, h4⟩
      · cases hv; exact .chanNil
      · cases hv with | chan hb => exact .chan (by rw [cmp_of (hl _ _ h4)]; exact hb)
    · obtain ⟨h0, h⟩ := bcase_none h
      obtain ⟨ρ₁, h1, h2⟩ := obind_some.1 h
      obtain ⟨i1, i2, _, _, i4⟩ := mAll_spec ih _ _ _ _ h1
      obtain ⟨j1, j2, _, _, j4⟩ := mAll_spec ih _ _ _ _ h2
      refine ⟨i1.trans j1, fun hi => j2 (i2 hi), rfl, fun β ρ'' v' hl hv => ?_⟩
      cases hv with
      | func hf ha hc => exact .func (eqFn_spec h0 hf _) (i4 β ρ'' _ (j1.trans hl) ha) (j4 β ρ'' _ hl hc)
    · cases h; exact ⟨RLe.refl _, id, rfl, fun β ρ'' v' _ hv => by cases hv; exact .nilFunc⟩
    · cases h; exact ⟨RLe.refl _, id, rfl, fun β ρ'' v' _ hv => by cases hv; exact .nilIface⟩
    · obtain ⟨h0, h⟩ := bcase_none h
      rw [nbeq h0]
      obtain ⟨i1, i2, _, i4⟩ := ih _ _ _ _ h
      refine ⟨i1, i2, rfl, fun β ρ'' v' hl hv => ?_⟩
      cases hv with | iface _ hv => exact .iface _ (i4 β ρ'' _ hl hv)
    · obtain ⟨i1, i2, i3, _, i4⟩ := mAll_spec ih _ _ _ _ h
      refine ⟨i1, i2, rfl, fun β ρ'' v' hl hv => ?_⟩
      cases hv with | agg hv hf => exact .agg (i4 β ρ'' _ hl hv) (i3.trans hf)
    · obtain ⟨i1, i2, _, _, i4⟩ := mAll_spec ih _ _ _ _ h
      refine ⟨i1, i2, rfl, fun β ρ'' v' hl hv => ?_⟩
      cases hv with | tuple hv => exact .tuple (i4 β ρ'' _ hl hv)
    · cases h
theorem mE_spec (n : Nat) : ∀ (l m : List AEnt) (ρ ρ' : Rho), mE n l m ρ = some ρ' → RLe ρ ρ' ∧ (RInj ρ → RInj ρ') ∧
    ∀ (β : Ren) (ρ'' : Rho) (l' : List MapEntry), RLe ρ' ρ'' → ERs β m l' → ERs (cmp β ρ'') l l'
  | [], [], ρ, ρ', h => by
    cases h
    refine ⟨RLe.refl _, id, fun β ρ'' l' _ hv => ?_⟩
    cases hv; exact .nil
  | a :: l, b :: m, ρ, ρ', h => by
    obtain ⟨h0, h⟩ := bcase_none (show bcase (Nat.beq a.born b.born) none (obind (mV n a.key b.key ρ) fun ρ => obind (mV n a.val b.val ρ) fun ρ => mE n l m ρ) = some ρ' from h)
    obtain ⟨ρ₁, h1, h⟩ := obind_some.1 h
    obtain ⟨ρ₂, h2, h⟩ := obind_some.1 h
    obtain ⟨i1, i2, _, i4⟩ := mV_spec n _ _ _ _ h1
    obtain ⟨j1, j2, _, j4⟩ := mV_spec n _ _ _ _ h2
    obtain ⟨k1, k2, k4⟩ := mE_spec n l m _ _ h
    refine ⟨(i1.trans j1).trans k1, fun hi => k2 (j2 (i2 hi)), fun β ρ'' l' hl hv => ?_⟩
    obtain ⟨ka, va, ba⟩ := a
    obtain ⟨kb, vb, bb⟩ := b
    have hb : ba = bb := nbeq h0
    subst hb
    cases hv with
    | cons _ hk hv hvs => exact .cons _ (i4 β ρ'' _ ((j1.trans k1).trans hl) hk) (j4 β ρ'' _ (k1.trans hl) hv) (k4 β ρ'' _ hl hvs)
  | [], _ :: _, _, _, h => by cases h
  | _ :: _, [], _, _, h => by cases h
theorem mO_spec {n : Nat} {a b : AObj} {ρ ρ' : Rho} (h : mO n a b ρ = some ρ') : RLe ρ ρ' ∧ (RInj ρ → RInj ρ') ∧ b ≠ .dead ∧
    ∀ (β : Ren) (ρ'' : Rho) (k : Nat) (o' : Obj), RLe ρ' ρ'' → OR β k b o' → OR (cmp β ρ'') k a o' := by
  unfold mO at h
  split at h
  · obtain ⟨i1, i2, i3, i5, i4⟩ := mAll_spec (mV_spec n) _ _ _ _ h
    refine ⟨i1, i2, (by intro e; cases e), fun β ρ'' k o' hl hv => ?_⟩
    cases hv with
    | cells h1 h2 h3 h4 => exact .cells (by rw [i5]; exact h1) h2 (by rw [i5]; exact i4 β ρ'' _ hl h3) (i3.trans h4)
  · obtain ⟨h0, h⟩ := bcase_none h
    obtain ⟨i1, i2, i4⟩ := mE_spec n _ _ _ _ h
    refine ⟨i1, i2, (by intro e; cases e), fun β ρ'' k o' hl hv => ?_⟩
    rw [nbeq h0]
    cases hv with | map c hv => exact .map _ (i4 β ρ'' _ hl hv)
  · cases h
theorem mH_spec (n : Nat) (t : PTree AObj) : ∀ (l : Piece) (ρ ρ' : Rho), mH n t l ρ = some ρ' → RLe ρ ρ' ∧ (RInj ρ → RInj ρ') ∧
    ∀ p o, (p, o) ∈ l → ∃ q b, rfind ρ' p = some q ∧ PTree.get q t = some b ∧ b ≠ .dead ∧ ∀ (β : Ren) (k : Nat) (o' : Obj), OR β k b o' → OR (cmp β ρ') k o o'
  | [], ρ, ρ', h => by cases h; exact ⟨RLe.refl _, id, fun p o hm => by cases hm⟩
  | (p, o) :: l, ρ, ρ', h => by
    obtain ⟨q, h1, h⟩ := obind_some.1 (show obind (rfind ρ p) (fun q => obind (PTree.getK q t) fun o' => obind (mO n o o' ρ) fun ρ => mH n t l ρ) = some ρ' from h)
    obtain ⟨b, h2, h⟩ := obind_some.1 h
    obtain ⟨ρ₁, h3, h⟩ := obind_some.1 h
    obtain ⟨i1, i2, i3, i4⟩ := mO_spec h3
    obtain ⟨j1, j2, j4⟩ := mH_spec n t l _ _ h
    refine ⟨i1.trans j1, fun hi => j2 (i2 hi), fun p' o' hm => ?_⟩
    rcases List.mem_cons.1 hm with e | hm
    · cases e
      rw [PTree.getK_eq] at h2
      exact ⟨q, b, j1 _ _ (i1 _ _ h1), h2, i3, fun β k o' hv => i4 β ρ' k o' j1 hv⟩
    · exact j4 p' o' hm

/-! ## Renaming -/
theorem rOP_spec {a b : Option Pos} {ρ : Rho} (h : rOP ρ a = some b) : (a = none ∧ b = none) ∨ ∃ p q, a = some p ∧ b = some q ∧ rfind ρ p = some q := by
  cases a with
  | none => cases h; exact .inl ⟨rfl, rfl⟩
  | some a =>
    obtain ⟨q, h1, h2⟩ := obind_some.1 (show obind (rfind ρ a) (fun q => some (some q)) = some b from h)
    cases h2; exact .inr ⟨_, _, rfl, rfl, h1⟩
theorem rOAd_spec {a b : Option AAd} {ρ : Rho} (h : rOAd ρ a = some b) : (a = none ∧ b = none) ∨ ∃ p q o, a = some ⟨p, o⟩ ∧ b = some ⟨q, o⟩ ∧ rfind ρ p = some q := by
  cases a with
  | none => cases h; exact .inl ⟨rfl, rfl⟩
  | some a =>
    obtain ⟨p, o⟩ := a
    obtain ⟨q, h1, h2⟩ := obind_some.1 (show obind (rfind ρ p) (fun q => some (some (⟨q, o⟩ : AAd))) = some b from h)
    cases h2; exact .inr ⟨_, _, _, rfl, rfl, h1⟩
/-- One renaming after another. -/
def Fit (β : Ren) (ρ : Rho) (β' : Ren) : Prop := ∀ p q x, rfind ρ p = some q → β p = some x → β' q = some x
def RV (ρ : Rho) (f : AV → Option AV) : Prop := ∀ a b, f a = some b → flat a = flat b ∧ ∀ (β β' : Ren) (v' : Value), Fit β ρ β' → VR β a v' → VR β' b v'
theorem rAll_spec {ρ : Rho} {f : AV → Option AV} (hf : RV ρ f) : ∀ (l m : List AV), rAll f l = some m → l.all flat = m.all flat ∧ l.length = m.length ∧
    ∀ (β β' : Ren) (l' : List Value), Fit β ρ β' → VRs β l l' → VRs β' m l'
  | [], m, h => by
    cases h
    refine ⟨rfl, rfl, fun β β' l' _ hv => ?_⟩
    cases hv; exact .nil
  | a :: l, m, h => by
    obtain ⟨b, h1, h⟩ := obind_some.1 (show obind (f a) (fun a => obind (rAll f l) fun l => some (a :: l)) = some m from h)
    obtain ⟨m', h2, h⟩ := obind_some.1 h
    cases h
    obtain ⟨i1, i2⟩ := hf _ _ h1
    obtain ⟨j1, j3, j2⟩ := rAll_spec hf _ _ h2
    refine ⟨by simp [i1, j1], by simp [j3], fun β β' l' hft hv => ?_⟩
    cases hv with
    | cons hv hvs => exact .cons (i2 β β' _ hft hv) (j2 β β' _ hft hvs)
theorem okFn_spec {f : AFn} {f' : Fn} (h : okFn f = true) (hr : FnR β f f') (γ : Ren) : FnR γ f f' := by
  cases hr with
  | func => exact .func _
  | method => exact .method _
  | methodOf => exact .methodOf _ _
  | yield => cases h
theorem rV_spec (ρ : Rho) : ∀ n, RV ρ (rV ρ n)
  | 0 => fun _ _ h => by cases h
  | n + 1 => by
    intro a b h
    have ih := rV_spec ρ n
    unfold rV at h
    split at h
    · cases h; exact ⟨rfl, fun β β' v' _ hv => by cases hv; exact .bool _⟩
    · cases h; exact ⟨rfl, fun β β' v' _ hv => by cases hv; exact .int _ _⟩
    · cases h; exact ⟨rfl, fun β β' v' _ hv => by cases hv; exact .str _⟩
    · obtain ⟨x, h1, h2⟩ := obind_some.1 h
      cases h2
      refine ⟨rfl, fun β β' v' hft hv => ?_⟩
      rcases rOAd_spec h1 with ⟨rfl, rfl⟩ | ⟨p, q, o, rfl, rfl, h3⟩
      · cases hv; exact .ptrNil
      · cases hv with | ptr hb => exact .ptr (hft _ _ _ h3 hb)
    · obtain ⟨x, h1, h2⟩ := obind_some.1 h
      cases h2
      refine ⟨rfl, fun β β' v' hft hv => ?_⟩
      rcases rOAd_spec h1 with ⟨rfl, rfl⟩ | ⟨p, q, o, rfl, rfl, h3⟩
      · cases hv; exact .sliceNil _ _
      · cases hv with
        | sliceK hb => exact .sliceK (hft _ _ _ h3 hb)
        | sliceU hb h5 h6 h7 => exact .sliceU (hft _ _ _ h3 hb) h5 h6 h7
        | sliceE _ a' _ => exact .sliceE _ a' _
    · obtain ⟨x, h1, h2⟩ := obind_some.1 h
      cases h2
      refine ⟨rfl, fun β β' v' hft hv => ?_⟩
      rcases rOP_spec h1 with ⟨rfl, rfl⟩ | ⟨p, q, rfl, rfl, h3⟩
      · cases hv; exact .mapNil
      · cases hv with | map hb => exact .map (hft _ _ _ h3 hb)
    · obtain ⟨x, h1, h2⟩ := obind_some.1 h
      cases h2
      refine ⟨rfl, fun β β' v' hft hv => ?_⟩
      rcases rOP_spec h1 with ⟨rfl, rfl⟩ | ⟨p, q, rfl, rfl, h3⟩
      · cases hv; exact .chanNil
      · cases hv with | chan hb => exact .chan (hft _ _ _ h3 hb)
    · obtain ⟨h0, h⟩ := bcase_none h
      obtain ⟨x, h1, h⟩ := obind_some.1 h
      obtain ⟨y, h2, h⟩ := obind_some.1 h
      cases h
      obtain ⟨_, _, i2⟩ := rAll_spec ih _ _ h1
      obtain ⟨_, _, j2⟩ := rAll_spec ih _ _ h2
      refine ⟨rfl, fun β β' v' hft hv => ?_⟩
      cases hv with
      | func hf ha hc => exact .func (okFn_spec h0 hf _) (i2 β β' _ hft ha) (j2 β β' _ hft hc)
    · cases h; exact ⟨rfl, fun β β' v' _ hv => by cases hv; exact .nilFunc⟩
    · cases h; exact ⟨rfl, fun β β' v' _ hv => by cases hv; exact .nilIface⟩
    · obtain ⟨x, h1, h2⟩ := obind_some.1 h
      cases h2
      obtain ⟨_, i2⟩ := ih _ _ h1
      refine ⟨rfl, fun β β' v' hft hv => ?_⟩
      cases hv with | iface _ hv => exact .iface _ (i2 β β' _ hft hv)
    · obtain ⟨x, h1, h2⟩ := obind_some.1 h
      cases h2
      obtain ⟨i1, _, i2⟩ := rAll_spec ih _ _ h1
      refine ⟨rfl, fun β β' v' hft hv => ?_⟩
      cases hv with | agg hv hf => exact .agg (i2 β β' _ hft hv) (i1.symm.trans hf)
    · obtain ⟨x, h1, h2⟩ := obind_some.1 h
      cases h2
      obtain ⟨_, _, i2⟩ := rAll_spec ih _ _ h1
      refine ⟨rfl, fun β β' v' hft hv => ?_⟩
      cases hv with | tuple hv => exact .tuple (i2 β β' _ hft hv)
theorem rE_spec (ρ : Rho) (n : Nat) : ∀ (l m : List AEnt), rE ρ n l = some m → ∀ (β β' : Ren) (l' : List MapEntry), Fit β ρ β' → ERs β l l' → ERs β' m l'
  | [], m, h, β, β', l', _, hv => by cases h; cases hv; exact .nil
  | a :: l, m, h, β, β', l', hft, hv => by
    obtain ⟨k, h1, h⟩ := obind_some.1 (show obind (rV ρ n a.key) (fun k => obind (rV ρ n a.val) fun v => obind (rE ρ n l) fun l => some (⟨k, v, a.born⟩ :: l)) = some m from h)
    obtain ⟨v, h2, h⟩ := obind_some.1 h
    obtain ⟨m', h3, h⟩ := obind_some.1 h
    cases h
    cases hv with
    | cons _ hk hv hvs => exact .cons _ ((rV_spec ρ n _ _ h1).2 β β' _ hft hk) ((rV_spec ρ n _ _ h2).2 β β' _ hft hv) (rE_spec ρ n _ _ h3 β β' _ hft hvs)
theorem rO_spec {ρ : Rho} {n : Nat} {a b : AObj} (h : rO ρ n a = some b) : b ≠ .dead ∧ ∀ (β β' : Ren) (k : Nat) (o' : Obj), Fit β ρ β' → OR β k a o' → OR β' k b o' := by
  unfold rO at h
  split at h
  · obtain ⟨c, h1, h2⟩ := obind_some.1 h
    cases h2
    obtain ⟨i1, i3, i2⟩ := rAll_spec (rV_spec ρ n) _ _ h1
    refine ⟨(by intro e; cases e), fun β β' k o' hft hv => ?_⟩
    cases hv with
    | cells h1 h2 h3 h4 => exact .cells (by rw [← i3]; exact h1) h2 (by rw [← i3]; exact i2 β β' _ hft h3) (i1.symm.trans h4)
  · obtain ⟨c, h1, h2⟩ := obind_some.1 h
    cases h2
    refine ⟨(by intro e; cases e), fun β β' k o' hft hv => ?_⟩
    cases hv with | map _ hv => exact .map _ (rE_spec ρ n _ _ h1 β β' _ hft hv)
  · cases h
end Go.Am

/- Answers to calls that are known beforehand: an answer that is right in its own heap is right in every heap. -/
namespace Go.Am
variable {P : Program} {β : Ren}

theorem look_cons (a : Pos) (o : AObj) (l : Piece) (p : Pos) : look ((a, o) :: l) p = if a = p then some o else look l p := by
  show bcase (eqP a p) (look l p) (some o) = _
  rw [bcase_eq, eqP_iff]; simp
theorem look_mem {p : Pos} {o : AObj} : ∀ {l : Piece}, look l p = some o → (p, o) ∈ l
  | [], h => by cases h
  | (a, b) :: l, h => by
    rw [look_cons] at h
    split at h
    · rename_i e; subst e; cases h; exact List.mem_cons_self ..
    · exact List.mem_cons_of_mem _ (look_mem h)
theorem look_of_mem {p : Pos} {o : AObj} : ∀ {l : Piece}, (p, o) ∈ l → ∃ o', look l p = some o'
  | (a, b) :: l, h => by
    rw [look_cons]
    split
    · exact ⟨_, rfl⟩
    · rename_i hne
      rcases List.mem_cons.1 h with e | h
      · cases e; exact absurd rfl hne
      · exact look_of_mem h
theorem get_mkT (p : Pos) : ∀ (l : Piece), PTree.get p (mkT l) = look l p
  | [] => PTree.get_nil p
  | (a, o) :: l => by
    show PTree.get p (PTree.setK o a (mkT l) fun t => t) = _
    rw [PTree.setK_eq, PTree.get_set, look_cons, get_mkT p l]
    by_cases h : p = a
    · subst h; simp
    · rw [if_neg h, if_neg (fun e => h e.symm)]
theorem inPin_spec {l : Piece} : ∀ {ρ : Rho}, inPin (mkT l) ρ = true → ∀ p q, rfind ρ p = some q → ∃ o, look l p = some o
  | [], _, p, q, e => by cases e
  | (a, b) :: ρ, h, p, q, e => by
    have h' : Option.rec (motive := fun _ => Bool) false (fun _ => inPin (mkT l) ρ) (PTree.getK a (mkT l)) = true := h
    rw [rfind_cons] at e
    cases hg : PTree.getK a (mkT l) with
    | none => rw [hg] at h'; cases h'
    | some o =>
      rw [hg] at h'
      rw [PTree.getK_eq, get_mkT] at hg
      split at e
      · rename_i hh; subst hh; exact ⟨o, hg⟩
      · exact inPin_spec h' p q e
theorem rH_spec {ρ : Rho} {n : Nat} {t : PTree AObj} (hi : RInj ρ) : ∀ {l : Piece} {t' : PTree AObj}, rH ρ n t l = some t' →
    (∀ q, (∀ p o, look l p = some o → rfind ρ p ≠ some q) → PTree.get q t' = PTree.get q t) ∧
    (∀ p o, look l p = some o → ∃ q o2, rfind ρ p = some q ∧ rO ρ n o = some o2 ∧ PTree.get q t' = some o2)
  | [], t', h => by cases h; exact ⟨fun _ _ => rfl, fun p o h => by cases h⟩
  | (a, b) :: l, t', h => by
    obtain ⟨q, h1, h⟩ := obind_some.1 (show obind (rfind ρ a) (fun q => obind (rO ρ n b) fun o => obind (rH ρ n t l) fun t => PTree.setK o q t fun t => some t) = some t' from h)
    obtain ⟨b2, h2, h⟩ := obind_some.1 h
    obtain ⟨t1, h3, h⟩ := obind_some.1 h
    rw [PTree.setK_eq] at h
    cases h
    obtain ⟨i1, i2⟩ := rH_spec hi h3
    refine ⟨fun x hx => ?_, fun p o hp => ?_⟩
    · rw [PTree.get_set_other]
      · by_cases hal : ∃ o', look l a = some o'
        · refine i1 x fun p o hp => ?_
          by_cases e : a = p
          · subst e; exact hx a b (by rw [look_cons, if_pos rfl])
          · exact hx p o (by rw [look_cons, if_neg e]; exact hp)
        · refine i1 x fun p o hp => ?_
          have e : ¬ a = p := fun e => hal ⟨o, e ▸ hp⟩
          exact hx p o (by rw [look_cons, if_neg e]; exact hp)
      · intro e; subst e; exact hx a b (by rw [look_cons, if_pos rfl]) h1
    · rw [look_cons] at hp
      split at hp
      · rename_i e; subst e; cases hp
        exact ⟨q, b2, h1, h2, PTree.get_set_same _ _ _⟩
      · rename_i hne
        obtain ⟨x, o2, j1, j2, j3⟩ := i2 p o hp
        refine ⟨x, o2, j1, j2, ?_⟩
        rw [PTree.get_set_other]
        · exact j3
        · intro e; subst e; exact hne (hi _ _ _ h1 j1)
theorem fresh_cons (p : Pos) (l : List Pos) (q : Pos) (ρ : Rho) : fresh (p :: l) q ρ = fresh l (Pos.succ q) ((p, q) :: ρ) := rfl
theorem fresh_spec : ∀ (l : List Pos) (q : Pos) (ρ : Rho), q.toNat ≤ (fresh l q ρ).2.toNat ∧ (∀ p, p ∉ l → rfind (fresh l q ρ).1 p = rfind ρ p) ∧
    (∀ p, p ∈ l → ∃ x, rfind (fresh l q ρ).1 p = some x ∧ q.toNat ≤ x.toNat ∧ x.toNat < (fresh l q ρ).2.toNat) ∧
    (∀ p p' x, p ∈ l → p' ∈ l → rfind (fresh l q ρ).1 p = some x → rfind (fresh l q ρ).1 p' = some x → p = p')
  | [], q, ρ => ⟨Nat.le_refl _, fun _ _ => rfl, fun p h => (by cases h), fun p p' x h => (by cases h)⟩
  | a :: l, q, ρ => by
    rw [fresh_cons]
    obtain ⟨h1, h2, h3, h4⟩ := fresh_spec l q.succ ((a, q) :: ρ)
    rw [Pos.toNat_succ] at h1 h3
    have ha : a ∉ l → rfind (fresh l q.succ ((a, q) :: ρ)).1 a = some q := fun h => by rw [h2 a h, rfind_cons, if_pos rfl]
    refine ⟨by omega, fun p hp => ?_, fun p hp => ?_, fun p p' x hp hp' e e' => ?_⟩
    · rw [h2 p (fun h => hp (List.mem_cons_of_mem _ h)), rfind_cons, if_neg]
      intro e; subst e; exact hp (List.mem_cons_self ..)
    · by_cases hl : p ∈ l
      · obtain ⟨x, e1, e2, e3⟩ := h3 p hl
        exact ⟨x, e1, by omega, e3⟩
      · rcases List.mem_cons.1 hp with rfl | hp
        · exact ⟨q, ha hl, Nat.le_refl _, by omega⟩
        · exact absurd hp hl
    · by_cases hl : p ∈ l <;> by_cases hl' : p' ∈ l
      · exact h4 p p' x hl hl' e e'
      · rcases List.mem_cons.1 hp' with rfl | hp'
        · rw [ha hl'] at e'; cases e'
          obtain ⟨x, e1, e2, _⟩ := h3 p hl
          rw [e] at e1; cases e1; omega
        · exact absurd hp' hl'
      · rcases List.mem_cons.1 hp with rfl | hp
        · rw [ha hl] at e; cases e
          obtain ⟨x, e1, e2, _⟩ := h3 p' hl'
          rw [e'] at e1; cases e1; omega
        · exact absurd hp hl
      · rcases List.mem_cons.1 hp with rfl | hp
        · rcases List.mem_cons.1 hp' with rfl | hp'
          · rfl
          · exact absurd hp' hl'
        · exact absurd hp hl

/-- An answer that is right in its own heap. -/
structure EntryOk (P : Program) (f : FuncId) (e : Entry) : Prop where
  apart : ∀ p ∈ e.new, look e.pin p = none
  newOut : ∀ p ∈ e.new, ∃ o, look e.pout p = some o
  pinOut : ∀ p o, look e.pin p = some o → ∃ o', look e.pout p = some o'
  ok : ∀ (β : Ren) (w : World) (args' : List Value) (kd : CallKind) (cs : List Frame), (∀ p x, β p = some x → ∃ o, look e.pin p = some o) → VRs β e.args args' →
    (∀ p o r n, look e.pin p = some o → β p = some (r, n) → ∃ o', w.heap[r]? = some o' ∧ OR β n o o') → (∀ p q r n m, β p = some (r, n) → β q = some (r, m) → p = q) →
    (∀ p r n, β p = some (r, n) → r < w.heap.size) → QuietK kd cs →
    ∃ fr v' w' β', Steps P (lone (Frame.enter P f (Array.mk args') kd) cs w) (lone fr cs w') ∧ Gone P fr v' w' ∧ fr.kind = kd ∧ fr.fn = f ∧ VR β' e.v v' ∧
      (∀ p o r n, look e.pout p = some o → β' p = some (r, n) → ∃ o', w'.heap[r]? = some o' ∧ OR β' n o o') ∧
      (∀ p q r n m o o', look e.pout p = some o → look e.pout q = some o' → β' p = some (r, n) → β' q = some (r, m) → p = q ∨ o = .dead ∨ o' = .dead) ∧
      β.le β' ∧ (∀ p r n, β' p = some (r, n) → β p = some (r, n) ∨ (look e.pin p = none ∧ (w.heap.size ≤ r ∨ ∃ q m, β q = some (r, m)))) ∧
      (∀ p r n, β' p = some (r, n) → r < w'.heap.size) ∧ w.heap.size ≤ w'.heap.size ∧
      (∀ r, r < w.heap.size → (∀ q m, β q ≠ some (r, m)) → w'.heap[r]? = w.heap[r]?) ∧ SameW w w'
theorem ask_ok {f : FuncId} {e : Entry} (he : EntryOk P f e) {args : List AV} {h : Heap} {x : AV × Heap} (hx : e.ask args h = some x) {w : World} {args' : List Value} {kd : CallKind} {cs : List Frame}
    (ha : VRs β args args') (hr : Rel β h w) (hd : Dom β h x.2) (hq : QuietK kd cs) :
    ∃ fr v' w' β', Steps P (lone (Frame.enter P f (Array.mk args') kd) cs w) (lone fr cs w') ∧ Gone P fr v' w' ∧ fr.kind = kd ∧ fr.fn = f ∧
      Rel β' x.2 w' ∧ Ext β h w β' x.2 w' ∧ VR β' x.1 v' := by
  classical
  obtain ⟨ρ₁, h1, hx⟩ := obind_some.1 (show obind (mAll (mV mDepth) e.args args []) _ = some x from hx)
  obtain ⟨ρ, h2, hx⟩ := obind_some.1 hx
  obtain ⟨hpin, hx⟩ := bcase_none hx
  have hx' : obind (rV (fresh e.new h.next ρ).1 mDepth e.v) (fun v => obind (rH (fresh e.new h.next ρ).1 mDepth h.t e.pout) fun t => some (v, (⟨t, (fresh e.new h.next ρ).2⟩ : Heap))) = some x := hx
  obtain ⟨f1, f2, f3, f4⟩ := fresh_spec e.new h.next ρ
  generalize fresh e.new h.next ρ = R at hx' f1 f2 f3 f4
  obtain ⟨ρ', next⟩ := R
  simp only at hx' f1 f2 f3 f4
  obtain ⟨v2, h3, hx'⟩ := obind_some.1 hx'
  obtain ⟨t', h4, hx'⟩ := obind_some.1 hx'
  cases hx'
  simp only at hd
  obtain ⟨_, i2, _, _, i5⟩ := mAll_spec (mV_spec mDepth) _ _ _ _ h1
  obtain ⟨j1, j2, j3⟩ := mH_spec mDepth h.t _ _ _ h2
  have hinj : RInj ρ := j2 (i2 fun p p' q e => by cases e)
  have hpin' := inPin_spec hpin
  -- what is matched lies in the heap
  have hmat : ∀ p q, rfind ρ p = some q → ∃ o b, look e.pin p = some o ∧ PTree.get q h.t = some b ∧ b ≠ .dead ∧ ∀ (β : Ren) (k : Nat) (o' : Obj), OR β k b o' → OR (cmp β ρ) k o o' := by
    intro p q hpq
    obtain ⟨o, ho⟩ := hpin' p q hpq
    obtain ⟨q', b, k1, k2, k3, k4⟩ := j3 p o (look_mem ho)
    rw [hpq] at k1; cases k1
    exact ⟨o, b, ho, k2, k3, k4⟩
  have hlive : ∀ p q, rfind ρ p = some q → Live h q := fun p q hpq => by
    obtain ⟨_, b, _, k2, k3, _⟩ := hmat p q hpq
    exact ⟨b, k2, k3⟩
  have hnd : ∀ p q, rfind ρ p = some q → PTree.get q h.t ≠ some .dead := fun p q hpq hdd => by
    obtain ⟨b, k2, k3⟩ := hlive p q hpq
    rw [hdd] at k2; cases k2; exact k3 rfl
  have hlt : ∀ p q, rfind ρ p = some q → q.toNat < h.next.toNat := fun p q hpq => by
    obtain ⟨b, k2, _⟩ := hlive p q hpq
    exact hr.fresh q b k2
  have hcmp : ∀ p y, cmp β ρ p = some y → ∃ q, rfind ρ p = some q ∧ β q = some y := by
    intro p y hy
    unfold cmp at hy
    cases hf : rfind ρ p with
    | none => rw [hf] at hy; cases hy
    | some q => rw [hf] at hy; exact ⟨q, rfl, hy⟩
  obtain ⟨fr, v', w', βo, g1, g2, g3, g4, g5, g6, g7, g8, g9, g10, g11, g12, g13⟩ := he.ok (cmp β ρ) w args' kd cs
    (fun p y hy => by obtain ⟨q, hq, _⟩ := hcmp p y hy; obtain ⟨o, _, ho, _⟩ := hmat p q hq; exact ⟨o, ho⟩)
    (i5 β ρ _ j1 ha)
    (fun p o r n ho hy => by
      obtain ⟨q, hq, hb⟩ := hcmp p _ hy
      obtain ⟨o2, b, k1, k2, _, k4⟩ := hmat p q hq
      rw [ho] at k1; cases k1
      obtain ⟨o', e1, e2⟩ := hr.obj q b r n k2 hb
      exact ⟨o', e1, k4 β n o' e2⟩)
    (fun p q r n m hp hq => by
      obtain ⟨a, ha', hb⟩ := hcmp p _ hp
      obtain ⟨c, hc, hb'⟩ := hcmp q _ hq
      rcases hr.inj a c r n m hb hb' with k | k | k
      · subst k; exact hinj _ _ _ ha' hc
      · exact absurd k (hnd _ _ ha')
      · exact absurd k (hnd _ _ hc))
    (fun p r n hp => by obtain ⟨a, _, hb⟩ := hcmp p _ hp; exact hr.inW a r n hb) hq
  -- the names behind the call
  have hold : ∀ p y, rfind ρ' p = some y → p ∉ e.new → rfind ρ p = some y := fun p y hy hn => by rw [f2 p hn] at hy; exact hy
  have hnew : ∀ p y, rfind ρ' p = some y → p ∈ e.new → h.next.toNat ≤ y.toNat ∧ y.toNat < next.toNat := fun p y hy hn => by
    obtain ⟨z, k1, k2, k3⟩ := f3 p hn
    rw [hy] at k1; cases k1; exact ⟨k2, k3⟩
  have hpn : ∀ p q, rfind ρ p = some q → p ∉ e.new := fun p q hpq hn => by
    obtain ⟨o, _, ho, _⟩ := hmat p q hpq
    rw [he.apart p hn] at ho; cases ho
  have hinj' : RInj ρ' := by
    intro p p' y hy hy'
    by_cases hn : p ∈ e.new <;> by_cases hn' : p' ∈ e.new
    · exact f4 p p' y hn hn' hy hy'
    · have := hlt _ _ (hold _ _ hy' hn'); have := (hnew _ _ hy hn).1; omega
    · have := hlt _ _ (hold _ _ hy hn); have := (hnew _ _ hy' hn').1; omega
    · exact hinj _ _ _ (hold _ _ hy hn) (hold _ _ hy' hn')
  let β' : Ren := fun y => if hh : ∃ p, p ∈ e.new ∧ rfind ρ' p = some y then βo (Classical.choose hh) else β y
  have hβnew : ∀ p y, rfind ρ' p = some y → p ∈ e.new → β' y = βo p := by
    intro p y hy hn
    have hh : ∃ p, p ∈ e.new ∧ rfind ρ' p = some y := ⟨p, hn, hy⟩
    show dite _ _ _ = _
    rw [dif_pos hh]
    have := Classical.choose_spec hh
    rw [hinj' _ _ _ this.2 hy]
  have hβold : ∀ y, (∀ p, p ∈ e.new → rfind ρ' p ≠ some y) → β' y = β y := by
    intro y hy
    show dite _ _ _ = _
    rw [dif_neg]
    rintro ⟨p, hp, hpy⟩; exact hy p hp hpy
  have hβlow : ∀ y : Pos, y.toNat < h.next.toNat → β' y = β y := fun y hy => hβold y fun p hn hpy => by have := (hnew p y hpy hn).1; omega
  have himg : ∀ p y, rfind ρ' p = some y → β' y = βo p := by
    intro p y hy
    by_cases hn : p ∈ e.new
    · exact hβnew p y hy hn
    · have h0 := hold p y hy hn
      rw [hβlow y (hlt p y h0)]
      have hc : cmp β ρ p = β y := cmp_of h0
      cases hb : βo p with
      | some z =>
        obtain ⟨r, n⟩ := z
        rcases g9 p r n hb with k | ⟨k, _⟩
        · rw [← hc]; exact k
        · obtain ⟨o, _, ho, _⟩ := hmat p y h0
          rw [k] at ho; cases ho
      | none =>
        cases hb' : β y with
        | none => rfl
        | some z =>
          have := g8 p z (by rw [hc]; exact hb')
          rw [hb] at this; cases this
  have hfit : Fit βo ρ' β' := fun p q y hpq hy => by rw [himg p q hpq]; exact hy
  have hout : ∀ p y, rfind ρ' p = some y → ∃ o, look e.pout p = some o := by
    intro p y hy
    by_cases hn : p ∈ e.new
    · exact he.newOut p hn
    · obtain ⟨o, _, ho, _⟩ := hmat p y (hold p y hy hn)
      exact he.pinOut p o ho
  obtain ⟨k1, k2⟩ := rH_spec hinj' h4
  -- a name of the new heap
  have himgT : ∀ p y, rfind ρ' p = some y → ∃ o o2, look e.pout p = some o ∧ rO ρ' mDepth o = some o2 ∧ PTree.get y t' = some o2 := by
    intro p y hy
    obtain ⟨o, ho⟩ := hout p y hy
    obtain ⟨q, o2, l1, l2, l3⟩ := k2 p o ho
    rw [hy] at l1; cases l1
    exact ⟨o, o2, ho, l2, l3⟩
  have hoth : ∀ y, (∀ p, rfind ρ' p ≠ some y) → PTree.get y t' = PTree.get y h.t := fun y hy => k1 y fun p o _ => hy p
  have hle : β.le β' := by
    intro y z hy
    rw [hβold y fun p hn hpy => ?_]
    · exact hy
    · have := hnew p y hpy hn
      rcases hd y z hy with k | k
      · omega
      · have : next.toNat ≤ y.toNat := k
        omega
  have hrng : ∀ r, (∀ q m, β q = some (r, m) → ¬ Live h q) → ∀ q m, cmp β ρ q ≠ some (r, m) := by
    intro r hno q m hy
    obtain ⟨a, ha', hb⟩ := hcmp q _ hy
    exact hno a m hb (hlive _ _ ha')
  -- is a name an image?
  have dec : ∀ y, (∃ p, rfind ρ' p = some y) ∨ ∀ p, rfind ρ' p ≠ some y := by
    intro y
    by_cases hh : ∃ p, rfind ρ' p = some y
    · exact .inl hh
    · exact .inr fun p hp => hh ⟨p, hp⟩
  -- an old block under an image and under another name
  have mixed : ∀ p y z r n m, rfind ρ' p = some y → (∀ q, rfind ρ' q ≠ some z) → β' y = some (r, n) → β z = some (r, m) → PTree.get z h.t = some .dead := by
    intro p y z r n m hy hz hby hbz
    rw [himg p y hy] at hby
    have use : ∀ q a mm, rfind ρ q = some a → β a = some (r, mm) → PTree.get z h.t = some .dead := by
      intro q a mm hqa hba
      rcases hr.inj a z r mm m hba hbz with l | l | l
      · subst l
        exact absurd (show rfind ρ' q = some a by rw [f2 q (hpn q a hqa)]; exact hqa) (hz q)
      · exact absurd l (hnd _ _ hqa)
      · exact l
    rcases g9 p r n hby with l | ⟨_, l | ⟨q, mm, l⟩⟩
    · obtain ⟨a, ha', hb⟩ := hcmp p _ l
      exact use p a n ha' hb
    · have := hr.inW z r m hbz; omega
    · obtain ⟨a, ha', hb⟩ := hcmp q _ l
      exact use q a mm ha' hb
  have hzold : ∀ z, (∀ q, rfind ρ' q ≠ some z) → β' z = β z := fun z hz => hβold z fun p _ => hz p
  refine ⟨fr, v', w', β', g1, g2, g3, g4, ⟨?_, ?_, ?_, ?_⟩, ⟨hle, f1, g11, ?_, ?_, ?_, g13⟩, (rV_spec ρ' mDepth _ _ h3).2 βo β' v' hfit g5⟩
  · -- objects
    intro y o r n hy hb
    rcases dec y with ⟨p, hp⟩ | hno
    · obtain ⟨op, o2, l1, l2, l3⟩ := himgT p y hp
      have hy' : PTree.get y t' = some o := hy
      rw [l3] at hy'; cases hy'
      rw [himg p y hp] at hb
      obtain ⟨o', m1, m2⟩ := g6 p op r n l1 hb
      exact ⟨o', m1, (rO_spec l2).2 βo β' n o' hfit m2⟩
    · have hy' : PTree.get y h.t = some o := by rw [← hoth y hno]; exact hy
      rw [hzold y hno] at hb
      obtain ⟨o', m1, m2⟩ := hr.obj y o r n hy' hb
      have hrw := hr.inW y r n hb
      by_cases hrg : ∃ q m, cmp β ρ q = some (r, m)
      · obtain ⟨q, m, hc⟩ := hrg
        obtain ⟨a, ha', hba⟩ := hcmp q _ hc
        rcases hr.inj y a r n m hb hba with l | l | l
        · subst l
          exact absurd (show rfind ρ' q = some y by rw [f2 q (hpn q y ha')]; exact ha') (hno q)
        · rw [hy'] at l; cases l
          have hrw' : r < w'.heap.size := by omega
          exact ⟨w'.heap[r], by simp [hrw'], .dead _⟩
        · exact absurd l (hnd _ _ ha')
      · refine ⟨o', ?_, m2.mono hle⟩
        rw [g12 r hrw fun q m hc => hrg ⟨q, m, hc⟩]; exact m1
  · -- no two names
    intro y z r n m hy hz
    show y = z ∨ PTree.get y t' = _ ∨ PTree.get z t' = _
    rcases dec y with ⟨p, hp⟩ | hno <;> rcases dec z with ⟨q, hq'⟩ | hno'
    · obtain ⟨o, o2, l1, l2, _⟩ := himgT p y hp
      obtain ⟨u, u2, l1', l2', _⟩ := himgT q z hq'
      rw [himg p y hp] at hy
      rw [himg q z hq'] at hz
      rcases g7 p q r n m o u l1 l1' hy hz with k | k | k
      · subst k; rw [hp] at hq'; cases hq'; exact .inl rfl
      · subst k; cases l2
      · subst k; cases l2'
    · rw [hzold z hno'] at hz
      exact .inr (.inr (by rw [hoth z hno']; exact mixed p y z r n m hp hno' hy hz))
    · rw [hzold y hno] at hy
      exact .inr (.inl (by rw [hoth y hno]; exact mixed q z y r m n hq' hno hz hy))
    · rw [hzold y hno] at hy
      rw [hzold z hno'] at hz
      rcases hr.inj y z r n m hy hz with k | k | k
      · exact .inl k
      · exact .inr (.inl (by rw [hoth y hno]; exact k))
      · exact .inr (.inr (by rw [hoth z hno']; exact k))
  · -- names that are free
    intro y o hy
    show y.toNat < next.toNat
    rcases dec y with ⟨p, hp⟩ | hno
    · by_cases hn : p ∈ e.new
      · exact (hnew p y hp hn).2
      · have := hlt p y (hold p y hp hn); omega
    · have hy' : PTree.get y h.t = some o := by rw [← hoth y hno]; exact hy
      have := hr.fresh y o hy'; omega
  · intro y r n hy
    rcases dec y with ⟨p, hp⟩ | hno
    · rw [himg p y hp] at hy; exact g10 p r n hy
    · rw [hzold y hno] at hy; have := hr.inW y r n hy; omega
  · -- new names
    intro y r n hy
    show _ ∨ (h.next.toNat ≤ y.toNat ∧ y.toNat < next.toNat ∧ _)
    by_cases hh : ∃ p, p ∈ e.new ∧ rfind ρ' p = some y
    · obtain ⟨p, hn, hp⟩ := hh
      rw [himg p y hp] at hy
      obtain ⟨l1, l2⟩ := hnew p y hp hn
      refine .inr ⟨l1, l2, ?_⟩
      rcases g9 p r n hy with k | ⟨_, k | ⟨q, mm, k⟩⟩
      · obtain ⟨a, ha', _⟩ := hcmp p _ k
        exact absurd hn (hpn p a ha')
      · exact .inl k
      · obtain ⟨a, ha', hb⟩ := hcmp q _ k
        exact .inr ⟨a, mm, hlive _ _ ha', hb⟩
    · rw [hβold y fun p hn hp => hh ⟨p, hn, hp⟩] at hy
      exact .inl hy
  · -- what is gone stays gone
    intro y hy
    show (_ → PTree.get y t' = _) ∧ (_ → PTree.get y t' = _)
    rcases dec y with ⟨p, hp⟩ | hno
    · have hn : p ∉ e.new := fun hn => by have := (hnew p y hp hn).1; omega
      obtain ⟨b, l1, l2⟩ := hlive p y (hold p y hp hn)
      exact ⟨fun h0 => by rw [h0] at l1; (cases l1), fun h0 => by rw [h0] at l1; (cases l1); exact absurd rfl l2⟩
    · rw [hoth y hno]; exact ⟨id, id⟩
  · intro r hrw hno
    exact g12 r hrw (hrng r hno)
end Go.Am

/- Whole runs with answers that are known beforehand; how an answer is shown right: by a run. -/
namespace Go.Am
open Go.RowKit
variable {P : Program} {β : Ren}

theorem ask_mono {e : Entry} {args : List AV} {h : Heap} {x : AV × Heap} (hx : e.ask args h = some x) : nx h ≤ nx x.2 := by
  obtain ⟨_, _, hx⟩ := obind_some.1 (show obind (mAll (mV mDepth) e.args args []) _ = some x from hx)
  obtain ⟨ρ, _, hx⟩ := obind_some.1 hx
  obtain ⟨_, hx⟩ := bcase_none hx
  have hx' : obind (rV (fresh e.new h.next ρ).1 mDepth e.v) (fun v => obind (rH (fresh e.new h.next ρ).1 mDepth h.t e.pout) fun t => some (v, (⟨t, (fresh e.new h.next ρ).2⟩ : Heap))) = some x := hx
  obtain ⟨_, _, hx'⟩ := obind_some.1 hx'
  obtain ⟨_, _, hx'⟩ := obind_some.1 hx'
  cases hx'
  exact (fresh_spec e.new h.next ρ).1
theorem askL_some {args : List AV} {h : Heap} {x : AV × Heap} : ∀ {l : List Entry}, askL l args h = some x → ∃ e ∈ l, e.ask args h = some x
  | [], hx => by cases hx
  | e :: l, hx => by
    have hx' : orElseK (e.ask args h) (askL l args h) = some x := hx
    cases ha : e.ask args h with
    | some y => rw [ha] at hx'; exact ⟨e, List.mem_cons_self .., by rw [ha]; exact hx'⟩
    | none =>
      rw [ha] at hx'
      obtain ⟨e', h1, h2⟩ := askL_some (l := l) hx'
      exact ⟨e', List.mem_cons_of_mem _ h1, h2⟩
theorem orElseK_some {α : Type} {a b : Option α} {x : α} (h : orElseK a b = some x) : a = some x ∨ b = some x := by
  cases a with
  | none => exact .inr h
  | some y => exact .inl h
theorem runO_mono (P : Program) (keep : FuncId → List Nat) (T : Tabs) : ∀ n, ExMono (runO P keep T n)
  | 0 => ⟨fun _ _ _ _ _ h => (by cases h), fun _ _ _ _ h => (by cases h), fun _ _ _ _ h => (by cases h)⟩
  | n + 1 => ⟨fun _ _ _ _ _ h => mono_code (runO_mono P keep T n) h, fun f as h x hx => by
      rcases orElseK_some (show orElseK (askL (T f) as h) (callA P keep (runO P keep T n) f as h) = some x from hx) with k | k
      · obtain ⟨e, _, k⟩ := askL_some k
        exact ask_mono k
      · exact mono_call (runO_mono P keep T n) k, fun _ _ _ _ h => mono_round (runO_mono P keep T n) h⟩
def TabOk (P : Program) (T : Tabs) : Prop := ∀ f e, e ∈ T f → EntryOk P f e
theorem runO_ok (hmix : P.follows .mixedOrders = true) (keep : FuncId → List Nat) {T : Tabs} (hT : TabOk P T) :
    ∀ n, CodeOk P (runO P keep T n).code ∧ CallOk P (runO P keep T n) ∧ RoundOk P (runO P keep T n)
  | 0 => ⟨fun _ _ _ _ _ h => (by cases h), fun _ _ _ _ h => (by cases h), fun _ _ _ _ h => (by cases h)⟩
  | n + 1 => by
    obtain ⟨h1, h2, h3⟩ := runO_ok hmix keep hT n
    have hm := runO_mono P keep T n
    refine ⟨code_ok hmix hm h1 h2 h3, fun f args h x hx β w args' kd cs ha hr hd hq => ?_, round_ok hm h1⟩
    rcases orElseK_some (show orElseK (askL (T f) args h) (callA P keep (runO P keep T n) f args h) = some x from hx) with k | k
    · obtain ⟨e, he, k⟩ := askL_some k
      exact ask_ok (hT f e he) k ha hr hd hq
    · exact call_ok (keep := keep) hm h1 h2 f args h x k β w args' kd cs ha hr hd hq

/-! ## How an answer is shown right -/
def eqW : Nat → AV → AV → Bool
  | 0, _, _ => false
  | n + 1, a, b => match a, b with
    | .bool x, .bool y => x == y
    | .int k x, .int l y => and (k == l) (x == y)
    | .str s, .str t => s.data.toList == t.data.toList
    | .ptr p, .ptr q => eqAt p q
    | .slice p l c u, .slice q m d v => and (eqAt p q) (and (Nat.beq l m) (and (Nat.beq c d) (eqON u v)))
    | .map p, .map q => eqOP p q
    | .chan p, .chan q => eqOP p q
    | .func f a c, .func g b d => and (eqFn f g) (and (eqVs (eqW n) a b) (eqVs (eqW n) c d))
    | .nilFunc, .nilFunc => true
    | .nilIface, .nilIface => true
    | .iface t v, .iface u w => and (Nat.beq t u) (eqW n v w)
    | .agg l, .agg m => eqVs (eqW n) l m
    | .tuple l, .tuple m => eqVs (eqW n) l m
    | _, _ => false
theorem eqW_eq : ∀ (n : Nat) (a b : AV), eqW n a b = true → a = b
  | 0, _, _, h => by cases h
  | n + 1, a, b, h => by
    unfold eqW at h
    split at h
    · rw [eq_of_beq h]
    · simp only [Bool.and_eq_true] at h; rw [eq_of_beq h.1, eq_of_beq h.2]
    · rename_i s t
      have h1 := eq_of_beq h
      obtain ⟨⟨l⟩⟩ := s
      obtain ⟨⟨m⟩⟩ := t
      simp only at h1
      rw [h1]
    · rw [eqAt_eq h]
    · simp only [Bool.and_eq_true] at h; rw [eqAt_eq h.1, nbeq h.2.1, nbeq h.2.2.1, eqON_eq h.2.2.2]
    · rw [eqOP_eq h]
    · rw [eqOP_eq h]
    · simp only [Bool.and_eq_true] at h; rw [eqFn_eq h.1, eqVs_eq (eqW_eq n) h.2.1, eqVs_eq (eqW_eq n) h.2.2]
    · rfl
    · rfl
    · simp only [Bool.and_eq_true] at h; rw [nbeq h.1, eqW_eq n _ _ h.2]
    · rw [eqVs_eq (eqW_eq n) h]
    · rw [eqVs_eq (eqW_eq n) h]
    · cases h
def eqEs : List AEnt → List AEnt → Bool
  | [], [] => true
  | a :: l, b :: m => and (eqW 6 a.key b.key) (and (eqW 6 a.val b.val) (and (Nat.beq a.born b.born) (eqEs l m)))
  | _, _ => false
theorem eqEs_eq : ∀ {l m : List AEnt}, eqEs l m = true → l = m
  | [], [], _ => rfl
  | ⟨k, v, b⟩ :: l, ⟨k', v', b'⟩ :: m, h => by
    simp only [eqEs, Bool.and_eq_true] at h
    rw [eqW_eq 6 _ _ h.1, eqW_eq 6 _ _ h.2.1, nbeq h.2.2.1, eqEs_eq h.2.2.2]
  | [], _ :: _, h => by cases h
  | _ :: _, [], h => by cases h
def eqO : AObj → AObj → Bool
  | .cells c, .cells d => eqVs (eqW 6) c d
  | .map es k, .map fs l => and (eqEs es fs) (Nat.beq k l)
  | _, _ => false
theorem eqO_eq {a b : AObj} (h : eqO a b = true) : a = b := by
  cases a <;> cases b <;> first | (cases h; done) | skip
  · rw [eqVs_eq (eqW_eq 6) h]
  · simp only [eqO, Bool.and_eq_true] at h
    rw [eqEs_eq h.1, nbeq h.2]
def ltP (a b : Pos) : Bool := Nat.blt a.toNat b.toNat
noncomputable def hasP (l : Piece) (p : Pos) : Bool := Option.rec (motive := fun _ => Bool) false (fun _ => true) (look l p)
noncomputable def allP (f : Pos → AObj → Bool) (l : Piece) : Bool :=
  List.rec (motive := fun _ => Bool) true (fun x _ ih => Prod.rec (motive := fun _ => Bool) (fun p o => bcase (f p o) false ih) x) l
noncomputable def allN (f : Pos → Bool) (l : List Pos) : Bool := List.rec (motive := fun _ => Bool) true (fun p _ ih => bcase (f p) false ih) l
noncomputable def outB (t : PTree AObj) (p : Pos) (o : AObj) : Bool := Option.rec (motive := fun _ => Bool) false (fun o' => eqO o o') (PTree.getK p t)
/-- The run gives the answer. -/
noncomputable def Entry.okB (e : Entry) (nin : Pos) (r : Option (AV × Heap)) : Bool :=
  and (allP (fun p _ => and (ltP p nin) (hasP e.pout p)) e.pin) (and (allN (fun p => and (not (ltP p nin)) (hasP e.pout p)) e.new)
    (Option.rec (motive := fun _ => Bool) false (fun x => and (eqW 6 e.v x.1) (allP (outB x.2.t) e.pout)) r))
noncomputable def Entry.shows (P : Program) (keep : FuncId → List Nat) (T : Tabs) (n : Nat) (f : FuncId) (e : Entry) (nin : Pos) : Bool :=
  e.okB nin ((runO P keep T n).call f e.args ⟨mkT e.pin, nin⟩)
theorem allP_spec {f : Pos → AObj → Bool} : ∀ {l : Piece}, allP f l = true → ∀ p o, (p, o) ∈ l → f p o = true
  | [], _, p, o, h => by cases h
  | (a, b) :: l, h, p, o, hm => by
    have h' : bcase (f a b) false (allP f l) = true := h
    rw [bcase_eq] at h'
    split at h'
    · rename_i hf
      rcases List.mem_cons.1 hm with e | hm
      · cases e; exact hf
      · exact allP_spec h' p o hm
    · cases h'
theorem allN_spec {f : Pos → Bool} : ∀ {l : List Pos}, allN f l = true → ∀ p ∈ l, f p = true
  | [], _, p, h => by cases h
  | a :: l, h, p, hm => by
    have h' : bcase (f a) false (allN f l) = true := h
    rw [bcase_eq] at h'
    split at h'
    · rename_i hf
      rcases List.mem_cons.1 hm with e | hm
      · cases e; exact hf
      · exact allN_spec h' p hm
    · cases h'
theorem hasP_spec {l : Piece} {p : Pos} (h : hasP l p = true) : ∃ o, look l p = some o := by
  unfold hasP at h
  cases hl : look l p with
  | none => rw [hl] at h; cases h
  | some o => exact ⟨o, rfl⟩
theorem ltP_eq (a b : Pos) : ltP a b = decide (a.toNat < b.toNat) := blt_eq _ _
theorem shows_ok (hmix : P.follows .mixedOrders = true) {keep : FuncId → List Nat} {T : Tabs} (hT : TabOk P T) {n : Nat} {f : FuncId} {e : Entry} {nin : Pos}
    (hs : e.shows P keep T n f nin = true) : EntryOk P f e := by
  unfold Entry.shows Entry.okB at hs
  simp only [Bool.and_eq_true] at hs
  obtain ⟨h1, h2, h3⟩ := hs
  have hin : ∀ p o, look e.pin p = some o → p.toNat < nin.toNat ∧ ∃ o', look e.pout p = some o' := by
    intro p o ho
    have := allP_spec h1 p o (look_mem ho)
    simp only [Bool.and_eq_true, ltP_eq, decide_eq_true_eq] at this
    exact ⟨this.1, hasP_spec this.2⟩
  have hnew : ∀ p ∈ e.new, nin.toNat ≤ p.toNat ∧ ∃ o', look e.pout p = some o' := by
    intro p hp
    have := allN_spec h2 p hp
    simp only [Bool.and_eq_true, ltP_eq, Bool.not_eq_true', decide_eq_false_iff_not] at this
    exact ⟨by omega, hasP_spec this.2⟩
  cases hx : (runO P keep T n).call f e.args ⟨mkT e.pin, nin⟩ with
  | none => rw [hx] at h3; cases h3
  | some x =>
    rw [hx] at h3
    simp only [Bool.and_eq_true] at h3
    obtain ⟨h4, h5⟩ := h3
    have hv := eqW_eq 6 _ _ h4
    have hout : ∀ p o, look e.pout p = some o → PTree.get p x.2.t = some o := by
      intro p o ho
      have := allP_spec h5 p o (look_mem ho)
      unfold outB at this
      rw [PTree.getK_eq] at this
      cases hg : PTree.get p x.2.t with
      | none => rw [hg] at this; cases this
      | some o' => rw [hg] at this; rw [eqO_eq (show eqO o o' = true from this)]
    refine ⟨fun p hp => ?_, fun p hp => (hnew p hp).2, fun p o ho => (hin p o ho).2, fun β w args' kd cs hdom ha hobj hinj hinW hq => ?_⟩
    · cases hl : look e.pin p with
      | none => rfl
      | some o => have := (hin p o hl).1; have := (hnew p hp).1; omega
    · have hr : Rel β ⟨mkT e.pin, nin⟩ w := by
        refine ⟨fun p o r k hp hb => ?_, fun p q r k m hp hq' => .inl (hinj p q r k m hp hq'), fun p o hp => ?_, hinW⟩
        · rw [show (⟨mkT e.pin, nin⟩ : Heap).t = mkT e.pin from rfl, get_mkT] at hp; exact hobj p o r k hp hb
        · rw [show (⟨mkT e.pin, nin⟩ : Heap).t = mkT e.pin from rfl, get_mkT] at hp; exact (hin p o hp).1
      have hd : Dom β ⟨mkT e.pin, nin⟩ x.2 := fun p y hp => by
        obtain ⟨o, ho⟩ := hdom p y hp
        exact .inl (hin p o ho).1
      obtain ⟨_, hC, _⟩ := runO_ok hmix keep hT n
      obtain ⟨fr, v', w', β', g1, g2, g3, g4, g5, g6, g7⟩ := hC f e.args _ _ hx β w args' kd cs ha hr hd hq
      refine ⟨fr, v', w', β', g1, g2, g3, g4, by rw [hv]; exact g7, fun p o r k hp hb => g5.obj p o r k (hout p o hp) hb, fun p q r k m o o' hp hq' hb hb' => ?_, g6.le, fun p r k hb => ?_,
        g5.inW, g6.sizeLe, fun r hrw hno => g6.frame r hrw fun q m hqm => absurd hqm (hno q m), g6.same⟩
      · rcases g5.inj p q r k m hb hb' with l | l | l
        · exact .inl l
        · rw [hout p o hp] at l; cases l; exact .inr (.inl rfl)
        · rw [hout q o' hq'] at l; cases l; exact .inr (.inr rfl)
      · rcases g6.new p r k hb with l | ⟨l1, _, l3⟩
        · exact .inl l
        · refine .inr ⟨?_, l3.imp id fun ⟨q, m, _, hqm⟩ => ⟨q, m, hqm⟩⟩
          cases hl : look e.pin p with
          | none => rfl
          | some o =>
            have := (hin p o hl).1
            have l1' : nin.toNat ≤ p.toNat := l1
            omega
def noTab : Tabs := fun _ => []
theorem noTab_ok : TabOk P noTab := fun _ _ h => by cases h
/-- Does a function without arguments answer true? -/
noncomputable def saysO (P : Program) (keep : FuncId → List Nat) (T : Tabs) (n : Nat) (f : FuncId) : Bool :=
  match (runO P keep T n).call f [] ⟨.nil, .h⟩ with
  | some (.bool b, _) => b
  | _ => false
def noRen' : Ren := fun _ => none
theorem saysO_calls (hmix : P.follows .mixedOrders = true) {keep : FuncId → List Nat} {T : Tabs} (hT : TabOk P T) {n : Nat} {f : FuncId} (h : saysO P keep T n f = true) (w : World) :
    Calls P f #[] w (fun e w' => e = .returned (.bool true) ∧ Below w.heap.size w w') := by
  intro cs
  unfold saysO at h
  split at h
  · rename_i b h' hx
    subst h
    obtain ⟨_, hC, _⟩ := runO_ok hmix keep hT n
    have hrel : Rel noRen' ⟨.nil, .h⟩ w := ⟨fun p o r n hp => by rw [PTree.get_nil] at hp; (cases hp), fun p q r n m hp => (by cases hp), fun p o hp => by rw [PTree.get_nil] at hp; (cases hp), fun p r n hp => (by cases hp)⟩
    obtain ⟨fr, v', w', β', e1, e2, e3, e4, e5, e6, e7⟩ := hC f [] _ _ hx noRen' w [] .normal cs .nil hrel (fun p x hp => by cases hp) (.inl rfl)
    have hv := e7.toBool
    subst hv
    refine ⟨.returned (.bool true), w', fr, ⟨rfl, e6.same.1, e6.same.2.1, e6.same.2.2, e6.sizeLe, fun k hk => e6.frame k hk fun q m hq => (by cases hq)⟩, e1, e4, ?_⟩
    obtain ⟨h1, h2, _, h3⟩ := e2
    exact ⟨h1, h2, e3, h3⟩
  · cases h
end Go.Am
namespace Go.Am
variable {P : Program}
/-- Tables of answers. -/
noncomputable def assocE (l : List (Nat × List Entry)) : Tabs := fun f =>
  List.rec (motive := fun _ => List Entry) [] (fun x _ ih => Prod.rec (motive := fun _ => List Entry) (fun g es => bcase (Nat.beq g f) ih es) x) l
def EsOk (P : Program) (f : FuncId) : List Entry → Prop
  | [] => True
  | e :: es => EntryOk P f e ∧ EsOk P f es
def ListOk (P : Program) : List (Nat × List Entry) → Prop
  | [] => True
  | (f, es) :: l => EsOk P f es ∧ ListOk P l
theorem EsOk.mem {f : FuncId} {e : Entry} : ∀ {es : List Entry}, EsOk P f es → e ∈ es → EntryOk P f e
  | [], _, h => by cases h
  | x :: es, h, hm => by
    rcases List.mem_cons.1 hm with rfl | hm
    · exact h.1
    · exact EsOk.mem h.2 hm
theorem assocE_ok : ∀ {l : List (Nat × List Entry)}, ListOk P l → TabOk P (assocE l)
  | [], _, f, e, he => by cases he
  | (g, es) :: l, h, f, e, he => by
    have he' : e ∈ bcase (Nat.beq g f) (assocE l f) es := he
    rw [bcase_eq] at he'
    split at he'
    · rename_i hb
      rw [← nbeq hb]
      exact EsOk.mem h.1 he'
    · exact assocE_ok h.2 f e he'
/-! Short words for values. -/
def cI (n : Nat) : AV := .int .i64 (.ofNat n)
def cM (n : Nat) : AV := .int .i64 (.negSucc n)
def cU (n : Nat) : AV := .int .u32 (.ofNat n)
def cT : AV := .bool true
def cF : AV := .bool false
def nS : AV := .slice none 0 0 none
def kS (p : Pos) (o l c : Nat) : AV := .slice (some ⟨p, o⟩) l c none
def uS (p : Pos) (o l c z : Nat) : AV := .slice (some ⟨p, o⟩) l c (some z)
def cP (p : Pos) (o : Nat) : AV := .ptr (some ⟨p, o⟩)
def oC (l : List AV) : AObj := .cells l
end Go.Am
