/- A verified abstract machine for the code of the model, part 2: nothing in it speaks of one program. -/
import Derived.Test.YtfcdnkpcnmanhaaGreatAm1
import Derived.DeepKeys3
/- Operations that only compute or read, each as the model carries it out. -/
namespace Go.Am
variable {β : Ren} {P : Program} {h : Heap} {w : World} {tm : Tm} {ρ : Operand → Value}

theorem evalL_sim (hρ : OpR β tm ρ) : ∀ (l : List Operand) (vs : List AV), evalL tm l = some vs → VRs β vs (l.map ρ)
  | [], vs, hv => by cases hv; exact .nil
  | x :: l, vs, hv => by
    obtain ⟨v, h1, h2⟩ := obind_some.1 (show obind (evalO tm x) (fun v => obind (evalL tm l) fun r => some (v :: r)) = some vs from hv)
    obtain ⟨r, h3, h4⟩ := obind_some.1 h2
    cases h4
    exact .cons (hρ x v h1) (evalL_sim hρ l r h3)
inductive PRs (β : Ren) : List (Nat × AV) → List (Nat × Value) → Prop where
  | nil : PRs β [] []
  | cons (i : Nat) {v : AV} {v' : Value} {l : List (Nat × AV)} {l' : List (Nat × Value)} (h : VR β v v') (hl : PRs β l l') : PRs β ((i, v) :: l) ((i, v') :: l')
theorem evalP_sim (hρ : OpR β tm ρ) : ∀ (l : List (Nat × Operand)) (vs : List (Nat × AV)), evalP tm l = some vs → PRs β vs (l.map fun x => (x.1, ρ x.2))
  | [], vs, hv => by cases hv; exact .nil
  | x :: l, vs, hv => by
    obtain ⟨v, h1, h2⟩ := obind_some.1 (show obind (evalO tm x.2) (fun v => obind (evalP tm l) fun r => some ((x.1, v) :: r)) = some vs from hv)
    obtain ⟨r, h3, h4⟩ := obind_some.1 h2
    cases h4
    exact .cons _ (hρ x.2 v h1) (evalP_sim hρ l r h3)
theorem evalQ_sim (hρ : OpR β tm ρ) {x : Option Operand} {v : Option AV} (hv : evalQ tm x = some v) : (x = none ∧ v = none) ∨ ∃ y u, x = some y ∧ v = some u ∧ VR β u (ρ y) := by
  cases x with
  | none => cases hv; exact .inl ⟨rfl, rfl⟩
  | some y =>
    obtain ⟨u, h1, h2⟩ := obind_some.1 (show obind (evalO tm y) (fun v => some (some v)) = some v from hv)
    cases h2
    exact .inr ⟨y, u, rfl, rfl, hρ y u h1⟩

/-! ## binary operators -/
theorem eqGuard_ok {op : BinOp} {t : TypeId} {x y : Operand} {a b : AV} {a' b' : Value} {v : AV} (ha : VR β a a') (hb : VR β b b')
    (hv : binA P op t (or (cstO x) (cstO y)) a b = some v) (w : World) : (eqGuard op t x y a' b').run P w = .ok () w := by
  cases ha with
  | nilIface =>
    cases hb with
    | nilIface =>
      have hc : (cstO x || cstO y) = true := by
        cases hcc : (cstO x || cstO y) with
        | true => rfl
        | false =>
          exfalso
          change (if ((cstO x || cstO y) && ifaceT P t) = true then negB op true else none) = some v at hv
          rw [hcc] at hv
          simp at hv
      unfold eqGuard
      cases op <;> first | rfl | skip
      all_goals
        cases x <;> cases y <;> first
          | (simp [cstO] at hc; done)
          | rfl
    | _ => cases op <;> rfl
  | agg h hf =>
    cases hb with
    | agg h' hf' =>
      refine run_eqGuard_agg w op t x y _ _ ?_
      rename_i l l' m m'
      change (if P.eqGuardType P.depth t = true then none else binRest P op t (.agg l) (.agg m)) = some v at hv
      split at hv
      · cases hv
      · rename_i hg; simpa using hg
    | _ => cases op <;> rfl
  | _ => cases op <;> rfl
theorem run_equalIn_nil {t : TypeId} {ms : Array (String × TypeId)} (ht : P.underlying t = some (.interface ms)) : (Op.equalIn 10000 t .nilIface .nilIface).run P w = .ok true w := by
  rw [show (10000 : Nat) = 9999 + 1 from rfl]
  generalize 9999 = d
  simp [Op.equalIn, run_underlying ht]
theorem binA_sim {op : BinOp} {t : TypeId} {cst : Bool} {a b : AV} {a' b' : Value} {v : AV} (ha : VR β a a') (hb : VR β b b')
    (hv : binA P op t cst a b = some v) (w : World) : ∃ v', (binOp op t a' b').run P w = .ok v' w ∧ VR β v v' := by
  have hptr : ∀ p q, a = .ptr (some p) → b = .ptr (some q) → False := by
    intro p q e e'
    subst e e'
    change binRest P op t (.ptr (some p)) (.ptr (some q)) = some v at hv
    unfold binRest eqA at hv
    cases hu : P.underlying t with
    | none => simp [hu] at hv
    | some d => cases d <;> simp [hu] at hv
  cases a with
  | bool x => exact binRest_sim ha hb hv (fun _ _ e => by cases e) (fun _ e => by cases e) (fun p q e e' => (hptr p q e e')) w
  | int k n =>
    obtain ⟨y, h1, h2⟩ := obind_some.1 (show obind (toInt b) (fun y => intA op k y.1 n y.2) = some v from hv)
    rw [toInt_some h1] at hb
    obtain rfl := ha.toInt
    obtain rfl := hb.toInt
    exact intA_sim h2 w
  | str s =>
    obtain ⟨y, h1, h2⟩ := obind_some.1 (show obind (toStr b) (fun y => strOp op s y) = some v from hv)
    rw [toStr_some h1] at hb
    obtain rfl := ha.toStr
    obtain rfl := hb.toStr
    exact strOp_sim h2 w
  | ptr x => exact binRest_sim ha hb hv (fun _ _ e => by cases e) (fun _ e => by cases e) (fun p q e e' => (hptr p q e e')) w
  | slice x l c u => exact binRest_sim ha hb hv (fun _ _ e => by cases e) (fun _ e => by cases e) (fun p q e e' => (hptr p q e e')) w
  | map x => exact binRest_sim ha hb hv (fun _ _ e => by cases e) (fun _ e => by cases e) (fun p q e e' => (hptr p q e e')) w
  | chan x => exact binRest_sim ha hb hv (fun _ _ e => by cases e) (fun _ e => by cases e) (fun p q e e' => (hptr p q e e')) w
  | func f x c => exact binRest_sim ha hb hv (fun _ _ e => by cases e) (fun _ e => by cases e) (fun p q e e' => (hptr p q e e')) w
  | nilFunc => exact binRest_sim ha hb hv (fun _ _ e => by cases e) (fun _ e => by cases e) (fun p q e e' => (hptr p q e e')) w
  | iface u x => exact binRest_sim ha hb hv (fun _ _ e => by cases e) (fun _ e => by cases e) (fun p q e e' => (hptr p q e e')) w
  | nilIface =>
    cases b with
    | nilIface =>
      change (if (cst && ifaceT P t) = true then negB op true else none) = some v at hv
      split at hv
      · rename_i hc
        simp only [Bool.and_eq_true] at hc
        have ht : ∃ ms, P.underlying t = some (.interface ms) := by
          have := hc.2
          unfold ifaceT at this
          split at this
          · exact ⟨_, by assumption⟩
          · cases this
        obtain ⟨ms, ht⟩ := ht
        cases ha; cases hb
        have e := run_equalIn_nil (w := w) ht
        cases op with
        | eql => cases hv; exact ⟨.bool true, by simp only [binOp]; simp [Op.equal, Op.maxDepth, e], .bool _⟩
        | neq => cases hv; exact ⟨.bool false, by simp only [binOp]; simp [Op.equal, Op.maxDepth, e], .bool _⟩
        | _ => cases hv
      · cases hv
    | _ => exact binRest_sim ha hb hv (fun _ _ e => by cases e) (fun _ e => by cases e) (fun p q e e' => by cases e) w
  | agg l =>
    change (if P.eqGuardType P.depth t = true then none else binRest P op t (.agg l) b) = some v at hv
    split at hv
    · cases hv
    · exact binRest_sim ha hb hv (fun _ _ e => by cases e) (fun _ e => by cases e) (fun p q e e' => by cases e) w
  | tuple l => cases hv
theorem unA_sim {op : UnOp} {a v : AV} {a' : Value} (ha : VR β a a') (hv : unA op a = some v) (w : World) : ∃ v', (Op.unary op a').run P w = .ok v' w ∧ VR β v v' := by
  unfold unA at hv
  split at hv
  · cases hv; obtain rfl := ha.toInt
    exact ⟨_, by simp [Op.unary, Op.intArith]; rfl, by rw [wrapA_eq]; simpa using VR.int _ _⟩
  · cases hv; obtain rfl := ha.toBool
    exact ⟨_, by simp [Op.unary], .bool _⟩
  · cases hv
theorem convA_sim {s d : TypeId} {a v : AV} {a' : Value} (ha : VR β a a') (hv : convA P s d a = some v) (w : World) : ∃ v', (convert s d a').run P w = .ok v' w ∧ VR β v v' := by
  unfold convA at hv
  split at hv
  · rename_i hs hd
    cases hv; obtain rfl := ha.toInt
    exact ⟨_, by simp [convert, run_underlying hs, run_underlying hd, Conv.intToInt]; rfl, by rw [wrapA_eq]; exact .int _ _⟩
  · rename_i hs hd
    cases hv; obtain rfl := ha.toStr
    refine ⟨_, ?_, .str _⟩
    simp only [convert, Sem.run_bind, run_underlying hs, run_underlying hd, Result.andThen_ok]
    rfl
  · cases hv
end Go.Am

/- Lengths, bounds, places, look-ups, structs: what the abstract machine answers, the model answers. -/
namespace Go.Am
variable {β : Ren} {P : Program} {h : Heap} {w : World} {tm : Tm} {ρ : Operand → Value}

theorem VRs.one {a : AV} {l' : List Value} (h : VRs β [a] l') : ∃ a', l' = [a'] ∧ VR β a a' := by
  cases h with | cons h1 h => cases h; exact ⟨_, rfl, h1⟩
theorem VRs.two {a b : AV} {l' : List Value} (h : VRs β [a, b] l') : ∃ a' b', l' = [a', b'] ∧ VR β a a' ∧ VR β b b' := by
  cases h with | cons h1 h => obtain ⟨b', rfl, h2⟩ := h.one; exact ⟨_, _, rfl, h1, h2⟩
theorem VRs.three {a b c : AV} {l' : List Value} (h : VRs β [a, b, c] l') : ∃ a' b' c', l' = [a', b', c'] ∧ VR β a a' ∧ VR β b b' ∧ VR β c c' := by
  cases h with | cons h1 h => obtain ⟨b', c', rfl, h2, h3⟩ := h.two; exact ⟨_, _, _, rfl, h1, h2, h3⟩
theorem isSliceT_some {t : TypeId} (h : isSliceT P t = true) : ∃ e, P.underlying t = some (.slice e) := by
  unfold isSliceT at h
  split at h
  · exact ⟨_, by assumption⟩
  · cases h
theorem VR.slice {a : Option AAd} {l c : Nat} {u : Option Nat} {v' : Value} (h : VR β (.slice a l c u) v') : ∃ a' c', v' = .slice a' l c' ∧ (u = none → c' = c) ∧ l ≤ max l c' ∧ (u ≠ none → l ≤ c') := by
  cases h with
  | sliceNil => exact ⟨_, _, rfl, fun _ => rfl, by omega, fun e => absurd rfl e⟩
  | sliceK h => exact ⟨_, _, rfl, fun _ => rfl, by omega, fun e => absurd rfl e⟩
  | sliceU h hl hb _ => exact ⟨_, _, rfl, nofun, by omega, fun _ => hl⟩
  | sliceE => exact ⟨_, _, rfl, nofun, by omega, fun _ => Nat.le_refl _⟩
theorem ERs.length {es : List AEnt} {es' : List MapEntry} (h : ERs β es es') : es.length = es'.length := by
  induction h with
  | nil => rfl
  | cons _ _ _ _ ih => simp [ih]
theorem lenA_sim (hr : Rel β h w) {t ty : TypeId} {x v : AV} {x' : Value} (hx : VR β x x') (hv : lenA P h t x = some v) :
    ∃ v', (Builtin.len_ #[t] ty #[x']).run P w = .ok v' w ∧ VR β v v' := by
  unfold lenA at hv
  rw [bcase_eq] at hv
  split at hv
  · rename_i hs
    obtain ⟨e, ht⟩ := isSliceT_some hs
    obtain ⟨n, h1, h2⟩ := obind_some.1 hv
    cases h2
    cases x with
    | slice a l c u =>
      cases h1
      obtain ⟨a', c', rfl, _⟩ := hx.slice
      exact ⟨_, by simp [Builtin.len_, run_underlying ht]; rfl, .int _ _⟩
    | _ => cases h1
  · unfold lenRest at hv
    split at hv
    · rename_i ht
      cases hv; obtain rfl := hx.toStr
      exact ⟨_, by simp [Builtin.len_, run_underlying ht]; rfl, .int _ _⟩
    · rename_i ht
      cases hv
      exact ⟨_, by simp [Builtin.len_, run_underlying ht]; rfl, .int _ _⟩
    · rename_i ht
      cases hv; cases hx
      exact ⟨_, by simp [Builtin.len_, run_underlying ht, goInt], .int _ _⟩
    · rename_i p ht
      rw [PTree.getK_eq] at hv
      split at hv
      · rename_i es c hp
        cases hv
        cases hx with
        | map hb =>
          obtain ⟨o', e1, e2⟩ := hr.obj p _ _ _ hp hb
          cases e2 with
          | map _ hes =>
            refine ⟨goInt es.length, ?_, .int _ _⟩
            simp [Builtin.len_, run_underlying ht, getObj, Sem.run, e1, hes.length]
      · cases hv
    · rename_i ht
      cases hv; cases hx
      exact ⟨_, by simp [Builtin.len_, run_underlying ht, goInt], .int _ _⟩
    · rename_i p ht
      rw [PTree.getK_eq] at hv
      split at hv
      · rename_i cap buf s rc hp
        cases hv
        cases hx with
        | chan hb =>
          obtain ⟨o', e1, e2⟩ := hr.obj p _ _ _ hp hb
          cases e2 with
          | chan _ _ _ hbuf =>
            refine ⟨goInt buf.length, ?_, .int _ _⟩
            simp [Builtin.len_, run_underlying ht, getObj, Sem.run, e1, hbuf.length]
      · cases hv
    · cases hv
theorem capA_sim {t ty : TypeId} {x v : AV} {x' : Value} (hx : VR β x x') (hs : isSliceT P t = true) (hv : capA x = some v) (w : World) :
    ∃ v', (Builtin.cap_ #[t] ty #[x']).run P w = .ok v' w ∧ VR β v v' := by
  obtain ⟨e, ht⟩ := isSliceT_some hs
  unfold capA at hv
  split at hv
  · cases hv
    obtain ⟨a', c', rfl, hc, _⟩ := hx.slice
    rw [hc rfl]
    exact ⟨_, by simp [Builtin.cap_, run_underlying ht]; rfl, .int _ _⟩
  · cases hv
theorem maxA_sim {ts : Array TypeId} {ty : TypeId} {l : List AV} {v : AV} {l' : List Value} (hl : VRs β l l') (hv : extrA ltI l = some v) (w : World) :
    ∃ v', (Builtin.max_ ts ty ⟨l'⟩).run P w = .ok v' w ∧ VR β v v' := by
  unfold extrA at hv
  split at hv
  · rename_i k a k' b
    cases hv
    obtain ⟨x1, x2, rfl, h1, h2⟩ := hl.two
    obtain rfl := h1.toInt; obtain rfl := h2.toInt
    refine ⟨.int k (if b > a then b else a), by simp [Builtin.max_, Builtin.max2], ?_⟩
    simp only [ltI_eq, cond_eq_ite, decide_eq_true_eq]; exact .int _ _
  · rename_i k a k' b k'' c
    cases hv
    obtain ⟨x1, x2, x3, rfl, h1, h2, h3⟩ := hl.three
    obtain rfl := h1.toInt; obtain rfl := h2.toInt; obtain rfl := h3.toInt
    refine ⟨.int k (if c > (if b > a then b else a) then c else (if b > a then b else a)), by simp [Builtin.max_, Builtin.max2], ?_⟩
    simp only [ltI_eq, cond_eq_ite, decide_eq_true_eq]; exact .int _ _
  · cases hv
theorem minA_sim {ts : Array TypeId} {ty : TypeId} {l : List AV} {v : AV} {l' : List Value} (hl : VRs β l l') (hv : extrA (fun a b => ltI b a) l = some v) (w : World) :
    ∃ v', (Builtin.min_ ts ty ⟨l'⟩).run P w = .ok v' w ∧ VR β v v' := by
  unfold extrA at hv
  split at hv
  · rename_i k a k' b
    cases hv
    obtain ⟨x1, x2, rfl, h1, h2⟩ := hl.two
    obtain rfl := h1.toInt; obtain rfl := h2.toInt
    refine ⟨.int k (if b < a then b else a), by simp [Builtin.min_, Builtin.min2], ?_⟩
    simp only [ltI_eq, cond_eq_ite, decide_eq_true_eq]; exact .int _ _
  · rename_i k a k' b k'' c
    cases hv
    obtain ⟨x1, x2, x3, rfl, h1, h2, h3⟩ := hl.three
    obtain rfl := h1.toInt; obtain rfl := h2.toInt; obtain rfl := h3.toInt
    refine ⟨.int k (if c < (if b < a then b else a) then c else (if b < a then b else a)), by simp [Builtin.min_, Builtin.min2], ?_⟩
    simp only [ltI_eq, cond_eq_ite, decide_eq_true_eq]; exact .int _ _
  · cases hv

/-! ## Slices of slices and strings -/
theorem bound_sim {n : Nat} {x : AV} {i : Nat} {x' : Value} (hx : VR β x x') (hb : bound n x = some i) (code : BoundsCode) (w : World) :
    (Instr.sliceBound x' n code).run P w = .ok i w ∧ i ≤ n := by
  unfold bound at hb
  split at hb
  · rename_i k m
    cases hle : Nat.ble m n with
    | false => rw [hle] at hb; cases hb
    | true =>
      rw [hle] at hb; cases hb
      rw [ble_eq, decide_eq_true_eq] at hle
      obtain rfl := hx.toInt
      have := ofNat_bounds i
      refine ⟨?_, hle⟩
      simp only [Instr.sliceBound, asIntOf, Sem.run_bind, Sem.run_pure, Result.andThen_ok]
      rw [if_pos ⟨by omega, by omega⟩]
      rfl
  · cases hb
/-- An operand that may lack. -/
inductive QR (β : Ren) : Option AV → Option Value → Prop where
  | none : QR β none none
  | some {v : AV} {v' : Value} (h : VR β v v') : QR β (some v) (some v')
theorem sliceArr_sim {t : TypeId} {x v : AV} {x' : Value} {lo hi mx : Option AV} {lo' hi' mx' : Option Value} (hx : VR β x x') (hlo : QR β lo lo') (hhi : QR β hi hi') (hmx : QR β mx mx')
    (hv : sliceArr P t x lo hi mx = some v) (w : World) : ∃ v', (Instr.sliceAt t x' lo' hi' mx').run P w = .ok v' w ∧ VR β v v' := by
  -- the three bounds together
  have key : ∀ (isSlice : Bool) (len cap m hh l : Nat), boundD cap cap mx = some m → hiB m len mx hi = some hh → boundD hh 0 lo = some l →
      (Instr.sliceBounds isSlice len cap lo' hi' mx').run P w = .ok (l, hh, m) w := by
    intro isSlice len cap m hh l h1 h2 h3
    cases hmx with
    | none =>
      cases h1
      cases hhi with
      | none =>
        cases h2
        cases hlo with
        | none => cases h3; rfl
        | some h => simp [Instr.sliceBounds, (bound_sim (P := P) h h3 _ w).1]
      | some g =>
        have g' := fun c => (bound_sim (P := P) g (show bound _ _ = some hh from h2) c w).1
        cases hlo with
        | none => cases h3; simp [Instr.sliceBounds, g']
        | some h => simp [Instr.sliceBounds, g', (bound_sim (P := P) h h3 _ w).1]
    | some gm =>
      have gm' := fun c => (bound_sim (P := P) gm (show bound _ _ = some m from h1) c w).1
      cases hhi with
      | none => cases h2
      | some g =>
        have g' := fun c => (bound_sim (P := P) g (show bound _ _ = some hh from h2) c w).1
        cases hlo with
        | none => cases h3; simp [Instr.sliceBounds, gm', g']
        | some h => simp [Instr.sliceBounds, gm', g', (bound_sim (P := P) h h3 _ w).1]
  unfold sliceArr at hv
  split at hv
  · -- an array's address
    rename_i n e a ht
    obtain ⟨r, m, hb, rfl⟩ := hx.toPtr
    cases h1 : boundD n n mx with
    | none => rw [h1] at hv; cases hv
    | some m =>
      rw [h1] at hv
      simp only at hv
      cases h2 : hiB m n mx hi with
      | none => rw [h2] at hv; cases hv
      | some hh =>
        rw [h2] at hv
        simp only at hv
        cases h3 : boundD hh 0 lo with
        | none => rw [h3] at hv; cases hv
        | some l =>
          cases h4 : siz P e with
          | none => rw [h3, h4] at hv; cases hv
          | some sz =>
            rw [h3, h4] at hv
            simp only at hv
            cases h5 : Nat.ble hh m with
            | false => rw [h5] at hv; cases hv
            | true =>
              rw [h5] at hv; cases hv
              refine ⟨.slice (some (if m = l then ⟨r, a.o, none⟩ else Addr.add ⟨r, a.o, none⟩ (l * sz))) (hh - l) (m - l), ?_, ?_⟩
              · simp [Instr.sliceAt, run_underlying ht, Instr.sureAddr, key false n n m hh l h1 h2 h3, run_siz h4]
              · obtain ⟨p, o⟩ := a
                split
                · exact .sliceK hb
                · rw [addr_add]; exact .sliceK hb
  · rename_i hna
    -- the model goes on to slice
    have hat : ∀ v', (Instr.slice t x' lo' hi' mx').run P w = .ok v' w → (∀ n e, P.underlying t ≠ some (.array n e)) → (∃ d, P.underlying t = some d) →
        (Instr.sliceAt t x' lo' hi' mx').run P w = .ok v' w := by
      intro v' e hd ⟨d, ht⟩
      simp only [Instr.sliceAt, Sem.run_bind, run_underlying ht, Result.andThen_ok]
      cases d <;> first | exact e | exact absurd ht (hd _ _)
    unfold sliceA at hv
    split at hv
    · rename_i s ht
      cases hmx with
      | some gm => cases hv
      | none =>
        simp only at hv
        cases h2 : boundD s.size s.size hi with
        | none => rw [h2] at hv; cases hv
        | some hh =>
          rw [h2] at hv
          simp only at hv
          cases h3 : boundD hh 0 lo with
          | none => rw [h3] at hv; cases hv
          | some l =>
            rw [h3] at hv; cases hv
            obtain rfl := hx.toStr
            refine ⟨.string (s.extract l hh), hat _ ?_ (by rw [ht]; intro n e hh; cases hh) ⟨_, ht⟩, .str _⟩
            simp [Instr.slice, run_underlying ht, key false s.size s.size s.size hh l rfl h2 h3]
    · rename_i e a len cap ht
      cases h1 : boundD cap cap mx with
      | none => rw [h1] at hv; cases hv
      | some m =>
        rw [h1] at hv
        simp only at hv
        cases h2 : hiB m len mx hi with
        | none => rw [h2] at hv; cases hv
        | some hh =>
          rw [h2] at hv
          simp only at hv
          cases h3 : boundD hh 0 lo with
          | none => rw [h3] at hv; cases hv
          | some l =>
            cases h4 : siz P e with
            | none => rw [h3, h4] at hv; cases hv
            | some sz =>
              rw [h3, h4] at hv
              simp only at hv
              cases h5 : Nat.ble hh m with
              | false => rw [h5] at hv; cases hv
              | true =>
                rw [h5] at hv; cases hv
                obtain ⟨a', c', rfl, hc, _⟩ := hx.slice
                obtain rfl := hc rfl
                refine ⟨.slice (if m = l then a' else a'.map (·.add (l * sz))) (hh - l) (m - l), hat _ ?_ (by rw [ht]; intro n e hh; cases hh) ⟨_, ht⟩, ?_⟩
                · simp [Instr.slice, run_underlying ht, key true len c' m hh l h1 h2 h3, run_siz h4]
                · cases hx with
                  | sliceNil => split <;> exact .sliceNil _ _
                  | sliceK hb =>
                    split
                    · exact .sliceK hb
                    · simp only [Option.map_some, addr_add]; exact .sliceK hb
    · rename_i e a len c u ht
      cases hmx with
      | @some vm vm' gm =>
        simp only at hv
        cases h1 : bound len vm with
        | none => rw [h1] at hv; cases hv
        | some m =>
          rw [h1] at hv
          simp only at hv
          cases h2 : hiB m len (some vm) hi with
          | none => rw [h2] at hv; cases hv
          | some hh =>
            rw [h2] at hv
            simp only at hv
            cases h3 : boundD hh 0 lo with
            | none => rw [h3] at hv; cases hv
            | some l =>
              cases h4 : siz P e with
              | none => rw [h3, h4] at hv; cases hv
              | some sz =>
                rw [h3, h4] at hv
                simp only at hv
                cases h5 : Nat.ble hh m with
                | false => rw [h5] at hv; cases hv
                | true =>
                  rw [h5] at hv; cases hv
                  rw [ble_eq, decide_eq_true_eq] at h5
                  have hm := (bound_sim (P := P) gm h1 .index w).2
                  have hle3 : l ≤ hh := by
                    cases hlo with
                    | none => cases h3; exact Nat.zero_le _
                    | some g => exact (bound_sim (P := P) g (show bound _ _ = some l from h3) .index w).2
                  have wide : ∀ cap', len ≤ cap' → bound cap' vm = some m := by
                    intro cap' hc
                    unfold bound at h1 ⊢
                    split at h1
                    · rename_i k i
                      cases h6 : Nat.ble i len with
                      | false => rw [h6] at h1; cases h1
                      | true =>
                        rw [h6] at h1; cases h1
                        rw [ble_eq, decide_eq_true_eq] at h6
                        have : Nat.ble m cap' = true := by rw [ble_eq, decide_eq_true_eq]; omega
                        simp [this]
                    · cases h1
                  cases hx with
                  | sliceU hb hl hn hcc =>
                    rename_i p o r n cap'
                    refine ⟨.slice (if m = l then some ⟨r, o, none⟩ else some (Addr.add ⟨r, o, none⟩ (l * sz))) (hh - l) (m - l), hat _ ?_ (by rw [ht]; intro n e hh; cases hh) ⟨_, ht⟩, ?_⟩
                    · simp [Instr.slice, run_underlying ht, key true len cap' m hh l (show boundD cap' cap' (some vm) = some m from wide cap' hl) h2 h3, run_siz h4]
                    · by_cases e : m = l
                      · rw [if_pos e, if_pos e]
                        have e1 : hh - l = 0 := by omega
                        have e2 : m - l = 0 := by omega
                        rw [e1, e2]
                        exact .sliceE _ _ _
                      · rw [if_neg e, if_neg e, addr_add]
                        exact .sliceK hb
                  | sliceE a a' sz' =>
                    have e0 : m = 0 := by omega
                    have e1 : hh = 0 := by omega
                    have e2 : l = 0 := by omega
                    subst e0; subst e1; subst e2
                    refine ⟨.slice (some a') 0 0, hat _ ?_ (by rw [ht]; intro n e hh; cases hh) ⟨_, ht⟩, ?_⟩
                    · simp [Instr.slice, run_underlying ht, key true 0 0 0 0 0 (show boundD 0 0 (some vm) = some 0 from wide 0 (Nat.le_refl _)) h2 h3, run_siz h4]
                    · rw [if_pos rfl]; exact .sliceE _ _ _
      | none =>
        simp only at hv
        cases h2 : boundD (max len c) len hi with
        | none => rw [h2] at hv; cases hv
        | some hh =>
          rw [h2] at hv
          simp only at hv
          cases h3 : boundD hh 0 lo with
          | none => rw [h3] at hv; cases hv
          | some l =>
            cases h4 : siz P e with
            | none => rw [h3, h4] at hv; cases hv
            | some sz =>
              rw [h3, h4] at hv
              simp only at hv
              cases h5 : Nat.beq sz u with
              | false => rw [h5] at hv; cases hv
              | true =>
                rw [h5] at hv; cases hv
                rw [beq_eq, decide_eq_true_eq] at h5
                subst h5
                have hle2 : hh ≤ max len c := by
                  cases hhi with
                  | none => cases h2; exact Nat.le_max_left _ _
                  | some g => exact (bound_sim (P := P) g (show bound _ _ = some hh from h2) .index w).2
                have hle3 : l ≤ hh := by
                  cases hlo with
                  | none => cases h3; exact Nat.zero_le _
                  | some g => exact (bound_sim (P := P) g (show bound _ _ = some l from h3) .index w).2
                -- the model bounds by the capacity, which is no less
                have wide : ∀ cap', max len c ≤ cap' → boundD cap' len hi = some hh := by
                  intro cap' hc
                  cases hhi with
                  | none => exact h2
                  | some g =>
                    change bound (max len c) _ = some hh at h2
                    show bound cap' _ = some hh
                    unfold bound at h2 ⊢
                    split at h2
                    · rename_i k i
                      cases h6 : Nat.ble i (max len c) with
                      | false => rw [h6] at h2; cases h2
                      | true =>
                        rw [h6] at h2; cases h2
                        rw [ble_eq, decide_eq_true_eq] at h6
                        have : Nat.ble hh cap' = true := by rw [ble_eq, decide_eq_true_eq]; omega
                        simp [this]
                    · cases h2
                cases hx with
                | sliceU hb hl hn hcc =>
                  rename_i p o r n cap'
                  have hmax : max len c ≤ cap' := Nat.max_le.2 ⟨hl, hcc⟩
                  refine ⟨.slice (if cap' = l then some ⟨r, o, none⟩ else some (Addr.add ⟨r, o, none⟩ (l * sz))) (hh - l) (cap' - l), hat _ ?_ (by rw [ht]; intro n e hh; cases hh) ⟨_, ht⟩, ?_⟩
                  · simp [Instr.slice, run_underlying ht, key true len cap' cap' hh l rfl (show hiB cap' len none hi = some hh from wide cap' hmax) h3, run_siz h4]
                  · split
                    · rename_i e
                      have e1 : hh - l = 0 := by omega
                      have e2 : cap' - l = 0 := by omega
                      have e3 : max len c - l = 0 := by omega
                      rw [e1, e2, e3]
                      exact .sliceE _ _ _
                    · rw [addr_add]
                      refine .sliceU hb (by omega) ?_ (by omega)
                      have : l * sz + (cap' - l) * sz = cap' * sz := by rw [← Nat.add_mul]; congr 1; omega
                      show o + l * sz + (cap' - l) * sz ≤ n
                      omega
                | sliceE a a' sz' =>
                  have e1 : hh = 0 := by simp at hle2; omega
                  have e2 : l = 0 := by omega
                  subst e1; subst e2
                  refine ⟨.slice (some a') 0 0, hat _ ?_ (by rw [ht]; intro n e hh; cases hh) ⟨_, ht⟩, .sliceE _ _ _⟩
                  simp [Instr.slice, run_underlying ht, key true 0 0 0 0 0 rfl (show hiB 0 0 none hi = some 0 from wide 0 (by simp)) h3, run_siz h4]
    · cases hv
end Go.Am

/- Places, fields, look-ups, struct literals, assertions. -/
namespace Go.Am
variable {β : Ren} {P : Program} {h : Heap} {w : World} {tm : Tm} {ρ : Operand → Value}

theorem fieldOff_some {t : TypeId} {f : Nat} {x : Nat × TypeId × Nat} (hf : fieldOff P t f = some x) :
    ∃ fs fd, P.underlying t = some (.struct fs) ∧ fs[f]? = some fd ∧ siz P fd.type = some x.2.2 ∧ x.1 = fd.offset ∧ x.2.1 = fd.type := by
  unfold fieldOff at hf
  split at hf
  · rename_i fs ht
    split at hf
    · rename_i fd hfd
      split at hf
      · rename_i n hn
        cases hf
        exact ⟨fs, fd, ht, hfd, hn, rfl, rfl⟩
      · cases hf
    · cases hf
  · cases hf
theorem fieldAddr_sim {t : TypeId} {f : Nat} {x : Nat × TypeId × Nat} {a : AAd} {r n : Nat} (hb : β a.b = some (r, n)) (hf : fieldOff P t f = some x) (hp : 0 < x.2.2) (w : World) :
    ∃ v', (Instr.fieldAt t (.pointer (some ⟨r, a.o, none⟩)) f).run P w = .ok v' w ∧ VR β (.ptr (some ⟨a.b, Nat.add a.o x.1⟩)) v' := by
  obtain ⟨fs, fd, h1, h2, h3, h4, h5⟩ := fieldOff_some hf
  refine ⟨.pointer (some ⟨r, a.o + x.1, none⟩), ?_, .ptr hb⟩
  have h6 : x.2.2 ≠ 0 := by omega
  simp [Instr.fieldAt, run_underlying h1, h2, Instr.sureAddr, fieldPlace, run_siz h3, h6, addr_add, h4]
theorem field_sim {t : TypeId} {f : Nat} {x : Nat × TypeId × Nat} {cs : List AV} {c' : Value} {v : AV} (hc : VR β (.agg cs) c') (hf : fieldOff P t f = some x) (hv : partA P x.2.1 cs x.1 = some v)
    (w : World) : ∃ v', (Instr.field t c' f).run P w = .ok v' w ∧ VR β v v' := by
  obtain ⟨fs, fd, h1, h2, h3, h4, h5⟩ := fieldOff_some hf
  cases hc with
  | agg hl hfl =>
    rw [h4, h5] at hv
    obtain ⟨v', e, hvr⟩ := partA_sim hl hfl hv w
    exact ⟨v', by simp [Instr.field, run_underlying h1, h2, asAgg, e], hvr⟩
theorem idxA_sim {t : TypeId} {x ix v : AV} {x' ix' : Value} (hx : VR β x x') (hi : VR β ix ix') (hv : idxA P t x ix = some v) (w : World) :
    ∃ v', (Instr.indexAt t x' ix').run P w = .ok v' w ∧ VR β v v' := by
  unfold idxA at hv
  obtain ⟨d, h1, h2⟩ := obind_some.1 hv
  obtain ⟨i, h3, h4⟩ := obind_some.1 h2
  obtain ⟨k, rfl⟩ := toIdx_some h3
  obtain rfl := hi.toInt
  have hn := ofNat_bounds i
  have at_ : ∀ (a : AAd) (len : Nat) (v : AV), idxAt d.1 i a len = some v → i < len ∧ v = .ptr (some ⟨a.b, a.o + i * d.1⟩) := by
    intro a len v hh
    unfold idxAt at hh
    obtain ⟨h5, h6⟩ := bcase_none hh
    rw [blt_eq, decide_eq_true_eq] at h5
    cases h6
    exact ⟨h5, rfl⟩
  have hmap : ∀ {e : TypeId} {f : Nat → Nat × Option Nat}, (siz P e).map f = some d → ∃ n, siz P e = some n ∧ f n = d := by
    intro e f hh
    cases hs : siz P e with
    | none => rw [hs] at hh; cases hh
    | some n => rw [hs] at hh; cases hh; exact ⟨n, rfl, rfl⟩
  unfold idxT at h1
  split at h1
  · rename_i e ht
    obtain ⟨n, h5, h6⟩ := hmap h1
    cases h6
    obtain ⟨y, h7, h8⟩ := obind_some.1 (show obind (toSliceA x) (fun a => idxAt n i a.1 a.2) = some v from h4)
    obtain ⟨c, u, rfl⟩ := toSliceA_some h7
    obtain ⟨h9, rfl⟩ := at_ y.1 y.2 v h8
    obtain ⟨⟨p, o⟩, len⟩ := y
    have key : ∀ (r c' : Nat), (Instr.indexAt t (.slice (some ⟨r, o, none⟩) len c') (.int k (Int.ofNat i))).run P w = .ok (.pointer (some ⟨r, o + i * n, none⟩)) w := by
      intro r c'
      simp only [Instr.indexAt, asIntOf, Sem.run_bind, Sem.run_pure, Result.andThen_ok, run_underlying ht]
      rw [if_pos ⟨by omega, by simp at h9; omega⟩]
      simp [run_siz h5, addr_add]
    cases hx with
    | sliceK hb => exact ⟨_, key _ _, .ptr hb⟩
    | sliceU hb hl hc _ => exact ⟨_, key _ _, .ptr hb⟩
    | sliceE => simp at h9
  · rename_i m e ht
    obtain ⟨n, h5, h6⟩ := hmap h1
    cases h6
    obtain ⟨a, h7, h8⟩ := obind_some.1 (show obind (toPtr x) (fun a => idxAt n i a m) = some v from h4)
    rw [toPtr_some h7] at hx
    obtain ⟨r, q, hb, rfl⟩ := hx.toPtr
    obtain ⟨h9, rfl⟩ := at_ a m v h8
    refine ⟨.pointer (some ⟨r, a.o + i * n, none⟩), ?_, .ptr hb⟩
    simp only [Instr.indexAt, asIntOf, Sem.run_bind, Sem.run_pure, Result.andThen_ok, run_underlying ht, Instr.sureAddr]
    rw [if_pos ⟨by omega, by omega⟩]
    simp [run_siz h5, addr_add]
  · cases h1
theorem indexA_sim {t : TypeId} {x ix v : AV} {x' ix' : Value} (hx : VR β x x') (hi : VR β ix ix') (hv : indexA P t x ix = some v) (w : World) :
    ∃ v', (Instr.index t x' ix').run P w = .ok v' w ∧ VR β v v' := by
  unfold indexA at hv
  split at hv
  · rename_i n e cs k i ht
    cases hlt : Nat.blt i n with
    | false => rw [hlt] at hv; cases hv
    | true =>
      rw [hlt] at hv
      rw [blt_eq, decide_eq_true_eq] at hlt
      change (match siz P e with | some sz => partA P e cs (i * sz) | none => none) = some v at hv
      cases hs : siz P e with
      | none => rw [hs] at hv; cases hv
      | some sz =>
        rw [hs] at hv
        obtain rfl := hi.toInt
        have := ofNat_bounds i
        cases hx with
        | agg hl hf =>
          obtain ⟨v', e1, hvr⟩ := partA_sim hl hf hv w
          refine ⟨v', ?_, hvr⟩
          simp only [Instr.index, asIntOf, Sem.run_bind, Sem.run_pure, Result.andThen_ok, run_underlying ht]
          rw [if_pos ⟨by omega, by omega⟩]
          simp [run_siz hs, e1]
  · rename_i s k i ht
    obtain rfl := hi.toInt
    obtain rfl := hx.toStr
    have := ofNat_bounds i
    cases hg : s.data.toList[i]? with
    | none => rw [hg] at hv; cases hv
    | some b =>
      rw [hg] at hv; cases hv
      refine ⟨.int .u8 b.toNat, ?_, .int _ _⟩
      have hlt : i < s.size := by
        rcases Nat.lt_or_ge i s.data.toList.length with hh | hh
        · simpa using hh
        · rw [List.getElem?_eq_none hh] at hg; cases hg
      have hsi : s[i]? = some b := by
        rw [getElem?_pos s i hlt]
        have : s.data.toList[i]? = some s.data.toList[i] := List.getElem?_eq_getElem (by simpa using hlt)
        rw [this] at hg
        exact hg
      simp only [Instr.index, asIntOf, Sem.run_bind, Sem.run_pure, Result.andThen_ok, run_underlying ht]
      rw [if_pos (by omega), show (Int.ofNat i).toNat = i from rfl, hsi]
      rfl
  · cases hv

/-! ## Look-ups -/
theorem findE_sim {kd : TypeDesc} {k : AV} {k' : Value} (hk : VR β k k') : ∀ (es : List AEnt) (es' : List MapEntry) (i : Nat) (r : Option (Nat × AV)), ERs β es es' → findE kd k es i = some r →
    ∃ r', Instr.findNow kd k' es' i = some r' ∧ (r = none → r' = none) ∧ (∀ j v, r = some (j, v) → ∃ v' e', r' = some (j, v') ∧ VR β v v' ∧ es'[j - i]? = some e' ∧ i ≤ j ∧ VR β k e'.key)
  | [], es', i, r, h, hv => by
    cases h; cases hv
    exact ⟨none, rfl, fun _ => rfl, fun _ _ e => by cases e⟩
  | e :: es, es', i, r, h, hv => by
    cases h with
    | cons born hkk hvv hrest =>
      rename_i k1 v1 k1' v1' es1'
      have next : findE kd k es (i + 1) = some r → Instr.sameNow kd k' k1' = some false → ∃ r', Instr.findNow kd k' (⟨k1', v1', born⟩ :: es1') i = some r' ∧ (r = none → r' = none) ∧
          (∀ j v, r = some (j, v) → ∃ v' e', r' = some (j, v') ∧ VR β v v' ∧ (⟨k1', v1', born⟩ :: es1' : List MapEntry)[j - i]? = some e' ∧ i ≤ j ∧ VR β k e'.key) := by
        intro h1 h2
        obtain ⟨r', e1, e2, e3⟩ := findE_sim hk es es1' (i + 1) r hrest h1
        refine ⟨r', by simp [Instr.findNow, h2, e1], e2, ?_⟩
        intro j v hj
        obtain ⟨v', e', f1, f2, f3, f4, f5⟩ := e3 j v hj
        refine ⟨v', e', f1, f2, ?_, by omega, f5⟩
        rw [show j - i = (j - (i + 1)) + 1 from by omega]
        simpa using f3
      have here : r = some (i, v1) → Instr.sameNow kd k' k1' = some true → VR β k k1' → ∃ r', Instr.findNow kd k' (⟨k1', v1', born⟩ :: es1') i = some r' ∧ (r = none → r' = none) ∧
          (∀ j v, r = some (j, v) → ∃ v' e', r' = some (j, v') ∧ VR β v v' ∧ (⟨k1', v1', born⟩ :: es1' : List MapEntry)[j - i]? = some e' ∧ i ≤ j ∧ VR β k e'.key) := by
        intro h1 h2 h3
        subst h1
        refine ⟨some (i, v1'), by simp [Instr.findNow, h2], nofun, ?_⟩
        intro j v hj
        cases hj
        exact ⟨v1', ⟨k1', v1', born⟩, rfl, hvv, by simp, Nat.le_refl _, h3⟩
      unfold findE at hv
      simp only at hv
      split at hv
      · rename_i ka a kb b
        obtain rfl := hk.toInt
        obtain rfl := hkk.toInt
        cases hke : kindEq ka kb with
        | false => rw [hke] at hv; cases hv
        | true =>
          rw [hke] at hv
          obtain rfl := kindEq_eq hke
          change (bif eqI a b then some (some (i, v1)) else findE _ _ es (i + 1)) = some r at hv
          cases hab : eqI a b with
          | true =>
            rw [hab] at hv; cases hv
            rw [eqI_eq, beq_iff_eq] at hab
            subst hab
            exact here rfl (by simp [Instr.sameNow]) (.int _ _)
          | false =>
            rw [hab] at hv
            rw [eqI_eq] at hab
            exact next hv (by simp [Instr.sameNow, hab])
      · rename_i a b
        obtain rfl := hk.toStr
        obtain rfl := hkk.toStr
        cases hab : a == b with
        | true =>
          rw [hab] at hv; cases hv
          have : a = b := by
            rw [beq_toListBytes] at hab
            have := beq_iff_eq.1 hab
            rw [ByteArray.toList_eq, ByteArray.toList_eq] at this
            obtain ⟨⟨x⟩⟩ := a
            obtain ⟨⟨y⟩⟩ := b
            simp at this; subst this; rfl
          subst this
          exact here rfl (by simp [Instr.sameNow, hab]) (.str _)
        | false => rw [hab] at hv; exact next hv (by simp [Instr.sameNow, hab])
      · rename_i a b
        obtain rfl := hk.toBool
        obtain rfl := hkk.toBool
        cases hab : a == b with
        | true =>
          rw [hab] at hv; cases hv
          have := beq_iff_eq.1 hab
          subst this
          exact here rfl (by simp [Instr.sameNow]) (.bool _)
        | false => rw [hab] at hv; exact next hv (by simp [Instr.sameNow]; simpa using hab)
      · cases hv
theorem plainKey_check {kd : TypeDesc} {k : AV} {k' : Value} {kt : TypeId} (hk : VR β k k') (hp : plainKey kd k = true) (ht : P.underlying kt = some kd) (empty : Bool) (w : World) :
    (Instr.checkKey empty 10000 kt k').run P w = .ok () w := by
  rw [show (10000 : Nat) = 9999 + 1 from rfl]
  generalize 9999 = d
  unfold plainKey at hp
  split at hp
  · obtain rfl := hk.toInt
    cases kd <;> first | (simp [Instr.checkKey, run_underlying ht]; done) | cases hp
  · obtain rfl := hk.toStr
    cases kd <;> first | (simp [Instr.checkKey, run_underlying ht]; done) | cases hp
  · obtain rfl := hk.toBool
    cases kd <;> first | (simp [Instr.checkKey, run_underlying ht]; done) | cases hp
  · cases hp
theorem run_findKey {kt : TypeId} {kd : TypeDesc} {k' : Value} {es : List MapEntry} {r : Option (Nat × Value)} (ht : P.underlying kt = some kd) (hf : Instr.findNow kd k' es 0 = some r) (w : World) :
    (Instr.findKey kt k' es).run P w = .ok r w := by simp [Instr.findKey, run_underlying ht, hf]
theorem run_lookup {t kt et : TypeId} {x' ix' : Value} {es' : Array MapEntry} {r' : Option (Nat × Value)} {ok : Bool} (ht : P.underlying t = some (.map kt et))
    (hc : (x' = .map none ∧ es' = #[]) ∨ ∃ r clock, x' = .map (some r) ∧ w.heap[r]? = some (.map es' clock))
    (hck : ∀ b, (Instr.checkKey b 10000 kt ix').run P w = .ok () w) (hf : (Instr.findKey kt ix' es'.toList).run P w = .ok r' w) :
    (Instr.lookup t x' ix' ok).run P w = match r' with
      | some (_, v) => .ok (if ok then .tuple #[v, .bool true] else v) w
      | none => ((zeroValue et).run P w).andThen fun z w => .ok (if ok then .tuple #[z, .bool false] else z) w := by
  rcases hc with ⟨rfl, rfl⟩ | ⟨r, clock, rfl, hb⟩
  · simp only [Instr.lookup, Sem.run_bind, run_underlying ht, Result.andThen_ok, Sem.run_pure, hck, hf]
    cases r' with
    | none => simp only [Sem.run_bind, Sem.run_pure, Result.andThen_ok]
    | some x => simp only [Sem.run_bind, Sem.run_pure, Result.andThen_ok]
  · have hg : (getObj r).run P w = .ok (.map es' clock) w := by simp [getObj, Sem.run, hb]
    simp only [Instr.lookup, Sem.run_bind, run_underlying ht, Result.andThen_ok, Sem.run_pure, hg, hck, hf]
    cases r' with
    | none => simp only [Sem.run_bind, Sem.run_pure, Result.andThen_ok]
    | some x => simp only [Sem.run_bind, Sem.run_pure, Result.andThen_ok]
theorem plain_sameBits {kd : TypeDesc} {k : AV} {a b : Value} (hp : plainKey kd k = true) (ha : VR β k a) (hb : VR β k b) : Instr.sameBits 10000 a b = true := by
  rw [show (10000 : Nat) = 9999 + 1 from rfl]
  generalize 9999 = d
  unfold plainKey at hp
  split at hp
  · obtain rfl := ha.toInt; obtain rfl := hb.toInt; simp [Instr.sameBits]
  · obtain rfl := ha.toStr; obtain rfl := hb.toStr
    simp only [Instr.sameBits]
    rw [beq_toListBytes]; simp
  · obtain rfl := ha.toBool; obtain rfl := hb.toBool; simp [Instr.sameBits]
  · cases hp

/-! ## Keys of several cells -/
theorem cellV_eq {c : AV} {c' : Value} (hp : plainCell c = true) (h : VR β c c') : c' = cellV c := by
  cases h <;> first | rfl | cases hp
theorem cells_eq : ∀ {l : List AV} {l' : List Value}, l.all plainCell = true → VRs β l l' → l' = l.map cellV
  | [], _, _, h => by cases h; rfl
  | a :: l, _, hp, h => by
    simp only [List.all_cons, Bool.and_eq_true] at hp
    cases h with
    | cons h hl => rw [cellV_eq hp.1 h, cells_eq hp.2 hl]; rfl
theorem aggV_eq {k : AV} {k' v : Value} (ha : aggV k = some v) (h : VR β k k') : k' = v := by
  unfold aggV at ha
  split at ha
  · split at ha
    · rename_i hp
      cases ha
      cases h with
      | agg h _ => rw [cells_eq hp h]
    · cases ha
  · cases ha
theorem cellV_inj {a b : AV} (ha : plainCell a = true) (hb : plainCell b = true) (h : cellV a = cellV b) : a = b := by
  cases a <;> first | (cases ha; done) | (cases b <;> first | (cases hb; done) | (cases h; rfl) | (cases h; done))
theorem map_cellV_inj : ∀ {l m : List AV}, l.all plainCell = true → m.all plainCell = true → l.map cellV = m.map cellV → l = m
  | [], [], _, _, _ => rfl
  | [], _ :: _, _, _, h => by cases h
  | _ :: _, [], _, _, h => by cases h
  | a :: l, b :: m, ha, hb, h => by
    simp only [List.all_cons, Bool.and_eq_true] at ha hb
    simp only [List.map_cons, List.cons.injEq] at h
    rw [cellV_inj ha.1 hb.1 h.1, map_cellV_inj ha.2 hb.2 h.2]
theorem aggV_inj {a b : AV} {v : Value} (ha : aggV a = some v) (hb : aggV b = some v) : a = b := by
  unfold aggV at ha hb
  split at ha
  · split at ha
    · rename_i hp
      cases ha
      split at hb
      · split at hb
        · rename_i hq
          have h := Option.some.inj hb
          simp only [Value.agg.injEq, Array.mk.injEq] at h
          rw [map_cellV_inj hp hq h.symm]
        · cases hb
      · cases hb
    · cases ha
  · cases ha
theorem eqC_refl : ∀ {a : AV}, plainCell a = true → eqC a a = true := by
  intro a ha
  cases a <;> first | (cases ha; done) | simp [eqC, kindEq, eqI_eq]
theorem eqC_eq {a b : AV} (h : eqC a b = true) : a = b := by
  cases a <;> cases b <;> first | (cases h; done) | skip
  · simp only [eqC, beq_iff_eq] at h; rw [h]
  · simp only [eqC, Bool.and_eq_true, eqI_eq, beq_iff_eq] at h
    rw [kindEq_eq h.1, h.2]
  · rename_i s t
    have h1 := eq_of_beq (show (s.data.toList == t.data.toList) = true from h)
    obtain ⟨⟨l⟩⟩ := s
    obtain ⟨⟨m⟩⟩ := t
    simp only at h1
    rw [h1]
theorem eqCs_refl : ∀ {l : List AV}, l.all plainCell = true → eqCs l l = true
  | [], _ => rfl
  | a :: l, h => by
    simp only [List.all_cons, Bool.and_eq_true] at h
    simp only [eqCs, eqC_refl h.1, eqCs_refl h.2, Bool.and_self]
theorem eqCs_eq : ∀ {l m : List AV}, eqCs l m = true → l = m
  | [], [], _ => rfl
  | [], _ :: _, h => by cases h
  | _ :: _, [], h => by cases h
  | a :: l, b :: m, h => by
    simp only [eqCs, Bool.and_eq_true] at h
    rw [eqC_eq h.1, eqCs_eq h.2]
theorem eqG_eq {a b : AV} (h : eqG a b = true) : a = b := by
  unfold eqG at h
  split at h
  · rw [eqCs_eq h]
  · cases h
theorem eqG_refl {a : AV} {v : Value} (ha : aggV a = some v) : eqG a a = true := by
  unfold aggV at ha
  split at ha
  · split at ha
    · rename_i hp; exact eqCs_refl hp
    · cases ha
  · cases ha
theorem hitG_spec {k : AV} : ∀ {es : List AEnt} {i : Nat} {r : Option (Nat × AV)}, hitG k es i = some r →
    (r = none → ∀ (n : Nat) (e : AEnt), es[n]? = some e → eqG k e.key = false) ∧
    (∀ j v, r = some (j, v) → i ≤ j ∧ ∃ e, es[j - i]? = some e ∧ e.val = v ∧ eqG k e.key = true ∧ ∀ (n : Nat) (e' : AEnt), es[n]? = some e' → eqG k e'.key = true → n = j - i)
  | [], i, r, h => by cases h; exact ⟨fun _ n e he => by simp at he, fun j v hj => by cases hj⟩
  | e :: es, i, r, h => by
    unfold hitG at h
    split at h
    · rename_i hn
      obtain ⟨h1, _⟩ := hitG_spec hn
      have h1 := h1 rfl
      cases hq : eqG k e.key with
      | true =>
        rw [hq] at h; cases h
        refine ⟨fun hh => (by cases hh), fun j v hj => ?_⟩
        cases hj
        refine ⟨Nat.le_refl _, e, by simp, rfl, hq, fun n e' he' hq' => ?_⟩
        cases n with
        | zero => simp
        | succ n => simp only [List.getElem?_cons_succ] at he'; rw [h1 n e' he'] at hq'; cases hq'
      | false =>
        rw [hq] at h; cases h
        refine ⟨fun _ n e' he' => ?_, fun j v hj => (by cases hj)⟩
        cases n with
        | zero => simp at he'; subst he'; exact hq
        | succ n => simp only [List.getElem?_cons_succ] at he'; exact h1 n e' he'
    · rename_i jv hn
      cases hq : eqG k e.key with
      | true => rw [hq] at h; cases h
      | false =>
        rw [hq] at h; cases h
        obtain ⟨_, h2⟩ := hitG_spec hn
        refine ⟨fun hh => (by cases hh), fun j v hj => ?_⟩
        cases hj
        obtain ⟨a1, e', a2, a3, a4, a5⟩ := h2 j v rfl
        refine ⟨by omega, e', ?_, a3, a4, fun n e2 he2 hq2 => ?_⟩
        · rw [show j - i = (j - (i + 1)) + 1 from by omega]; simpa using a2
        · cases n with
          | zero => simp at he2; subst he2; rw [hq] at hq2; cases hq2
          | succ n => simp only [List.getElem?_cons_succ] at he2; have := a5 n e2 he2 hq2; omega
    · cases h
theorem ERs.get? {es : List AEnt} {es' : List MapEntry} (h : ERs β es es') {i : Nat} {e : AEnt} (hi : es[i]? = some e) : ∃ e', es'[i]? = some e' ∧ VR β e.key e'.key ∧ VR β e.val e'.val ∧ e.born = e'.born := by
  induction h generalizing i with
  | nil => simp at hi
  | cons b hk hv h ih => cases i with
    | zero => simp at hi; subst hi; exact ⟨_, rfl, hk, hv, rfl⟩
    | succ i => simp at hi; simpa using ih hi
theorem ERs.back? {es : List AEnt} {es' : List MapEntry} (h : ERs β es es') {i : Nat} {e' : MapEntry} (hi : es'[i]? = some e') : ∃ e, es[i]? = some e ∧ VR β e.key e'.key ∧ VR β e.val e'.val := by
  induction h generalizing i with
  | nil => simp at hi
  | cons b hk hv h ih => cases i with
    | zero => simp at hi; subst hi; exact ⟨_, rfl, hk, hv⟩
    | succ i => simp at hi; simpa using ih hi
theorem keyG_law {kt : TypeId} {k : AV} (h : keyG P kt k = true) : WideMaps.KeyLaw P kt ∧ ∃ v l, aggV k = some v ∧ keyOf P kt v = some l := by
  unfold keyG at h
  split at h
  · rename_i v hv
    simp only [Bool.and_eq_true] at h
    refine ⟨deep_law (m := 6) (by omega) h.2.1 h.2.2.1 h.1, v, ?_⟩
    obtain ⟨l, hl⟩ := Option.isSome_iff_exists.1 h.2.2.2
    exact ⟨l, hv, hl⟩
  · cases h
/-- A key is looked for. -/
theorem findK_sim {kt : TypeId} {kd : TypeDesc} {k : AV} {k' : Value} {es : List AEnt} {es' : List MapEntry} {r : Option (Nat × AV)} (ht : P.underlying kt = some kd) (hk : VR β k k') (hes : ERs β es es')
    (hf : findK P kt kd k es = some r) (w : World) : (∀ b, (Instr.checkKey b 10000 kt k').run P w = .ok () w) ∧ ∃ r', (Instr.findKey kt k' es').run P w = .ok r' w ∧ (r = none → r' = none) ∧
      (∀ j v, r = some (j, v) → ∃ v' e', r' = some (j, v') ∧ VR β v v' ∧ es'[j]? = some e' ∧ (Instr.keyThatStays e'.key k').run P w = .ok k' w) := by
  unfold findK at hf
  split at hf
  · rename_i hp
    obtain ⟨r', e1, e2, e3⟩ := findE_sim hk es es' 0 r hes hf
    refine ⟨fun b => plainKey_check hk hp ht b w, r', run_findKey ht e1 w, e2, fun j v hj => ?_⟩
    obtain ⟨v', e', g1, g2, g3, _, g5⟩ := e3 j v hj
    refine ⟨v', e', g1, g2, by simpa using g3, ?_⟩
    simp [Instr.keyThatStays, plain_sameBits hp g5 hk]
  · split at hf
    · rename_i hall
      simp only [Bool.and_eq_true, List.all_eq_true] at hall
      obtain ⟨law, v, l, hv, hl⟩ := keyG_law hall.1
      obtain rfl := aggV_eq hv hk
      have hkeys : ∀ e' ∈ es', ∃ l, keyOf P kt e'.key = some l := by
        intro e' he'
        obtain ⟨n, hn⟩ := List.mem_iff_getElem?.1 he'
        obtain ⟨e, h1, h2, _⟩ := hes.back? hn
        obtain ⟨_, v2, l2, hv2, hl2⟩ := keyG_law (hall.2 e (List.mem_of_getElem? h1))
        rw [aggV_eq hv2 h2]; exact ⟨l2, hl2⟩
      obtain ⟨s1, s2⟩ := hitG_spec hf
      have same : ∀ (n : Nat) (e : AEnt) (e' : MapEntry), es[n]? = some e → es'[n]? = some e' → VR β e.key e'.key → (e'.key = k' ↔ eqG k e.key = true) := by
        intro n e e' h1 h2 h3
        obtain ⟨_, v2, l2, hv2, hl2⟩ := keyG_law (hall.2 e (List.mem_of_getElem? h1))
        have hkv := aggV_eq hv2 h3
        constructor
        · intro h4
          rw [h4] at hkv
          rw [hkv] at hv
          rw [aggV_inj hv hv2]; exact eqG_refl hv2
        · intro h4
          rw [eqG_eq h4] at hv
          rw [hv] at hv2; rw [hkv]; exact (Option.some.inj hv2).symm
      refine ⟨fun b => law.check w b hl, ?_⟩
      rcases law.find w hl es' hkeys with ⟨f1, f2⟩ | ⟨j, e', f1, f2, f3⟩
      · cases r with
        | none => exact ⟨none, f1, fun _ => rfl, fun j v hj => by cases hj⟩
        | some jv =>
          obtain ⟨j, u⟩ := jv
          obtain ⟨_, e, a2, _, a4, _⟩ := s2 j u rfl
          obtain ⟨e', b1, b2, _⟩ := hes.get? a2
          exact absurd ((same _ _ _ a2 b1 b2).2 a4) (f2 e' (List.mem_of_getElem? b1))
      · obtain ⟨e, c1, c2, c3⟩ := hes.back? f2
        have hq := (same _ _ _ c1 f2 c2).1 f3
        cases r with
        | none => rw [s1 rfl j e c1] at hq; cases hq
        | some jv =>
          obtain ⟨j2, u⟩ := jv
          obtain ⟨_, e2, a2, a3, _, a5⟩ := s2 j2 u rfl
          have hj : j = j2 := a5 j e c1 hq
          subst hj
          rw [show j - 0 = j from rfl, c1] at a2
          cases a2
          refine ⟨_, f1, fun hh => (by cases hh), fun j3 v3 hj3 => ?_⟩
          cases hj3
          exact ⟨e'.val, e', rfl, by rw [← a3]; exact c3, f2, by rw [f3]; exact law.stays w hl⟩
    · cases hf
theorem entsA_sim (hr : Rel β h w) {x : AV} {x' : Value} (hx : VR β x x') {es : List AEnt} (he : entsA PTree.getK h x = some es) :
    ∃ es' : Array MapEntry, ERs β es es'.toList ∧ ((x' = .map none ∧ es' = #[]) ∨ ∃ r clock, x' = .map (some r) ∧ w.heap[r]? = some (.map es' clock)) := by
  unfold entsA at he
  split at he
  · cases he; cases hx; exact ⟨#[], .nil, .inl ⟨rfl, rfl⟩⟩
  · rename_i r
    rw [PTree.getK_eq] at he
    split at he
    · rename_i es0 c0 hp0
      cases he
      cases hx with
      | map hb =>
        obtain ⟨o', e1, e2⟩ := hr.obj r _ _ _ hp0 hb
        cases e2 with
        | map _ hes => exact ⟨_, hes, .inr ⟨_, _, rfl, e1⟩⟩
    · cases he
  · cases he
theorem lookA_sim (hr : Rel β h w) {t : TypeId} {x ix v : AV} {x' ix' : Value} {ok : Bool} (hx : VR β x x') (hi : VR β ix ix') (hv : lookA P PTree.getK h t x ix ok = some v) :
    ∃ v', (Instr.lookup t x' ix' ok).run P w = .ok v' w ∧ VR β v v' := by
  unfold lookA at hv
  split at hv
  · rename_i kt et ht
    split at hv
    · rename_i kd hkd
      cases hm : entsA PTree.getK h x with
      | none => rw [hm] at hv; cases hv
      | some es =>
        obtain ⟨es', hes', hc⟩ := entsA_sim hr hx hm
        rw [hm] at hv
        simp only at hv
        cases hf : findK P kt kd ix es with
        | none => rw [hf] at hv; cases hv
        | some r =>
          rw [hf] at hv
          obtain ⟨hck, r', e1, e2, e3⟩ := findK_sim hkd hi hes' hf w
          have hrun := fun ok => run_lookup (w := w) (ok := ok) ht hc hck e1
          cases r with
          | none =>
            obtain rfl := e2 rfl
            simp only at hv
            cases hz : zeroA P et with
            | none => rw [hz] at hv; cases hv
            | some z =>
              rw [hz] at hv
              obtain ⟨z', ez, hzr⟩ := zeroA_VR (β := β) hz w
              refine ⟨if ok then .tuple #[z', .bool false] else z', by rw [hrun, ez]; rfl, ?_⟩
              cases ok with
              | true => cases hv; exact .tuple (l' := [z', .bool false]) (.cons hzr (.cons (.bool _) .nil))
              | false => cases hv; exact hzr
          | some jv =>
            obtain ⟨j, u⟩ := jv
            obtain ⟨u', e', f1, f2, _⟩ := e3 j u rfl
            subst f1
            simp only at hv
            refine ⟨if ok then .tuple #[u', .bool true] else u', by rw [hrun], ?_⟩
            cases ok with
            | true => cases hv; exact .tuple (l' := [u', .bool true]) (.cons f2 (.cons (.bool _) .nil))
            | false => cases hv; exact f2
    · cases hv
  · cases hv
end Go.Am

/- Struct and array literals, assertions. -/
namespace Go.Am
variable {β : Ren} {P : Program} {h : Heap} {w : World} {tm : Tm} {ρ : Operand → Value}

theorem foldl_laid (off : Nat) : ∀ (l : List Value) (k : Nat) (cells : Array Value), off + k + l.length ≤ cells.size →
    (l.zipIdx k).foldl (fun (cs : Array Value) (x : Value × Nat) => cs.setIfInBounds (off + x.2) x.1) cells = laid cells (off + k) l
  | [], k, cells, _ => by simp [laid_nil]
  | v :: l, k, cells, hn => by
    simp only [List.length_cons] at hn
    rw [List.zipIdx_cons, List.foldl_cons]
    rw [foldl_laid off l (k + 1) _ (by simp; omega)]
    rw [← Nat.add_assoc, laid_cons _ _ _ _ (by omega)]
theorem all_append {a b : List AV} (ha : a.all flat = true) (hb : b.all flat = true) : (a ++ b).all flat = true := by rw [List.all_append, ha, hb]; rfl
theorem put_laid {vs c r : List AV} {vs' : List Value} {c' : Array Value} {o : Nat} (hv : VRs β vs vs') (hc : VRs β c c'.toList) (hp : put vs o c = some r) :
    o + vs'.length ≤ c'.size ∧ VRs β r (laid c' o vs').toList := by
  obtain ⟨h1, h2⟩ := put_some hp
  have e1 := hv.length
  have e2 := hc.length
  refine ⟨by simp at e2; omega, ?_⟩
  subst h2
  unfold laid
  rw [← e1]
  exact ((hc.take o).append hv).append (hc.drop (o + vs.length))
theorem put_flat {vs c r : List AV} {o : Nat} (hv : vs.all flat = true) (hc : c.all flat = true) (hp : put vs o c = some r) : r.all flat = true := by
  obtain ⟨_, h2⟩ := put_some hp
  subst h2
  exact all_append (all_append (all_take hc _) hv) (all_drop hc _)
theorem fillA_sim {place : Nat → Option (Nat × Nat)} {place' : Nat → Option (Nat × Nat)} (hpl : ∀ i x, place i = some x → place' i = some x) :
    ∀ (parts : List (Nat × AV)) (parts' : List (Nat × Value)) (cells : List AV) (cells' : Array Value) (r : List AV), PRs β parts parts' → VRs β cells cells'.toList → cells.all flat = true →
      fillA place put cells parts = some r → ∃ r', Instr.fill place' cells' parts' = some r' ∧ VRs β r r'.toList ∧ r.all flat = true ∧ r.length = cells.length
  | [], parts', cells, cells', r, hp, hc, hf, hr => by
    cases hp; cases hr
    exact ⟨cells', rfl, hc, hf, rfl⟩
  | (i, v) :: parts, parts', cells, cells', r, hp, hc, hf, hr => by
    cases hp with
    | cons _ hv hps =>
      rename_i v' ps'
      unfold fillA at hr
      cases h1 : place i with
      | none => rw [h1] at hr; cases hr
      | some x =>
        rw [h1] at hr
        obtain ⟨off, size⟩ := x
        simp only at hr
        cases h2 : v.cells with
        | none => rw [h2] at hr; cases hr
        | some vc =>
          rw [h2] at hr
          simp only at hr
          split at hr
          · cases hr
          · rename_i hsz
            cases h3 : put vc off cells with
            | none => rw [h3] at hr; cases hr
            | some cs =>
              rw [h3] at hr
              obtain ⟨hvc, hvf⟩ := hv.cells h2
              obtain ⟨hle, hlaid⟩ := put_laid hvc hc h3
              have hlen := hvc.length
              have e : v'.cells.zipIdx.foldl (fun (cs : Array Value) (x : Value × Nat) => cs.setIfInBounds (off + x.2) x.1) cells' = laid cells' off v'.cells.toList := by
                rw [← Array.foldl_toList, Array.toList_zipIdx]
                have := foldl_laid off v'.cells.toList 0 cells' (by simpa using hle)
                simpa using this
              obtain ⟨r', f1, f2, f3, f4⟩ := fillA_sim hpl parts ps' cs (laid cells' off v'.cells.toList) r hps hlaid (put_flat hvf hf h3) hr
              refine ⟨r', ?_, f2, f3, ?_⟩
              · unfold Instr.fill
                rw [hpl i _ h1]
                simp only
                have hs : v'.cells.size = size := by
                  have : vc.length = size := by simpa using hsz
                  rw [← this, hlen]; simp
                rw [if_neg (by simp only [hs, ne_eq, not_true_eq_false, decide_false, Bool.false_or, decide_eq_true_eq]; simp at hle; omega)]
                rw [← f1]
                congr 1
              · rw [f4]
                have := (put_some h3).2
                have h5 := (put_some h3).1
                rw [this]; simp; omega
theorem run_mapM_list {α γ : Type} {f : α → Sem γ} {g : α → Option γ} {w : World} (hg : ∀ a c, g a = some c → (f a).run P w = .ok c w) : ∀ (l : List α) (r : List γ), l.mapM g = some r → (l.mapM f).run P w = .ok r w
  | [], r, h => by simp at h; subst h; rfl
  | a :: l, r, h => by
    rw [List.mapM_cons] at h
    cases h1 : g a with
    | none => rw [h1] at h; cases h
    | some c =>
      cases h2 : l.mapM g with
      | none => rw [h1, h2] at h; cases h
      | some r' =>
        rw [h1, h2] at h; cases h
        rw [List.mapM_cons]
        simp only [Sem.run_bind, hg a c h1, Result.andThen_ok, run_mapM_list hg l r' h2, Sem.run_pure]
theorem buildA_sim {t : TypeId} {ps : List (Nat × AV)} {ps' : List (Nat × Value)} {v : AV} (hp : PRs β ps ps') (hv : buildA P t ps = some v) (w : World) :
    ∃ v', (Instr.build t ps'.toArray).run P w = .ok v' w ∧ VR β v v' := by
  obtain ⟨z, h1, h2⟩ := obind_some.1 hv
  obtain ⟨z', ez, hz, hzf⟩ := zeroC_VRs (β := β) h1 w
  cases hpl : placesA P t with
  | some pl =>
    rw [hpl] at h2
    obtain ⟨c, h3, h4⟩ := obind_some.1 (show obind (fillA (fun i => pl[i]?) put z ps) (fun c => some (.agg c)) = some v from h2)
    cases h4
    unfold placesA at hpl
    split at hpl
    · rename_i fs ht
      have hm : (fs.mapM fun f => do pure (f.offset, ← sizeOf f.type) : Sem (Array (Nat × Nat))).run P w = .ok pl.toArray w := by
        rw [Array.mapM_eq_mapM_toList, Sem.run_map]
        rw [run_mapM_list (g := fun f => (siz P f.type).map fun n => (f.offset, n)) ?_ fs.toList pl hpl]
        · rfl
        · intro f x hx
          cases hs : siz P f.type with
          | none => rw [hs] at hx; cases hx
          | some n => rw [hs] at hx; cases hx; simp [run_siz hs]
      obtain ⟨c', e1, e2, e3, _⟩ := fillA_sim (place' := (pl.toArray[·]?)) (by intro i x hx; simpa using hx) ps ps' z z'.cells c hp hz hzf h3
      refine ⟨.agg c', ?_, .agg (l' := c'.toList) e2 e3⟩
      simp only [Instr.build, Sem.run_bind, ez, Result.andThen_ok, run_underlying ht, hm, e1, Sem.run_pure]
    · cases hpl
  | none =>
    rw [hpl] at h2
    obtain ⟨n, h3, h4⟩ := obind_some.1 (show obind (arrPlace P t) (fun n => obind (fillA (fun i => some (i * n, n)) put z ps) fun c => some (.agg c)) = some v from h2)
    obtain ⟨c, h5, h6⟩ := obind_some.1 h4
    cases h6
    unfold arrPlace at h3
    split at h3
    · rename_i m e ht
      obtain ⟨c', e1, e2, e3, _⟩ := fillA_sim (place' := fun i => some (i * n, n)) (fun i x hx => hx) ps ps' z z'.cells c hp hz hzf h5
      refine ⟨.agg c', ?_, .agg (l' := c'.toList) e2 e3⟩
      simp only [Instr.build, Sem.run_bind, ez, Result.andThen_ok, run_underlying ht, run_siz h3, e1, Sem.run_pure]
    · cases h3
theorem notIface_some {t : TypeId} (h : notIface P t = true) : ∃ d, P.underlying t = some d ∧ ∀ ms, d ≠ .interface ms := by
  unfold notIface at h
  split at h
  · cases h
  · rename_i d hni ht
    exact ⟨d, ht, fun ms e => hni ms e⟩
  · cases h
theorem assertA_sim {at_ xt : TypeId} {ok : Bool} {x v : AV} {x' : Value} (hn : notIface P at_ = true) (hx : VR β x x') (hv : assertA P at_ ok x = some v) (w : World) :
    ∃ v', (Instr.typeAssert x' xt at_ ok).run P w = .ok v' w ∧ VR β v v' := by
  obtain ⟨d, ht, hd⟩ := notIface_some hn
  have fails : ∀ s dy m, ok = true → (zeroA P at_).map (fun z => AV.tuple [z, .bool false]) = some v → ∃ v', ((if ok = true then (do pure (.tuple #[← zeroValue at_, .bool false]) : Sem Value) else runtimePanic (.typeAssertion s dy at_ m)) : Sem Value).run P w = .ok v' w ∧ VR β v v' := by
    intro s dy m hok hz
    cases hzz : zeroA P at_ with
    | none => rw [hzz] at hz; cases hz
    | some z =>
      rw [hzz] at hz; cases hz
      obtain ⟨z', ez, hzr⟩ := zeroA_VR (β := β) hzz w
      exact ⟨.tuple #[z', .bool false], by simp [hok, ez], .tuple (l' := [z', .bool false]) (.cons hzr (.cons (.bool _) .nil))⟩
  unfold assertA at hv
  split at hv
  · rename_i t u
    cases hx with
    | iface _ hu =>
      rename_i u'
      split at hv
      · rename_i e
        subst e
        refine ⟨if ok then .tuple #[u', .bool true] else u', ?_, ?_⟩
        · cases d <;> first
            | exact absurd rfl (hd _)
            | (simp only [Instr.typeAssert, Sem.run_bind, run_underlying ht, Result.andThen_ok, if_true]; rfl)
        · cases ok with
          | true => cases hv; exact .tuple (l' := [u', .bool true]) (.cons hu (.cons (.bool _) .nil))
          | false => cases hv; exact hu
      · rename_i hne
        split at hv
        · rename_i hok
          obtain ⟨v', e1, e2⟩ := fails (some xt) (some t) "" hok hv
          refine ⟨v', ?_, e2⟩
          cases d <;> first
            | exact absurd rfl (hd _)
            | (simp only [Instr.typeAssert, Sem.run_bind, run_underlying ht, Result.andThen_ok, if_neg hne]; exact e1)
        · cases hv
  · cases hx
    split at hv
    · rename_i hok
      obtain ⟨v', e1, e2⟩ := fails (some xt) none "" hok hv
      refine ⟨v', ?_, e2⟩
      cases d <;> first
        | exact absurd rfl (hd _)
        | (simp only [Instr.typeAssert, Sem.run_bind, run_underlying ht, Result.andThen_ok]; exact e1)
    · cases hv
  · cases hv
end Go.Am

/- Each operation that only computes or reads, as an operation of the model's. -/
namespace Go.Am

def LtOk (f : Lt) (op : Op) : Prop := ∀ (P : Program) (β : Ren) (h : Heap) (w : World) (tm : Tm) (ρ : Operand → Value) (v : AV) (o : Oper), o.op = op → Rel β h w → OpR β tm ρ →
  f P h tm = some v → ∃ v', (execOp ρ o).run P w = .ok (.value v') w ∧ VR β v v'

theorem ok_move (x : Operand) : LtOk (lMove x) (.move x) := fun P β h w tm ρ v o ho _ hρ hv => ⟨ρ x, by simp [execOp, ho], hρ x v hv⟩
theorem ok_assign (x : Operand) : LtOk (lMove x) (.assign x) := fun P β h w tm ρ v o ho _ hρ hv => ⟨ρ x, by simp [execOp, ho], hρ x v hv⟩
theorem ok_pick (c a b : Operand) : LtOk (lPick c a b) (.pick c a b) := by
  intro P β h w tm ρ v o ho _ hρ hv
  obtain ⟨x, h1, h2⟩ := obind_some.1 hv
  obtain ⟨g, h3, h4⟩ := obind_some.1 h2
  have hc := hρ c x h1
  rw [toBool_some h3] at hc
  have e := hc.toBool
  rw [bcase_eq] at h4
  cases g with
  | true => exact ⟨ρ a, by simp [execOp, ho, e, asBool], hρ a v h4⟩
  | false => exact ⟨ρ b, by simp [execOp, ho, e, asBool], hρ b v h4⟩
theorem ok_load (t : TypeId) (a : Operand) : LtOk (lLoad t a) (.load t a) := by
  intro P β h w tm ρ v o ho hr hρ hv
  obtain ⟨x, h1, h2⟩ := obind_some.1 hv
  obtain ⟨v', e, hvr⟩ := loadA_sim hr (hρ a x h1) h2
  exact ⟨v', by simp [execOp, ho, e], hvr⟩
theorem nilAhead_ok {P : Program} {t : TypeId} {i : TypeInfo} {n : String} {m : Method} {v : Value} (hi : P.info? t = some i) (hm : i.methods.find? (·.name == n) = some m) (hp : m.path.toList = [])
    (hf : (∃ f, m.func = some (f, true)) ∨ (∃ f e, m.func = some (f, false) ∧ P.underlying t = some (.pointer e) ∧ v ≠ .pointer none)) (d : Nat) (w : World) :
    (nilAhead (d + 1) t v n).run P w = .ok (some false) w := by
  have hti : (typeInfo t).run P w = .ok i w := by simp [typeInfo, hi]
  unfold nilAhead
  simp only [Sem.run_bind, hti, Result.andThen_ok, hm, hp, followBlind, Sem.run_pure]
  rcases hf with ⟨f, hf⟩ | ⟨f, e, hf, hu, hv⟩
  · rw [hf]; simp
  · rw [hf]
    simp only [Sem.run_bind, run_underlying hu, Result.andThen_ok]
    cases v <;> rfl
theorem nilOk_ok {P : Program} {β : Ren} {ρ : Operand → Value} {x : Operand} {o : Oper} {y v : AV} {y' : Value} {w : World} (ho : o.op = .nilCheck x) (hx : ρ x = y') (hy : VR β y y') (h2 : nilOk y = some v) : (execOp ρ o).run P w = .ok (.value y') w := by
  unfold nilOk at h2
  split at h2
  · cases hy; simp [execOp, ho, hx]
  · cases hy with | func hf _ _ => cases hf; simp [execOp, ho, hx]
  · cases hy with | func hf _ _ => cases hf; simp [execOp, ho, hx]
  · cases hy; simp [execOp, ho, hx]
  · cases h2
theorem ok_nilCheck (x : Operand) : LtOk (lNilCheck x) (.nilCheck x) := by
  intro P β h w tm ρ v o ho _ hρ hv
  obtain ⟨y, h1, h2⟩ := obind_some.1 hv
  have hy := hρ x y h1
  unfold nilOkP at h2
  split at h2
  · rename_i n t a as c
    split at h2
    · rename_i i hi
      split at h2
      · rename_i m hm
        have hm' : i.methods.find? (·.name == n) = some m := by rw [← Array.find?_toList]; exact hm
        have fin : ∀ (hp : m.path.toList = []) (hf : ∀ v : Value, v ≠ .pointer none → (∃ f, m.func = some (f, true)) ∨ (∃ f e, m.func = some (f, false) ∧ P.underlying t = some (.pointer e) ∧ v ≠ .pointer none)),
            some (AV.func (.method n) (.iface t (.ptr (some a)) :: as) c) = some v → ∃ v', (execOp ρ o).run P w = .ok (.value v') w ∧ VR β v v' := by
          intro hp hf hvv
          cases hvv
          refine ⟨ρ x, ?_, hy⟩
          generalize hx : ρ x = y' at hy
          cases hy with
          | func hfn ha _ =>
            cases hfn
            cases ha with
            | cons hr hl =>
              cases hr with
              | iface _ hr =>
                cases hr with
                | ptr hb =>
                  have hd : P.types.size + Made.depth = (P.types.size + Made.depth - 1) + 1 := by simp [Made.depth]
                  have hna : ∀ v : Value, v ≠ .pointer none → (nilAhead (P.types.size + Made.depth) t v n).run P w = .ok (some false) w := by
                    intro v hv
                    rw [hd]
                    exact nilAhead_ok hi hm' hp (hf v hv) _ w
                  simp [execOp, ho, hx, hna]
        split at h2
        · rename_i hp hf; exact fin hp (fun _ _ => .inl ⟨_, hf⟩) h2
        · rename_i hp hf hu; exact fin hp (fun v hv => .inr ⟨_, _, hf, hu, hv⟩) h2
        · cases h2
      · cases h2
    · cases h2
  · have hvy : v = y := by unfold nilOk at h2; split at h2 <;> first | (cases h2; rfl) | cases h2
    subst hvy
    exact ⟨ρ x, nilOk_ok ho rfl hy h2, hy⟩
theorem ok_bin (op : BinOp) (t : TypeId) (x y : Operand) (u : TypeId) : LtOk (lBin op t x y u) (.binOp op t x y u) := by
  intro P β h w tm ρ v o ho _ hρ hv
  obtain ⟨a, h1, h2⟩ := obind_some.1 hv
  obtain ⟨b, h3, h4⟩ := obind_some.1 h2
  have ha := hρ x a h1
  have hb := hρ y b h3
  obtain ⟨v', e, hvr⟩ := binA_sim ha hb h4 w
  have eg := eqGuard_ok ha hb h4 w
  exact ⟨v', by simp [execOp, ho, e, eg], hvr⟩
theorem ok_un (op : UnOp) (t : TypeId) (x : Operand) : LtOk (lUn op t x) (.unOp op t x) := by
  intro P β h w tm ρ v o ho _ hρ hv
  obtain ⟨a, h1, h2⟩ := obind_some.1 hv
  obtain ⟨v', e, hvr⟩ := unA_sim (P := P) (hρ x a h1) h2 w
  exact ⟨v', by simp [execOp, ho, e], hvr⟩
theorem ok_conv (s d : TypeId) (x : Operand) : LtOk (lConv s d x) (.convert s d x) := by
  intro P β h w tm ρ v o ho _ hρ hv
  obtain ⟨a, h1, h2⟩ := obind_some.1 hv
  obtain ⟨v', e, hvr⟩ := convA_sim (hρ x a h1) h2 w
  exact ⟨v', by simp [execOp, ho, e], hvr⟩
theorem ok_mkIface (t : TypeId) (x : Operand) : LtOk (lMkIface t x) (.makeInterface t x) := by
  intro P β h w tm ρ v o ho _ hρ hv
  obtain ⟨h1, h2⟩ := bcase_none hv
  obtain ⟨a, h3, h4⟩ := obind_some.1 h2
  cases h4
  obtain ⟨d, ht, hd⟩ := notIface_some h1
  refine ⟨.iface t (ρ x), ?_, .iface t (hρ x a h3)⟩
  cases d <;> first
    | exact absurd rfl (hd _)
    | (simp only [execOp, ho, Instr.makeInterface, Sem.run_bind, run_underlying ht, Result.andThen_ok]; rfl)
theorem ok_mkFunc (fn : Fn) (a c : Array Operand) : LtOk (lMkFunc fn a c) (.makeFunc fn a c) := by
  intro P β h w tm ρ v o ho _ hρ hv
  obtain ⟨f, h1, h2⟩ := obind_some.1 hv
  obtain ⟨l, h3, h4⟩ := obind_some.1 h2
  obtain ⟨m, h5, h6⟩ := obind_some.1 h4
  cases h6
  have hl := evalL_sim hρ _ _ h3
  have hm := evalL_sim hρ _ _ h5
  refine ⟨.func fn (a.map ρ) (c.map ρ), by simp [execOp, ho, Instr.makeFunc], ?_⟩
  have e1 : a.map ρ = Array.mk (a.toList.map ρ) := by apply Array.ext'; simp
  have e2 : c.map ρ = Array.mk (c.toList.map ρ) := by apply Array.ext'; simp
  rw [e1, e2]
  refine .func ?_ hl hm
  unfold fnA at h1
  split at h1 <;> cases h1
  · exact .func _
  · exact .method _
  · exact .methodOf _ _
theorem QR_of {β : Ren} {tm : Tm} {ρ : Operand → Value} (hρ : OpR β tm ρ) {x : Option Operand} {v : Option AV} (hv : evalQ tm x = some v) : QR β v (x.map ρ) := by
  rcases evalQ_sim hρ hv with ⟨rfl, rfl⟩ | ⟨y, u, rfl, rfl, h⟩
  · exact .none
  · exact .some h
theorem ok_slice (t : TypeId) (x : Operand) (lo hi mx : Option Operand) : LtOk (lSlice t x lo hi mx) (.slice t x lo hi mx) := by
  intro P β h w tm ρ v o ho _ hρ hv
  obtain ⟨a, h1, h2⟩ := obind_some.1 hv
  obtain ⟨l, h3, h4⟩ := obind_some.1 h2
  obtain ⟨m, h5, h6⟩ := obind_some.1 h4
  obtain ⟨n, h7, h8⟩ := obind_some.1 h6
  obtain ⟨v', e, hvr⟩ := sliceArr_sim (hρ x a h1) (QR_of hρ h3) (QR_of hρ h5) (QR_of hρ h7) h8 w
  exact ⟨v', by simp [execOp, ho, e], hvr⟩
theorem ok_fieldAddr (t : TypeId) (x : Operand) (f : Nat) : LtOk (lFieldAddr t x f) (.fieldAddr t x f) := by
  intro P β h w tm ρ v o ho _ hρ hv
  obtain ⟨a, h1, h2⟩ := obind_some.1 hv
  obtain ⟨b, h3, h4⟩ := obind_some.1 h2
  obtain ⟨d, h5, h6⟩ := obind_some.1 h4
  obtain ⟨h7, h8⟩ := bcase_none h6
  cases h8
  rw [blt_eq, decide_eq_true_eq] at h7
  have ha := hρ x a h1
  rw [toPtr_some h3] at ha
  obtain ⟨r, n, hb, e⟩ := ha.toPtr
  obtain ⟨v', e1, hvr⟩ := fieldAddr_sim hb h5 h7 w
  exact ⟨v', by simp [execOp, ho, e, e1], hvr⟩
theorem ok_field (t : TypeId) (x : Operand) (f : Nat) : LtOk (lField t x f) (.field t x f) := by
  intro P β h w tm ρ v o ho _ hρ hv
  obtain ⟨a, h1, h2⟩ := obind_some.1 hv
  obtain ⟨b, h3, h4⟩ := obind_some.1 h2
  obtain ⟨d, h5, h6⟩ := obind_some.1 h4
  have ha := hρ x a h1
  rw [toAgg_some h3] at ha
  obtain ⟨v', e1, hvr⟩ := field_sim ha h5 h6 w
  exact ⟨v', by simp [execOp, ho, e1], hvr⟩
theorem ok_indexAddr (t : TypeId) (x i : Operand) : LtOk (lIndexAddr t x i) (.indexAddr t x i) := by
  intro P β h w tm ρ v o ho _ hρ hv
  obtain ⟨a, h1, h2⟩ := obind_some.1 hv
  obtain ⟨b, h3, h4⟩ := obind_some.1 h2
  obtain ⟨v', e1, hvr⟩ := idxA_sim (hρ x a h1) (hρ i b h3) h4 w
  exact ⟨v', by simp [execOp, ho, e1], hvr⟩
theorem ok_index (t : TypeId) (x i : Operand) : LtOk (lIndex t x i) (.index t x i) := by
  intro P β h w tm ρ v o ho _ hρ hv
  obtain ⟨a, h1, h2⟩ := obind_some.1 hv
  obtain ⟨b, h3, h4⟩ := obind_some.1 h2
  obtain ⟨v', e1, hvr⟩ := indexA_sim (hρ x a h1) (hρ i b h3) h4 w
  exact ⟨v', by simp [execOp, ho, e1], hvr⟩
theorem ok_lookup (t : TypeId) (x i : Operand) (ok : Bool) : LtOk (lLookup t x i ok) (.lookup t x i ok) := by
  intro P β h w tm ρ v o ho hr hρ hv
  obtain ⟨a, h1, h2⟩ := obind_some.1 hv
  obtain ⟨b, h3, h4⟩ := obind_some.1 h2
  obtain ⟨v', e1, hvr⟩ := lookA_sim hr (hρ x a h1) (hρ i b h3) h4
  exact ⟨v', by simp [execOp, ho, e1], hvr⟩
theorem ok_extract (x : Operand) (i : Nat) : LtOk (lExtract x i) (.extract x i) := by
  intro P β h w tm ρ v o ho _ hρ hv
  obtain ⟨a, h1, h2⟩ := obind_some.1 hv
  obtain ⟨l, h3, h4⟩ := obind_some.1 h2
  have ha := hρ x a h1
  rw [toTuple_some h3] at ha
  rw [nth_eq] at h4
  generalize hx : ρ x = x' at ha
  cases ha with
  | tuple hl =>
    obtain ⟨v', e1, hvr⟩ := hl.get h4
    exact ⟨v', by simp [execOp, ho, hx, Instr.extract, e1], hvr⟩
theorem ok_build (t : TypeId) (ps : Array (Nat × Operand)) : LtOk (lBuild t ps) (.build t ps) := by
  intro P β h w tm ρ v o ho _ hρ hv
  obtain ⟨l, h1, h2⟩ := obind_some.1 hv
  obtain ⟨v', e1, hvr⟩ := buildA_sim (evalP_sim hρ _ _ h1) h2 w
  refine ⟨v', ?_, hvr⟩
  have e : ps.map (fun (i, x) => (i, ρ x)) = (ps.toList.map fun x => (x.1, ρ x.2)).toArray := by apply Array.ext'; simp
  simp only [execOp, ho, Sem.run_bind, e, e1, Result.andThen_ok, Sem.run_pure]
theorem ok_assert (x : Operand) (t u : TypeId) (ok : Bool) : LtOk (lAssert x t u ok) (.typeAssert x t u ok) := by
  intro P β h w tm ρ v o ho _ hρ hv
  obtain ⟨h1, h2⟩ := bcase_none hv
  obtain ⟨a, h3, h4⟩ := obind_some.1 h2
  obtain ⟨v', e1, hvr⟩ := assertA_sim (xt := t) h1 (hρ x a h3) h4 w
  exact ⟨v', by simp [execOp, ho, e1], hvr⟩

/-! ## len, cap, max, min -/
theorem one_some {l : List AV} {x : AV} (h : one l = some x) : l = [x] := by
  unfold one at h; split at h
  · cases h; rfl
  · cases h
theorem head_array {ts : Array TypeId} {t : TypeId} (h : ts.toList.head? = some t) : ts[0]? = some t := by
  obtain ⟨l⟩ := ts
  cases l with
  | nil => cases h
  | cons x l => simpa using h
theorem map_array {α γ : Type} (f : α → γ) (a : Array α) : a.map f = Array.mk (a.toList.map f) := by apply Array.ext'; simp
theorem run_builtin {P : Program} {w : World} {ρ : Operand → Value} {c : Call} {b : Builtin} (o : Oper) (ho : o.op = .call c) (hc : c.callee = .builtin b) :
    (execOp ρ o).run P w = (builtin b c.argTypes o.type (c.args.map fun | .const _ => true | _ => false) (Array.mk (c.args.toList.map ρ))).run P w := by
  rw [← map_array]
  simp only [execOp, ho, resolve, hc, Sem.run_bind, Sem.run_pure, Result.andThen_ok, invoke]
  rfl
theorem ok_len (c : Call) (hc : c.callee = .builtin .len) : LtOk (lLen c.args.toList c.argTypes.toList) (.call c) := by
  intro P β h w tm ρ v o ho hr hρ hv
  obtain ⟨l, h1, h2⟩ := obind_some.1 hv
  obtain ⟨x, h3, h4⟩ := obind_some.1 h2
  obtain ⟨t, h5, h6⟩ := obind_some.1 h4
  have hl := evalL_sim hρ _ _ h1
  rw [one_some h3] at hl
  obtain ⟨x', e, hx⟩ := hl.one
  obtain ⟨v', e1, hvr⟩ := lenA_sim (t := t) (ty := o.type) hr hx h6
  refine ⟨v', ?_, hvr⟩
  rw [run_builtin o ho hc, e]
  have : (Builtin.len_ c.argTypes o.type #[x']).run P w = (Builtin.len_ #[t] o.type #[x']).run P w := by
    unfold Builtin.len_
    simp [head_array h5]
  simp only [builtin, Sem.run_bind]
  rw [show (Array.mk [x'] : Array Value) = #[x'] from rfl, this, e1]
  rfl
theorem ok_cap (c : Call) (hc : c.callee = .builtin .cap) : LtOk (lCap c.args.toList c.argTypes.toList) (.call c) := by
  intro P β h w tm ρ v o ho hr hρ hv
  obtain ⟨l, h1, h2⟩ := obind_some.1 hv
  obtain ⟨x, h3, h4⟩ := obind_some.1 h2
  obtain ⟨t, h5, h6⟩ := obind_some.1 h4
  obtain ⟨h7, h8⟩ := bcase_none h6
  have hl := evalL_sim hρ _ _ h1
  rw [one_some h3] at hl
  obtain ⟨x', e, hx⟩ := hl.one
  obtain ⟨v', e1, hvr⟩ := capA_sim (t := t) (ty := o.type) hx h7 h8 w
  refine ⟨v', ?_, hvr⟩
  rw [run_builtin o ho hc, e]
  have : (Builtin.cap_ c.argTypes o.type #[x']).run P w = (Builtin.cap_ #[t] o.type #[x']).run P w := by
    unfold Builtin.cap_
    simp [head_array h5]
  simp only [builtin, Sem.run_bind]
  rw [show (Array.mk [x'] : Array Value) = #[x'] from rfl, this, e1]
  rfl
theorem ok_max (c : Call) (hc : c.callee = .builtin .max) : LtOk (lMax c.args.toList c.argTypes.toList) (.call c) := by
  intro P β h w tm ρ v o ho hr hρ hv
  obtain ⟨l, h1, h2⟩ := obind_some.1 hv
  obtain ⟨v', e1, hvr⟩ := maxA_sim (P := P) (ts := c.argTypes) (ty := o.type) (evalL_sim hρ _ _ h1) h2 w
  exact ⟨v', by rw [run_builtin o ho hc]; simp only [builtin, Sem.run_bind, e1]; rfl, hvr⟩
theorem ok_min (c : Call) (hc : c.callee = .builtin .min) : LtOk (lMin c.args.toList c.argTypes.toList) (.call c) := by
  intro P β h w tm ρ v o ho hr hρ hv
  obtain ⟨l, h1, h2⟩ := obind_some.1 hv
  obtain ⟨v', e1, hvr⟩ := minA_sim (P := P) (ts := c.argTypes) (ty := o.type) (evalL_sim hρ _ _ h1) h2 w
  exact ⟨v', by rw [run_builtin o ho hc]; simp only [builtin, Sem.run_bind, e1]; rfl, hvr⟩
end Go.Am
