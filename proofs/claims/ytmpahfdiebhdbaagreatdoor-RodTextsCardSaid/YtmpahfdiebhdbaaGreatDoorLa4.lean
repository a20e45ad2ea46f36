/- An own logic over the model, its walks and its plain laws, joined of parts GM GN GO GS GT GW GX GY GU Ri Rj Rs Rv GZ V1 HC Xa HE Rk Rl X2 Xd V2 V3 V4 Xb Z1 CD GQ HD X1 BB. Conditions: as each theorem states. -/
import Derived.Test.YtmpahfdiebhdbaaGreatDoorLa3
import Derived.Test.YtmpahfdiebhdbaaGreatDoorLa1
import Derived.Test.YtmpahfdiebhdbaaGreatDoorLa2
set_option linter.all false
namespace Go.HL
open Go
variable [Lvl]
theorem runT_keep {P : Program} {α : Type} : ∀ (s : Sem α) (w : World) (es0 es : Array Event), (∀ e ∈ es0, e ∈ es) → ∀ e ∈ es0, e ∈ (s.runT P w es).2 := by
 have push : ∀ {es es' : Array Event} {a : Event}, (∀ e ∈ es, e ∈ es') → ∀ e ∈ es, e ∈ es'.push a := fun h e he => Array.mem_push.2 (.inl (h e he))
 have app : ∀ {es es' u : Array Event}, (∀ e ∈ es, e ∈ es') → ∀ e ∈ es, e ∈ es' ++ u := fun h e he => Array.mem_append.2 (.inl (h e he))
 intro s
 induction s with
 | pure a => intro w es es' h; exact h
 | load m a k ih =>
  intro w es es' h
  simp only [Sem.runT]
  cases w.cell? a with
  | some v => exact ih v w _ _ (push h)
  | none =>
   cases w.farLoad P a (m == .atomic) with
   | ok p => exact ih p.1 w _ _ (app h)
   | error x => exact h
 | store m a v k ih =>
  intro w es es' h
  have key : ∀ v : Value, plainV v → ∀ e ∈ es, e ∈ ((Sem.store m a v k).runT P w es').2 := by
   intro v hv
   have e2 : ∀ es : Array Event, (Sem.store m a v k).runT P w es = (match w.cell? a with
     | some _ => if w.frozen? a then (.halt (.unsupported (.unsafePointer "a write to bytes that a string shares")) w, es) else k.runT P (w.setCell a v) (es.push ⟨.cell a, true, m == .atomic⟩)
     | none => match w.farStore P a v (m == .atomic) with
      | .ok (w, touched) => k.runT P w (es ++ touched.toArray.map (⟨.cell ·, true, m == .atomic⟩))
      | .error h => (.halt h w, es)) := fun es => by cases v <;> first | exact hv.elim | rfl
   rw [e2]
   cases w.cell? a with
   | some _ =>
    cases w.frozen? a with
    | true => exact h
    | false => exact ih _ _ _ (push h)
   | none =>
    cases w.farStore P a v (m == .atomic) with
    | ok p => exact ih p.1 _ _ (app h)
    | error x => exact h
  cases v <;> first | exact key _ trivial | exact h
 | new o k ih => intro w es es' h; exact ih _ _ _ _ h
 | shape r k ih => intro w es es' h; exact ih _ _ _ _ h
 | freeze a n k ih => intro w es es' h; exact ih _ _ _ h
 | frozen a k ih => intro w es es' h; exact ih _ _ _ _ h
 | getObj r k ih =>
  intro w es es' h
  simp only [Sem.runT]
  cases w.heap[r]? with
  | none => exact h
  | some o => cases o <;> first | exact h | exact ih _ w _ _ (push h)
 | setObj r o k ih =>
  intro w es es' h
  simp only [Sem.runT]
  cases w.heap[r]? with
  | none => exact h
  | some o => cases o <;> first | exact h | exact ih _ _ _ (push h)
 | choose q k ih =>
  intro w es es' h
  simp only [Sem.runT]
  split
  ·exact ih _ _ _ _ (by first | exact h | exact push h)
  ·exact ih _ _ _ _ (by first | exact h | exact push h)
 | sys c k ih => intro w es es' h; exact ih _ _ _ _ (by first | exact h | exact push h | exact app h)
 | program k ih => intro w es es' h; exact ih _ _ _ _ h
 | mark m k ih => intro w es es' h; exact ih _ _ _ (by first | exact h | exact push h | exact app h)
 | halt x => intro w es es' h; exact h
section
variable {P : Program} {n : Nat} {K : Post} {S : Sl} {D : Df} {L : Pv} {h : AH}
def rfSemR (l0 : Nat) (fn : FuncId) (tm : Array Value) (ps : Array Nat) (assign body : Code) (y : Value) : Sem (Nat × Next) :=
 .getObj l0 fun o => match o with
  | .loop r0 => .new (.loop { state := .ready, pending := none, fn := fn, tmps := tm, params := ps, assign := assign, body := body, defers := r0.defers }) fun l =>
   (do let d ← Deferred.ofValue y #[.func (.yield l) #[] #[]]; invoke d.target d.args : Sem Next).bind fun x => .pure (l, x)
  | _ => .halt (.stuck "")
def LoopR (P : Program) (n l0 : Nat) (K : Post) (S : Sl) (D : Df) (L : Pv) (h : AH) (y : Value) (ps : List Nat) (assign body : Code) : Prop :=
 ∀ (l : Nat) (lp : Loop), lp.tmps = arr n S → lp.params = ps.toArray → lp.assign = assign → lp.body = body → Valid h (L ++ [some (l, obL lp .ready none)]) →
  CallV P y [.func (.yield l) #[] #[]] (wl h (L ++ [some (l, obL lp .ready none)]))
   (fun _ H' => ∃ h' L' st pd, H' = wl h' (L' ++ [some (l, obL lp st pd)]) ∧ Valid h' (L' ++ [some (l, obL lp st pd)]) ∧ st ≠ .busy ∧
    ∀ h'', Ext h' h'' → match pd with | none => K .normal S D L' h'' | some c => xp P n (some l0) c K S D L' h'') noE
theorem xp_rangeFuncR {f : Operand} {y : Value} {ps : List Nat} {assign body : Code} {l0 i0 : Nat} {lp0 : Loop} {st0 : LoopState} {pd0 : Option Code} (hi0 : L[i0]? = some (some (l0, obL lp0 st0 pd0))) (hy : ev n S f = y) (g : LoopR P n l0 K S D L h y ps assign body) : xp P n (some l0) (.rangeFunc f ps.toArray assign body) K S D L h := by
 subst hy
 intro H V b hb k cs
 have h0 : H l0 = some (obL lp0 st0 pd0) := by rw [V.eq]; exact hun_left (zK V.valid hi0)
 have endR : ∀ (l : Nat) (lp : Loop) (H2 : AH) (h' : AH) (L' : Pv) (st : LoopState) (pd : Option Code), Fits h' (L' ++ [some (l, obL lp st pd)]) D H2 → st ≠ .busy →
   (∀ h'', Ext h' h'' → match pd with | none => K .normal S D L' h'' | some c => xp P n (some l0) c K S D L' h'') →
   Rch P (fun fr cs' H' => cs' = cs ∧ ∃ e S' D' L' h', Fits h' L' D' H' ∧ K e S' D' L' h' ∧ AtX b n k e S' D' fr) (mk b n S D (.endRangeFunc l :: k)) cs H2 := by
  intro l lp H2 h' L' st pd V2 hst kk
  have hi : (L' ++ [some (l, obL lp st pd)])[L'.length]? = some (some (l, obL lp st pd)) := by simp
  have hl : H2 l = some (obL lp st pd) := by rw [V2.eq]; exact hun_left (zK V2.valid hi)
  have e0 : (L' ++ [some (l, obL lp st pd)]).set L'.length none = L' ++ [none] := by simp
  refine .sem (Instr.endLoop l) (fun _ => True) (fun _ => False) (fun j => (mk b n S D ((j.map Item.code).toList ++ k), cs)) (fun _ => (b, cs)) (fun j H' => j = pd ∧ ∃ h'', Ext h' h'' ∧ Fits h'' L' D H') noE ?_ ?_ (fun _ _ _ => trivial) (fun _ _ y => y) ?_ (fun _ _ y => y.elim)
  ·intro main w
   refine ⟨fun a w' hr _ => ?_, fun v w' hr y => y.elim⟩
   simp [stepG, stepG.exec, mk, hr]
  ·unfold Instr.endLoop
   refine wM (dem_getLoop hl ?_)
   have hb2 : ((obL lp st pd = .loop { lp with state := st, pending := pd }) ∧ (st == LoopState.busy) = false) := ⟨rfl, by cases st <;> first | rfl | exact absurd rfl hst⟩
   simp only [hb2.2, Bool.false_eq_true, if_false]
   refine wM ?_
   refine ⟨_, hl, trivial, ?_⟩
   refine ⟨rfl, hupd h' l (.loop { lp with state := .exhausted, pending := pd }), ?_, ?_⟩
   ·exact Ext.new (Ext.refl h') (wl_fresh V2.valid hi) _
   ·have hs := wl_set (o' := .loop { lp with state := .exhausted, pending := pd }) V2.valid hi
    have Vs := valid_set (o' := .loop { lp with state := .exhausted, pending := pd }) V2.valid hi
    have e1 : (L' ++ [some (l, obL lp st pd)]).set L'.length (some (l, .loop { lp with state := .exhausted, pending := pd })) = L' ++ [some (l, .loop { lp with state := .exhausted, pending := pd })] := by simp
    rw [e1] at hs Vs
    have hi1 : (L' ++ [some (l, Obj.loop { lp with state := .exhausted, pending := pd })])[L'.length]? = some (some (l, .loop { lp with state := .exhausted, pending := pd })) := by simp
    have hp := wl_pub Vs hi1
    have Vp := valid_pub Vs hi1
    have e2 : (L' ++ [some (l, Obj.loop { lp with state := .exhausted, pending := pd })]).set L'.length none = L' ++ [none] := by simp
    have e3 : cl (L' ++ [none]) = cl L' := by simp [cl]
    rw [e2] at hp Vp
    have hp' : wl h' (L' ++ [some (l, Obj.loop { lp with state := .exhausted, pending := pd })]) = wl (hupd h' l (.loop { lp with state := .exhausted, pending := pd })) L' := by
     rw [hp]; unfold wl; rw [e3]
    have Vp' : Valid (hupd h' l (.loop { lp with state := .exhausted, pending := pd })) L' := by unfold Valid at Vp ⊢; rw [e3] at Vp; exact Vp
    have hF : Fits h' (L' ++ [some (l, Obj.loop { lp with state := .exhausted, pending := pd })]) D (hupd H2 l (.loop { lp with state := .exhausted, pending := pd })) := by
     refine ⟨Vs, ?_, V2.nd, ?_⟩
     ·rw [← hs]
      exact V2.disj.hupd (V2.disj.right (zK V2.valid hi))
     ·rw [← hs, V2.eq, hun_hupd]
    exact hF.turn hp' Vp'
  ·rintro j H' ⟨rfl, h'', E, V3⟩
   have := kk h'' E
   cases j with
   | none => exact .done ⟨rfl, .normal, S, _, L', h'', V3, this, rfl⟩
   | some c => exact this H' V3 b hb k cs
 refine .sem (rfSemR l0 b.fn (arr n S) ps.toArray assign body (ev n S f)) (fun p => match p.2 with | .value _ => True | .skip => True | .enter _ _ => True | .round _ _ _ _ _ => True | _ => False) (fun _ => False)
  (fun p => match p.2 with
   | .value _ => (mk b n S D (.endRangeFunc p.1 :: k), cs)
   | .skip => (mk b n S D (.endRangeFunc p.1 :: k), cs)
   | .enter f args => (Frame.enter P f args .normal, mk b n S D (.inRangeFunc p.1 :: k) :: cs)
   | .round l f tmps a c => (Frame.round l f tmps a c .normal, mk b n S D (.inRangeFunc p.1 :: k) :: cs)
   | _ => (b, cs)) (fun _ => (b, cs)) _ _ ?_ (dem_fin V.fin (?_ : dem P (rfSemR l0 b.fn (arr n S) ps.toArray assign body (ev n S f)) H (fun p H' => upon P (fun _ H2 => ∃ h' L' lp st pd, Fits h' (L' ++ [some (p.1, obL lp st pd)]) D H2 ∧ st ≠ .busy ∧ ∀ h'', Ext h' h'' → match pd with | none => K .normal S D L' h'' | some c => xp P n (some l0) c K S D L' h'') noE p.2 H') noE)) ?_ (fun _ _ y => y.2) ?_ (fun _ _ y => y.2.elim)
 ·intro main w
  refine ⟨fun p w' hr hx => ?_, fun v w' hr y => y.elim⟩
  obtain ⟨l, x⟩ := p
  obtain ⟨r0, hl0⟩ : ∃ r0, w.heap[l0]? = some (.loop r0) := by
   unfold rfSemR at hr
   simp only [Sem.run] at hr
   cases ho : w.heap[l0]? with
   | none => rw [ho] at hr; cases hr
   | some o => cases o <;> first | exact ⟨_, rfl⟩ | (rw [ho] at hr; simp [Sem.run] at hr)
  have hes : (rfSemR l0 b.fn (arr n S) ps.toArray assign body (ev n S f)).events P w #[] = ((do let d ← Deferred.ofValue (ev n S f) #[Value.func (Fn.yield w.heap.size) #[] #[]]; invoke d.target d.args : Sem Next).runT P
    { heap := w.heap.push (Obj.loop { state := LoopState.ready, pending := none, fn := b.fn, tmps := arr n S, params := ps.toArray, assign := assign, body := body, defers := r0.defers }), tape := w.tape, drawn := w.drawn, os := w.os, output := w.output } #[⟨.obj l0, false, false⟩]).2 := by
   unfold rfSemR Sem.events
   simp only [Sem.runT, hl0]
   exact events_map _ _ _ _
  unfold rfSemR at hr
  simp only [Sem.run, hl0] at hr
  obtain ⟨x', hr1, hx'⟩ := run_map_ok hr
  simp only [Prod.mk.injEq] at hx'
  obtain ⟨rfl, rfl⟩ := hx'
  have hee := congrFun (mk_eval b n S D (.inRangeFunc w.heap.size :: k)) f
  have hstep : stepG P main (G (mk b n S D ([.code (.rangeFunc f ps.toArray assign body)] ++ k)) cs) w = GStep.after (seen P b.fn #[⟨.obj l0, false, false⟩]) (stepG.apply P true (mk b n S D (.inRangeFunc w.heap.size :: k)) cs none (do let d ← resolve (mk b n S D (.inRangeFunc w.heap.size :: k)).eval { callee := .value f, args := #[.const (.func (.yield w.heap.size) #[] #[])], argTypes := #[] } 0; invoke d.target d.args)
    { heap := w.heap.push (Obj.loop { state := LoopState.ready, pending := none, fn := b.fn, tmps := arr n S, params := ps.toArray, assign := assign, body := body, defers := r0.defers }), tape := w.tape, drawn := w.drawn, os := w.os, output := w.output }) := by
   have het : (Instr.enterLoop b.fn (arr n S) ps.toArray assign body (some l0)).runT P w #[] = (.ok (w.heap.size, []) { heap := w.heap.push (Obj.loop { state := LoopState.ready, pending := none, fn := b.fn, tmps := arr n S, params := ps.toArray, assign := assign, body := body, defers := r0.defers }), tape := w.tape, drawn := w.drawn, os := w.os, output := w.output }, #[⟨.obj l0, false, false⟩]) := by
    show (Sem.runT P (.getObj l0 _) w #[]) = _
    simp only [Sem.runT, hl0]
    rfl
   simp only [stepG, stepG.exec, mk, List.cons_append, List.nil_append, hb, het]
  have hres : resolve (mk b n S D (.inRangeFunc w.heap.size :: k)).eval { callee := .value f, args := #[.const (.func (.yield w.heap.size) #[] #[])], argTypes := #[] } 0 = Deferred.ofValue (ev n S f) #[Value.func (Fn.yield w.heap.size) #[] #[]] := by
   simp only [resolve, hee]
   simp [Frame.eval]
  rw [hres] at hstep
  rw [hstep]
  have k1 : ∀ e ∈ seen P b.fn #[⟨.obj l0, false, false⟩], e ∈ (rfSemR l0 b.fn (arr n S) ps.toArray assign body (ev n S f)).events P w #[] := fun e he => by
   rw [hes]
   exact runT_keep _ _ _ _ (fun e h => h) e (seen_sub P b.fn _ e he)
  have k2 : ∀ e ∈ Sem.events P (do let d ← Deferred.ofValue (ev n S f) #[Value.func (Fn.yield w.heap.size) #[] #[]]; invoke d.target d.args : Sem Next)
    { heap := w.heap.push (Obj.loop { state := LoopState.ready, pending := none, fn := b.fn, tmps := arr n S, params := ps.toArray, assign := assign, body := body, defers := r0.defers }), tape := w.tape, drawn := w.drawn, os := w.os, output := w.output } #[], e ∈ (rfSemR l0 b.fn (arr n S) ps.toArray assign body (ev n S f)).events P w #[] := fun e he => by
   rw [hes]
   exact runT_more _ _ _ _ (fun e h => by simp at h) e he
  cases x' <;> first | exact hx.elim | (simp only [stepG.apply, Sem.runT_eq, hr1, if_true, tells_after, tells_go]; refine ⟨⟨⟨?_, ?_, ?_⟩, ?_⟩, k1⟩ <;> first | trivial | rfl | exact fun e he => k2 e (seen_if _ _ _ _ e he) | exact fun _ he => absurd he (by simp))
 ·unfold rfSemR
  refine ⟨_, h0, trivial, ?_⟩
  intro l hl
  obtain ⟨V2, hlw⟩ := V.new hl (.loop { state := .ready, pending := none, fn := b.fn, tmps := arr n S, params := ps.toArray, assign := assign, body := body, defers := lp0.defers })
  refine wM ?_
  have c := g l { state := .ready, pending := none, fn := b.fn, tmps := arr n S, params := ps.toArray, assign := assign, body := body, defers := lp0.defers } rfl rfl rfl rfl V2.valid
  have c1 := CallV.frame c (fin_wl V2.valid) V2.disj
  have eH : hun (wl h (L ++ [some (l, obL { state := .ready, pending := none, fn := b.fn, tmps := arr n S, params := ps.toArray, assign := assign, body := body, defers := lp0.defers } .ready none)])) (mkH D) = hupd H l (.loop { state := .ready, pending := none, fn := b.fn, tmps := arr n S, params := ps.toArray, assign := assign, body := body, defers := lp0.defers }) := V2.eq.symm
  rw [eH] at c1
  refine dem_mono ?_ ?_ c1
  ·intro x H' u
   refine upon_mono ?_ ?_ u
   ·rintro v H2 ⟨H1, e1, d1, f1, h', L', st, pd, rfl, V', hst, kk⟩
    exact ⟨h', L', _, st, pd, ⟨V', d1, V.nd, e1⟩, hst, kk⟩
   ·rintro v H2 ⟨H1, e1, d1, f1, y⟩; exact y
  ·rintro v H2 ⟨H1, e1, d1, f1, y⟩; exact y
 ·rintro ⟨l, x⟩ H' ⟨_, u⟩
  cases x <;> first | exact trivial | exact u
 ·rintro ⟨l, x⟩ H' ⟨hfin, u⟩
  have call : ∀ fr0 : Frame, EnterT P fr0 H' (fun _ H2 => ∃ h' L' lp st pd, Fits h' (L' ++ [some (l, obL lp st pd)]) D H2 ∧ st ≠ .busy ∧ ∀ h'', Ext h' h'' → match pd with | none => K .normal S D L' h'' | some c => xp P n (some l0) c K S D L' h'') noE →
    Rch P (fun fr cs' H' => cs' = cs ∧ ∃ e S' D' L' h', Fits h' L' D' H' ∧ K e S' D' L' h' ∧ AtX b n k e S' D' fr) fr0 (mk b n S D (.inRangeFunc l :: k) :: cs) H' := by
   intro fr0 c
   refine (c hfin (mk b n S D (.inRangeFunc l :: k)) cs).bind ?_
   rintro fr cs' H2 ⟨rfl, ⟨v, rfl, h', L', lp, st, pd, V', hst, kk⟩ | ⟨v, rfl, y⟩⟩
   ·have ef : (mk b n S D (.inRangeFunc l :: k)).finish v = mk b n S D (.endRangeFunc l :: k) := rfl
    rw [ef]
    exact endR l lp H2 h' L' st pd V' hst kk
   ·exact y.elim
  cases x with
  | value v =>
   obtain ⟨h', L', lp, st, pd, V', hst, kk⟩ := u
   exact endR l lp H' h' L' st pd V' hst kk
  | skip =>
   obtain ⟨h', L', lp, st, pd, V', hst, kk⟩ := u
   exact endR l lp H' h' L' st pd V' hst kk
  | enter f args => exact call _ u
  | round l' f tmps a c => exact call _ u
  | _ => exact u.elim
end
end Go.HL
namespace Go.HL
open Go
variable [Lvl]
theorem wl_unfill {h : AH} {L : Pv} {i : Nat} {q : Nat × Obj} (hi : L[i]? = some (some q)) (V : Valid h L) : wl h L = wl h (L.set i none ++ [some q]) ∧ Valid h (L.set i none ++ [some q]) := by
 have hl : i < L.length := (List.getElem?_eq_some_iff.1 hi).1
 have h0 : (L.set i none)[i]? = some none := by simp [hl]
 have e : (L.set i none).set i (some q) = L := by
  rw [List.set_set]
  apply List.ext_getElem?
  intro j
  rw [List.getElem?_set]
  by_cases hj : i = j
  ·subst hj; rw [if_pos rfl, if_pos hl, hi]
  ·rw [if_neg hj]
 have p := cl_fill (L.set i none) q h0
 rw [e] at p
 exact wl_perm p V
section
variable {P : Program} {n : Nat} {K : Post} {S : Sl} {D : Df} {L : Pv} {h : AH}
def LoopF (P : Program) (n i : Nat) (K : Post) (S : Sl) (D : Df) (L : Pv) (h : AH) (y : Value) (ps : List Nat) (assign body : Code) : Prop :=
 ∀ (r l : Nat) (lp : Loop), lp.tmps = arr n S → lp.params = ps.toArray → lp.assign = assign → lp.body = body → Valid h (L.set i (some (l, obL lp .ready none))) →
  CallV P y [.func (.yield l) #[] #[]] (wl h (L.set i (some (l, obL lp .ready none))))
   (fun _ H' => ∃ h' L' st pd, H' = wl h' L' ∧ Valid h' L' ∧ L'[i]? = some (some (l, obL lp st pd)) ∧ st ≠ .busy ∧
    ∀ h'', Ext h' h'' → match pd with | none => K .normal S (markD r :: D) (L'.set i none) h'' | some c => xp P n none c K S (markD r :: D) (L'.set i none) h'') noE
theorem xp_rangeFuncF (i : Nat) {f : Operand} {y : Value} {ps : List Nat} {assign body : Code} (hi : L[i]? = some none) (hy : ev n S f = y) (g : LoopF P n i K S D L h y ps assign body) : xp P n none (.rangeFunc f ps.toArray assign body) K S D L h := by
 refine xp_rangeFunc hy ?_
 intro r l lp h1 h2 h3 h4 V
 obtain ⟨e, V1⟩ := wl_fillO hi V
 rw [e]
 refine CallV.mono (g r l lp h1 h2 h3 h4 V1) ?_ (fun _ _ y => y)
 rintro v H ⟨h', L', st, pd, rfl, V', hi', hst, k⟩
 obtain ⟨e2, V2⟩ := wl_unfill hi' V'
 exact ⟨h', L'.set i none, st, pd, e2, V2, hst, k⟩
def LoopRF (P : Program) (n l0 i : Nat) (K : Post) (S : Sl) (D : Df) (L : Pv) (h : AH) (y : Value) (ps : List Nat) (assign body : Code) : Prop :=
 ∀ (l : Nat) (lp : Loop), lp.tmps = arr n S → lp.params = ps.toArray → lp.assign = assign → lp.body = body → Valid h (L.set i (some (l, obL lp .ready none))) →
  CallV P y [.func (.yield l) #[] #[]] (wl h (L.set i (some (l, obL lp .ready none))))
   (fun _ H' => ∃ h' L' st pd, H' = wl h' L' ∧ Valid h' L' ∧ L'[i]? = some (some (l, obL lp st pd)) ∧ st ≠ .busy ∧
    ∀ h'', Ext h' h'' → match pd with | none => K .normal S D (L'.set i none) h'' | some c => xp P n (some l0) c K S D (L'.set i none) h'') noE
theorem xp_rangeFuncRF (i i0 : Nat) {f : Operand} {y : Value} {ps : List Nat} {assign body : Code} {l0 : Nat} {lp0 : Loop} {st0 : LoopState} {pd0 : Option Code} (hi : L[i]? = some none) (hi0 : L[i0]? = some (some (l0, obL lp0 st0 pd0))) (hy : ev n S f = y) (g : LoopRF P n l0 i K S D L h y ps assign body) : xp P n (some l0) (.rangeFunc f ps.toArray assign body) K S D L h := by
 refine xp_rangeFuncR hi0 hy ?_
 intro l lp h1 h2 h3 h4 V
 obtain ⟨e, V1⟩ := wl_fillO hi V
 rw [e]
 refine CallV.mono (g l lp h1 h2 h3 h4 V1) ?_ (fun _ _ y => y)
 rintro v H ⟨h', L', st, pd, rfl, V', hi', hst, k⟩
 obtain ⟨e2, V2⟩ := wl_unfill hi' V'
 exact ⟨h', L'.set i none, st, pd, e2, V2, hst, k⟩
end
end Go.HL
namespace Go.HL
open Go
variable [Lvl]
section
variable {P : Program} {n : Nat} {d : Option Tmp} {ty : TypeId} {ps : String} {af : Array Edge} {S : Sl}
theorem pv_sliceS {x lo hi : Operand} {t e : TypeId} {m len cap : Nat} {A : Option Addr} (i j : Nat) {k k2 : IntKind} {i' j' : Int} (hx : ev n S x = .slice A len cap) (hl : ev n S lo = .int k i') (hh : ev n S hi = .int k2 j') (ei : i' = i) (ej : j' = j) (ht : pev P (underlying t) = some (.slice e)) (hs : pev P (sizeOf e) = some m) (hij : i ≤ j) (hjc : j ≤ cap) {A' : Option Addr} {l' c' : Nat} (eA : (if cap = i then A else A.map (·.add (i * m))) = A') (el : j - i = l') (ec : cap - i = c') :
  pev P (execOp (ev n S) ⟨d, .slice t x (some lo) (some hi) none, ty, ps, af, none⟩) = some (.value (.slice A' l' c')) := by
 subst ei ej eA el ec
 simp only [execOp, hx, hl, hh, Option.map]
 refine (wY (a := .slice (if cap = i then A else A.map (·.add (i * m))) (j - i) (cap - i)) ?_).trans rfl
 unfold Instr.sliceAt
 refine (wK ht).trans ?_
 simp only
 unfold Instr.slice
 refine (wK ht).trans ?_
 simp only
 have hb : pev P (Instr.sliceBounds true len cap (some (.int k (i : Int))) (some (.int k2 (j : Int))) none) = some (i, j, cap) := by
  unfold Instr.sliceBounds
  refine (wK (a := cap) rfl).trans ?_
  have h1 : pev P (Instr.sliceBound (.int k2 (j : Int)) cap .sliceAcap) = some j := by
   unfold Instr.sliceBound
   refine (wK (a := (k2, (j : Int))) rfl).trans ?_
   simp only
   rw [if_pos ⟨by omega, by omega⟩]
   rfl
  have h2 : pev P (Instr.sliceBound (.int k (i : Int)) j .sliceB) = some i := by
   unfold Instr.sliceBound
   refine (wK (a := (k, (i : Int))) rfl).trans ?_
   simp only
   rw [if_pos ⟨by omega, by omega⟩]
   rfl
  refine (wK h1).trans ?_
  refine (wK h2).trans ?_
  rfl
 refine (wK hb).trans ?_
 simp only
 refine (wK hs).trans ?_
 rfl
end
def CapOK : Value → Prop
 | .slice _ n c => n ≤ c
 | _ => True
theorem AccP.cap {e : TypeId} {m : Nat} {cs : List Value} {p : Option (Nat × Obj)} {v : Value} (a : AccP e m cs p v) (hm : 0 < m) : CapOK v := by
 rcases a with ⟨_, _, A, rfl⟩ | ⟨b, len, cap, junk, h1, rfl, _, h2⟩
 ·exact Nat.le_refl 0
 ·show len ≤ cap
  rw [List.length_append, h1] at h2
  exact Nat.le_of_mul_le_mul_right (by omega) hm
end Go.HL
namespace Go.HL
open Go
variable [Lvl]
theorem rd_take {H : AH} {A : Option Addr} {cs : List Value} (r : Rd H A cs) (k : Nat) : Rd H A (cs.take k) := fun hne => by
 obtain ⟨g, off, ha, c⟩ := r (fun e => hne (by rw [e, List.take_nil]))
 refine ⟨g, off, ha, fun j u hu => c j u ?_⟩
 rw [List.getElem?_take] at hu
 split at hu
 ·exact hu
 ·cases hu
section
variable {P : Program} {n : Nat} {d : Option Tmp} {ty : TypeId} {ps : String} {af : Array Edge} {S : Sl}
end
end Go.HL
namespace Go.HL
open Go
variable [Lvl]
section
variable {P : Program} {n : Nat} {d : Option Tmp} {ty : TypeId} {ps : String} {af : Array Edge} {S : Sl}
theorem pv_sliceLo {x lo : Operand} {t e : TypeId} {m len cap : Nat} {A : Option Addr} (i : Nat) {k : IntKind} {i' : Int} (hx : ev n S x = .slice A len cap) (hl : ev n S lo = .int k i') (ei : i' = i) (ht : pev P (underlying t) = some (.slice e)) (hs : pev P (sizeOf e) = some m) (hij : i ≤ len) (hc : len ≤ cap) :
  pev P (execOp (ev n S) ⟨d, .slice t x (some lo) none none, ty, ps, af, none⟩) = some (.value (.slice (if cap = i then A else A.map (·.add (i * m))) (len - i) (cap - i))) := by
 subst ei
 simp only [execOp, hx, hl, Option.map]
 refine (wY (a := .slice (if cap = i then A else A.map (·.add (i * m))) (len - i) (cap - i)) ?_).trans rfl
 unfold Instr.sliceAt
 refine (wK ht).trans ?_
 simp only
 unfold Instr.slice
 refine (wK ht).trans ?_
 simp only
 have hb : pev P (Instr.sliceBounds true len cap (some (.int k (i : Int))) none none) = some (i, len, cap) := by
  unfold Instr.sliceBounds
  refine (wK (a := cap) rfl).trans ?_
  have h1 : ∀ f, pev P (Instr.sliceBound (.int .i64 (len : Int)) cap f) = some len := by
   intro f
   unfold Instr.sliceBound
   refine (wK (a := (IntKind.i64, (len : Int))) rfl).trans ?_
   simp only
   rw [if_pos ⟨by omega, by omega⟩]
   rfl
  have h2 : pev P (Instr.sliceBound (.int k (i : Int)) len .sliceB) = some i := by
   unfold Instr.sliceBound
   refine (wK (a := (k, (i : Int))) rfl).trans ?_
   simp only
   rw [if_pos ⟨by omega, by omega⟩]
   rfl
  first
  | (refine (wK (a := len) rfl).trans ?_; refine (wK h2).trans ?_; rfl)
  | (refine (wK (a := len) (h1 _)).trans ?_; refine (wK h2).trans ?_; rfl)
 refine (wK hb).trans ?_
 simp only
 refine (wK hs).trans ?_
 rfl
end
theorem rd_drop {H : AH} {A : Option Addr} {cs : List Value} (r : Rd H A cs) (k : Nat) : Rd H (A.map (·.add k)) (cs.drop k) := fun hne => by
 obtain ⟨g, off, rfl, c⟩ := r (fun e => hne (by rw [e, List.drop_nil]))
 refine ⟨g, off + k, by simp [Addr.add], fun j u hu => ?_⟩
 rw [List.getElem?_drop] at hu
 have := c (k + j) u hu
 rw [← Nat.add_assoc] at this
 exact this
end Go.HL
namespace Go.HL
open Go
variable [Lvl]
section
variable {P : Program} {n : Nat} {d : Option Tmp} {ty : TypeId} {ps : String} {af : Array Edge} {S : Sl}
end
section
variable {P : Program} {n : Nat} {ops : Array Oper} {os : List Oper} {K : Sl → Pv → AH → Prop} {E : Value → Sl → Pv → AH → Prop} {S : Sl} {L : Pv} {h : AH} {d : Option Tmp} {ty : TypeId} {ps : String} {af : Array Edge}
end
end Go.HL
namespace Go.HL
open Go
variable [Lvl]
section
variable {P : Program} {n : Nat} {ops : Array Oper} {os : List Oper} {K : Sl → Pv → AH → Prop} {E : Value → Sl → Pv → AH → Prop} {S : Sl} {L : Pv} {h : AH} {d : Option Tmp} {ty : TypeId} {ps : String} {af : Array Edge}
theorem pv_conv {x : Operand} {s t : TypeId} {q k : IntKind} {z z' : Int} {us : TypeDesc} (hx : ev n S x = .int q z) (hs : pev P (underlying s) = some us) (ht : pev P (underlying t) = some (.int k)) (hz : k.wrap z = z') :
  pev P (execOp (ev n S) ⟨d, .convert s t x, ty, ps, af, none⟩) = some (.value (.int k z')) := by
 subst hz
 simp only [execOp, hx]
 refine (wY (a := .int k (k.wrap z)) ?_).trans rfl
 unfold convert
 refine (wK hs).trans ?_
 refine (wK ht).trans ?_
 rfl
theorem pv_sliceLoS {x lo : Operand} {t e : TypeId} {m len cap : Nat} {A : Option Addr} (i : Nat) {A' : Option Addr} {l' c' : Nat} {k : IntKind} {i' : Int} (hx : ev n S x = .slice A len cap) (hl : ev n S lo = .int k i') (ei : i' = i) (ht : pev P (underlying t) = some (.slice e)) (hs : pev P (sizeOf e) = some m) (hij : i ≤ len) (hc : len ≤ cap)
  (eA : (if cap = i then A else A.map (·.add (i * m))) = A') (el : len - i = l') (ec : cap - i = c') :
  pev P (execOp (ev n S) ⟨d, .slice t x (some lo) none none, ty, ps, af, none⟩) = some (.value (.slice A' l' c')) := by
 subst eA el ec
 exact pv_sliceLo i hx hl ei ht hs hij hc
end
section
variable {P : Program} {m n : Nat} {K' : Post} {S : Sl} {D : Df} {L : Pv} {h : AH}
end
end Go.HL
namespace Go.HL
open Go
abbrev bs (l : List UInt8) : ByteArray := ⟨⟨l⟩⟩
theorem bs_loop (l : List UInt8) : ∀ (k i : Nat) (r : List UInt8), l.length - i = k → ByteArray.toList.loop (bs l) i r = r.reverse ++ l.drop i := by
 intro k
 induction k with
 | zero =>
  intro i r h
  unfold ByteArray.toList.loop
  have hi : ¬ i < (bs l).size := by show ¬ i < l.length; omega
  rw [if_neg hi, List.drop_eq_nil_of_le (by omega), List.append_nil]
 | succ k ih =>
  intro i r h
  have hl : i < l.length := by omega
  unfold ByteArray.toList.loop
  have hi : i < (bs l).size := hl
  rw [if_pos hi, ih (i + 1) _ (by omega), List.drop_eq_getElem_cons hl, List.reverse_cons, List.append_assoc]
  have : (bs l).get! i = l[i] := by
   show (Array.mk l)[i]! = _
   rw [getElem!_pos _ _ (by exact hl)]
   rfl
  rw [this]
  rfl
theorem bs_toList (l : List UInt8) : (bs l).toList = l := by
 show ByteArray.toList.loop (bs l) 0 [] = l
 rw [bs_loop l _ 0 [] rfl]
 rfl
theorem bs_cat (a b : List UInt8) : bs a ++ bs b = bs (a ++ b) := by
 apply ByteArray.ext
 rw [ByteArray.data_append]
 exact List.append_toArray a b
theorem bs_ext (l : List UInt8) (i j : Nat) : (bs l).extract i j = bs ((l.take j).drop i) := by
 apply ByteArray.ext
 rw [ByteArray.data_extract]
 show l.toArray.extract i j = ((l.take j).drop i).toArray
 rw [List.extract_toArray, List.extract_eq_take_drop, List.drop_take]
theorem bs_of (s : ByteArray) : ∃ l, s = bs l := ⟨s.data.toList, rfl⟩
variable [Lvl]
section
variable {P : Program} {n : Nat} {d : Option Tmp} {ty : TypeId} {ps : String} {af : Array Edge} {S : Sl}
theorem pv_cat {x y : Operand} {t u : TypeId} {a b : List UInt8} (hx : ev n S x = .string (bs a)) (hy : ev n S y = .string (bs b)) (hs : a.length + b.length < 2 ^ 62) :
  pev P (execOp (ev n S) ⟨d, .binOp .add t x y u, ty, ps, af, none⟩) = some (.value (.string (bs (a ++ b)))) := by
 simp only [execOp, hx, hy]
 refine (wY (a := .string (bs (a ++ b))) ?_).trans rfl
 refine (wK (a := ()) rfl).trans ?_
 show pev P (Op.stringOp .add (bs a) (bs b)) = _
 unfold Op.stringOp
 simp only
 rw [if_neg (by show ¬ ((a.length + b.length : Nat) : Int) > 9223372036854775807; omega), bs_cat]
 rfl
theorem pv_streq {x y : Operand} {t u : TypeId} {a b : List UInt8} (hx : ev n S x = .string (bs a)) (hy : ev n S y = .string (bs b)) :
  pev P (execOp (ev n S) ⟨d, .binOp .eql t x y u, ty, ps, af, none⟩) = some (.value (.bool (decide (a = b)))) := by
 simp only [execOp, hx, hy]
 refine (wY (a := .bool (decide (a = b))) ?_).trans rfl
 refine (wK (a := ()) rfl).trans ?_
 show pev P (Op.stringOp .eql (bs a) (bs b)) = _
 unfold Op.stringOp
 simp only [bs_toList]
 have : (a == b) = decide (a = b) := by rw [Bool.eq_iff_iff]; simp
 rw [this]
 rfl
theorem pv_strne {x y : Operand} {t u : TypeId} {a b : List UInt8} (hx : ev n S x = .string (bs a)) (hy : ev n S y = .string (bs b)) :
  pev P (execOp (ev n S) ⟨d, .binOp .neq t x y u, ty, ps, af, none⟩) = some (.value (.bool (!decide (a = b)))) := by
 simp only [execOp, hx, hy]
 refine (wY (a := .bool (!decide (a = b))) ?_).trans rfl
 refine (wK (a := ()) rfl).trans ?_
 show pev P (Op.stringOp .neq (bs a) (bs b)) = _
 unfold Op.stringOp
 simp only [bs_toList]
 have : (a == b) = decide (a = b) := by rw [Bool.eq_iff_iff]; simp
 rw [this]
 rfl
theorem zF {x : Operand} {t : TypeId} {a : List UInt8} (hx : ev n S x = .string (bs a)) (ht : pev P (underlying t) = some .string) : pev P (execOp (ev n S) ⟨d, .call ⟨.builtin .len, #[x], #[t]⟩, ty, ps, af, none⟩) = some (.value (.int .i64 a.length)) := by
 rw [exec_builtin (xs := [x]) (vs := [.string (bs a)]) (by simp [hx])]
 refine (wY (a := .int .i64 a.length) ?_).trans rfl
 exact (wY ht).trans rfl
theorem pv_stridx {x y : Operand} {t : TypeId} {a : List UInt8} {q : IntKind} {i' : Int} {c : UInt8} (i : Nat) (hx : ev n S x = .string (bs a)) (hy : ev n S y = .int q i') (ei : i' = i) (ht : pev P (underlying t) = some .string) (hc : a[i]? = some c) :
  pev P (execOp (ev n S) ⟨d, .index t x y, ty, ps, af, none⟩) = some (.value (.int .u8 c.toNat)) := by
 subst ei
 simp only [execOp, hx, hy]
 refine (wY (a := .int .u8 c.toNat) ?_).trans rfl
 unfold Instr.index
 refine (wK (a := (q, (i : Int))) rfl).trans ?_
 refine (wK ht).trans ?_
 simp only
 rw [if_pos (by omega)]
 have : (bs a)[(i : Int).toNat]? = some c := by
  obtain ⟨hl, e⟩ := List.getElem?_eq_some_iff.1 hc
  rw [Int.toNat_natCast, getElem?_pos (bs a) i hl, ← e]
  rfl
 rw [this]
 rfl
theorem pv_strcut {x : Operand} {lo hi : Option Operand} {t : TypeId} {a : List UInt8} (i j : Nat) (hx : ev n S x = .string (bs a)) (ht : pev P (underlying t) = some .string)
  (hl : (lo = none ∧ i = 0) ∨ ∃ y q, lo = some y ∧ ev n S y = .int q (i : Int)) (hh : (hi = none ∧ j = a.length) ∨ ∃ y q, hi = some y ∧ ev n S y = .int q (j : Int)) (hij : i ≤ j) (hja : j ≤ a.length) :
  pev P (execOp (ev n S) ⟨d, .slice t x lo hi none, ty, ps, af, none⟩) = some (.value (.string (bs ((a.take j).drop i)))) := by
 have core : ∀ (l h : Option Value), ((l = none ∧ i = 0) ∨ ∃ q, l = some (.int q (i : Int))) → ((h = none ∧ j = a.length) ∨ ∃ q, h = some (.int q (j : Int))) → pev P (Instr.sliceAt t (.string (bs a)) l h none) = some (.string (bs ((a.take j).drop i))) := by
  intro l h hl hh
  unfold Instr.sliceAt
  refine (wK ht).trans ?_
  simp only
  unfold Instr.slice
  refine (wK ht).trans ?_
  simp only [Option.isSome, Bool.false_eq_true, if_false]
  have hb : pev P (Instr.sliceBounds false (bs a).size (bs a).size l h none) = some (i, j, (bs a).size) := by
   have bnd : ∀ (q : IntKind) (k y : Nat) (code : BoundsCode), k ≤ y → pev P (Instr.sliceBound (.int q (k : Int)) y code) = some k := by
    intro q k y code hk
    unfold Instr.sliceBound
    refine (wK (a := (q, (k : Int))) rfl).trans ?_
    simp only
    rw [if_pos ⟨by omega, by omega⟩]
    rfl
   unfold Instr.sliceBounds
   refine (wK (a := (bs a).size) rfl).trans ?_
   rcases hh with ⟨rfl, rfl⟩ | ⟨q, rfl⟩
   ·refine (wK (a := a.length) rfl).trans ?_
    rcases hl with ⟨rfl, rfl⟩ | ⟨q, rfl⟩
    ·refine (wK (a := 0) rfl).trans ?_
     rfl
    ·refine (wK (bnd q i _ _ hij)).trans ?_
     rfl
   ·refine (wK (bnd q j _ _ hja)).trans ?_
    rcases hl with ⟨rfl, rfl⟩ | ⟨q, rfl⟩
    ·refine (wK (a := 0) rfl).trans ?_
     rfl
    ·refine (wK (bnd q i _ _ hij)).trans ?_
     rfl
  refine (wK hb).trans ?_
  show pev P (pure (Value.string ((bs a).extract i j))) = _
  rw [bs_ext]
  rfl
 simp only [execOp, hx]
 refine (wY (a := .string (bs ((a.take j).drop i))) ?_).trans rfl
 refine core _ _ ?_ ?_
 ·rcases hl with ⟨rfl, h⟩ | ⟨y, q, rfl, h⟩
  ·exact .inl ⟨rfl, h⟩
  ·exact .inr ⟨q, by rw [Option.map_some, h]⟩
 ·rcases hh with ⟨rfl, h⟩ | ⟨y, q, rfl, h⟩
  ·exact .inl ⟨rfl, h⟩
  ·exact .inr ⟨q, by rw [Option.map_some, h]⟩
end
end Go.HL
namespace Go.HL
open Go
variable [Lvl]
theorem wrL_mid : ∀ (c pre j : List Value), c.length ≤ j.length → wrL (pre ++ j) pre.length c = pre ++ c ++ j.drop c.length
 | [], pre, j, _ => by simp [wrL]
 | v :: c, pre, [], h => absurd h (by simp)
 | v :: c, pre, x :: j, h => by
  have e : (pre ++ x :: j).set pre.length v = (pre ++ [v]) ++ j := by simp
  have ih := wrL_mid c (pre ++ [v]) j (by simpa using h)
  rw [List.length_append, List.length_singleton] at ih
  rw [wrL, e, ih]
  simp
def rowP : Nat → List (List Value) → List (Nat × Value)
 | _, [] => []
 | k, c :: els => (k, .agg c.toArray) :: rowP (k + 1) els
theorem fill_row {m : Nat} : ∀ (els : List (List Value)) (k : Nat) (pre j : List Value), (∀ c ∈ els, c.length = m) → pre.length = k * m → j.length = els.length * m → fillL (fun i => some (i * m, m)) (pre ++ j) (rowP k els) = some (pre ++ els.flatMap id)
 | [], k, pre, j, _, _, hj => by
  have : j = [] := List.length_eq_zero_iff.1 (by simpa using hj)
  subst this
  rfl
 | c :: els, k, pre, j, hm, hp, hj => by
  have hc := hm c (List.mem_cons_self ..)
  have hj' : j.length = els.length * m + m := by rw [hj, List.length_cons, Nat.add_mul, Nat.one_mul]
  have e1 : ((Value.agg c.toArray).cells.size == m && Nat.ble (k * m + m) (pre ++ j).length) = true := by
   rw [Bool.and_eq_true]
   refine ⟨by show (c.toArray.size == m) = true; simp [hc], Nat.ble_eq_true_of_le ?_⟩
   rw [List.length_append]
   omega
  have e2 : wrL (pre ++ j) (k * m) (Value.agg c.toArray).cells.toList = (pre ++ c) ++ j.drop m := by
   rw [← hp, show (Value.agg c.toArray).cells.toList = c from rfl, wrL_mid c pre j (by omega), hc]
  rw [rowP, fillL]
  simp only
  rw [if_pos e1, e2]
  rw [fill_row els (k + 1) (pre ++ c) (j.drop m) (fun x hx => hm x (List.mem_cons_of_mem _ hx)) (by rw [List.length_append, hp, hc, Nat.add_mul, Nat.one_mul]) (by rw [List.length_drop, hj']; omega)]
  simp
variable {P : Program} {n : Nat} {ops : Array Oper} {os : List Oper} {K : Sl → Pv → AH → Prop} {E : Value → Sl → Pv → AH → Prop} {S : Sl} {L : Pv} {h : AH} {d : Option Tmp} {ty : TypeId} {ps : String} {af : Array Edge}
theorem op_buildSliceR (els : List (List Value)) {t e : TypeId} {m len : Nat} {z : Value} {zc : List Value} {pts : List (Nat × Operand)} (ht : pev P (underlying t) = some (.slice e)) (hs : pev P (sizeOf e) = some m)
  (hz : pev P (zeroValue e) = some z) (hzc : z.cells = zc.toArray) (hl : Nat.ble (len * m) 16777216 = true) (hn : els.length = len) (hm : els.all (fun c => c.length == m) = true) (hv : pts.map (fun q => (q.1, ev n S q.2)) = rowP 0 els)
  (k : ∀ b, wl h L b = none → wpL P n ops os K E (put S d (.slice (some ⟨b, 0, none⟩) len len)) (L ++ [some (b, .cells (els.flatMap id).toArray e (0, 0))]) h) : wpL P n ops (⟨d, .buildSlice t len pts.toArray, ty, ps, af, none⟩ :: os) K E S L h := by
 refine qX ht hs hz hzc hl hv ?_ k
 have := fill_row (m := m) els 0 [] ((List.range (len * m)).map fun i => zc[i % zc.length]!) (fun c hc => by have := List.all_eq_true.1 hm c hc; simpa using this) (by simp) (by simp [hn])
 simpa using this
end Go.HL
namespace Go.Rd
open Go Go.HL Go.Wx
variable [Lvl]
inductive FaultP
 | shut (i : Nat)
 | opn (i : Nat)
 | pin (i : Nat)
 | link (i : Nat)
 deriving DecidableEq
structure BrkP where
 pins : List PinP
 links : List LinkP
 stay : Nat
 dumb : Nat
def lagP (ps : List PinP) (i : Nat) (t : Int) : List PinP := match ps[i]? with | some p => ps.set i ⟨p.rod, p.lever, t⟩ | none => ps
def lagL (ls : List LinkP) (i : Nat) (t : Int) : List LinkP := match ls[i]? with | some x => ls.set i ⟨x.frm, x.to, x.reg, t⟩ | none => ls
theorem lagP_len (ps : List PinP) (i : Nat) (t : Int) : (lagP ps i t).length = ps.length := by unfold lagP; split <;> simp
theorem lagL_len (ls : List LinkP) (i : Nat) (t : Int) : (lagL ls i t).length = ls.length := by unfold lagL; split <;> simp
def brkS (t : Int) (b : BrkP) : FaultP → BrkP
 | .shut i => ⟨b.pins, b.links, b.stay, withM b.dumb i⟩
 | .opn i => ⟨b.pins, b.links, withM b.stay i, b.dumb⟩
 | .pin i => ⟨lagP b.pins i t, b.links, b.stay, b.dumb⟩
 | .link i => ⟨b.pins, lagL b.links i t, b.stay, b.dumb⟩
def brkF (m : MachP) (l : List FaultP) : BrkP := l.foldl (brkS m.travel) ⟨m.pins, m.links, 0, 0⟩
def brkM (m : MachP) (l : List FaultP) : MachP := { m with pins := (brkF m l).pins, links := (brkF m l).links }
def FOK (m : MachP) : FaultP → Prop
 | .shut i => (i : Int) < m.levers
 | .opn i => (i : Int) < m.levers
 | .pin i => i < m.pins.length
 | .link i => i < m.links.length
theorem brkF_take {m : MachP} {l : List FaultP} {k : Nat} (hk : k < l.length) : brkF m (l.take (k + 1)) = brkS m.travel (brkF m (l.take k)) l[k] := by
 unfold brkF
 rw [List.take_add_one, List.getElem?_eq_getElem hk, Option.toList_some, List.foldl_append]
 rfl
theorem brkF_inv {m : MachP} {I : BrkP → Prop} (h0 : I ⟨m.pins, m.links, 0, 0⟩) : ∀ {l : List FaultP}, (∀ b f, f ∈ l → I b → I (brkS m.travel b f)) → I (brkF m l) := by
 intro l
 unfold brkF
 generalize (⟨m.pins, m.links, 0, 0⟩ : BrkP) = b at h0 ⊢
 induction l generalizing b with
 | nil => intro _; exact h0
 | cons f l ih => intro hs; exact ih _ (hs b f (List.mem_cons_self ..) h0) (fun b f hf => hs b f (List.mem_cons_of_mem _ hf))
theorem brk_pl (m : MachP) (l : List FaultP) : (brkF m l).pins.length = m.pins.length := brkF_inv (I := fun b => b.pins.length = m.pins.length) rfl fun b f _ h => by
 cases f <;> simp only [brkS, lagP_len] <;> exact h
theorem brk_ll (m : MachP) (l : List FaultP) : (brkF m l).links.length = m.links.length := brkF_inv (I := fun b => b.links.length = m.links.length) rfl fun b f _ h => by
 cases f <;> simp only [brkS, lagL_len] <;> exact h
theorem brk_bits {m : MachP} (hl : m.levers ≤ 6) {l : List FaultP} (hf : ∀ f ∈ l, FOK m f) : (brkF m l).stay < 2 ^ 6 ∧ (brkF m l).dumb < 2 ^ 6 := brkF_inv (I := fun b => b.stay < 2 ^ 6 ∧ b.dumb < 2 ^ 6) ⟨by show 0 < 2 ^ 6; decide, by show 0 < 2 ^ 6; decide⟩ fun b f hm h => by
 have hk := hf f hm
 have up : ∀ {s i : Nat}, s < 2 ^ 6 → (i : Int) < m.levers → withM s i < 2 ^ 6 := fun {s i} hs hi => Nat.or_lt_two_pow hs (Nat.pow_lt_pow_right (by omega) (by omega))
 cases f with
 | shut i => exact ⟨h.1, up h.2 hk⟩
 | opn i => exact ⟨up h.1 hk, h.2⟩
 | pin i => exact h
 | link i => exact h
theorem lagP_mem {ps : List PinP} {i : Nat} {t : Int} {q : PinP} (h : q ∈ lagP ps i t) : q ∈ ps ∨ ∃ p ∈ ps, q = ⟨p.rod, p.lever, t⟩ := by
 unfold lagP at h
 split at h
 ·rename_i p hp
  rcases List.mem_or_eq_of_mem_set h with h | h
  ·exact .inl h
  ·exact .inr ⟨p, List.mem_of_getElem? hp, h⟩
 ·exact .inl h
theorem lagL_mem {ls : List LinkP} {i : Nat} {t : Int} {q : LinkP} (h : q ∈ lagL ls i t) : q ∈ ls ∨ ∃ p ∈ ls, q = ⟨p.frm, p.to, p.reg, t⟩ := by
 unfold lagL at h
 split at h
 ·rename_i p hp
  rcases List.mem_or_eq_of_mem_set h with h | h
  ·exact .inl h
  ·exact .inr ⟨p, List.mem_of_getElem? hp, h⟩
 ·exact .inl h
theorem brk_mok {m : MachP} (M : MOK m) (l : List FaultP) : MOK (brkM m l) := by
 have tr := M.travel
 have I := brkF_inv (m := m) (l := l) (I := fun b => (∀ p ∈ b.pins, (0 ≤ p.rod ∧ p.rod < m.rods) ∧ (0 ≤ p.lever ∧ p.lever < m.levers) ∧ (0 ≤ p.lag ∧ p.lag ≤ m.travel)) ∧ (∀ x ∈ b.links, (0 ≤ x.frm ∧ x.frm < m.rods) ∧ (0 ≤ x.to ∧ x.to < m.rods) ∧ x.frm ≠ x.to ∧ (-1 ≤ x.reg ∧ x.reg < m.regs) ∧ (1 ≤ x.lag ∧ x.lag ≤ m.travel))) ⟨M.pin, M.link⟩ (fun b f _ h => by
  cases f with
  | shut i => exact h
  | opn i => exact h
  | pin i =>
   refine ⟨fun q hq => ?_, h.2⟩
   rcases lagP_mem hq with hq | ⟨p, hp, rfl⟩
   ·exact h.1 q hq
   ·obtain ⟨a, b, _⟩ := h.1 p hp
    exact ⟨a, b, by show 0 ≤ m.travel; omega, Int.le_refl _⟩
  | link i =>
   refine ⟨h.1, fun q hq => ?_⟩
   rcases lagL_mem hq with hq | ⟨p, hp, rfl⟩
   ·exact h.2 q hq
   ·obtain ⟨a, b, c, d, _⟩ := h.2 p hp
    exact ⟨a, b, c, d, tr.1, Int.le_refl _⟩)
 exact ⟨M.rods, M.levers, M.regs, M.travel, M.opn, M.bl, M.btn, by rw [show (brkM m l).pins = (brkF m l).pins from rfl, brk_pl]; exact M.pl, I.1, by rw [show (brkM m l).links = (brkF m l).links from rfl, brk_ll]; exact M.ll, I.2, M.wl, M.wt⟩
theorem brk_hok {m : MachP} {a : HandP} (H : HOK m a) (l : List FaultP) : HOK (brkM m l) a := ⟨H.b, H.o⟩
def soundsB (m : MachP) (l : List FaultP) (a : HandP) : Nat := (soundsM (brkM m l) a m.travel ||| (brkF m l).stay) &&& (2 ^ 64 - 1 - (brkF m l).dumb)
theorem pin_wr {junk : List Value} {t : Int} : ∀ {l : List PinP} {k : Nat}, k < l.length → wrL (l.flatMap pinC ++ junk) (k * 3 + 2) [.int .i64 t] = (lagP l k t).flatMap pinC ++ junk
 | [], _, h => by simp at h
 | p :: l, 0, _ => by simp [wrL, lagP, pinC]
 | p :: l, k + 1, h => by
  have ih := pin_wr (junk := junk) (t := t) (l := l) (k := k) (by simpa using h)
  have hk : k < l.length := by simpa using h
  have e : lagP (p :: l) (k + 1) t = p :: lagP l k t := by
   unfold lagP
   simp [List.getElem?_eq_getElem hk]
  rw [e, List.flatMap_cons, List.flatMap_cons, List.append_assoc, List.append_assoc, ← ih]
  rw [show (k + 1) * 3 + 2 = (k * 3 + 2) + 1 + 1 + 1 by omega]
  simp [wrL, pinC]
theorem link_wr {junk : List Value} {t : Int} : ∀ {l : List LinkP} {k : Nat}, k < l.length → wrL (l.flatMap linkC ++ junk) (k * 4 + 3) [.int .i64 t] = (lagL l k t).flatMap linkC ++ junk
 | [], _, h => by simp at h
 | p :: l, 0, _ => by simp [wrL, lagL, linkC]
 | p :: l, k + 1, h => by
  have ih := link_wr (junk := junk) (t := t) (l := l) (k := k) (by simpa using h)
  have hk : k < l.length := by simpa using h
  have e : lagL (p :: l) (k + 1) t = p :: lagL l k t := by
   unfold lagL
   simp [List.getElem?_eq_getElem hk]
  rw [e, List.flatMap_cons, List.flatMap_cons, List.append_assoc, List.append_assoc, ← ih]
  rw [show (k + 1) * 4 + 3 = (k * 4 + 3) + 1 + 1 + 1 + 1 by omega]
  simp [wrL, linkC]
end Go.Rd
namespace Go.Rd
open Go Go.HL Go.Wx
def choP {α : Type} (f : Nat → List α) (a d : Nat) : List α := (List.range' a d).flatMap f
theorem choP_zero {α : Type} (f : Nat → List α) (a : Nat) : choP f a 0 = [] := rfl
theorem choP_succ {α : Type} (f : Nat → List α) (a d : Nat) : choP f a (d + 1) = choP f a d ++ f (a + d) := by
 unfold choP
 rw [List.range'_concat, List.flatMap_append]
 simp
theorem choP_at {α : Type} {f : Nat → List α} {a d N : Nat} (hd : d < N) {j : Nat} {s : α} (h : (f (a + d))[j]? = some s) : (choP f a N)[(choP f a d).length + j]? = some s := by
 obtain ⟨r, rfl⟩ : ∃ r, N = (d + 1) + r := ⟨N - (d + 1), by omega⟩
 have e : choP f a (d + 1 + r) = choP f a (d + 1) ++ (List.range' (a + (d + 1)) r).flatMap f := by
  unfold choP
  rw [← List.flatMap_append, List.range'_append_1]
 rw [e, choP_succ, List.append_assoc, List.getElem?_append_right (by omega), Nat.add_sub_cancel_left, List.getElem?_append_left (List.getElem?_eq_some_iff.1 h).1]
 exact h
def choM (n : Nat) : Nat → Nat → List Int → List (List Int)
 | 0, _, l => [l]
 | m + 1, a, l => choP (fun i => choM n m (i + 1) (l ++ [(i : Int)])) a (n - a)
def setsM (n : Nat) : List (List Int) := choP (fun m => choM n m 0 []) 0 (n + 1)
theorem choP_mem {α : Type} {f : Nat → List α} {a d : Nat} {x : α} : x ∈ choP f a d ↔ ∃ i, a ≤ i ∧ i < a + d ∧ x ∈ f i := by
 unfold choP
 simp only [List.mem_flatMap, List.mem_range'_1]
 constructor
 ·rintro ⟨i, ⟨h1, h2⟩, h3⟩; exact ⟨i, h1, h2, h3⟩
 ·rintro ⟨i, h1, h2, h3⟩; exact ⟨i, ⟨h1, h2⟩, h3⟩
theorem choM_set {n : Nat} : ∀ {m a : Nat} {l x : List Int}, x ∈ choM n m a l → SetOK l n → (∀ z ∈ l, z < a) → SetOK x n ∧ x.length = l.length + m
 | 0, a, l, x, h, s, _ => by
  simp only [choM, List.mem_singleton] at h
  subst h
  exact ⟨s, rfl⟩
 | m + 1, a, l, x, h, s, hl => by
  unfold choM at h
  obtain ⟨i, h1, h2, h3⟩ := choP_mem.1 h
  have s2 : SetOK (l ++ [(i : Int)]) n := by
   refine ⟨fun z hz => ?_, ?_⟩
   ·rcases List.mem_append.1 hz with hz | hz
    ·exact s.mem z hz
    ·simp at hz; subst hz; omega
   ·rw [List.pairwise_append]
    refine ⟨s.asc, by simp, fun z hz w hw => ?_⟩
    simp at hw; subst hw
    have := hl z hz
    omega
  obtain ⟨s3, e⟩ := choM_set h3 s2 (fun z hz => by
   rcases List.mem_append.1 hz with hz | hz
   ·have := hl z hz; omega
   ·simp at hz; subst hz; omega)
  exact ⟨s3, by rw [e, List.length_append]; simp; omega⟩
theorem set_nil (k : Int) : SetOK [] k := ⟨fun _ h => absurd h List.not_mem_nil, List.Pairwise.nil⟩
theorem setsM_set {n : Nat} {x : List Int} (h : x ∈ setsM n) : SetOK x n := by
 obtain ⟨m, _, _, h⟩ := choP_mem.1 h
 exact (choM_set h (set_nil _) (fun _ h => absurd h List.not_mem_nil)).1
end Go.Rd
namespace Go.Rd
open Go Go.HL Go.Wx
end Go.Rd
namespace Go.Wx
open Go Go.HL
variable [Lvl]
end Go.Wx
namespace Go.HL
open Go Go.Wx
variable [Lvl]
section
variable {P : Program} {n : Nat} {d : Option Tmp} {ty : TypeId} {ps : String} {af : Array Edge} {S : Sl}
theorem pv_sliceALH {x : Operand} {lo hi : Option Operand} {t e : TypeId} {len m g off : Nat} (i j : Nat) {l' c' : Nat} {A' : Addr} (hx : ev n S x = .pointer (some ⟨g, off, none⟩))
  (hl : (lo = none ∧ i = 0) ∨ ∃ y q, lo = some y ∧ ev n S y = .int q (i : Int)) (hh : (hi = none ∧ j = len) ∨ ∃ y q, hi = some y ∧ ev n S y = .int q (j : Int))
  (ht : pev P (underlying t) = some (.array len e)) (hs : pev P (sizeOf e) = some m) (hij : i ≤ j) (hj : j ≤ len) (hil : i < len) (eA : (⟨g, off + i * m, none⟩ : Addr) = A') (el : j - i = l') (ec : len - i = c') :
  pev P (execOp (ev n S) ⟨d, .slice t x lo hi none, ty, ps, af, none⟩) = some (.value (.slice (some A') l' c')) := by
 subst eA el ec
 have core : ∀ (l h : Option Value), ((l = none ∧ i = 0) ∨ ∃ q, l = some (.int q (i : Int))) → ((h = none ∧ j = len) ∨ ∃ q, h = some (.int q (j : Int))) → pev P (Instr.sliceAt t (.pointer (some ⟨g, off, none⟩)) l h none) = some (.slice (some ⟨g, off + i * m, none⟩) (j - i) (len - i)) := by
  intro l h hl hh
  unfold Instr.sliceAt
  refine (wK ht).trans ?_
  simp only
  refine (wK (a := ⟨g, off, none⟩) rfl).trans ?_
  have hb : pev P (Instr.sliceBounds false len len l h none) = some (i, j, len) := by
   have bnd : ∀ (q : IntKind) (k y : Nat) (code : BoundsCode), k ≤ y → pev P (Instr.sliceBound (.int q (k : Int)) y code) = some k := by
    intro q k y code hk
    unfold Instr.sliceBound
    refine (wK (a := (q, (k : Int))) rfl).trans ?_
    simp only
    rw [if_pos ⟨by omega, by omega⟩]
    rfl
   unfold Instr.sliceBounds
   refine (wK (a := len) rfl).trans ?_
   rcases hh with ⟨rfl, rfl⟩ | ⟨q, rfl⟩
   ·refine (wK (a := j) rfl).trans ?_
    rcases hl with ⟨rfl, rfl⟩ | ⟨q, rfl⟩
    ·exact (wK (a := 0) rfl).trans rfl
    ·exact (wK (bnd q i _ _ hij)).trans rfl
   ·refine (wK (bnd q j _ _ hj)).trans ?_
    rcases hl with ⟨rfl, rfl⟩ | ⟨q, rfl⟩
    ·exact (wK (a := 0) rfl).trans rfl
    ·exact (wK (bnd q i _ _ hij)).trans rfl
  refine (wK hb).trans ?_
  simp only
  refine (wK hs).trans ?_
  rw [if_neg (show ¬ len = i by omega), add_none]
  rfl
 simp only [execOp, hx]
 refine (wY (a := .slice (some ⟨g, off + i * m, none⟩) (j - i) (len - i)) ?_).trans rfl
 refine core _ _ ?_ ?_
 ·rcases hl with ⟨rfl, h⟩ | ⟨y, q, rfl, h⟩
  ·exact .inl ⟨rfl, h⟩
  ·exact .inr ⟨q, by rw [Option.map_some, h]⟩
 ·rcases hh with ⟨rfl, h⟩ | ⟨y, q, rfl, h⟩
  ·exact .inl ⟨rfl, h⟩
  ·exact .inr ⟨q, by rw [Option.map_some, h]⟩
end
theorem strE {a b : List UInt8} (e : a = b) : Value.string (bs a) = Value.string (bs b) := by rw [e]
def byC (b : UInt8) : List Value := [.int .u8 b.toNat]
theorem dem_push {P : Program} {h : AH} {K : ByteArray → AH → Prop} {E : Value → AH → Prop} {f : Value → ByteArray → Sem (ForInStep ByteArray)}
  (hf : ∀ (b : UInt8) (s : ByteArray), f (.int .u8 b.toNat) s = Sem.pure (.yield (s.push (UInt8.ofNat (Int.toNat b.toNat))))) :
  ∀ (l p : List UInt8), K (bs (p ++ l)) h → dem P (forIn (m := Sem) (l.flatMap byC) (bs p) f) h K E := by
 intro l
 induction l with
 | nil => intro p k; rw [List.append_nil] at k; exact k
 | cons b l ih =>
  intro p k
  rw [List.flatMap_cons]
  show dem P (forIn (m := Sem) (Value.int .u8 b.toNat :: l.flatMap byC) (bs p) f) h K E
  rw [List.forIn_cons, hf]
  show dem P (forIn (m := Sem) (l.flatMap byC) ((bs p).push (UInt8.ofNat (Int.toNat b.toNat))) f) h K E
  have e : (bs p).push (UInt8.ofNat (Int.toNat b.toNat)) = bs (p ++ [b]) := by
   have : UInt8.ofNat (Int.toNat b.toNat) = b := by rw [Int.toNat_natCast]; exact UInt8.ofNat_toNat
   rw [this]
   apply ByteArray.ext
   show (Array.mk p).push b = _
   simp
  rw [e]
  exact ih _ (by rw [List.append_assoc]; exact k)
section
variable {P : Program} {n : Nat} {ops : Array Oper} {os : List Oper} {K : Sl → Pv → AH → Prop} {E : Value → Sl → Pv → AH → Prop} {S : Sl} {L : Pv} {h : AH} {d : Option Tmp} {ty : TypeId} {ps : String} {af : Array Edge}
theorem op_b2s {sT dT e : TypeId} {x : Operand} {A : Option Addr} {len cap : Nat} (l : List UInt8) (hx : ev n S x = .slice A len cap) (hl : l.length = len) (hr : Valid h L → Rd (wl h L) A (l.flatMap byC))
  (h1 : pev P (underlying sT) = some (.slice e)) (h2 : pev P (underlying dT) = some .string) (h3 : pev P (underlying e) = some (.int .u8))
  (k : wpL P n ops os K E (put S d (.string (bs l))) L h) : wpL P n ops (⟨d, .convert sT dT x, ty, ps, af, none⟩ :: os) K E S L h := by
 refine op_of fun V => ?_
 unfold opW
 simp only [execOp, hx]
 refine wM (wG h1 (wG h2 ?_))
 simp only
 refine wG h3 ?_
 simp only
 unfold Conv.bytesToString
 have fin : ∃ L' h', wl h L = wl h' L' ∧ Valid h' L' ∧ wpL P n ops os K E (put S d (.string (bs l))) L' h' := ⟨L, h, rfl, V, k⟩
 cases A with
 | none =>
  simp only
  have e0 : l = [] := by
   rcases l with _ | ⟨b, l⟩
   ·rfl
   ·obtain ⟨_, _, e, _⟩ := hr V (by simp [byC])
    cases e
  subst e0
  exact fin
 | some a =>
  simp only
  have fl : (l.flatMap byC).length = len := by rw [wU (m := 1) (fun _ _ => rfl), Nat.mul_one, hl]
  have rc : dem P (loadCells a len) (wl h L) (fun cs H => cs = (l.flatMap byC).toArray ∧ H = wl h L) (fun v H => ∃ L' h', H = wl h' L' ∧ Valid h' L' ∧ E v S L' h') := by
   have := rd_cells (P := P) (c := cap) (m := 1) (k := len) (l := len) (E := fun v H => ∃ L' h', H = wl h' L' ∧ Valid h' L' ∧ E v S L' h') (hr V) (by rw [fl, Nat.mul_one]) (K := fun cs H => cs = (l.flatMap byC).toArray ∧ H = wl h L) ⟨rfl, rfl⟩
   unfold Builtin.firstCells at this
   rw [Nat.mul_one] at this
   exact this
  refine wM (dem_mono ?_ (fun _ _ x => x) rc)
  rintro _ _ ⟨rfl, rfl⟩
  rw [List.forIn_toArray]
  refine wM (dem_push (fun b s => rfl) l [] ?_)
  exact fin
end
end Go.HL
namespace Go.Rd
def dig (k : Nat) : UInt8 := UInt8.ofNat (48 + k)
def natL (n : Nat) : List UInt8 := if n < 10 then [dig n] else if n < 100 then [dig (n / 10), dig (n % 10)] else [dig (n / 100), dig (n / 10 % 10), dig (n % 10)]
def itoaL (n : Int) : List UInt8 := if n < 0 then 45 :: natL n.natAbs else natL n.toNat
def digitsL : List UInt8 := [48, 49, 50, 51, 52, 53, 54, 55, 56, 57, 97, 98, 99, 100, 101, 102, 103, 104, 105, 106, 107, 108, 109, 110, 111, 112, 113, 114, 115, 116, 117, 118, 119, 120, 121, 122]
def smallsL : List UInt8 := (List.range 100).flatMap fun k => [dig (k / 10), dig (k % 10)]
theorem digits_cut : ∀ i, i < 10 → (digitsL.take (i + 1)).drop i = natL i := by decide +kernel
theorem smalls_cut : ∀ i, i < 100 → 10 ≤ i → (smallsL.take (i * 2 + 2)).drop (i * 2) = natL i := by decide +kernel
theorem smalls_len : smallsL.length = 200 := by decide +kernel
theorem natL_len {n : Nat} : (natL n).length ≤ 3 := by
 unfold natL
 split
 ·exact Nat.le_add_left 1 2
 ·split
  ·exact Nat.le_add_left 2 1
  ·exact Nat.le_refl 3
theorem itoaL_len {n : Int} : (itoaL n).length ≤ 4 := by
 unfold itoaL
 split
 ·exact Nat.succ_le_succ natL_len
 ·exact Nat.le_trans natL_len (by decide)
end Go.Rd
namespace Go.Proofs.YtmpahfdiebhdbaaGreatDoor
open Go Go.HL Go.Proofs Go.Wx Go.Rd
section
variable [Lvl]
set_option maxRecDepth 100000
theorem small_ok (n : Nat) (h : AH) (hn : n < 100) : FnT Tryz.prog 101 #[.int .i64 (n : Int)] h (fun v _ => v = .string (bs (natL n))) := by
 refine wH Tryz.func101 rfl Tryz.ntmps101 rfl ?_
 refine qE ?_
 refine qB rfl ?_
 refine qA (qD (v := .string _) rfl) ?_
 refine qE ?_
 refine qE ?_
 refine qB rfl ?_
 refine qA (qC (v := .int .i64 _) rfl) ?_
 refine qA (qK (v := .bool _) rfl) ?_
 refine qP rfl (fun hc => ?_) (fun hc => ?_)
 ·skip
  have hc' : n < 10 := by have := of_decide_eq_true hc; omega
  refine qE ?_
  refine qB rfl ?_
  refine qA (qC (v := .int .i64 _) rfl) ?_
  refine qA (qC (v := .int .i64 _) rfl) ?_
  refine qA (qS rfl (by omega)) ?_
  refine qA (pv_strcut (a := digitsL) n (n + 1) rfl rfl (.inr ⟨_, _, rfl, rfl⟩) (.inr ⟨_, _, rfl, by push_cast; rfl⟩) (by omega) (by show n + 1 ≤ 36; omega)) ?_
  refine qA (qD (v := .string _) rfl) ?_
  refine qQ ?_
  refine qM (vs := [_]) Tryz.results101 ⟨qJ rfl rfl, trivial⟩ fun V => ?_
  exact ⟨(qR V), strE (digits_cut n hc')⟩
 ·skip
  have hc' : ¬ n < 10 := by have := of_decide_eq_false hc; omega
  refine qO ?_
  refine qE ?_
  refine qB rfl ?_
  refine qA (qC (v := .int .i64 _) rfl) ?_
  refine qA (qS rfl (by omega)) ?_
  refine qA (qC (v := .int .i64 _) rfl) ?_
  refine qA (qS rfl (by omega)) ?_
  refine qA (qS rfl (by omega)) ?_
  refine qA (pv_strcut (a := smallsL) (n * 2) (n * 2 + 2) rfl rfl (.inr ⟨_, _, rfl, by push_cast; rfl⟩) (.inr ⟨_, _, rfl, by push_cast; rfl⟩) (by omega) (by rw [smalls_len]; omega)) ?_
  refine qA (qD (v := .string _) rfl) ?_
  refine qQ ?_
  refine qM (vs := [_]) Tryz.results101 ⟨qJ rfl rfl, trivial⟩ fun V => ?_
  exact ⟨(qR V), strE (smalls_cut n hn (by omega))⟩
def Pow (h : AH) : Prop := Rd h (some ⟨3, 0, none⟩) ((List.range 4).map fun i => Value.int .u64 ((10 ^ i : Nat) : Int))
theorem Pow.ext {h h' : AH} (p : Pow h) (E : Ext h h') : Pow h' := Rd.ext p E
end
end Go.Proofs.YtmpahfdiebhdbaaGreatDoor
namespace Go.HL
open Go Go.Wx
def cntB (c : UInt8) (l : List UInt8) : Nat := l.foldl (fun n x => if x == c then n + 1 else n) 0
def idxO (c : UInt8) (l : List UInt8) : Option Nat := (List.range l.length).find? fun i => l.getD i 0 == c
def idxI (c : UInt8) (l : List UInt8) : Int := match idxO c l with | some i => i | none => -1
def splitL (c : UInt8) : List UInt8 → List (List UInt8)
 | [] => [[]]
 | b :: l => if b == c then [] :: splitL c l else match splitL c l with | [] => [[b]] | x :: xs => (b :: x) :: xs
theorem splitL_cons (c b : UInt8) (l : List UInt8) : splitL c (b :: l) = if b == c then [] :: splitL c l else match splitL c l with | [] => [[b]] | x :: xs => (b :: x) :: xs := by
 conv => lhs; unfold splitL
theorem splitL_ne (c : UInt8) : ∀ l, splitL c l ≠ []
 | [] => by simp [splitL]
 | b :: l => by
  unfold splitL
  split
  ·simp
  ·split <;> simp
theorem idxO_some {c : UInt8} {l : List UInt8} {i : Nat} (h : idxO c l = some i) : i < l.length ∧ l.getD i 0 = c ∧ ∀ j, j < i → l.getD j 0 ≠ c := by
 unfold idxO at h
 obtain ⟨h1, a, b, h2, h3⟩ := List.find?_eq_some_iff_append.1 h
 have hi : i ∈ List.range l.length := by rw [h2]; simp
 have hl := List.mem_range.1 hi
 refine ⟨hl, by simpa using h1, fun j hj => ?_⟩
 have ha : a.length = i := by
  have e : (List.range l.length)[a.length]? = some i := by rw [h2]; simp
  obtain ⟨_, e2⟩ := List.getElem?_eq_some_iff.1 e
  simpa using e2
 have hja : j ∈ a := by
  have e : (List.range l.length)[j]? = some j := by rw [List.getElem?_range (by omega)]
  rw [h2, List.getElem?_append_left (by omega)] at e
  exact List.mem_of_getElem? e
 have := h3 j hja
 simpa using this
theorem idxO_none {c : UInt8} {l : List UInt8} (h : idxO c l = none) : c ∉ l := by
 unfold idxO at h
 rw [List.find?_eq_none] at h
 intro hc
 obtain ⟨i, hi, e⟩ := List.mem_iff_getElem.1 hc
 have := h i (List.mem_range.2 hi)
 rw [List.getD_eq_getElem?_getD, List.getElem?_eq_getElem hi, e] at this
 simp at this
theorem splitL_no {c : UInt8} : ∀ {l : List UInt8}, c ∉ l → splitL c l = [l]
 | [], _ => rfl
 | b :: l, h => by
  have hb : (b == c) = false := by
   cases e : b == c with
   | false => rfl
   | true => exact absurd (by rw [← (by simpa using e : b = c)]; exact List.mem_cons_self ..) h
  rw [splitL_cons]
  rw [hb, splitL_no fun hc => h (List.mem_cons_of_mem _ hc)]
  rfl
theorem splitL_app {c : UInt8} : ∀ {a : List UInt8} (l : List UInt8), c ∉ a → splitL c (a ++ c :: l) = a :: splitL c l
 | [], l, _ => by
  show splitL c (c :: l) = _
  rw [splitL_cons]
  rw [if_pos (by simp)]
 | b :: a, l, h => by
  have hb : (b == c) = false := by
   cases e : b == c with
   | false => rfl
   | true => exact absurd (by rw [← (by simpa using e : b = c)]; exact List.mem_cons_self ..) h
  rw [List.cons_append]
  rw [splitL_cons]
  rw [hb, splitL_app l fun hc => h (List.mem_cons_of_mem _ hc)]
  rfl
theorem splitL_at {c : UInt8} {l : List UInt8} {i : Nat} (h : idxO c l = some i) : splitL c l = l.take i :: splitL c (l.drop (i + 1)) := by
 obtain ⟨h1, h2, h3⟩ := idxO_some h
 have e : l = l.take i ++ c :: l.drop (i + 1) := by
  have hd := List.drop_eq_getElem_cons h1
  have hg : l[i] = c := by rw [← h2, List.getD_eq_getElem?_getD, List.getElem?_eq_getElem h1]; rfl
  rw [← hg, ← hd, List.take_append_drop]
 have hn : c ∉ l.take i := by
  intro hc
  obtain ⟨j, hj, e2⟩ := List.mem_iff_getElem.1 hc
  rw [List.length_take] at hj
  refine h3 j (by omega) ?_
  rw [List.getElem_take] at e2
  rw [List.getD_eq_getElem?_getD, List.getElem?_eq_getElem (by omega), e2]
  rfl
 conv => lhs; rw [e]
 exact splitL_app _ hn
theorem cnt_acc (c : UInt8) : ∀ (l : List UInt8) (n : Nat), l.foldl (fun n x => if x == c then n + 1 else n) n = n + cntB c l
 | [], n => rfl
 | b :: l, n => by
  unfold cntB
  rw [List.foldl_cons, List.foldl_cons, cnt_acc c l, cnt_acc c l]
  split <;> omega
theorem splitL_len (c : UInt8) : ∀ l : List UInt8, (splitL c l).length = cntB c l + 1
 | [] => rfl
 | b :: l => by
  have ih := splitL_len c l
  have e : cntB c (b :: l) = (if b == c then 1 else 0) + cntB c l := by
   show (b :: l).foldl _ 0 = _
   rw [List.foldl_cons, cnt_acc]
  rw [splitL_cons]
  rw [e]
  split
  ·rw [List.length_cons, ih]; omega
  ·cases h : splitL c l with
   | nil => exact absurd h (splitL_ne c l)
   | cons x xs => rw [h, List.length_cons] at ih; rw [List.length_cons]; omega
theorem cnt_drop {c : UInt8} {l : List UInt8} {i : Nat} (h : idxO c l = some i) : cntB c l = cntB c (l.drop (i + 1)) + 1 := by
 have h1 := splitL_len c l
 rw [splitL_at h, List.length_cons, splitL_len] at h1
 omega
theorem bs_fold {β : Type} (f : β → UInt8 → β) (l : List UInt8) (b : β) : (bs l).foldl f b = l.foldl f b := by
 have key : ∀ (i j : Nat) (b : β) (hh : l.length ≤ (bs l).size), i + j = l.length → ByteArray.foldlM.loop (m := _root_.Id) (fun b x => pure (f b x)) (bs l) l.length hh i j b = (l.drop j).foldl f b := by
  intro i
  induction i with
  | zero =>
   intro j b hh h
   unfold ByteArray.foldlM.loop
   rw [dif_neg (by omega), List.drop_eq_nil_of_le (by omega)]
   rfl
  | succ i ih =>
   intro j b hh h
   have hj : j < l.length := by omega
   unfold ByteArray.foldlM.loop
   rw [dif_pos hj, List.drop_eq_getElem_cons hj, List.foldl_cons]
   exact ih (j + 1) (f b l[j]) hh (by omega)
 have := key l.length 0 b (Nat.le_refl _) (by omega)
 rw [List.drop_zero] at this
 unfold ByteArray.foldl ByteArray.foldlM
 rw [dif_pos (Nat.le_refl _)]
 exact this
variable [Lvl]
theorem count_pev {P : Program} (l : List UInt8) (c : UInt8) : pev P (Extern.BytealgCount.count #[.string (bs l), .int .u8 c.toNat]) = some (.int .i64 (cntB c l)) := by
 have e : (Int.toNat (c.toNat : Int)).toUInt8 = c := by rw [Int.toNat_natCast]; exact UInt8.ofNat_toNat
 unfold Extern.BytealgCount.count
 refine (wK (a := bs l) rfl).trans ?_
 refine (wK (a := c) (by show some _ = _; rw [e])).trans ?_
 rw [bs_fold]
 have key : ∀ (l : List UInt8) (n : Nat), l.foldl (fun (n : Int) x => if x == c then n + 1 else n) (n : Int) = ((n + cntB c l : Nat) : Int) := by
  intro l
  induction l with
  | nil => intro n; rfl
  | cons b l ih =>
   intro n
   have e2 : cntB c (b :: l) = (if b == c then 1 else 0) + cntB c l := by
    show (b :: l).foldl _ 0 = _
    rw [List.foldl_cons, cnt_acc]
   rw [List.foldl_cons, e2]
   cases b == c
   ·have := ih n
    rw [if_neg (by decide), if_neg (by decide), this, Nat.zero_add]
   ·have := ih (n + 1)
    rw [if_pos rfl, if_pos rfl, ← Nat.add_assoc]
    exact this
 have := key l 0
 rw [Nat.zero_add] at this
 exact congrArg (fun z => some (Value.int .i64 z)) this
theorem index_pev {P : Program} (l : List UInt8) (c : UInt8) : pev P (Extern.BytealgIndexByte.indexByte #[.string (bs l), .int .u8 c.toNat]) = some (.int .i64 (idxI c l)) := by
 have e : (Int.toNat (c.toNat : Int)).toUInt8 = c := by rw [Int.toNat_natCast]; exact UInt8.ofNat_toNat
 have hp : (fun i : Nat => (bs l)[i]! == c) = fun i => l.getD i 0 == c := by
  funext i
  have : (bs l)[i]! = l.getD i 0 := by
   by_cases hl : i < l.length
   ·rw [getElem!_pos (bs l) i hl, List.getD_eq_getElem?_getD, List.getElem?_eq_getElem hl]
    rfl
   ·rw [getElem!_neg (bs l) i hl, List.getD_eq_getElem?_getD, List.getElem?_eq_none (by omega)]
    rfl
  rw [this]
 unfold Extern.BytealgIndexByte.indexByte
 refine (wK (a := bs l) rfl).trans ?_
 refine (wK (a := c) (by show some _ = _; rw [e])).trans ?_
 have e2 : ((List.range (bs l).size).find? fun i => (bs l)[i]! == c) = idxO c l := by
  rw [hp]
  rfl
 rw [e2]
 unfold idxI
 cases idxO c l <;> rfl
section
variable {P : Program} {n : Nat} {ops : Array Oper} {os : List Oper} {K : Sl → Pv → AH → Prop} {E : Value → Sl → Pv → AH → Prop} {S : Sl} {L : Pv} {h : AH} {d : Option Tmp} {ty : TypeId} {ps : String} {af : Array Edge}
theorem op_extern {x : Operand} {xs : List Operand} {ats : Array TypeId} {g : FuncId} {fn : Func} {e : Array Value → Sem Value} {vs : List Value} {v : Value} (hf : ev n S x = .func (.func g) #[] #[]) (hg : P.funcs[g]? = some fn) (hname : (fn.name == "runtime.NumGoroutine") = false) (hb : fn.body.isNone = true)
  (hn : Extern.findNext fn = none) (he : Extern.find fn = some e) (hx : xs.map (ev n S) = vs) (hp : pev P (e vs.toArray) = some v)
  (kk : wpL P n ops os K E (put S d v) L h) : wpL P n ops (⟨d, .call ⟨.value x, xs.toArray, ats⟩, ty, ps, af, none⟩ :: os) K E S L h := by
 refine op_of fun V => ?_
 unfold opW
 rw [exec_call (caps := []) (vs := vs) (by simpa using hf) (by rw [List.append_nil]; exact hx)]
 show dem P (match P.funcs[g]? with | none => _ | some fn => _) _ _ _
 rw [hg]
 simp only [hname, hb, Bool.false_eq_true, if_false, if_true]
 refine ⟨rfl, ?_⟩
 simp only [hn, he]
 show dem P (e vs.toArray >>= fun v => pure (Next.value v)) _ _ _
 refine wM (dem_pev hp ?_)
 exact ⟨L, h, rfl, V, kk⟩
end
end Go.HL
namespace Go.Rd
open Go.HL
set_option linter.all false
theorem u8_all {p : UInt8 → Prop} (h : ∀ n, n < 256 → p (UInt8.ofNat n)) (c : UInt8) : p c := by
 have := h c.toNat c.toNat_lt
 rwa [UInt8.ofNat_toNat] at this
def dv (c : UInt8) : Nat := (c - 48).toNat
def isD (c : UInt8) : Bool := Nat.ble (dv c) 9
theorem dig_dv {c : UInt8} : isD c = true → dig (dv c) = c := u8_all (p := fun c => isD c = true → dig (dv c) = c) (by decide +kernel) c
theorem dv_le {c : UInt8} (h : isD c = true) : dv c ≤ 9 := Nat.le_of_ble_eq_true h
theorem dv_lt (c : UInt8) : dv c < 256 := (c - 48).toNat_lt
theorem dv_pos {c : UInt8} (h : isD c = true) (h0 : c ≠ 48) : 1 ≤ dv c := u8_all (p := fun c => isD c = true → c ≠ 48 → 1 ≤ dv c) (by decide +kernel) c h h0
theorem isD_no {c : UInt8} (h : isD c = true) : c ≠ 45 ∧ c ≠ 43 ∧ c ≠ 47 ∧ c ≠ 10 ∧ c ≠ 32 := u8_all (p := fun c => isD c = true → c ≠ 45 ∧ c ≠ 43 ∧ c ≠ 47 ∧ c ≠ 10 ∧ c ≠ 32) (by decide +kernel) c h
def digsV : List UInt8 → Nat → Option Nat
 | [], n => some n
 | c :: l, n => if isD c then digsV l (n * 10 + dv c) else none
theorem digsV_cons (c : UInt8) (l : List UInt8) (n : Nat) : digsV (c :: l) n = if isD c then digsV l (n * 10 + dv c) else none := rfl
theorem digsV_lt : ∀ (l : List UInt8) (n m : Nat), digsV l n = some m → m < (n + 1) * 10 ^ l.length
 | [], n, m, h => by simp [digsV] at h; subst h; simp
 | c :: l, n, m, h => by
  rw [digsV_cons] at h
  split at h
  ·rename_i hc
   have h1 := digsV_lt l _ m h
   have h2 := dv_le hc
   have h3 : (n * 10 + dv c + 1) * 10 ^ l.length ≤ ((n + 1) * 10) * 10 ^ l.length := Nat.mul_le_mul_right _ (by omega)
   rw [List.length_cons, Nat.pow_succ, Nat.mul_comm (10 ^ l.length) 10, ← Nat.mul_assoc]
   omega
  ·cases h
theorem digsV_isD : ∀ (l : List UInt8) (n m : Nat), digsV l n = some m → ∀ c ∈ l, isD c = true
 | [], _, _, _, _, h => absurd h List.not_mem_nil
 | c :: l, n, m, h, x, hx => by
  rw [digsV_cons] at h
  split at h
  ·rename_i hc
   rcases List.mem_cons.1 hx with rfl | hx
   ·exact hc
   ·exact digsV_isD l _ m h x hx
  ·cases h
def atoiF : List UInt8 → Option Int
 | [] => none
 | c :: l => if c = 45 ∨ c = 43 then (if l = [] then none else (digsV l 0).map fun n : Nat => if c = 45 then -(n : Int) else (n : Int)) else (digsV (c :: l) 0).map fun n : Nat => (n : Int)
theorem atoiF_cons (c : UInt8) (l : List UInt8) : atoiF (c :: l) = if c = 45 ∨ c = 43 then (if l = [] then none else (digsV l 0).map fun n : Nat => if c = 45 then -(n : Int) else (n : Int)) else (digsV (c :: l) 0).map fun n : Nat => (n : Int) := rfl
def numR (w : List UInt8) : Option Nat := if w.length < 1 ∨ w.length > 3 ∨ (w.head? = some 48 ∧ w.length > 1) then none else digsV w 0
theorem natL_all : ∀ k, k < 1000 → digsV (natL k) 0 = some k ∧ 1 ≤ (natL k).length ∧ ((natL k).head? = some 48 → (natL k).length = 1 ∧ k = 0) := by decide +kernel
theorem numR_natL {k : Nat} (h : k < 1000) : numR (natL k) = some k := by
 obtain ⟨h1, h2, h3⟩ := natL_all k h
 have h4 := natL_len (n := k)
 unfold numR
 rw [if_neg, h1]
 rintro (h5 | h5 | ⟨h5, h6⟩)
 ·omega
 ·omega
 ·have := (h3 h5).1; omega
theorem natL_of {w : List UInt8} {n : Nat} (h : numR w = some n) : natL n = w ∧ n < 1000 := by
 unfold numR at h
 split at h
 ·cases h
 ·rename_i hc
  have hD := digsV_isD _ _ _ h
  rcases w with _ | ⟨a, _ | ⟨b, _ | ⟨c, _ | ⟨d, w⟩⟩⟩⟩
  ·simp at hc
  ·have ha := hD a (by simp)
   have la := dv_le ha
   simp only [digsV, ha, if_true, Option.some.injEq] at h
   have hn : n = dv a := by omega
   subst hn
   refine ⟨?_, by omega⟩
   unfold natL
   rw [if_pos (by omega), dig_dv ha]
  ·have ha := hD a (by simp)
   have hb := hD b (by simp)
   have la := dv_le ha
   have lb := dv_le hb
   have h48 : a ≠ 48 := fun e => hc (.inr (.inr ⟨by simp [e], by simp⟩))
   have pa := dv_pos ha h48
   simp only [digsV, ha, hb, if_true, Option.some.injEq] at h
   have e1 : n / 10 = dv a := by omega
   have e2 : n % 10 = dv b := by omega
   refine ⟨?_, by omega⟩
   unfold natL
   rw [if_neg (by omega), if_pos (by omega), e1, e2, dig_dv ha, dig_dv hb]
  ·have ha := hD a (by simp)
   have hb := hD b (by simp)
   have hcc := hD c (by simp)
   have la := dv_le ha
   have lb := dv_le hb
   have lc := dv_le hcc
   have h48 : a ≠ 48 := fun e => hc (.inr (.inr ⟨by simp [e], by simp⟩))
   have pa := dv_pos ha h48
   simp only [digsV, ha, hb, hcc, if_true, Option.some.injEq] at h
   have e1 : n / 100 = dv a := by omega
   have e2 : n / 10 % 10 = dv b := by omega
   have e3 : n % 10 = dv c := by omega
   refine ⟨?_, by omega⟩
   unfold natL
   rw [if_neg (by omega), if_neg (by omega), e1, e2, e3, dig_dv ha, dig_dv hb, dig_dv hcc]
  ·exfalso
   apply hc
   refine .inr (.inl ?_)
   simp
theorem atoi_abs {w : List UInt8} {n : Int} (h : atoiF w = some n) : n.natAbs < 10 ^ w.length := by
 cases w with
 | nil => cases h
 | cons c l =>
  rw [atoiF_cons] at h
  split at h
  ·split at h
   ·cases h
   ·obtain ⟨m, h1, h2⟩ := Option.map_eq_some_iff.1 h
    have h3 := digsV_lt _ _ _ h1
    rw [Nat.zero_add, Nat.one_mul] at h3
    have h4 : 10 ^ l.length ≤ 10 ^ (c :: l).length := Nat.pow_le_pow_right (by decide) (by simp)
    have h5 : n.natAbs = m := by subst h2; split <;> omega
    omega
  ·obtain ⟨m, h1, h2⟩ := Option.map_eq_some_iff.1 h
   have h3 := digsV_lt _ _ _ h1
   rw [Nat.zero_add, Nat.one_mul] at h3
   have h5 : n.natAbs = m := by omega
   omega
theorem atoi_digs {w : List UInt8} {k : Nat} (h : digsV w 0 = some k) (hw : w ≠ []) : atoiF w = some (k : Int) := by
 cases w with
 | nil => exact absurd rfl hw
 | cons c l =>
  have hc := digsV_isD _ _ _ h c (by simp)
  have hn := isD_no hc
  rw [atoiF_cons]
  rw [if_neg (fun e => e.elim hn.1 hn.2.1), h]
  rfl
theorem itoaL_nat (k : Nat) : itoaL (k : Int) = natL k := by
 unfold itoaL
 rw [if_neg (by omega)]
 rfl
theorem itoaL_neg {k : Nat} (h : 1 ≤ k) : itoaL (-(k : Int)) = 45 :: natL k := by
 unfold itoaL
 rw [if_pos (by omega), Int.natAbs_neg]
 rfl
theorem numR_of {w : List UInt8} {n : Int} (h : atoiF w = some n) (h0 : 0 ≤ n) (hl : w.length ≤ 3) (hi : itoaL n = w) : numR w = some n.toNat := by
 have h1 := atoi_abs h
 have h2 : 10 ^ w.length ≤ 10 ^ 3 := Nat.pow_le_pow_right (by decide) hl
 obtain ⟨k, rfl⟩ : ∃ k : Nat, n = k := ⟨n.toNat, by omega⟩
 rw [itoaL_nat] at hi
 rw [← hi, Int.toNat_natCast]
 exact numR_natL (by omega)
theorem of_numR {w : List UInt8} {k : Nat} (h : numR w = some k) : atoiF w = some (k : Int) ∧ w.length ≤ 3 ∧ itoaL k = w ∧ k < 1000 := by
 obtain ⟨h1, h2⟩ := natL_of h
 have h3 := natL_all k h2
 subst h1
 refine ⟨atoi_digs h3.1 (fun e => ?_), natL_len, itoaL_nat k, h2⟩
 have := h3.2.1
 rw [e] at this
 simp at this
end Go.Rd
namespace Go.HL
open Go Go.Wx Go.Rd
set_option linter.all false
theorem byC_map (l : List UInt8) : l.flatMap byC = l.map fun b => Value.int .u8 b.toNat := by
 induction l with
 | nil => rfl
 | cons b l ih => rw [List.flatMap_cons, ih]; rfl
theorem byC_len (l : List UInt8) : (l.flatMap byC).length = l.length := by rw [byC_map, List.length_map]
theorem bs_cells (l : List UInt8) : ((bs l).data.map fun b => Value.int .u8 b.toNat) = (l.flatMap byC).toArray := by
 rw [byC_map]
 show (List.toArray l).map _ = _
 rw [List.map_toArray]
theorem byC_plain (l : List UInt8) : (l.flatMap byC).all plainB = true := by
 rw [byC_map, List.all_map]
 exact List.all_eq_true.2 fun _ _ => rfl
theorem hupd_hupd {h : AH} {b : Nat} {o o' : Obj} : hupd (hupd h b o) b o' = hupd h b o' := by
 funext c
 simp only [hupd]
 split <;> rfl
theorem hupd_at {h : AH} {b : Nat} {o : Obj} : hupd h b o b = some o := by simp [hupd]
theorem cells_front {h : AH} {b : Nat} {cs junk : List Value} {e : TypeId} {f : Nat × Nat} (hb : h b = some (.cells (cs ++ junk).toArray e f)) : Cells h b 0 cs := by
 intro j u hu
 have hj := (List.getElem?_eq_some_iff.1 hu).1
 simp [cellA, hb, List.getElem?_append_left hj, hu]
theorem rd_front {h : AH} {b : Nat} {cs junk : List Value} {e : TypeId} {f : Nat × Nat} (hb : h b = some (.cells (cs ++ junk).toArray e f)) : Rd h (some ⟨b, 0, none⟩) cs := fun _ => ⟨b, 0, rfl, cells_front hb⟩
theorem dem_shape {P : Program} {β : Type} {b : Nat} {o : Obj} {h : AH} {f : Option (TypeId × Nat) → Sem β} {K : β → AH → Prop} {E : Value → AH → Prop} (hb : h b = some o) (k : dem P (f (shapeO o)) h K E) : dem P (shape b >>= f) h K E := wM ⟨o, hb, k⟩
theorem rd_mid {h : AH} {b i : Nat} {pre cs junk : List Value} {e : TypeId} {f : Nat × Nat} (hb : h b = some (.cells (pre ++ (cs ++ junk)).toArray e f)) (hi : pre.length = i) : Rd h (some ⟨b, i, none⟩) cs := fun _ => ⟨b, i, rfl, fun j u hu => by
 subst hi
 have hj := (List.getElem?_eq_some_iff.1 hu).1
 have : (pre ++ (cs ++ junk))[pre.length + j]? = some u := by
  rw [List.getElem?_append_right (by omega), Nat.add_sub_cancel_left, List.getElem?_append_left hj, hu]
 simpa [cellA, hb] using this⟩
variable [Lvl]
theorem dem_loadBytes {P : Program} {h : AH} {K : ByteArray → AH → Prop} {E : Value → AH → Prop} : ∀ (l p : List UInt8) (b off : Nat), Cells h b off (l.flatMap byC) → K (bs (p ++ l)) h → dem P (loadBytes ⟨b, off, none⟩ (bs p) l.length) h K E
 | [], p, b, off, _, k => by rw [List.append_nil] at k; exact k
 | c :: l, p, b, off, hc, k => by
  show dem P (loadBytes ⟨b, off, none⟩ (bs p) (l.length + 1)) h K E
  unfold loadBytes
  refine wM ?_
  refine ⟨.int .u8 c.toNat, ?_, ?_⟩
  ·have := hc 0 (.int .u8 c.toNat) rfl
   rwa [Nat.add_zero] at this
  ·show dem P (loadBytes ((⟨b, off, none⟩ : Addr).add 1) ((bs p).push (Int.toNat (c.toNat : Int)).toUInt8) l.length) h K E
   have e : (bs p).push (Int.toNat (c.toNat : Int)).toUInt8 = bs (p ++ [c]) := by
    have : (Int.toNat (c.toNat : Int)).toUInt8 = c := by rw [Int.toNat_natCast]; exact UInt8.ofNat_toNat
    rw [this]
    apply ByteArray.ext
    show (Array.mk p).push c = _
    simp
   rw [e, add_none]
   refine dem_loadBytes l (p ++ [c]) b (off + 1) ?_ (by rw [List.append_assoc]; exact k)
   intro j u hu
   have := hc (j + 1) u (by rw [byC_map] at hu ⊢; simpa using hu)
   rwa [show off + (j + 1) = off + 1 + j by omega] at this
variable [Lvl]
section
variable {P : Program} {n : Nat} {ops : Array Oper} {os : List Oper} {K : Sl → Pv → AH → Prop} {E : Value → Sl → Pv → AH → Prop} {S : Sl} {L : Pv} {h : AH} {d : Option Tmp} {ty : TypeId} {ps : String} {af : Array Edge}
theorem op_s2b {sT dT e : TypeId} {x : Operand} (l : List UInt8) (hx : ev n S x = .string (bs l)) (h1 : pev P (underlying sT) = some .string) (h2 : pev P (underlying dT) = some (.slice e)) (h3 : pev P (underlying e) = some (.int .u8))
  (kk : ∀ (b cap : Nat) (junk : List Value) (f : Nat × Nat), wl h L b = none → wpL P n ops os K E (put S d (.slice (some ⟨b, 0, none⟩) l.length cap)) (L ++ [some (b, .cells (l.flatMap byC ++ junk).toArray e f)]) h) : wpL P n ops (⟨d, .convert sT dT x, ty, ps, af, none⟩ :: os) K E S L h := by
 refine op_of fun V => ?_
 unfold opW
 simp only [execOp, hx]
 refine wM (wG h1 (wG h2 ?_))
 simp only
 refine wG h3 ?_
 simp only
 unfold Conv.stringToBytes
 refine wM ?_
 intro t
 show dem P _ _ _ _
 have er : ∀ k, ((bs l).data.map fun b => Value.int .u8 b.toNat) ++ Array.replicate k (Value.int .u8 0) = (l.flatMap byC ++ List.replicate k (Value.int .u8 0)).toArray := by
  intro k
  rw [bs_cells]
  simp
 simp only [er]
 refine wM (wM ?_)
 intro b hb
 show dem P (markStringish ⟨b, 0, none⟩ >>= _) _ _ _
 refine wM ?_
 unfold markStringish
 refine wM ?_
 refine ⟨_, hupd_at, ?_⟩
 show dem P (freeze _ 1) _ _ _
 refine ⟨by decide, _, _, hupd_at, ?_⟩
 rw [hupd_hupd]
 exact ⟨_, h, wl_new hb _, valid_new V hb _, kk b _ _ _ hb⟩
theorem op_copyS (i : Nat) {sT xT e e' : TypeId} {x y : Operand} {b dl dc : Nat} {l : List UInt8} {cs : List Value} (hx : ev n S x = .slice (some ⟨b, 0, none⟩) dl dc) (hy : ev n S y = .string (bs l)) (hi : L[i]? = some (some (b, .cells cs.toArray e' (0, 0)))) (hl : l.length = dl) (hc : cs.length = dl)
  (ht : pev P (underlying sT) = some (.slice e)) (hs : pev P (sizeOf e) = some 1)
  (kk : wpL P n ops os K E (put S d (.int .i64 dl)) (L.set i (some (b, .cells (l.flatMap byC).toArray e' (0, 0)))) h) : wpL P n ops (⟨d, .call ⟨.builtin .copy, #[x, y], #[sT, xT]⟩, ty, ps, af, none⟩ :: os) K E S L h := by
 refine op_of fun V => ?_
 unfold opW
 rw [exec_builtin (xs := [x, y]) (vs := [.slice (some ⟨b, 0, none⟩) dl dc, .string (bs l)]) (by simp [hx, hy])]
 refine wM ?_
 show dem P (Builtin.copy_ #[sT, xT] ty #[.slice (some ⟨b, 0, none⟩) dl dc, .string (bs l)]) _ _ _
 unfold Builtin.copy_
 refine wG ht ?_
 simp only
 refine wG (a := l.length) rfl (wG hs ?_)
 have hk : Nat.min l.length dl = l.length := by rw [hl]; exact Nat.min_self _
 rw [hk]
 refine wG (a := (l.flatMap byC).toArray) ?_ ?_
 ·show some (((bs l).extract 0 l.length).data.map fun b => Value.int .u8 b.toNat) = _
  rw [bs_ext, List.take_length, List.drop_zero, bs_cells]
 ·refine wM (dem_storeFrom (l.flatMap byC) _ cs.toArray 0 0 (zK V hi) (by rw [List.size_toArray, byC_len]; omega) (byC_plain l) ?_)
  rw [wl_set V hi, Nat.add_zero, wr_list, wrL_all (by rw [byC_len]; omega)]
  have e1 : (l.length : Nat) = dl := hl
  rw [e1]
  exact ⟨_, h, rfl, valid_set V hi, kk⟩
theorem op_usS (i : Nat) {pT nT e e' : TypeId} {x y : Operand} {b : Nat} {q : IntKind} {k' : Int} (l : List UInt8) (hx : ev n S x = .pointer (some ⟨b, 0, none⟩)) (hy : ev n S y = .int q k') (ek : k' = l.length) (hi : L[i]? = some (some (b, .cells (l.flatMap byC).toArray e' (0, 0)))) (h0 : 0 < l.length) (h1 : l.length < 2 ^ 62)
  (ht : pev P (underlying pT) = some (.pointer e)) (hv : liesAt P P.depth e' (l.length / P.cellsOf e') 0 e l.length = true)
  (kk : wpL P n ops os K E (put S d (.string (bs l))) (L.set i (some (b, .cells (l.flatMap byC).toArray e' (0, 0 + l.length)))) h) : wpL P n ops (⟨d, .call ⟨.builtin .unsafeString, #[x, y], #[pT, nT]⟩, ty, ps, af, none⟩ :: os) K E S L h := by
 subst ek
 refine op_of fun V => ?_
 unfold opW
 rw [exec_builtin (xs := [x, y]) (vs := [.pointer (some ⟨b, 0, none⟩), .int q (l.length : Int)]) (by simp [hx, hy])]
 refine wM ?_
 show dem P (Builtin.unsafeString_ #[pT, nT] ty #[.pointer (some ⟨b, 0, none⟩), .int q (l.length : Int)]) _ _ _
 unfold Builtin.unsafeString_
 refine wG (s := asInt (.int q (l.length : Int))) (a := (l.length : Int)) rfl ?_
 show dem P (if (l.length : Int) < 0 then _ else _) _ _ _
 rw [if_neg (by omega), if_neg (show ¬ ((l.length : Int) > IntKind.i64.max) by show ¬ ((l.length : Int) > 9223372036854775807); omega)]
 show dem P (if (l.length : Int) = 0 then _ else _) _ _ _
 rw [if_neg (by omega)]
 have he : pev P (elemOf pT) = some e := (wK ht).trans rfl
 refine wG he ?_
 rw [Int.toNat_natCast]
 refine wM ?_
 show dem P (variablesAt ⟨b, 0, none⟩ e l.length) _ _ _
 unfold variablesAt
 refine wG (a := P) rfl ?_
 refine dem_shape (zK V hi) ?_
 have hsz : (l.flatMap byC).toArray.size = l.length := by rw [List.size_toArray, byC_len]
 show dem P (pure (liesAt P P.depth e' ((l.flatMap byC).toArray.size / P.cellsOf e') 0 e l.length)) _ _ _
 rw [hsz, hv]
 have hcl : Cells (wl h L) b 0 (l.flatMap byC) := cells_front (junk := []) (by rw [List.append_nil]; exact zK V hi)
 show dem P (loadBytes ⟨b, 0, none⟩ (bs []) l.length >>= _) _ _ _
 refine wM (dem_loadBytes l [] b 0 hcl ?_)
 refine wM ?_
 show dem P (freeze ⟨b, 0, none⟩ l.length) _ _ _
 refine ⟨by omega, _, _, zK V hi, ?_⟩
 rw [wl_set V hi]
 exact ⟨_, h, rfl, valid_set V hi, kk⟩
end
theorem range_one (z : Value) (k : Nat) : ((List.range (k * 1)).map fun i => [z][i % [z].length]!) = List.replicate k z := by
 apply List.ext_getElem
 ·simp
 ·intro i h1 h2
  simp [Nat.mod_one]
section
variable {P : Program} {n : Nat} {ops : Array Oper} {os : List Oper} {K : Sl → Pv → AH → Prop} {E : Value → Sl → Pv → AH → Prop} {S : Sl} {L : Pv} {h : AH} {d : Option Tmp} {ty : TypeId} {ps : String} {af : Array Edge}
theorem op_makeOne {t e : TypeId} {x y : Operand} {len : Nat} {len' cap' : Int} {q q' : IntKind} {z : Value} {inf : TypeInfo} (hx : ev n S x = .int q len') (hy : ev n S y = .int q' cap') (el : len' = len) (ec : cap' = len) (ht : pev P (underlying t) = some (.slice e)) (hi : pev P (typeInfo e) = some inf) (hs : pev P (sizeOf e) = some 1)
  (hz : pev P (zeroValue e) = some z) (hzc : z.cells = [z].toArray) (hcap : len < 2 ^ 30) (hby : Nat.ble inf.bytes 1024 = true)
  (k : ∀ b, wl h L b = none → wpL P n ops os K E (put S d (.slice (some ⟨b, 0, none⟩) len len)) (L ++ [some (b, .cells (List.replicate len z).toArray e (0, 0))]) h) : wpL P n ops (⟨d, .makeSlice t x y, ty, ps, af, none⟩ :: os) K E S L h := by
 refine op_makeSlice (len := len) (cap := len) hx hy el ec ht hi hs hz hzc (Nat.le_refl _) hcap hby fun b hb => ?_
 rw [range_one]
 exact k b hb
end
theorem wr_next {a : List Value} {z v : Value} {k j : Nat} (ha : a.length = k) : wrL (a ++ List.replicate (j + 1) z) (0 + (k : Int).toNat * 1) [v] = a ++ [v] ++ List.replicate j z := by
 subst ha
 simp [wrL, List.replicate_succ]
section
variable {P : Program} {n : Nat} {d : Option Tmp} {ty : TypeId} {ps : String} {af : Array Edge} {S : Sl}
theorem wrap_u8 {a : Int} (h : 0 ≤ a ∧ a < 256) : IntKind.wrap .u8 a = a := by
 show a % 256 = a
 omega
theorem wrap_u32 {a : Int} (h : 0 ≤ a ∧ a < 4294967296) : IntKind.wrap .u32 a = a := by
 show a % 4294967296 = a
 omega
theorem u8_sub (c k : UInt8) : IntKind.wrap .u8 ((c.toNat : Int) - (k.toNat : Int)) = ((c - k).toNat : Int) := by
 rw [UInt8.toNat_sub]
 have h1 := c.toNat_lt
 have h2 := k.toNat_lt
 show ((c.toNat : Int) - (k.toNat : Int)) % 256 = _
 omega
theorem pv_w {op : Op} {k : IntKind} {z r : Int} (hv : pev P (execOp (ev n S) ⟨d, op, ty, ps, af, none⟩) = some (.value (.int k (IntKind.wrap k z)))) (e : IntKind.wrap k z = r) : pev P (execOp (ev n S) ⟨d, op, ty, ps, af, none⟩) = some (.value (.int k r)) := by
 rw [e] at hv
 exact hv
theorem pv_remN {q : IntKind} {x y : Operand} {t u : TypeId} (a b : Nat) {a' b' : Int} (hx : ev n S x = .int q a') (hy : ev n S y = .int q b') (ea : a' = a) (eb : b' = b) (hb : 0 < b) : pev P (execOp (ev n S) ⟨d, .binOp .rem t x y u, ty, ps, af, none⟩) = some (.value (.int q ((a % b : Nat) : Int))) := by
 subst ea eb
 simp only [execOp, hx, hy]
 refine (wY (a := .int q ((a % b : Nat) : Int)) ?_).trans rfl
 refine (wK (a := ()) rfl).trans ?_
 unfold binOp
 simp only [ne_eq, not_true_eq_false, if_false]
 unfold Op.intDiv
 rw [if_neg (by omega)]
 show some (Value.int q (Int.tmod a b)) = _
 rw [← Int.ofNat_tmod]
theorem pv_quoN {q : IntKind} {x y : Operand} {t u : TypeId} (a b : Nat) {a' b' : Int} (hx : ev n S x = .int q a') (hy : ev n S y = .int q b') (ea : a' = a) (eb : b' = b) (hb : 0 < b) (hw : q.wrap ((a / b : Nat) : Int) = ((a / b : Nat) : Int)) : pev P (execOp (ev n S) ⟨d, .binOp .quo t x y u, ty, ps, af, none⟩) = some (.value (.int q ((a / b : Nat) : Int))) := by
 subst ea eb
 simp only [execOp, hx, hy]
 refine (wY (a := .int q ((a / b : Nat) : Int)) ?_).trans rfl
 refine (wK (a := ()) rfl).trans ?_
 unfold binOp
 simp only [ne_eq, not_true_eq_false, if_false]
 unfold Op.intDiv
 rw [if_neg (by omega)]
 show some (Value.int q (q.wrap (Int.tdiv a b))) = _
 rw [← Int.ofNat_tdiv, hw]
end
end Go.HL
namespace Go.Rd
open Go Go.HL Go.Wx
variable [Lvl]
structure More (m : MachP) (a : HandP) (m' : MachP) (a' : HandP) : Prop where
 btn : m'.buttons = m.buttons
 hb : ∀ b ∈ a.buttons, b ∈ a'.buttons
 ho : ∀ r ∈ a.on, r ∈ a'.on
 links : ∀ l ∈ m.links, l ∈ m'.links
 pins : ∀ p ∈ m.pins, p ∈ m'.pins
 levers : m'.levers = m.levers
 travel : m'.travel = m.travel
 opn : m'.opn = m.opn
end Go.Rd
namespace Go.Wx
open Go Go.HL
variable [Lvl]
structure Order (o : List Int) (n : Nat) : Prop where
 len : o.length = n
 bd : ∀ x ∈ o, 0 ≤ x ∧ x < n
 inj : ∀ (i k : Nat), i < n → k < n → o[i]? = o[k]? → i = k
theorem wrL_mid (a c : List Value) : ∀ (vs b : List Value) (j : Nat), j + vs.length ≤ b.length → wrL (a ++ b ++ c) (a.length + j) vs = a ++ wrL b j vs ++ c
 | [], b, j, _ => rfl
 | v :: vs, b, j, h => by
  rw [List.length_cons] at h
  have hj : j < b.length := by omega
  have e : (a ++ b ++ c).set (a.length + j) v = a ++ b.set j v ++ c := by
   rw [List.append_assoc, List.set_append_right _ _ (by omega), Nat.add_sub_cancel_left, List.set_append_left _ _ hj, List.append_assoc]
  show wrL ((a ++ b ++ c).set (a.length + j) v) (a.length + j + 1) vs = _
  rw [e, Nat.add_assoc, wrL_mid a c vs (b.set j v) (j + 1) (by rw [List.length_set]; omega)]
  rfl
section
variable {α : Type} {enc : α → List Value} {m : Nat} (hm : ∀ x, (enc x).length = m)
include hm
end
structure MixP (l : List Int) (i : Nat) : Prop where
 bd : ∀ m, m < i → ∃ v : Int, l[m]? = some v ∧ 0 ≤ v ∧ v < i
 inj : ∀ m m' : Nat, m < i → m' < i → l[m]? = l[m']? → m = m'
theorem MixP.zero (l : List Int) : MixP l 0 := ⟨fun m h => absurd h (Nat.not_lt_zero m), fun m _ h => absurd h (Nat.not_lt_zero m)⟩
def mixS (l : List Int) (i k : Nat) : List Int := (l.set i (l.getD k 0)).set k (i : Int)
theorem mixS_get {l : List Int} {i k : Nat} (hi : i < l.length) (hk : k ≤ i) (m : Nat) : (mixS l i k)[m]? = if m = k then some (i : Int) else if m = i then l[k]? else l[m]? := by
 unfold mixS
 have hkl : k < l.length := by omega
 rw [List.getElem?_set, List.length_set]
 by_cases h1 : k = m
 ·subst h1
  simp [hkl]
 ·rw [if_neg h1, if_neg (fun e => h1 e.symm), List.getElem?_set]
  by_cases h2 : i = m
  ·subst h2
   simp [hi, List.getD_eq_getElem?_getD, List.getElem?_eq_getElem hkl]
  ·rw [if_neg h2, if_neg (fun e => h2 e.symm)]
theorem MixP.step {l : List Int} {i k : Nat} (P : MixP l i) (hi : i < l.length) (hk : k ≤ i) : MixP (mixS l i k) (i + 1) := by
 have gk : k < i → ∃ v : Int, l[k]? = some v ∧ 0 ≤ v ∧ v < i := fun h => P.bd k h
 constructor
 ·intro m hm
  rw [mixS_get hi hk]
  by_cases h1 : m = k
  ·rw [if_pos h1]; exact ⟨i, rfl, by omega, by omega⟩
  ·rw [if_neg h1]
   by_cases h2 : m = i
   ·rw [if_pos h2]
    obtain ⟨v, e, a, b⟩ := gk (by omega)
    exact ⟨v, e, a, by omega⟩
   ·rw [if_neg h2]
    obtain ⟨v, e, a, b⟩ := P.bd m (by omega)
    exact ⟨v, e, a, by omega⟩
 ·have val : ∀ m, m < i + 1 → ∃ v : Int, (mixS l i k)[m]? = some v ∧ (m ≠ k → v < i) ∧ (m = k → v = i) := by
   intro m hm
   rw [mixS_get hi hk]
   by_cases h1 : m = k
   ·rw [if_pos h1]; exact ⟨i, rfl, fun h => absurd h1 h, fun _ => rfl⟩
   ·rw [if_neg h1]
    by_cases h2 : m = i
    ·rw [if_pos h2]
     obtain ⟨v, e, a, b⟩ := gk (by omega)
     exact ⟨v, e, fun _ => b, fun h => absurd h h1⟩
    ·rw [if_neg h2]
     obtain ⟨v, e, a, b⟩ := P.bd m (by omega)
     exact ⟨v, e, fun _ => b, fun h => absurd h h1⟩
  intro m m' hm hm' e
  obtain ⟨v, e1, a1, b1⟩ := val m hm
  obtain ⟨v', e2, a2, b2⟩ := val m' hm'
  have hv : v = v' := by rw [e1, e2] at e; simpa using e
  by_cases h1 : m = k
  ·by_cases h2 : m' = k
   ·omega
   ·have := a2 h2; have := b1 h1; omega
  ·by_cases h2 : m' = k
   ·have := a1 h1; have := b2 h2; omega
   ·rw [mixS_get hi hk, mixS_get hi hk, if_neg h1, if_neg h2] at e
    by_cases h3 : m = i
    ·by_cases h4 : m' = i
     ·omega
     ·rw [if_pos h3, if_neg h4] at e
      have := P.inj k m' (by omega) (by omega) e
      omega
    ·by_cases h4 : m' = i
     ·rw [if_neg h3, if_pos h4] at e
      have := P.inj m k (by omega) (by omega) e
      omega
     ·rw [if_neg h3, if_neg h4] at e
      exact P.inj m m' (by omega) (by omega) e
theorem MixP.order {l : List Int} {n : Nat} (P : MixP l n) (hl : l.length = n) : Order l n := by
 refine ⟨hl, fun x hx => ?_, P.inj⟩
 obtain ⟨i, hi⟩ := List.mem_iff_getElem?.1 hx
 have := (List.getElem?_eq_some_iff.1 hi).1
 obtain ⟨v, e, a, b⟩ := P.bd i (by omega)
 rw [hi] at e
 cases e
 exact ⟨a, b⟩
theorem wX {α : Type} {enc : α → List Value} {m : Nat} {l : List α} (hl : ∀ x ∈ l, (enc x).length = m) {h : AH} {b : Nat} {t : TypeId} (hb : h b = some (.cells (l.flatMap enc).toArray t (0, 0))) : Row h m enc (some ⟨b, 0, none⟩) l :=
 ⟨hl, fun _ => ⟨b, 0, rfl, cellsB hb⟩⟩
end Go.Wx
namespace Go.HL
open Go
def strC (x : List UInt8) : List Value := [.string (bs x)]
theorem idxI_some {c : UInt8} {l : List UInt8} {i : Nat} (h : idxO c l = some i) : idxI c l = (i : Int) := by unfold idxI; rw [h]
theorem cnt_pos {c : UInt8} {l : List UInt8} (h : 0 < cntB c l) : ∃ i, idxO c l = some i := by
 cases e : idxO c l with
 | some i => exact ⟨i, rfl⟩
 | none =>
  have h1 := splitL_len c l
  rw [splitL_no (idxO_none e)] at h1
  simp at h1
  omega
theorem cnt_le (c : UInt8) : ∀ l : List UInt8, cntB c l ≤ l.length
 | [] => Nat.le_refl _
 | b :: l => by
  have ih := cnt_le c l
  have e : cntB c (b :: l) = (if b == c then 1 else 0) + cntB c l := by
   show (b :: l).foldl _ 0 = _
   rw [List.foldl_cons, cnt_acc]
  rw [e, List.length_cons]
  split <;> omega
theorem idx_self (c : UInt8) : idxI c [c] = 0 := by
 have : idxO c [c] = some 0 := by
  unfold idxO
  show List.find? _ [0] = _
  simp
 rw [idxI_some this]
 rfl
end Go.HL
namespace Go.Proofs.YtmpahfdiebhdbaaGreatDoor
open Go Go.HL Go.Proofs Go.Wx Go.Rd
section
variable [Lvl]
set_option maxRecDepth 100000
theorem IndexByte_ok (l : List UInt8) (c : UInt8) (h : AH) : FnT Tryz.prog 78 #[.string (bs l), .int .u8 c.toNat] h (fun v _ => v = .int .i64 (idxI c l)) := by
 refine wH Tryz.func78 rfl Tryz.ntmps78 rfl ?_
 refine qE ?_
 refine qB rfl ?_
 refine qA (qD (v := .int .i64 _) rfl) ?_
 refine qE ?_
 refine qB rfl ?_
 refine qA (qC (v := .string _) rfl) ?_
 refine qA (qC (v := .int .u8 _) rfl) ?_
 refine op_extern (e := Extern.BytealgIndexByte.indexByte) (vs := [.string _, .int .u8 _]) rfl Tryz.func98 rfl rfl (by kernel_rfl) (by kernel_rfl) rfl (index_pev _ _) ?_
 refine qA (qD (v := .int .i64 _) rfl) ?_
 refine qQ ?_
 refine qM (vs := [_]) Tryz.results78 ⟨qJ rfl rfl, trivial⟩ fun V => ?_
 exact ⟨(qR V), rfl⟩
theorem sliteIndex_ok (l : List UInt8) (c : UInt8) (h : AH) (hl : l.length < 2 ^ 40) : FnT Tryz.prog 59 #[.string (bs l), .string (bs [c])] h (fun v _ => v = .int .i64 (idxI c l)) := by
 refine wH Tryz.func59 rfl Tryz.ntmps59 rfl ?_
 refine qE ?_
 refine qB rfl ?_
 refine qA (qD (v := .int .i64 _) rfl) ?_
 refine qE ?_
 refine qB rfl ?_
 refine qA (qC (v := .string _) rfl) ?_
 refine qA (zF rfl rfl) ?_
 refine qA (qD (v := .int .i64 _) rfl) ?_
 refine qE ?_
 refine qT ?_
 refine qE ?_
 refine qB rfl ?_
 refine qA (qC (v := .int .i64 _) rfl) ?_
 refine qA (qK (v := .bool _) rfl) ?_
 refine qA (qC (v := .bool _) rfl) ?_
 refine qF rfl rfl ?_
 refine qA (qC (v := .string _) rfl) ?_
 refine qF rfl rfl ?_
 refine qA (qC (v := .string _) rfl) ?_
 refine qF rfl rfl ?_
 refine qA (pv_streq rfl rfl) ?_
 refine qA (wI rfl rfl (v := .bool _) rfl) ?_
 refine qA (qD (v := .bool _) rfl) ?_
 refine qP rfl (fun hs => ?_) (fun hs => ?_)
 ·skip
  have hs' : [c] = l := of_decide_eq_true hs
  refine qE ?_
  refine qB rfl ?_
  refine qA (qD (v := .int .i64 _) rfl) ?_
  refine qQ ?_
  refine qM (vs := [_]) Tryz.results59 ⟨qJ rfl rfl, trivial⟩ fun V => ?_
  exact ⟨(qR V), by show Value.int .i64 0 = .int .i64 (idxI c l); rw [← hs', idx_self]⟩
 ·skip
  refine qE ?_
  refine qB rfl ?_
  refine qA (qC (v := .int .i64 _) rfl) ?_
  refine qA (qK (v := .bool _) rfl) ?_
  refine qA (qD (v := .bool _) rfl) ?_
  refine wW rfl (rfl) ?_
  refine qE ?_
  refine qB rfl ?_
  refine qA (qC (v := .string _) rfl) ?_
  refine qA (qC (v := .string _) rfl) ?_
  refine qA (pv_stridx (c := c) 0 rfl rfl rfl rfl rfl) ?_
  refine wJ (caps := []) (vs := [.string _, .int .u8 _]) rfl rfl rfl (IndexByte_ok l c h) ?_
  rintro _ h1 E1 rfl
  refine qA (qD (v := .int .i64 _) rfl) ?_
  refine qQ ?_
  refine qM (vs := [_]) Tryz.results59 ⟨qJ rfl rfl, trivial⟩ fun V => ?_
  exact ⟨(zL E1 (qR V)), rfl⟩
theorem Index_ok (l : List UInt8) (c : UInt8) (h : AH) (hl : l.length < 2 ^ 40) : FnT Tryz.prog 35 #[.string (bs l), .string (bs [c])] h (fun v _ => v = .int .i64 (idxI c l)) := by
 refine wH Tryz.func35 rfl Tryz.ntmps35 rfl ?_
 refine qE ?_
 refine qB rfl ?_
 refine qA (qD (v := .int .i64 _) rfl) ?_
 refine qE ?_
 refine qB rfl ?_
 refine qA (qC (v := .string _) rfl) ?_
 refine qA (qC (v := .string _) rfl) ?_
 refine wJ (caps := []) (vs := [.string _, .string _]) rfl rfl rfl (sliteIndex_ok l c h hl) ?_
 rintro _ h1 E1 rfl
 refine qA (qD (v := .int .i64 _) rfl) ?_
 refine qQ ?_
 refine qM (vs := [_]) Tryz.results35 ⟨qJ rfl rfl, trivial⟩ fun V => ?_
 exact ⟨(zL E1 (qR V)), rfl⟩
theorem Count_ok (l : List UInt8) (c : UInt8) (h : AH) : FnT Tryz.prog 75 #[.string (bs l), .string (bs [c])] h (fun v _ => v = .int .i64 (cntB c l : Int)) := by
 refine wH Tryz.func75 rfl Tryz.ntmps75 rfl ?_
 refine qE ?_
 refine qB rfl ?_
 refine qA (qD (v := .int .i64 _) rfl) ?_
 refine qE ?_
 refine qE ?_
 refine qB rfl ?_
 refine qA (qC (v := .string _) rfl) ?_
 refine qA (zF rfl rfl) ?_
 refine qA (qK (v := .bool _) rfl) ?_
 refine wT rfl (rfl) ?_
 refine qO ?_
 refine qE ?_
 refine qE ?_
 refine qB rfl ?_
 refine qA (qC (v := .string _) rfl) ?_
 refine qA (zF rfl rfl) ?_
 refine qA (qK (v := .bool _) rfl) ?_
 refine wW rfl (rfl) ?_
 refine qE ?_
 refine qB rfl ?_
 refine qA (qC (v := .string _) rfl) ?_
 refine qA (qC (v := .string _) rfl) ?_
 refine qA (pv_stridx (c := c) 0 rfl rfl rfl rfl rfl) ?_
 refine op_extern (e := Extern.BytealgCount.count) (vs := [.string _, .int .u8 _]) rfl Tryz.func92 rfl rfl (by kernel_rfl) (by kernel_rfl) rfl (count_pev _ _) ?_
 refine qA (qD (v := .int .i64 _) rfl) ?_
 refine qQ ?_
 refine qM (vs := [_]) Tryz.results75 ⟨qJ rfl rfl, trivial⟩ fun V => ?_
 exact ⟨(qR V), rfl⟩
theorem genSplit_ok (l : List UInt8) (c : UInt8) (h : AH) (hl : l.length < 2 ^ 20) : FnT Tryz.prog 57 #[.string (bs l), .string (bs [c]), .int .i64 0, .int .i64 (-1)] h (fun v h' => ∃ A cap, v = .slice A (splitL c l).length cap ∧ Row h' 1 strC A (splitL c l) ∧ (splitL c l).length ≤ cap) := by
 have hcl := cnt_le c l
 have hsl := splitL_len c l
 refine wH Tryz.func57 rfl Tryz.ntmps57 rfl ?_
 refine qE ?_
 refine qB rfl ?_
 refine qA (qD (v := .slice _ _ _) rfl) ?_
 refine qE ?_
 refine qE ?_
 refine qB rfl ?_
 refine qA (qC (v := .int .i64 _) rfl) ?_
 refine qA (qK (v := .bool _) rfl) ?_
 refine wT rfl (rfl) ?_
 refine qO ?_
 refine qE ?_
 refine qE ?_
 refine qB rfl ?_
 refine qA (qC (v := .string _) rfl) ?_
 refine qA (pv_streq rfl rfl) ?_
 refine wT rfl (decide_eq_false (by simp)) ?_
 refine qO ?_
 refine qE ?_
 refine qE ?_
 refine qB rfl ?_
 refine qA (qC (v := .int .i64 _) rfl) ?_
 refine qA (qK (v := .bool _) rfl) ?_
 refine wW rfl (rfl) ?_
 refine qB rfl ?_
 refine qA (qC (v := .string _) rfl) ?_
 refine qA (qC (v := .string _) rfl) ?_
 refine wJ (caps := []) (vs := [.string _, .string _]) rfl rfl rfl (Count_ok l c h) ?_
 rintro _ h1 E1 rfl
 refine qA (qS rfl (by omega)) ?_
 refine qA (qD (v := .int .i64 _) rfl) ?_
 refine qE ?_
 refine qB rfl ?_
 refine qA (qC (v := .int .i64 _) rfl) ?_
 refine qA (qC (v := .string _) rfl) ?_
 refine qA (zF rfl rfl) ?_
 refine qA (qS rfl (by omega)) ?_
 refine qA (pv_min rfl rfl) ?_
 refine qA (qD (v := .int .i64 _) rfl) ?_
 refine qE ?_
 refine qB rfl ?_
 refine qA (qC (v := .int .i64 _) rfl) ?_
 refine op_makeOne (len := cntB c l + 1) rfl rfl (by omega) (by omega) rfl rfl rfl rfl rfl (by omega) rfl fun a9 ha9 => ?_
 refine qN [_] rfl ?_
 refine qA (qD (v := .slice _ _ _) rfl) ?_
 refine qE ?_
 refine qB rfl ?_
 refine qA (qC (v := .int .i64 _) rfl) ?_
 refine qA (qS rfl (by omega)) ?_
 refine qA (qD (v := .int .i64 _) rfl) ?_
 refine qE ?_
 refine qB rfl ?_
 refine qA (qD (v := .int .i64 _) rfl) ?_
 refine qE ?_
 refine qT ?_
 refine xp_loopL [0, 10, 11, 34, 35, 36, 37, 38, 39, 40, 41, 42, 43, 44, 45, 46, 47, 48, 49, 50, 51, 52, 53, 54, 55, 56, 57] 1 (α := List (List UInt8) × List UInt8 × Nat) (fun ⟨p, s, j⟩ => [(10, .int .i64 p.length), (0, .string (bs s))]) (fun ⟨p, s, j⟩ L => L.set 0 (some (a9, .cells (p.flatMap strC ++ List.replicate (j + 1) (Value.string (bs []))).toArray 9 (0, 0)))) (fun ⟨p, s, j⟩ h_p => splitL c l = p ++ splitL c s ∧ p.length + j = cntB c l ∧ cntB c s = j ∧ s.length ≤ l.length) (fun ⟨p, s, j⟩ => j) (([], l, cntB c l)) ⟨rfl, rfl, trivial⟩ (rfl) (⟨rfl, by simp, rfl, Nat.le_refl _⟩) ?_
 rintro ⟨p, s, j⟩ T1 h_p E_p J_p
 refine qU [_] rfl ?_
 obtain ⟨J1, J2, J3, J4⟩ := J_p
 have hpl : (p.flatMap strC).length = p.length := by rw [wU (m := 1) (fun _ _ => rfl), Nat.mul_one]
 refine qE ?_
 refine qE ?_
 refine qB rfl ?_
 refine qA (qC (v := .int .i64 _) rfl) ?_
 refine qA (qC (v := .int .i64 _) rfl) ?_
 refine qA (qK (v := .bool _) rfl) ?_
 refine qP rfl (fun hk => ?_) (fun hk => ?_)
 ·skip
  have hk' := of_decide_eq_true hk
  obtain ⟨j', rfl⟩ : ∃ j', j = j' + 1 := ⟨j - 1, by omega⟩
  obtain ⟨i, hi⟩ := cnt_pos (c := c) (l := s) (by omega)
  obtain ⟨hil, _, _⟩ := idxO_some hi
  have hsp := splitL_at hi
  have hcd := cnt_drop hi
  have hc1 : [c].length = 1 := rfl
  refine qO ?_
  refine qT ?_
  refine qE ?_
  refine qB rfl ?_
  refine qA (qC (v := .string _) rfl) ?_
  refine qA (qC (v := .string _) rfl) ?_
  refine wJ (caps := []) (vs := [.string _, .string _]) rfl rfl rfl (Index_ok s c h_p (by omega)) ?_
  rintro v1 h2 E2 hv1
  rw [idxI_some hi] at hv1
  subst hv1
  refine qA (qD (v := .int .i64 _) rfl) ?_
  refine qE ?_
  refine qE ?_
  refine qB rfl ?_
  refine qA (qC (v := .int .i64 _) rfl) ?_
  refine qA (qK (v := .bool _) rfl) ?_
  refine wT rfl (decide_eq_false (by omega)) ?_
  refine qO ?_
  refine qE ?_
  refine qB rfl ?_
  refine qA (qC (v := .slice _ _ _) rfl) ?_
  refine qA (qC (v := .int .i64 _) rfl) ?_
  refine qA (qC (v := .string _) rfl) ?_
  refine qA (qC (v := .int .i64 _) rfl) ?_
  refine qA (qC (v := .int .i64 _) rfl) ?_
  refine qA (qS rfl (by omega)) ?_
  refine qA (pv_strcut 0 i rfl rfl (.inl ⟨rfl, rfl⟩) (.inr ⟨_, _, rfl, intE (a := (i : Int) + 0) (Int.add_zero _)⟩) (by omega) (by omega)) ?_
  refine qA (pv_index (m := 1) rfl rfl rfl rfl (by omega) (by omega)) ?_
  refine qY 0 (v := .string (bs (s.take i))) (vs := [.string (bs (s.take i))]) (c' := (p ++ [s.take i]).flatMap strC ++ List.replicate (j' + 1) (Value.string (bs []))) rfl rfl rfl rfl rfl rfl (Nat.ble_eq_true_of_le (by rw [List.length_append, hpl, List.length_replicate]; show 0 + (p.length : Int).toNat * 1 + 1 ≤ _; omega)) rfl (by rw [List.flatMap_append]; exact wr_next hpl) ?_
  refine qN [_] rfl ?_
  refine qE ?_
  refine qB rfl ?_
  refine qA (qC (v := .string _) rfl) ?_
  refine qA (qC (v := .int .i64 _) rfl) ?_
  refine qA (qC (v := .string _) rfl) ?_
  refine qA (zF rfl rfl) ?_
  refine qA (qS rfl (by omega)) ?_
  refine qA (pv_strcut (i + 1) s.length rfl rfl (.inr ⟨_, _, rfl, intE (a := (i : Int) + ([c].length : Int)) (by rw [hc1]; push_cast; rfl)⟩) (.inl ⟨rfl, rfl⟩) (by omega) (Nat.le_refl _)) ?_
  refine qA (qD (v := .string _) rfl) ?_
  refine qB rfl ?_
  refine qA (qC (v := .int .i64 _) rfl) ?_
  refine qA (qS rfl (by omega)) ?_
  refine qA (qD (v := .int .i64 _) rfl) ?_
  refine ⟨(p ++ [s.take i], s.drop (i + 1), j'), ⟨intE (by rw [List.length_append]; simp), strE (by rw [List.take_length]), trivial⟩, rfl, rfl, (zL E_p E2), fun h3 E3 => ⟨by rw [J1, hsp, List.append_assoc]; rfl, by rw [List.length_append, List.length_singleton]; omega, by omega, by rw [List.length_drop]; omega⟩, by first | omega | (dsimp only; omega), ?_⟩
  repeat (first | exact qW _ _ _ | refine wA (by decide) ?_ | refine qV rfl ?_ | refine wB rfl ?_)
 ·skip
  have hk' := of_decide_eq_false hk
  have hj : j = 0 := by omega
  subst hj
  have hs1 : splitL c s = [s] := by
   cases e : idxO c s with
   | some i => have := cnt_drop e; omega
   | none => exact splitL_no (idxO_none e)
  refine wS ?_
  refine qE ?_
  refine qB rfl ?_
  refine qA (qC (v := .slice _ _ _) rfl) ?_
  refine qA (qC (v := .int .i64 _) rfl) ?_
  refine qA (qC (v := .string _) rfl) ?_
  refine qA (pv_index (m := 1) rfl rfl rfl rfl (by omega) (by omega)) ?_
  refine qY 0 (v := .string (bs s)) (vs := [.string (bs s)]) (c' := (p ++ [s]).flatMap strC) rfl rfl rfl rfl rfl rfl (Nat.ble_eq_true_of_le (by rw [List.length_append, hpl, List.length_replicate]; show 0 + (p.length : Int).toNat * 1 + 1 ≤ _; omega)) rfl (by rw [List.flatMap_append]; exact (wr_next hpl).trans (List.append_nil _)) ?_
  refine qN [_] rfl ?_
  refine qE ?_
  refine qB rfl ?_
  refine qA (qC (v := .slice _ _ _) rfl) ?_
  refine qA (qC (v := .int .i64 _) rfl) ?_
  refine qA (qS rfl (by omega)) ?_
  refine qA (pv_front (k := p.length + 1) rfl rfl (by push_cast; rfl) (by omega) rfl rfl) ?_
  refine qA (qD (v := .slice _ _ _) rfl) ?_
  refine goes_pub 0 rfl ?_
  intro h9 E9 hb9
  refine qQ ?_
  refine qM (vs := [_]) Tryz.results57 ⟨qJ rfl rfl, trivial⟩ fun V => ?_
  exact ⟨(zL (zL (zL E1 E_p) E9) (qR V)), _, _, by rw [J1, hs1, List.length_append]; rfl, by rw [J1, hs1]; exact (wX (enc := strC) (fun _ _ => rfl) hb9).ext (qR V), by rw [hsl]; exact Nat.le_refl _⟩
theorem Split_ok (l : List UInt8) (c : UInt8) (h : AH) (hl : l.length < 2 ^ 20) : FnT Tryz.prog 33 #[.string (bs l), .string (bs [c])] h (fun v h' => ∃ A cap, v = .slice A (splitL c l).length cap ∧ Row h' 1 strC A (splitL c l) ∧ (splitL c l).length ≤ cap) := by
 refine wH Tryz.func33 rfl Tryz.ntmps33 rfl ?_
 refine qE ?_
 refine qB rfl ?_
 refine qA (qD (v := .slice _ _ _) rfl) ?_
 refine qE ?_
 refine qB rfl ?_
 refine qA (qC (v := .string _) rfl) ?_
 refine qA (qC (v := .string _) rfl) ?_
 refine wJ (caps := []) (vs := [.string _, .string _, .int .i64 _, .int .i64 _]) rfl rfl rfl (genSplit_ok l c h hl) ?_
 rintro _ h1 E1 ⟨A, cap, rfl, R, hcp⟩
 refine qA (qD (v := .slice _ _ _) rfl) ?_
 refine qQ ?_
 refine qM (vs := [_]) Tryz.results33 ⟨qJ rfl rfl, trivial⟩ fun V => ?_
 exact ⟨(zL E1 (qR V)), A, cap, rfl, R.ext (qR V), hcp⟩
end
end Go.Proofs.YtmpahfdiebhdbaaGreatDoor
namespace Go.Rd
open Go.HL
set_option linter.all false
theorem isD_iff (c : UInt8) : isD c = (decide (48 ≤ c.toNat) && decide (c.toNat ≤ 57)) := u8_all (p := fun c => isD c = (decide (48 ≤ c.toNat) && decide (c.toNat ≤ 57))) (by decide +kernel) c
structure CutJ (c : UInt8) (l : List UInt8) (p : List (List UInt8)) (f k : Nat) : Prop where
 fk : f ≤ k
 kl : k ≤ l.length
 eq : splitL c l = p ++ splitL c (l.drop f)
 no : c ∉ (l.take k).drop f
theorem CutJ.init (c : UInt8) (l : List UInt8) : CutJ c l [] 0 0 := ⟨Nat.le_refl _, Nat.zero_le _, rfl, by simp⟩
theorem take_drop_snoc {l : List UInt8} {f k : Nat} (hf : f ≤ k) (hk : k < l.length) : (l.take (k + 1)).drop f = (l.take k).drop f ++ [l[k]] := by
 rw [List.take_add_one, List.getElem?_eq_getElem hk, List.drop_append_of_le_length (by rw [List.length_take]; omega)]
 rfl
theorem CutJ.pass {c : UInt8} {l : List UInt8} {p : List (List UInt8)} {f k : Nat} (J : CutJ c l p f k) (hk : k < l.length) (hc : l[k] ≠ c) : CutJ c l p f (k + 1) := by
 refine ⟨Nat.le_succ_of_le J.fk, hk, J.eq, ?_⟩
 rw [take_drop_snoc J.fk hk]
 intro h
 rcases List.mem_append.1 h with h | h
 ·exact J.no h
 ·exact hc (List.mem_singleton.1 h).symm
theorem CutJ.cut {c : UInt8} {l : List UInt8} {p : List (List UInt8)} {f k : Nat} (J : CutJ c l p f k) (hk : k < l.length) (hc : l[k] = c) : CutJ c l (p ++ [(l.take k).drop f]) (k + 1) (k + 1) := by
 refine ⟨Nat.le_refl _, hk, ?_, ?_⟩
 ·have e : l.drop f = (l.take k).drop f ++ c :: l.drop (k + 1) := by
   have h1 : l.drop k = l[k] :: l.drop (k + 1) := List.drop_eq_getElem_cons hk
   rw [← hc, ← h1]
   have h2 : l = l.take k ++ l.drop k := (List.take_append_drop k l).symm
   conv => lhs; rw [h2]
   rw [List.drop_append_of_le_length (by rw [List.length_take]; have := J.fk; omega)]
  rw [J.eq, e, splitL_app _ J.no, List.append_assoc]
  rfl
 ·have : (l.take (k + 1)).drop (k + 1) = [] := List.drop_eq_nil_of_le (by rw [List.length_take]; omega)
  rw [this]
  simp
theorem CutJ.last {c : UInt8} {l : List UInt8} {p : List (List UInt8)} {f : Nat} (J : CutJ c l p f l.length) : splitL c l = p ++ [(l.take l.length).drop f] := by
 have := J.no
 rw [List.take_length] at this ⊢
 rw [J.eq, splitL_no this]
end Go.Rd
namespace Go.Proofs.YtmpahfdiebhdbaaGreatDoor
open Go Go.HL Go.Proofs Go.Wx Go.Rd
section
variable [Lvl]
set_option maxRecDepth 100000
theorem len1_ok (h : AH) : FnT Tryz.prog 110 #[.int .u64 1] h (fun v _ => v = .int .i64 1) := by
 refine wH Tryz.func110 rfl Tryz.ntmps110 rfl ?_
 refine qE ?_
 refine qB rfl ?_
 refine qA (qD (v := .int .i64 _) rfl) ?_
 refine qE ?_
 refine qE ?_
 refine qB rfl ?_
 refine qA (qC (v := .int .u64 _) rfl) ?_
 refine qA (qK (v := .bool _) rfl) ?_
 refine wT rfl (rfl) ?_
 refine qO ?_
 refine qE ?_
 refine qE ?_
 refine qB rfl ?_
 refine qA (qC (v := .int .u64 _) rfl) ?_
 refine qA (qK (v := .bool _) rfl) ?_
 refine wT rfl (rfl) ?_
 refine qO ?_
 refine qE ?_
 refine qE ?_
 refine qB rfl ?_
 refine qA (qC (v := .int .u64 _) rfl) ?_
 refine qA (qK (v := .bool _) rfl) ?_
 refine wT rfl (rfl) ?_
 refine qO ?_
 refine qE ?_
 refine qB rfl ?_
 refine qA (qC (v := .int .i64 _) rfl) ?_
 refine qA (qC (v := .int .u64 _) rfl) ?_
 refine qA (qK (v := .int .u8 1) rfl) ?_
 refine qA (pv_stridx (c := 1) 1 rfl rfl rfl rfl rfl) ?_
 refine qA (qK (v := .int .i64 1) rfl) ?_
 refine qA (qS rfl (by omega)) ?_
 refine qA (qD (v := .int .i64 _) rfl) ?_
 refine qQ ?_
 refine qM (vs := [_]) Tryz.results110 ⟨qJ rfl rfl, trivial⟩ fun V => ?_
 exact ⟨(qR V), rfl⟩
theorem log1_ok (h : AH) : FnT Tryz.prog 109 #[.int .i64 1] h (fun v _ => v = .int .i64 0) := by
 refine wH Tryz.func109 rfl Tryz.ntmps109 rfl ?_
 refine qE ?_
 refine qB rfl ?_
 refine qA (qD (v := .int .i64 _) rfl) ?_
 refine qE ?_
 refine qB rfl ?_
 refine qA (qC (v := .int .i64 _) rfl) ?_
 refine qA (qS rfl (by omega)) ?_
 refine qA (qK (v := .int .i64 0) rfl) ?_
 refine qA (qD (v := .int .i64 _) rfl) ?_
 refine qQ ?_
 refine qM (vs := [_]) Tryz.results109 ⟨qJ rfl rfl, trivial⟩ fun V => ?_
 exact ⟨(qR V), rfl⟩
theorem bool2_ok (b : Bool) (h : AH) : FnT Tryz.prog 111 #[.bool b] h (fun v _ => v = .int .i64 (if b then 1 else 0)) := by
 refine wH Tryz.func111 rfl Tryz.ntmps111 rfl ?_
 refine qE ?_
 refine qB rfl ?_
 refine qA (qD (v := .int .i64 _) rfl) ?_
 refine qE ?_
 refine qE ?_
 refine qB rfl ?_
 refine qA (qC (v := .bool _) rfl) ?_
 refine qP rfl (fun hb => ?_) (fun hb => ?_)
 ·skip
  refine qE ?_
  refine qB rfl ?_
  refine qA (qD (v := .int .i64 _) rfl) ?_
  refine qQ ?_
  refine qM (vs := [_]) Tryz.results111 ⟨qJ rfl rfl, trivial⟩ fun V => ?_
  exact ⟨(qR V), intE (by rw [hb]; rfl)⟩
 ·skip
  refine qO ?_
  refine qE ?_
  refine qB rfl ?_
  refine qA (qD (v := .int .i64 _) rfl) ?_
  refine qQ ?_
  refine qM (vs := [_]) Tryz.results111 ⟨qJ rfl rfl, trivial⟩ fun V => ?_
  exact ⟨(qR V), intE (by rw [hb]; rfl)⟩
theorem digits1_ok (h : AH) (PW : Pow h) : FnT Tryz.prog 102 #[.int .u64 1] h (fun v _ => v = .int .i64 1) := by
 refine wH Tryz.func102 rfl Tryz.ntmps102 rfl ?_
 refine qE ?_
 refine qB rfl ?_
 refine qA (qD (v := .int .i64 _) rfl) ?_
 refine qE ?_
 refine qB rfl ?_
 refine qA (qC (v := .int .u64 _) rfl) ?_
 refine wJ (caps := []) (vs := [.int .u64 _]) rfl rfl rfl (len1_ok h) ?_
 rintro _ h1 E1 rfl
 refine wJ (caps := []) (vs := [.int .i64 _]) rfl rfl rfl (log1_ok h1) ?_
 rintro _ h2 E2 rfl
 refine qA (qD (v := .int .i64 _) rfl) ?_
 refine qE ?_
 refine qB rfl ?_
 refine qA (qC (v := .int .i64 _) rfl) ?_
 refine qA (qC (v := .int .u64 _) rfl) ?_
 refine qA (qC (v := .int .i64 _) rfl) ?_
 refine qA (pv_indexA rfl rfl rfl rfl (by omega) (by omega)) ?_
 obtain ⟨g, off, hA, hc⟩ := (PW.ext (zL E1 E2)) (by decide)
 cases hA
 refine wL (v := .int .u64 _) rfl rfl ((hc) 0 _ rfl) ?_
 refine qA (qK (v := .bool _) rfl) ?_
 refine wJ (caps := []) (vs := [.bool _]) rfl rfl rfl (bool2_ok _ h2) ?_
 rintro _ h3 E3 rfl
 refine qA (qS rfl (by omega)) ?_
 refine qA (qD (v := .int .i64 _) rfl) ?_
 refine qQ ?_
 refine qM (vs := [_]) Tryz.results102 ⟨qJ rfl rfl, trivial⟩ fun V => ?_
 exact ⟨(zL (zL (zL E1 E2) E3) (qR V)), rfl⟩
def zer24 : List Value := List.replicate 24 (.int .u8 0)
theorem base1_ok (b : Nat) (h : AH) : FnM Tryz.prog (.func (.func 103) #[] ([] : List Value).toArray) [.slice (some ⟨b, 1, none⟩) 1 23, .int .u64 1] h [some (b, .cells zer24.toArray 159 (0, 0))]
  (fun v h' M' => M' = [some (b, .cells (zer24.set 1 (.int .u8 49)).toArray 159 (0, 0))]) := by
 refine fnM_body rfl rfl Tryz.func103 rfl Tryz.ntmps103 rfl ?_
 refine qE ?_
 refine qB rfl ?_
 refine qA (qC (v := .slice _ _ _) rfl) ?_
 refine qA (wP rfl rfl) ?_
 refine qA (qD (v := .int .i64 _) rfl) ?_
 refine qE ?_
 refine qT ?_
 refine xp_unroll ?_
 refine qE ?_
 refine qE ?_
 refine qB rfl ?_
 refine qA (qC (v := .int .i64 _) rfl) ?_
 refine qA (qK (v := .bool _) rfl) ?_
 refine wT rfl (rfl) ?_
 refine wS ?_
 refine qE ?_
 refine qB rfl ?_
 refine qA (qC (v := .int .u64 _) rfl) ?_
 refine qA (qK (v := .int .u32 1) rfl) ?_
 refine qA (qD (v := .int .u32 _) rfl) ?_
 refine qE ?_
 refine qE ?_
 refine qB rfl ?_
 refine qA (qC (v := .int .i64 _) rfl) ?_
 refine qA (qK (v := .bool _) rfl) ?_
 refine wT rfl (rfl) ?_
 refine qO ?_
 refine qE ?_
 refine qE ?_
 refine qB rfl ?_
 refine qA (qC (v := .int .i64 _) rfl) ?_
 refine qA (qK (v := .bool _) rfl) ?_
 refine wT rfl (rfl) ?_
 refine qO ?_
 refine qE ?_
 refine qB rfl ?_
 refine qA (qC (v := .int .i64 _) rfl) ?_
 refine qA (qK (v := .bool _) rfl) ?_
 refine wW rfl (rfl) ?_
 refine qB rfl ?_
 refine qA (qC (v := .slice _ _ _) rfl) ?_
 refine qA (qC (v := .int .u32 _) rfl) ?_
 refine qA (qK (v := .int .u32 49) rfl) ?_
 refine qA (qK (v := .int .u8 49) rfl) ?_
 refine qA (pv_index rfl rfl rfl rfl (by omega) (by omega)) ?_
 refine qY 0 (v := .int .u8 _) (vs := [_]) (c' := [_, _, _, _, _, _, _, _, _, _, _, _, _, _, _, _, _, _, _, _, _, _, _, _]) rfl rfl rfl rfl rfl rfl rfl rfl rfl ?_
 refine qN [_] rfl ?_
 refine qM (vs := []) Tryz.results103 trivial fun V => ?_
 exact ⟨_, _, rfl, V, (Ext.refl _), rfl⟩
theorem fmtNeg_ok (h : AH) (PW : Pow h) : FnT Tryz.prog 89 #[.int .i64 (-1), .int .i64 10] h (fun v _ => v = .string (bs (itoaL (-1)))) := by
 refine wH Tryz.func89 rfl Tryz.ntmps89 rfl ?_
 refine qE ?_
 refine qB rfl ?_
 refine qA (qD (v := .string _) rfl) ?_
 refine qE ?_
 refine qE ?_
 refine qB rfl ?_
 refine qA (qC (v := .int .i64 _) rfl) ?_
 refine qA (qK (v := .bool _) rfl) ?_
 refine wW rfl (rfl) ?_
 refine qE ?_
 refine qE ?_
 refine qB rfl ?_
 refine qA (qC (v := .int .i64 _) rfl) ?_
 refine qA (qK (v := .bool _) rfl) ?_
 refine qA (qC (v := .bool _) rfl) ?_
 refine qH rfl rfl ?_
 refine qH rfl rfl ?_
 refine qA (wI rfl rfl (v := .bool _) rfl) ?_
 refine wT rfl (rfl) ?_
 refine qO ?_
 refine qE ?_
 refine qB rfl ?_
 refine zE (cs := [_, _, _, _, _, _, _, _, _, _, _, _, _, _, _, _, _, _, _, _, _, _, _, _]) rfl rfl fun b5 hb5 => ?_
 refine qN [_] rfl ?_
 refine qE ?_
 refine qB rfl ?_
 refine qA (qC (v := .int .i64 _) rfl) ?_
 refine qA (qK (v := .int .u64 18446744073709551615) rfl) ?_
 refine qA (qD (v := .int .u64 _) rfl) ?_
 refine qE ?_
 refine qE ?_
 refine qB rfl ?_
 refine qA (qC (v := .int .i64 _) rfl) ?_
 refine qA (qK (v := .bool _) rfl) ?_
 refine wW rfl (rfl) ?_
 refine qB rfl ?_
 refine qA (qC (v := .int .u64 _) rfl) ?_
 refine qA (qK (v := .int .u64 1) rfl) ?_
 refine qA (qD (v := .int .u64 _) rfl) ?_
 refine qE ?_
 refine qB rfl ?_
 refine qA (qC (v := .int .u64 _) rfl) ?_
 refine wJ (caps := []) (vs := [.int .u64 _]) rfl rfl rfl (digits1_ok h (PW.ext (Ext.refl _))) ?_
 rintro _ h1 E1 rfl
 refine qA (qD (v := .int .i64 _) rfl) ?_
 refine qE ?_
 refine qB rfl ?_
 refine qA (qC (v := .int .i64 _) rfl) ?_
 refine qA (qS rfl (by omega)) ?_
 refine qA (pv_sliceALH 1 2 rfl (.inr ⟨_, _, rfl, rfl⟩) (.inr ⟨_, _, rfl, rfl⟩) rfl rfl (by decide) (by decide) (by decide) rfl rfl rfl) ?_
 refine qA (qC (v := .int .u64 _) rfl) ?_
 refine op_fnMM [] [_] [] (vs := _) rfl rfl rfl (base1_ok b5 h1) ?_
 rintro _ h2 _ E2 rfl
 refine qN [_] rfl ?_
 refine qE ?_
 refine qE ?_
 refine qB rfl ?_
 refine qA (qC (v := .int .i64 _) rfl) ?_
 refine qA (qK (v := .bool _) rfl) ?_
 refine wW rfl (rfl) ?_
 refine qE ?_
 refine qB rfl ?_
 refine qA (pv_indexA rfl rfl rfl rfl (by omega) (by omega)) ?_
 refine qY 0 (v := .int .u8 _) (vs := [_]) (c' := [_, _, _, _, _, _, _, _, _, _, _, _, _, _, _, _, _, _, _, _, _, _, _, _]) rfl rfl rfl rfl rfl rfl rfl rfl rfl ?_
 refine qN [_] rfl ?_
 refine qE ?_
 refine qB rfl ?_
 refine qA (qC (v := .int .i64 _) rfl) ?_
 refine qA (qS rfl (by omega)) ?_
 refine qA (pv_sliceALH 0 2 rfl (.inl ⟨rfl, rfl⟩) (.inr ⟨_, _, rfl, rfl⟩) rfl rfl (by decide) (by decide) (by decide) rfl rfl rfl) ?_
 refine op_b2s [45, 49] rfl rfl (fun V => rd_take (rdP V (i := 0) rfl) 2) rfl rfl rfl ?_
 refine qA (qD (v := .string _) rfl) ?_
 refine qQ ?_
 refine qM (vs := [_]) Tryz.results89 ⟨qJ rfl rfl, trivial⟩ fun V => ?_
 exact ⟨(zL (zL E1 E2) (qR V)), rfl⟩
end
end Go.Proofs.YtmpahfdiebhdbaaGreatDoor
namespace Go.Rd
def numL (n : Int) : List UInt8 := 47 :: itoaL n
def lineM (w : List UInt8) (l : List Int) : List UInt8 := w ++ l.flatMap numL ++ [10]
def ItoD (n : Int) : Prop := n = -1 ∨ (0 ≤ n ∧ n < 100)
theorem numL_len {n : Int} : (numL n).length ≤ 5 := Nat.succ_le_succ itoaL_len
theorem nums_len (l : List Int) : (l.flatMap numL).length ≤ 5 * l.length := by
 induction l with
 | nil => exact Nat.le_refl 0
 | cons n l ih =>
  have := numL_len (n := n)
  rw [List.flatMap_cons, List.length_append, List.length_cons]
  omega
theorem flat_take {α : Type} (f : α → List UInt8) {l : List α} {k : Nat} (hk : k < l.length) : (l.take (k + 1)).flatMap f = (l.take k).flatMap f ++ f l[k] := by
 rw [List.take_add_one, List.getElem?_eq_getElem hk, List.flatMap_append]
 show _ ++ (f l[k] ++ []) = _
 rw [List.append_nil]
end Go.Rd
namespace Go.Proofs.YtmpahfdiebhdbaaGreatDoor
open Go Go.HL Go.Proofs Go.Wx Go.Rd
section
variable [Lvl]
set_option maxRecDepth 100000
theorem fmt_ok (n : Int) (h : AH) (PW : Pow h) (hn : ItoD n) : FnT Tryz.prog 89 #[.int .i64 n, .int .i64 10] h (fun v _ => v = .string (bs (itoaL n))) := by
 rcases hn with rfl | ⟨h0, h1⟩
 ·exact fmtNeg_ok h PW
 ·obtain ⟨m, rfl⟩ : ∃ m : Nat, n = m := ⟨n.toNat, by omega⟩
  refine wH Tryz.func89 rfl Tryz.ntmps89 rfl ?_
  refine qE ?_
  refine qB rfl ?_
  refine qA (qD (v := .string _) rfl) ?_
  refine qE ?_
  refine qE ?_
  refine qB rfl ?_
  refine qA (qC (v := .int .i64 _) rfl) ?_
  refine qA (qK (v := .bool _) rfl) ?_
  refine wW rfl (rfl) ?_
  refine qE ?_
  refine qE ?_
  refine qB rfl ?_
  refine qA (qC (v := .int .i64 _) rfl) ?_
  refine qA (qK (v := .bool _) rfl) ?_
  refine qA (qC (v := .bool _) rfl) ?_
  have g0 : decide ((0 : Int) ≤ m) = true := decide_eq_true h0
  refine qF rfl g0 ?_
  refine qA (qC (v := .int .i64 _) rfl) ?_
  refine qF rfl g0 ?_
  refine qA (qK (v := .bool _) rfl) ?_
  refine qA (qZ rfl g0 (v := .bool _) rfl) ?_
  refine wW rfl (decide_eq_true h1) ?_
  refine qE ?_
  refine qB rfl ?_
  refine qA (qC (v := .int .i64 _) rfl) ?_
  refine wJ (caps := []) (vs := [.int .i64 _]) rfl rfl rfl (small_ok m h (by omega)) ?_
  rintro _ h2 E2 rfl
  refine qA (qD (v := .string _) rfl) ?_
  refine qQ ?_
  refine qM (vs := [_]) Tryz.results89 ⟨qJ rfl rfl, trivial⟩ fun V => ?_
  exact ⟨(zL E2 (qR V)), strE (by unfold itoaL; rw [if_neg (by omega)]; rfl)⟩
theorem itoa1_ok (n : Int) (h : AH) (PW : Pow h) (hn : ItoD n) : FnT Tryz.prog 73 #[.int .i64 n] h (fun v _ => v = .string (bs (itoaL n))) := by
 refine wH Tryz.func73 rfl Tryz.ntmps73 rfl ?_
 refine qE ?_
 refine qB rfl ?_
 refine qA (qD (v := .string _) rfl) ?_
 refine qE ?_
 refine qB rfl ?_
 refine qA (qC (v := .int .i64 _) rfl) ?_
 refine wJ (caps := []) (vs := [.int .i64 _, .int .i64 _]) rfl rfl rfl (fmt_ok n h (PW.ext (Ext.refl _)) hn) ?_
 rintro _ h2 E2 rfl
 refine qA (qD (v := .string _) rfl) ?_
 refine qQ ?_
 refine qM (vs := [_]) Tryz.results73 ⟨qJ rfl rfl, trivial⟩ fun V => ?_
 exact ⟨(zL E2 (qR V)), rfl⟩
theorem itoa_ok (n : Int) (h : AH) (PW : Pow h) (hn : ItoD n) : FnT Tryz.prog 54 #[.int .i64 n] h (fun v _ => v = .string (bs (itoaL n))) := by
 refine wH Tryz.func54 rfl Tryz.ntmps54 rfl ?_
 refine qE ?_
 refine qB rfl ?_
 refine qA (qD (v := .string _) rfl) ?_
 refine qE ?_
 refine qB rfl ?_
 refine qA (qC (v := .int .i64 _) rfl) ?_
 refine wJ (caps := []) (vs := [.int .i64 _]) rfl rfl rfl (itoa1_ok n h (PW.ext (Ext.refl _)) hn) ?_
 rintro _ h2 E2 rfl
 refine qA (qD (v := .string _) rfl) ?_
 refine qQ ?_
 refine qM (vs := [_]) Tryz.results54 ⟨qJ rfl rfl, trivial⟩ fun V => ?_
 exact ⟨(zL E2 (qR V)), rfl⟩
theorem line_ok (w : List UInt8) (l : List Int) (A : Option Addr) (cap : Nat) (h : AH) (PW : Pow h) (R : Row h 1 intC A l) (hn : ∀ n ∈ l, ItoD n) (hw : w.length < 100) (hl : l.length < 100) :
  FnT Tryz.prog 30 #[.string (bs w), .slice A l.length cap] h (fun v _ => v = .string (bs (lineM w l))) := by
 refine wH Tryz.func30 rfl Tryz.ntmps30 rfl ?_
 refine qE ?_
 refine qB rfl ?_
 refine qA (qD (v := .string _) rfl) ?_
 refine qE ?_
 refine qE ?_
 refine qB rfl ?_
 refine qA (qC (v := .slice _ _ _) rfl) ?_
 refine qA (wP rfl rfl) ?_
 refine qA (qC (v := .int .i64 _) rfl) ?_
 refine qT ?_
 refine zH [0, 6, 9, 10, 11, 12, 13, 14, 15, 16, 17, 18] 0 (α := Nat) (fun k => [(9, .int .i64 k), (0, .string (bs (w ++ (l.take k).flatMap numL)))]) (fun k => _) (fun k h_k => k ≤ l.length) (fun k => l.length - k) (0) ⟨rfl, strE (by simp), trivial⟩ (rfl) (Nat.zero_le _) ?_
 rintro k T1 h_k E_k J_k
 refine qU [] rfl ?_
 refine qE ?_
 refine qB rfl ?_
 refine qA (qK (v := .bool _) rfl) ?_
 refine qE ?_
 refine qP rfl (fun hk => ?_) (fun hk => ?_)
 ·skip
  have hkl : k < l.length := ltI hk
  obtain ⟨g, off, hA, hc⟩ := (R.ext E_k).at (by omega) hkl
  refine qO ?_
  refine qE ?_
  refine qT ?_
  refine qE ?_
  refine qB rfl ?_
  refine qA (wD rfl hA rfl rfl rfl (by omega) (by omega)) ?_
  refine wL (v := .int .i64 _) rfl rfl ((hc) 0 _ rfl) ?_
  refine qA (qD (v := .int .i64 _) rfl) ?_
  refine qB rfl ?_
  refine qA (qC (v := .string _) rfl) ?_
  refine qA (qC (v := .int .i64 _) rfl) ?_
  refine wJ (caps := []) (vs := [.int .i64 _]) rfl rfl rfl (itoa_ok _ h_k (PW.ext E_k) (hn _ (List.getElem_mem hkl))) ?_
  rintro _ h1 E1 rfl
  have b1 := itoaL_len (n := l[k])
  have b2 := nums_len (l.take k)
  rw [List.length_take] at b2
  refine qA (pv_cat (a := [47]) rfl rfl (by show 1 + _ < _; omega)) ?_
  refine qA (pv_cat rfl rfl (by rw [List.length_append, List.length_append]; show _ + (1 + _) < _; omega)) ?_
  refine qA (qD (v := .string _) rfl) ?_
  refine qB rfl ?_
  refine qA (qS rfl (by omega)) ?_
  refine qA (qC (v := .int .i64 _) rfl) ?_
  refine ⟨k + 1, ⟨rfl, strE (by rw [flat_take numL hkl, List.append_assoc]; rfl), trivial⟩, rfl, rfl, (zL E_k E1), fun h3 E3 => hkl, by first | omega | (dsimp only; omega), ?_⟩
  repeat (first | exact qW _ _ _ | refine wA (by decide) ?_ | refine qV rfl ?_ | refine wB rfl ?_)
 ·skip
  have hke : k = l.length := by have := geI hk; omega
  subst hke
  refine wS ?_
  refine qE ?_
  refine qB rfl ?_
  refine qA (qC (v := .string _) rfl) ?_
  have b2 := nums_len l
  refine qA (pv_cat (b := [10]) rfl rfl (by rw [List.take_length, List.length_append]; show _ + 1 < _; omega)) ?_
  refine qA (qD (v := .string _) rfl) ?_
  refine qQ ?_
  refine qM (vs := [_]) Tryz.results30 ⟨qJ rfl rfl, trivial⟩ fun V => ?_
  exact ⟨(zL E_k (qR V)), strE (by rw [List.take_length]; rfl)⟩
end
end Go.Proofs.YtmpahfdiebhdbaaGreatDoor
namespace Go.Rd
def headL (m : MachP) : List UInt8 := lineM [77] [m.rods, m.levers, m.regs, m.travel, m.opn]
def btnL (r : Int) : List UInt8 := lineM [66] [r]
def pinL (p : PinP) : List UInt8 := lineM [80] [p.rod, p.lever, p.lag]
def lnkL (l : LinkP) : List UInt8 := lineM [76] [l.frm, l.to, l.reg, l.lag]
def wgtL (w : Int) : List UInt8 := lineM [87] [w]
def wr1 (m : MachP) : List UInt8 := headL m ++ m.buttons.flatMap btnL
def wr2 (m : MachP) : List UInt8 := wr1 m ++ m.pins.flatMap pinL
def wr3 (m : MachP) : List UInt8 := wr2 m ++ m.links.flatMap lnkL
def wr4 (m : MachP) : List UInt8 := wr3 m ++ m.weights.flatMap wgtL
def writeM (m : MachP) : List UInt8 := wr4 m ++ [69, 10]
theorem lineM_len (w : List UInt8) (l : List Int) : (lineM w l).length ≤ w.length + 5 * l.length + 1 := by
 have := nums_len l
 unfold lineM
 simp only [List.length_append, List.length_cons, List.length_nil]
 omega
theorem flat_le {α : Type} (f : α → List UInt8) (q : Nat) (hq : ∀ x, (f x).length ≤ q) (l : List α) : (l.flatMap f).length ≤ q * l.length := by
 induction l with
 | nil => exact Nat.le_refl 0
 | cons n l ih =>
  have := hq n
  rw [List.flatMap_cons, List.length_append, List.length_cons, Nat.mul_succ]
  omega
theorem len1 {α : Type} (l : List α) (k : Nat) : (l.take k).length ≤ l.length := by rw [List.length_take]; omega
end Go.Rd
namespace Go.Proofs.YtmpahfdiebhdbaaGreatDoor
open Go Go.HL Go.Proofs Go.Wx Go.Rd
section
variable [Lvl]
set_option maxRecDepth 100000
def writeV (m : MachP) : Value := .tuple #[.string (bs (if chkM m = 0 then writeM m else [])), .int .i64 (chkM m)]
set_option maxHeartbeats 4000000 in
theorem Write_ok (m : MachP) (AB AQ AL AW : Option Addr) (cB cQ cL cW : Nat) (h : AH) (PW : Pow h) (R : MachR h AB AQ AL AW m) (h0 : m.weights.length < 2 ^ 40) :
  FnT Tryz.prog 9 #[machV AB AQ AL AW cB cQ cL cW m] h (fun v _ => v = writeV m) := by
 refine wH Tryz.func9 rfl Tryz.ntmps9 rfl ?_
 refine qE ?_
 refine qB rfl ?_
 refine op_box (v := .agg #[.int .i64 _, .int .i64 _, .int .i64 _, .int .i64 _, .int .i64 _, .slice _ _ _, .slice _ _ _, .slice _ _ _, .slice _ _ _]) (cs := [_, _, _, _, _, _, _, _, _]) rfl rfl fun b1 hb1 => ?_
 refine qN [_] rfl ?_
 refine qA (qD (v := .string _) rfl) ?_
 refine qA (qD (v := .int .i64 _) rfl) ?_
 refine qE ?_
 refine qE ?_
 refine qB rfl ?_
 refine wO 0 (vs := [.int .i64 _, .int .i64 _, .int .i64 _, .int .i64 _, .int .i64 _, .slice _ _ _, .slice _ _ _, .slice _ _ _, .slice _ _ _]) rfl rfl rfl rfl rfl ?_
 refine wJ (caps := []) (vs := [.agg #[.int .i64 _, .int .i64 _, .int .i64 _, .int .i64 _, .int .i64 _, .slice _ _ _, .slice _ _ _, .slice _ _ _, .slice _ _ _]]) rfl rfl rfl (Check_ok m AB AQ AL AW cB cQ cL cW h (R.ext (Ext.refl _)) h0) ?_
 rintro _ h1 E1 rfl
 refine qA (qD (v := .int .i64 _) rfl) ?_
 refine qE ?_
 refine qB rfl ?_
 refine qA (qC (v := .int .i64 _) rfl) ?_
 refine qA (qK (v := .bool _) rfl) ?_
 refine qP rfl (fun hc => ?_) (fun hc => ?_)
 ·skip
  have hc' : chkM m ≠ 0 := by simpa using hc
  refine qE ?_
  refine qB rfl ?_
  refine qA (qC (v := .int .i64 _) rfl) ?_
  refine qA (qD (v := .string _) rfl) ?_
  refine qA (qD (v := .int .i64 _) rfl) ?_
  refine qQ ?_
  refine qM (vs := [_, _]) Tryz.results9 ⟨qJ rfl rfl, qJ rfl rfl, trivial⟩ fun V => ?_
  exact ⟨(zL E1 (qR V)), by rw [writeV, if_neg hc']; rfl⟩
 ·skip
  have hc' : chkM m = 0 := by simpa using hc
  have M := check_ok hc'
  have q1 := M.rods
  have q2 := M.levers
  have q3 := M.regs
  have q4 := M.travel
  have q5 := M.opn
  have q6 := M.bl
  have q7 := M.pl
  have q8 := M.ll
  have q9 := M.wl
  refine qO ?_
  refine qE ?_
  refine qB rfl ?_
  refine qA (qG rfl rfl rfl rfl 0 rfl) ?_
  refine qL 0 (v := .int .i64 _) rfl rfl rfl rfl ?_
  refine qA (qG rfl rfl rfl rfl 1 rfl) ?_
  refine qL 0 (v := .int .i64 _) rfl rfl rfl rfl ?_
  refine qA (qG rfl rfl rfl rfl 2 rfl) ?_
  refine qL 0 (v := .int .i64 _) rfl rfl rfl rfl ?_
  refine qA (qG rfl rfl rfl rfl 3 rfl) ?_
  refine qL 0 (v := .int .i64 _) rfl rfl rfl rfl ?_
  refine qA (qG rfl rfl rfl rfl 4 rfl) ?_
  refine qL 0 (v := .int .i64 _) rfl rfl rfl rfl ?_
  refine qX (zc := [_]) (vs := [(0, .int .i64 _), (1, .int .i64 _), (2, .int .i64 _), (3, .int .i64 _), (4, .int .i64 _)]) (cs := [_, _, _, _, _]) rfl rfl rfl rfl rfl rfl rfl fun b29 hb29 => ?_
  refine qN [_, _] rfl ?_
  refine wp_pub 1 rfl rfl ?_
  intro h2 E2 hb2
  refine qN [_, _] rfl ?_
  refine wJ (caps := []) (vs := [.string _, .slice _ _ _]) rfl rfl rfl (line_ok [77] [m.rods, m.levers, m.regs, m.travel, m.opn] _ _ h2 (PW.ext (zL E1 E2)) (wX (enc := intC) (fun _ _ => rfl) hb2) (by intro n hn; simp only [List.mem_cons, List.not_mem_nil, or_false] at hn; exact .inr (by omega)) (by decide) (by show 5 < 100; decide)) ?_
  rintro _ h3 E3 rfl
  refine qA (qD (v := .string _) rfl) ?_
  refine qE ?_
  refine qE ?_
  refine qB rfl ?_
  refine qA (qG rfl rfl rfl rfl 5 rfl) ?_
  refine qL 0 (v := .slice _ _ _) rfl rfl rfl rfl ?_
  refine qA (wP rfl rfl) ?_
  refine qA (qC (v := .int .i64 _) rfl) ?_
  refine qT ?_
  have z0 := lineM_len [77] [m.rods, m.levers, m.regs, m.travel, m.opn]
  simp only [List.length_cons, List.length_nil] at z0
  refine zH [5, 7, 34, 35, 36, 37, 38, 39, 40, 41, 42, 43] 2 (α := Nat) (fun k => [(34, .int .i64 k), (5, .string (bs (headL m ++ (m.buttons.take k).flatMap btnL)))]) (fun k => _) (fun k h_k => k ≤ m.buttons.length) (fun k => m.buttons.length - k) (0) ⟨rfl, strE (by simp [headL]), trivial⟩ (rfl) (Nat.zero_le _) ?_
  rintro k T1 h_k E_k J_k
  refine qU [_, _] rfl ?_
  have z1 := flat_le btnL 7 (fun r => lineM_len [66] [r]) (m.buttons.take k)
  have z2 := len1 m.buttons k
  refine qE ?_
  refine qB rfl ?_
  refine qA (qK (v := .bool _) rfl) ?_
  refine qE ?_
  refine qP rfl (fun hk => ?_) (fun hk => ?_)
  ·skip
   have hkl : k < m.buttons.length := ltI hk
   obtain ⟨g, off, hA, hc⟩ := (R.b.ext (zL (zL (zL E1 E2) E3) E_k)).at (by omega) hkl
   refine qO ?_
   refine qE ?_
   refine qT ?_
   refine qE ?_
   refine qB rfl ?_
   refine qA (wD rfl hA rfl rfl rfl (by omega) (by omega)) ?_
   refine wL (v := .int .i64 _) rfl rfl ((hc) 0 _ rfl) ?_
   refine qA (qD (v := .int .i64 _) rfl) ?_
   refine qB rfl ?_
   refine qA (qC (v := .string _) rfl) ?_
   refine qA (qC (v := .int .i64 _) rfl) ?_
   refine qX (zc := [_]) (vs := [(0, .int .i64 _)]) (cs := [_]) rfl rfl rfl rfl rfl rfl rfl fun b40 hb40 => ?_
   refine qN [_, _, _] rfl ?_
   refine wp_pub 2 rfl rfl ?_
   intro h4 E4 hb4
   refine qN [_, _, _] rfl ?_
   refine wJ (caps := []) (vs := [.string _, .slice _ _ _]) rfl rfl rfl (line_ok [66] [m.buttons[k]] _ _ h4 (PW.ext (zL (zL (zL (zL E1 E2) E3) E_k) E4)) (wX (enc := intC) (fun _ _ => rfl) hb4) (by intro n hn; simp only [List.mem_cons, List.not_mem_nil, or_false] at hn; subst hn; have := M.btn _ (List.getElem_mem hkl); exact .inr (by omega)) (by decide) (by show 1 < 100; decide)) ?_
   rintro _ h5 E5 rfl
   have z3 := lineM_len [66] [m.buttons[k]]
   simp only [List.length_cons, List.length_nil] at z3
   refine qA (pv_cat rfl rfl (by rw [List.length_append]; unfold headL; omega)) ?_
   refine qA (qD (v := .string _) rfl) ?_
   refine qB rfl ?_
   refine qA (qS rfl (by omega)) ?_
   refine qA (qC (v := .int .i64 _) rfl) ?_
   refine ⟨k + 1, ⟨rfl, strE (by rw [flat_take btnL hkl, List.append_assoc]; rfl), trivial⟩, rfl, rfl, (zL (zL E_k E4) E5), fun h3 E3 => hkl, by first | omega | (dsimp only; omega), ?_⟩
   repeat (first | exact qW _ _ _ | refine wA (by decide) ?_ | refine qV rfl ?_ | refine wB rfl ?_)
  ·skip
   have hke : k = m.buttons.length := by have := geI hk; omega
   subst hke
   rw [List.take_length] at z1
   refine wS ?_
   refine qE ?_
   refine qE ?_
   refine qB rfl ?_
   refine qA (qG rfl rfl rfl rfl 6 rfl) ?_
   refine qL 0 (v := .slice _ _ _) rfl rfl rfl rfl ?_
   refine qA (wP rfl rfl) ?_
   refine qA (qC (v := .int .i64 _) rfl) ?_
   refine qT ?_
   have y0 : (wr1 m).length < 1000 := by unfold wr1 headL; rw [List.length_append]; omega
   refine zH [5, 9, 47, 48, 49, 50, 51, 52, 53, 54, 55, 56, 57, 58, 59, 60, 61] 2 (α := Nat) (fun k2 => [(47, .int .i64 k2), (5, .string (bs (wr1 m ++ (m.pins.take k2).flatMap pinL)))]) (fun k2 => _) (fun k2 h_k2 => k2 ≤ m.pins.length) (fun k2 => m.pins.length - k2) (0) ⟨rfl, strE (by simp [wr1, List.take_length]), trivial⟩ (rfl) (Nat.zero_le _) ?_
   rintro k2 T2 h_k2 E_k2 J_k2
   refine qU [_, _] rfl ?_
   have x1 := flat_le pinL 17 (fun r => lineM_len [80] [r.rod, r.lever, r.lag]) (m.pins.take k2)
   have x2 := len1 m.pins k2
   refine qE ?_
   refine qB rfl ?_
   refine qA (qK (v := .bool _) rfl) ?_
   refine qE ?_
   refine qP rfl (fun hk2 => ?_) (fun hk2 => ?_)
   ·skip
    have hkl : k2 < m.pins.length := ltI hk2
    obtain ⟨g, off, hA, hc⟩ := (R.q.ext (zL (zL (zL (zL E1 E2) E3) E_k) E_k2)).at (by omega) hkl
    refine qO ?_
    refine qE ?_
    refine qT ?_
    refine qE ?_
    refine qB rfl ?_
    refine qA (wD rfl hA rfl rfl rfl (by omega) (by omega)) ?_
    refine op_loadA rfl rfl rfl rfl (hc) ?_
    refine zE (cs := [_, _, _]) rfl rfl fun b9 hb9 => ?_
    refine qN [_, _, _] rfl ?_
    refine qY 2 (v := .agg #[.int .i64 _, .int .i64 _, .int .i64 _]) (vs := [_, _, _]) (c' := [_, _, _]) rfl rfl rfl rfl rfl rfl rfl rfl rfl ?_
    refine qN [_, _, _] rfl ?_
    refine qB rfl ?_
    refine qA (qC (v := .string _) rfl) ?_
    refine qA (qG rfl rfl rfl rfl 0 rfl) ?_
    refine qL 2 (v := .int .i64 _) rfl rfl rfl rfl ?_
    refine qA (qG rfl rfl rfl rfl 1 rfl) ?_
    refine qL 2 (v := .int .i64 _) rfl rfl rfl rfl ?_
    refine qA (qG rfl rfl rfl rfl 2 rfl) ?_
    refine qL 2 (v := .int .i64 _) rfl rfl rfl rfl ?_
    refine qX (zc := [_]) (vs := [(0, .int .i64 _), (1, .int .i64 _), (2, .int .i64 _)]) (cs := [_, _, _]) rfl rfl rfl rfl rfl rfl rfl fun b58 hb58 => ?_
    refine qN [_, _, _, _] rfl ?_
    refine wp_pub 3 rfl rfl ?_
    intro h4 E4 hb4
    refine qN [_, _, _, _] rfl ?_
    refine wJ (caps := []) (vs := [.string _, .slice _ _ _]) rfl rfl rfl (line_ok [80] [m.pins[k2].rod, m.pins[k2].lever, m.pins[k2].lag] _ _ h4 (PW.ext (zL (zL (zL (zL (zL E1 E2) E3) E_k) E_k2) E4)) (wX (enc := intC) (fun _ _ => rfl) hb4) (by intro n hn; simp only [List.mem_cons, List.not_mem_nil, or_false] at hn; have := M.pin _ (List.getElem_mem hkl); exact .inr (by omega)) (by decide) (by show 3 < 100; decide)) ?_
    rintro _ h5 E5 rfl
    have x3 := lineM_len [80] [m.pins[k2].rod, m.pins[k2].lever, m.pins[k2].lag]
    simp only [List.length_cons, List.length_nil] at x3
    refine qA (pv_cat rfl rfl (by rw [List.length_append]; omega)) ?_
    refine qA (qD (v := .string _) rfl) ?_
    refine qB rfl ?_
    refine qA (qS rfl (by omega)) ?_
    refine qA (qC (v := .int .i64 _) rfl) ?_
    refine ⟨k2 + 1, ⟨rfl, strE (by rw [flat_take pinL hkl, List.append_assoc]; rfl), trivial⟩, rfl, rfl, (zL (zL E_k2 E4) E5), fun h3 E3 => hkl, by first | omega | (dsimp only; omega), ?_⟩
    repeat (first | exact qW _ _ _ | refine wA (by decide) ?_ | refine qV rfl ?_ | refine wB rfl ?_)
   ·skip
    have hke : k2 = m.pins.length := by have := geI hk2; omega
    subst hke
    rw [List.take_length] at x1
    refine wS ?_
    refine qE ?_
    refine qE ?_
    refine qB rfl ?_
    refine qA (qG rfl rfl rfl rfl 7 rfl) ?_
    refine qL 0 (v := .slice _ _ _) rfl rfl rfl rfl ?_
    refine qA (wP rfl rfl) ?_
    refine qA (qC (v := .int .i64 _) rfl) ?_
    refine qT ?_
    have y1 : (wr2 m).length < 2000 := by unfold wr2; rw [List.length_append]; omega
    refine zH [5, 11, 65, 66, 67, 68, 69, 70, 71, 72, 73, 74, 75, 76, 77, 78, 79, 80, 81] 2 (α := Nat) (fun k3 => [(65, .int .i64 k3), (5, .string (bs (wr2 m ++ (m.links.take k3).flatMap lnkL)))]) (fun k3 => _) (fun k3 h_k3 => k3 ≤ m.links.length) (fun k3 => m.links.length - k3) (0) ⟨rfl, strE (by simp [wr2, List.take_length]), trivial⟩ (rfl) (Nat.zero_le _) ?_
    rintro k3 T3 h_k3 E_k3 J_k3
    refine qU [_, _] rfl ?_
    have w1 := flat_le lnkL 22 (fun r => lineM_len [76] [r.frm, r.to, r.reg, r.lag]) (m.links.take k3)
    have w2 := len1 m.links k3
    refine qE ?_
    refine qB rfl ?_
    refine qA (qK (v := .bool _) rfl) ?_
    refine qE ?_
    refine qP rfl (fun hk3 => ?_) (fun hk3 => ?_)
    ·skip
     have hkl : k3 < m.links.length := ltI hk3
     obtain ⟨g, off, hA, hc⟩ := (R.l.ext (zL (zL (zL (zL (zL E1 E2) E3) E_k) E_k2) E_k3)).at (by omega) hkl
     refine qO ?_
     refine qE ?_
     refine qT ?_
     refine qE ?_
     refine qB rfl ?_
     refine qA (wD rfl hA rfl rfl rfl (by omega) (by omega)) ?_
     refine op_loadA rfl rfl rfl rfl (hc) ?_
     refine zE (cs := [_, _, _, _]) rfl rfl fun b11 hb11 => ?_
     refine qN [_, _, _] rfl ?_
     refine qY 2 (v := .agg #[.int .i64 _, .int .i64 _, .int .i64 _, .int .i64 _]) (vs := [_, _, _, _]) (c' := [_, _, _, _]) rfl rfl rfl rfl rfl rfl rfl rfl rfl ?_
     refine qN [_, _, _] rfl ?_
     refine qB rfl ?_
     refine qA (qC (v := .string _) rfl) ?_
     refine qA (qG rfl rfl rfl rfl 0 rfl) ?_
     refine qL 2 (v := .int .i64 _) rfl rfl rfl rfl ?_
     refine qA (qG rfl rfl rfl rfl 1 rfl) ?_
     refine qL 2 (v := .int .i64 _) rfl rfl rfl rfl ?_
     refine qA (qG rfl rfl rfl rfl 2 rfl) ?_
     refine qL 2 (v := .int .i64 _) rfl rfl rfl rfl ?_
     refine qA (qG rfl rfl rfl rfl 3 rfl) ?_
     refine qL 2 (v := .int .i64 _) rfl rfl rfl rfl ?_
     refine qX (zc := [_]) (vs := [(0, .int .i64 _), (1, .int .i64 _), (2, .int .i64 _), (3, .int .i64 _)]) (cs := [_, _, _, _]) rfl rfl rfl rfl rfl rfl rfl fun b78 hb78 => ?_
     refine qN [_, _, _, _] rfl ?_
     refine wp_pub 3 rfl rfl ?_
     intro h4 E4 hb4
     refine qN [_, _, _, _] rfl ?_
     refine wJ (caps := []) (vs := [.string _, .slice _ _ _]) rfl rfl rfl (line_ok [76] [m.links[k3].frm, m.links[k3].to, m.links[k3].reg, m.links[k3].lag] _ _ h4 (PW.ext (zL (zL (zL (zL (zL (zL E1 E2) E3) E_k) E_k2) E_k3) E4)) (wX (enc := intC) (fun _ _ => rfl) hb4) (by intro n hn; simp only [List.mem_cons, List.not_mem_nil, or_false] at hn; have := M.link _ (List.getElem_mem hkl); unfold ItoD; omega) (by decide) (by show 4 < 100; decide)) ?_
     rintro _ h5 E5 rfl
     have w3 := lineM_len [76] [m.links[k3].frm, m.links[k3].to, m.links[k3].reg, m.links[k3].lag]
     simp only [List.length_cons, List.length_nil] at w3
     refine qA (pv_cat rfl rfl (by rw [List.length_append]; omega)) ?_
     refine qA (qD (v := .string _) rfl) ?_
     refine qB rfl ?_
     refine qA (qS rfl (by omega)) ?_
     refine qA (qC (v := .int .i64 _) rfl) ?_
     refine ⟨k3 + 1, ⟨rfl, strE (by rw [flat_take lnkL hkl, List.append_assoc]; rfl), trivial⟩, rfl, rfl, (zL (zL E_k3 E4) E5), fun h3 E3 => hkl, by first | omega | (dsimp only; omega), ?_⟩
     repeat (first | exact qW _ _ _ | refine wA (by decide) ?_ | refine qV rfl ?_ | refine wB rfl ?_)
    ·skip
     have hke : k3 = m.links.length := by have := geI hk3; omega
     subst hke
     rw [List.take_length] at w1
     refine wS ?_
     refine qE ?_
     refine qE ?_
     refine qB rfl ?_
     refine qA (qG rfl rfl rfl rfl 8 rfl) ?_
     refine qL 0 (v := .slice _ _ _) rfl rfl rfl rfl ?_
     refine qA (wP rfl rfl) ?_
     refine qA (qC (v := .int .i64 _) rfl) ?_
     refine qT ?_
     have y2 : (wr3 m).length < 3000 := by unfold wr3; rw [List.length_append]; omega
     refine zH [5, 13, 85, 86, 87, 88, 89, 90, 91, 92, 93, 94] 2 (α := Nat) (fun k4 => [(85, .int .i64 k4), (5, .string (bs (wr3 m ++ (m.weights.take k4).flatMap wgtL)))]) (fun k4 => _) (fun k4 h_k4 => k4 ≤ m.weights.length) (fun k4 => m.weights.length - k4) (0) ⟨rfl, strE (by simp [wr3, List.take_length]), trivial⟩ (rfl) (Nat.zero_le _) ?_
     rintro k4 T4 h_k4 E_k4 J_k4
     refine qU [_, _] rfl ?_
     have v1 := flat_le wgtL 7 (fun r => lineM_len [87] [r]) (m.weights.take k4)
     have v2 := len1 m.weights k4
     refine qE ?_
     refine qB rfl ?_
     refine qA (qK (v := .bool _) rfl) ?_
     refine qE ?_
     refine qP rfl (fun hk4 => ?_) (fun hk4 => ?_)
     ·skip
      have hkl : k4 < m.weights.length := ltI hk4
      obtain ⟨g, off, hA, hc⟩ := (R.w.ext (zL (zL (zL (zL (zL (zL E1 E2) E3) E_k) E_k2) E_k3) E_k4)).at (by omega) hkl
      refine qO ?_
      refine qE ?_
      refine qT ?_
      refine qE ?_
      refine qB rfl ?_
      refine qA (wD rfl hA rfl rfl rfl (by omega) (by omega)) ?_
      refine wL (v := .int .i64 _) rfl rfl ((hc) 0 _ rfl) ?_
      refine qA (qD (v := .int .i64 _) rfl) ?_
      refine qB rfl ?_
      refine qA (qC (v := .string _) rfl) ?_
      refine qA (qC (v := .int .i64 _) rfl) ?_
      refine qX (zc := [_]) (vs := [(0, .int .i64 _)]) (cs := [_]) rfl rfl rfl rfl rfl rfl rfl fun b91 hb91 => ?_
      refine qN [_, _, _] rfl ?_
      refine wp_pub 2 rfl rfl ?_
      intro h4 E4 hb4
      refine qN [_, _, _] rfl ?_
      refine wJ (caps := []) (vs := [.string _, .slice _ _ _]) rfl rfl rfl (line_ok [87] [m.weights[k4]] _ _ h4 (PW.ext (zL (zL (zL (zL (zL (zL (zL E1 E2) E3) E_k) E_k2) E_k3) E_k4) E4)) (wX (enc := intC) (fun _ _ => rfl) hb4) (by intro n hn; simp only [List.mem_cons, List.not_mem_nil, or_false] at hn; subst hn; have := M.wt _ (List.getElem_mem hkl); exact .inr (by omega)) (by decide) (by show 1 < 100; decide)) ?_
      rintro _ h5 E5 rfl
      have v3 := lineM_len [87] [m.weights[k4]]
      simp only [List.length_cons, List.length_nil] at v3
      refine qA (pv_cat rfl rfl (by rw [List.length_append]; omega)) ?_
      refine qA (qD (v := .string _) rfl) ?_
      refine qB rfl ?_
      refine qA (qS rfl (by omega)) ?_
      refine qA (qC (v := .int .i64 _) rfl) ?_
      refine ⟨k4 + 1, ⟨rfl, strE (by rw [flat_take wgtL hkl, List.append_assoc]; rfl), trivial⟩, rfl, rfl, (zL (zL E_k4 E4) E5), fun h3 E3 => hkl, by first | omega | (dsimp only; omega), ?_⟩
      repeat (first | exact qW _ _ _ | refine wA (by decide) ?_ | refine qV rfl ?_ | refine wB rfl ?_)
     ·skip
      have hke : k4 = m.weights.length := by have := geI hk4; omega
      subst hke
      rw [List.take_length] at v1
      refine wS ?_
      refine qE ?_
      refine qB rfl ?_
      refine qA (qC (v := .string _) rfl) ?_
      refine qA (pv_cat (b := [69, 10]) rfl rfl (by rw [List.take_length, List.length_append]; show _ + 2 < _; omega)) ?_
      refine qA (qD (v := .string _) rfl) ?_
      refine qA (qD (v := .int .i64 _) rfl) ?_
      refine qQ ?_
      refine qM (vs := [_, _]) Tryz.results9 ⟨qJ rfl rfl, qJ rfl rfl, trivial⟩ fun V => ?_
      exact ⟨(zL (zL (zL (zL (zL (zL (zL E1 E2) E3) E_k) E_k2) E_k3) E_k4) (qR V)), by rw [writeV, if_pos hc', hc']; exact congrArg (fun z => Value.tuple #[.string (bs z), .int .i64 0]) (show (wr3 m ++ (m.weights.take m.weights.length).flatMap wgtL) ++ [69, 10] = writeM m by rw [List.take_length]; rfl)⟩
end
end Go.Proofs.YtmpahfdiebhdbaaGreatDoor
namespace Go.Rd
open Go.HL
set_option linter.all false
def m0 : MachP := ⟨0, 0, 0, 0, 0, [], [], [], []⟩
def kindR (w : List UInt8) : Int × Nat := if w = [77] then (0, 5) else if w = [66] then (1, 1) else if w = [80] then (2, 3) else if w = [76] then (3, 4) else if w = [87] then (4, 1) else if w = [69] then (5, 0) else (-1, 0)
def numW (b : Bool) (x : List UInt8) : Option Int := if b = true ∧ x = [45, 49] then some (-1) else (numR x).map fun n : Nat => (n : Int)
def numsFrom (below : Int) : Nat → List (List UInt8) → Option (List Int)
 | _, [] => some []
 | i, x :: r => (numW (decide ((i : Int) = below)) x).bind fun n => (numsFrom below (i + 1) r).map (n :: ·)
def numsR (below : Int) (many : Nat) (w : List (List UInt8)) : Option (List Int) := if w.length = many then numsFrom below 0 w else none
def takeM (m : MachP) (p : Int) (l : List Int) : MachP :=
 match l with
 | [a, b, c, d, e] => if p = 0 then { m with rods := a, levers := b, regs := c, travel := d, opn := e } else m
 | [a] => if p = 1 then { m with buttons := m.buttons ++ [a] } else if p = 4 then { m with weights := m.weights ++ [a] } else m
 | [a, b, c] => if p = 2 then { m with pins := m.pins ++ [⟨a, b, c⟩] } else m
 | [a, b, c, d] => if p = 3 then { m with links := m.links ++ [⟨a, b, c, d⟩] } else m
 | _ => m
def belR (w : List UInt8) : Int := if w = [76] then 2 else -1
def rowR (first : Bool) (at_ : Int) (m : MachP) (row : List UInt8) : Option (Int × MachP) :=
 match splitL 47 row with
 | [] => none
 | w :: ws =>
  match numsR (belR w) (kindR w).2 ws with
  | none => none
  | some l => if (kindR w).1 < at_ ∨ at_ = 5 ∨ decide ((kindR w).1 = 0) ≠ first then none else some ((kindR w).1, takeM m (kindR w).1 l)
def goR : Nat → Int → MachP → List (List UInt8) → Nat × Int × MachP
 | _, at_, m, [] => (0, at_, m)
 | i, at_, m, r :: rs => match rowR (decide (i = 0)) at_ m r with | none => (i + 1, at_, m) | some s => goR (i + 1) s.1 s.2 rs
theorem goR_cons (i : Nat) (at_ : Int) (m : MachP) (r : List UInt8) (rs : List (List UInt8)) : goR i at_ m (r :: rs) = match rowR (decide (i = 0)) at_ m r with | none => (i + 1, at_, m) | some s => goR (i + 1) s.1 s.2 rs := rfl
def readM (t : List UInt8) : MachP × Int × Int :=
 if t.length > 400 then (m0, 0, 10) else
 let rows := splitL 10 t
 let g := goR 0 (-1) m0 rows.dropLast
 if g.1 ≠ 0 then (m0, g.1, 2) else if g.2.1 ≠ 5 ∨ rows.getLast? ≠ some [] then (m0, rows.length, 2) else if chkM g.2.2 ≠ 0 then (m0, 0, chkM g.2.2) else (g.2.2, 0, 0)
theorem numW_some {b : Bool} {x : List UInt8} {n : Int} (h : numW b x = some n) : itoaL n = x ∧ ((0 ≤ n ∧ n < 1000) ∨ (b = true ∧ n = -1)) := by
 unfold numW at h
 split at h
 ·rename_i hb
  cases h
  exact ⟨hb.2.symm, .inr ⟨hb.1, rfl⟩⟩
 ·obtain ⟨k, h1, h2⟩ := Option.map_eq_some_iff.1 h
  obtain ⟨_, _, a3, a4⟩ := of_numR h1
  subst h2
  exact ⟨a3, .inl ⟨by omega, by omega⟩⟩
theorem numsFrom_some {below : Int} : ∀ {i : Nat} {ws : List (List UInt8)} {l : List Int}, numsFrom below i ws = some l → ws = l.map itoaL
 | i, [], l, h => by cases h; rfl
 | i, x :: r, l, h => by
  unfold numsFrom at h
  obtain ⟨n, h1, h2⟩ := Option.bind_eq_some_iff.1 h
  obtain ⟨l', h3, h4⟩ := Option.map_eq_some_iff.1 h2
  subst h4
  rw [List.map_cons, (numW_some h1).1, ← numsFrom_some h3]
theorem numsFrom_len {below : Int} {i : Nat} {ws : List (List UInt8)} {l : List Int} (h : numsFrom below i ws = some l) : l.length = ws.length := by rw [numsFrom_some h, List.length_map]
theorem numsFrom_snoc {below : Int} {x : List UInt8} : ∀ {i : Nat} {ws : List (List UInt8)}, numsFrom below i (ws ++ [x]) = (numsFrom below i ws).bind fun l => (numW (decide (((i + ws.length : Nat) : Int) = below)) x).map fun n => l ++ [n]
 | i, [] => by
  show (numW _ x).bind _ = _
  simp only [numsFrom, Option.bind_some, List.length_nil, Nat.add_zero]
  cases numW (decide ((i : Int) = below)) x <;> rfl
 | i, y :: ws => by
  rw [List.cons_append]
  unfold numsFrom
  rw [numsFrom_snoc]
  have e : i + 1 + ws.length = i + (y :: ws).length := by rw [List.length_cons]; omega
  rw [e]
  cases numW (decide ((i : Int) = below)) y with
  | none => rfl
  | some n =>
   simp only [Option.bind_some]
   cases numsFrom below (i + 1) ws with
   | none => rfl
   | some l =>
    simp only [Option.bind_some, Option.map_some]
    cases numW (decide (((i + (y :: ws).length : Nat) : Int) = below)) x <;> rfl
theorem numsFrom_more {below : Int} : ∀ (b : List (List UInt8)) {i : Nat} {a : List (List UInt8)}, numsFrom below i a = none → numsFrom below i (a ++ b) = none
 | b, i, [], h => by cases h
 | b, i, y :: a, h => by
  rw [List.cons_append]
  unfold numsFrom at h ⊢
  cases hy : numW (decide ((i : Int) = below)) y with
  | none => rfl
  | some n =>
   rw [hy] at h
   simp only [Option.bind_some, Option.map_eq_none_iff] at h ⊢
   exact numsFrom_more b h
theorem nums_step {below : Int} {w : List (List UInt8)} {k : Nat} {L : List Int} (hk : k < w.length) (h : numsFrom below 0 (w.take k) = some L) : numsFrom below 0 (w.take (k + 1)) = (numW (decide ((k : Int) = below)) w[k]).map fun n => L ++ [n] := by
 rw [List.take_add_one, List.getElem?_eq_getElem hk]
 show numsFrom below 0 (w.take k ++ [w[k]]) = _
 rw [numsFrom_snoc, h, Option.bind_some]
 have : 0 + (w.take k).length = k := by rw [List.length_take]; omega
 rw [this]
theorem nums_stop {below : Int} {w : List (List UInt8)} {k : Nat} (h : numsFrom below 0 (w.take k) = none) : numsFrom below 0 w = none := by
 have := numsFrom_more (w.drop k) h
 rwa [List.take_append_drop] at this
structure Sfar (m : MachP) (at_ : Int) : Prop where
 lo : -1 ≤ at_
 b : at_ < 1 → m.buttons = []
 p : at_ < 2 → m.pins = []
 l : at_ < 3 → m.links = []
 w : at_ < 4 → m.weights = []
end Go.Rd
namespace Go.Proofs.YtmpahfdiebhdbaaGreatDoor
open Go Go.HL Go.Proofs Go.Wx Go.Rd
theorem u8_beqD {l : List UInt8} {k : Nat} {c : UInt8} (hk : k < l.length) (hne : ¬ k = l.length) : ((l[k].toNat : Int) == (c.toNat : Int)) = decide (k = l.length ∨ l[k]? = some c) := by
 rw [List.getElem?_eq_getElem hk]
 by_cases h : l[k] = c
 ·rw [h, decide_eq_true (.inr rfl)]; simp
 ·rw [decide_eq_false (by rintro (e | e); exact hne e; exact h (Option.some.inj e))]
  have : ¬ (l[k].toNat : Int) = (c.toNat : Int) := fun e => h (UInt8.toNat_inj.1 (Int.ofNat.inj e))
  simpa using this
theorem cut_next {c : UInt8} {l : List UInt8} {p : List (List UInt8)} {f k : Nat} (J : CutJ c l p f k) (hc : k = l.length ∨ l[k]? = some c) : CutJ c l (p ++ [(l.take k).drop f]) (k + 1) (k + 1) ∨ (k + 1 = l.length + 1 ∧ p ++ [(l.take k).drop f] = splitL c l) := by
 by_cases hk : k < l.length
 ·have : l[k]? = some c := hc.resolve_left (by omega)
  rw [List.getElem?_eq_getElem hk] at this
  exact .inl (J.cut hk (Option.some.inj this))
 ·have hkl := J.kl
  have hke : k = l.length := by omega
  subst hke
  exact .inr ⟨rfl, J.last.symm⟩
theorem cut_len {c : UInt8} {l : List UInt8} {p : List (List UInt8)} {f k : Nat} (J : CutJ c l p f k) (hc : k = l.length ∨ l[k]? = some c) : (p ++ [(l.take k).drop f]).length ≤ l.length + 1 := by
 have h1 := splitL_len c l
 have h2 := cnt_le c l
 rcases cut_next J hc with J2 | ⟨_, e⟩
 ·rw [J2.eq, List.length_append] at h1
  omega
 ·rw [e]
  omega
section
variable [Lvl]
theorem acc_cap {e : TypeId} {m : Nat} {cs : List Value} {a : Acc} (r : AccR e (m + 1) cs a) : a.n ≤ a.c := by
 rcases r with ⟨_, _, A, h⟩ | ⟨b, len, cap, junk, h1, h2, _, h4⟩
 ·simp only [Value.slice.injEq] at h
  omega
 ·simp only [Value.slice.injEq] at h2
  rw [List.length_append, h1] at h4
  have : len * (m + 1) ≤ cap * (m + 1) := by omega
  have := Nat.le_of_mul_le_mul_right this (by omega)
  omega
set_option maxRecDepth 100000
theorem splitR_ok (l : List UInt8) (c : UInt8) (h : AH) (hl : l.length < 2 ^ 20) : FnT Tryz.prog 37 #[.string (bs l), .int .u8 c.toNat] h (fun v h' => ∃ A cap, v = .slice A (splitL c l).length cap ∧ Row h' 1 strC A (splitL c l) ∧ (splitL c l).length ≤ cap) := by
 have hcl := cnt_le c l
 have hsl := splitL_len c l
 refine wH Tryz.func37 rfl Tryz.ntmps37 rfl ?_
 refine qE ?_
 refine qB rfl ?_
 refine qA (qD (v := .slice _ _ _) rfl) ?_
 refine qE ?_
 refine qB rfl ?_
 refine qA (qD (v := .slice _ _ _) rfl) ?_
 refine qE ?_
 refine qB rfl ?_
 refine qA (qD (v := .int .i64 _) rfl) ?_
 refine qE ?_
 refine qE ?_
 refine qB rfl ?_
 refine qA (qD (v := .int .i64 _) rfl) ?_
 refine qT ?_
 refine goes_more ?_
 refine qU [_] rfl ?_
 refine xp_loopL [5, 6, 7, 8, 9, 10, 11, 12, 13, 14, 15, 16, 17, 18, 19, 20, 21, 22, 23, 24, 25, 26, 27, 28, 29, 30, 31, 32, 33] 1 (α := Nat × Nat × Acc × List (List UInt8)) (fun ⟨k, f, a, p⟩ => [(7, .int .i64 k), (6, .int .i64 f), (5, .slice a.A a.n a.c)]) (fun ⟨k, f, a, p⟩ L => L.set 0 (a.p)) (fun ⟨k, f, a, p⟩ h_k => AccR 9 1 (p.flatMap strC) a ∧ ((CutJ c l p f k) ∨ (k = l.length + 1 ∧ p = splitL c l)) ∧ p.length ≤ l.length + 1 ∧ p.length ≤ k ∧ f ≤ k ∧ a.n ≤ a.c) (fun ⟨k, f, a, p⟩ => l.length + 1 - k) ((0, 0, acc0, [])) ⟨rfl, rfl, rfl, trivial⟩ (rfl) (⟨accR0, .inl (CutJ.init c l), Nat.zero_le _, Nat.zero_le _, Nat.le_refl _, Nat.le_refl _⟩) ?_
 rintro ⟨k, f, a, p⟩ T1 h_k E_k J_k
 refine qU [_] rfl ?_
 obtain ⟨KA, KJ, KP, KK, KF, KC⟩ := J_k
 have hfl : (p.flatMap strC).length = p.length := by rw [wU (m := 1) (fun _ _ => rfl)]; omega
 have hkl : k ≤ l.length + 1 := by
  rcases KJ with J | ⟨e, _⟩
  ·have := J.kl; omega
  ·omega
 refine qE ?_
 refine qE ?_
 refine qB rfl ?_
 refine qA (qC (v := .int .i64 _) rfl) ?_
 refine qA (qC (v := .string _) rfl) ?_
 refine qA (zF rfl rfl) ?_
 refine qA (qK (v := .bool _) rfl) ?_
 refine qP rfl (fun hk => ?_) (fun hk => ?_)
 ·skip
  have hkl2 : k ≤ l.length := by have := of_decide_eq_true hk; omega
  have J : CutJ c l p f k := by
   rcases KJ with J | ⟨e, _⟩
   ·exact J
   ·omega
  refine qO ?_
  refine qE ?_
  refine qT ?_
  refine xp_cutB [14, 15, 16, 17, 18, 19, 20, 21, 22, 23, 24] 1 (α := Unit) (fun u => [(24, .bool (decide (k = l.length ∨ l[k]? = some c)))]) (fun u L => L) (fun u h_u => True) ?_ ?_
  ·skip
   by_cases hke : k = l.length
   ·have hg : ((k : Int) == (l.length : Int)) = true := by rw [hke]; simp
    refine qB rfl ?_
    refine qA (qC (v := .int .i64 _) rfl) ?_
    refine qA (qC (v := .string _) rfl) ?_
    refine qA (zF rfl rfl) ?_
    refine qA (qK (v := .bool _) rfl) ?_
    refine qA (qC (v := .bool _) rfl) ?_
    refine qH rfl hg ?_
    refine qH rfl hg ?_
    refine qH rfl hg ?_
    refine qH rfl hg ?_
    refine qH rfl hg ?_
    refine qA (qZ rfl hg (v := .bool _) rfl) ?_
    refine ⟨(), ⟨boolE (decide_eq_true (.inl hke)).symm, trivial⟩, rfl, rfl, (Ext.refl _), fun h3 E3 => by first | trivial | omega | (refine ⟨?_, ?_⟩ <;> omega), ?_⟩
    repeat (first | exact wQ _ _ | exact qW _ _ _ | refine wA (by decide) ?_ | refine qV rfl ?_ | refine wB rfl ?_)
   ·skip
    have hklt : k < l.length := by omega
    have hg : ((k : Int) == (l.length : Int)) = false := by
     have : ¬ (k : Int) = (l.length : Int) := by omega
     simpa using this
    refine qB rfl ?_
    refine qA (qC (v := .int .i64 _) rfl) ?_
    refine qA (qC (v := .string _) rfl) ?_
    refine qA (zF rfl rfl) ?_
    refine qA (qK (v := .bool _) rfl) ?_
    refine qA (qC (v := .bool _) rfl) ?_
    refine qF rfl hg ?_
    refine qA (qC (v := .string _) rfl) ?_
    refine qF rfl hg ?_
    refine qA (qC (v := .int .i64 _) rfl) ?_
    refine qF rfl hg ?_
    refine qA (pv_stridx (c := l[k]) k rfl rfl rfl rfl (List.getElem?_eq_getElem hklt)) ?_
    refine qF rfl hg ?_
    refine qA (qC (v := .int .u8 _) rfl) ?_
    refine qF rfl hg ?_
    refine qA (qK (v := .bool _) rfl) ?_
    refine qA (wI rfl hg (v := .bool _) rfl) ?_
    refine ⟨(), ⟨boolE (u8_beqD hklt hke), trivial⟩, rfl, rfl, (Ext.refl _), fun h3 E3 => by first | trivial | omega | (refine ⟨?_, ?_⟩ <;> omega), ?_⟩
    repeat (first | exact wQ _ _ | exact qW _ _ _ | refine wA (by decide) ?_ | refine qV rfl ?_ | refine wB rfl ?_)
  ·rintro u T2 h_u E_u J_u
   refine qU [_] rfl ?_
   refine qP rfl (fun hc => ?_) (fun hc => ?_)
   ·skip
    have hc' := of_decide_eq_true hc
    have hfk := J.fk
    refine qE ?_
    refine qB rfl ?_
    refine qA (qC (v := .slice _ _ _) rfl) ?_
    refine qA (qC (v := .string _) rfl) ?_
    refine qA (qC (v := .int .i64 _) rfl) ?_
    refine qA (qC (v := .int .i64 _) rfl) ?_
    refine qA (pv_strcut f k rfl rfl (.inr ⟨_, _, rfl, rfl⟩) (.inr ⟨_, _, rfl, rfl⟩) hfk hkl2) ?_
    refine qX (zc := [_]) (vs := [(0, .string _)]) (cs := [_]) rfl rfl rfl rfl rfl rfl rfl fun b30 hb30 => ?_
    refine qN [_, _] rfl ?_
    refine zA 0 KA rfl rfl rfl (fun V => rdP V (i := 1) rfl) rfl rfl rfl rfl rfl rfl rfl rfl rfl (by omega) rfl (by rw [hfl]; simp only [List.length_cons, List.length_nil]; omega) fun a2 h3a E3a ha2 => ?_
    refine qN [_, _] rfl ?_
    refine qA (qD (v := .slice _ _ _) rfl) ?_
    refine qB rfl ?_
    refine qA (qC (v := .int .i64 _) rfl) ?_
    refine qA (qS rfl (by omega)) ?_
    refine qA (qD (v := .int .i64 _) rfl) ?_
    refine qB rfl ?_
    refine qA (qC (v := .int .i64 _) rfl) ?_
    refine qA (qS rfl (by omega)) ?_
    refine qA (qD (v := .int .i64 _) rfl) ?_
    have hlen2 := ha2.len
    refine ⟨(k + 1, k + 1, a2, p ++ [(l.take k).drop f]), ⟨rfl, rfl, rfl, trivial⟩, rfl, rfl, (zL (zL E_k E_u) E3a), fun h3 E3 => ⟨by rw [List.flatMap_append]; exact ha2, cut_next J hc', cut_len J hc', by rw [List.length_append]; show p.length + 1 ≤ _; omega, Nat.le_refl _, acc_cap ha2⟩, by first | omega | (dsimp only; omega), ?_⟩
    repeat (first | exact qW _ _ _ | refine wA (by decide) ?_ | refine qV rfl ?_ | refine wB rfl ?_)
   ·skip
    have hc' : ¬ (k = l.length ∨ l[k]? = some c) := of_decide_eq_false hc
    have hklt : k < l.length := by omega
    refine qO ?_
    refine qB rfl ?_
    refine qA (qC (v := .int .i64 _) rfl) ?_
    refine qA (qS rfl (by omega)) ?_
    refine qA (qD (v := .int .i64 _) rfl) ?_
    refine ⟨(k + 1, f, a, p), ⟨rfl, rfl, rfl, trivial⟩, rfl, rfl, (zL E_k E_u), fun h3 E3 => ⟨KA, .inl (J.pass hklt fun e => hc' (.inr (by rw [List.getElem?_eq_getElem hklt, e]))), KP, by omega, by omega, KC⟩, by first | omega | (dsimp only; omega), ?_⟩
    repeat (first | exact qW _ _ _ | refine wA (by decide) ?_ | refine qV rfl ?_ | refine wB rfl ?_)
 ·skip
  have hke : k = l.length + 1 := by have := of_decide_eq_false hk; omega
  have hp : p = splitL c l := by
   rcases KJ with J | ⟨_, e⟩
   ·have := J.kl; omega
   ·exact e
  subst hp
  refine wS ?_
  refine qE ?_
  refine qB rfl ?_
  refine qA (qC (v := .slice _ _ _) rfl) ?_
  refine qA (qD (v := .slice _ _ _) rfl) ?_
  refine qQ ?_
  refine qM (vs := [_]) Tryz.results37 ⟨qJ rfl rfl, trivial⟩ fun V => ?_
  have hal := KA.len
  obtain ⟨A9, c9, e9, R9⟩ := AccP.row (m := 1) (enc := strC) (i := 0) (l := splitL c l) KA (by omega) (fun _ _ => rfl) V rfl
  refine ⟨(zL E_k (qR V)), A9, c9, e9, R9, ?_⟩
  simp only [Value.slice.injEq] at e9
  omega
theorem kindR_ok (w : List UInt8) (h : AH) : FnT Tryz.prog 38 #[.string (bs w)] h (fun v _ => v = .tuple #[.int .i64 (kindR w).1, .int .i64 ((kindR w).2 : Int)]) := by
 refine wH Tryz.func38 rfl Tryz.ntmps38 rfl ?_
 refine qE ?_
 refine qB rfl ?_
 refine qA (qD (v := .int .i64 _) rfl) ?_
 refine qA (qD (v := .int .i64 _) rfl) ?_
 refine qE ?_
 refine qE ?_
 refine qB rfl ?_
 refine qA (qC (v := .string _) rfl) ?_
 refine qT ?_
 refine qE ?_
 refine qB rfl ?_
 refine qA (pv_streq rfl rfl) ?_
 refine qA (qD (v := .bool _) rfl) ?_
 refine qP rfl (fun h77 => ?_) (fun h77 => ?_)
 ·skip
  have q : w = [77] := of_decide_eq_true h77
  subst q
  refine qE ?_
  refine qB rfl ?_
  refine qA (qD (v := .int .i64 _) rfl) ?_
  refine qA (qD (v := .int .i64 _) rfl) ?_
  refine qQ ?_
  refine qM (vs := [_, _]) Tryz.results38 ⟨qJ rfl rfl, qJ rfl rfl, trivial⟩ fun V => ?_
  exact ⟨(qR V), rfl⟩
 ·skip
  have q77 : ¬ w = [77] := of_decide_eq_false h77
  refine qE ?_
  refine qB rfl ?_
  refine qA (pv_streq rfl rfl) ?_
  refine qA (qD (v := .bool _) rfl) ?_
  refine qP rfl (fun h66 => ?_) (fun h66 => ?_)
  ·skip
   have q : w = [66] := of_decide_eq_true h66
   subst q
   refine qE ?_
   refine qB rfl ?_
   refine qA (qD (v := .int .i64 _) rfl) ?_
   refine qA (qD (v := .int .i64 _) rfl) ?_
   refine qQ ?_
   refine qM (vs := [_, _]) Tryz.results38 ⟨qJ rfl rfl, qJ rfl rfl, trivial⟩ fun V => ?_
   exact ⟨(qR V), rfl⟩
  ·skip
   have q66 : ¬ w = [66] := of_decide_eq_false h66
   refine qE ?_
   refine qB rfl ?_
   refine qA (pv_streq rfl rfl) ?_
   refine qA (qD (v := .bool _) rfl) ?_
   refine qP rfl (fun h80 => ?_) (fun h80 => ?_)
   ·skip
    have q : w = [80] := of_decide_eq_true h80
    subst q
    refine qE ?_
    refine qB rfl ?_
    refine qA (qD (v := .int .i64 _) rfl) ?_
    refine qA (qD (v := .int .i64 _) rfl) ?_
    refine qQ ?_
    refine qM (vs := [_, _]) Tryz.results38 ⟨qJ rfl rfl, qJ rfl rfl, trivial⟩ fun V => ?_
    exact ⟨(qR V), rfl⟩
   ·skip
    have q80 : ¬ w = [80] := of_decide_eq_false h80
    refine qE ?_
    refine qB rfl ?_
    refine qA (pv_streq rfl rfl) ?_
    refine qA (qD (v := .bool _) rfl) ?_
    refine qP rfl (fun h76 => ?_) (fun h76 => ?_)
    ·skip
     have q : w = [76] := of_decide_eq_true h76
     subst q
     refine qE ?_
     refine qB rfl ?_
     refine qA (qD (v := .int .i64 _) rfl) ?_
     refine qA (qD (v := .int .i64 _) rfl) ?_
     refine qQ ?_
     refine qM (vs := [_, _]) Tryz.results38 ⟨qJ rfl rfl, qJ rfl rfl, trivial⟩ fun V => ?_
     exact ⟨(qR V), rfl⟩
    ·skip
     have q76 : ¬ w = [76] := of_decide_eq_false h76
     refine qE ?_
     refine qB rfl ?_
     refine qA (pv_streq rfl rfl) ?_
     refine qA (qD (v := .bool _) rfl) ?_
     refine qP rfl (fun h87 => ?_) (fun h87 => ?_)
     ·skip
      have q : w = [87] := of_decide_eq_true h87
      subst q
      refine qE ?_
      refine qB rfl ?_
      refine qA (qD (v := .int .i64 _) rfl) ?_
      refine qA (qD (v := .int .i64 _) rfl) ?_
      refine qQ ?_
      refine qM (vs := [_, _]) Tryz.results38 ⟨qJ rfl rfl, qJ rfl rfl, trivial⟩ fun V => ?_
      exact ⟨(qR V), rfl⟩
     ·skip
      have q87 : ¬ w = [87] := of_decide_eq_false h87
      refine qE ?_
      refine qB rfl ?_
      refine qA (pv_streq rfl rfl) ?_
      refine qA (qD (v := .bool _) rfl) ?_
      refine qP rfl (fun h69 => ?_) (fun h69 => ?_)
      ·skip
       have q : w = [69] := of_decide_eq_true h69
       subst q
       refine qE ?_
       refine qB rfl ?_
       refine qA (qD (v := .int .i64 _) rfl) ?_
       refine qA (qD (v := .int .i64 _) rfl) ?_
       refine qQ ?_
       refine qM (vs := [_, _]) Tryz.results38 ⟨qJ rfl rfl, qJ rfl rfl, trivial⟩ fun V => ?_
       exact ⟨(qR V), rfl⟩
      ·skip
       have q69 : ¬ w = [69] := of_decide_eq_false h69
       refine qO ?_
       refine qE ?_
       refine qB rfl ?_
       refine qA (qD (v := .int .i64 _) rfl) ?_
       refine qA (qD (v := .int .i64 _) rfl) ?_
       refine qQ ?_
       refine qM (vs := [_, _]) Tryz.results38 ⟨qJ rfl rfl, qJ rfl rfl, trivial⟩ fun V => ?_
       exact ⟨(qR V), by unfold kindR; rw [if_neg q77, if_neg q66, if_neg q80, if_neg q76, if_neg q87, if_neg q69]; rfl⟩
end
end Go.Proofs.YtmpahfdiebhdbaaGreatDoor
namespace Go.HL
open Go
variable [Lvl]
end Go.HL
namespace Go.HL
open Go
variable [Lvl]
section
variable {P : Program} {n : Nat} {d : Option Tmp} {ty : TypeId} {ps : String} {af : Array Edge} {S : Sl} {t u : TypeId} {x y : Operand}
theorem pv_remT {a b : Int} (hx : ev n S x = .int .i64 a) (hy : ev n S y = .int .i64 b) (hb : b ≠ 0) :
  pev P (execOp (ev n S) ⟨d, .binOp .rem t x y u, ty, ps, af, none⟩) = some (.value (.int .i64 (a.tmod b))) := by
 simp only [execOp, hx, hy, binOp, Op.intDiv, if_neg hb]
 rfl
theorem pv_quoT {a b c : Int} (hx : ev n S x = .int .i64 a) (hy : ev n S y = .int .i64 b) (hb : b ≠ 0) (hc : a.tdiv b = c) (h : -2 ^ 63 ≤ c ∧ c < 2 ^ 63) :
  pev P (execOp (ev n S) ⟨d, .binOp .quo t x y u, ty, ps, af, none⟩) = some (.value (.int .i64 c)) := by
 subst hc
 have e : IntKind.wrap .i64 (a.tdiv b) = a.tdiv b := IntWalk.i64_in _ ⟨by omega, by omega⟩
 simp only [execOp, hx, hy, binOp, Op.intDiv, if_neg hb, e]
 rfl
end
end Go.HL
namespace Go.HL
open Go
variable [Lvl]
section
variable {P : Program} {n : Nat} {d : Option Tmp} {ty : TypeId} {ps : String} {af : Array Edge} {S : Sl} {t u : TypeId} {x y : Operand}
theorem pv_shrU {q : IntKind} (a k : Nat) {a' y' : Int} (hx : ev n S x = .int .u64 a') (hy : ev n S y = .int q y') (ea : a' = a) (ek : y' = k) (hk : k < 64) :
  pev P (execOp (ev n S) ⟨d, .binOp .shr t x y u, ty, ps, af, none⟩) = some (.value (.int .u64 ((a / 2 ^ k : Nat) : Int))) := by
 subst ea ek
 have e : (a : Int).fdiv (2 ^ (min ((k : Int).toNat) (IntKind.bits .u64))) = ((a / 2 ^ k : Nat) : Int) := by
  rw [show min ((k : Int).toNat) (IntKind.bits .u64) = k from by simp [IntKind.bits]; omega]
  rw [Int.fdiv_eq_ediv_of_nonneg _ (by exact_mod_cast Nat.zero_le (2 ^ k))]
  push_cast; rfl
 have hn : ¬ (k : Int) < 0 := by omega
 simp only [execOp, hx, hy, binOp, Op.shift, if_neg hn, e]
 rfl
end
section
variable {P : Program} {n : Nat} {ops : Array Oper} {os : List Oper} {K : Sl → Pv → AH → Prop} {E : Value → Sl → Pv → AH → Prop} {S : Sl} {L : Pv} {h : AH} {d : Option Tmp} {ty : TypeId} {ps : String} {af : Array Edge} {α : Type} [DecidableEq α] {kt : TypeId} {enc : α → Value}
end
end Go.HL
namespace Go.Rd
def bl (n : Nat) : Nat := if n < 1 then 0 else if n < 2 then 1 else if n < 4 then 2 else if n < 8 then 3 else if n < 16 then 4 else if n < 32 then 5 else if n < 64 then 6 else if n < 128 then 7 else 8
def len8L : List UInt8 := (List.range 256).map fun i => UInt8.ofNat (bl i)
theorem len8_at : ∀ i, i < 256 → len8L[i]? = some (UInt8.ofNat (bl i)) := by decide +kernel
def bl64 (n : Nat) : Nat := if n < 256 then bl n else 8 + bl (n / 256)
theorem bl_le (n : Nat) : bl n ≤ 8 := by unfold bl; repeat (first | omega | split)
theorem bl_u8 (n : Nat) : (UInt8.ofNat (bl n)).toNat = bl n := by
 have := bl_le n
 rw [UInt8.toNat_ofNat']
 omega
def nd0 (n : Nat) : Nat := bl64 n * 78913 / 2 ^ 18
def ndg (n : Nat) : Nat := if n < 10 then 1 else if n < 100 then 2 else 3
theorem nd_all : ∀ n, n < 1000 → 1 ≤ n → nd0 n < 4 ∧ nd0 n + (if n ≥ 10 ^ nd0 n then 1 else 0) = ndg n := by decide +kernel
theorem smalls_two : ∀ i, i < 100 → smallsL[i * 2]? = some (dig (i / 10)) ∧ smallsL[i * 2 + 1]? = some (dig (i % 10)) := by decide +kernel
theorem dig_nat : ∀ k, k < 10 → (dig k).toNat = 48 + k := by decide +kernel
end Go.Rd
namespace Go.Proofs.YtmpahfdiebhdbaaGreatDoor
open Go Go.HL Go.Proofs Go.Wx Go.Rd
section
variable [Lvl]
set_option maxRecDepth 100000
theorem len64_ok (n : Nat) (h : AH) (hn : n < 1000) : FnT Tryz.prog 110 #[.int .u64 (n : Int)] h (fun v _ => v = .int .i64 (bl64 n : Int)) := by
 refine wH Tryz.func110 rfl Tryz.ntmps110 rfl ?_
 refine qE ?_
 refine qB rfl ?_
 refine qA (qD (v := .int .i64 _) rfl) ?_
 refine qE ?_
 refine qE ?_
 refine qB rfl ?_
 refine qA (qC (v := .int .u64 _) rfl) ?_
 refine qA (qK (v := .bool _) rfl) ?_
 refine wT rfl (decide_eq_false (by omega)) ?_
 refine qO ?_
 refine qE ?_
 refine qE ?_
 refine qB rfl ?_
 refine qA (qC (v := .int .u64 _) rfl) ?_
 refine qA (qK (v := .bool _) rfl) ?_
 refine wT rfl (decide_eq_false (by omega)) ?_
 refine qO ?_
 refine qE ?_
 refine qE ?_
 refine qB rfl ?_
 refine qA (qC (v := .int .u64 _) rfl) ?_
 refine qA (qK (v := .bool _) rfl) ?_
 refine qP rfl (fun hc => ?_) (fun hc => ?_)
 ·skip
  have hc' : ¬ n < 256 := by have := of_decide_eq_true hc; omega
  refine qE ?_
  refine qB rfl ?_
  refine qA (qC (v := .int .u64 _) rfl) ?_
  refine qA (pv_shrU n 8 rfl rfl rfl rfl (by decide)) ?_
  refine qA (qD (v := .int .u64 _) rfl) ?_
  refine qB rfl ?_
  refine qA (qC (v := .int .i64 _) rfl) ?_
  refine qA (qS rfl (by omega)) ?_
  refine qA (qD (v := .int .i64 _) rfl) ?_
  refine qE ?_
  refine qB rfl ?_
  refine qA (qC (v := .int .i64 _) rfl) ?_
  refine qA (qC (v := .int .u64 _) rfl) ?_
  have hq : n / 2 ^ 8 < 256 := by omega
  refine qA (pv_conv rfl rfl rfl (wrap_u8 (by omega))) ?_
  refine qA (pv_stridx (a := len8L) (n / 2 ^ 8) rfl rfl rfl rfl (len8_at _ hq)) ?_
  have hb := bl_u8 (n / 2 ^ 8)
  have hb2 := bl_le (n / 2 ^ 8)
  refine qA (pv_conv (z' := (bl (n / 2 ^ 8) : Int)) rfl rfl rfl (by rw [hb]; exact i64_nat _ (by omega))) ?_
  refine qA (qS rfl (by omega)) ?_
  refine qA (qD (v := .int .i64 _) rfl) ?_
  refine qQ ?_
  refine qM (vs := [_]) Tryz.results110 ⟨qJ rfl rfl, trivial⟩ fun V => ?_
  exact ⟨(qR V), intE (by unfold bl64; rw [if_neg hc', show n / 2 ^ 8 = n / 256 from rfl]; omega)⟩
 ·skip
  have hc' : n < 256 := by have := of_decide_eq_false hc; omega
  refine qO ?_
  refine qE ?_
  refine qB rfl ?_
  refine qA (qC (v := .int .i64 _) rfl) ?_
  refine qA (qC (v := .int .u64 _) rfl) ?_
  refine qA (pv_conv rfl rfl rfl (wrap_u8 (by omega))) ?_
  refine qA (pv_stridx (a := len8L) n rfl rfl rfl rfl (len8_at _ hc')) ?_
  have hb := bl_u8 n
  have hb2 := bl_le n
  refine qA (pv_conv (z' := (bl n : Int)) rfl rfl rfl (by rw [hb]; exact i64_nat _ (by omega))) ?_
  refine qA (qS rfl (by omega)) ?_
  refine qA (qD (v := .int .i64 _) rfl) ?_
  refine qQ ?_
  refine qM (vs := [_]) Tryz.results110 ⟨qJ rfl rfl, trivial⟩ fun V => ?_
  exact ⟨(qR V), intE (by unfold bl64; rw [if_pos hc']; omega)⟩
theorem logE_ok (k : Nat) (h : AH) (hk : k < 100) : FnT Tryz.prog 109 #[.int .i64 (k : Int)] h (fun v _ => v = .int .i64 ((k * 78913 / 2 ^ 18 : Nat) : Int)) := by
 refine wH Tryz.func109 rfl Tryz.ntmps109 rfl ?_
 refine qE ?_
 refine qB rfl ?_
 refine qA (qD (v := .int .i64 _) rfl) ?_
 refine qE ?_
 refine qB rfl ?_
 refine qA (qC (v := .int .i64 _) rfl) ?_
 refine qA (qS rfl (by omega)) ?_
 refine qA (pv_shr (k * 78913) 18 (.inl rfl) rfl rfl (by omega) rfl (by decide)) ?_
 refine qA (qD (v := .int .i64 _) rfl) ?_
 refine qQ ?_
 refine qM (vs := [_]) Tryz.results109 ⟨qJ rfl rfl, trivial⟩ fun V => ?_
 exact ⟨(qR V), rfl⟩
theorem digitsE_ok (n : Nat) (h : AH) (PW : Pow h) (h1 : 1 ≤ n) (hn : n < 1000) : FnT Tryz.prog 102 #[.int .u64 (n : Int)] h (fun v _ => v = .int .i64 (ndg n : Int)) := by
 obtain ⟨q1, q2⟩ := nd_all n hn h1
 refine wH Tryz.func102 rfl Tryz.ntmps102 rfl ?_
 refine qE ?_
 refine qB rfl ?_
 refine qA (qD (v := .int .i64 _) rfl) ?_
 refine qE ?_
 refine qB rfl ?_
 refine qA (qC (v := .int .u64 _) rfl) ?_
 refine wJ (caps := []) (vs := [.int .u64 _]) rfl rfl rfl (len64_ok n h hn) ?_
 rintro _ h1 E1 rfl
 have hb : bl64 n < 100 := by
  have a1 := bl_le n
  have a2 := bl_le (n / 256)
  unfold bl64
  split <;> omega
 refine wJ (caps := []) (vs := [.int .i64 _]) rfl rfl rfl (logE_ok _ h1 hb) ?_
 rintro _ h2 E2 rfl
 refine qA (qD (v := .int .i64 _) rfl) ?_
 refine qE ?_
 refine qB rfl ?_
 refine qA (qC (v := .int .i64 _) rfl) ?_
 refine qA (qC (v := .int .u64 _) rfl) ?_
 refine qA (qC (v := .int .i64 _) rfl) ?_
 obtain ⟨g, off, hA, hc⟩ := (PW.ext (zL E1 E2)) (by decide)
 cases hA
 have q1' : bl64 n * 78913 / 2 ^ 18 < 4 := q1
 refine qA (pv_indexA rfl rfl rfl rfl (by omega) (by omega)) ?_
 refine wL (v := .int .u64 ((10 ^ nd0 n : Nat) : Int)) rfl rfl (by rw [Int.toNat_natCast]; have := hc (nd0 n) (.int .u64 ((10 ^ nd0 n : Nat) : Int)) (by rw [List.getElem?_map, List.getElem?_range q1]; rfl); show cellA _ ⟨_, 0 + nd0 n * 1, none⟩ = _; rw [Nat.mul_one]; exact this) ?_
 refine qA (qK (v := .bool _) rfl) ?_
 refine wJ (caps := []) (vs := [.bool _]) rfl rfl rfl (bool2_ok _ h2) ?_
 rintro _ h3 E3 rfl
 refine qA (qS rfl (by omega)) ?_
 refine qA (qD (v := .int .i64 _) rfl) ?_
 refine qQ ?_
 refine qM (vs := [_]) Tryz.results102 ⟨qJ rfl rfl, trivial⟩ fun V => ?_
 exact ⟨(zL (zL (zL E1 E2) E3) (qR V)), intE (by rw [← q2]; show (nd0 n : Int) + (if decide ((n : Int) ≥ ((10 ^ nd0 n : Nat) : Int)) then 1 else 0) = _; by_cases hc : n ≥ 10 ^ nd0 n; rw [if_pos hc, if_pos (decide_eq_true (by omega))]; omega; rw [if_neg hc, if_neg (by simp only [decide_eq_true_eq]; omega)]; omega)⟩
theorem base1e_ok (b u : Nat) (h : AH) (hu : u < 10) : FnM Tryz.prog (.func (.func 103) #[] ([] : List Value).toArray) [.slice (some ⟨b, 1, none⟩) 1 23, .int .u64 (u : Int)] h [some (b, .cells zer24.toArray 159 (0, 0))]
  (fun v h' M' => M' = [some (b, .cells (zer24.set 1 (.int .u8 (dig u).toNat)).toArray 159 (0, 0))]) := by
 have hd := dig_nat u hu
 refine fnM_body rfl rfl Tryz.func103 rfl Tryz.ntmps103 rfl ?_
 refine qE ?_
 refine qB rfl ?_
 refine qA (qC (v := .slice _ _ _) rfl) ?_
 refine qA (wP rfl rfl) ?_
 refine qA (qD (v := .int .i64 _) rfl) ?_
 refine qE ?_
 refine qT ?_
 refine xp_unroll ?_
 refine qE ?_
 refine qE ?_
 refine qB rfl ?_
 refine qA (qC (v := .int .i64 _) rfl) ?_
 refine qA (qK (v := .bool _) rfl) ?_
 refine wT rfl (rfl) ?_
 refine wS ?_
 refine qE ?_
 refine qB rfl ?_
 refine qA (qC (v := .int .u64 _) rfl) ?_
 refine qA (pv_conv (z' := (u : Int)) rfl rfl rfl (wrap_u32 (by omega))) ?_
 refine qA (qD (v := .int .u32 _) rfl) ?_
 refine qE ?_
 refine qE ?_
 refine qB rfl ?_
 refine qA (qC (v := .int .i64 _) rfl) ?_
 refine qA (qK (v := .bool _) rfl) ?_
 refine wT rfl (rfl) ?_
 refine qO ?_
 refine qE ?_
 refine qE ?_
 refine qB rfl ?_
 refine qA (qC (v := .int .i64 _) rfl) ?_
 refine qA (qK (v := .bool _) rfl) ?_
 refine wT rfl (rfl) ?_
 refine qO ?_
 refine qE ?_
 refine qB rfl ?_
 refine qA (qC (v := .int .i64 _) rfl) ?_
 refine qA (qK (v := .bool _) rfl) ?_
 refine wW rfl (rfl) ?_
 refine qB rfl ?_
 refine qA (qC (v := .slice _ _ _) rfl) ?_
 refine qA (qC (v := .int .u32 _) rfl) ?_
 refine qA (pv_w (r := ((48 + u : Nat) : Int)) rfl (by rw [wrap_u32 (by omega)]; omega)) ?_
 refine qA (pv_conv (z' := ((dig u).toNat : Int)) rfl rfl rfl (by rw [wrap_u8 (by omega)]; omega)) ?_
 refine qA (pv_index rfl rfl rfl rfl (by omega) (by omega)) ?_
 refine qY 0 (v := .int .u8 _) (vs := [_]) (c' := [_, _, _, _, _, _, _, _, _, _, _, _, _, _, _, _, _, _, _, _, _, _, _, _]) rfl rfl rfl rfl rfl rfl rfl rfl rfl ?_
 refine qN [_] rfl ?_
 refine qM (vs := []) Tryz.results103 trivial fun V => ?_
 exact ⟨_, _, rfl, V, (Ext.refl _), rfl⟩
theorem base2e_ok (b u : Nat) (h : AH) (h1 : 10 ≤ u) (hu : u < 100) : FnM Tryz.prog (.func (.func 103) #[] ([] : List Value).toArray) [.slice (some ⟨b, 1, none⟩) 2 23, .int .u64 (u : Int)] h [some (b, .cells zer24.toArray 159 (0, 0))]
  (fun v h' M' => M' = [some (b, .cells ((zer24.set 2 (.int .u8 (dig (u % 10)).toNat)).set 1 (.int .u8 (dig (u / 10)).toNat)).toArray 159 (0, 0))]) := by
 obtain ⟨s1, s2⟩ := smalls_two (u % 100) (by omega)
 rw [show u % 100 = u by omega] at s1 s2
 refine fnM_body rfl rfl Tryz.func103 rfl Tryz.ntmps103 rfl ?_
 refine qE ?_
 refine qB rfl ?_
 refine qA (qC (v := .slice _ _ _) rfl) ?_
 refine qA (wP rfl rfl) ?_
 refine qA (qD (v := .int .i64 _) rfl) ?_
 refine qE ?_
 refine qT ?_
 refine xp_unroll ?_
 refine qE ?_
 refine qE ?_
 refine qB rfl ?_
 refine qA (qC (v := .int .i64 _) rfl) ?_
 refine qA (qK (v := .bool _) rfl) ?_
 refine wT rfl (rfl) ?_
 refine wS ?_
 refine qE ?_
 refine qB rfl ?_
 refine qA (qC (v := .int .u64 _) rfl) ?_
 refine qA (pv_conv (z' := (u : Int)) rfl rfl rfl (wrap_u32 (by omega))) ?_
 refine qA (qD (v := .int .u32 _) rfl) ?_
 refine qE ?_
 refine qE ?_
 refine qB rfl ?_
 refine qA (qC (v := .int .i64 _) rfl) ?_
 refine qA (qK (v := .bool _) rfl) ?_
 refine wT rfl (rfl) ?_
 refine qO ?_
 refine qE ?_
 refine qE ?_
 refine qB rfl ?_
 refine qA (qC (v := .int .i64 _) rfl) ?_
 refine qA (qK (v := .bool _) rfl) ?_
 refine wW rfl (rfl) ?_
 refine qE ?_
 refine qB rfl ?_
 refine qA (qC (v := .int .u32 _) rfl) ?_
 refine qA (pv_remN u 100 rfl rfl rfl rfl (by decide)) ?_
 refine qA (pv_w (r := ((u * 2 : Nat) : Int)) rfl (by rw [wrap_u32 (by omega)]; omega)) ?_
 refine qA (qD (v := .int .u32 _) rfl) ?_
 refine qE ?_
 refine qB rfl ?_
 refine qA (qC (v := .int .u32 _) rfl) ?_
 refine qA (pv_quoN u 100 rfl rfl rfl rfl (by decide) (wrap_u32 (by omega))) ?_
 refine qA (qD (v := .int .u32 _) rfl) ?_
 refine qE ?_
 refine xp_dw [true] rfl rfl rfl ?_
 refine qI (i := 0) rfl (by decide +kernel) (qC (v := .slice _ _ _) rfl) ?_
 refine qI (i := 1) rfl (by decide +kernel) (qC (v := .int .i64 _) rfl) ?_
 refine qI (i := 2) rfl (by decide +kernel) (qS rfl (by omega)) ?_
 refine qI (i := 3) rfl (by decide +kernel) (qC (v := .slice _ _ _) rfl) ?_
 refine qI (i := 4) rfl (by decide +kernel) (qC (v := .int .i64 _) rfl) ?_
 refine qI (i := 5) rfl (by decide +kernel) (qS rfl (by omega)) ?_
 refine qI (i := 6) rfl (by decide +kernel) (qC (v := .int .u32 _) rfl) ?_
 refine qI (i := 7) rfl (by decide +kernel) (pv_w (r := ((u * 2 + 1 : Nat) : Int)) rfl (by rw [wrap_u32 (by omega)]; omega)) ?_
 refine qI (i := 8) rfl (by decide +kernel) (pv_stridx (a := smallsL) (u * 2 + 1) rfl rfl rfl rfl s2) ?_
 refine qI (i := 9) rfl (by decide +kernel) (qC (v := .int .u32 _) rfl) ?_
 refine qI (i := 10) rfl (by decide +kernel) (pv_stridx (a := smallsL) (u * 2) rfl rfl rfl rfl s1) ?_
 refine qI (i := 11) rfl (by decide +kernel) (pv_index rfl rfl rfl rfl (by omega) (by omega)) ?_
 refine wV (i := 12) rfl (by decide +kernel) (by decide +kernel) ?_
 refine qY 0 (v := .int .u8 _) (vs := [_]) (c' := [_, _, _, _, _, _, _, _, _, _, _, _, _, _, _, _, _, _, _, _, _, _, _, _]) rfl rfl rfl rfl rfl rfl rfl rfl rfl ?_
 refine wN [_] rfl ?_
 refine qI (i := 13) rfl (by decide +kernel) (pv_index rfl rfl rfl rfl (by omega) (by omega)) ?_
 refine wV (i := 14) rfl (by decide +kernel) (by decide +kernel) ?_
 refine qY 0 (v := .int .u8 _) (vs := [_]) (c' := [_, _, _, _, _, _, _, _, _, _, _, _, _, _, _, _, _, _, _, _, _, _, _, _]) rfl rfl rfl rfl rfl rfl rfl rfl rfl ?_
 refine wN [_] rfl ?_
 refine zI rfl ?_
 refine qB rfl ?_
 refine qA (qC (v := .int .i64 _) rfl) ?_
 refine qA (qS rfl (by omega)) ?_
 refine qA (qD (v := .int .i64 _) rfl) ?_
 refine qE ?_
 refine qB rfl ?_
 refine qA (qC (v := .int .i64 _) rfl) ?_
 refine qA (qK (v := .bool _) rfl) ?_
 refine wT rfl (rfl) ?_
 refine qO ?_
 refine qM (vs := []) Tryz.results103 trivial fun V => ?_
 exact ⟨_, _, rfl, V, (Ext.refl _), rfl⟩
theorem base3e_ok (b u : Nat) (h : AH) (h1 : 100 ≤ u) (hu : u < 1000) : FnM Tryz.prog (.func (.func 103) #[] ([] : List Value).toArray) [.slice (some ⟨b, 1, none⟩) 3 23, .int .u64 (u : Int)] h [some (b, .cells zer24.toArray 159 (0, 0))]
  (fun v h' M' => M' = [some (b, .cells (((zer24.set 3 (.int .u8 (dig (u % 100 % 10)).toNat)).set 2 (.int .u8 (dig (u % 100 / 10)).toNat)).set 1 (.int .u8 (dig (u / 100)).toNat)).toArray 159 (0, 0))]) := by
 obtain ⟨s1, s2⟩ := smalls_two (u % 100) (by omega)
 have hd := dig_nat (u / 100) (by omega)
 refine fnM_body rfl rfl Tryz.func103 rfl Tryz.ntmps103 rfl ?_
 refine qE ?_
 refine qB rfl ?_
 refine qA (qC (v := .slice _ _ _) rfl) ?_
 refine qA (wP rfl rfl) ?_
 refine qA (qD (v := .int .i64 _) rfl) ?_
 refine qE ?_
 refine qT ?_
 refine xp_unroll ?_
 refine qE ?_
 refine qE ?_
 refine qB rfl ?_
 refine qA (qC (v := .int .i64 _) rfl) ?_
 refine qA (qK (v := .bool _) rfl) ?_
 refine wT rfl (rfl) ?_
 refine wS ?_
 refine qE ?_
 refine qB rfl ?_
 refine qA (qC (v := .int .u64 _) rfl) ?_
 refine qA (pv_conv (z' := (u : Int)) rfl rfl rfl (wrap_u32 (by omega))) ?_
 refine qA (qD (v := .int .u32 _) rfl) ?_
 refine qE ?_
 refine qE ?_
 refine qB rfl ?_
 refine qA (qC (v := .int .i64 _) rfl) ?_
 refine qA (qK (v := .bool _) rfl) ?_
 refine wT rfl (rfl) ?_
 refine qO ?_
 refine qE ?_
 refine qE ?_
 refine qB rfl ?_
 refine qA (qC (v := .int .i64 _) rfl) ?_
 refine qA (qK (v := .bool _) rfl) ?_
 refine wW rfl (rfl) ?_
 refine qE ?_
 refine qB rfl ?_
 refine qA (qC (v := .int .u32 _) rfl) ?_
 refine qA (pv_remN u 100 rfl rfl rfl rfl (by decide)) ?_
 refine qA (pv_w (r := ((u % 100 * 2 : Nat) : Int)) rfl (by rw [wrap_u32 (by omega)]; omega)) ?_
 refine qA (qD (v := .int .u32 _) rfl) ?_
 refine qE ?_
 refine qB rfl ?_
 refine qA (qC (v := .int .u32 _) rfl) ?_
 refine qA (pv_quoN u 100 rfl rfl rfl rfl (by decide) (wrap_u32 (by omega))) ?_
 refine qA (qD (v := .int .u32 _) rfl) ?_
 refine qE ?_
 refine xp_dw [true] rfl rfl rfl ?_
 refine qI (i := 0) rfl (by decide +kernel) (qC (v := .slice _ _ _) rfl) ?_
 refine qI (i := 1) rfl (by decide +kernel) (qC (v := .int .i64 _) rfl) ?_
 refine qI (i := 2) rfl (by decide +kernel) (qS rfl (by omega)) ?_
 refine qI (i := 3) rfl (by decide +kernel) (qC (v := .slice _ _ _) rfl) ?_
 refine qI (i := 4) rfl (by decide +kernel) (qC (v := .int .i64 _) rfl) ?_
 refine qI (i := 5) rfl (by decide +kernel) (qS rfl (by omega)) ?_
 refine qI (i := 6) rfl (by decide +kernel) (qC (v := .int .u32 _) rfl) ?_
 refine qI (i := 7) rfl (by decide +kernel) (pv_w (r := ((u % 100 * 2 + 1 : Nat) : Int)) rfl (by rw [wrap_u32 (by omega)]; omega)) ?_
 refine qI (i := 8) rfl (by decide +kernel) (pv_stridx (a := smallsL) (u % 100 * 2 + 1) rfl rfl rfl rfl s2) ?_
 refine qI (i := 9) rfl (by decide +kernel) (qC (v := .int .u32 _) rfl) ?_
 refine qI (i := 10) rfl (by decide +kernel) (pv_stridx (a := smallsL) (u % 100 * 2) rfl rfl rfl rfl s1) ?_
 refine qI (i := 11) rfl (by decide +kernel) (pv_index rfl rfl rfl rfl (by omega) (by omega)) ?_
 refine wV (i := 12) rfl (by decide +kernel) (by decide +kernel) ?_
 refine qY 0 (v := .int .u8 _) (vs := [_]) (c' := [_, _, _, _, _, _, _, _, _, _, _, _, _, _, _, _, _, _, _, _, _, _, _, _]) rfl rfl rfl rfl rfl rfl rfl rfl rfl ?_
 refine wN [_] rfl ?_
 refine qI (i := 13) rfl (by decide +kernel) (pv_index rfl rfl rfl rfl (by omega) (by omega)) ?_
 refine wV (i := 14) rfl (by decide +kernel) (by decide +kernel) ?_
 refine qY 0 (v := .int .u8 _) (vs := [_]) (c' := [_, _, _, _, _, _, _, _, _, _, _, _, _, _, _, _, _, _, _, _, _, _, _, _]) rfl rfl rfl rfl rfl rfl rfl rfl rfl ?_
 refine wN [_] rfl ?_
 refine zI rfl ?_
 refine qB rfl ?_
 refine qA (qC (v := .int .i64 _) rfl) ?_
 refine qA (qS rfl (by omega)) ?_
 refine qA (qD (v := .int .i64 _) rfl) ?_
 refine qE ?_
 refine qB rfl ?_
 refine qA (qC (v := .int .i64 _) rfl) ?_
 refine qA (qK (v := .bool _) rfl) ?_
 refine wW rfl (rfl) ?_
 refine qB rfl ?_
 refine qA (qC (v := .slice _ _ _) rfl) ?_
 refine qA (qC (v := .int .u32 _) rfl) ?_
 refine qA (pv_w (r := ((48 + u / 100 : Nat) : Int)) rfl (by rw [wrap_u32 (by omega)]; omega)) ?_
 refine qA (pv_conv (z' := ((dig (u / 100)).toNat : Int)) rfl rfl rfl (by rw [wrap_u8 (by omega)]; omega)) ?_
 refine qA (pv_index rfl rfl rfl rfl (by omega) (by omega)) ?_
 refine qY 0 (v := .int .u8 _) (vs := [_]) (c' := [_, _, _, _, _, _, _, _, _, _, _, _, _, _, _, _, _, _, _, _, _, _, _, _]) rfl rfl rfl rfl rfl rfl rfl rfl rfl ?_
 refine qN [_] rfl ?_
 refine qM (vs := []) Tryz.results103 trivial fun V => ?_
 exact ⟨_, _, rfl, V, (Ext.refl _), rfl⟩
def cellsE (c : UInt8) (u : Nat) : List Value := .int .u8 c.toNat :: ((natL u).flatMap byC ++ List.replicate (23 - ndg u) (.int .u8 0))
theorem baseE_ok (b u : Nat) (h : AH) (hu : u < 1000) : FnM Tryz.prog (.func (.func 103) #[] ([] : List Value).toArray) [.slice (some ⟨b, 1, none⟩) (ndg u) 23, .int .u64 (u : Int)] h [some (b, .cells zer24.toArray 159 (0, 0))]
  (fun v h' M' => M' = [some (b, .cells (cellsE 0 u).toArray 159 (0, 0))]) := by
 unfold cellsE natL ndg
 by_cases h1 : u < 10
 ·rw [if_pos h1, if_pos h1]
  exact base1e_ok b u h h1
 ·rw [if_neg h1, if_neg h1]
  by_cases h2 : u < 100
  ·rw [if_pos h2, if_pos h2]
   exact base2e_ok b u h (by omega) h2
  ·rw [if_neg h2, if_neg h2]
   refine (base3e_ok b u h (by omega) hu).mono fun v h' M' _ e => ?_
   rw [e, show u % 100 % 10 = u % 10 by omega, show u % 100 / 10 = u / 10 % 10 by omega]
   rfl
theorem ndg_len (u : Nat) : (natL u).length = ndg u := by
 unfold natL ndg
 split
 ·rfl
 ·split <;> rfl
theorem ndg_le (u : Nat) : 1 ≤ ndg u ∧ ndg u ≤ 3 := by
 unfold ndg
 split
 ·decide
 ·split <;> decide
theorem fmtE_ok (n : Int) (h : AH) (PW : Pow h) (hn : n.natAbs < 1000) : FnT Tryz.prog 89 #[.int .i64 n, .int .i64 10] h (fun v _ => v = .string (bs (itoaL n))) := by
 by_cases hs : 0 ≤ n ∧ n < 100
 ·exact fmt_ok n h PW (.inr hs)
 ·obtain ⟨u, hu⟩ : ∃ u : Nat, u = n.natAbs := ⟨_, rfl⟩
  have hu1 : 1 ≤ u := by omega
  have hu2 : u < 1000 := by omega
  obtain ⟨n1, n3⟩ := ndg_le u
  have hln := ndg_len u
  refine wH Tryz.func89 rfl Tryz.ntmps89 rfl ?_
  refine qE ?_
  refine qB rfl ?_
  refine qA (qD (v := .string _) rfl) ?_
  refine qE ?_
  refine qE ?_
  refine qB rfl ?_
  refine qA (qC (v := .int .i64 _) rfl) ?_
  refine qA (qK (v := .bool _) rfl) ?_
  refine wW rfl (rfl) ?_
  refine qE ?_
  refine qE ?_
  refine qB rfl ?_
  refine qA (qC (v := .int .i64 _) rfl) ?_
  refine qA (qK (v := .bool _) rfl) ?_
  refine qA (qC (v := .bool _) rfl) ?_
  by_cases h0 : 0 ≤ n
  ·have g0 : decide ((0 : Int) ≤ n) = true := decide_eq_true h0
   have hun : n = (u : Int) := by omega
   refine qF rfl g0 ?_
   refine qA (qC (v := .int .i64 _) rfl) ?_
   refine qF rfl g0 ?_
   refine qA (qK (v := .bool _) rfl) ?_
   refine qA (qZ rfl g0 (v := .bool _) rfl) ?_
   refine wT rfl (decide_eq_false (by omega)) ?_
   refine qO ?_
   refine qE ?_
   refine qB rfl ?_
   refine zE (cs := [_, _, _, _, _, _, _, _, _, _, _, _, _, _, _, _, _, _, _, _, _, _, _, _]) rfl rfl fun b5 hb5 => ?_
   refine qN [_] rfl ?_
   refine qE ?_
   refine qB rfl ?_
   refine qA (qC (v := .int .i64 _) rfl) ?_
   refine qA (pv_conv (z' := (u : Int)) rfl rfl rfl (by rw [hun]; exact u64_nat u (by omega))) ?_
   refine qA (qD (v := .int .u64 _) rfl) ?_
   refine qE ?_
   refine qE ?_
   refine qB rfl ?_
   refine qA (qC (v := .int .i64 _) rfl) ?_
   refine qA (qK (v := .bool _) rfl) ?_
   refine wT rfl (decide_eq_false (by omega)) ?_
   refine qO ?_
   refine qE ?_
   refine qB rfl ?_
   refine qA (qC (v := .int .u64 _) rfl) ?_
   refine wJ (caps := []) (vs := [.int .u64 _]) rfl rfl rfl (digitsE_ok u h (PW.ext (Ext.refl _)) hu1 hu2) ?_
   rintro _ h1 E1 rfl
   refine qA (qD (v := .int .i64 _) rfl) ?_
   refine qE ?_
   refine qB rfl ?_
   refine qA (qC (v := .int .i64 _) rfl) ?_
   refine qA (qS rfl (by omega)) ?_
   refine qA (pv_sliceALH 1 (1 + ndg u) (l' := ndg u) rfl (.inr ⟨_, _, rfl, rfl⟩) (.inr ⟨_, _, rfl, by push_cast; rfl⟩) rfl rfl (by omega) (by omega) (by decide) rfl (by omega) rfl) ?_
   refine qA (qC (v := .int .u64 _) rfl) ?_
   refine op_fnMM [] [_] [] (vs := _) rfl rfl rfl (baseE_ok b5 u h1 hu2) ?_
   rintro _ h2 _ E2 rfl
   refine qN [_] rfl ?_
   refine qE ?_
   refine qE ?_
   refine qB rfl ?_
   refine qA (qC (v := .int .i64 _) rfl) ?_
   refine qA (qK (v := .bool _) rfl) ?_
   refine wT rfl (decide_eq_false (by omega)) ?_
   refine qO ?_
   refine qE ?_
   refine qB rfl ?_
   refine qA (qC (v := .int .i64 _) rfl) ?_
   refine qA (qS rfl (by omega)) ?_
   refine qA (pv_sliceALH 1 (1 + ndg u) (l' := ndg u) rfl (.inr ⟨_, _, rfl, rfl⟩) (.inr ⟨_, _, rfl, by push_cast; rfl⟩) rfl rfl (by omega) (by omega) (by decide) rfl (by omega) rfl) ?_
   refine op_b2s (natL u) rfl hln (fun V => rd_mid (pre := [.int .u8 ((0 : UInt8).toNat : Int)]) (cs := (natL u).flatMap byC) (junk := List.replicate (23 - ndg u) (.int .u8 0)) (zK V (i := 0) rfl) rfl) rfl rfl rfl ?_
   refine qA (qD (v := .string _) rfl) ?_
   refine qQ ?_
   refine qM (vs := [_]) Tryz.results89 ⟨qJ rfl rfl, trivial⟩ fun V => ?_
   exact ⟨(zL (zL E1 E2) (qR V)), strE (by rw [hun, itoaL_nat])⟩
  ·skip
   have g0 : decide ((0 : Int) ≤ n) = false := decide_eq_false h0
   have hun : n = -(u : Int) := by omega
   refine qH rfl g0 ?_
   refine qH rfl g0 ?_
   refine qA (wI rfl g0 (v := .bool _) rfl) ?_
   refine wT rfl (rfl) ?_
   refine qO ?_
   refine qE ?_
   refine qB rfl ?_
   refine zE (cs := [_, _, _, _, _, _, _, _, _, _, _, _, _, _, _, _, _, _, _, _, _, _, _, _]) rfl rfl fun b5_1 hb5_1 => ?_
   refine qN [_] rfl ?_
   refine qE ?_
   refine qB rfl ?_
   refine qA (qC (v := .int .i64 _) rfl) ?_
   refine qA (pv_conv (z' := ((2 ^ 64 - u : Nat) : Int)) rfl rfl rfl (by rw [hun]; show (-(u : Int)) % 18446744073709551616 = _; omega)) ?_
   refine qA (qD (v := .int .u64 _) rfl) ?_
   refine qE ?_
   refine qE ?_
   refine qB rfl ?_
   refine qA (qC (v := .int .i64 _) rfl) ?_
   refine qA (qK (v := .bool _) rfl) ?_
   refine wW rfl (decide_eq_true (by omega)) ?_
   refine qB rfl ?_
   refine qA (qC (v := .int .u64 _) rfl) ?_
   refine qA (pv_w (r := (u : Int)) rfl (by show (0 - ((2 ^ 64 - u : Nat) : Int)) % 18446744073709551616 = _; omega)) ?_
   refine qA (qD (v := .int .u64 _) rfl) ?_
   refine qE ?_
   refine qB rfl ?_
   refine qA (qC (v := .int .u64 _) rfl) ?_
   refine wJ (caps := []) (vs := [.int .u64 _]) rfl rfl rfl (digitsE_ok u h (PW.ext (Ext.refl _)) hu1 hu2) ?_
   rintro _ h1 E1 rfl
   refine qA (qD (v := .int .i64 _) rfl) ?_
   refine qE ?_
   refine qB rfl ?_
   refine qA (qC (v := .int .i64 _) rfl) ?_
   refine qA (qS rfl (by omega)) ?_
   refine qA (pv_sliceALH 1 (1 + ndg u) (l' := ndg u) rfl (.inr ⟨_, _, rfl, rfl⟩) (.inr ⟨_, _, rfl, by push_cast; rfl⟩) rfl rfl (by omega) (by omega) (by decide) rfl (by omega) rfl) ?_
   refine qA (qC (v := .int .u64 _) rfl) ?_
   refine op_fnMM [] [_] [] (vs := _) rfl rfl rfl (baseE_ok b5_1 u h1 hu2) ?_
   rintro _ h2 _ E2 rfl
   refine qN [_] rfl ?_
   refine qE ?_
   refine qE ?_
   refine qB rfl ?_
   refine qA (qC (v := .int .i64 _) rfl) ?_
   refine qA (qK (v := .bool _) rfl) ?_
   refine wW rfl (decide_eq_true (by omega)) ?_
   refine qE ?_
   refine qB rfl ?_
   refine qA (pv_indexA rfl rfl rfl rfl (by omega) (by omega)) ?_
   refine qY 0 (v := .int .u8 45) (vs := [.int .u8 45]) (c' := cellsE 45 u) rfl rfl rfl rfl rfl rfl rfl rfl rfl ?_
   refine qN [_] rfl ?_
   refine qE ?_
   refine qB rfl ?_
   refine qA (qC (v := .int .i64 _) rfl) ?_
   refine qA (qS rfl (by omega)) ?_
   refine qA (pv_sliceALH 0 (1 + ndg u) rfl (.inl ⟨rfl, rfl⟩) (.inr ⟨_, _, rfl, by push_cast; rfl⟩) rfl rfl (by omega) (by omega) (by decide) rfl rfl rfl) ?_
   refine op_b2s (45 :: natL u) rfl (by rw [List.length_cons, hln]; omega) (fun V => rd_front (cs := (45 :: natL u).flatMap byC) (junk := List.replicate (23 - ndg u) (.int .u8 0)) (zK V (i := 0) rfl)) rfl rfl rfl ?_
   refine qA (qD (v := .string _) rfl) ?_
   refine qQ ?_
   refine qM (vs := [_]) Tryz.results89 ⟨qJ rfl rfl, trivial⟩ fun V => ?_
   exact ⟨(zL (zL E1 E2) (qR V)), strE (by rw [hun, itoaL_neg hu1])⟩
theorem itoa1E_ok (n : Int) (h : AH) (PW : Pow h) (hn : n.natAbs < 1000) : FnT Tryz.prog 73 #[.int .i64 n] h (fun v _ => v = .string (bs (itoaL n))) := by
 refine wH Tryz.func73 rfl Tryz.ntmps73 rfl ?_
 refine qE ?_
 refine qB rfl ?_
 refine qA (qD (v := .string _) rfl) ?_
 refine qE ?_
 refine qB rfl ?_
 refine qA (qC (v := .int .i64 _) rfl) ?_
 refine wJ (caps := []) (vs := [.int .i64 _, .int .i64 _]) rfl rfl rfl (fmtE_ok n h (PW.ext (Ext.refl _)) hn) ?_
 rintro _ h2 E2 rfl
 refine qA (qD (v := .string _) rfl) ?_
 refine qQ ?_
 refine qM (vs := [_]) Tryz.results73 ⟨qJ rfl rfl, trivial⟩ fun V => ?_
 exact ⟨(zL E2 (qR V)), rfl⟩
theorem itoaE_ok (n : Int) (h : AH) (PW : Pow h) (hn : n.natAbs < 1000) : FnT Tryz.prog 54 #[.int .i64 n] h (fun v _ => v = .string (bs (itoaL n))) := by
 refine wH Tryz.func54 rfl Tryz.ntmps54 rfl ?_
 refine qE ?_
 refine qB rfl ?_
 refine qA (qD (v := .string _) rfl) ?_
 refine qE ?_
 refine qB rfl ?_
 refine qA (qC (v := .int .i64 _) rfl) ?_
 refine wJ (caps := []) (vs := [.int .i64 _]) rfl rfl rfl (itoa1E_ok n h (PW.ext (Ext.refl _)) hn) ?_
 rintro _ h2 E2 rfl
 refine qA (qD (v := .string _) rfl) ?_
 refine qQ ?_
 refine qM (vs := [_]) Tryz.results54 ⟨qJ rfl rfl, trivial⟩ fun V => ?_
 exact ⟨(zL E2 (qR V)), rfl⟩
end
end Go.Proofs.YtmpahfdiebhdbaaGreatDoor
namespace Go.HL
open Go
variable [Lvl]
section
variable {P : Program} {n : Nat} {ops : Array Oper} {d : Option Tmp} {op : Op} {ty : TypeId} {ps : String} {af : Array Edge} {os : List Oper} {K : Sl → Pv → AH → Prop} {E : Value → Sl → Pv → AH → Prop} {S : Sl} {L : Pv} {h : AH}
theorem wrap_u64 (z : Int) : ∃ r : Nat, r < 2 ^ 64 ∧ IntKind.wrap .u64 z = (r : Int) := by
 have e : IntKind.wrap .u64 z = z % 2 ^ 64 := by simp [IntKind.wrap, IntKind.bits, IntKind.signed]
 have h1 : 0 ≤ z % 2 ^ 64 := Int.emod_nonneg _ (by decide)
 have h2 : z % 2 ^ 64 < 2 ^ 64 := Int.emod_lt_of_pos _ (by decide)
 exact ⟨(z % 2 ^ 64).toNat, by omega, by rw [e]; omega⟩
theorem op_some {z : Int} (hv : pev P (execOp (ev n S) ⟨d, op, ty, ps, af, none⟩) = some (.value (.int .u64 (IntKind.wrap .u64 z))))
  (k : ∀ r : Nat, r < 2 ^ 64 → wpL P n ops os K E (put S d (.int .u64 (r : Int))) L h) : wpL P n ops (⟨d, op, ty, ps, af, none⟩ :: os) K E S L h := by
 obtain ⟨r, hr, e⟩ := wrap_u64 z
 rw [e] at hv
 exact qA hv (k r hr)
theorem dw_some {mask : List Bool} {X : Sl → AH → Prop} {dn ac : List Nat} {i : Nat} {z : Int} (hoi : ops[i]? = some ⟨d, op, ty, ps, af, none⟩) (hok : okS ops dn ac i = true) (hv : pev P (execOp (ev n S) ⟨d, op, ty, ps, af, none⟩) = some (.value (.int .u64 (IntKind.wrap .u64 z))))
  (k : ∀ r : Nat, r < 2 ^ 64 → Dw P n ops mask X (i :: dn) ac (put S d (.int .u64 (r : Int))) L h) : Dw P n ops mask X dn ac S L h := by
 obtain ⟨r, hr, e⟩ := wrap_u64 z
 rw [e] at hv
 exact qI hoi hok hv (k r hr)
theorem pv_rem {t u : TypeId} {x y : Operand} {a b : Nat} {b' : Int} (hx : ev n S x = .int .u64 (a : Int)) (hy : ev n S y = .int .u64 b') (eb : b' = b) (hb : 0 < b) :
  pev P (execOp (ev n S) ⟨d, .binOp .rem t x y u, ty, ps, af, none⟩) = some (.value (.int .u64 ((a % b : Nat) : Int))) := by
 subst eb
 have h0 : ¬ ((b : Nat) : Int) = 0 := by omega
 simp only [execOp, hx, hy, binOp, Op.intDiv, if_neg h0]
 rfl
end
end Go.HL
