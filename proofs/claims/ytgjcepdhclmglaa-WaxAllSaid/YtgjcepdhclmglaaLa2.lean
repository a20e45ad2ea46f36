/- An own logic over the model, its walks and its plain laws, joined of parts N O Q R T V W1 W2 W3 Sq W4 W5 Sr W6 Ss St Su W7 X. Conditions: as each theorem states. -/
import Derived.Test.YtgjcepdhclmglaaLa1
import Derived.Test.YtgjcepdhclmglaaProg
import Derived.KernelRfl
set_option linter.all false
namespace Go.HL
open Go
variable [Lvl]
def CallV (P : Program) (y : Value) (args : List Value) (H : AH) (K E : Value → AH → Prop) : Prop :=
 dem P (do let d ← Deferred.ofValue y args.toArray; invoke d.target d.args) H (upon P K E) E
theorem CallV.mono {P : Program} {y : Value} {args : List Value} {H : AH} {K K' E E' : Value → AH → Prop} (c : CallV P y args H K E) (hk : ∀ v h', K v h' → K' v h') (he : ∀ v h', E v h' → E' v h') : CallV P y args H K' E' :=
 dem_mono (fun _ _ u => upon_mono hk he u) he c
theorem CallV.frame {P : Program} {y : Value} {args : List Value} {H F : AH} {K E : Value → AH → Prop} (c : CallV P y args H K E) (f : Fin H) (d : Disj H F) :
  CallV P y args (hun H F) (fun v H2 => ∃ H1, H2 = hun H1 F ∧ Disj H1 F ∧ Fin H1 ∧ K v H1) (fun v H2 => ∃ H1, H2 = hun H1 F ∧ Disj H1 F ∧ Fin H1 ∧ E v H1) := semN_frame c f d
theorem callV_fn {P : Program} {g : FuncId} {caps args : List Value} {H : AH} {K E : Value → AH → Prop} (hc : callable P g = true) (c : CallT P g (args ++ caps).toArray H K E) : CallV P (.func (.func g) #[] caps.toArray) args H K E := by
 unfold CallV
 refine wJ ?_
 show dem P (callFunc g ((#[] ++ args.toArray) ++ caps.toArray)) H _ _
 refine dem_callFunc hc ?_
 have e : (#[] ++ args.toArray) ++ caps.toArray = (args ++ caps).toArray := by simp
 rw [e]
 exact c
def obL (r : Loop) (st : LoopState) (pd : Option Code) : Obj := .loop { r with state := st, pending := pd }
def setPs (S : Sl) : List (Nat × Value) → Sl
 | [] => S
 | (d, v) :: l => setPs (upd S d v) l
theorem fold_setPs (n : Nat) : ∀ (l : List (Nat × Value)) (S : Sl), l.foldl (fun (tmps : Array Value) (p : Nat × Value) => tmps.setIfInBounds p.1 p.2) (arr n S) = arr n (setPs S l)
 | [], S => rfl
 | (d, v) :: l, S => by
  rw [List.foldl_cons, arr_set]
  exact fold_setPs n l (upd S d v)
theorem dem_getLoop {P : Program} {H : AH} {l : Nat} {r : Loop} {K : Loop → AH → Prop} {E : Value → AH → Prop} (hl : H l = some (.loop r)) (k : K r H) : dem P (Instr.getLoop l) H K E := by
 unfold Instr.getLoop
 refine wJ ?_
 exact ⟨_, hl, trivial, k⟩
theorem callV_yield {P : Program} {n : Nat} {S : Sl} {H : AH} {l : Nat} {r : Loop} {st : LoopState} {pd : Option Code} {args : List Value} {ps : List Nat} {K E : Value → AH → Prop}
  {assign body : Code} (hl : H l = some (obL r st pd)) (hp : r.params = ps.toArray) (ha : args.length = ps.length) (ht : r.tmps = arr n S) (has : r.assign = assign) (hbd : r.body = body)
  (c : EnterT P (Frame.round l r.fn (arr n (setPs S (ps.zip args))) assign body .normal) H K E) : CallV P (.func (.yield l) #[] #[]) args H K E := by
 subst has hbd
 unfold CallV
 refine wJ ?_
 show dem P (Instr.yield l (#[] ++ args.toArray)) H _ _
 unfold Instr.yield
 refine wJ (dem_getLoop hl ?_)
 have e1 : ¬ (#[] ++ args.toArray).size ≠ r.params.size := by rw [hp]; simp [ha]
 have e2 : Array.foldl (fun (tmps : Array Value) (x : Tmp × Value) => tmps.setIfInBounds x.1 x.2) r.tmps (r.params.zip (#[] ++ args.toArray)) = arr n (setPs S (ps.zip args)) := by
  rw [← fold_setPs, hp, ht]
  simp
 show dem P (if (#[] ++ args.toArray).size ≠ r.params.size then _ else _) H _ _
 rw [if_neg e1]
 show EnterT P (Frame.round l r.fn _ r.assign r.body .normal) H K E
 rw [← e2] at c
 exact c
section
variable {P : Program} {n : Nat}
theorem dem_endRound {H : AH} {l : Nat} {r : Loop} {st : LoopState} {pd jump : Option Code} {K : Value → AH → Prop} {E : Value → AH → Prop} (hl : H l = some (obL r st pd))
  (k : K (.bool jump.isNone) (hupd H l (obL r (if jump.isNone then .ready else .done) jump))) : dem P (Instr.endRound l jump) H K E := by
 unfold Instr.endRound
 refine wJ (dem_getLoop hl ?_)
 refine wJ ?_
 exact ⟨_, hl, trivial, k⟩
def roundK (l i : Nat) (r : Loop) (K : Value → AH → Prop) : Post
 | .normal, _, D, L, h => Valid h L → D = [] ∧ (∃ st pd, L[i]? = some (some (l, obL r st pd))) ∧ K (.bool true) (wl h (L.set i (some (l, obL r .ready none))))
 | .exit id, _, D, L, h => Valid h L → D = [] ∧ (∃ st pd, L[i]? = some (some (l, obL r st pd))) ∧ K (.bool false) (wl h (L.set i (some (l, obL r .done (some (.exit id))))))
 | .ret, _, D, L, h => Valid h L → D = [] ∧ (∃ st pd, L[i]? = some (some (l, obL r st pd))) ∧ K (.bool false) (wl h (L.set i (some (l, obL r .done (some .ret)))))
 | .panic _, _, _, _, _ => False
def noK : Post := fun _ _ _ _ _ => False
theorem round_enter {l i f : Nat} {S1 : Sl} {assign body : Code} {r : Loop} {M : Pv} {h : AH} {K E : Value → AH → Prop}
  (w : xp P n (some l) assign (thenK (fun S2 D2 L2 h2 => D2 = [] ∧ ∃ pd, L2[i]? = some (some (l, obL r .ready pd)) ∧ xp P n (some l) body (roundK l i r K) S2 [] (L2.set i (some (l, obL r .busy pd))) h2) noK) S1 [] M h) (V : Valid h M) :
  EnterT P (Frame.round l f (arr n S1) assign body .normal) (wl h M) K E := by
 intro hfin c0 cs
 have he : Frame.round l f (arr n S1) assign body .normal = mk { (default : Frame) with fn := f, kind := .normal, roundOf := some l } n S1 [] ([.code assign] ++ [.beginRound, .code body]) := rfl
 rw [he]
 refine (w (wl h M) (Fits.nil V) { (default : Frame) with fn := f, kind := .normal, roundOf := some l } rfl [.beginRound, .code body] (c0 :: cs)).bind ?_
 rintro fr cs' H ⟨rfl, e, S', D', L', h', V', kk, a⟩
 cases e with
 | normal =>
  obtain ⟨rfl, pd, hi, wb⟩ := kk
  have a' : fr = mk { (default : Frame) with fn := f, kind := .normal, roundOf := some l } n S' [] [.beginRound, .code body] := a
  subst a'
  have hH : H = wl h' L' := by rw [V'.eq]; exact hun_nil _
  subst hH
  refine .sem (do Instr.beginRound l; pure Next.skip) (fun x => x = .skip) (fun _ => False) (fun _ => (mk { (default : Frame) with fn := f, kind := .normal, roundOf := some l } n S' [] [.code body], c0 :: cs)) (fun _ => (c0, cs)) (fun x H' => x = Next.skip ∧ H' = wl h' (L'.set i (some (l, obL r .busy pd)))) noE ?_ ?_ (fun _ _ e => e.1) (fun _ _ y => y) ?_ (fun _ _ y => y.elim)
  ·intro main w
   refine ⟨fun x w' hr hx => ?_, fun v w' hr y => y.elim⟩
   subst hx
   have hr' : (do Instr.beginRound l; pure Next.skip : Sem Next).run P w = .ok .skip w' := hr
   simp only [stepG, stepG.exec, mk, stepG.apply, Sem.runT_eq, Option.elim, hr', if_true, tells_after, tells_go]
   refine ⟨⟨?_, ?_, ?_⟩, ?_⟩ <;> first | trivial | rfl | exact seen_if _ _ _ _ | exact fun _ he => absurd he (by simp)
  ·refine wJ ?_
   unfold Instr.beginRound
   refine wJ (dem_getLoop (wl_get V'.valid hi) ?_)
   refine wJ ?_
   refine ⟨_, wl_get V'.valid hi, trivial, ?_⟩
   refine ⟨rfl, ?_⟩
   rw [← wl_set V'.valid hi]
   rfl
  ·rintro x H' ⟨rfl, rfl⟩
   have Vb := valid_set (o' := obL r .busy pd) V'.valid hi
   refine (wb _ (Fits.nil Vb) { (default : Frame) with fn := f, kind := .normal, roundOf := some l } rfl [] (c0 :: cs)).bind ?_
   have last : ∀ (fr : Frame) (jump : Option Code) (L2 : Pv) (h2 : AH) (st : LoopState) (pd2 : Option Code), Valid h2 L2 → L2[i]? = some (some (l, obL r st pd2)) → K (.bool jump.isNone) (wl h2 (L2.set i (some (l, obL r (if jump.isNone then .ready else .done) jump)))) →
     (∀ main w a w', (Instr.endRound l jump).run P w = .ok a w' → (stepG P main (G fr (c0 :: cs)) w).tells ((Instr.endRound l jump).events P w #[]) (G (c0.finish a) cs) w') →
     Rch P (fun fr cs' h' => cs' = cs ∧ ((∃ v, fr = c0.finish v ∧ K v h') ∨ (∃ v, fr = c0.raise [{ v := v, recovered := false }] ∧ E v h'))) fr (c0 :: cs) (wl h2 L2) := by
    intro fr jump L2 h2 st pd2 V2 hi2 kk hs
    refine .sem (Instr.endRound l jump) (fun _ => True) (fun _ => False) (fun v => (c0.finish v, cs)) (fun v => (c0.finish v, cs)) (fun v H' => v = .bool jump.isNone ∧ H' = wl h2 (L2.set i (some (l, obL r (if jump.isNone then .ready else .done) jump)))) noE ?_ ?_ (fun _ _ _ => trivial) (fun _ _ y => y) ?_ (fun _ _ y => y.elim)
    ·intro main w
     exact ⟨fun a w' hr _ => hs main w a w' hr, fun v w' hr y => y.elim⟩
    ·refine dem_endRound (wl_get V2 hi2) ⟨rfl, ?_⟩
     rw [← wl_set V2 hi2]
    ·rintro v H' ⟨rfl, rfl⟩
     exact .done ⟨rfl, .inl ⟨_, rfl, kk⟩⟩
   rintro fr cs' H ⟨rfl, e, S2, D2, L2, h2, V2, kk, a⟩
   cases e with
   | normal =>
    obtain ⟨rfl, ⟨st, pd2, hi2⟩, kk⟩ := kk V2.valid
    have hH : H = wl h2 L2 := by rw [V2.eq]; exact hun_nil _
    subst hH
    have a' : fr = mk { (default : Frame) with fn := f, kind := .normal, roundOf := some l } n S2 [] [] := a
    subst a'
    refine last _ none L2 h2 st pd2 V2.valid hi2 kk ?_
    intro main w v w' hr
    simp [stepG, stepG.exec, mk, hr, doReturn]
   | exit id =>
    obtain ⟨rfl, ⟨st, pd2, hi2⟩, kk⟩ := kk V2.valid
    have hH : H = wl h2 L2 := by rw [V2.eq]; exact hun_nil _
    subst hH
    obtain ⟨x, hx, rfl⟩ := a.2 rfl
    refine last _ (some (.exit id)) L2 h2 st pd2 V2.valid hi2 kk ?_
    intro main w v w' hr
    simp [stepG, stepG.exec, mk, hr, doReturn, hx]
   | ret =>
    obtain ⟨rfl, ⟨st, pd2, hi2⟩, kk⟩ := kk V2.valid
    have hH : H = wl h2 L2 := by rw [V2.eq]; exact hun_nil _
    subst hH
    obtain ⟨x, rfl⟩ := a.2 (by simp)
    refine last _ (some .ret) L2 h2 st pd2 V2.valid hi2 kk ?_
    intro main w v w' hr
    simp [stepG, stepG.exec, mk, hr, doReturn]
   | panic v => exact kk.elim
 | _ => exact kk.elim
theorem events_map {α β : Type} (g : α → β) : ∀ (s : Sem α) (w : World) (es : Array Event), ((s.bind fun x => .pure (g x)).runT P w es).2 = (s.runT P w es).2 := by
 intro s
 induction s with
 | pure a => intro w es; rfl
 | load m a k ih =>
  intro w es
  simp only [Sem.bind, Sem.runT]
  cases w.cell? a with
  | some v => exact ih v w _
  | none =>
   cases w.farLoad P a (m == .atomic) with
   | ok p => exact ih p.1 w _
   | error h => rfl
 | store m a v k ih =>
  intro w es
  have key : ∀ v : Value, plainV v → (((Sem.store m a v k).bind fun x => .pure (g x)).runT P w es).2 = ((Sem.store m a v k).runT P w es).2 := by
   intro v hv
   have e1 : (Sem.store m a v (k.bind fun x => .pure (g x))).runT P w es = (match w.cell? a with
     | some _ => if w.frozen? a then (.halt (.unsupported (.unsafePointer "a write to bytes that a string shares")) w, es) else (k.bind fun x => .pure (g x)).runT P (w.setCell a v) (es.push ⟨.cell a, true, m == .atomic⟩)
     | none => match w.farStore P a v (m == .atomic) with
      | .ok (w, touched) => (k.bind fun x => .pure (g x)).runT P w (es ++ touched.toArray.map (⟨.cell ·, true, m == .atomic⟩))
      | .error h => (.halt h w, es)) := by cases v <;> first | exact hv.elim | rfl
   have e2 : (Sem.store m a v k).runT P w es = (match w.cell? a with
     | some _ => if w.frozen? a then (.halt (.unsupported (.unsafePointer "a write to bytes that a string shares")) w, es) else k.runT P (w.setCell a v) (es.push ⟨.cell a, true, m == .atomic⟩)
     | none => match w.farStore P a v (m == .atomic) with
      | .ok (w, touched) => k.runT P w (es ++ touched.toArray.map (⟨.cell ·, true, m == .atomic⟩))
      | .error h => (.halt h w, es)) := by cases v <;> first | exact hv.elim | rfl
   show ((Sem.store m a v (k.bind fun x => .pure (g x))).runT P w es).2 = _
   rw [e1, e2]
   cases w.cell? a with
   | some _ =>
    cases w.frozen? a with
    | true => rfl
    | false => exact ih _ _
   | none =>
    cases w.farStore P a v (m == .atomic) with
    | ok p => exact ih p.1 _
    | error h => rfl
  cases v <;> first | exact key _ trivial | rfl
 | new o k ih => intro w es; exact ih _ _ _
 | shape r k ih => intro w es; exact ih _ _ _
 | freeze a n k ih => intro w es; exact ih _ _
 | frozen a k ih => intro w es; exact ih _ _ _
 | getObj r k ih =>
  intro w es
  simp only [Sem.bind, Sem.runT]
  cases w.heap[r]? with
  | none => rfl
  | some o => cases o <;> first | rfl | exact ih _ w _
 | setObj r o k ih =>
  intro w es
  simp only [Sem.bind, Sem.runT]
  cases w.heap[r]? with
  | none => rfl
  | some o => cases o <;> first | rfl | exact ih _ _
 | choose q k ih =>
  intro w es
  simp only [Sem.bind, Sem.runT]
  split
  ·exact ih _ _ _
  ·exact ih _ _ _
 | sys c k ih => intro w es; exact ih _ _ _
 | program k ih => intro w es; exact ih _ _ _
 | mark m k ih => intro w es; exact ih _ _
 | halt x => intro w es; rfl
theorem run_map {α β : Type} (g : α → β) : ∀ (s : Sem α) (w : World), (s.bind fun x => .pure (g x)).run P w = (match s.run P w with | .ok a w' => .ok (g a) w' | .halt x w' => .halt x w') := by
 intro s
 induction s with
 | pure a => intro w; rfl
 | load m a k ih =>
  intro w
  simp only [Sem.bind, Sem.run]
  cases w.cell? a with
  | some v => exact ih v w
  | none =>
   cases w.farLoad P a (m == .atomic) with
   | ok p => exact ih p.1 w
   | error h => rfl
 | store m a v k ih =>
  intro w
  have key : ∀ v : Value, plainV v → ((Sem.store m a v k).bind fun x => .pure (g x)).run P w = (match (Sem.store m a v k).run P w with | .ok a w' => .ok (g a) w' | .halt x w' => .halt x w') := by
   intro v hv
   have e1 : (Sem.store m a v (k.bind fun x => .pure (g x))).run P w = (match w.cell? a with
     | some _ => if w.frozen? a then .halt (.unsupported (.unsafePointer "a write to bytes that a string shares")) w else (k.bind fun x => .pure (g x)).run P (w.setCell a v)
     | none => match w.farStore P a v (m == .atomic) with
      | .ok (w, _) => (k.bind fun x => .pure (g x)).run P w
      | .error h => .halt h w) := by cases v <;> first | exact hv.elim | rfl
   have e2 : (Sem.store m a v k).run P w = (match w.cell? a with
     | some _ => if w.frozen? a then .halt (.unsupported (.unsafePointer "a write to bytes that a string shares")) w else k.run P (w.setCell a v)
     | none => match w.farStore P a v (m == .atomic) with
      | .ok (w, _) => k.run P w
      | .error h => .halt h w) := by cases v <;> first | exact hv.elim | rfl
   show (Sem.store m a v (k.bind fun x => .pure (g x))).run P w = _
   rw [e1, e2]
   cases w.cell? a with
   | some _ =>
    cases w.frozen? a with
    | true => rfl
    | false => exact ih _
   | none =>
    cases w.farStore P a v (m == .atomic) with
    | ok p => exact ih p.1
    | error h => rfl
  cases v <;> first | exact key _ trivial | rfl
 | new o k ih => intro w; exact ih _ _
 | shape r k ih => intro w; exact ih _ _
 | freeze a n k ih => intro w; exact ih _
 | frozen a k ih => intro w; exact ih _ _
 | getObj r k ih =>
  intro w
  simp only [Sem.bind, Sem.run]
  cases w.heap[r]? with
  | none => rfl
  | some o => cases o <;> first | rfl | exact ih _ w
 | setObj r o k ih =>
  intro w
  simp only [Sem.bind, Sem.run]
  cases w.heap[r]? with
  | none => rfl
  | some o => cases o <;> first | rfl | exact ih _
 | choose q k ih =>
  intro w
  simp only [Sem.bind, Sem.run]
  cases q.forced with
  | true => exact ih _ w
  | false => exact ih _ _
 | sys c k ih => intro w; exact ih _ _
 | program k ih => intro w; exact ih P w
 | mark m k ih => intro w; exact ih w
 | halt x => intro w; rfl
theorem run_map_ok {α β : Type} {g : α → β} {s : Sem α} {w w' : World} {b : β} (e : (s.bind fun x => .pure (g x)).run P w = .ok b w') : ∃ a, s.run P w = .ok a w' ∧ g a = b := by
 rw [run_map] at e
 cases hs : s.run P w with
 | ok a w1 => rw [hs] at e; cases e; exact ⟨a, rfl, rfl⟩
 | halt x w1 => rw [hs] at e; cases e
variable {ro : Option Nat} {K : Post} {S : Sl} {D : Df} {L : Pv} {h : AH}
def markD (r : Nat) : Deferred := { target := .collected r, args := #[] }
def rfSem (fn : FuncId) (tm : Array Value) (ps : Array Nat) (assign body : Code) (y : Value) : Sem ((Nat × Nat) × Next) :=
 .new (.deferred (some [])) fun r => .new (.loop { state := .ready, pending := none, fn := fn, tmps := tm, params := ps, assign := assign, body := body, defers := r }) fun l =>
  (do let d ← Deferred.ofValue y #[.func (.yield l) #[] #[]]; invoke d.target d.args : Sem Next).bind fun x => .pure ((r, l), x)
theorem Fits.addMark {H : AH} (f : Fits h L D H) {r : Nat} (hr : H r = none) : Fits h L (markD r :: D) (hupd H r (.deferred (some []))) := by
 rw [f.eq] at hr
 obtain ⟨h1, h2⟩ := hun_none hr
 have hnm : (marksOf D).elem r = false := by
  unfold mkH at h2
  cases he : (marksOf D).elem r with
  | false => rfl
  | true => rw [he] at h2; cases h2
 have hm : marksOf (markD r :: D) = r :: marksOf D := rfl
 have hmk : ∀ c, mkH (markD r :: D) c = if c = r then some (.deferred (some [])) else mkH D c := by
  intro c
  unfold mkH
  rw [hm]
  by_cases hc : c = r
  ·simp [hc]
  ·simp [hc]
 refine ⟨f.valid, ?_, ?_, ?_⟩
 ·intro c
  rw [hmk]
  by_cases hc : c = r
  ·left; rw [hc]; exact h1
  ·rw [if_neg hc]; exact f.disj c
 ·rw [hm, List.nodup_cons]
  exact ⟨by simpa using hnm, f.nd⟩
 ·funext c
  rw [f.eq]
  unfold hupd hun
  rw [hmk]
  by_cases hc : c = r
  ·simp [hc, h1]
  ·simp [hc]
theorem Fits.new {H : AH} (f : Fits h L D H) {l : Nat} (hl : H l = none) (o : Obj) : Fits h (L ++ [some (l, o)]) D (hupd H l o) ∧ wl h L l = none := by
 rw [f.eq] at hl
 obtain ⟨h1, h2⟩ := hun_none hl
 refine ⟨⟨valid_new f.valid h1 o, ?_, f.nd, ?_⟩, h1⟩
 ·rw [← wl_new h1]
  exact f.disj.hupd h2
 ·rw [← wl_new h1, f.eq, hun_hupd]
def LoopT (P : Program) (n : Nat) (K : Post) (S : Sl) (D : Df) (L : Pv) (h : AH) (y : Value) (ps : List Nat) (assign body : Code) : Prop :=
 ∀ (r l : Nat) (lp : Loop), lp.tmps = arr n S → lp.params = ps.toArray → lp.assign = assign → lp.body = body → Valid h (L ++ [some (l, obL lp .ready none)]) →
  CallV P y [.func (.yield l) #[] #[]] (wl h (L ++ [some (l, obL lp .ready none)]))
   (fun _ H' => ∃ h' L' st pd, H' = wl h' (L' ++ [some (l, obL lp st pd)]) ∧ Valid h' (L' ++ [some (l, obL lp st pd)]) ∧ st ≠ .busy ∧
    ∀ h'', Ext h' h'' → match pd with | none => K .normal S (markD r :: D) L' h'' | some c => xp P n none c K S (markD r :: D) L' h'') noE
theorem xp_rangeFunc {f : Operand} {y : Value} {ps : List Nat} {assign body : Code} (hy : ev n S f = y) (g : LoopT P n K S D L h y ps assign body) : xp P n none (.rangeFunc f ps.toArray assign body) K S D L h := by
 subst hy
 intro H V b hb k cs
 have endR : ∀ (r l : Nat) (lp : Loop) (H2 : AH) (h' : AH) (L' : Pv) (st : LoopState) (pd : Option Code), Fits h' (L' ++ [some (l, obL lp st pd)]) (markD r :: D) H2 → st ≠ .busy →
   (∀ h'', Ext h' h'' → match pd with | none => K .normal S (markD r :: D) L' h'' | some c => xp P n none c K S (markD r :: D) L' h'') →
   Rch P (fun fr cs' H' => cs' = cs ∧ ∃ e S' D' L' h', Fits h' L' D' H' ∧ K e S' D' L' h' ∧ AtX b n k e S' D' fr) (mk b n S (markD r :: D) (.endRangeFunc l :: k)) cs H2 := by
  intro r l lp H2 h' L' st pd V2 hst kk
  have hi : (L' ++ [some (l, obL lp st pd)])[L'.length]? = some (some (l, obL lp st pd)) := by simp
  have hl : H2 l = some (obL lp st pd) := by rw [V2.eq]; exact hun_left (wl_get V2.valid hi)
  have e0 : (L' ++ [some (l, obL lp st pd)]).set L'.length none = L' ++ [none] := by simp
  refine .sem (Instr.endLoop l) (fun _ => True) (fun _ => False) (fun j => (mk b n S (markD r :: D) ((j.map Item.code).toList ++ k), cs)) (fun _ => (b, cs)) (fun j H' => j = pd ∧ ∃ h'', Ext h' h'' ∧ Fits h'' L' (markD r :: D) H') noE ?_ ?_ (fun _ _ _ => trivial) (fun _ _ y => y) ?_ (fun _ _ y => y.elim)
  ·intro main w
   refine ⟨fun a w' hr _ => ?_, fun v w' hr y => y.elim⟩
   simp [stepG, stepG.exec, mk, hr]
  ·unfold Instr.endLoop
   refine wJ (dem_getLoop hl ?_)
   have hb2 : ((obL lp st pd = .loop { lp with state := st, pending := pd }) ∧ (st == LoopState.busy) = false) := ⟨rfl, by cases st <;> first | rfl | exact absurd rfl hst⟩
   simp only [hb2.2, Bool.false_eq_true, if_false]
   refine wJ ?_
   refine ⟨_, hl, trivial, ?_⟩
   refine ⟨rfl, hupd h' l (.loop { lp with state := .exhausted, pending := pd }), ?_, ?_⟩
   ·exact Ext.new (Ext.refl h') (wl_fresh V2.valid hi) _
   ·have hs := wl_set (o' := .loop { lp with state := .exhausted, pending := pd }) V2.valid hi
    have Vs := valid_set (o' := .loop { lp with state := .exhausted, pending := pd }) V2.valid hi
    have e1 : (L' ++ [some (l, obL lp st pd)]).set L'.length (some (l, .loop { lp with state := .exhausted, pending := pd })) = L' ++ [some (l, .loop { lp with state := .exhausted, pending := pd })] := by simp
    rw [e1] at hs Vs
    have hi1 : (L' ++ [some (l, Obj.loop { lp with state := .exhausted, pending := pd })])[L'.length]? = some (some (l, .loop { lp with state := .exhausted, pending := pd })) := by simp
    have hp := wl_pub Vs hi1
    have Vp := valid_pub Vs hi1
    have e2 : (L' ++ [some (l, Obj.loop { lp with state := .exhausted, pending := pd })]).set L'.length none = L' ++ [none] := by simp
    have e3 : cl (L' ++ [none]) = cl L' := by simp [cl]
    rw [e2] at hp Vp
    have hp' : wl h' (L' ++ [some (l, Obj.loop { lp with state := .exhausted, pending := pd })]) = wl (hupd h' l (.loop { lp with state := .exhausted, pending := pd })) L' := by
     rw [hp]; unfold wl; rw [e3]
    have Vp' : Valid (hupd h' l (.loop { lp with state := .exhausted, pending := pd })) L' := by unfold Valid at Vp ⊢; rw [e3] at Vp; exact Vp
    have hF : Fits h' (L' ++ [some (l, Obj.loop { lp with state := .exhausted, pending := pd })]) (markD r :: D) (hupd H2 l (.loop { lp with state := .exhausted, pending := pd })) := by
     refine ⟨Vs, ?_, V2.nd, ?_⟩
     ·rw [← hs]
      exact V2.disj.hupd (V2.disj.right (wl_get V2.valid hi))
     ·rw [← hs, V2.eq, hun_hupd]
    exact hF.turn hp' Vp'
  ·rintro j H' ⟨rfl, h'', E, V3⟩
   have := kk h'' E
   cases j with
   | none => exact .done ⟨rfl, .normal, S, _, L', h'', V3, this, rfl⟩
   | some c => exact this H' V3 b hb k cs
 refine .sem (rfSem b.fn (arr n S) ps.toArray assign body (ev n S f)) (fun p => match p.2 with | .value _ => True | .skip => True | .enter _ _ => True | .round _ _ _ _ _ => True | _ => False) (fun _ => False)
  (fun p => match p.2 with
   | .value _ => (mk b n S (markD p.1.1 :: D) (.endRangeFunc p.1.2 :: k), cs)
   | .skip => (mk b n S (markD p.1.1 :: D) (.endRangeFunc p.1.2 :: k), cs)
   | .enter f args => (Frame.enter P f args .normal, mk b n S (markD p.1.1 :: D) (.inRangeFunc p.1.2 :: k) :: cs)
   | .round l f tmps a c => (Frame.round l f tmps a c .normal, mk b n S (markD p.1.1 :: D) (.inRangeFunc p.1.2 :: k) :: cs)
   | _ => (b, cs)) (fun _ => (b, cs)) _ _ ?_ (dem_fin V.fin (?_ : dem P (rfSem b.fn (arr n S) ps.toArray assign body (ev n S f)) H (fun p H' => upon P (fun _ H2 => ∃ h' L' lp st pd, Fits h' (L' ++ [some (p.1.2, obL lp st pd)]) (markD p.1.1 :: D) H2 ∧ st ≠ .busy ∧ ∀ h'', Ext h' h'' → match pd with | none => K .normal S (markD p.1.1 :: D) L' h'' | some c => xp P n none c K S (markD p.1.1 :: D) L' h'') noE p.2 H') noE)) ?_ (fun _ _ y => y.2) ?_ (fun _ _ y => y.2.elim)
 ·intro main w
  refine ⟨fun p w' hr hx => ?_, fun v w' hr y => y.elim⟩
  obtain ⟨⟨r, l⟩, x⟩ := p
  have hes : (rfSem b.fn (arr n S) ps.toArray assign body (ev n S f)).events P w #[] = Sem.events P (do let d ← Deferred.ofValue (ev n S f) #[Value.func (Fn.yield (w.heap.push (Obj.deferred (some []))).size) #[] #[]]; invoke d.target d.args)
    { heap := (w.heap.push (Obj.deferred (some []))).push (Obj.loop { state := LoopState.ready, pending := none, fn := b.fn, tmps := arr n S, params := ps.toArray, assign := assign, body := body, defers := w.heap.size }), tape := w.tape, drawn := w.drawn, os := w.os, output := w.output } #[] := by
   unfold rfSem Sem.events
   exact events_map _ _ _ _
  unfold rfSem at hr
  simp only [Sem.run] at hr
  obtain ⟨x', hr1, hx'⟩ := run_map_ok hr
  simp only [Prod.mk.injEq] at hx'
  obtain ⟨⟨hr0, hl0⟩, rfl⟩ := hx'
  subst hr0
  subst hl0
  have hee := congrFun (mk_eval b n S (markD w.heap.size :: D) (.inRangeFunc (w.heap.push (Obj.deferred (some []))).size :: k)) f
  have hstep : stepG P main (G (mk b n S D ([.code (.rangeFunc f ps.toArray assign body)] ++ k)) cs) w = GStep.after #[] (stepG.apply P true (mk b n S (markD w.heap.size :: D) (.inRangeFunc (w.heap.push (Obj.deferred (some []))).size :: k)) cs none (do let d ← resolve (mk b n S (markD w.heap.size :: D) (.inRangeFunc (w.heap.push (Obj.deferred (some []))).size :: k)).eval { callee := .value f, args := #[.const (.func (.yield (w.heap.push (Obj.deferred (some []))).size) #[] #[])], argTypes := #[] } 0; invoke d.target d.args)
    { heap := (w.heap.push (Obj.deferred (some []))).push (Obj.loop { state := LoopState.ready, pending := none, fn := b.fn, tmps := arr n S, params := ps.toArray, assign := assign, body := body, defers := w.heap.size }), tape := w.tape, drawn := w.drawn, os := w.os, output := w.output }) := by
   simp only [stepG, stepG.exec, mk, List.cons_append, List.nil_append, hb, Instr.enterLoop, Sem.runT_eq]
   rfl
  have hres : resolve (mk b n S (markD w.heap.size :: D) (.inRangeFunc (w.heap.push (Obj.deferred (some []))).size :: k)).eval { callee := .value f, args := #[.const (.func (.yield (w.heap.push (Obj.deferred (some []))).size) #[] #[])], argTypes := #[] } 0 = Deferred.ofValue (ev n S f) #[Value.func (Fn.yield (w.heap.push (Obj.deferred (some []))).size) #[] #[]] := by
   simp only [resolve, hee]
   simp [Frame.eval]
  rw [hres] at hstep
  rw [hstep]
  cases x' <;> first | exact hx.elim | (simp only [stepG.apply, Sem.runT_eq, hr1, if_true, tells_after, tells_go, hes]; refine ⟨⟨⟨?_, ?_, ?_⟩, ?_⟩, ?_⟩ <;> first | trivial | rfl | exact seen_if _ _ _ _ | exact fun _ he => absurd he (by simp))
 ·unfold rfSem
  intro r hr
  have V1 := V.addMark hr
  intro l hl
  obtain ⟨V2, hlw⟩ := V1.new hl (.loop { state := .ready, pending := none, fn := b.fn, tmps := arr n S, params := ps.toArray, assign := assign, body := body, defers := r })
  refine wJ ?_
  have c := g r l { state := .ready, pending := none, fn := b.fn, tmps := arr n S, params := ps.toArray, assign := assign, body := body, defers := r } rfl rfl rfl rfl V2.valid
  have c1 := CallV.frame c (fin_wl V2.valid) V2.disj
  have eH : hun (wl h (L ++ [some (l, obL { state := .ready, pending := none, fn := b.fn, tmps := arr n S, params := ps.toArray, assign := assign, body := body, defers := r } .ready none)])) (mkH (markD r :: D)) = hupd (hupd H r (.deferred (some []))) l (.loop { state := .ready, pending := none, fn := b.fn, tmps := arr n S, params := ps.toArray, assign := assign, body := body, defers := r }) := V2.eq.symm
  rw [eH] at c1
  refine dem_mono ?_ ?_ c1
  ·intro x H' u
   refine upon_mono ?_ ?_ u
   ·rintro v H2 ⟨H1, e1, d1, f1, h', L', st, pd, rfl, V', hst, kk⟩
    exact ⟨h', L', _, st, pd, ⟨V', d1, V1.nd, e1⟩, hst, kk⟩
   ·rintro v H2 ⟨H1, e1, d1, f1, y⟩; exact y
  ·rintro v H2 ⟨H1, e1, d1, f1, y⟩; exact y
 ·rintro ⟨⟨r, l⟩, x⟩ H' ⟨_, u⟩
  cases x <;> first | exact trivial | exact u
 ·rintro ⟨⟨r, l⟩, x⟩ H' ⟨hfin, u⟩
  have call : ∀ fr0 : Frame, EnterT P fr0 H' (fun _ H2 => ∃ h' L' lp st pd, Fits h' (L' ++ [some (l, obL lp st pd)]) (markD r :: D) H2 ∧ st ≠ .busy ∧ ∀ h'', Ext h' h'' → match pd with | none => K .normal S (markD r :: D) L' h'' | some c => xp P n none c K S (markD r :: D) L' h'') noE →
    Rch P (fun fr cs' H' => cs' = cs ∧ ∃ e S' D' L' h', Fits h' L' D' H' ∧ K e S' D' L' h' ∧ AtX b n k e S' D' fr) fr0 (mk b n S (markD r :: D) (.inRangeFunc l :: k) :: cs) H' := by
   intro fr0 c
   refine (c hfin (mk b n S (markD r :: D) (.inRangeFunc l :: k)) cs).bind ?_
   rintro fr cs' H2 ⟨rfl, ⟨v, rfl, h', L', lp, st, pd, V', hst, kk⟩ | ⟨v, rfl, y⟩⟩
   ·have ef : (mk b n S (markD r :: D) (.inRangeFunc l :: k)).finish v = mk b n S (markD r :: D) (.endRangeFunc l :: k) := rfl
    rw [ef]
    exact endR r l lp H2 h' L' st pd V' hst kk
   ·exact y.elim
  cases x with
  | value v =>
   obtain ⟨h', L', lp, st, pd, V', hst, kk⟩ := u
   exact endR r l lp H' h' L' st pd V' hst kk
  | skip =>
   obtain ⟨h', L', lp, st, pd, V', hst, kk⟩ := u
   exact endR r l lp H' h' L' st pd V' hst kk
  | enter f args => exact call _ u
  | round l' f tmps a c => exact call _ u
  | _ => exact u.elim
end
end Go.HL
namespace Go.HL
open Go
variable [Lvl]
theorem wl_app {h : AH} {pre M : Pv} (V : Valid h (pre ++ M)) : wl h (pre ++ M) = hun (wl h M) (wl0 hnil (cl pre)) ∧ Disj (wl h M) (wl0 hnil (cl pre)) ∧ Valid h M := by
 have V0 : Valid0 h (cl pre ++ cl M) := by unfold Valid at V; rw [cl_append] at V; exact V
 have VM : Valid h M := ⟨(by have := V0.nd; rw [List.map_append, List.nodup_append] at this; exact this.2.1), fun p hp => V0.fresh p (List.mem_append_right _ hp), V0.fin⟩
 have hp : ∀ b o, (cl pre).lookup b = some o → wl h M b = none := by
  intro b o hl
  have hm : ¬ ∀ p ∈ cl pre, p.1 ≠ b := fun k => by rw [(lookup_none_iff _ b).2 k] at hl; cases hl
  simp only [ne_eq, Classical.not_forall, Classical.not_not] at hm
  obtain ⟨p, hp, rfl⟩ := hm
  have h1 := V0.fresh p (List.mem_append_left _ hp)
  have h2 : (cl M).lookup p.1 = none := by
   rw [lookup_none_iff]
   intro q hq e
   have := V0.nd
   rw [List.map_append, List.nodup_append] at this
   exact this.2.2 p.1 (List.mem_map.2 ⟨p, hp, rfl⟩) q.1 (List.mem_map.2 ⟨q, hq, rfl⟩) e.symm
  unfold wl wl0
  rw [h2]
  exact h1
 refine ⟨?_, ?_, VM⟩
 ·funext b
  unfold hun
  show wl0 h (cl (pre ++ M)) b = _
  rw [cl_append]
  unfold wl0
  rw [List.lookup_append]
  cases hl : (cl pre).lookup b with
  | some o =>
   have := hp b o hl
   unfold wl wl0 at this
   simp only [Option.some_or, hl]
   unfold wl wl0
   rw [this]
  | none =>
   simp only [Option.none_or, hl, hnil]
   unfold wl wl0
   cases (cl M).lookup b with
   | some o => rfl
   | none => cases h b <;> rfl
 ·intro b
  cases hl : (cl pre).lookup b with
  | some o => left; exact hp b o hl
  | none => right; unfold wl0; rw [hl]; rfl
theorem wl_join {h : AH} {pre M : Pv} (nd : ((cl pre).map (·.1)).Nodup) (V : Valid h M) (d : Disj (wl h M) (wl0 hnil (cl pre))) : hun (wl h M) (wl0 hnil (cl pre)) = wl h (pre ++ M) ∧ Valid h (pre ++ M) := by
 have hk : ∀ p ∈ cl pre, wl h M p.1 = none := by
  intro p hp
  refine (d p.1).resolve_right ?_
  unfold wl0
  cases hl : (cl pre).lookup p.1 with
  | some o => simp
  | none => exact absurd rfl ((lookup_none_iff _ _).1 hl p hp)
 have Vn : Valid h (pre ++ M) := by
  unfold Valid
  rw [cl_append]
  refine ⟨?_, fun p hp => ?_, V.fin⟩
  ·rw [List.map_append, List.nodup_append]
   refine ⟨nd, V.nd, ?_⟩
   intro a ha b hb e
   obtain ⟨p, hp, rfl⟩ := List.mem_map.1 ha
   obtain ⟨q, hq, rfl⟩ := List.mem_map.1 hb
   exact (wl0_none (hk p hp)).2 q hq e.symm
  ·rcases List.mem_append.1 hp with h1 | h1
   ·exact (wl0_none (hk p h1)).1
   ·exact V.fresh p h1
 exact ⟨((wl_app Vn).1).symm, Vn⟩
theorem wl_shed {h : AH} : ∀ (pre M : Pv), Valid h (pre ++ M) → ∃ h', Ext h h' ∧ wl h (pre ++ M) = wl h' M ∧ Valid h' M
 | [], M, V => ⟨h, Ext.refl h, rfl, V⟩
 | none :: pre, M, V => by
  have e : cl (none :: pre ++ M) = cl (pre ++ M) := by simp [cl]
  have V1 : Valid h (pre ++ M) := by unfold Valid at V ⊢; rw [e] at V; exact V
  obtain ⟨h', E, w, V'⟩ := wl_shed pre M V1
  exact ⟨h', E, by unfold wl at w ⊢; rw [e]; exact w, V'⟩
 | some (b, o) :: pre, M, V => by
  have hi : (some (b, o) :: pre ++ M)[0]? = some (some (b, o)) := rfl
  have V1 := valid_pub V hi
  have w1 := wl_pub V hi
  have e : cl ((some (b, o) :: pre ++ M).set 0 none) = cl (pre ++ M) := by simp [cl]
  have V2 : Valid (hupd h b o) (pre ++ M) := by unfold Valid at V1 ⊢; rw [e] at V1; exact V1
  have w2 : wl h (some (b, o) :: pre ++ M) = wl (hupd h b o) (pre ++ M) := by rw [w1]; unfold wl; rw [e]
  obtain ⟨h', E, w3, V3⟩ := wl_shed pre M V2
  exact ⟨h', (Ext.new (Ext.refl h) (wl_fresh V hi) o).trans E, w2.trans w3, V3⟩
theorem CallV.fin {P : Program} {y : Value} {args : List Value} {H : AH} {K E : Value → AH → Prop} (c : CallV P y args H K E) (f : Fin H) : CallV P y args H (fun v h => Fin h ∧ K v h) (fun v h => Fin h ∧ E v h) := by
 have c1 := CallV.frame c f (disj_nil H)
 rw [hun_nil] at c1
 refine CallV.mono c1 ?_ ?_
 ·rintro v H2 ⟨H1, rfl, _, f1, k⟩; rw [hun_nil]; exact ⟨f1, k⟩
 ·rintro v H2 ⟨H1, rfl, _, f1, k⟩; rw [hun_nil]; exact ⟨f1, k⟩
def FnM (P : Program) (y : Value) (args : List Value) (h : AH) (M : Pv) (R : Value → AH → Pv → Prop) : Prop :=
 Valid h M → CallV P y args (wl h M) (fun v H => ∃ h' M', H = wl h' M' ∧ Valid h' M' ∧ Ext h h' ∧ R v h' M') noE
theorem FnM.mono {P : Program} {y : Value} {args : List Value} {h : AH} {M : Pv} {R R' : Value → AH → Pv → Prop} (c : FnM P y args h M R) (hr : ∀ v h' M', Ext h h' → R v h' M' → R' v h' M') : FnM P y args h M R' := by
 intro V
 refine CallV.mono (c V) ?_ (fun _ _ y => y)
 rintro v H ⟨h', M', e, V', E, r⟩
 exact ⟨h', M', e, V', E, hr v h' M' E r⟩
section
variable {P : Program} {n : Nat} {ops : Array Oper} {d : Option Tmp} {op : Op} {ty : TypeId} {ps : String} {af : Array Edge} {os : List Oper} {K : Sl → Pv → AH → Prop} {E : Value → Sl → Pv → AH → Prop} {S : Sl} {L : Pv} {h : AH}
theorem exec_callV {ρ : Operand → Value} {x : Operand} {xs : List Operand} {ats : Array TypeId} {y : Value} {vs : List Value} (hf : ρ x = y) (hx : xs.map ρ = vs) :
  execOp ρ ⟨d, .call ⟨.value x, xs.toArray, ats⟩, ty, ps, af, none⟩ = (do let d ← Deferred.ofValue y vs.toArray; invoke d.target d.args) := by
 subst hf hx
 simp only [execOp, resolve, List.map_toArray]
theorem op_fnM (pre M : Pv) {x : Operand} {xs : List Operand} {ats : Array TypeId} {y : Value} {vs : List Value} {R : Value → AH → Pv → Prop} (hf : ev n S x = y) (hx : xs.map (ev n S) = vs) (hL : L = pre ++ M) (c : FnM P y vs h M R)
  (k : ∀ v h' M', Ext h h' → R v h' M' → wpL P n ops os K E (put S d v) (pre ++ M') h') : wpL P n ops (⟨d, .call ⟨.value x, xs.toArray, ats⟩, ty, ps, af, none⟩ :: os) K E S L h := by
 subst hL
 refine op_of fun V => ?_
 unfold opW
 rw [exec_callV hf hx]
 obtain ⟨e1, d1, VM⟩ := wl_app V
 rw [e1]
 have ndp : ((cl pre).map (·.1)).Nodup := by
  have := V.nd
  rw [cl_append, List.map_append, List.nodup_append] at this
  exact this.1
 refine CallV.mono (CallV.frame (c VM) (fin_wl VM) d1) ?_ ?_
 ·rintro v H2 ⟨H1, rfl, d2, f2, h', M', rfl, V', E', r⟩
  obtain ⟨e2, V2⟩ := wl_join ndp V' d2
  exact ⟨pre ++ M', h', e2, V2, k v h' M' E' r⟩
 ·rintro v H2 ⟨H1, rfl, d2, f2, y⟩; exact y.elim
theorem op_callV {x : Operand} {xs : List Operand} {ats : Array TypeId} {y : Value} {vs : List Value} {R : Value → AH → Prop} (hf : ev n S x = y) (hx : xs.map (ev n S) = vs) (c : Fin h → CallV P y vs h (fun v h' => Ext h h' ∧ R v h') noE)
  (k : ∀ v h', Ext h h' → R v h' → wpL P n ops os K E (put S d v) L h') : wpL P n ops (⟨d, .call ⟨.value x, xs.toArray, ats⟩, ty, ps, af, none⟩ :: os) K E S L h := by
 refine op_fnM L [] (R := fun v h' M' => M' = [] ∧ R v h') hf hx (List.append_nil L).symm ?_ ?_
 ·intro V
  refine CallV.mono (CallV.fin (c V.fin) V.fin) ?_ (fun _ _ y => y.2)
  rintro v H ⟨f1, E', r⟩
  exact ⟨H, [], rfl, valid_nil f1, E', rfl, r⟩
 ·rintro v h' M' E' ⟨rfl, r⟩
  rw [List.append_nil]
  exact k v h' E' r
end
theorem fnM_body {P : Program} {f : FuncId} {fn : Func} {c : Code} {args caps vs : List Value} {h : AH} {M : Pv} {n : Nat} {R : Value → AH → Pv → Prop} (hca : callable P f = true) (hvs : args ++ caps = vs) (hf : P.funcs[f]? = some fn) (hb : fn.body = some c) (hn : fn.ntmps = n) (ha : Nat.ble vs.length n = true)
  (w : xp P n none c (retK P n fn (fun v H => ∃ h' M', H = wl h' M' ∧ Valid h' M' ∧ Ext h h' ∧ R v h' M') noE) (argS vs.toArray) [] M h) : FnM P (.func (.func f) #[] caps.toArray) args h M R := by
 intro V
 refine callV_fn hca ?_
 rw [hvs]
 refine wL hf hb hn (by simpa using ha) ?_
 exact goes_turn (fun _ => ⟨wl_nil _, V⟩) w
end Go.HL
namespace Go.HL
open Go
variable [Lvl]
section
variable {P : Program}
theorem zA {α β : Type} {s : Sem α} {f : α → Sem β} {a : α} (h : pev P s = some a) : pev P (s >>= f) = pev P (f a) := zC h
theorem eq_int {t : TypeId} {q q' : IntKind} {d : Nat} (ht : pev P (underlying t) = some (.int q')) (a b : Int) : pev P (Op.equalIn (d+1) t (.int q a) (.int q b)) = some (a == b) := by
 unfold Op.equalIn
 rw [zA ht]
 simp
 rfl
theorem pev_forIn {α : Type} {g : α → Sem (ForInStep (Option Bool × Unit))} : ∀ (l : List α) (rs : List Bool), l.length = rs.length → (∀ (i : Nat) (a : α) (r : Bool), l[i]? = some a → rs[i]? = some r → pev P (g a) = some (if r then .yield (none, ()) else .done (some false, ()))) →
  pev P (forIn l (none, ()) fun a _ => g a) = some (if rs.all id then (none, ()) else (some false, ()))
 | [], [], _, _ => rfl
 | [], _ :: _, hl, _ => by cases hl
 | _ :: _, [], hl, _ => by cases hl
 | a :: l, r :: rs, hl, h => by
  rw [List.forIn_cons, zA (h 0 a r rfl rfl)]
  cases r with
  | true =>
   simp only [if_true, List.all_cons, id, Bool.true_and]
   exact pev_forIn l rs (by simpa using hl) fun i a r h1 h2 => h (i + 1) a r (by simpa using h1) (by simpa using h2)
  | false => rfl
theorem eq_struct {t : TypeId} {d : Nat} {fs : List Field} {xs ys : Array Value} {rs : List Bool} (ht : pev P (underlying t) = some (.struct fs.toArray)) (hs : P.stoodInHeld t = false) (hl : fs.length = rs.length)
  (h : ∀ (i : Nat) (f : Field) (r : Bool), fs[i]? = some f → rs[i]? = some r → f.name ≠ "_" ∧ ∃ x y, pev P (part f.type xs f.offset) = some x ∧ pev P (part f.type ys f.offset) = some y ∧ pev P (Op.equalIn d f.type x y) = some r) :
  pev P (Op.equalIn (d+1) t (.agg xs) (.agg ys)) = some (rs.all id) := by
 unfold Op.equalIn
 rw [zA ht]
 simp only
 rw [zA (a := P) rfl]
 rw [hs]
 simp only [Bool.false_eq_true, if_false, List.forIn_toArray]
 rw [zA (pev_forIn fs rs hl ?_)]
 ·cases rs.all id <;> rfl
 ·intro i f r h1 h2
  obtain ⟨hn, x, y, hx, hy, he⟩ := h i f r h1 h2
  rw [if_pos hn, zA hx, zA hy, zA he]
  cases r <;> rfl
theorem eq_array {t e : TypeId} {d len m : Nat} {xs ys : Array Value} {rs : List Bool} (ht : pev P (underlying t) = some (.array len e)) (hm : pev P (sizeOf e) = some m) (hl : len = rs.length)
  (h : ∀ (i : Nat) (r : Bool), rs[i]? = some r → ∃ x y, pev P (part e xs (i * m)) = some x ∧ pev P (part e ys (i * m)) = some y ∧ pev P (Op.equalIn d e x y) = some r) :
  pev P (Op.equalIn (d+1) t (.agg xs) (.agg ys)) = some (rs.all id) := by
 unfold Op.equalIn
 rw [zA ht]
 simp only
 rw [zA hm]
 simp only [Std.Legacy.Range.forIn_eq_forIn_range']
 rw [zA (pev_forIn _ rs ?_ ?_)]
 ·cases rs.all id <;> rfl
 ·simp [Std.Legacy.Range.size, hl]
 ·intro i k r h1 h2
  obtain ⟨x, y, hx, hy, he⟩ := h i r h2
  have hk : k = i := by
   have h3 := (List.getElem?_eq_some_iff.1 h1).2
   rw [List.getElem_range'] at h3
   omega
  subst hk
  rw [zA hx, zA hy, zA he]
  cases r <;> rfl
def mapEs (l : List (Value × Value)) (k : Nat) : List MapEntry := (l.zipIdx k).map fun p => { key := p.1.1, val := p.1.2, born := p.2 }
def mapO (l : List (Value × Value)) : Obj := .map (mapEs l 0).toArray l.length
structure KeyT {α : Type} (P : Program) (kt : TypeId) (enc : α → Value) [DecidableEq α] : Prop where
 chk : ∀ e a, pev P (Instr.checkKey e 10000 kt (enc a)) = some ()
 eq : ∀ a b, pev P (Op.equal kt (enc a) (enc b)) = some (decide (a = b))
 now : ∀ (td : TypeDesc), pev P (underlying kt) = some td → ∀ a b, Instr.sameNow td (enc a) (enc b) = none ∨ Instr.sameNow td (enc a) (enc b) = some (decide (a = b))
 und : ∃ td, pev P (underlying kt) = some td
 bits : ∀ a, Instr.sameBits 10000 (enc a) (enc a) = true
variable {α : Type} [DecidableEq α] {kt : TypeId} {enc : α → Value}
def findL (a : α) : List (α × Value) → Nat → Option (Nat × Value)
 | [], _ => none
 | (b, v) :: l, i => if a = b then some (i, v) else findL a l (i + 1)
def encs (enc : α → Value) (l : List (α × Value)) : List (Value × Value) := l.map fun p => (enc p.1, p.2)
theorem mapEs_cons (p : Value × Value) (l : List (Value × Value)) (k : Nat) : mapEs (p :: l) k = { key := p.1, val := p.2, born := k } :: mapEs l (k + 1) := rfl
theorem findAsking_ok (h : KeyT P kt enc) (a : α) : ∀ (l : List (α × Value)) (k i : Nat), pev P (Instr.findAsking kt (enc a) (mapEs (encs enc l) k) i) = some (findL a l i)
 | [], _, _ => rfl
 | (b, v) :: l, k, i => by
  show pev P (Instr.findAsking kt (enc a) ({ key := enc b, val := v, born := k } :: mapEs (encs enc l) (k + 1)) i) = _
  unfold Instr.findAsking
  rw [zA (h.eq a b)]
  by_cases hab : a = b
  ·simp [hab, findL]; rfl
  ·simp only [hab, decide_false, Bool.false_eq_true, if_false, findL]
   exact findAsking_ok h a l (k + 1) (i + 1)
theorem findNow_ok (h : KeyT P kt enc) {td : TypeDesc} (ht : pev P (underlying kt) = some td) (a : α) : ∀ (l : List (α × Value)) (k i : Nat), Instr.findNow td (enc a) (mapEs (encs enc l) k) i = none ∨ Instr.findNow td (enc a) (mapEs (encs enc l) k) i = some (findL a l i)
 | [], _, _ => .inr rfl
 | (b, v) :: l, k, i => by
  show Instr.findNow td (enc a) ({ key := enc b, val := v, born := k } :: mapEs (encs enc l) (k + 1)) i = none ∨ Instr.findNow td (enc a) ({ key := enc b, val := v, born := k } :: mapEs (encs enc l) (k + 1)) i = _
  unfold Instr.findNow
  rcases h.now td ht a b with e | e
  ·left; simp only [e]
  ·by_cases hab : a = b
   ·subst hab; right; rw [show Instr.sameNow td (enc a) (enc a) = some true from by rw [e]; simp]; simp [findL]
   ·simp only [e, hab, decide_false, findL, if_false]
    exact findNow_ok h ht a l (k + 1) (i + 1)
theorem findKey_ok (h : KeyT P kt enc) (a : α) (l : List (α × Value)) : pev P (Instr.findKey kt (enc a) (mapEs (encs enc l) 0)) = some (findL a l 0) := by
 obtain ⟨td, ht⟩ := h.und
 unfold Instr.findKey
 rw [zA ht]
 rcases findNow_ok h ht a l 0 0 with e | e
 ·rw [e]; exact findAsking_ok h a l 0 0
 ·rw [e]; rfl
def putL (a : α) (v : Value) : List (α × Value) → List (α × Value)
 | [] => [(a, v)]
 | (b, u) :: l => if a = b then (b, v) :: l else (b, u) :: putL a v l
theorem putL_some (a : α) (v : Value) : ∀ (l : List (α × Value)) (k i j : Nat) (u : Value), findL a l i = some (j, u) → i ≤ j ∧ j - i < l.length ∧ (mapEs (encs enc l) k)[j - i]? = some { key := enc a, val := u, born := k + (j - i) } ∧
  (mapEs (encs enc l) k).modify (j - i) (fun e => { e with key := enc a, val := v }) = mapEs (encs enc (putL a v l)) k ∧ (putL a v l).length = l.length
 | [], _, _, _, _, h => by cases h
 | (b, w) :: l, k, i, j, u, h => by
  unfold findL at h
  by_cases hab : a = b
  ·rw [if_pos hab] at h
   simp only [Option.some.injEq, Prod.mk.injEq] at h
   obtain ⟨rfl, rfl⟩ := h
   subst hab
   refine ⟨Nat.le_refl _, by simp, by simp [encs, mapEs_cons], ?_, by simp [putL]⟩
   simp [encs, mapEs_cons, putL]
  ·rw [if_neg hab] at h
   obtain ⟨h1, h2, h3, h4, h5⟩ := putL_some a v l (k + 1) (i + 1) j u h
   have e : j - i = (j - (i + 1)) + 1 := by omega
   refine ⟨by omega, by simp; omega, ?_, ?_, by simp [putL, hab, h5]⟩
   ·rw [e]
    show (mapEs (encs enc l) (k + 1))[j - (i + 1)]? = _
    rw [h3]
    simp; omega
   ·rw [e]
    simp only [encs, List.map_cons, mapEs_cons, putL, if_neg hab]
    rw [List.modify_succ_cons]
    congr 1
theorem putL_none (a : α) (v : Value) : ∀ (l : List (α × Value)) (k i : Nat), findL a l i = none → mapEs (encs enc l) k ++ [{ key := enc a, val := v, born := k + l.length }] = mapEs (encs enc (putL a v l)) k ∧ (putL a v l).length = l.length + 1
 | [], _, _, _ => by simp [encs, mapEs, putL]
 | (b, w) :: l, k, i, h => by
  unfold findL at h
  by_cases hab : a = b
  ·rw [if_pos hab] at h; cases h
  ·rw [if_neg hab] at h
   obtain ⟨h1, h2⟩ := putL_none a v l (k + 1) (i + 1) h
   refine ⟨?_, by simp [putL, hab, h2]⟩
   simp only [encs, List.map_cons, mapEs_cons, putL, if_neg hab, List.cons_append, List.length_cons]
   congr 1
   have : k + (l.length + 1) = k + 1 + l.length := by omega
   rw [this]
   exact h1
section ops
variable {n : Nat} {ops : Array Oper} {d : Option Tmp} {op : Op} {ty : TypeId} {ps : String} {af : Array Edge} {os : List Oper} {K : Sl → Pv → AH → Prop} {E : Value → Sl → Pv → AH → Prop} {S : Sl} {L : Pv} {h : AH}
theorem op_makeMap {t : TypeId} (k : ∀ b, wl h L b = none → wpL P n ops os K E (put S d (.map (some b))) (L ++ [some (b, mapO [])]) h) : wpL P n ops (⟨d, .makeMap t none, ty, ps, af, none⟩ :: os) K E S L h := by
 refine op_of fun V => ?_
 unfold opW
 simp only [execOp, Option.map]
 refine wJ ?_
 unfold Instr.makeMap
 refine wJ ?_
 intro b hb
 exact ⟨_, h, wl_new hb _, valid_new V hb _, k b hb⟩
theorem op_mapUpdate (i : Nat) {t et : TypeId} {x y z : Operand} {m : Nat} {a : α} {v : Value} {l : List (α × Value)} (hk : KeyT P kt enc) (ht : pev P (underlying t) = some (.map kt et)) (hx : ev n S x = .map (some m)) (hy : ev n S y = enc a) (hz : ev n S z = v) (hi : L[i]? = some (some (m, mapO (encs enc l))))
  (k : wpL P n ops os K E (put S d undef) (L.set i (some (m, mapO (encs enc (putL a v l))))) h) : wpL P n ops (⟨d, .mapUpdate t x y z, ty, ps, af, none⟩ :: os) K E S L h := by
 refine op_of fun V => ?_
 unfold opW
 simp only [execOp, hx, hy, hz]
 refine wJ ?_
 unfold Instr.mapUpdate
 refine wH ht ?_
 simp only
 refine wJ ?_
 refine ⟨_, wl_get V hi, trivial, ?_⟩
 show dem P (Instr.checkKey false 10000 kt (enc a) >>= _) _ _ _
 refine wH (hk.chk false a) ?_
 have hf : pev P (Instr.findKey kt (enc a) (mapEs (encs enc l) 0).toArray.toList) = some (findL a l 0) := findKey_ok hk a l
 refine wH hf ?_
 cases hfl : findL a l 0 with
 | none =>
  obtain ⟨h1, h2⟩ := putL_none (enc := enc) a v l 0 0 hfl
  have eo : Obj.map ((mapEs (encs enc l) 0).toArray.push { key := enc a, val := v, born := (encs enc l).length }) ((encs enc l).length + 1) = mapO (encs enc (putL a v l)) := by
   unfold mapO
   rw [← h1]
   simp [encs, h2]
  refine ⟨_, wl_get V hi, trivial, ?_⟩
  show dem P (.pure ()) (hupd (wl h L) m (Obj.map ((mapEs (encs enc l) 0).toArray.push { key := enc a, val := v, born := (encs enc l).length }) ((encs enc l).length + 1))) _ _
  rw [eo, wl_set V hi]
  exact ⟨_, h, rfl, valid_set V hi, k⟩
 | some p =>
  obtain ⟨j, u⟩ := p
  obtain ⟨h1, h2, h3, h4, h5⟩ := putL_some (enc := enc) a v l 0 0 j u hfl
  simp only [Nat.sub_zero] at h3 h4
  have hkey : (((mapEs (encs enc l) 0).toArray[j]?).map (·.key)).getD (enc a) = enc a := by
   rw [List.getElem?_toArray, h3]; rfl
  have hst : pev P (Instr.keyThatStays ((((mapEs (encs enc l) 0).toArray[j]?).map (·.key)).getD (enc a)) (enc a)) = some (enc a) := by
   rw [hkey]
   unfold Instr.keyThatStays
   rw [hk.bits a]
   rfl
  show dem P (Instr.keyThatStays ((((mapEs (encs enc l) 0).toArray[j]?).map (·.key)).getD (enc a)) (enc a) >>= _) _ _ _
  refine wH hst ?_
  have eo : Obj.map ((mapEs (encs enc l) 0).toArray.modify j fun e => { e with key := enc a, val := v }) (encs enc l).length = mapO (encs enc (putL a v l)) := by
   unfold mapO
   rw [List.modify_toArray, h4]
   simp [encs, h5]
  refine ⟨_, wl_get V hi, trivial, ?_⟩
  show dem P (.pure ()) (hupd (wl h L) m (Obj.map ((mapEs (encs enc l) 0).toArray.modify j fun e => { e with key := enc a, val := v }) (encs enc l).length)) _ _
  rw [eo, wl_set V hi]
  exact ⟨_, h, rfl, valid_set V hi, k⟩
end ops
end
end Go.HL
namespace Go.HL
open Go
variable [Lvl]
theorem mapEs_get (l : List (Value × Value)) (k j : Nat) : (mapEs l k)[j]? = (l[j]?).map fun p => { key := p.1, val := p.2, born := k + j } := by
 unfold mapEs
 rw [List.getElem?_map, List.getElem?_zipIdx]
 cases l[j]? <;> simp
theorem mem_mapEs {l : List (Value × Value)} {e : MapEntry} (h : e ∈ mapEs l 0) : ∃ p, l[e.born]? = some p ∧ e = { key := p.1, val := p.2, born := e.born } := by
 obtain ⟨j, hj⟩ := List.getElem?_of_mem h
 rw [mapEs_get] at hj
 cases hp : l[j]? with
 | none => rw [hp] at hj; cases hj
 | some p =>
  rw [hp] at hj
  simp only [Option.map_some, Option.some.injEq, Nat.zero_add] at hj
  subst hj
  exact ⟨p, hp, rfl⟩
section
variable {P : Program} {n : Nat} {ops : Array Oper} {d : Option Tmp} {op : Op} {ty : TypeId} {ps : String} {af : Array Edge} {os : List Oper} {K : Sl → Pv → AH → Prop} {E : Value → Sl → Pv → AH → Prop} {S : Sl} {L : Pv} {h : AH}
def iterO (m : Nat) (len : Nat) (seen : List Nat) : Obj := .mapIter (some m) len seen.toArray len
theorem op_range {t a b : TypeId} {x : Operand} {m : Nat} {l : List (Value × Value)} (ht : pev P (underlying t) = some (.map a b)) (hx : ev n S x = .map (some m)) (hm : Valid h L → wl h L m = some (mapO l))
  (k : ∀ c, wl h L c = none → wpL P n ops os K E (put S d (.pointer (some ⟨c, 0, none⟩))) (L ++ [some (c, iterO m l.length [])]) h) : wpL P n ops (⟨d, .range t x, ty, ps, af, none⟩ :: os) K E S L h := by
 refine op_of fun V => ?_
 unfold opW
 simp only [execOp, hx]
 refine wJ ?_
 unfold Instr.range
 refine wH ht ?_
 simp only
 refine wJ ?_
 refine ⟨_, hm V, trivial, ?_⟩
 refine wJ ?_
 refine wJ ?_
 intro c hc
 exact ⟨_, h, wl_new hc _, valid_new V hc _, k c hc⟩
theorem op_next (i : Nat) {x : Operand} {c m : Nat} {l : List (Value × Value)} {seen : List Nat} (hx : ev n S x = .pointer (some ⟨c, 0, none⟩)) (hi : L[i]? = some (some (c, iterO m l.length seen))) (hm : Valid h L → wl h L m = some (mapO l))
  (k1 : ∀ (j : Nat) (p : Value × Value), l[j]? = some p → j ∉ seen → wpL P n ops os K E (put S d (.tuple #[.bool true, p.1, p.2])) (L.set i (some (c, iterO m l.length (seen ++ [j])))) h)
  (k2 : (∀ j, j < l.length → j ∈ seen) → wpL P n ops os K E (put S d (.tuple #[.bool false])) L h) : wpL P n ops (⟨d, .next x false, ty, ps, af, none⟩ :: os) K E S L h := by
 refine op_of fun V => ?_
 unfold opW
 simp only [execOp, hx]
 refine wJ ?_
 unfold Instr.next
 simp only
 refine wJ ?_
 refine ⟨_, wl_get V hi, trivial, ?_⟩
 show dem P (getObj m >>= _) _ _ _
 refine wJ ?_
 refine ⟨_, hm V, trivial, ?_⟩
 have hlast : ¬ ((!seen.toArray.isEmpty && !(mapEs l 0).toArray.isEmpty && (mapEs l 0).toArray.all (fun e => decide (e.born ≥ l.length))) = true) := by
  intro hh
  simp only [Bool.and_eq_true] at hh
  obtain ⟨⟨_, h2⟩, h3⟩ := hh
  cases hl : l with
  | nil => subst hl; simp [mapEs] at h2
  | cons p l' =>
   rw [hl] at h3
   simp [mapEs_cons] at h3
 show dem P (if (!seen.toArray.isEmpty && !(mapEs l 0).toArray.isEmpty && (mapEs l 0).toArray.all (fun e => decide (e.born ≥ l.length))) = true then _ else _) _ _ _
 rw [if_neg hlast]
 -- who is left
 have hleft : ∀ e ∈ (mapEs l 0).filter (fun e => !seen.toArray.contains e.born), ∃ p, l[e.born]? = some p ∧ e = { key := p.1, val := p.2, born := e.born } ∧ e.born ∉ seen := by
  intro e he
  obtain ⟨h1, h2⟩ := List.mem_filter.1 he
  obtain ⟨p, hp, hE⟩ := mem_mapEs h1
  exact ⟨p, hp, hE, by simpa using h2⟩
 generalize hlf : (mapEs l 0).filter (fun e => !seen.toArray.contains e.born) = lf at hleft
 have hold : lf.filter (fun e => decide (e.born < l.length)) = lf := by
  refine List.filter_eq_self.2 fun e he => ?_
  obtain ⟨p, hp, _⟩ := hleft e he
  simpa using (List.getElem?_eq_some_iff.1 hp).1
 have hnew : lf.filter (fun e => decide (e.born ≥ l.length)) = [] := by
  refine List.filter_eq_nil_iff.2 fun e he => ?_
  obtain ⟨p, hp, _⟩ := hleft e he
  have := (List.getElem?_eq_some_iff.1 hp).1
  simp; omega
 have hcand : (if (((mapEs l 0).toArray.filter fun e => !seen.toArray.contains e.born).filter (fun e => decide (e.born < l.length))).isEmpty then #[(none : Option MapEntry)] else #[]) ++
   ((((mapEs l 0).toArray.filter fun e => !seen.toArray.contains e.born).filter (fun e => decide (e.born < l.length))) ++ (((mapEs l 0).toArray.filter fun e => !seen.toArray.contains e.born).filter (fun e => decide (e.born ≥ l.length)))).map some =
   ((if lf.isEmpty then [none] else []) ++ lf.map some).toArray := by
  simp only [List.filter_toArray, hlf, hold, hnew, List.isEmpty_toArray]
  cases lf <;> simp
 show dem P (choose (.mapNext ((if (((mapEs l 0).toArray.filter fun e => !seen.toArray.contains e.born).filter (fun e => decide (e.born < l.length))).isEmpty then #[(none : Option MapEntry)] else #[]) ++
   ((((mapEs l 0).toArray.filter fun e => !seen.toArray.contains e.born).filter (fun e => decide (e.born < l.length))) ++ (((mapEs l 0).toArray.filter fun e => !seen.toArray.contains e.born).filter (fun e => decide (e.born ≥ l.length)))).map some).size) >>= fun q => _) _ _ _
 rw [hcand]
 generalize hcs : ((if lf.isEmpty then [none] else []) ++ lf.map some) = cs
 have hpos : 0 < cs.length := by
  rw [← hcs]
  cases lf <;> simp
 have fin : ∀ q, q < cs.length → dem P (match cs.toArray[q]? with | some (some e) => (do setObj c (.mapIter (some m) l.length (seen.toArray.push e.born) l.length); pure (.tuple #[.bool true, e.key, e.val])) | some none => pure (.tuple #[.bool false]) | none => stuck "Next: no such candidate" : Sem Value) (wl h L)
   (fun v H => dem P (.pure (.value v)) H (upon P (fun v H => ∃ L' h', H = wl h' L' ∧ Valid h' L' ∧ wpL P n ops os K E (put S d v) L' h') (fun v H => ∃ L' h', H = wl h' L' ∧ Valid h' L' ∧ E v S L' h')) (fun v H => ∃ L' h', H = wl h' L' ∧ Valid h' L' ∧ E v S L' h')) (fun v H => ∃ L' h', H = wl h' L' ∧ Valid h' L' ∧ E v S L' h') := by
  intro q hq
  have hg : cs.toArray[q]? = some cs[q] := by rw [List.getElem?_toArray, List.getElem?_eq_getElem hq]
  rw [hg]
  have hmem : cs[q] ∈ cs := List.getElem_mem hq
  cases hce : cs[q] with
  | none =>
   rw [hce] at hmem
   rw [← hcs] at hmem
   have hn : lf = [] := by
    cases hl2 : lf with
    | nil => rfl
    | cons e lf' => rw [hl2] at hmem; simp at hmem
   refine ⟨L, h, rfl, V, k2 fun j hj => ?_⟩
   by_cases hs : j ∈ seen
   ·exact hs
   ·exfalso
    have h1 : (mapEs l 0)[j]? = some { key := l[j].1, val := l[j].2, born := j } := by rw [mapEs_get, List.getElem?_eq_getElem hj]; simp
    have h2 : ({ key := l[j].1, val := l[j].2, born := j } : MapEntry) ∈ lf := by
     rw [← hlf]
     exact List.mem_filter.2 ⟨List.mem_of_getElem? h1, by simpa using hs⟩
    rw [hn] at h2
    cases h2
  | some e =>
   rw [hce] at hmem
   rw [← hcs] at hmem
   have he : e ∈ lf := by
    cases hl2 : lf with
    | nil => rw [hl2] at hmem; simp at hmem
    | cons e' lf' => rw [hl2] at hmem; simpa using hmem
   obtain ⟨p, hp, hE, hs⟩ := hleft e he
   refine wJ ?_
   refine ⟨_, wl_get V hi, trivial, ?_⟩
   have ei : Obj.mapIter (some m) l.length (seen.toArray.push e.born) l.length = iterO m l.length (seen ++ [e.born]) := by unfold iterO; simp
   rw [ei, wl_set V hi]
   have k' := k1 e.born p hp hs
   have e1 : e.key = p.1 := by rw [hE]
   have e2 : e.val = p.2 := by rw [hE]
   rw [e1, e2]
   exact ⟨_, h, rfl, valid_set V hi, k'⟩
 refine wJ ?_
 show dem P (.choose (.mapNext cs.toArray.size) .pure) _ _ _
 unfold dem
 split
 ·exact fin 0 hpos
 ·intro t
  refine fin _ ?_
  show t % cs.toArray.size < cs.length
  rw [List.size_toArray]
  exact Nat.mod_lt _ hpos
theorem op_entry (i : Nat) {x : Operand} {c m j : Nat} {l : List (Value × Value)} {seen : List Nat} {p : Value × Value} (hx : ev n S x = .pointer (some ⟨c, 0, none⟩)) (hi : L[i]? = some (some (c, iterO m l.length (seen ++ [j])))) (hm : Valid h L → wl h L m = some (mapO l)) (hp : l[j]? = some p)
  (k : wpL P n ops os K E (put S d (.tuple #[p.1, p.2])) L h) : wpL P n ops (⟨d, .entry x, ty, ps, af, none⟩ :: os) K E S L h := by
 refine op_of fun V => ?_
 unfold opW
 simp only [execOp, hx]
 refine wJ ?_
 unfold Instr.entry
 simp only
 refine wJ ?_
 refine ⟨_, wl_get V hi, trivial, ?_⟩
 have hb : (seen ++ [j]).toArray.back? = some j := by simp
 show dem P (match (seen ++ [j]).toArray.back? with | some stamp => _ | _ => _) _ _ _
 rw [hb]
 show dem P (getObj m >>= _) _ _ _
 refine wJ ?_
 refine ⟨_, hm V, trivial, ?_⟩
 show dem P (if (l.length != l.length) = true then _ else _) _ _ _
 rw [if_neg (by simp)]
 have hfind : (mapEs l 0).toArray.find? (fun e => e.born == j) = some { key := p.1, val := p.2, born := j } := by
  rw [List.find?_toArray]
  have hj : (mapEs l 0)[j]? = some { key := p.1, val := p.2, born := j } := by rw [mapEs_get, hp]; simp
  cases hf : (mapEs l 0).find? (fun e => e.born == j) with
  | none =>
   have := List.find?_eq_none.1 hf _ (List.mem_of_getElem? hj)
   simp at this
  | some e =>
   have h1 := List.find?_some hf
   have h2 := List.mem_of_find?_eq_some hf
   obtain ⟨q, hq, hE⟩ := mem_mapEs h2
   have h3 : e.born = j := by simpa using h1
   rw [h3] at hq hE
   rw [hp] at hq
   cases hq
   rw [hE]
 show dem P (match (mapEs l 0).toArray.find? (fun e => e.born == j) with | some e => _ | none => _) _ _ _
 rw [hfind]
 exact ⟨L, h, rfl, V, k⟩
end
end Go.HL
namespace Go.HL
open Go
variable [Lvl]
section
variable {P : Program} {n : Nat} {ro : Option Nat} {K : Post} {S : Sl} {D : Df} {L : Pv} {h : AH}
theorem xp_scope {c : Code} (g : xp P n ro c K S D L h) : xp P n ro (.scope c) K S D L h := by
 intro H V b hb k cs
 refine .ctl (fr' := mk b n S D ([.code c] ++ (.inScope c :: k))) (cs' := cs) (fun w => by simp [stepG, stepG.exec, mk]) ?_
 refine (g H V b hb (.inScope c :: k) cs).bind ?_
 rintro fr cs' H' ⟨rfl, e, S', D', L', h', V', kk, a⟩
 cases e with
 | normal =>
  have a' : fr = mk b n S' D' (.inScope c :: k) := a
  subst a'
  exact .ctl (fr' := mk b n S' D' k) (cs' := cs') (fun w => by simp [stepG, stepG.exec, mk]) (.done ⟨rfl, .normal, S', D', L', h', V', kk, rfl⟩)
 | exit id => exact .done ⟨rfl, .exit id, S', D', L', h', V', kk, a⟩
 | ret => exact .done ⟨rfl, .ret, S', D', L', h', V', kk, a⟩
 | panic v => exact .done ⟨rfl, .panic v, S', D', L', h', V', kk, a⟩
theorem xp_label {l : Nat} (hk : K .normal S D L h) : xp P n ro (.label l) K S D L h :=
 goes_step (items' := []) (fun b hb k cs w => by simp [stepG, stepG.exec, mk]) (goes_nil hk)
def Again (P : Program) (n : Nat) (ro : Option Nat) (c : Code) (K : Post) (S : Sl) (D : Df) (L : Pv) (h : AH) : Prop := Goes P n ro [.inLoop c] K S D L h
theorem xp_unroll {c : Code} (g : xp P n ro c (thenK (Again P n ro c K) K) S D L h) : xp P n ro (.loop c) K S D L h :=
 goes_step (items' := [.code c] ++ [.inLoop c]) (fun b hb k cs w => by simp [stepG, stepG.exec, mk]) (goes_append (x := [.code c]) (y := [.inLoop c]) trivial g)
theorem again_unroll {c : Code} (g : xp P n ro c (thenK (Again P n ro c K) K) S D L h) : Again P n ro c K S D L h :=
 goes_step (items' := [.code c] ++ [.inLoop c]) (fun b hb k cs w => by simp [stepG, stepG.exec, mk]) (goes_append (x := [.code c]) (y := [.inLoop c]) trivial g)
theorem xp_condT {c : Operand} {x y : Code} {t : Bool} (hc : ev n S c = .bool t) (ht : t = true) (g : xp P n ro x K S D L h) : xp P n ro (.cond c x y) K S D L h :=
 wA hc (fun _ => g) (fun hf => by rw [ht] at hf; cases hf)
theorem zI {c : Operand} {x y : Code} {t : Bool} (hc : ev n S c = .bool t) (ht : t = false) (g : xp P n ro y K S D L h) : xp P n ro (.cond c x y) K S D L h :=
 wA hc (fun hf => by rw [ht] at hf; cases hf) (fun _ => g)
theorem zN {c : Code} (M : List Nat) (m : Nat) {α : Type} (V : α → List (Nat × Value)) (Lf : α → Pv) (J : α → AH → Prop) (μ : α → Nat) (a0 : α) (hV : HasL S (V a0)) (hL : Lf a0 = L) (h0 : J a0 h)
  (round : ∀ (a : α) (T : Sl) (h' : AH), Ext h h' → J a h' → xp P n ro c (thenK (fun S2 D2 L2 h2 => ∃ a2, HasL S2 (V a2) ∧ D2 = D ∧ L2.take m = Lf a2 ∧ Ext h h2 ∧ (∀ h3, Ext h2 h3 → J a2 h3) ∧ μ a2 < μ a ∧ Off M S S2) K) (updL (mix M T S) (V a)) D (Lf a) h') :
  xp P n ro (.loop c) K S D L h := by
 refine xp_loopM M m V (fun a D' L' h' => D' = D ∧ L' = Lf a ∧ Ext h h' ∧ J a h') μ a0 hV ⟨rfl, hL.symm, Ext.refl h, h0⟩ ?_
 rintro a T D' L' h' ⟨rfl, rfl, E, hJ⟩
 refine xp_mono ?_ (round a T h' E hJ)
 intro e S2 D2 L2 h2 kk
 cases e with
 | normal =>
  obtain ⟨a2, hv, hD, hL2, E2, hJ2, hlt, off⟩ := kk
  exact ⟨a2, hv, fun h3 E3 => ⟨hD, hL2, E2.trans E3, hJ2 h3 E3⟩, hlt, off⟩
 | exit id => exact kk
 | ret => exact kk
 | panic v => exact kk
end
section pv
variable {P : Program} {n : Nat} {d : Option Tmp} {op : Op} {ty : TypeId} {ps : String} {af : Array Edge} {S : Sl}
theorem wM {t e : TypeId} {x y : Operand} {A : Option Addr} {g off len cap m : Nat} {q : IntKind} {i : Int} (hx : ev n S x = .slice A len cap) (hA : A = some ⟨g, off, none⟩) (hy : ev n S y = .int q i)
  (ht : pev P (underlying t) = some (.slice e)) (hs : pev P (sizeOf e) = some m) (h0 : 0 ≤ i) (h1 : i < len) : pev P (execOp (ev n S) ⟨d, .indexAddr t x y, ty, ps, af, none⟩) = some (.value (.pointer (some ⟨g, off + i.toNat * m, none⟩))) := by
 subst hA
 exact qM hx hy ht hs h0 h1
theorem pv_indexV {x y : Operand} {t e : TypeId} {len : Nat} {cs : List Value} {q : IntKind} {i : Int} {v : Value} (hx : ev n S x = .agg cs.toArray) (hy : ev n S y = .int q i) (ht : pev P (underlying t) = some (.array len e)) (ha : pev P (isAgg e) = some false) (hs : pev P (sizeOf e) = some 1) (h0 : 0 ≤ i) (h1 : i < len) (hv : cs[i.toNat]? = some v) :
  pev P (execOp (ev n S) ⟨d, .index t x y, ty, ps, af, none⟩) = some (.value v) := by
 simp only [execOp, hx, hy]
 refine (zC (a := v) ?_).trans rfl
 unfold Instr.index
 refine (zA (a := (q, i)) rfl).trans ?_
 refine (zA ht).trans ?_
 simp only
 rw [if_pos ⟨h0, h1⟩]
 refine (zA hs).trans ?_
 unfold part
 refine (zA ha).trans ?_
 simp only [Bool.false_eq_true, if_false, Nat.mul_one, List.getElem?_toArray, hv]
 rfl
theorem pv_sliceA {x : Operand} {t e : TypeId} {len m g off : Nat} (hx : ev n S x = .pointer (some ⟨g, off, none⟩)) (ht : pev P (underlying t) = some (.array len e)) (hs : pev P (sizeOf e) = some m) (hl : 0 < len) :
  pev P (execOp (ev n S) ⟨d, .slice t x none none none, ty, ps, af, none⟩) = some (.value (.slice (some ⟨g, off, none⟩) len len)) := by
 simp only [execOp, hx, Option.map]
 refine (zC (a := .slice (some ⟨g, off, none⟩) len len) ?_).trans rfl
 unfold Instr.sliceAt
 refine (zA ht).trans ?_
 simp only
 refine (zA (a := ⟨g, off, none⟩) rfl).trans ?_
 refine (zA (a := (0, len, len)) rfl).trans ?_
 refine (zA hs).trans ?_
 have e0 : (if len = 0 then (⟨g, off, none⟩ : Addr) else (⟨g, off, none⟩ : Addr).add (0 * m)) = ⟨g, off, none⟩ := by rw [if_neg (by omega)]; simp [Addr.add]
 show some (Value.slice (some (if len = 0 then (⟨g, off, none⟩ : Addr) else (⟨g, off, none⟩ : Addr).add (0 * m))) (len - 0) (len - 0)) = _
 rw [e0]
 rfl
theorem i64_nat (a : Nat) (ha : a < 2 ^ 63) : IntKind.wrap .i64 (a : Int) = a := IntWalk.i64_in _ (by omega)
theorem i64_or (a b : Nat) (ha : a < 2 ^ 62) (hb : b < 2 ^ 62) : Value.int .i64 (IntKind.wrap .i64 ((BitVec.ofInt 64 (a : Int) ||| BitVec.ofInt 64 (b : Int)).toNat : Int)) = .int .i64 ((a ||| b : Nat) : Int) := by
 rw [BitVec.toNat_or, bv_nat a (by omega), bv_nat b (by omega), i64_nat _ (Nat.lt_of_lt_of_le (Nat.or_lt_two_pow ha hb) (by omega))]
theorem i64_and (a b : Nat) (ha : a < 2 ^ 62) (hb : b < 2 ^ 62) : Value.int .i64 (IntKind.wrap .i64 ((BitVec.ofInt 64 (a : Int) &&& BitVec.ofInt 64 (b : Int)).toNat : Int)) = .int .i64 ((a &&& b : Nat) : Int) := by
 rw [BitVec.toNat_and, bv_nat a (by omega), bv_nat b (by omega), i64_nat _ (Nat.lt_of_lt_of_le (Nat.and_lt_two_pow _ hb) (by omega))]
theorem pv_shl {q q' : IntKind} {x y : Operand} {t u : TypeId} (a k : Nat) {a' y' : Int} (hq : q = .i64 ∨ q = .u64) (hx : ev n S x = .int q a') (hy : ev n S y = .int q' y') (ea : a' = a) (ek : y' = k) (hk : k < 64) (hb : a * 2 ^ k < 2 ^ 63) :
  pev P (execOp (ev n S) ⟨d, .binOp .shl t x y u, ty, ps, af, none⟩) = some (.value (.int q ((a * 2 ^ k : Nat) : Int))) := by
 subst ea ek
 have e : IntKind.wrap q ((a : Int) * 2 ^ (min ((k : Int).toNat) (IntKind.bits q))) = ((a * 2 ^ k : Nat) : Int) := by
  rw [show min ((k : Int).toNat) (IntKind.bits q) = k from by rcases hq with rfl | rfl <;> (simp [IntKind.bits]; omega)]
  rw [show (a : Int) * 2 ^ k = ((a * 2 ^ k : Nat) : Int) from by push_cast; rfl]
  rcases hq with rfl | rfl
  ·exact i64_nat _ hb
  ·exact u64_nat _ (by omega)
 have hn : ¬ (k : Int) < 0 := by omega
 simp only [execOp, hx, hy, binOp, Op.shift, if_neg hn, e]
 rfl
theorem pv_shr {q q' : IntKind} {x y : Operand} {t u : TypeId} (a k : Nat) {a' y' : Int} (hq : q = .i64 ∨ q = .u64) (hx : ev n S x = .int q a') (hy : ev n S y = .int q' y') (ea : a' = a) (ek : y' = k) (hk : k < 64) :
  pev P (execOp (ev n S) ⟨d, .binOp .shr t x y u, ty, ps, af, none⟩) = some (.value (.int q ((a / 2 ^ k : Nat) : Int))) := by
 subst ea ek
 have e : (a : Int).fdiv (2 ^ (min ((k : Int).toNat) (IntKind.bits q))) = ((a / 2 ^ k : Nat) : Int) := by
  rw [show min ((k : Int).toNat) (IntKind.bits q) = k from by rcases hq with rfl | rfl <;> (simp [IntKind.bits]; omega)]
  rw [Int.fdiv_eq_ediv_of_nonneg _ (by exact_mod_cast Nat.zero_le (2 ^ k))]
  push_cast; rfl
 have hn : ¬ (k : Int) < 0 := by omega
 simp only [execOp, hx, hy, binOp, Op.shift, if_neg hn, e]
 rfl
theorem pv_eqA {x y : Operand} {t u : TypeId} {xs ys : List Value} {r : Bool} (hx : ev n S x = .agg xs.toArray) (hy : ev n S y = .agg ys.toArray) (hg : P.eqGuardType P.depth t = false) (he : pev P (Op.equalIn Op.maxDepth t (.agg xs.toArray) (.agg ys.toArray)) = some r) :
  pev P (execOp (ev n S) ⟨d, .binOp .eql t x y u, ty, ps, af, none⟩) = some (.value (.bool r)) := by
 simp only [execOp, hx, hy]
 refine (zC (a := .bool r) ?_).trans rfl
 refine (zA (a := ()) ?_).trans ?_
 ·unfold eqGuard
  simp only [Bool.not_true, Bool.false_eq_true, if_false]
  refine (zA (a := P) rfl).trans ((zA (a := P) rfl).trans ?_)
  rw [hg]
  rfl
 ·exact (zA he).trans rfl
theorem pv_neA {x y : Operand} {t u : TypeId} {xs ys : List Value} {r : Bool} (hx : ev n S x = .agg xs.toArray) (hy : ev n S y = .agg ys.toArray) (hg : P.eqGuardType P.depth t = false) (he : pev P (Op.equalIn Op.maxDepth t (.agg xs.toArray) (.agg ys.toArray)) = some r) :
  pev P (execOp (ev n S) ⟨d, .binOp .neq t x y u, ty, ps, af, none⟩) = some (.value (.bool !r)) := by
 simp only [execOp, hx, hy]
 refine (zC (a := .bool !r) ?_).trans rfl
 refine (zA (a := ()) ?_).trans ?_
 ·unfold eqGuard
  simp only [Bool.not_true, Bool.false_eq_true, if_false]
  refine (zA (a := P) rfl).trans ((zA (a := P) rfl).trans ?_)
  rw [hg]
  rfl
 ·exact (zA he).trans rfl
end pv
section ops
variable {P : Program} {n : Nat} {ops : Array Oper} {d : Option Tmp} {op : Op} {ty : TypeId} {ps : String} {af : Array Edge} {os : List Oper} {K : Sl → Pv → AH → Prop} {E : Value → Sl → Pv → AH → Prop} {S : Sl} {L : Pv} {h : AH}
theorem op_invoke {x : Operand} {name : String} {xs : List Operand} {ats : Array TypeId} {t : TypeId} {u rv : Value} {g : FuncId} {vs : List Value} {R : Value → AH → Prop} (hf : ev n S x = .iface t u) (hme : pev P (method (P.types.size + Made.depth) t u name) = some (g, rv)) (hc : callable P g = true) (hx : rv :: xs.map (ev n S) = vs) (c : FnT P g vs.toArray h R)
  (k : ∀ v h', Ext h h' → R v h' → wpL P n ops os K E (put S d v) L h') : wpL P n ops (⟨d, .call ⟨.invoke x name, xs.toArray, ats⟩, ty, ps, af, none⟩ :: os) K E S L h := by
 subst hx
 refine op_of fun V => ?_
 unfold opW
 have e : execOp (ev n S) ⟨d, .call ⟨.invoke x name, xs.toArray, ats⟩, ty, ps, af, none⟩ = callMethod (.iface t u) name (xs.map (ev n S)).toArray := by
  simp only [execOp, resolve, List.map_toArray, hf]
  show invoke (.fn (.method name) #[]) (#[Value.iface t u] ++ (xs.map (ev n S)).toArray) = _
  unfold invoke
  have e1 : (#[Value.iface t u] ++ (xs.map (ev n S)).toArray)[0]? = some (Value.iface t u) := by simp
  simp only [e1]
  congr 1
  apply Array.ext'
  simp
  exact List.take_of_length_le (by simp)
 rw [e]
 unfold callMethod
 refine wH (a := P) rfl ?_
 refine wH hme ?_
 show dem P (callFunc g (#[rv] ++ (xs.map (ev n S)).toArray)) _ _ _
 refine dem_callFunc hc ?_
 have e2 : #[rv] ++ (xs.map (ev n S)).toArray = (rv :: xs.map (ev n S)).toArray := by simp
 rw [e2]
 refine CallT.mono (CallT.priv V c) ?_ ?_
 ·rintro v h2 ⟨h1, rfl, V1, E1, r⟩; exact ⟨L, h1, rfl, V1, k v h1 E1 r⟩
 ·rintro v h2 ⟨h1, rfl, V1, y⟩; exact y.elim
theorem wp_pub (i : Nat) {o : Oper} {b : Nat} {ob : Obj} (hg : o.guard = none) (hi : L[i]? = some (some (b, ob))) (g : ∀ h', Ext h h' → h' b = some ob → wpL P n ops (o :: os) K E S (L.set i none) h') : wpL P n ops (o :: os) K E S L h := by
 have hb : h b = none ∨ ∃ o', h b = some o' := by cases h b <;> simp
 rcases hb with hb | ⟨o', hb⟩
 ·have g1 := g (hupd h b ob) (Ext.new (Ext.refl h) hb ob) (by simp [hupd])
  unfold wpL at g1 ⊢
  rw [hg] at g1 ⊢
  intro V
  have := g1 (valid_pub V hi)
  rw [← wl_pub V hi] at this
  exact this
 ·unfold wpL
  rw [hg]
  intro V
  have := wl_fresh V hi
  rw [hb] at this
  cases this
end ops
end Go.HL
namespace Go.HL
open Go
variable [Lvl]
theorem natBeq (x y : Nat) : ((x : Int) == (y : Int)) = decide (x = y) := by
 by_cases h : x = y
 ·simp [h]
 ·simp [h]
  omega
theorem ltI {k n : Nat} (h : decide ((k : Int) < (n : Int)) = true) : k < n := by have := of_decide_eq_true h; omega
theorem geI {k n : Nat} (h : decide ((k : Int) < (n : Int)) = false) : n ≤ k := by have := of_decide_eq_false h; omega
theorem wN {M M2 : List Nat} {S0 S T : Sl} (hs : M2.all (fun i => M.elem i) = true) (g : Off M S0 S) : Off M S0 (mix M2 T S) := by
 intro i hi
 unfold mix
 cases h2 : M2.elem i with
 | true =>
  have := List.all_eq_true.1 hs i (List.elem_iff.1 h2)
  rw [hi] at this
  cases this
 | false => exact g i hi
theorem qS {M : List Nat} {S0 : Sl} : ∀ {l : List (Nat × Value)} {S : Sl}, (l.all fun p => M.elem p.1) = true → Off M S0 S → Off M S0 (updL S l)
 | [], _, _, g => g
 | (d, v) :: l, S, hs, g => by
  rw [List.all_cons, Bool.and_eq_true] at hs
  exact qS (l := l) hs.2 (wB hs.1 g)
theorem xp_loopL {P : Program} {n : Nat} {ro : Option Nat} {K : Post} {S : Sl} {D : Df} {L : Pv} {h : AH} {c : Code} (M : List Nat) (m : Nat) {α : Type} (V : α → List (Nat × Value)) (Lg : α → Pv → Pv) (J : α → AH → Prop) (μ : α → Nat) (a0 : α) (hV : HasL S (V a0)) (hL : Lg a0 L = L) (h0 : J a0 h)
  (round : ∀ (a : α) (T : Sl) (h' : AH), Ext h h' → J a h' → xp P n ro c (thenK (fun S2 D2 L2 h2 => ∃ a2, HasL S2 (V a2) ∧ D2 = D ∧ L2.take m = Lg a2 L ∧ Ext h h2 ∧ (∀ h3, Ext h2 h3 → J a2 h3) ∧ μ a2 < μ a ∧ Off M S S2) K) (updL (mix M T S) (V a)) D (Lg a L) h') :
  xp P n ro (.loop c) K S D L h := zN M m V (fun a => Lg a L) J μ a0 hV hL h0 round
theorem xp_loopD {P : Program} {n : Nat} {ro : Option Nat} {K : Post} {S : Sl} {D : Df} {L : Pv} {h : AH} {c : Code} (M : List Nat) (m : Nat) {α : Type} (V : α → List (Nat × Value)) (Lg : α → Pv → Pv) (J : α → AH → Prop) (μ : α → Nat) (a0 : α) (hV : HasL S (V a0)) (hL : Lg a0 L = L) (h0 : J a0 h) (hD : allMarks D = true)
  (round : ∀ (a : α) (T : Sl) (h' : AH), Ext h h' → J a h' → ∀ D', allMarks D' = true → xp P n ro c (thenK (fun S2 D2 L2 h2 => ∃ a2, HasL S2 (V a2) ∧ allMarks D2 = true ∧ L2.take m = Lg a2 L ∧ Ext h h2 ∧ (∀ h3, Ext h2 h3 → J a2 h3) ∧ μ a2 < μ a ∧ Off M S S2) K) (updL (mix M T S) (V a)) D' (Lg a L) h') :
  xp P n ro (.loop c) K S D L h := by
 refine xp_loopM M m V (fun a D' L' h' => allMarks D' = true ∧ L' = Lg a L ∧ Ext h h' ∧ J a h') μ a0 hV ⟨hD, hL.symm, Ext.refl h, h0⟩ ?_
 rintro a T D' L' h' ⟨hD', rfl, E, hJ⟩
 refine xp_mono ?_ (round a T h' E hJ D' hD')
 intro e S2 D2 L2 h2 kk
 cases e with
 | normal =>
  obtain ⟨a2, hv, hD2, hL2, E2, hJ2, hlt, off⟩ := kk
  exact ⟨a2, hv, fun h3 E3 => ⟨hD2, hL2, E2.trans E3, hJ2 h3 E3⟩, hlt, off⟩
 | exit id => exact kk
 | ret => exact kk
 | panic v => exact kk
theorem allMarks_cons {D : Df} {r : Nat} (h : allMarks D = true) : allMarks (markD r :: D) = true := by
 unfold allMarks at h ⊢
 rw [List.all_cons, h]
 rfl
theorem xp_cutB {P : Program} {n : Nat} {ro : Option Nat} {K : Post} {S : Sl} {D : Df} {L : Pv} {h : AH} {x y : Code} (M : List Nat) (m : Nat) {α : Type} (V : α → List (Nat × Value)) (Lf : α → Pv → Pv) (J : α → AH → Prop)
  (h1 : xp P n ro x (thenK (fun S2 D2 L2 h2 => ∃ a2, HasL S2 (V a2) ∧ D2 = D ∧ L2.take m = Lf a2 L ∧ Ext h h2 ∧ (∀ h3, Ext h2 h3 → J a2 h3) ∧ Off M S S2) K) S D L h)
  (h2 : ∀ (a : α) (T : Sl) (h' : AH), Ext h h' → J a h' → xp P n ro y K (updL (mix M T S) (V a)) D (Lf a L) h') : xp P n ro (.seq x y) K S D L h := by
 refine qF (xp_mono ?_ h1)
 intro e S2 D2 L2 h3 kk
 cases e with
 | normal =>
  obtain ⟨a2, hv, hD, hL2, E2, hJ2, off⟩ := kk
  subst hD
  have e2 : updL (mix M S2 S) (V a2) = S2 := updL_self M S S2 off _ _ (mix_self off) hv
  refine goes_drop m fun h4 E4 => ?_
  have := h2 a2 S2 h4 (E2.trans E4) (hJ2 h4 E4)
  rw [e2, ← hL2] at this
  exact this
 | exit id => exact kk
 | ret => exact kk
 | panic v => exact kk
theorem qH {P : Program} {n : Nat} {ops : Array Oper} {os : List Oper} {K : Sl → Pv → AH → Prop} {E : Value → Sl → Pv → AH → Prop} {S : Sl} {L : Pv} {h : AH} (L' : Pv) (hL : L = L') (k : wpL P n ops os K E S L' h) : wpL P n ops os K E S L h := by subst hL; exact k
theorem qZ {P : Program} {n : Nat} {ops : Array Oper} {mask : List Bool} {X : Sl → AH → Prop} {dn ac : List Nat} {S : Sl} {L : Pv} {h : AH} (L' : Pv) (hL : L = L') (k : Dw P n ops mask X dn ac S L' h) : Dw P n ops mask X dn ac S L h := by subst hL; exact k
theorem qP {P : Program} {n : Nat} {ro : Option Nat} {c : Code} {K : Post} {S : Sl} {D : Df} {L : Pv} {h : AH} (L' : Pv) (hL : L = L') (k : xp P n ro c K S D L' h) : xp P n ro c K S D L h := by subst hL; exact k
structure Acc where
 p : Option (Nat × Obj)
 A : Option Addr
 n : Nat
 c : Nat
abbrev Acc.v (a : Acc) : Value := .slice a.A a.n a.c
abbrev acc0 : Acc := ⟨none, none, 0, 0⟩
def AccR (e : TypeId) (m : Nat) (cs : List Value) (a : Acc) : Prop := AccP e m cs a.p (.slice a.A a.n a.c)
theorem accR0 {e : TypeId} {m : Nat} : AccR e m [] acc0 := .inl ⟨rfl, rfl, _, rfl⟩
theorem AccR.len {e : TypeId} {m : Nat} {cs : List Value} {a : Acc} (r : AccR e m cs a) : cs.length = a.n * m := by
 rcases r with ⟨_, rfl, A, ev⟩ | ⟨b, len, cap, junk, hl, ev, _, _⟩
 ·injection ev with _ h2 _; rw [h2]; simp
 ·injection ev with _ h2 _; rw [h2]; exact hl
theorem rdP {h : AH} {L : Pv} {i b : Nat} {cs : List Value} {e : TypeId} {f : Nat × Nat} (V : Valid h L) (hi : L[i]? = some (some (b, .cells cs.toArray e f))) : Rd (wl h L) (some ⟨b, 0, none⟩) cs := by
 intro _
 refine ⟨b, 0, rfl, fun j u hu => ?_⟩
 simp only [cellA, wl_get V hi, Nat.zero_add]
 simpa using hu
section
variable {P : Program} {n : Nat} {ops : Array Oper} {d : Option Tmp} {op : Op} {ty : TypeId} {ps : String} {af : Array Edge} {os : List Oper} {K : Sl → Pv → AH → Prop} {E : Value → Sl → Pv → AH → Prop} {S : Sl} {L : Pv} {h : AH}
theorem zK (i : Nat) {sT xT e : TypeId} {x y : Operand} {m : Nat} {a : Acc} {A : Option Addr} {lx cx : Nat} {cs xs : List Value} {z : Value} {zc : List Value} {inf : TypeInfo}
  (ha : AccR e m cs a) (hx : ev n S x = .slice a.A a.n a.c) (hi : L[i]? = some a.p) (hy : ev n S y = .slice A lx cx) (hr : Valid h L → Rd (wl h L) A xs) (hl : xs.length = lx * m) (hp : xs.all plainB = true)
  (ht : pev P (underlying sT) = some (.slice e)) {e' : TypeId} (hu : pev P (underlying xT) = some (.slice e')) (hi' : pev P (typeInfo e) = some inf) (hs : pev P (sizeOf e) = some m)
  (hz : pev P (zeroValue e) = some z) (hzc : z.cells = zc.toArray) (hzl : zc.length = m) (hm : 0 < m) (hby : Nat.ble inf.bytes 1024 = true) (hsmall : cs.length + xs.length < 2 ^ 30)
  (k : ∀ (a' : Acc) h', Ext h h' → AccR e m (cs ++ xs) a' → wpL P n ops os K E (put S d (.slice a'.A a'.n a'.c)) (L.set i a'.p) h') : wpL P n ops (⟨d, .call ⟨.builtin .append, #[x, y], #[sT, xT]⟩, ty, ps, af, none⟩ :: os) K E S L h := by
 refine op_append i hx hi ha hy hr hl hp ht hu hi' hs hz hzc hzl hm hby hsmall ?_
 intro p' v' h' E' ha'
 rcases ha' with ⟨h1, h2, A', h3⟩ | ⟨b, len, cap, junk, h1, h2, h3, h4⟩
 ·subst h3
  exact k ⟨p', A', 0, 0⟩ h' E' (.inl ⟨h1, h2, A', rfl⟩)
 ·subst h2
  exact k ⟨p', some ⟨b, 0, none⟩, len, cap⟩ h' E' (.inr ⟨b, len, cap, junk, h1, rfl, h3, h4⟩)
end
theorem goes_pubO {P : Program} {n : Nat} {ro : Option Nat} {K : Post} {S : Sl} {D : Df} {L : Pv} {h : AH} {items : List Item} (i : Nat) {p : Option (Nat × Obj)} (hi : L[i]? = some p) (g : ∀ h', Ext h h' → (∀ b o, p = some (b, o) → h' b = some o) → Goes P n ro items K S D (L.set i none) h') : Goes P n ro items K S D L h := by
 cases p with
 | none =>
  have e : L.set i none = L := by
   apply List.ext_getElem?
   intro j
   rw [List.getElem?_set]
   by_cases hj : i = j
   ·subst hj
    have hl := (List.getElem?_eq_some_iff.1 hi).1
    simp [hl]
    exact ((List.getElem?_eq_some_iff.1 hi).2).symm
   ·simp [hj]
  have := g h (Ext.refl h) (fun _ _ e => by cases e)
  rw [e] at this
  exact this
 | some q =>
  obtain ⟨b, o⟩ := q
  exact zH i hi fun h' E hb => g h' E (fun b' o' e => by cases e; exact hb)
theorem AccR.rd {e : TypeId} {m : Nat} {cs : List Value} {a : Acc} {h : AH} (r : AccR e m cs a) (hp : ∀ b o, a.p = some (b, o) → h b = some o) : Rd h a.A cs := by
 rcases r with ⟨_, rfl, A, ev⟩ | ⟨b, len, cap, junk, hl, ev, hpp, _⟩
 ·exact Rd.nil _ _
 ·intro _
  injection ev with h1 _ _
  refine ⟨b, 0, h1, fun j u hu => ?_⟩
  have hj : (cs ++ junk)[j]? = some u := by rw [List.getElem?_append_left (List.getElem?_eq_some_iff.1 hu).1]; exact hu
  simp only [cellA, hp b _ hpp, Nat.zero_add]
  simpa using hj
section pv
variable {P : Program} {n : Nat} {d : Option Tmp} {op : Op} {ty : TypeId} {ps : String} {af : Array Edge} {S : Sl}
theorem pv_buildA {t e : TypeId} {len m : Nat} {z : Value} {zc : List Value} {pts : List (Nat × Operand)} {vs : List (Nat × Value)} {cs : List Value} (hz : pev P (zeroValue t) = some z) (hzc : z.cells = zc.toArray) (ht : pev P (underlying t) = some (.array len e))
  (hs : pev P (sizeOf e) = some m) (hv : pts.map (fun q => (q.1, ev n S q.2)) = vs) (hf : fillL (fun i => some (i * m, m)) zc vs = some cs) :
  pev P (execOp (ev n S) ⟨d, .build t pts.toArray, ty, ps, af, none⟩) = some (.value (.agg cs.toArray)) := by
 simp only [execOp, Instr.build, List.map_toArray, hv]
 refine (zC (a := .agg cs.toArray) ?_).trans rfl
 refine (zC hz).trans ?_
 refine (zC ht).trans ?_
 simp only
 refine (zC hs).trans ?_
 rw [hzc]
 rw [fill_eq _ vs zc cs hf]
 rfl
end pv
section keys
variable {P : Program}
theorem pev_forInU {α : Type} {g : α → Sem (ForInStep PUnit)} : ∀ (l : List α), (∀ a ∈ l, pev P (g a) = some (.yield ⟨⟩)) → pev P (forIn l PUnit.unit fun a _ => g a) = some ⟨⟩
 | [], _ => rfl
 | a :: l, h => by
  rw [List.forIn_cons, zA (h a (List.mem_cons_self ..))]
  exact pev_forInU l fun b hb => h b (List.mem_cons_of_mem _ hb)
theorem chk_int {t : TypeId} {q q' : IntKind} {d : Nat} {e : Bool} {a : Int} (ht : pev P (underlying t) = some (.int q')) : pev P (Instr.checkKey e (d+1) t (.int q a)) = some () := by
 unfold Instr.checkKey
 rw [zA ht]
 rfl
theorem chk_struct {t : TypeId} {d : Nat} {e : Bool} {fs : List Field} {xs : Array Value} (ht : pev P (underlying t) = some (.struct fs.toArray))
  (h : ∀ (i : Nat) (f : Field), fs[i]? = some f → ∃ x, pev P (part f.type xs f.offset) = some x ∧ pev P (Instr.checkKey e d f.type x) = some ()) : pev P (Instr.checkKey e (d+1) t (.agg xs)) = some () := by
 unfold Instr.checkKey
 rw [zA ht]
 simp only [List.forIn_toArray]
 rw [zA (pev_forInU fs ?_)]
 ·rfl
 ·intro f hf
  obtain ⟨i, hi⟩ := List.getElem?_of_mem hf
  obtain ⟨x, hx, hc⟩ := h i f hi
  split
  ·rw [zA hx, zA hc]; rfl
  ·rfl
theorem chk_array {t e' : TypeId} {d len m : Nat} {e : Bool} {xs : Array Value} (ht : pev P (underlying t) = some (.array len e')) (hm : pev P (sizeOf e') = some m)
  (h : ∀ (i : Nat), i < len → ∃ x, pev P (part e' xs (i * m)) = some x ∧ pev P (Instr.checkKey e d e' x) = some ()) : pev P (Instr.checkKey e (d+1) t (.agg xs)) = some () := by
 unfold Instr.checkKey
 rw [zA ht]
 simp only [Std.Legacy.Range.forIn_eq_forIn_range']
 rw [zA (pev_forInU _ ?_)]
 ·rfl
 ·intro k hk
  have hk' : k < len := by
   rw [List.mem_range'] at hk
   obtain ⟨i, hi, rfl⟩ := hk
   simp [Std.Legacy.Range.size] at hi
   omega
  obtain ⟨x, hx, hc⟩ := h k hk'
  rw [zA hm, zA hx, zA hc]; rfl
end keys
end Go.HL
namespace Go.Proofs.Ytgjcepdhclmglaa
open Go Go.HL Go.Proofs Go.Wx
variable [Lvl]
set_option maxRecDepth 100000
theorem in_ok (a lo hi : Int) (h : AH) : FnT Try.prog 29 #[.int .i64 a, .int .i64 lo, .int .i64 hi] h (fun v _ => v = .bool (decide (lo ≤ a) && decide (a ≤ hi))) := by
 refine wL Try.func29 rfl Try.ntmps29 rfl ?_
 refine qF ?_
 refine qC rfl ?_
 refine qA (qE (v := .bool _) rfl) ?_
 refine qF ?_
 refine qC rfl ?_
 refine qA (qB (v := .int .i64 _) rfl) ?_
 refine qA (qB (v := .int .i64 _) rfl) ?_
 refine qA (qK (v := .bool _) rfl) ?_
 refine qA (qB (v := .bool _) rfl) ?_
 by_cases hc : lo ≤ a
 ·have hb : decide (lo ≤ a) = true := by simpa using hc
  refine qQ rfl hb ?_
  refine qA (qB (v := .int .i64 _) rfl) ?_
  refine qQ rfl hb ?_
  refine qA (qB (v := .int .i64 _) rfl) ?_
  refine qQ rfl hb ?_
  refine qA (qK (v := .bool _) rfl) ?_
  refine qA (wX rfl hb (v := .bool _) rfl) ?_
  refine qA (qE (v := .bool _) rfl) ?_
  refine wK ?_
  refine qW (vs := [_]) Try.results29 ⟨qR rfl rfl, trivial⟩ fun V => ?_
  exact ⟨wE V, by simp [hc]; rfl⟩
 ·have hb : decide (lo ≤ a) = false := by simpa using hc
  refine wQ rfl hb ?_
  refine wQ rfl hb ?_
  refine wQ rfl hb ?_
  refine qA (wY rfl hb (v := .bool _) rfl) ?_
  refine qA (qE (v := .bool _) rfl) ?_
  refine wK ?_
  refine qW (vs := [_]) Try.results29 ⟨qR rfl rfl, trivial⟩ fun V => ?_
  exact ⟨wE V, by simp [hc]; rfl⟩
theorem upto_ok (m k : Nat) (hm : m < 2 ^ 64) (hk : k ≤ 62) (h : AH) : FnT Try.prog 35 #[.int .u64 m, .int .i64 k] h (fun v _ => v = .int .u64 (uptoM m k : Nat)) := by
 have h2 : 2 ^ (k + 1) < 2 ^ 64 := Nat.pow_lt_pow_right (by omega) (by omega)
 have h1 : 1 ≤ 2 ^ (k + 1) := Nat.one_le_two_pow
 refine wL Try.func35 rfl Try.ntmps35 rfl ?_
 refine qF ?_
 refine qC rfl ?_
 refine qA (qE (v := .int .u64 _) rfl) ?_
 refine qF ?_
 refine qC rfl ?_
 refine qA (qB (v := .int .u64 _) rfl) ?_
 refine qA (qB (v := .int .i64 _) rfl) ?_
 refine qA (qO rfl (by omega)) ?_
 refine op_shl 1 (k + 1) rfl rfl rfl rfl (by omega) (by omega) ?_
 refine op_val (u64_sub (1 * 2 ^ (k + 1)) 1 (by omega) (by omega)) rfl ?_
 refine op_val (u64_and m (1 * 2 ^ (k + 1) - 1) hm (by omega)) rfl ?_
 refine qA (qE (v := .int .u64 _) rfl) ?_
 refine wK ?_
 refine qW (vs := [_]) Try.results35 ⟨qR rfl rfl, trivial⟩ fun V => ?_
 refine ⟨wE V, ?_⟩
 show Value.int _ _ = _
 rw [uptoM, Nat.one_mul]
theorem told_ok (s : Season) (A0 A1 A2 A3 : Option Addr) (c0 c1 c2 c3 : Nat) (j : Int) (h : AH) (R : SeasonR h A0 A1 A2 A3 s) (h6 : s.heats.length ≤ 6) (hw : ∀ r ∈ s.reports, 0 ≤ r.week ∧ r.week ≤ 60) (hl : s.reports.length ≤ 1000) :
  FnT Try.prog 72 #[seasonV A0 A1 A2 A3 c0 c1 c2 c3 s, .int .i64 j] h (fun v _ => v = .int .u64 (toldM s j s.reports.length : Nat)) := by
 have h7 : 2 ^ (s.heats.length + 1) ≤ 2 ^ 7 := Nat.pow_le_pow_right (by omega) (by omega)
 have h1 : 1 ≤ 2 ^ (s.heats.length + 1) := Nat.one_le_two_pow
 refine wL Try.func72 rfl Try.ntmps72 rfl ?_
 refine qF ?_
 refine qC rfl ?_
 refine zF (v := .agg #[.slice _ _ _, .slice _ _ _, .slice _ _ _, .slice _ _ _]) (cs := [_, _, _, _]) rfl rfl fun b2 hb2 => ?_
 refine qH [_] rfl ?_
 refine qA (qE (v := .int .u64 _) rfl) ?_
 refine qF ?_
 refine qC rfl ?_
 refine qA (qG rfl rfl rfl rfl 0 rfl) ?_
 refine qI 0 (v := .slice _ _ _) rfl rfl rfl rfl ?_
 refine qA (wV rfl rfl) ?_
 refine qA (qO rfl (by omega)) ?_
 refine qA (qE (v := .int .i64 _) rfl) ?_
 refine qF ?_
 refine qC rfl ?_
 refine qA (qB (v := .int .i64 _) rfl) ?_
 refine qA (qO rfl (by omega)) ?_
 refine op_shl 1 (s.heats.length + 1) rfl rfl rfl (by omega) (by omega) (by omega) ?_
 refine op_val (u64_sub (1 * 2 ^ (s.heats.length + 1)) 1 (by omega) (by omega)) rfl ?_
 refine qA (qE (v := .int .u64 _) rfl) ?_
 refine qF ?_
 refine qF ?_
 refine qC rfl ?_
 refine qA (qG rfl rfl rfl rfl 3 rfl) ?_
 refine qI 0 (v := .slice _ _ _) rfl rfl rfl rfl ?_
 refine qA (wV rfl rfl) ?_
 refine qA (qB (v := .int .i64 _) rfl) ?_
 refine qN ?_
 refine xp_loopM [6, 8, 20, 21, 22, 23, 24, 25, 26, 27, 28, 29, 30, 31, 32, 33, 34, 35, 36, 37, 38, 39, 40, 41, 42] 1 (fun k : Nat => [(20, .int .i64 k), (6, .int .u64 (toldM s j k : Nat))]) (fun k D L h' => D = [] ∧ k ≤ s.reports.length ∧ Ext h h' ∧ L = [some (b2, .cells (seasonV A0 A1 A2 A3 c0 c1 c2 c3 s).cells 29 (0, 0))]) (fun k => s.reports.length - k) 0 ⟨rfl, by show Value.int _ _ = _; simp [toldM], trivial⟩ ⟨rfl, Nat.zero_le _, Ext.refl h, rfl⟩ ?_
 rintro k T D' L' h' ⟨rfl, hk, E, rfl⟩
 refine qF ?_
 refine qC rfl ?_
 refine qA (qK (v := .bool _) rfl) ?_
 refine qF ?_
 refine wA rfl (fun ht => ?_) (fun ht => ?_)
 ·skip
  have hlt : k < s.reports.length := by simpa using ht
  have hm := toldM_lt s j k h6
  have hs := toldM_succ s j k hlt
  have hwk := hw s.reports[k] (List.getElem_mem hlt)
  obtain ⟨wk, hwe⟩ := Int.eq_ofNat_of_zero_le hwk.1
  obtain ⟨g, off, rfl, hc⟩ := (R.ext E).reports.at (by omega) hlt
  have hc2 : Cells h' g (off + k * 3) [.int .i64 s.reports[k].joint, .int .i64 wk, .bool s.reports[k].failed] := by rw [← hwe]; exact hc
  refine qT ?_
  refine qF ?_
  refine qN ?_
  refine qF ?_
  refine qC rfl ?_
  refine qA (qM rfl rfl rfl rfl (by omega) (by omega)) ?_
  refine op_loadA rfl rfl rfl rfl hc2 ?_
  refine wO (cs := [_, _, _]) rfl rfl fun b8 hb8 => ?_
  refine qH [_, _] rfl ?_
  refine qJ 1 (v := .agg #[.int .i64 _, .int .i64 _, .bool _]) (vs := [_, _, _]) (c' := [_, _, _]) rfl rfl rfl rfl rfl rfl rfl rfl rfl ?_
  refine qH [_, _] rfl ?_
  refine qN ?_
  refine qF ?_
  refine qC rfl ?_
  refine qA (qG rfl rfl rfl rfl 0 rfl) ?_
  refine qI 1 (v := .int .i64 _) rfl rfl rfl rfl ?_
  refine qA (qB (v := .int .i64 _) rfl) ?_
  refine qA (qK (v := .bool _) rfl) ?_
  refine qA (qE (v := .bool _) rfl) ?_
  refine wA rfl (fun hj => ?_) (fun hj => ?_)
  ·skip
   refine qT ?_
   refine qC rfl ?_
   refine qA (qO rfl (by omega)) ?_
   refine qA (qB (v := .int .i64 _) rfl) ?_
   refine ⟨k + 1, ⟨rfl, ?_, trivial⟩, fun h3 E3 => ⟨rfl, by omega, E.trans E3, rfl⟩, by omega, ?_⟩
   ·show Value.int _ _ = _
    rw [hs, toldStep, if_pos (by simpa using hj)]
   ·repeat (first | exact qU _ _ _ | refine wB (by decide) ?_ | refine qS rfl ?_ | refine wN rfl ?_)
  ·skip
   refine qF ?_
   refine qC rfl ?_
   refine qA (qG rfl rfl rfl rfl 2 rfl) ?_
   refine qI 1 (v := .bool _) rfl rfl rfl rfl ?_
   refine qA (qE (v := .bool _) rfl) ?_
   refine wA rfl (fun hf => ?_) (fun hf => ?_)
   ·skip
    refine qC rfl ?_
    refine qA (qB (v := .int .u64 _) rfl) ?_
    refine qA (qG rfl rfl rfl rfl 1 rfl) ?_
    refine qI 1 (v := .int .i64 _) rfl rfl rfl rfl ?_
    refine wP (caps := []) (vs := [.int .u64 _, .int .i64 _]) rfl rfl rfl (upto_ok (toldM s j k) wk hm (by omega) h') ?_
    rintro _ h2 E2 rfl
    refine qA (qE (v := .int .u64 _) rfl) ?_
    refine qC rfl ?_
    refine qA (qO rfl (by omega)) ?_
    refine qA (qB (v := .int .i64 _) rfl) ?_
    refine ⟨k + 1, ⟨rfl, ?_, trivial⟩, fun h3 E3 => ⟨rfl, by omega, (E.trans E2).trans E3, rfl⟩, by omega, ?_⟩
    ·show Value.int _ _ = _
     rw [hs, toldStep, if_neg (by simpa using hj), if_pos hf, hwe]
     rfl
    ·repeat (first | exact qU _ _ _ | refine wB (by decide) ?_ | refine qS rfl ?_ | refine wN rfl ?_)
   ·skip
    refine qC rfl ?_
    refine qA (qB (v := .int .u64 _) rfl) ?_
    refine qA (qB (v := .int .u64 _) rfl) ?_
    refine qA (qG rfl rfl rfl rfl 1 rfl) ?_
    refine qI 1 (v := .int .i64 _) rfl rfl rfl rfl ?_
    refine wP (caps := []) (vs := [.int .u64 _, .int .i64 _]) rfl rfl rfl (upto_ok (toldM s j k) wk hm (by omega) h') ?_
    rintro _ h2 E2 rfl
    refine op_val (u64_andNot _ _ hm (uptoM_lt hm)) rfl ?_
    refine qA (qE (v := .int .u64 _) rfl) ?_
    refine qC rfl ?_
    refine qA (qO rfl (by omega)) ?_
    refine qA (qB (v := .int .i64 _) rfl) ?_
    refine ⟨k + 1, ⟨rfl, ?_, trivial⟩, fun h3 E3 => ⟨rfl, by omega, (E.trans E2).trans E3, rfl⟩, by omega, ?_⟩
    ·show Value.int _ _ = _
     rw [hs, toldStep, if_neg (by simpa using hj), if_neg (by simp [hf]), hwe]
     rfl
    ·repeat (first | exact qU _ _ _ | refine wB (by decide) ?_ | refine qS rfl ?_ | refine wN rfl ?_)
 ·skip
  have hge : k = s.reports.length := by simp at ht; omega
  subst hge
  refine wU ?_
  refine qF ?_
  refine qC rfl ?_
  refine qA (qB (v := .int .u64 _) rfl) ?_
  refine qA (qE (v := .int .u64 _) rfl) ?_
  refine wK ?_
  refine qW (vs := [_]) Try.results72 ⟨qR rfl rfl, trivial⟩ fun V => ?_
  exact ⟨E.trans (wE V), rfl⟩
end Go.Proofs.Ytgjcepdhclmglaa
namespace Go.Proofs.Ytgjcepdhclmglaa
open Go Go.HL Go.Proofs Go.Wx
variable [Lvl]
set_option maxRecDepth 100000
theorem boolE {p q : Bool} (e : p = true ↔ q = true) : Value.bool p = Value.bool q := by rw [Bool.eq_iff_iff.2 e]
theorem sameInts_ok (a b : List Int) (A B : Option Addr) (ca cb : Nat) (h : AH) (Ra : Row h 1 intC A a) (Rb : Row h 1 intC B b) (ha : a.length < 2 ^ 40) :
  FnT Try.prog 20 #[.slice A a.length ca, .slice B b.length cb] h (fun v _ => v = .bool (decide (a = b))) := by
 refine wL Try.func20 rfl Try.ntmps20 rfl ?_
 refine qF ?_
 refine qC rfl ?_
 refine qA (qE (v := .bool _) rfl) ?_
 refine qF ?_
 refine qC rfl ?_
 refine qA (qB (v := .slice _ _ _) rfl) ?_
 refine qA (wV rfl rfl) ?_
 refine qA (qB (v := .slice _ _ _) rfl) ?_
 refine qA (wV rfl rfl) ?_
 refine qA (qK (v := .bool _) rfl) ?_
 refine qA (qE (v := .bool _) rfl) ?_
 refine qF ?_
 refine qF ?_
 refine qC rfl ?_
 refine qA (qE (v := .int .i64 _) rfl) ?_
 refine qN ?_
 refine xp_loopM [5, 6, 12, 13, 14, 15, 16, 17, 18, 19, 20, 21, 22, 23, 24, 25, 26, 27, 28, 29] 0 (fun k : Nat => [(5, .bool (decide (a.length = b.length ∧ a.take k = b.take k))), (6, .int .i64 k)]) (fun k D L h' => D = [] ∧ k ≤ a.length ∧ Ext h h' ∧ L = []) (fun k => a.length - k) 0 ⟨by refine boolE ?_; simp; omega, rfl, trivial⟩ ⟨rfl, Nat.zero_le _, Ext.refl h, rfl⟩ ?_
 rintro k T D' L' h' ⟨rfl, hk, E, rfl⟩
 refine qF ?_
 refine qF ?_
 refine qC rfl ?_
 refine qA (qB (v := .bool _) rfl) ?_
 refine qA (qB (v := .bool _) rfl) ?_
 by_cases hp : a.length = b.length ∧ a.take k = b.take k
 ·have hb : decide (a.length = b.length ∧ a.take k = b.take k) = true := by simpa using hp
  refine qQ rfl hb ?_
  refine qA (qB (v := .int .i64 _) rfl) ?_
  refine qQ rfl hb ?_
  refine qA (qB (v := .slice _ _ _) rfl) ?_
  refine qQ rfl hb ?_
  refine qA (wV rfl rfl) ?_
  refine qQ rfl hb ?_
  refine qA (qK (v := .bool _) rfl) ?_
  refine qA (wX rfl hb (v := .bool _) rfl) ?_
  refine wA rfl (fun ht => ?_) (fun ht => ?_)
  ·skip
   have hlt : k < a.length := by simpa using ht
   have hlt2 : k < b.length := by omega
   obtain ⟨g, off, rfl, hc⟩ := (Ra.ext E).at (by omega) hlt
   obtain ⟨g2, off2, rfl, hc2⟩ := (Rb.ext E).at (by omega) hlt2
   refine qT ?_
   refine qF ?_
   refine qN ?_
   refine zB [] rfl rfl rfl ?_
   refine qD (i := 0) rfl (by decide +kernel) (qB (v := .slice _ _ _) rfl) ?_
   refine qD (i := 1) rfl (by decide +kernel) (qB (v := .int .i64 _) rfl) ?_
   refine qD (i := 2) rfl (by decide +kernel) (qM rfl rfl rfl rfl (by omega) (by omega)) ?_
   refine qL (i := 3) rfl (by decide +kernel) ?_
   refine qV rfl rfl (hc 0 (.int .i64 a[k]) rfl) ?_
   refine qD (i := 4) rfl (by decide +kernel) (qB (v := .slice _ _ _) rfl) ?_
   refine qD (i := 5) rfl (by decide +kernel) (qB (v := .int .i64 _) rfl) ?_
   refine qD (i := 6) rfl (by decide +kernel) (qM rfl rfl rfl rfl (by omega) (by omega)) ?_
   refine qL (i := 7) rfl (by decide +kernel) ?_
   refine qV rfl rfl (hc2 0 (.int .i64 b[k]) rfl) ?_
   refine qD (i := 8) rfl (by decide +kernel) (qK (v := .bool _) rfl) ?_
   refine qD (i := 9) rfl (by decide +kernel) (qE (v := .bool _) rfl) ?_
   refine wW rfl ?_
   refine qC rfl ?_
   refine qA (qB (v := .int .i64 _) rfl) ?_
   refine qA (qO rfl (by omega)) ?_
   refine qA (qE (v := .int .i64 _) rfl) ?_
   refine ⟨k + 1, ⟨?_, rfl, trivial⟩, fun h3 E3 => ⟨rfl, by omega, E.trans E3, rfl⟩, by omega, ?_⟩
   ·refine boolE ?_
    have e1 := List.take_succ_eq_append_getElem hlt
    have e2 := List.take_succ_eq_append_getElem hlt2
    have e3 : (a.length = b.length ∧ b.take k ++ [a[k]] = b.take k ++ [b[k]]) ↔ a[k] = b[k] := ⟨fun e => by have := List.append_cancel_left e.2; injection this, fun e => ⟨hp.1, by rw [e]⟩⟩
    rw [e1, e2, hp.2, decide_eq_true_iff, e3]
    simp
   ·repeat (first | exact qU _ _ _ | refine wB (by decide) ?_ | refine qS rfl ?_ | refine wN rfl ?_)
  ·skip
   refine wU ?_
   refine qF ?_
   refine qC rfl ?_
   refine qA (qB (v := .bool _) rfl) ?_
   refine qA (qE (v := .bool _) rfl) ?_
   refine wK ?_
   refine qW (vs := [_]) Try.results20 ⟨qR rfl rfl, trivial⟩ fun V => ?_
   refine ⟨E.trans (wE V), boolE ?_⟩
   have : k = a.length := by simp at ht; omega
   subst this
   have h2 := hp.2
   rw [hp.1, List.take_length, ← hp.1, List.take_length] at h2
   simp [h2]
 ·have hb : decide (a.length = b.length ∧ a.take k = b.take k) = false := by simpa using hp
  refine wQ rfl hb ?_
  refine wQ rfl hb ?_
  refine wQ rfl hb ?_
  refine wQ rfl hb ?_
  refine qA (wY rfl hb (v := .bool _) rfl) ?_
  refine wA rfl (fun ht => ?_) (fun ht => ?_)
  ·cases ht
  ·skip
   refine wU ?_
   refine qF ?_
   refine qC rfl ?_
   refine qA (qB (v := .bool _) rfl) ?_
   refine qA (qE (v := .bool _) rfl) ?_
   refine wK ?_
   refine qW (vs := [_]) Try.results20 ⟨qR rfl rfl, trivial⟩ fun V => ?_
   refine ⟨E.trans (wE V), boolE ?_⟩
   have : a ≠ b := fun e => hp (by rw [e]; exact ⟨rfl, rfl⟩)
   simp [this]
   exact fun x y => hp ⟨x, y⟩
end Go.Proofs.Ytgjcepdhclmglaa
namespace Go.Proofs.Ytgjcepdhclmglaa
open Go Go.HL Go.Proofs Go.Wx
variable [Lvl]
set_option maxRecDepth 100000
theorem cloneRg_ok (l : List Rg) (A : Option Addr) (c : Nat) (h : AH) (R : Row h 2 rgC A l) (hl : l.length < 2 ^ 20) :
  FnT Try.prog 65 #[.slice A l.length c] h (fun v h' => SlR h' 2 rgC l v) := by
 cases A with
 | none =>
  have h0 := R.none_nil (by omega)
  subst h0
  refine wL Try.func65 rfl Try.ntmps65 rfl ?_
  refine qF ?_
  refine qC rfl ?_
  refine qA (qE (v := .slice _ _ _) rfl) ?_
  refine qF ?_
  refine qF ?_
  refine qC rfl ?_
  refine qA (qB (v := .slice _ _ _) rfl) ?_
  refine qA (qK (v := .bool _) rfl) ?_
  refine wA rfl (fun ht => ?_) (fun ht => ?_)
  ·skip
   refine qF ?_
   refine qC rfl ?_
   refine qA (qE (v := .slice _ _ _) rfl) ?_
   refine wK ?_
   refine qW (vs := [_]) Try.results65 ⟨qR rfl rfl, trivial⟩ fun V => ?_
   exact ⟨wE V, none, 0, rfl, R.ext (wE V)⟩
  ·cases ht
 | some a =>
  refine wL Try.func65 rfl Try.ntmps65 rfl ?_
  refine qF ?_
  refine qC rfl ?_
  refine qA (qE (v := .slice _ _ _) rfl) ?_
  refine qF ?_
  refine qF ?_
  refine qC rfl ?_
  refine qA (qB (v := .slice _ _ _) rfl) ?_
  refine qA (qK (v := .bool _) rfl) ?_
  refine wA rfl (fun ht => ?_) (fun ht => ?_)
  ·cases ht
  ·skip
   refine qT ?_
   refine qF ?_
   refine qC rfl ?_
   refine wG (zc := [_, _]) (vs := []) (cs := []) rfl rfl rfl rfl rfl rfl rfl fun b5 hb5 => ?_
   refine qH [_] rfl ?_
   refine qA (qB (v := .slice _ _ _) rfl) ?_
   refine op_append 0 rfl rfl accp_new rfl (fun V => R.2.ext (wE V)) (wS R.1) (flat_plain rgP l) rfl rfl rfl rfl rfl rfl rfl (by omega) rfl (by rw [wS R.1, List.length_nil]; omega) fun p v h' E ha => ?_
   obtain ⟨A2, n2, c2, rfl⟩ := AccP.slice ha
   refine qA (qE (v := .slice _ _ _) rfl) ?_
   refine wK ?_
   refine qW (vs := [_]) Try.results65 ⟨qR rfl rfl, trivial⟩ fun V => ?_
   exact ⟨E.trans (wE V), AccP.row (l := l) (i := 0) ha (by omega) R.1 V rfl⟩
theorem cloneJoint_ok (l : List Joint) (A : Option Addr) (c : Nat) (h : AH) (R : Row h 9 jointC A l) (hl : l.length < 2 ^ 20) :
  FnT Try.prog 66 #[.slice A l.length c] h (fun v h' => SlR h' 9 jointC l v) := by
 cases A with
 | none =>
  have h0 := R.none_nil (by omega)
  subst h0
  refine wL Try.func66 rfl Try.ntmps66 rfl ?_
  refine qF ?_
  refine qC rfl ?_
  refine qA (qE (v := .slice _ _ _) rfl) ?_
  refine qF ?_
  refine qF ?_
  refine qC rfl ?_
  refine qA (qB (v := .slice _ _ _) rfl) ?_
  refine qA (qK (v := .bool _) rfl) ?_
  refine wA rfl (fun ht => ?_) (fun ht => ?_)
  ·skip
   refine qF ?_
   refine qC rfl ?_
   refine qA (qE (v := .slice _ _ _) rfl) ?_
   refine wK ?_
   refine qW (vs := [_]) Try.results66 ⟨qR rfl rfl, trivial⟩ fun V => ?_
   exact ⟨wE V, none, 0, rfl, R.ext (wE V)⟩
  ·cases ht
 | some a =>
  refine wL Try.func66 rfl Try.ntmps66 rfl ?_
  refine qF ?_
  refine qC rfl ?_
  refine qA (qE (v := .slice _ _ _) rfl) ?_
  refine qF ?_
  refine qF ?_
  refine qC rfl ?_
  refine qA (qB (v := .slice _ _ _) rfl) ?_
  refine qA (qK (v := .bool _) rfl) ?_
  refine wA rfl (fun ht => ?_) (fun ht => ?_)
  ·cases ht
  ·skip
   refine qT ?_
   refine qF ?_
   refine qC rfl ?_
   refine wG (zc := [_, _, _, _, _, _, _, _, _]) (vs := []) (cs := []) rfl rfl rfl rfl rfl rfl rfl fun b5 hb5 => ?_
   refine qH [_] rfl ?_
   refine qA (qB (v := .slice _ _ _) rfl) ?_
   refine op_append 0 rfl rfl accp_new rfl (fun V => R.2.ext (wE V)) (wS R.1) (flat_plain jointP l) rfl rfl rfl rfl rfl rfl rfl (by omega) rfl (by rw [wS R.1, List.length_nil]; omega) fun p v h' E ha => ?_
   obtain ⟨A2, n2, c2, rfl⟩ := AccP.slice ha
   refine qA (qE (v := .slice _ _ _) rfl) ?_
   refine wK ?_
   refine qW (vs := [_]) Try.results66 ⟨qR rfl rfl, trivial⟩ fun V => ?_
   exact ⟨E.trans (wE V), AccP.row (l := l) (i := 0) ha (by omega) R.1 V rfl⟩
theorem cloneSeen_ok (l : List Seen) (A : Option Addr) (c : Nat) (h : AH) (R : Row h 3 seenC A l) (hl : l.length < 2 ^ 20) :
  FnT Try.prog 67 #[.slice A l.length c] h (fun v h' => SlR h' 3 seenC l v) := by
 cases A with
 | none =>
  have h0 := R.none_nil (by omega)
  subst h0
  refine wL Try.func67 rfl Try.ntmps67 rfl ?_
  refine qF ?_
  refine qC rfl ?_
  refine qA (qE (v := .slice _ _ _) rfl) ?_
  refine qF ?_
  refine qF ?_
  refine qC rfl ?_
  refine qA (qB (v := .slice _ _ _) rfl) ?_
  refine qA (qK (v := .bool _) rfl) ?_
  refine wA rfl (fun ht => ?_) (fun ht => ?_)
  ·skip
   refine qF ?_
   refine qC rfl ?_
   refine qA (qE (v := .slice _ _ _) rfl) ?_
   refine wK ?_
   refine qW (vs := [_]) Try.results67 ⟨qR rfl rfl, trivial⟩ fun V => ?_
   exact ⟨wE V, none, 0, rfl, R.ext (wE V)⟩
  ·cases ht
 | some a =>
  refine wL Try.func67 rfl Try.ntmps67 rfl ?_
  refine qF ?_
  refine qC rfl ?_
  refine qA (qE (v := .slice _ _ _) rfl) ?_
  refine qF ?_
  refine qF ?_
  refine qC rfl ?_
  refine qA (qB (v := .slice _ _ _) rfl) ?_
  refine qA (qK (v := .bool _) rfl) ?_
  refine wA rfl (fun ht => ?_) (fun ht => ?_)
  ·cases ht
  ·skip
   refine qT ?_
   refine qF ?_
   refine qC rfl ?_
   refine wG (zc := [_, _, _]) (vs := []) (cs := []) rfl rfl rfl rfl rfl rfl rfl fun b5 hb5 => ?_
   refine qH [_] rfl ?_
   refine qA (qB (v := .slice _ _ _) rfl) ?_
   refine op_append 0 rfl rfl accp_new rfl (fun V => R.2.ext (wE V)) (wS R.1) (flat_plain seenP l) rfl rfl rfl rfl rfl rfl rfl (by omega) rfl (by rw [wS R.1, List.length_nil]; omega) fun p v h' E ha => ?_
   obtain ⟨A2, n2, c2, rfl⟩ := AccP.slice ha
   refine qA (qE (v := .slice _ _ _) rfl) ?_
   refine wK ?_
   refine qW (vs := [_]) Try.results67 ⟨qR rfl rfl, trivial⟩ fun V => ?_
   exact ⟨E.trans (wE V), AccP.row (l := l) (i := 0) ha (by omega) R.1 V rfl⟩
theorem clone_ok (s : Season) (A0 A1 A2 A3 : Option Addr) (c0 c1 c2 c3 : Nat) (h : AH) (R : SeasonR h A0 A1 A2 A3 s) (h0 : s.heats.length < 2 ^ 20) (h1 : s.damps.length < 2 ^ 20) (h2 : s.joints.length < 2 ^ 20) (h3 : s.reports.length < 2 ^ 20) :
  FnT Try.prog 53 #[seasonV A0 A1 A2 A3 c0 c1 c2 c3 s] h (fun v h' => SeasonS h' s v) := by
 refine wL Try.func53 rfl Try.ntmps53 rfl ?_
 refine qF ?_
 refine qC rfl ?_
 refine zF (v := .agg #[.slice _ _ _, .slice _ _ _, .slice _ _ _, .slice _ _ _]) (cs := [_, _, _, _]) rfl rfl fun b1 hb1 => ?_
 refine qH [_] rfl ?_
 refine wO (cs := [_, _, _, _]) rfl rfl fun b2 hb2 => ?_
 refine qH [_, _] rfl ?_
 refine qF ?_
 refine zB [] rfl rfl rfl ?_
 refine qD (i := 0) rfl (by decide +kernel) (qG rfl rfl rfl rfl 0 rfl) ?_
 refine qL (i := 1) rfl (by decide +kernel) ?_
 refine qI 0 (v := .slice _ _ _) rfl rfl rfl rfl ?_
 refine qD (i := 3) rfl (by decide +kernel) (qG rfl rfl rfl rfl 1 rfl) ?_
 refine qL (i := 4) rfl (by decide +kernel) ?_
 refine qI 0 (v := .slice _ _ _) rfl rfl rfl rfl ?_
 refine qD (i := 6) rfl (by decide +kernel) (qG rfl rfl rfl rfl 2 rfl) ?_
 refine qL (i := 7) rfl (by decide +kernel) ?_
 refine qI 0 (v := .slice _ _ _) rfl rfl rfl rfl ?_
 refine qD (i := 9) rfl (by decide +kernel) (qG rfl rfl rfl rfl 3 rfl) ?_
 refine qL (i := 10) rfl (by decide +kernel) ?_
 refine qI 0 (v := .slice _ _ _) rfl rfl rfl rfl ?_
 refine zD (i := 2) rfl (by decide +kernel) ?_
 refine wP (caps := []) (vs := [.slice _ _ _]) rfl rfl rfl (cloneRg_ok s.heats A0 c0 h R.heats h0) ?_
 rintro _ h4 E4 ⟨B0, d0, rfl, R0⟩
 refine ⟨ext_wlm E4 _, ?_⟩
 refine zD (i := 5) rfl (by decide +kernel) ?_
 refine wP (caps := []) (vs := [.slice _ _ _]) rfl rfl rfl (cloneRg_ok s.damps A1 c1 h4 (R.damps.ext E4) h1) ?_
 rintro _ h5 E5 ⟨B1, d1, rfl, R1⟩
 refine ⟨ext_wlm E5 _, ?_⟩
 refine zD (i := 8) rfl (by decide +kernel) ?_
 refine wP (caps := []) (vs := [.slice _ _ _]) rfl rfl rfl (cloneJoint_ok s.joints A2 c2 h5 (R.joints.ext (E4.trans E5)) h2) ?_
 rintro _ h6 E6 ⟨B2, d2, rfl, R2⟩
 refine ⟨ext_wlm E6 _, ?_⟩
 refine wI (i := 11) rfl (by decide +kernel) (by decide +kernel) ?_
 refine wP (caps := []) (vs := [.slice _ _ _]) rfl rfl rfl (cloneSeen_ok s.reports A3 c3 h6 (R.reports.ext ((E4.trans E5).trans E6)) h3) ?_
 rintro _ h7 E7 ⟨B3, d3, rfl, R3⟩
 refine qD (i := 12) rfl (by decide +kernel) (pv_build (zc := [_, _, _, _]) (vs := [(0, .slice _ _ _), (1, .slice _ _ _), (2, .slice _ _ _), (3, .slice _ _ _)]) (cs := [_, _, _, _]) rfl rfl rfl rfl rfl rfl) ?_
 refine wI (i := 13) rfl (by decide +kernel) (by decide +kernel) ?_
 refine qJ 1 (v := .agg #[.slice _ _ _, .slice _ _ _, .slice _ _ _, .slice _ _ _]) (vs := [_, _, _, _]) (c' := [_, _, _, _]) rfl rfl rfl rfl rfl rfl rfl rfl rfl ?_
 refine qZ [_, _] rfl ?_
 refine wW rfl ?_
 refine wK ?_
 refine qW (vs := [_]) Try.results53 ⟨resV_agg 1 rfl rfl rfl rfl rfl (vs := [.slice _ _ _, .slice _ _ _, .slice _ _ _, .slice _ _ _]) rfl, trivial⟩ fun V => ?_
 have EV := wE V
 exact ⟨(((E4.trans E5).trans E6).trans E7).trans EV, B0, B1, B2, B3, d0, d1, d2, d3, rfl, R0.ext (((E5.trans E6).trans E7).trans EV), R1.ext ((E6.trans E7).trans EV), R2.ext (E7.trans EV), R3.ext EV⟩
end Go.Proofs.Ytgjcepdhclmglaa
namespace Go.Wx
open Go Go.HL
variable [Lvl]
def inM (n lo hi : Int) : Bool := decide (lo ≤ n) && decide (n ≤ hi)
def checkRangeM (x : Rg) (lo hi : Int) : Int := if !inM x.mn lo hi then 1 else if !inM x.mx lo hi then 1 else if x.mn > x.mx then 5 else 0
def checkWeatherM (x : Rg) : Int := if checkRangeM x (-50) 100 ≠ 0 then checkRangeM x (-50) 100 else if x.mx - x.mn > 2 then 1 else 0
theorem checkRangeM_zero {x : Rg} {lo hi : Int} (h : checkRangeM x lo hi = 0) : lo ≤ x.mn ∧ x.mn ≤ hi ∧ lo ≤ x.mx ∧ x.mx ≤ hi ∧ x.mn ≤ x.mx := by
 unfold checkRangeM inM at h
 repeat' split at h
 all_goals simp_all
 all_goals omega
def checkJointM (j : Joint) : Int :=
 if !inM j.kind 1 2 then 8 else if checkWeatherM j.high ≠ 0 then checkWeatherM j.high else if checkWeatherM j.low ≠ 0 then checkWeatherM j.low
 else if checkRangeM j.weeks 1 6 ≠ 0 then checkRangeM j.weeks 1 6 else checkRangeM j.life 0 9
def checkSeenM (s : Season) (r : Seen) : Int := if !inM r.joint 0 (s.joints.length - 1) then 3 else if !inM r.week 0 (s.heats.length - 1) then 1 else 0
def firstErr {α : Type} (f : α → Int) : List α → Int
 | [] => 0
 | x :: l => if f x ≠ 0 then f x else firstErr f l
theorem firstErr_append {α : Type} (f : α → Int) : ∀ (a b : List α), firstErr f a = 0 → firstErr f (a ++ b) = firstErr f b
 | [], b, _ => rfl
 | x :: a, b, h => by
  unfold firstErr at h
  split at h
  ·rename_i hx; exact absurd h hx
  ·rename_i hx
   rw [List.cons_append, firstErr, if_neg hx]
   exact firstErr_append f a b h
theorem firstErr_stop {α : Type} {f : α → Int} {l : List α} {k : Nat} (hk : k < l.length) (h0 : firstErr f (l.take k) = 0) (hx : f l[k] ≠ 0) : firstErr f l = f l[k] := by
 have e : l = l.take k ++ l[k] :: l.drop (k + 1) := by rw [← List.drop_eq_getElem_cons hk, List.take_append_drop]
 have h1 := firstErr_append f (l.take k) (l[k] :: l.drop (k + 1)) h0
 rw [← e] at h1
 rw [h1, firstErr, if_pos hx]
theorem firstErr_go {α : Type} {f : α → Int} {l : List α} {k : Nat} (hk : k < l.length) (h0 : firstErr f (l.take k) = 0) (hx : f l[k] = 0) : firstErr f (l.take (k + 1)) = 0 := by
 rw [List.take_succ_eq_append_getElem hk, firstErr_append f _ _ h0, firstErr, if_neg (by simp [hx])]
 rfl
theorem firstErr_zero {α : Type} {f : α → Int} : ∀ {l : List α}, firstErr f l = 0 → ∀ x ∈ l, f x = 0
 | [], _, _, h => by cases h
 | y :: l, h, x, hx => by
  unfold firstErr at h
  split at h
  ·rename_i hy; exact absurd h hy
  ·rename_i hy
   cases hx with
   | head => simpa using hy
   | tail _ hx => exact firstErr_zero h x hx
def checkM (s : Season) : Int :=
 if s.heats.length = 0 then 7 else if s.heats.length > 6 then 6 else if s.damps.length < s.heats.length then 7 else if s.damps.length > s.heats.length then 6
 else if firstErr checkWeatherM (s.heats ++ s.damps) ≠ 0 then firstErr checkWeatherM (s.heats ++ s.damps)
 else if s.joints.length > 3 then 6 else if firstErr checkJointM s.joints ≠ 0 then firstErr checkJointM s.joints
 else if s.reports.length > 5 then 6 else firstErr (checkSeenM s) s.reports
end Go.Wx
namespace Go.Proofs.Ytgjcepdhclmglaa
open Go Go.HL Go.Proofs Go.Wx
variable [Lvl]
set_option maxRecDepth 100000
theorem intE {k : IntKind} {a b : Int} (e : a = b) : Value.int k a = Value.int k b := by rw [e]
theorem checkRange_ok (x : Rg) (lo hi : Int) (h : AH) : FnT Try.prog 69 #[rgV x, .int .i64 lo, .int .i64 hi] h (fun v _ => v = .int .i64 (checkRangeM x lo hi)) := by
 refine wL Try.func69 rfl Try.ntmps69 rfl ?_
 refine qF ?_
 refine qC rfl ?_
 refine zF (v := .agg #[.int .i64 _, .int .i64 _]) (cs := [_, _]) rfl rfl fun b3 hb3 => ?_
 refine qH [_] rfl ?_
 refine qA (qE (v := .int .i64 _) rfl) ?_
 refine qF ?_
 refine qN ?_
 refine qF ?_
 refine qF ?_
 refine qC rfl ?_
 refine qA (qG rfl rfl rfl rfl 0 rfl) ?_
 refine qI 0 (v := .int .i64 _) rfl rfl rfl rfl ?_
 refine qA (qB (v := .int .i64 _) rfl) ?_
 refine qA (qB (v := .int .i64 _) rfl) ?_
 refine wP (caps := []) (vs := [.int .i64 _, .int .i64 _, .int .i64 _]) rfl rfl rfl (in_ok _ _ _ h) ?_
 rintro _ h1 E1 rfl
 refine qA (qK (v := .bool _) rfl) ?_
 refine qA (qE (v := .bool _) rfl) ?_
 refine wA rfl (fun hc2 => ?_) (fun hc2 => ?_)
 ·refine qT ?_
  refine wA rfl (fun hc3 => ?_) (fun hc3 => ?_)
  ·refine qF ?_
   refine qC rfl ?_
   refine qA (qE (v := .int .i64 _) rfl) ?_
   refine wK ?_
   refine qW (vs := [_]) Try.results69 ⟨qR rfl rfl, trivial⟩ fun V => ?_
   exact ⟨(zP E1 (wE V)), intE (by simp_all [checkRangeM, inM]; try omega)⟩
  ·refine qF ?_
   refine qC rfl ?_
   refine qA (qG rfl rfl rfl rfl 0 rfl) ?_
   refine qI 0 (v := .int .i64 _) rfl rfl rfl rfl ?_
   refine qA (qG rfl rfl rfl rfl 1 rfl) ?_
   refine qI 0 (v := .int .i64 _) rfl rfl rfl rfl ?_
   refine qA (qK (v := .bool _) rfl) ?_
   refine qA (qE (v := .bool _) rfl) ?_
   refine wA rfl (fun hc4 => ?_) (fun hc4 => ?_)
   ·refine qF ?_
    refine qC rfl ?_
    refine qA (qE (v := .int .i64 _) rfl) ?_
    refine wK ?_
    refine qW (vs := [_]) Try.results69 ⟨qR rfl rfl, trivial⟩ fun V => ?_
    exact ⟨(zP E1 (wE V)), intE (by simp_all [checkRangeM, inM]; try omega)⟩
   ·refine qT ?_
    refine qF ?_
    refine qC rfl ?_
    refine qA (qE (v := .int .i64 _) rfl) ?_
    refine wK ?_
    refine qW (vs := [_]) Try.results69 ⟨qR rfl rfl, trivial⟩ fun V => ?_
    exact ⟨(zP E1 (wE V)), intE (by simp_all [checkRangeM, inM]; try omega)⟩
 ·refine qC rfl ?_
  refine qA (qG rfl rfl rfl rfl 1 rfl) ?_
  refine qI 0 (v := .int .i64 _) rfl rfl rfl rfl ?_
  refine qA (qB (v := .int .i64 _) rfl) ?_
  refine qA (qB (v := .int .i64 _) rfl) ?_
  refine wP (caps := []) (vs := [.int .i64 _, .int .i64 _, .int .i64 _]) rfl rfl rfl (in_ok _ _ _ h1) ?_
  rintro _ h5 E5 rfl
  refine qA (qK (v := .bool _) rfl) ?_
  refine qA (qE (v := .bool _) rfl) ?_
  refine wA rfl (fun hc6 => ?_) (fun hc6 => ?_)
  ·refine qF ?_
   refine qC rfl ?_
   refine qA (qE (v := .int .i64 _) rfl) ?_
   refine wK ?_
   refine qW (vs := [_]) Try.results69 ⟨qR rfl rfl, trivial⟩ fun V => ?_
   exact ⟨(zP (zP E1 E5) (wE V)), intE (by simp_all [checkRangeM, inM]; try omega)⟩
  ·refine qF ?_
   refine qC rfl ?_
   refine qA (qG rfl rfl rfl rfl 0 rfl) ?_
   refine qI 0 (v := .int .i64 _) rfl rfl rfl rfl ?_
   refine qA (qG rfl rfl rfl rfl 1 rfl) ?_
   refine qI 0 (v := .int .i64 _) rfl rfl rfl rfl ?_
   refine qA (qK (v := .bool _) rfl) ?_
   refine qA (qE (v := .bool _) rfl) ?_
   refine wA rfl (fun hc7 => ?_) (fun hc7 => ?_)
   ·refine qF ?_
    refine qC rfl ?_
    refine qA (qE (v := .int .i64 _) rfl) ?_
    refine wK ?_
    refine qW (vs := [_]) Try.results69 ⟨qR rfl rfl, trivial⟩ fun V => ?_
    exact ⟨(zP (zP E1 E5) (wE V)), intE (by simp_all [checkRangeM, inM]; try omega)⟩
   ·refine qT ?_
    refine qF ?_
    refine qC rfl ?_
    refine qA (qE (v := .int .i64 _) rfl) ?_
    refine wK ?_
    refine qW (vs := [_]) Try.results69 ⟨qR rfl rfl, trivial⟩ fun V => ?_
    exact ⟨(zP (zP E1 E5) (wE V)), intE (by simp_all [checkRangeM, inM]; try omega)⟩
theorem checkWeather_ok (x : Rg) (h : AH) : FnT Try.prog 59 #[rgV x] h (fun v _ => v = .int .i64 (checkWeatherM x)) := by
 refine wL Try.func59 rfl Try.ntmps59 rfl ?_
 refine qF ?_
 refine qC rfl ?_
 refine zF (v := .agg #[.int .i64 _, .int .i64 _]) (cs := [_, _]) rfl rfl fun b1 hb1 => ?_
 refine qH [_] rfl ?_
 refine qA (qE (v := .int .i64 _) rfl) ?_
 refine qF ?_
 refine qF ?_
 refine qC rfl ?_
 refine qX 0 (vs := [.int .i64 _, .int .i64 _]) rfl rfl rfl rfl rfl ?_
 refine wP (caps := []) (vs := [.agg #[.int .i64 _, .int .i64 _], .int .i64 _, .int .i64 _]) rfl rfl rfl (checkRange_ok x _ _ h) ?_
 rintro _ h1 E1 rfl
 refine qA (qE (v := .int .i64 _) rfl) ?_
 refine qF ?_
 refine qC rfl ?_
 refine qA (qB (v := .int .i64 _) rfl) ?_
 refine qA (qK (v := .bool _) rfl) ?_
 refine wA rfl (fun hc => ?_) (fun hc => ?_)
 ·skip
  refine qF ?_
  refine qC rfl ?_
  refine qA (qB (v := .int .i64 _) rfl) ?_
  refine qA (qE (v := .int .i64 _) rfl) ?_
  refine wK ?_
  refine qW (vs := [_]) Try.results59 ⟨qR rfl rfl, trivial⟩ fun V => ?_
  exact ⟨(zP E1 (wE V)), intE (by simp_all [checkWeatherM])⟩
 ·skip
  have h0 := checkRangeM_zero (x := x) (lo := -50) (hi := 100) (by simpa using hc)
  refine qT ?_
  refine qF ?_
  refine qF ?_
  refine qC rfl ?_
  refine qA (qG rfl rfl rfl rfl 1 rfl) ?_
  refine qI 0 (v := .int .i64 _) rfl rfl rfl rfl ?_
  refine qA (qG rfl rfl rfl rfl 0 rfl) ?_
  refine qI 0 (v := .int .i64 _) rfl rfl rfl rfl ?_
  refine qA (qO rfl (by omega)) ?_
  refine qA (qK (v := .bool _) rfl) ?_
  refine wA rfl (fun hc1 => ?_) (fun hc1 => ?_)
  ·refine qF ?_
   refine qC rfl ?_
   refine qA (qE (v := .int .i64 _) rfl) ?_
   refine wK ?_
   refine qW (vs := [_]) Try.results59 ⟨qR rfl rfl, trivial⟩ fun V => ?_
   exact ⟨(zP E1 (wE V)), intE (by simp_all [checkWeatherM])⟩
  ·refine qT ?_
   refine qF ?_
   refine qC rfl ?_
   refine qA (qE (v := .int .i64 _) rfl) ?_
   refine wK ?_
   refine qW (vs := [_]) Try.results59 ⟨qR rfl rfl, trivial⟩ fun V => ?_
   exact ⟨(zP E1 (wE V)), intE (by simp_all [checkWeatherM])⟩
theorem checkJoint_ok (j : Joint) (h : AH) : FnT Try.prog 60 #[.agg (jointC j).toArray] h (fun v _ => v = .int .i64 (checkJointM j)) := by
 refine wL Try.func60 rfl Try.ntmps60 rfl ?_
 refine qF ?_
 refine qC rfl ?_
 refine zF (v := .agg #[.int .i64 _, .int .i64 _, .int .i64 _, .int .i64 _, .int .i64 _, .int .i64 _, .int .i64 _, .int .i64 _, .int .i64 _]) (cs := [_, _, _, _, _, _, _, _, _]) rfl rfl fun b1 hb1 => ?_
 refine qH [_] rfl ?_
 refine qA (qE (v := .int .i64 _) rfl) ?_
 refine qF ?_
 refine qF ?_
 refine qC rfl ?_
 refine qA (qG rfl rfl rfl rfl 0 rfl) ?_
 refine qI 0 (v := .int .i64 _) rfl rfl rfl rfl ?_
 refine wP (caps := []) (vs := [.int .i64 _, .int .i64 _, .int .i64 _]) rfl rfl rfl (in_ok _ _ _ h) ?_
 rintro _ h1 E1 rfl
 refine qA (qK (v := .bool _) rfl) ?_
 refine wA rfl (fun hc2 => ?_) (fun hc2 => ?_)
 ·refine qF ?_
  refine qC rfl ?_
  refine qA (qE (v := .int .i64 _) rfl) ?_
  refine wK ?_
  refine qW (vs := [_]) Try.results60 ⟨qR rfl rfl, trivial⟩ fun V => ?_
  exact ⟨(zP E1 (wE V)), intE (by simp_all [checkJointM, inM])⟩
 ·refine qT ?_
  refine qF ?_
  refine qF ?_
  refine qC rfl ?_
  refine qA (qG rfl rfl rfl rfl 1 rfl) ?_
  refine qX 0 (vs := [.int .i64 _, .int .i64 _]) rfl rfl rfl rfl rfl ?_
  refine wP (caps := []) (vs := [.agg #[.int .i64 _, .int .i64 _]]) rfl rfl rfl (checkWeather_ok ⟨_, _⟩ h1) ?_
  rintro _ h3 E3 rfl
  refine qA (qE (v := .int .i64 _) rfl) ?_
  refine qF ?_
  refine qC rfl ?_
  refine qA (qB (v := .int .i64 _) rfl) ?_
  refine qA (qK (v := .bool _) rfl) ?_
  refine wA rfl (fun hc4 => ?_) (fun hc4 => ?_)
  ·refine qF ?_
   refine qC rfl ?_
   refine qA (qB (v := .int .i64 _) rfl) ?_
   refine qA (qE (v := .int .i64 _) rfl) ?_
   refine wK ?_
   refine qW (vs := [_]) Try.results60 ⟨qR rfl rfl, trivial⟩ fun V => ?_
   exact ⟨(zP (zP E1 E3) (wE V)), intE (by simp_all [checkJointM, inM])⟩
  ·refine qT ?_
   refine qF ?_
   refine qF ?_
   refine qC rfl ?_
   refine qA (qG rfl rfl rfl rfl 3 rfl) ?_
   refine qX 0 (vs := [.int .i64 _, .int .i64 _]) rfl rfl rfl rfl rfl ?_
   refine wP (caps := []) (vs := [.agg #[.int .i64 _, .int .i64 _]]) rfl rfl rfl (checkWeather_ok ⟨_, _⟩ h3) ?_
   rintro _ h5 E5 rfl
   refine qA (qE (v := .int .i64 _) rfl) ?_
   refine qF ?_
   refine qC rfl ?_
   refine qA (qB (v := .int .i64 _) rfl) ?_
   refine qA (qK (v := .bool _) rfl) ?_
   refine wA rfl (fun hc6 => ?_) (fun hc6 => ?_)
   ·refine qF ?_
    refine qC rfl ?_
    refine qA (qB (v := .int .i64 _) rfl) ?_
    refine qA (qE (v := .int .i64 _) rfl) ?_
    refine wK ?_
    refine qW (vs := [_]) Try.results60 ⟨qR rfl rfl, trivial⟩ fun V => ?_
    exact ⟨(zP (zP (zP E1 E3) E5) (wE V)), intE (by simp_all [checkJointM, inM])⟩
   ·refine qT ?_
    refine qF ?_
    refine qF ?_
    refine qC rfl ?_
    refine qA (qG rfl rfl rfl rfl 5 rfl) ?_
    refine qX 0 (vs := [.int .i64 _, .int .i64 _]) rfl rfl rfl rfl rfl ?_
    refine wP (caps := []) (vs := [.agg #[.int .i64 _, .int .i64 _], .int .i64 _, .int .i64 _]) rfl rfl rfl (checkRange_ok ⟨_, _⟩ _ _ h5) ?_
    rintro _ h7 E7 rfl
    refine qA (qE (v := .int .i64 _) rfl) ?_
    refine qF ?_
    refine qC rfl ?_
    refine qA (qB (v := .int .i64 _) rfl) ?_
    refine qA (qK (v := .bool _) rfl) ?_
    refine wA rfl (fun hc8 => ?_) (fun hc8 => ?_)
    ·refine qF ?_
     refine qC rfl ?_
     refine qA (qB (v := .int .i64 _) rfl) ?_
     refine qA (qE (v := .int .i64 _) rfl) ?_
     refine wK ?_
     refine qW (vs := [_]) Try.results60 ⟨qR rfl rfl, trivial⟩ fun V => ?_
     exact ⟨(zP (zP (zP (zP E1 E3) E5) E7) (wE V)), intE (by simp_all [checkJointM, inM])⟩
    ·refine qT ?_
     refine qF ?_
     refine qC rfl ?_
     refine qA (qG rfl rfl rfl rfl 7 rfl) ?_
     refine qX 0 (vs := [.int .i64 _, .int .i64 _]) rfl rfl rfl rfl rfl ?_
     refine wP (caps := []) (vs := [.agg #[.int .i64 _, .int .i64 _], .int .i64 _, .int .i64 _]) rfl rfl rfl (checkRange_ok ⟨_, _⟩ _ _ h7) ?_
     rintro _ h9 E9 rfl
     refine qA (qE (v := .int .i64 _) rfl) ?_
     refine wK ?_
     refine qW (vs := [_]) Try.results60 ⟨qR rfl rfl, trivial⟩ fun V => ?_
     exact ⟨(zP (zP (zP (zP (zP E1 E3) E5) E7) E9) (wE V)), intE (by simp_all [checkJointM, inM])⟩
theorem checkSeen_ok (s : Season) (r : Seen) (A0 A1 A2 A3 : Option Addr) (c0 c1 c2 c3 : Nat) (hj : s.joints.length < 2 ^ 40) (hh : s.heats.length < 2 ^ 40) (h : AH) : FnT Try.prog 61 #[seasonV A0 A1 A2 A3 c0 c1 c2 c3 s, .agg (seenC r).toArray] h (fun v _ => v = .int .i64 (checkSeenM s r)) := by
 refine wL Try.func61 rfl Try.ntmps61 rfl ?_
 refine qF ?_
 refine qC rfl ?_
 refine zF (v := .agg #[.slice _ _ _, .slice _ _ _, .slice _ _ _, .slice _ _ _]) (cs := [_, _, _, _]) rfl rfl fun b2 hb2 => ?_
 refine qH [_] rfl ?_
 refine zF (v := .agg #[.int .i64 _, .int .i64 _, .bool _]) (cs := [_, _, _]) rfl rfl fun b3 hb3 => ?_
 refine qH [_, _] rfl ?_
 refine qA (qE (v := .int .i64 _) rfl) ?_
 refine qF ?_
 refine qN ?_
 refine qF ?_
 refine qC rfl ?_
 refine qA (qG rfl rfl rfl rfl 0 rfl) ?_
 refine qI 1 (v := .int .i64 _) rfl rfl rfl rfl ?_
 refine qA (qG rfl rfl rfl rfl 2 rfl) ?_
 refine qI 0 (v := .slice _ _ _) rfl rfl rfl rfl ?_
 refine qA (wV rfl rfl) ?_
 refine qA (qO rfl (by omega)) ?_
 refine wP (caps := []) (vs := [.int .i64 _, .int .i64 _, .int .i64 _]) rfl rfl rfl (in_ok _ _ _ h) ?_
 rintro _ h1 E1 rfl
 refine qA (qK (v := .bool _) rfl) ?_
 refine qA (qE (v := .bool _) rfl) ?_
 refine wA rfl (fun hc2 => ?_) (fun hc2 => ?_)
 ·refine qF ?_
  refine qC rfl ?_
  refine qA (qE (v := .int .i64 _) rfl) ?_
  refine wK ?_
  refine qW (vs := [_]) Try.results61 ⟨qR rfl rfl, trivial⟩ fun V => ?_
  exact ⟨(zP E1 (wE V)), intE (by simp_all [checkSeenM, inM])⟩
 ·refine qF ?_
  refine qC rfl ?_
  refine qA (qG rfl rfl rfl rfl 1 rfl) ?_
  refine qI 1 (v := .int .i64 _) rfl rfl rfl rfl ?_
  refine qA (qG rfl rfl rfl rfl 0 rfl) ?_
  refine qI 0 (v := .slice _ _ _) rfl rfl rfl rfl ?_
  refine qA (wV rfl rfl) ?_
  refine qA (qO rfl (by omega)) ?_
  refine wP (caps := []) (vs := [.int .i64 _, .int .i64 _, .int .i64 _]) rfl rfl rfl (in_ok _ _ _ h1) ?_
  rintro _ h3 E3 rfl
  refine qA (qK (v := .bool _) rfl) ?_
  refine qA (qE (v := .bool _) rfl) ?_
  refine wA rfl (fun hc4 => ?_) (fun hc4 => ?_)
  ·refine qF ?_
   refine qC rfl ?_
   refine qA (qE (v := .int .i64 _) rfl) ?_
   refine wK ?_
   refine qW (vs := [_]) Try.results61 ⟨qR rfl rfl, trivial⟩ fun V => ?_
   exact ⟨(zP (zP E1 E3) (wE V)), intE (by simp_all [checkSeenM, inM])⟩
  ·refine qT ?_
   refine qF ?_
   refine qC rfl ?_
   refine qA (qE (v := .int .i64 _) rfl) ?_
   refine wK ?_
   refine qW (vs := [_]) Try.results61 ⟨qR rfl rfl, trivial⟩ fun V => ?_
   exact ⟨(zP (zP E1 E3) (wE V)), intE (by simp_all [checkSeenM, inM])⟩
end Go.Proofs.Ytgjcepdhclmglaa
namespace Go.Proofs.Ytgjcepdhclmglaa
open Go Go.HL Go.Proofs Go.Wx
variable [Lvl]
set_option maxRecDepth 100000
theorem grow_ok (k : Nat) (k' : Int) (ek : k' = k) (hk : 0 < k) (hk2 : k < 2 ^ 20) (h : AH) : FnO Try.prog 68 #[.slice none 0 0, .int .i64 k'] h (fun v b o _ => AccP 41 2 [] (some (b, o)) v) := by
 subst ek
 refine wL Try.func68 rfl Try.ntmps68 rfl ?_
 refine qF ?_
 refine qC rfl ?_
 refine qA (qE (v := .slice _ _ _) rfl) ?_
 refine qF ?_
 refine qF ?_
 refine qC rfl ?_
 refine qA (qB (v := .int .i64 _) rfl) ?_
 refine qA (qK (v := .bool _) rfl) ?_
 refine wA rfl (fun h1 => ?_) (fun h1 => ?_)
 ·skip
  exact absurd h1 (by simp)
 ·skip
  refine qT ?_
  refine qF ?_
  refine qF ?_
  refine qC rfl ?_
  refine qA (qB (v := .int .i64 _) rfl) ?_
  refine qA (qB (v := .slice _ _ _) rfl) ?_
  refine qA (pv_cap rfl rfl) ?_
  refine qA (qB (v := .slice _ _ _) rfl) ?_
  refine qA (wV rfl rfl) ?_
  refine qA (qO rfl (by omega)) ?_
  refine qA (qO rfl (by omega)) ?_
  refine qA (qE (v := .int .i64 _) rfl) ?_
  refine qF ?_
  refine qC rfl ?_
  refine qA (qB (v := .int .i64 _) rfl) ?_
  refine qA (qK (v := .bool _) rfl) ?_
  refine wA rfl (fun h2 => ?_) (fun h2 => ?_)
  ·skip
   refine qC rfl ?_
   refine qA (qB (v := .slice _ _ _) rfl) ?_
   refine qA (qB (v := .slice _ _ _) rfl) ?_
   refine qA (pv_cap rfl rfl) ?_
   refine qA (pv_front (k := 0) rfl rfl rfl (by omega) rfl rfl) ?_
   refine qA (qB (v := .int .i64 _) rfl) ?_
   refine op_appendZ (k := k) (m := 2) rfl rfl (by omega) hk (by omega) rfl rfl rfl rfl rfl (zc := [_, _]) rfl rfl (by omega) rfl fun b22 cap junk hb22 hj hc => ?_
   refine qH [_] rfl ?_
   refine qA (qB (v := .slice _ _ _) rfl) ?_
   refine qA (wV rfl rfl) ?_
   refine qA (pv_front (k := 0) rfl rfl rfl (by omega) rfl rfl) ?_
   refine qA (qE (v := .slice _ _ _) rfl) ?_
   refine qF ?_
   refine qC rfl ?_
   refine qA (qB (v := .slice _ _ _) rfl) ?_
   refine qA (qE (v := .slice _ _ _) rfl) ?_
   refine wK ?_
   refine qW (vs := [_]) Try.results68 ⟨qR rfl rfl, trivial⟩ fun V => ?_
   exact ⟨h, b22, _, (wl_new hb22 _).symm, hb22, Ext.refl h, .inr ⟨b22, 0, cap, junk, by simp, rfl, rfl, by simpa using hj⟩⟩
  ·skip
   exact absurd h2 (by simp; omega)
theorem concat_ok (a b : List Rg) (A B C : Option Addr) (ca cb cc : Nat) (h : AH) (Ra : Row h 2 rgC A a) (Rb : Row h 2 rgC B b) (Rc : Rd h C [.slice A a.length ca, .slice B b.length cb]) (ha : 0 < a.length) (hl : a.length + b.length < 2 ^ 19) :
  FnT Try.prog 58 #[.slice C 2 cc] h (fun v h' => SlR h' 2 rgC (a ++ b) v) := by
 obtain ⟨g, off, rfl, hc⟩ := Rc (by simp)
 refine wL Try.func58 rfl Try.ntmps58 rfl ?_
 refine qF ?_
 refine qC rfl ?_
 refine qA (qE (v := .slice _ _ _) rfl) ?_
 refine qF ?_
 refine qC rfl ?_
 refine qA (qE (v := .int .i64 _) rfl) ?_
 refine qF ?_
 refine qF ?_
 refine qC rfl ?_
 refine qA (qB (v := .slice _ _ _) rfl) ?_
 refine qA (wV rfl rfl) ?_
 refine qA (qB (v := .int .i64 _) rfl) ?_
 refine qN ?_
 refine xp_unroll ?_
 refine qF ?_
 refine qC rfl ?_
 refine qA (qK (v := .bool _) rfl) ?_
 refine qF ?_
 refine xp_condT rfl (by decide) ?_
 refine qT ?_
 refine qF ?_
 refine qN ?_
 refine qF ?_
 refine qC rfl ?_
 refine qA (qM rfl rfl rfl rfl (by omega) (by omega)) ?_
 refine qV (v := .slice _ _ _) rfl rfl (hc 0 _ rfl) ?_
 refine qA (qE (v := .slice _ _ _) rfl) ?_
 refine qF ?_
 refine qC rfl ?_
 refine qA (qB (v := .int .i64 _) rfl) ?_
 refine qA (qB (v := .slice _ _ _) rfl) ?_
 refine qA (wV rfl rfl) ?_
 refine qA (qO rfl (by omega)) ?_
 refine qA (qE (v := .int .i64 _) rfl) ?_
 refine qF ?_
 refine qC rfl ?_
 refine qA (qB (v := .int .i64 _) rfl) ?_
 refine qA (qK (v := .bool _) rfl) ?_
 refine zI rfl (by simp) ?_
 refine qT ?_
 refine qC rfl ?_
 refine qA (qO rfl (by omega)) ?_
 refine qA (qB (v := .int .i64 _) rfl) ?_
 refine again_unroll ?_
 refine qF ?_
 refine qC rfl ?_
 refine qA (qK (v := .bool _) rfl) ?_
 refine qF ?_
 refine xp_condT rfl (by decide) ?_
 refine qT ?_
 refine qF ?_
 refine qN ?_
 refine qF ?_
 refine qC rfl ?_
 refine qA (qM rfl rfl rfl rfl (by omega) (by omega)) ?_
 refine qV (v := .slice _ _ _) rfl rfl (hc 1 _ rfl) ?_
 refine qA (qE (v := .slice _ _ _) rfl) ?_
 refine qF ?_
 refine qC rfl ?_
 refine qA (qB (v := .int .i64 _) rfl) ?_
 refine qA (qB (v := .slice _ _ _) rfl) ?_
 refine qA (wV rfl rfl) ?_
 refine qA (qO rfl (by omega)) ?_
 refine qA (qE (v := .int .i64 _) rfl) ?_
 refine qF ?_
 refine qC rfl ?_
 refine qA (qB (v := .int .i64 _) rfl) ?_
 refine qA (qK (v := .bool _) rfl) ?_
 refine zI rfl (by simp; omega) ?_
 refine qT ?_
 refine qC rfl ?_
 refine qA (qO rfl (by omega)) ?_
 refine qA (qB (v := .int .i64 _) rfl) ?_
 refine again_unroll ?_
 refine qF ?_
 refine qC rfl ?_
 refine qA (qK (v := .bool _) rfl) ?_
 refine qF ?_
 refine zI rfl (by decide) ?_
 refine wU ?_
 refine qF ?_
 refine qC rfl ?_
 refine qA (qB (v := .int .i64 _) rfl) ?_
 refine op_fnO (caps := []) rfl rfl rfl (grow_ok (a.length + b.length) _ (by simp) (by omega) (by omega) h) fun v h1 g24 o E1 ha => ?_
 refine qH [_] rfl ?_
 obtain ⟨A1, n1, c1, rfl⟩ := AccP.slice ha
 have ha0 : AccR 41 2 [] ⟨some (g24, o), A1, n1, c1⟩ := ha
 refine qA (qE (v := .slice _ _ _) rfl) ?_
 refine qF ?_
 refine qF ?_
 refine qC rfl ?_
 refine qA (qB (v := .slice _ _ _) rfl) ?_
 refine qA (wV rfl rfl) ?_
 refine qA (qB (v := .int .i64 _) rfl) ?_
 refine qN ?_
 refine xp_unroll ?_
 refine qF ?_
 refine qC rfl ?_
 refine qA (qK (v := .bool _) rfl) ?_
 refine qF ?_
 refine xp_condT rfl (by decide) ?_
 refine qT ?_
 refine qF ?_
 refine qN ?_
 refine qF ?_
 refine qC rfl ?_
 refine qA (qM rfl rfl rfl rfl (by omega) (by omega)) ?_
 refine qV (v := .slice _ _ _) rfl rfl (hc.ext E1 0 _ rfl) ?_
 refine qA (qE (v := .slice _ _ _) rfl) ?_
 refine qC rfl ?_
 refine qA (qB (v := .slice _ _ _) rfl) ?_
 refine qA (qB (v := .slice _ _ _) rfl) ?_
 refine zK 0 ha0 rfl rfl rfl (fun V => (Ra.2.ext E1).ext (wE V)) (wS Ra.1) (flat_plain rgP a) rfl rfl rfl rfl rfl rfl rfl (by omega) rfl (by rw [wS Ra.1]; simp; omega) fun a1 h1a E1a ha1 => ?_
 refine qH [_] rfl ?_
 refine qA (qE (v := .slice _ _ _) rfl) ?_
 refine qC rfl ?_
 refine qA (qO rfl (by omega)) ?_
 refine qA (qB (v := .int .i64 _) rfl) ?_
 refine again_unroll ?_
 refine qF ?_
 refine qC rfl ?_
 refine qA (qK (v := .bool _) rfl) ?_
 refine qF ?_
 refine xp_condT rfl (by decide) ?_
 refine qT ?_
 refine qF ?_
 refine qN ?_
 refine qF ?_
 refine qC rfl ?_
 refine qA (qM rfl rfl rfl rfl (by omega) (by omega)) ?_
 refine qV (v := .slice _ _ _) rfl rfl (hc.ext (E1.trans E1a) 1 _ rfl) ?_
 refine qA (qE (v := .slice _ _ _) rfl) ?_
 refine qC rfl ?_
 refine qA (qB (v := .slice _ _ _) rfl) ?_
 refine qA (qB (v := .slice _ _ _) rfl) ?_
 refine zK 0 ha1 rfl rfl rfl (fun V => (Rb.2.ext (E1.trans E1a)).ext (wE V)) (wS Rb.1) (flat_plain rgP b) rfl rfl rfl rfl rfl rfl rfl (by omega) rfl (by rw [List.nil_append, wS Ra.1, wS Rb.1]; omega) fun a2 h2a E2a ha2 => ?_
 refine qH [_] rfl ?_
 refine qA (qE (v := .slice _ _ _) rfl) ?_
 refine qC rfl ?_
 refine qA (qO rfl (by omega)) ?_
 refine qA (qB (v := .int .i64 _) rfl) ?_
 refine again_unroll ?_
 refine qF ?_
 refine qC rfl ?_
 refine qA (qK (v := .bool _) rfl) ?_
 refine qF ?_
 refine zI rfl (by decide) ?_
 refine wU ?_
 refine qF ?_
 refine qC rfl ?_
 refine qA (qB (v := .slice _ _ _) rfl) ?_
 refine qA (qE (v := .slice _ _ _) rfl) ?_
 refine wK ?_
 refine qW (vs := [_]) Try.results58 ⟨qR rfl rfl, trivial⟩ fun V => ?_
 rw [List.nil_append, ← List.flatMap_append] at ha2
 exact ⟨(zP (zP (zP E1 E1a) E2a) (wE V)), AccP.row (l := a ++ b) (i := 0) ha2 (by omega) (fun x _ => rfl) V rfl⟩
theorem check_ok (s : Season) (A0 A1 A2 A3 : Option Addr) (c0 c1 c2 c3 : Nat) (h : AH) (R : SeasonR h A0 A1 A2 A3 s) (h0 : s.heats.length < 2 ^ 40) (h1 : s.damps.length < 2 ^ 40) (h2 : s.joints.length < 2 ^ 40) (h3 : s.reports.length < 2 ^ 40) :
  FnT Try.prog 43 #[seasonV A0 A1 A2 A3 c0 c1 c2 c3 s] h (fun v _ => v = .int .i64 (checkM s)) := by
 refine wL Try.func43 rfl Try.ntmps43 rfl ?_
 refine qF ?_
 refine qC rfl ?_
 refine zF (v := .agg #[.slice _ _ _, .slice _ _ _, .slice _ _ _, .slice _ _ _]) (cs := [_, _, _, _]) rfl rfl fun b1 hb1 => ?_
 refine qH [_] rfl ?_
 refine qA (qE (v := .int .i64 _) rfl) ?_
 refine qF ?_
 refine qN ?_
 refine qF ?_
 refine qC rfl ?_
 refine qA (qG rfl rfl rfl rfl 0 rfl) ?_
 refine qI 0 (v := .slice _ _ _) rfl rfl rfl rfl ?_
 refine qA (wV rfl rfl) ?_
 refine qA (qK (v := .bool _) rfl) ?_
 refine qA (qE (v := .bool _) rfl) ?_
 refine wA rfl (fun q1 => ?_) (fun q1 => ?_)
 ·skip
  refine qF ?_
  refine qC rfl ?_
  refine qA (qE (v := .int .i64 _) rfl) ?_
  refine wK ?_
  refine qW (vs := [_]) Try.results43 ⟨qR rfl rfl, trivial⟩ fun V => ?_
  exact ⟨(wE V), intE (by unfold checkM; simp_all <;> omega)⟩
 ·skip
  refine qF ?_
  refine qC rfl ?_
  refine qA (qG rfl rfl rfl rfl 0 rfl) ?_
  refine qI 0 (v := .slice _ _ _) rfl rfl rfl rfl ?_
  refine qA (wV rfl rfl) ?_
  refine qA (qK (v := .bool _) rfl) ?_
  refine qA (qE (v := .bool _) rfl) ?_
  refine wA rfl (fun q2 => ?_) (fun q2 => ?_)
  ·skip
   refine qF ?_
   refine qC rfl ?_
   refine qA (qE (v := .int .i64 _) rfl) ?_
   refine wK ?_
   refine qW (vs := [_]) Try.results43 ⟨qR rfl rfl, trivial⟩ fun V => ?_
   exact ⟨(wE V), intE (by unfold checkM; simp_all <;> omega)⟩
  ·skip
   refine qF ?_
   refine qC rfl ?_
   refine qA (qG rfl rfl rfl rfl 1 rfl) ?_
   refine qI 0 (v := .slice _ _ _) rfl rfl rfl rfl ?_
   refine qA (wV rfl rfl) ?_
   refine qA (qG rfl rfl rfl rfl 0 rfl) ?_
   refine qI 0 (v := .slice _ _ _) rfl rfl rfl rfl ?_
   refine qA (wV rfl rfl) ?_
   refine qA (qK (v := .bool _) rfl) ?_
   refine qA (qE (v := .bool _) rfl) ?_
   refine wA rfl (fun q3 => ?_) (fun q3 => ?_)
   ·skip
    refine qF ?_
    refine qC rfl ?_
    refine qA (qE (v := .int .i64 _) rfl) ?_
    refine wK ?_
    refine qW (vs := [_]) Try.results43 ⟨qR rfl rfl, trivial⟩ fun V => ?_
    exact ⟨(wE V), intE (by unfold checkM; simp_all <;> omega)⟩
   ·skip
    refine qF ?_
    refine qC rfl ?_
    refine qA (qG rfl rfl rfl rfl 1 rfl) ?_
    refine qI 0 (v := .slice _ _ _) rfl rfl rfl rfl ?_
    refine qA (wV rfl rfl) ?_
    refine qA (qG rfl rfl rfl rfl 0 rfl) ?_
    refine qI 0 (v := .slice _ _ _) rfl rfl rfl rfl ?_
    refine qA (wV rfl rfl) ?_
    refine qA (qK (v := .bool _) rfl) ?_
    refine qA (qE (v := .bool _) rfl) ?_
    refine wA rfl (fun q4 => ?_) (fun q4 => ?_)
    ·skip
     refine qF ?_
     refine qC rfl ?_
     refine qA (qE (v := .int .i64 _) rfl) ?_
     refine wK ?_
     refine qW (vs := [_]) Try.results43 ⟨qR rfl rfl, trivial⟩ fun V => ?_
     exact ⟨(wE V), intE (by unfold checkM; simp_all <;> omega)⟩
    ·skip
     have g1 : 0 < s.heats.length := by
      rcases Nat.eq_zero_or_pos s.heats.length with e | e
      ·rw [e] at q1; cases q1
      ·exact e
     have g2 : s.heats.length ≤ 6 := by simp at q2; omega
     have g3 : s.damps.length = s.heats.length := by simp at q3 q4; omega
     refine qT ?_
     refine qF ?_
     refine qF ?_
     refine qC rfl ?_
     refine qA (qG rfl rfl rfl rfl 0 rfl) ?_
     refine qI 0 (v := .slice _ _ _) rfl rfl rfl rfl ?_
     refine qA (qG rfl rfl rfl rfl 1 rfl) ?_
     refine qI 0 (v := .slice _ _ _) rfl rfl rfl rfl ?_
     refine wG (zc := [_]) (vs := [(0, .slice _ _ _), (1, .slice _ _ _)]) (cs := [_, _]) rfl rfl rfl rfl rfl rfl rfl fun b42 hb42 => ?_
     refine qH [_, _] rfl ?_
     refine wp_pub 1 rfl rfl ?_
     intro h4 E4 hb
     refine qH [_, _] rfl ?_
     refine wP (caps := []) (vs := [.slice _ _ _]) rfl rfl rfl (concat_ok s.heats s.damps A0 A1 _ c0 c1 2 h4 (R.heats.ext E4) (R.damps.ext E4) (fun _ => ⟨b42, 0, rfl, fun j u hu => by simp only [cellA, hb, Nat.zero_add]; simpa using hu⟩) g1 (by omega)) ?_
     rintro _ h5 E5 ⟨B, cB, rfl, RB⟩
     refine qA (wV rfl rfl) ?_
     refine qA (qB (v := .int .i64 _) rfl) ?_
     refine qN ?_
     have lB : (s.heats ++ s.damps).length < 2 ^ 40 := by rw [List.length_append]; omega
     refine zN [2, 4, 5, 45, 46, 47, 48, 49, 50, 51, 52, 53, 54] 2 (α := Nat) (fun k => [(45, .int .i64 k)]) (fun k => _) (fun k h_k => k ≤ (s.heats ++ s.damps).length ∧ firstErr checkWeatherM ((s.heats ++ s.damps).take k) = 0) (fun k => (s.heats ++ s.damps).length - k) (0) ⟨rfl, trivial⟩ (rfl) (⟨Nat.zero_le _, rfl⟩) ?_
     rintro k T1 h_k E_k J_k
     refine qP [_, _] rfl ?_
     refine qF ?_
     refine qC rfl ?_
     refine qA (qK (v := .bool _) rfl) ?_
     refine qF ?_
     refine wA rfl (fun ht => ?_) (fun ht => ?_)
     ·skip
      have hlt : k < (s.heats ++ s.damps).length := ltI ht
      obtain ⟨g, off, rfl, hc⟩ := (RB.ext E_k).at (by omega) hlt
      refine qT ?_
      refine qF ?_
      refine qN ?_
      refine qF ?_
      refine qC rfl ?_
      refine qA (qM rfl rfl rfl rfl (by omega) (by omega)) ?_
      refine op_loadA rfl rfl rfl rfl (hc) ?_
      refine wO (cs := [_, _]) rfl rfl fun b4 hb4 => ?_
      refine qH [_, _, _] rfl ?_
      refine qJ 2 (v := .agg #[.int .i64 _, .int .i64 _]) (vs := [_, _]) (c' := [_, _]) rfl rfl rfl rfl rfl rfl rfl rfl rfl ?_
      refine qH [_, _, _] rfl ?_
      refine qF ?_
      refine qC rfl ?_
      refine qX 2 (vs := [.int .i64 _, .int .i64 _]) rfl rfl rfl rfl rfl ?_
      refine wP (caps := []) (vs := [.agg #[.int .i64 _, .int .i64 _]]) rfl rfl rfl (checkWeather_ok (s.heats ++ s.damps)[k] h_k) ?_
      rintro _ h6 E6 rfl
      refine qA (qE (v := .int .i64 _) rfl) ?_
      refine qF ?_
      refine qC rfl ?_
      refine qA (qB (v := .int .i64 _) rfl) ?_
      refine qA (qK (v := .bool _) rfl) ?_
      refine wA rfl (fun hz => ?_) (fun hz => ?_)
      ·skip
       refine qF ?_
       refine qC rfl ?_
       refine qA (qB (v := .int .i64 _) rfl) ?_
       refine qA (qE (v := .int .i64 _) rfl) ?_
       refine wK ?_
       refine qW (vs := [_]) Try.results43 ⟨qR rfl rfl, trivial⟩ fun V => ?_
       have e1 := firstErr_stop hlt J_k.2 (by simpa using hz)
       exact ⟨(zP (zP (zP (zP E4 E5) E_k) E6) (wE V)), intE (by unfold checkM; rw [if_neg (by omega), if_neg (by omega), if_neg (by omega), if_neg (by omega), e1, if_pos (by simpa using hz)])⟩
      ·skip
       refine qT ?_
       refine qC rfl ?_
       refine qA (qO rfl (by omega)) ?_
       refine qA (qB (v := .int .i64 _) rfl) ?_
       refine ⟨k + 1, ⟨rfl, trivial⟩, rfl, rfl, (zP E_k E6), fun h3 E3 => ⟨hlt, firstErr_go hlt J_k.2 (by simpa using hz)⟩, by first | omega | (dsimp only; omega), ?_⟩
       repeat (first | exact qU _ _ _ | refine wB (by decide) ?_ | refine qS rfl ?_ | refine wN rfl ?_)
     ·skip
      have hk : k = (s.heats ++ s.damps).length := by have := geI ht; omega
      have w0 : firstErr checkWeatherM (s.heats ++ s.damps) = 0 := by have := J_k.2; rwa [hk, List.take_length] at this
      refine wU ?_
      refine qF ?_
      refine qF ?_
      refine qC rfl ?_
      refine qA (qG rfl rfl rfl rfl 2 rfl) ?_
      refine qI 0 (v := .slice _ _ _) rfl rfl rfl rfl ?_
      refine qA (wV rfl rfl) ?_
      refine qA (qK (v := .bool _) rfl) ?_
      refine wA rfl (fun q5 => ?_) (fun q5 => ?_)
      ·skip
       refine qF ?_
       refine qC rfl ?_
       refine qA (qE (v := .int .i64 _) rfl) ?_
       refine wK ?_
       refine qW (vs := [_]) Try.results43 ⟨qR rfl rfl, trivial⟩ fun V => ?_
       have q5' := of_decide_eq_true q5
       exact ⟨(zP (zP (zP E4 E5) E_k) (wE V)), intE (by unfold checkM; rw [if_neg (by omega), if_neg (by omega), if_neg (by omega), if_neg (by omega), if_neg (by simp [w0]), if_pos (by omega)])⟩
      ·skip
       have q5' := of_decide_eq_false q5
       refine qT ?_
       refine qF ?_
       refine qF ?_
       refine qC rfl ?_
       refine qA (qG rfl rfl rfl rfl 2 rfl) ?_
       refine qI 0 (v := .slice _ _ _) rfl rfl rfl rfl ?_
       refine qA (wV rfl rfl) ?_
       refine qA (qB (v := .int .i64 _) rfl) ?_
       refine qN ?_
       refine zN [2, 7, 8, 62, 63, 64, 65, 66, 67, 68, 69, 70, 71] 2 (α := Nat) (fun j => [(62, .int .i64 j)]) (fun j => _) (fun j h_j => j ≤ s.joints.length ∧ firstErr checkJointM (s.joints.take j) = 0) (fun j => s.joints.length - j) (0) ⟨rfl, trivial⟩ (rfl) (⟨Nat.zero_le _, rfl⟩) ?_
       rintro j T2 h_j E_j J_j
       refine qP [_, _] rfl ?_
       refine qF ?_
       refine qC rfl ?_
       refine qA (qK (v := .bool _) rfl) ?_
       refine qF ?_
       refine wA rfl (fun ht2 => ?_) (fun ht2 => ?_)
       ·skip
        have hlt : j < s.joints.length := ltI ht2
        obtain ⟨g, off, rfl, hc⟩ := (R.joints.ext (zP (zP (zP E4 E5) E_k) E_j)).at (by omega) hlt
        refine qT ?_
        refine qF ?_
        refine qN ?_
        refine qF ?_
        refine qC rfl ?_
        refine qA (qM rfl rfl rfl rfl (by omega) (by omega)) ?_
        refine op_loadA rfl rfl rfl rfl (hc) ?_
        refine wO (cs := [_, _, _, _, _, _, _, _, _]) rfl rfl fun b7 hb7 => ?_
        refine qH [_, _, _] rfl ?_
        refine qJ 2 (v := .agg #[.int .i64 _, .int .i64 _, .int .i64 _, .int .i64 _, .int .i64 _, .int .i64 _, .int .i64 _, .int .i64 _, .int .i64 _]) (vs := [_, _, _, _, _, _, _, _, _]) (c' := [_, _, _, _, _, _, _, _, _]) rfl rfl rfl rfl rfl rfl rfl rfl rfl ?_
        refine qH [_, _, _] rfl ?_
        refine qF ?_
        refine qC rfl ?_
        refine qX 2 (vs := [.int .i64 _, .int .i64 _, .int .i64 _, .int .i64 _, .int .i64 _, .int .i64 _, .int .i64 _, .int .i64 _, .int .i64 _]) rfl rfl rfl rfl rfl ?_
        refine wP (caps := []) (vs := [.agg #[.int .i64 _, .int .i64 _, .int .i64 _, .int .i64 _, .int .i64 _, .int .i64 _, .int .i64 _, .int .i64 _, .int .i64 _]]) rfl rfl rfl (checkJoint_ok s.joints[j] h_j) ?_
        rintro _ h7 E7 rfl
        refine qA (qE (v := .int .i64 _) rfl) ?_
        refine qF ?_
        refine qC rfl ?_
        refine qA (qB (v := .int .i64 _) rfl) ?_
        refine qA (qK (v := .bool _) rfl) ?_
        refine wA rfl (fun hz => ?_) (fun hz => ?_)
        ·skip
         refine qF ?_
         refine qC rfl ?_
         refine qA (qB (v := .int .i64 _) rfl) ?_
         refine qA (qE (v := .int .i64 _) rfl) ?_
         refine wK ?_
         refine qW (vs := [_]) Try.results43 ⟨qR rfl rfl, trivial⟩ fun V => ?_
         have e1 := firstErr_stop hlt J_j.2 (by simpa using hz)
         exact ⟨(zP (zP (zP (zP (zP E4 E5) E_k) E_j) E7) (wE V)), intE (by unfold checkM; rw [if_neg (by omega), if_neg (by omega), if_neg (by omega), if_neg (by omega), if_neg (by simp [w0]), if_neg (by omega), e1, if_pos (by simpa using hz)])⟩
        ·skip
         refine qT ?_
         refine qC rfl ?_
         refine qA (qO rfl (by omega)) ?_
         refine qA (qB (v := .int .i64 _) rfl) ?_
         refine ⟨j + 1, ⟨rfl, trivial⟩, rfl, rfl, (zP E_j E7), fun h3 E3 => ⟨hlt, firstErr_go hlt J_j.2 (by simpa using hz)⟩, by first | omega | (dsimp only; omega), ?_⟩
         repeat (first | exact qU _ _ _ | refine wB (by decide) ?_ | refine qS rfl ?_ | refine wN rfl ?_)
       ·skip
        have hj : j = s.joints.length := by have := geI ht2; omega
        have w1 : firstErr checkJointM s.joints = 0 := by have := J_j.2; rwa [hj, List.take_length] at this
        refine wU ?_
        refine qF ?_
        refine qF ?_
        refine qC rfl ?_
        refine qA (qG rfl rfl rfl rfl 3 rfl) ?_
        refine qI 0 (v := .slice _ _ _) rfl rfl rfl rfl ?_
        refine qA (wV rfl rfl) ?_
        refine qA (qK (v := .bool _) rfl) ?_
        refine wA rfl (fun q6 => ?_) (fun q6 => ?_)
        ·skip
         refine qF ?_
         refine qC rfl ?_
         refine qA (qE (v := .int .i64 _) rfl) ?_
         refine wK ?_
         refine qW (vs := [_]) Try.results43 ⟨qR rfl rfl, trivial⟩ fun V => ?_
         have q6' := of_decide_eq_true q6
         exact ⟨(zP (zP (zP (zP E4 E5) E_k) E_j) (wE V)), intE (by unfold checkM; rw [if_neg (by omega), if_neg (by omega), if_neg (by omega), if_neg (by omega), if_neg (by simp [w0]), if_neg (by omega), if_neg (by simp [w1]), if_pos (by omega)])⟩
        ·skip
         have q6' := of_decide_eq_false q6
         have cm : checkM s = firstErr (checkSeenM s) s.reports := by
          unfold checkM
          rw [if_neg (by omega), if_neg (by omega), if_neg (by omega), if_neg (by omega), if_neg (by simp [w0]), if_neg (by omega), if_neg (by simp [w1]), if_neg (by omega)]
         rw [cm]
         refine qT ?_
         refine qF ?_
         refine qF ?_
         refine qC rfl ?_
         refine qA (qG rfl rfl rfl rfl 3 rfl) ?_
         refine qI 0 (v := .slice _ _ _) rfl rfl rfl rfl ?_
         refine qA (wV rfl rfl) ?_
         refine qA (qB (v := .int .i64 _) rfl) ?_
         refine qN ?_
         refine zN [2, 10, 11, 79, 80, 81, 82, 83, 84, 85, 86, 87, 88, 89] 2 (α := Nat) (fun i => [(79, .int .i64 i)]) (fun i => _) (fun i h_i => i ≤ s.reports.length ∧ firstErr (checkSeenM s) (s.reports.take i) = 0) (fun i => s.reports.length - i) (0) ⟨rfl, trivial⟩ (rfl) (⟨Nat.zero_le _, rfl⟩) ?_
         rintro i T3 h_i E_i J_i
         refine qP [_, _] rfl ?_
         refine qF ?_
         refine qC rfl ?_
         refine qA (qK (v := .bool _) rfl) ?_
         refine qF ?_
         refine wA rfl (fun ht3 => ?_) (fun ht3 => ?_)
         ·skip
          have hlt : i < s.reports.length := ltI ht3
          obtain ⟨g, off, rfl, hc⟩ := (R.reports.ext (zP (zP (zP (zP E4 E5) E_k) E_j) E_i)).at (by omega) hlt
          refine qT ?_
          refine qF ?_
          refine qN ?_
          refine qF ?_
          refine qC rfl ?_
          refine qA (qM rfl rfl rfl rfl (by omega) (by omega)) ?_
          refine op_loadA rfl rfl rfl rfl (hc) ?_
          refine wO (cs := [_, _, _]) rfl rfl fun b10 hb10 => ?_
          refine qH [_, _, _] rfl ?_
          refine qJ 2 (v := .agg #[.int .i64 _, .int .i64 _, .bool _]) (vs := [_, _, _]) (c' := [_, _, _]) rfl rfl rfl rfl rfl rfl rfl rfl rfl ?_
          refine qH [_, _, _] rfl ?_
          refine qF ?_
          refine qC rfl ?_
          refine qX 0 (vs := [.slice _ _ _, .slice _ _ _, .slice _ _ _, .slice _ _ _]) rfl rfl rfl rfl rfl ?_
          refine qX 2 (vs := [.int .i64 _, .int .i64 _, .bool _]) rfl rfl rfl rfl rfl ?_
          refine wP (caps := []) (vs := [.agg #[.slice _ _ _, .slice _ _ _, .slice _ _ _, .slice _ _ _], .agg #[.int .i64 _, .int .i64 _, .bool _]]) rfl rfl rfl (checkSeen_ok s s.reports[i] A0 A1 A2 _ c0 c1 c2 c3 (by omega) (by omega) h_i) ?_
          rintro _ h8 E8 rfl
          refine qA (qE (v := .int .i64 _) rfl) ?_
          refine qF ?_
          refine qC rfl ?_
          refine qA (qB (v := .int .i64 _) rfl) ?_
          refine qA (qK (v := .bool _) rfl) ?_
          refine wA rfl (fun hz => ?_) (fun hz => ?_)
          ·skip
           refine qF ?_
           refine qC rfl ?_
           refine qA (qB (v := .int .i64 _) rfl) ?_
           refine qA (qE (v := .int .i64 _) rfl) ?_
           refine wK ?_
           refine qW (vs := [_]) Try.results43 ⟨qR rfl rfl, trivial⟩ fun V => ?_
           have e1 := firstErr_stop hlt J_i.2 (by simpa using hz)
           exact ⟨(zP (zP (zP (zP (zP (zP E4 E5) E_k) E_j) E_i) E8) (wE V)), intE e1.symm⟩
          ·skip
           refine qT ?_
           refine qC rfl ?_
           refine qA (qO rfl (by omega)) ?_
           refine qA (qB (v := .int .i64 _) rfl) ?_
           refine ⟨i + 1, ⟨rfl, trivial⟩, rfl, rfl, (zP E_i E8), fun h3 E3 => ⟨hlt, firstErr_go hlt J_i.2 (by simpa using hz)⟩, by first | omega | (dsimp only; omega), ?_⟩
           repeat (first | exact qU _ _ _ | refine wB (by decide) ?_ | refine qS rfl ?_ | refine wN rfl ?_)
         ·skip
          have hi : i = s.reports.length := by have := geI ht3; omega
          have w2 : firstErr (checkSeenM s) s.reports = 0 := by have := J_i.2; rwa [hi, List.take_length] at this
          refine wU ?_
          refine qF ?_
          refine qC rfl ?_
          refine qA (qE (v := .int .i64 _) rfl) ?_
          refine wK ?_
          refine qW (vs := [_]) Try.results43 ⟨qR rfl rfl, trivial⟩ fun V => ?_
          exact ⟨(zP (zP (zP (zP (zP E4 E5) E_k) E_j) E_i) (wE V)), intE w2.symm⟩
end Go.Proofs.Ytgjcepdhclmglaa
namespace Go.Wx
open Go Go.HL
variable [Lvl]
def withM (m k : Nat) : Nat := m ||| 2 ^ k
theorem withM_lt {m k : Nat} (hm : m < 2 ^ 62) (hk : k < 62) : withM m k < 2 ^ 62 := Nat.or_lt_two_pow hm (Nat.pow_lt_pow_right (by omega) hk)
def listN (m k : Nat) : List Int := ((List.range k).filter (fun i => m.testBit i)).map fun i : Nat => (i : Int)
theorem listN_succ (m k : Nat) : listN m (k + 1) = if m.testBit k then listN m k ++ [(k : Int)] else listN m k := by
 unfold listN
 rw [List.range_succ, List.filter_append, List.map_append]
 by_cases h : m.testBit k = true
 ·simp [h]
 ·simp [h]
theorem listN_len (m k : Nat) : (listN m k).length ≤ k := by
 unfold listN
 rw [List.length_map]
 exact Nat.le_trans (List.length_filter_le _ _) (by simp)
theorem listN_mem {m k : Nat} {z : Int} (h : z ∈ listN m k) : ∃ i : Nat, z = i ∧ i < k ∧ m.testBit i = true := by
 unfold listN at h
 simp only [List.mem_map, List.mem_filter, List.mem_range] at h
 obtain ⟨w, ⟨h1, h3⟩, h2⟩ := h
 exact ⟨w, h2.symm, h1, h3⟩
theorem listN_nonneg {m k : Nat} {z : Int} (h : z ∈ listN m k) : 0 ≤ z := by
 obtain ⟨i, rfl, _⟩ := listN_mem h
 omega
abbrev listM (m : Nat) : List Int := listN m 7
theorem testBit_div (m k : Nat) : (m / 2 ^ k) &&& 1 = if m.testBit k then 1 else 0 := by
 rw [Nat.and_one_is_mod, Nat.testBit_eq_decide_div_mod_eq]
 by_cases h : m / 2 ^ k % 2 = 1
 ·simp [h]
 ·have : m / 2 ^ k % 2 = 0 := by omega
  simp [this]
end Go.Wx
namespace Go.Proofs.Ytgjcepdhclmglaa
open Go Go.HL Go.Proofs Go.Wx
variable [Lvl]
set_option maxRecDepth 100000
theorem with_ok (m : Nat) (k' : Int) (k : Nat) (ek : k' = k) (hm : m < 2 ^ 62) (hk : k < 62) (h : AH) : FnT Try.prog 57 #[.int .u64 m, .int .i64 k'] h (fun v _ => v = .int .u64 (withM m k : Nat)) := by
 have h2 : 2 ^ k < 2 ^ 62 := Nat.pow_lt_pow_right (by omega) hk
 refine wL Try.func57 rfl Try.ntmps57 rfl ?_
 refine qF ?_
 refine qC rfl ?_
 refine qA (qE (v := .int .u64 _) rfl) ?_
 refine qF ?_
 refine qC rfl ?_
 refine qA (qB (v := .int .u64 _) rfl) ?_
 refine qA (qB (v := .int .i64 _) rfl) ?_
 refine qA (pv_shl 1 k (.inr rfl) rfl rfl rfl ek (by omega) (by omega)) ?_
 refine qA (pv_val (u64_or m (1 * 2 ^ k) (by omega) (by omega)) rfl) ?_
 refine qA (qE (v := .int .u64 _) rfl) ?_
 refine wK ?_
 refine qW (vs := [_]) Try.results57 ⟨qR rfl rfl, trivial⟩ fun V => ?_
 refine ⟨(wE V), ?_⟩
 show Value.int _ _ = _
 rw [withM, Nat.one_mul]
theorem has_ok (m : Nat) (k' : Int) (k : Nat) (ek : k' = k) (hm : m < 2 ^ 62) (hk : k < 62) (h : AH) : FnT Try.prog 46 #[.int .u64 m, .int .i64 k'] h (fun v _ => v = .bool (m.testBit k)) := by
 have h3 : m / 2 ^ k < 2 ^ 62 := Nat.lt_of_le_of_lt (Nat.div_le_self _ _) hm
 refine wL Try.func46 rfl Try.ntmps46 rfl ?_
 refine qF ?_
 refine qC rfl ?_
 refine qA (qE (v := .bool _) rfl) ?_
 refine qF ?_
 refine qC rfl ?_
 refine qA (qB (v := .int .u64 _) rfl) ?_
 refine qA (qB (v := .int .i64 _) rfl) ?_
 refine qA (pv_shr m k (.inr rfl) rfl rfl rfl ek (by omega)) ?_
 refine qA (pv_val (u64_and (m / 2 ^ k) 1 (by omega) (by omega)) rfl) ?_
 refine qA (qK (v := .bool _) rfl) ?_
 refine qA (qE (v := .bool _) rfl) ?_
 refine wK ?_
 refine qW (vs := [_]) Try.results46 ⟨qR rfl rfl, trivial⟩ fun V => ?_
 refine ⟨(wE V), boolE ?_⟩
 rw [testBit_div]
 cases m.testBit k <;> simp
theorem list_ok (m : Nat) (hm : m < 2 ^ 62) (h : AH) : FnT Try.prog 32 #[.int .u64 m] h (fun v h' => SlR h' 1 intC (listM m) v) := by
 refine wL Try.func32 rfl Try.ntmps32 rfl ?_
 refine qF ?_
 refine qC rfl ?_
 refine qA (qE (v := .slice _ _ _) rfl) ?_
 refine qF ?_
 refine qC rfl ?_
 refine qA (qE (v := .slice _ _ _) rfl) ?_
 refine qF ?_
 refine qF ?_
 refine qC rfl ?_
 refine qA (qB (v := .int .i64 _) rfl) ?_
 refine qN ?_
 refine goes_more ?_
 refine qP [_] rfl ?_
 refine zN [3, 4, 5, 6, 7, 8, 9, 10, 11, 12, 13, 14, 15] 1 (α := Nat × Acc) (fun ⟨k, a⟩ => [(5, .int .i64 k), (3, .slice a.A a.n a.c)]) (fun ⟨k, a⟩ => [a.p]) (fun ⟨k, a⟩ h_k => k ≤ 7 ∧ AccR 3 1 ((listN m k).flatMap intC) a) (fun ⟨k, a⟩ => 7 - k) ((0, acc0)) ⟨rfl, rfl, trivial⟩ (rfl) (⟨by omega, accR0⟩) ?_
 rintro ⟨k, a⟩ T1 h_k E_k J_k
 refine qP [_] rfl ?_
 refine qF ?_
 refine qC rfl ?_
 refine qA (qK (v := .bool _) rfl) ?_
 refine qF ?_
 refine wA rfl (fun ht => ?_) (fun ht => ?_)
 ·skip
  have hlt : k < 7 := ltI (n := 7) ht
  refine qT ?_
  refine qF ?_
  refine qN ?_
  refine qF ?_
  refine qC rfl ?_
  refine qA (qB (v := .int .i64 _) rfl) ?_
  refine qA (qE (v := .int .i64 _) rfl) ?_
  refine qF ?_
  refine qC rfl ?_
  refine qA (qB (v := .int .u64 _) rfl) ?_
  refine qA (qB (v := .int .i64 _) rfl) ?_
  refine wP (caps := []) (vs := [.int .u64 _, .int .i64 _]) rfl rfl rfl (has_ok m _ k rfl hm (by omega) h_k) ?_
  rintro _ h1 E1 rfl
  refine wA rfl (fun hb => ?_) (fun hb => ?_)
  ·skip
   refine qC rfl ?_
   refine qA (qB (v := .slice _ _ _) rfl) ?_
   refine qA (qB (v := .int .i64 _) rfl) ?_
   refine wG (zc := [_]) (vs := [(0, .int .i64 _)]) (cs := [_]) rfl rfl rfl rfl rfl rfl rfl fun b13 hb13 => ?_
   refine qH [_, _] rfl ?_
   refine zK 0 J_k.2 rfl rfl rfl (fun V => rdP V (i := 1) rfl) rfl rfl rfl rfl rfl rfl rfl rfl rfl (by omega) rfl (by rw [wS (m := 1) (fun _ _ => rfl)]; have := listN_len m k; simp; omega) fun a2 h2a E2a ha2 => ?_
   refine qH [_, _] rfl ?_
   refine qA (qE (v := .slice _ _ _) rfl) ?_
   refine qC rfl ?_
   refine qA (qO rfl (by omega)) ?_
   refine qA (qB (v := .int .i64 _) rfl) ?_
   refine ⟨(k + 1, a2), ⟨rfl, rfl, trivial⟩, rfl, rfl, (zP (zP E_k E1) E2a), fun h3 E3 => ⟨hlt, by rw [listN_succ, if_pos hb, List.flatMap_append]; exact ha2⟩, by first | omega | (dsimp only; omega), ?_⟩
   repeat (first | exact qU _ _ _ | refine wB (by decide) ?_ | refine qS rfl ?_ | refine wN rfl ?_)
  ·skip
   refine qT ?_
   refine qC rfl ?_
   refine qA (qO rfl (by omega)) ?_
   refine qA (qB (v := .int .i64 _) rfl) ?_
   refine ⟨(k + 1, a), ⟨rfl, rfl, trivial⟩, rfl, rfl, (zP E_k E1), fun h3 E3 => ⟨hlt, by rw [listN_succ, if_neg (by simp [hb])]; exact J_k.2⟩, by first | omega | (dsimp only; omega), ?_⟩
   repeat (first | exact qU _ _ _ | refine wB (by decide) ?_ | refine qS rfl ?_ | refine wN rfl ?_)
 ·skip
  have hk : k = 7 := by have := geI (n := 7) ht; omega
  subst hk
  refine wU ?_
  refine qF ?_
  refine qC rfl ?_
  refine qA (qB (v := .slice _ _ _) rfl) ?_
  refine qA (qE (v := .slice _ _ _) rfl) ?_
  refine wK ?_
  refine qW (vs := [_]) Try.results32 ⟨qR rfl rfl, trivial⟩ fun V => ?_
  exact ⟨(zP E_k (wE V)), AccP.row (i := 0) J_k.2 (by omega) (fun _ _ => rfl) V rfl⟩
end Go.Proofs.Ytgjcepdhclmglaa
namespace Go.Wx
open Go Go.HL
variable [Lvl]
structure Sky where
 x0 : Int
 x1 : Int
 x2 : Int
 x3 : Int
 x4 : Int
 x5 : Int
 deriving DecidableEq, Repr, Inhabited
def Sky.at (x : Sky) : Nat → Int
 | 0 => x.x0
 | 1 => x.x1
 | 2 => x.x2
 | 3 => x.x3
 | 4 => x.x4
 | 5 => x.x5
 | _ => 0
def Sky.set (x : Sky) (k : Nat) (v : Int) : Sky :=
 match k with
 | 0 => { x with x0 := v }
 | 1 => { x with x1 := v }
 | 2 => { x with x2 := v }
 | 3 => { x with x3 := v }
 | 4 => { x with x4 := v }
 | 5 => { x with x5 := v }
 | _ => x
def sky0 : Sky := ⟨0, 0, 0, 0, 0, 0⟩
def skyC (x : Sky) : List Value := [.int .i64 x.x0, .int .i64 x.x1, .int .i64 x.x2, .int .i64 x.x3, .int .i64 x.x4, .int .i64 x.x5]
theorem skyC_at (x : Sky) : ∀ k, k < 6 → (skyC x)[k]? = some (.int .i64 (x.at k))
 | 0, _ => rfl
 | 1, _ => rfl
 | 2, _ => rfl
 | 3, _ => rfl
 | 4, _ => rfl
 | 5, _ => rfl
 | k + 6, h => by omega
theorem skyC_set (x : Sky) (v : Int) : ∀ k, k < 6 → (skyC x).set k (.int .i64 v) = skyC (x.set k v)
 | 0, _ => rfl
 | 1, _ => rfl
 | 2, _ => rfl
 | 3, _ => rfl
 | 4, _ => rfl
 | 5, _ => rfl
 | k + 6, h => by omega
theorem skyArr (x : Sky) (k : Nat) (hk : k < 6) : (skyC x).toArray[0 + (k : Int).toNat * 1]? = some (.int .i64 (x.at k)) := by
 rw [List.getElem?_toArray, show 0 + (k : Int).toNat * 1 = k from by omega]
 exact skyC_at x k hk
def rangeI (lo hi : Int) : List Int := (List.range (hi - lo).toNat).map fun i : Nat => lo + i
theorem rangeI_nil {lo hi : Int} (h : hi ≤ lo) : rangeI lo hi = [] := by
 unfold rangeI
 rw [show (hi - lo).toNat = 0 from by omega]
 rfl
theorem rangeI_succ {lo hi : Int} (h : lo ≤ hi) : rangeI lo (hi + 1) = rangeI lo hi ++ [hi] := by
 unfold rangeI
 rw [show (hi + 1 - lo).toNat = (hi - lo).toNat + 1 from by omega, List.range_succ, List.map_append]
 simp
 omega
theorem rangeI_split {lo hi n : Int} (h1 : lo ≤ n) (h2 : n < hi) : rangeI lo hi = rangeI lo n ++ n :: rangeI (n + 1) hi := by
 unfold rangeI
 have e : (hi - lo).toNat = (n - lo).toNat + ((hi - (n + 1)).toNat + 1) := by omega
 rw [e, List.range_add, List.map_append, List.range_succ_eq_map]
 simp only [List.map_cons, List.map_map]
 congr 1
 congr 1
 ·simp; omega
 ·apply List.map_congr_left
  intro a _
  simp
  omega
theorem mem_rangeI {lo hi x : Int} : x ∈ rangeI lo hi ↔ lo ≤ x ∧ x < hi := by
 unfold rangeI
 simp only [List.mem_map, List.mem_range]
 constructor
 ·rintro ⟨i, hi, rfl⟩; omega
 ·rintro ⟨h1, h2⟩; exact ⟨(x - lo).toNat, by omega, by omega⟩
abbrev Rg.all (r : Rg) : List Int := rangeI r.mn (r.mx + 1)
structure Fl where
 week : Nat
 causes : Nat
 deriving DecidableEq, Repr, Inhabited
def flC (f : Fl) : List Value := [.int .i64 f.week, .int .i64 f.causes]
def flV (f : Fl) : Value := .agg #[.int .i64 f.week, .int .i64 f.causes]
def hotM (x : Sky) (h : Int) : Nat → Nat
 | 0 => 0
 | k + 1 => if h ≤ x.at k then withM (hotM x h k) k else hotM x h k
theorem hotM_lt (x : Sky) (h : Int) : ∀ k, k ≤ 60 → hotM x h k < 2 ^ 62
 | 0, _ => by simp [hotM]
 | k + 1, hk => by
  unfold hotM
  split
  ·exact withM_lt (hotM_lt x h k (by omega)) (by omega)
  ·exact hotM_lt x h k (by omega)
theorem hotM_bit (x : Sky) (h : Int) (w : Nat) : ∀ k, (hotM x h k).testBit w = (decide (w < k) && decide (h ≤ x.at w))
 | 0 => by simp [hotM]
 | k + 1 => by
  unfold hotM
  have ih := hotM_bit x h w k
  split
  ·rename_i hk
   rw [withM, Nat.testBit_or, ih, Nat.testBit_two_pow]
   by_cases hw : w = k
   ·subst hw; simp [hk]
   ·have : k ≠ w := fun e => hw e.symm
    simp [this]
    by_cases h1 : w < k
    ·simp [h1, show w < k + 1 from by omega]
    ·simp [h1, show ¬ w < k + 1 from by omega]
  ·rename_i hk
   rw [ih]
   by_cases hw : w = k
   ·subst hw; simp [hk]
   ·by_cases h1 : w < k
    ·simp [h1, show w < k + 1 from by omega]
    ·simp [h1, show ¬ w < k + 1 from by omega]
def coldM (x : Sky) (c : Int) (k : Nat) : List Int := ((List.range k).filter (fun w => decide (x.at w ≤ c))).map fun w : Nat => (w : Int)
theorem coldM_succ (x : Sky) (c : Int) (k : Nat) : coldM x c (k + 1) = if x.at k ≤ c then coldM x c k ++ [(k : Int)] else coldM x c k := by
 unfold coldM
 rw [List.range_succ, List.filter_append, List.map_append]
 by_cases h : x.at k ≤ c
 ·simp [h]
 ·simp [h]
theorem coldM_len (x : Sky) (c : Int) (k : Nat) : (coldM x c k).length ≤ k := by
 unfold coldM
 rw [List.length_map]
 exact Nat.le_trans (List.length_filter_le _ _) (by simp)
theorem coldM_mem {x : Sky} {c : Int} {k : Nat} {z : Int} (h : z ∈ coldM x c k) : ∃ w : Nat, z = w ∧ w < k ∧ x.at w ≤ c := by
 unfold coldM at h
 simp only [List.mem_map, List.mem_filter, List.mem_range] at h
 obtain ⟨w, ⟨h1, h3⟩, h2⟩ := h
 exact ⟨w, h2.symm, h1, by simpa using h3⟩
theorem coldM_nonneg {x : Sky} {c : Int} {k : Nat} {z : Int} (h : z ∈ coldM x c k) : 0 ≤ z := by
 obtain ⟨w, rfl, _⟩ := coldM_mem h
 omega
def when0 (x : Sky) (n : Nat) (h : Int) : Nat := match listM (hotM x h n) with | [] => n | w :: _ => w.toNat
def when1 (x : Sky) (n : Nat) (c : Int) (many : Nat) : Nat := if many ≤ (coldM x c n).length then ((coldM x c n).getD (many - 1) 0).toNat else n
def weekM (x : Sky) (n : Nat) (h c : Int) (many life : Nat) : Nat := min (min (min n (when0 x n h)) (when1 x n c many)) life
def bitIf (b : Bool) (k : Nat) (m : Nat) : Nat := if b then m ||| 2 ^ k else m
def sel3 {α : Type} (a b c : α) : Nat → α
 | 0 => a
 | 1 => b
 | _ => c
def causesP (n week a b c : Nat) : Nat → Nat
 | 0 => 0
 | k + 1 => bitIf (decide (sel3 a b c k = week) && decide (sel3 a b c k < n)) k (causesP n week a b c k)
theorem causesP_lt (n week a b c : Nat) : ∀ k, k ≤ 3 → causesP n week a b c k < 2 ^ k
 | 0, _ => by simp [causesP]
 | k + 1, hk => by
  have ih := causesP_lt n week a b c k (by omega)
  have h2 : 2 ^ k < 2 ^ (k + 1) := Nat.pow_lt_pow_right (by omega) (by omega)
  unfold causesP bitIf
  split
  ·exact Nat.or_lt_two_pow (by omega) h2
  ·omega
def causesM (n week a b c : Nat) : Nat := causesP n week a b c 3
theorem arr3 (a b c : Int) : ∀ k : Nat, k < 3 → [Value.int .i64 a, .int .i64 b, .int .i64 c][(k : Int).toNat]? = some (.int .i64 (sel3 a b c k))
 | 0, _ => rfl
 | 1, _ => rfl
 | 2, _ => rfl
 | k + 3, h => by omega
theorem sel3_cast (a b c : Nat) : ∀ k, sel3 (a : Int) b c k = (sel3 a b c k : Nat)
 | 0 => rfl
 | 1 => rfl
 | _ + 2 => rfl
def failM (x : Sky) (n : Nat) (h c : Int) (many life : Nat) : Fl := ⟨weekM x n h c many life, causesM n (weekM x n h c many life) (when0 x n h) (when1 x n c many) life⟩
def fails4 (x : Sky) (n : Nat) (h c : Int) (many : Int) (lo hi : Int) : List Fl := (rangeI lo hi).map fun life => failM x n h c many.toNat life.toNat
def fails3 (j : Joint) (x : Sky) (n : Nat) (h c : Int) (lo hi : Int) : List Fl := (rangeI lo hi).flatMap fun many => fails4 x n h c many j.life.mn (j.life.mx + 1)
def fails2 (j : Joint) (x : Sky) (n : Nat) (h : Int) (lo hi : Int) : List Fl := (rangeI lo hi).flatMap fun c => fails3 j x n h c j.weeks.mn (j.weeks.mx + 1)
def fails1 (j : Joint) (x : Sky) (n : Nat) (lo hi : Int) : List Fl := (rangeI lo hi).flatMap fun h => fails2 j x n h j.low.mn (j.low.mx + 1)
def failuresM (j : Joint) (x : Sky) (n : Nat) : List Fl := fails1 j x n j.high.mn (j.high.mx + 1)
theorem fails4_succ {x : Sky} {n : Nat} {h c many lo hi : Int} (hl : lo ≤ hi) : fails4 x n h c many lo (hi + 1) = fails4 x n h c many lo hi ++ [failM x n h c many.toNat hi.toNat] := by
 unfold fails4; rw [rangeI_succ hl, List.map_append]; rfl
theorem fails3_succ {j : Joint} {x : Sky} {n : Nat} {h c lo hi : Int} (hl : lo ≤ hi) : fails3 j x n h c lo (hi + 1) = fails3 j x n h c lo hi ++ fails4 x n h c hi j.life.mn (j.life.mx + 1) := by
 unfold fails3; rw [rangeI_succ hl, List.flatMap_append]; simp
theorem fails2_succ {j : Joint} {x : Sky} {n : Nat} {h lo hi : Int} (hl : lo ≤ hi) : fails2 j x n h lo (hi + 1) = fails2 j x n h lo hi ++ fails3 j x n h hi j.weeks.mn (j.weeks.mx + 1) := by
 unfold fails2; rw [rangeI_succ hl, List.flatMap_append]; simp
theorem fails1_succ {j : Joint} {x : Sky} {n : Nat} {lo hi : Int} (hl : lo ≤ hi) : fails1 j x n lo (hi + 1) = fails1 j x n lo hi ++ fails2 j x n hi j.low.mn (j.low.mx + 1) := by
 unfold fails1; rw [rangeI_succ hl, List.flatMap_append]; simp
def insAll {α : Type} [DecidableEq α] (l : List α) : List (α × Value) := l.foldl (fun acc a => putL a (.bool true) acc) []
theorem insAll_snoc {α : Type} [DecidableEq α] (l : List α) (a : α) : insAll (l ++ [a]) = putL a (.bool true) (insAll l) := by
 unfold insAll; rw [List.foldl_append]; rfl
theorem putL_keys {α : Type} [DecidableEq α] (a : α) (v : Value) : ∀ (l : List (α × Value)) (b : α), b ∈ (putL a v l).map (·.1) ↔ b = a ∨ b ∈ l.map (·.1)
 | [], b => by simp [putL]
 | (c, u) :: l, b => by
  unfold putL
  split
  ·rename_i h
   subst h
   simp
  ·simp only [List.map_cons, List.mem_cons, putL_keys a v l b]
   constructor
   ·rintro (h | h | h) <;> simp [h]
   ·rintro (h | h | h) <;> simp [h]
theorem insAll_keys {α : Type} [DecidableEq α] (l : List α) (b : α) : b ∈ (insAll l).map (·.1) ↔ b ∈ l := by
 have : ∀ (l : List α) (acc : List (α × Value)), b ∈ (l.foldl (fun acc a => putL a (.bool true) acc) acc).map (·.1) ↔ b ∈ l ∨ b ∈ acc.map (·.1) := by
  intro l
  induction l with
  | nil => intro acc; simp
  | cons a l ih =>
   intro acc
   rw [List.foldl_cons, ih, putL_keys, List.mem_cons]
   constructor
   ·rintro (h | h | h) <;> simp [h]
   ·rintro ((h | h) | h) <;> simp [h]
 unfold insAll
 rw [this]
 simp
end Go.Wx
namespace Go.Wx
open Go Go.HL
variable [Lvl]
def skiesM : List Rg → Nat → Sky → List Sky
 | [], _, x => [x]
 | r :: l, k, x => r.all.flatMap fun n => skiesM l (k + 1) (x.set k n)
def skiesP (r : Rg) (l : List Rg) (k : Nat) (x : Sky) (n : Int) : List Sky := (rangeI r.mn n).flatMap fun n => skiesM l (k + 1) (x.set k n)
theorem skiesP_succ {r : Rg} {l : List Rg} {k : Nat} {x : Sky} {n : Int} (hn : r.mn ≤ n) : skiesP r l k x (n + 1) = skiesP r l k x n ++ skiesM l (k + 1) (x.set k n) := by
 unfold skiesP
 rw [rangeI_succ hn, List.flatMap_append]
 simp
theorem Sky.set_set (x : Sky) (a b : Int) : ∀ k : Nat, (x.set k a).set k b = x.set k b
 | 0 => rfl
 | 1 => rfl
 | 2 => rfl
 | 3 => rfl
 | 4 => rfl
 | 5 => rfl
 | _ + 6 => rfl
theorem skiesP_at {r : Rg} {l : List Rg} {k : Nat} {x : Sky} {n : Int} (h1 : r.mn ≤ n) (h2 : n ≤ r.mx) {j : Nat} {s : Sky} (h : (skiesM l (k + 1) (x.set k n))[j]? = some s) : (skiesM (r :: l) k x)[(skiesP r l k x n).length + j]? = some s := by
 have e : skiesM (r :: l) k x = skiesP r l k x n ++ (skiesM l (k + 1) (x.set k n) ++ (rangeI (n + 1) (r.mx + 1)).flatMap fun m => skiesM l (k + 1) (x.set k m)) := by
  show (rangeI r.mn (r.mx + 1)).flatMap _ = _
  rw [rangeI_split h1 (by omega), List.flatMap_append, List.flatMap_cons]
  rfl
 rw [e, List.getElem?_append_right (by omega), Nat.add_sub_cancel_left, List.getElem?_append_left (List.getElem?_eq_some_iff.1 h).1]
 exact h
abbrev skyV (x : Sky) : Value := .agg (skyC x).toArray
theorem sky_wr (x : Sky) (k : Nat) (v : Int) (hk : k < 6) : wrL (skyC x) (0 + (k : Int).toNat * 1) [.int .i64 v] = skyC (x.set k v) := by
 rw [show 0 + (k : Int).toNat * 1 = k from by omega]
 exact skyC_set x v k hk
end Go.Wx
namespace Go.Wx
open Go Go.HL
variable [Lvl]
def fset {α : Type} (f : Nat → α) (i : Nat) (v : α) : Nat → α := fun k => if k = i then v else f k
theorem fset_self {α : Type} (f : Nat → α) (i : Nat) : fset f i (f i) = f := by
 funext k
 unfold fset
 split
 ·rename_i h; rw [h]
 ·rfl
theorem fset_at {α : Type} (f : Nat → α) (i : Nat) (v : α) : fset f i v i = v := by simp [fset]
theorem fset_ne {α : Type} (f : Nat → α) {i k : Nat} (h : k ≠ i) (v : α) : fset f i v k = f k := by simp [fset, h]
def l3 {α : Type} (f : Nat → α) : List α := [f 0, f 1, f 2]
structure RangeB (r : Rg) : Prop where
 lo : -1000 ≤ r.mn
 le : r.mn ≤ r.mx
 hi : r.mx ≤ 1000
 wide : r.mx ≤ r.mn + 2
structure JointB (j : Joint) : Prop where
 h1 : -1000 ≤ j.high.mn
 h2 : j.high.mn ≤ j.high.mx
 h3 : j.high.mx ≤ 1000
 l1 : -1000 ≤ j.low.mn
 l2 : j.low.mn ≤ j.low.mx
 l3 : j.low.mx ≤ 1000
 w1 : 1 ≤ j.weeks.mn
 w2 : j.weeks.mn ≤ j.weeks.mx
 w3 : j.weeks.mx ≤ 6
 a1 : 0 ≤ j.life.mn
 a2 : j.life.mn ≤ j.life.mx
 a3 : j.life.mx ≤ 9
 hw : j.high.mx ≤ j.high.mn + 2
 lw : j.low.mx ≤ j.low.mn + 2
structure SeasonB (s : Season) : Prop where
 w1 : 1 ≤ s.heats.length
 w6 : s.heats.length ≤ 6
 dl : s.damps.length = s.heats.length
 hb : ∀ r ∈ s.heats, RangeB r
 db : ∀ r ∈ s.damps, RangeB r
 j3 : s.joints.length ≤ 3
 jb : ∀ j ∈ s.joints, JointB j
 rl : s.reports.length ≤ 1000
 rw : ∀ r ∈ s.reports, 0 ≤ r.week ∧ r.week ≤ 60
def weatherM (s : Season) (n : Int) : List Rg := if n = 1 then s.heats else s.damps
theorem SeasonB.wb {s : Season} (B : SeasonB s) (n : Int) : (weatherM s n).length = s.heats.length ∧ ∀ r ∈ weatherM s n, RangeB r := by
 unfold weatherM
 split
 ·exact ⟨rfl, B.hb⟩
 ·exact ⟨B.dl, B.db⟩
def toldW (s : Season) (i : Nat) : Nat := toldM s i s.reports.length
theorem toldW_lt (s : Season) (h6 : s.heats.length ≤ 6) (i : Nat) : toldW s i < 2 ^ 62 := by
 have key : ∀ (l : List Seen) (m : Nat), l.foldl (toldStep i) m ≤ m := by
  intro l
  induction l with
  | nil => intro m; exact Nat.le_refl _
  | cons r l ih =>
   intro m
   refine Nat.le_trans (ih _) ?_
   unfold toldStep
   split
   ·exact Nat.le_refl _
   ·split
    ·exact Nat.and_le_left
    ·exact Nat.and_le_left
 have h1 := key (s.reports.take s.reports.length) (2 ^ (s.heats.length + 1) - 1)
 have h2 : 2 ^ (s.heats.length + 1) ≤ 2 ^ 7 := Nat.pow_le_pow_right (by omega) (by omega)
 unfold toldW toldM
 omega
def surv (s : Season) (n : Int) (x : Sky) (i : Nat) : List Fl :=
 match s.joints[i]? with
 | some j => if j.kind = n then (failuresM j x s.heats.length).filter (fun y => (toldW s i).testBit y.week) else []
 | none => []
def maskM : List Fl → Nat
 | [] => 0
 | y :: l => withM (maskM l) y.week
theorem maskM_bit (w : Nat) : ∀ l : List Fl, (maskM l).testBit w = true ↔ ∃ y ∈ l, y.week = w
 | [] => by simp [maskM]
 | y :: l => by
  rw [maskM, withM, Nat.testBit_or, Nat.testBit_two_pow, Bool.or_eq_true, maskM_bit w l]
  simp only [decide_eq_true_eq, List.mem_cons]
  constructor
  ·rintro (⟨z, hz, e⟩ | e)
   ·exact ⟨z, .inr hz, e⟩
   ·exact ⟨y, .inl rfl, e⟩
  ·rintro ⟨z, rfl | hz, e⟩
   ·exact .inr e
   ·exact .inl ⟨z, hz, e⟩
theorem mask_unique {m : Nat} {l : List Fl} (h : ∀ w, m.testBit w = true ↔ ∃ y ∈ l, y.week = w) : m = maskM l := by
 apply Nat.eq_of_testBit_eq
 intro w
 rw [Bool.eq_iff_iff, h w, maskM_bit w l]
theorem maskM_zero (l : List Fl) : maskM l = 0 ↔ l = [] := by
 cases l with
 | nil => simp [maskM]
 | cons y l =>
  simp only [reduceCtorEq, iff_false]
  intro e
  have := (maskM_bit y.week (y :: l)).2 ⟨y, List.mem_cons_self .., rfl⟩
  rw [e] at this
  simp at this
def fateM (s : Season) (n : Int) (x : Sky) (i : Nat) : Nat := maskM (surv s n x i)
def kindAt (s : Season) (i : Nat) : Int := (s.joints[i]?.map (·.kind)).getD 0
def okM (s : Season) (n : Int) (x : Sky) : Bool := (List.range s.joints.length).all fun i => !decide (kindAt s i = n) || decide (fateM s n x i ≠ 0)
structure Fate where
 a : Nat
 b : Nat
 c : Nat
 deriving DecidableEq, Repr, Inhabited
def Fate.at (f : Fate) : Nat → Nat
 | 0 => f.a
 | 1 => f.b
 | _ => f.c
def fateV (f : Fate) : Value := .agg #[.int .u64 f.a, .int .u64 f.b, .int .u64 f.c]
def fateOf (s : Season) (n : Int) (x : Sky) : Fate := ⟨fateM s n x 0, fateM s n x 1, fateM s n x 2⟩
def allSkies (s : Season) (n : Int) : List Sky := skiesM (weatherM s n) 0 sky0
def okK (s : Season) (n : Int) (k : Nat) : List Sky := ((allSkies s n).take k).filter (okM s n)
def pushSky (l : List Sky) (x : Sky) : List Sky := if l.getLast? = some x then l else l ++ [x]
def skK (s : Season) (n : Int) (k : Nat) : List Sky := (okK s n k).foldl pushSky []
def fatesK (s : Season) (n : Int) (k : Nat) : List Fate := (okK s n k).map (fateOf s n)
def flsK (s : Season) (n : Int) (i k : Nat) : List Fl := (okK s n k).flatMap fun x => surv s n x i
theorem okK_succ {s : Season} {n : Int} {k : Nat} {x : Sky} (h : (allSkies s n)[k]? = some x) : okK s n (k + 1) = if okM s n x then okK s n k ++ [x] else okK s n k := by
 obtain ⟨hk, hx⟩ := List.getElem?_eq_some_iff.1 h
 unfold okK
 rw [List.take_succ_eq_append_getElem hk, List.filter_append, hx]
 by_cases ho : okM s n x = true
 ·simp [ho]
 ·simp [ho]
theorem skK_succ {s : Season} {n : Int} {k : Nat} {x : Sky} (h : okK s n (k + 1) = okK s n k ++ [x]) : skK s n (k + 1) = pushSky (skK s n k) x := by
 show (okK s n (k + 1)).foldl pushSky [] = pushSky ((okK s n k).foldl pushSky []) x
 rw [h, List.foldl_append]
 rfl
theorem skies_len {l : List Rg} (hb : ∀ r ∈ l, RangeB r) : ∀ (k : Nat) (x : Sky), (skiesM l k x).length ≤ 3 ^ l.length := by
 induction l with
 | nil => intro k x; simp [skiesM]
 | cons r l ih =>
  intro k x
  have hr := hb r (List.mem_cons_self ..)
  have ih' := ih fun z hz => hb z (List.mem_cons_of_mem _ hz)
  have key : ∀ L : List Int, (L.flatMap fun n => skiesM l (k + 1) (x.set k n)).length ≤ L.length * 3 ^ l.length := by
   intro L
   induction L with
   | nil => simp
   | cons a L ihL =>
    rw [List.flatMap_cons, List.length_append, List.length_cons, Nat.succ_mul]
    have := ih' (k + 1) (x.set k a)
    omega
  have h1 := key r.all
  have h2 : r.all.length ≤ 3 := by
   have := hr.wide
   unfold Rg.all rangeI
   rw [List.length_map, List.length_range]
   omega
  rw [List.length_cons, Nat.pow_succ]
  have h3 : r.all.length * 3 ^ l.length ≤ 3 * 3 ^ l.length := Nat.mul_le_mul_right _ h2
  show (r.all.flatMap fun n => skiesM l (k + 1) (x.set k n)).length ≤ _
  omega
theorem allSkies_len {s : Season} (B : SeasonB s) (n : Int) : (allSkies s n).length ≤ 729 := by
 obtain ⟨h1, h2⟩ := B.wb n
 have h3 := skies_len h2 0 sky0
 have h4 : 3 ^ (weatherM s n).length ≤ 3 ^ 6 := Nat.pow_le_pow_right (by omega) (by rw [h1]; exact B.w6)
 unfold allSkies
 omega
theorem skK_len {s : Season} (B : SeasonB s) (n : Int) (k : Nat) : (skK s n k).length ≤ 729 := by
 have key : ∀ (l acc : List Sky), (l.foldl pushSky acc).length ≤ acc.length + l.length := by
  intro l
  induction l with
  | nil => intro acc; simp
  | cons x l ih =>
   intro acc
   have := ih (pushSky acc x)
   have h2 : (pushSky acc x).length ≤ acc.length + 1 := by unfold pushSky; split <;> simp
   rw [List.foldl_cons, List.length_cons]
   omega
 have h1 := key (okK s n k) []
 have h2 : (okK s n k).length ≤ (allSkies s n).length := by
  unfold okK
  refine Nat.le_trans (List.length_filter_le _ _) ?_
  rw [List.length_take]
  omega
 have := allSkies_len B n
 unfold skK
 simp at h1
 omega
theorem nodup_len : ∀ (n : Nat) (l : List Nat), l.Nodup → (∀ x ∈ l, x < n) → l.length ≤ n
 | 0, l, _, h => by
  cases l with
  | nil => simp
  | cons a l => exact absurd (h a (List.mem_cons_self ..)) (by omega)
 | n + 1, l, nd, h => by
  have h1 := nodup_len n (l.erase n) (nd.erase n) fun x hx => by
   have h2 := h x (List.mem_of_mem_erase hx)
   have h3 : x ≠ n := fun e => by subst e; exact (List.Nodup.not_mem_erase nd) hx
   omega
  have h2 : l.length ≤ (l.erase n).length + 1 := by
   rw [List.length_erase]
   split <;> omega
  omega
theorem insAll_len {α : Type} [DecidableEq α] (l : List α) : (insAll l).length ≤ l.length := by
 have h1 : ∀ (a : α) (v : Value) (l : List (α × Value)), (putL a v l).length ≤ l.length + 1 := by
  intro a v l
  induction l with
  | nil => simp [putL]
  | cons p l ih =>
   obtain ⟨b, u⟩ := p
   unfold putL
   split
   ·simp
   ·simp; omega
 have key : ∀ (l : List α) (acc : List (α × Value)), (l.foldl (fun acc a => putL a (.bool true) acc) acc).length ≤ acc.length + l.length := by
  intro l
  induction l with
  | nil => intro acc; simp
  | cons a l ih =>
   intro acc
   have := ih (putL a (.bool true) acc)
   have := h1 a (.bool true) acc
   rw [List.foldl_cons, List.length_cons]
   omega
 have := key l []
 simpa [insAll] using this
theorem rangeI_len (lo hi : Int) : (rangeI lo hi).length = (hi - lo).toNat := by unfold rangeI; simp
theorem flatMap_len {α β : Type} (f : α → List β) (m : Nat) : ∀ l : List α, (∀ x ∈ l, (f x).length ≤ m) → (l.flatMap f).length ≤ l.length * m
 | [], _ => by simp
 | x :: l, h => by
  rw [List.flatMap_cons, List.length_append, List.length_cons, Nat.succ_mul]
  have := h x (List.mem_cons_self ..)
  have := flatMap_len f m l fun y hy => h y (List.mem_cons_of_mem _ hy)
  omega
theorem failuresM_len {j : Joint} (B : JointB j) (x : Sky) (n : Nat) : (failuresM j x n).length ≤ 540 := by
 obtain ⟨h1, h2, h3, l1, l2, l3, w1, w2, w3, a1, a2, a3, hw, lw⟩ := B
 have k4 : ∀ h c many, (fails4 x n h c many j.life.mn (j.life.mx + 1)).length ≤ 10 := by
  intro h c many
  unfold fails4
  rw [List.length_map, rangeI_len]
  omega
 have k3 : ∀ h c, (fails3 j x n h c j.weeks.mn (j.weeks.mx + 1)).length ≤ 60 := by
  intro h c
  unfold fails3
  have := flatMap_len (fun many => fails4 x n h c many j.life.mn (j.life.mx + 1)) 10 (rangeI j.weeks.mn (j.weeks.mx + 1)) fun y _ => k4 h c y
  rw [rangeI_len] at this
  omega
 have k2 : ∀ h, (fails2 j x n h j.low.mn (j.low.mx + 1)).length ≤ 180 := by
  intro h
  unfold fails2
  have := flatMap_len (fun c => fails3 j x n h c j.weeks.mn (j.weeks.mx + 1)) 60 (rangeI j.low.mn (j.low.mx + 1)) fun y _ => k3 h y
  rw [rangeI_len] at this
  omega
 unfold failuresM fails1
 have := flatMap_len (fun h => fails2 j x n h j.low.mn (j.low.mx + 1)) 180 (rangeI j.high.mn (j.high.mx + 1)) fun y _ => k2 y
 rw [rangeI_len] at this
 omega
theorem weekM_le (x : Sky) (n : Nat) (h c : Int) (many life : Nat) : weekM x n h c many life ≤ n := by
 unfold weekM
 omega
theorem failuresM_week {j : Joint} {x : Sky} {n : Nat} {y : Fl} (h : y ∈ failuresM j x n) : y.week ≤ n := by
 unfold failuresM fails1 fails2 fails3 fails4 at h
 simp only [List.mem_flatMap, List.mem_map] at h
 obtain ⟨_, _, _, _, _, _, _, _, rfl⟩ := h
 exact weekM_le ..
end Go.Wx
namespace Go.Proofs.Ytgjcepdhclmglaa
open Go Go.HL Go.Proofs Go.Wx
variable [Lvl]
set_option maxRecDepth 100000
theorem least_ok (a : Int) (l : List Int) (A : Option Addr) (c : Nat) (h : AH) (R : Row h 1 intC A l) (hl : l.length < 2 ^ 40) : FnT Try.prog 75 #[.int .i64 a, .slice A l.length c] h (fun v _ => v = .int .i64 (l.foldl min a)) := by
 refine wL Try.func75 rfl Try.ntmps75 rfl ?_
 refine qF ?_
 refine qC rfl ?_
 refine qA (qE (v := .int .i64 _) rfl) ?_
 refine qF ?_
 refine qF ?_
 refine qC rfl ?_
 refine qA (qB (v := .slice _ _ _) rfl) ?_
 refine qA (wV rfl rfl) ?_
 refine qA (qB (v := .int .i64 _) rfl) ?_
 refine qN ?_
 refine zN [0, 6, 9, 10, 11, 12, 13, 14, 15, 16] 0 (α := Nat) (fun k => [(9, .int .i64 k), (0, .int .i64 ((l.take k).foldl min a))]) (fun k => _) (fun k h_k => k ≤ l.length) (fun k => l.length - k) (0) ⟨rfl, rfl, trivial⟩ (rfl) (Nat.zero_le _) ?_
 rintro k T1 h_k E_k J_k
 refine qP [] rfl ?_
 refine qF ?_
 refine qC rfl ?_
 refine qA (qK (v := .bool _) rfl) ?_
 refine qF ?_
 refine wA rfl (fun ht => ?_) (fun ht => ?_)
 ·skip
  have hlt := ltI ht
  obtain ⟨g, off, rfl, hc⟩ := (R.ext E_k).at (by omega) hlt
  refine qT ?_
  refine qF ?_
  refine qN ?_
  refine qF ?_
  refine qC rfl ?_
  refine qA (qM rfl rfl rfl rfl (by omega) (by omega)) ?_
  refine qV (v := .int .i64 _) rfl rfl ((hc) 0 _ rfl) ?_
  refine qA (qE (v := .int .i64 _) rfl) ?_
  refine qC rfl ?_
  refine qA (qB (v := .int .i64 _) rfl) ?_
  refine qA (qB (v := .int .i64 _) rfl) ?_
  refine qA (pv_min rfl rfl) ?_
  refine qA (qE (v := .int .i64 _) rfl) ?_
  refine qC rfl ?_
  refine qA (qO rfl (by omega)) ?_
  refine qA (qB (v := .int .i64 _) rfl) ?_
  refine ⟨k + 1, ⟨rfl, intE (by rw [List.take_succ_eq_append_getElem hlt, List.foldl_append]; rfl), trivial⟩, rfl, rfl, E_k, fun h3 E3 => by first | trivial | omega | (refine ⟨?_, ?_⟩ <;> omega), by first | omega | (dsimp only; omega), ?_⟩
  repeat (first | exact qU _ _ _ | refine wB (by decide) ?_ | refine qS rfl ?_ | refine wN rfl ?_)
 ·skip
  have hk : k = l.length := by have := geI ht; omega
  refine wU ?_
  refine qF ?_
  refine qC rfl ?_
  refine qA (qB (v := .int .i64 _) rfl) ?_
  refine qA (qE (v := .int .i64 _) rfl) ?_
  refine wK ?_
  refine qW (vs := [_]) Try.results75 ⟨qR rfl rfl, trivial⟩ fun V => ?_
  exact ⟨(zP E_k (wE V)), intE (by rw [hk, List.take_length])⟩
theorem flK : KeyT Try.prog 103 flV := by
 refine ⟨fun e a => ?_, fun a b => ?_, fun td ht a b => ?_, ⟨_, rfl⟩, fun a => by simp [Instr.sameBits, flV]⟩
 ·refine chk_struct (fs := [_, _]) rfl ?_
  intro i f hf
  match i, hf with
  | 0, hf => cases hf; exact ⟨_, rfl, chk_int rfl⟩
  | 1, hf => cases hf; exact ⟨_, rfl, chk_int rfl⟩
  | i + 2, hf => simp at hf
 ·have h1 := eq_struct (P := Try.prog) (t := 103) (d := 9999) (fs := [_, _]) (xs := #[.int .i64 a.week, .int .i64 a.causes]) (ys := #[.int .i64 b.week, .int .i64 b.causes]) (rs := [(a.week : Int) == b.week, (a.causes : Int) == b.causes]) rfl (by kernel_rfl) rfl ?_
  ·refine h1.trans ?_
   simp
   obtain ⟨a1, a2⟩ := a
   obtain ⟨b1, b2⟩ := b
   simp [natBeq]
  ·intro i f r hf hr
   match i, hf, hr with
   | 0, hf, hr => cases hf; cases hr; exact ⟨by decide, _, _, rfl, rfl, eq_int rfl _ _⟩
   | 1, hf, hr => cases hf; cases hr; exact ⟨by decide, _, _, rfl, rfl, eq_int rfl _ _⟩
   | i + 2, hf, hr => simp at hf
 ·left
  cases ht
  rfl
set_option maxHeartbeats 4000000 in
theorem failures_ok (j : Joint) (x : Sky) (n : Nat) (hn : 1 ≤ n) (hn6 : n ≤ 6) (last : Int) (el : last = (n : Int) - 1) (B : JointB j) (h : AH) :
  FnT Try.prog 71 #[.agg (jointC j).toArray, .agg (skyC x).toArray, .int .i64 last] h (fun v h' => ∃ m, v = .map (some m) ∧ h' m = some (mapO (encs flV (insAll (failuresM j x n))))) := by
 obtain ⟨h1, h2, h3, l1, l2, l3, w1, w2, w3, a1, a2, a3, _, _⟩ := B
 refine wL Try.func71 rfl Try.ntmps71 rfl ?_
 refine qF ?_
 refine qC rfl ?_
 refine zF (v := .agg #[.int .i64 _, .int .i64 _, .int .i64 _, .int .i64 _, .int .i64 _, .int .i64 _, .int .i64 _, .int .i64 _, .int .i64 _]) (cs := [_, _, _, _, _, _, _, _, _]) rfl rfl fun b3 hb3 => ?_
 refine qH [_] rfl ?_
 refine zF (v := .agg #[.int .i64 _, .int .i64 _, .int .i64 _, .int .i64 _, .int .i64 _, .int .i64 _]) (cs := [_, _, _, _, _, _]) rfl rfl fun b4 hb4 => ?_
 refine qH [_, _] rfl ?_
 refine qA (qE (v := .map _) rfl) ?_
 refine qF ?_
 refine qC rfl ?_
 refine op_makeMap fun b22 hb22 => ?_
 refine qH [_, _, _] rfl ?_
 refine qA (qE (v := .map _) rfl) ?_
 refine qF ?_
 refine qC rfl ?_
 refine qA (qE (v := _) rfl) ?_
 refine qF ?_
 refine qF ?_
 refine qC rfl ?_
 refine qA (qG rfl rfl rfl rfl 1 rfl) ?_
 refine qA (qG rfl rfl rfl rfl 1 rfl) ?_
 refine qI 0 (v := .int .i64 _) rfl rfl rfl rfl ?_
 refine qA (qE (v := .int .i64 _) rfl) ?_
 refine qN ?_
 refine zN [9, 10, 11, 12, 13, 14, 15, 16, 17, 18, 19, 20, 21, 26, 27, 28, 29, 30, 31, 32, 33, 34, 35, 36, 37, 38, 39, 40, 41, 42, 43, 44, 45, 46, 47, 48, 49, 50, 51, 52, 53, 54, 55, 56, 57, 58, 59, 60, 61, 62, 63, 64, 65, 66, 67, 68, 69, 70, 71, 72, 73, 74, 75, 76, 77, 78, 79, 80, 81, 82, 83, 84, 85, 86, 87, 88, 89, 90, 91, 92, 93, 94, 95, 96, 97, 98, 99, 100, 101, 102, 103, 104, 105, 106, 107, 108, 109, 110, 111, 112, 113, 114, 115, 116, 117, 118, 119, 120, 121, 122, 123, 124, 125, 126, 127, 128, 129, 130, 131, 132, 133, 134, 135, 136, 137, 138, 139, 140, 141, 142, 143, 144, 145] 3 (α := Int × List Fl) (fun ⟨hh, acc⟩ => [(9, .int .i64 hh)]) (fun ⟨hh, acc⟩ => [_, _, some (b22, mapO (encs flV (insAll acc)))]) (fun ⟨hh, acc⟩ h_hh => (j.high.mn ≤ hh ∧ hh ≤ j.high.mx + 1) ∧ acc = fails1 j x n j.high.mn hh) (fun ⟨hh, acc⟩ => (j.high.mx + 1 - hh).toNat) ((j.high.mn, [])) ⟨rfl, trivial⟩ (rfl) (⟨⟨by omega, by omega⟩, by unfold fails1; rw [rangeI_nil (by omega)]; rfl⟩) ?_
 rintro ⟨hh, acc⟩ T1 h_hh E_hh J_hh
 refine qP [_, _, _] rfl ?_
 refine qF ?_
 refine qF ?_
 refine qC rfl ?_
 refine qA (qB (v := .int .i64 _) rfl) ?_
 refine qA (qG rfl rfl rfl rfl 1 rfl) ?_
 refine qA (qG rfl rfl rfl rfl 2 rfl) ?_
 refine qI 0 (v := .int .i64 _) rfl rfl rfl rfl ?_
 refine qA (qK (v := .bool _) rfl) ?_
 refine wA rfl (fun ht => ?_) (fun ht => ?_)
 ·skip
  have hle : hh ≤ j.high.mx := of_decide_eq_true ht
  refine qT ?_
  refine qF ?_
  refine qN ?_
  refine qF ?_
  refine qC rfl ?_
  refine qA (qE (v := .int .u64 _) rfl) ?_
  refine qF ?_
  refine qF ?_
  refine qC rfl ?_
  refine qA (qB (v := .int .i64 _) rfl) ?_
  refine qA (qO rfl (by omega)) ?_
  refine qA (qB (v := .int .i64 _) rfl) ?_
  refine qN ?_
  refine zN [10, 11, 35, 36, 37, 38, 39, 40, 41, 42, 43, 44, 45, 46, 47] 3 (α := Nat) (fun w => [(35, .int .i64 w), (10, .int .u64 (hotM x hh w : Nat))]) (fun w => _) (fun w h_w => w ≤ n) (fun w => n - w) (0) ⟨rfl, rfl, trivial⟩ (rfl) (Nat.zero_le _) ?_
  rintro w T2 h_w E_w J_w
  refine qP [_, _, _] rfl ?_
  refine qF ?_
  refine qC rfl ?_
  refine qA (qK (v := .bool _) rfl) ?_
  refine qF ?_
  refine wA rfl (fun hw => ?_) (fun hw => ?_)
  ·skip
   have hlt : w < n := by have := of_decide_eq_true hw; omega
   have hm := hotM_lt x hh w (by omega)
   refine qT ?_
   refine qF ?_
   refine qN ?_
   refine qF ?_
   refine qC rfl ?_
   refine qA (qB (v := .int .i64 _) rfl) ?_
   refine qA (qE (v := .int .i64 _) rfl) ?_
   refine qF ?_
   refine qC rfl ?_
   refine qA (qB (v := .int .i64 _) rfl) ?_
   refine qA (pv_indexA rfl rfl rfl rfl (by omega) (by omega)) ?_
   refine qI 1 (v := .int .i64 _) rfl rfl rfl (skyArr x w (by omega)) ?_
   refine qA (qB (v := .int .i64 _) rfl) ?_
   refine qA (qK (v := .bool _) rfl) ?_
   refine wA rfl (fun hc => ?_) (fun hc => ?_)
   ·skip
    refine qC rfl ?_
    refine qA (qB (v := _) rfl) ?_
    refine qA (qB (v := .int .u64 _) rfl) ?_
    refine qA (qB (v := .int .i64 _) rfl) ?_
    refine wP (caps := []) (vs := [.int .u64 _, .int .i64 _]) rfl rfl rfl (with_ok _ _ w rfl hm (by omega) h_w) ?_
    rintro _ h4 E4 rfl
    refine qA (qE (v := .int .u64 _) rfl) ?_
    refine qC rfl ?_
    refine qA (qO rfl (by omega)) ?_
    refine qA (qB (v := .int .i64 _) rfl) ?_
    refine ⟨w + 1, ⟨rfl, intE (by rw [hotM, if_pos (of_decide_eq_true hc)]), trivial⟩, rfl, rfl, (zP E_w E4), fun h3 E3 => by first | trivial | omega | (refine ⟨?_, ?_⟩ <;> omega), by first | omega | (dsimp only; omega), ?_⟩
    repeat (first | exact qU _ _ _ | refine wB (by decide) ?_ | refine qS rfl ?_ | refine wN rfl ?_)
   ·skip
    refine qT ?_
    refine qC rfl ?_
    refine qA (qO rfl (by omega)) ?_
    refine qA (qB (v := .int .i64 _) rfl) ?_
    refine ⟨w + 1, ⟨rfl, intE (by rw [hotM, if_neg (of_decide_eq_false hc)]), trivial⟩, rfl, rfl, E_w, fun h3 E3 => by first | trivial | omega | (refine ⟨?_, ?_⟩ <;> omega), by first | omega | (dsimp only; omega), ?_⟩
    repeat (first | exact qU _ _ _ | refine wB (by decide) ?_ | refine qS rfl ?_ | refine wN rfl ?_)
  ·skip
   have hwn : w = n := by have := of_decide_eq_false hw; omega
   subst hwn
   have hm := hotM_lt x hh w (by omega)
   refine wU ?_
   refine qF ?_
   refine qC rfl ?_
   refine qA (qG rfl rfl rfl rfl 3 rfl) ?_
   refine qA (qG rfl rfl rfl rfl 3 rfl) ?_
   refine qI 0 (v := .int .i64 _) rfl rfl rfl rfl ?_
   refine qA (qE (v := .int .i64 _) rfl) ?_
   refine qN ?_
   refine zN [12, 13, 14, 15, 16, 17, 18, 19, 20, 21, 51, 52, 53, 54, 55, 56, 57, 58, 59, 60, 61, 62, 63, 64, 65, 66, 67, 68, 69, 70, 71, 72, 73, 74, 75, 76, 77, 78, 79, 80, 81, 82, 83, 84, 85, 86, 87, 88, 89, 90, 91, 92, 93, 94, 95, 96, 97, 98, 99, 100, 101, 102, 103, 104, 105, 106, 107, 108, 109, 110, 111, 112, 113, 114, 115, 116, 117, 118, 119, 120, 121, 122, 123, 124, 125, 126, 127, 128, 129, 130, 131, 132, 133, 134, 135, 136, 137, 138, 139, 140, 141, 142, 143, 144, 145] 3 (α := Int × List Fl) (fun ⟨cc, acc2⟩ => [(12, .int .i64 cc)]) (fun ⟨cc, acc2⟩ => [_, _, some (b22, mapO (encs flV (insAll acc2)))]) (fun ⟨cc, acc2⟩ h_cc => (j.low.mn ≤ cc ∧ cc ≤ j.low.mx + 1) ∧ acc2 = acc ++ fails2 j x w hh j.low.mn cc) (fun ⟨cc, acc2⟩ => (j.low.mx + 1 - cc).toNat) ((j.low.mn, acc)) ⟨rfl, trivial⟩ (rfl) (⟨⟨by omega, by omega⟩, by unfold fails2; rw [rangeI_nil (by omega)]; simp⟩) ?_
   rintro ⟨cc, acc2⟩ T3 h_cc E_cc J_cc
   refine qP [_, _, _] rfl ?_
   refine qF ?_
   refine qF ?_
   refine qC rfl ?_
   refine qA (qB (v := .int .i64 _) rfl) ?_
   refine qA (qG rfl rfl rfl rfl 3 rfl) ?_
   refine qA (qG rfl rfl rfl rfl 4 rfl) ?_
   refine qI 0 (v := .int .i64 _) rfl rfl rfl rfl ?_
   refine qA (qK (v := .bool _) rfl) ?_
   refine wA rfl (fun hc => ?_) (fun hc => ?_)
   ·skip
    have hle2 : cc ≤ j.low.mx := of_decide_eq_true hc
    refine qT ?_
    refine qF ?_
    refine qN ?_
    refine qF ?_
    refine qC rfl ?_
    refine qA (qE (v := .slice _ _ _) rfl) ?_
    refine qF ?_
    refine qF ?_
    refine qC rfl ?_
    refine qA (qB (v := .int .i64 _) rfl) ?_
    refine qA (qO rfl (by omega)) ?_
    refine qA (qB (v := .int .i64 _) rfl) ?_
    refine qN ?_
    refine goes_more ?_
    refine qP [_, _, _, _] rfl ?_
    refine zN [13, 14, 60, 61, 62, 63, 64, 65, 66, 67, 68, 69, 70, 71, 72] 4 (α := Nat × Acc) (fun ⟨v, a⟩ => [(60, .int .i64 v), (13, .slice a.A a.n a.c)]) (fun ⟨v, a⟩ => [_, _, _, a.p]) (fun ⟨v, a⟩ h_v => v ≤ w ∧ AccR 3 1 ((coldM x cc v).flatMap intC) a) (fun ⟨v, a⟩ => w - v) ((0, acc0)) ⟨rfl, rfl, trivial⟩ (rfl) (⟨by omega, accR0⟩) ?_
    rintro ⟨v, a⟩ T4 h_v E_v J_v
    refine qP [_, _, _, _] rfl ?_
    refine qF ?_
    refine qC rfl ?_
    refine qA (qK (v := .bool _) rfl) ?_
    refine qF ?_
    refine wA rfl (fun hv => ?_) (fun hv => ?_)
    ·skip
     have hlt : v < w := by have := of_decide_eq_true hv; omega
     refine qT ?_
     refine qF ?_
     refine qN ?_
     refine qF ?_
     refine qC rfl ?_
     refine qA (qB (v := .int .i64 _) rfl) ?_
     refine qA (qE (v := .int .i64 _) rfl) ?_
     refine qF ?_
     refine qC rfl ?_
     refine qA (qB (v := .int .i64 _) rfl) ?_
     refine qA (pv_indexA rfl rfl rfl rfl (by omega) (by omega)) ?_
     refine qI 1 (v := .int .i64 _) rfl rfl rfl (skyArr x v (by omega)) ?_
     refine qA (qB (v := .int .i64 _) rfl) ?_
     refine qA (qK (v := .bool _) rfl) ?_
     refine wA rfl (fun hb => ?_) (fun hb => ?_)
     ·skip
      refine qC rfl ?_
      refine qA (qB (v := .slice _ _ _) rfl) ?_
      refine qA (qB (v := .int .i64 _) rfl) ?_
      refine wG (zc := [_]) (vs := [(0, .int .i64 _)]) (cs := [_]) rfl rfl rfl rfl rfl rfl rfl fun b70 hb70 => ?_
      refine qH [_, _, _, _, _] rfl ?_
      refine zK 3 J_v.2 rfl rfl rfl (fun V => rdP V (i := 4) rfl) rfl rfl rfl rfl rfl rfl rfl rfl rfl (by omega) rfl (by rw [wS (m := 1) (fun _ _ => rfl)]; have := coldM_len x cc v; simp; omega) fun a2 h5a E5a ha2 => ?_
      refine qH [_, _, _, _, _] rfl ?_
      refine qA (qE (v := .slice _ _ _) rfl) ?_
      refine qC rfl ?_
      refine qA (qO rfl (by omega)) ?_
      refine qA (qB (v := .int .i64 _) rfl) ?_
      refine ⟨(v + 1, a2), ⟨rfl, rfl, trivial⟩, rfl, rfl, (zP E_v E5a), fun h3 E3 => ⟨hlt, by rw [coldM_succ, if_pos (of_decide_eq_true hb), List.flatMap_append]; exact ha2⟩, by first | omega | (dsimp only; omega), ?_⟩
      repeat (first | exact qU _ _ _ | refine wB (by decide) ?_ | refine qS rfl ?_ | refine wN rfl ?_)
     ·skip
      refine qT ?_
      refine qC rfl ?_
      refine qA (qO rfl (by omega)) ?_
      refine qA (qB (v := .int .i64 _) rfl) ?_
      refine ⟨(v + 1, a), ⟨rfl, rfl, trivial⟩, rfl, rfl, E_v, fun h3 E3 => ⟨hlt, by rw [coldM_succ, if_neg (of_decide_eq_false hb)]; exact J_v.2⟩, by first | omega | (dsimp only; omega), ?_⟩
      repeat (first | exact qU _ _ _ | refine wB (by decide) ?_ | refine qS rfl ?_ | refine wN rfl ?_)
    ·skip
     have hvw : v = w := by have := of_decide_eq_false hv; omega
     subst hvw
     refine goes_pubO 3 rfl ?_
     intro h5 E5 hp
     refine qP [_, _, _, _] rfl ?_
     have Rc : Row h5 1 intC a.A (coldM x cc v) := ⟨fun _ _ => rfl, J_v.2.rd hp⟩
     have hlen := J_v.2.len
     rw [wS (m := 1) (fun _ _ => rfl)] at hlen
     refine wU ?_
     refine qF ?_
     refine qC rfl ?_
     refine qA (qG rfl rfl rfl rfl 5 rfl) ?_
     refine qA (qG rfl rfl rfl rfl 5 rfl) ?_
     refine qI 0 (v := .int .i64 _) rfl rfl rfl rfl ?_
     refine qA (qE (v := .int .i64 _) rfl) ?_
     refine qN ?_
     refine zN [15, 16, 17, 18, 19, 20, 21, 76, 77, 78, 79, 80, 81, 82, 83, 84, 85, 86, 87, 88, 89, 90, 91, 92, 93, 94, 95, 96, 97, 98, 99, 100, 101, 102, 103, 104, 105, 106, 107, 108, 109, 110, 111, 112, 113, 114, 115, 116, 117, 118, 119, 120, 121, 122, 123, 124, 125, 126, 127, 128, 129, 130, 131, 132, 133, 134, 135, 136, 137, 138, 139, 140, 141, 142, 143, 144, 145] 4 (α := Int × List Fl) (fun ⟨mm, acc3⟩ => [(15, .int .i64 mm)]) (fun ⟨mm, acc3⟩ => [_, _, some (b22, mapO (encs flV (insAll acc3))), none]) (fun ⟨mm, acc3⟩ h_mm => (j.weeks.mn ≤ mm ∧ mm ≤ j.weeks.mx + 1) ∧ acc3 = acc2 ++ fails3 j x v hh cc j.weeks.mn mm) (fun ⟨mm, acc3⟩ => (j.weeks.mx + 1 - mm).toNat) ((j.weeks.mn, acc2)) ⟨rfl, trivial⟩ (rfl) (⟨⟨by omega, by omega⟩, by unfold fails3; rw [rangeI_nil (by omega)]; simp⟩) ?_
     rintro ⟨mm, acc3⟩ T6 h_mm E_mm J_mm
     refine qP [_, _, _, _] rfl ?_
     refine qF ?_
     refine qF ?_
     refine qC rfl ?_
     refine qA (qB (v := .int .i64 _) rfl) ?_
     refine qA (qG rfl rfl rfl rfl 5 rfl) ?_
     refine qA (qG rfl rfl rfl rfl 6 rfl) ?_
     refine qI 0 (v := .int .i64 _) rfl rfl rfl rfl ?_
     refine qA (qK (v := .bool _) rfl) ?_
     refine wA rfl (fun hc3 => ?_) (fun hc3 => ?_)
     ·skip
      have hle3 : mm ≤ j.weeks.mx := of_decide_eq_true hc3
      refine qT ?_
      refine qF ?_
      refine qN ?_
      refine qF ?_
      refine qC rfl ?_
      refine qA (qG rfl rfl rfl rfl 7 rfl) ?_
      refine qA (qG rfl rfl rfl rfl 7 rfl) ?_
      refine qI 0 (v := .int .i64 _) rfl rfl rfl rfl ?_
      refine qA (qE (v := .int .i64 _) rfl) ?_
      refine qN ?_
      refine zN [16, 17, 18, 19, 20, 21, 86, 87, 88, 89, 90, 91, 92, 93, 94, 95, 96, 97, 98, 99, 100, 101, 102, 103, 104, 105, 106, 107, 108, 109, 110, 111, 112, 113, 114, 115, 116, 117, 118, 119, 120, 121, 122, 123, 124, 125, 126, 127, 128, 129, 130, 131, 132, 133, 134, 135, 136, 137, 138, 139, 140, 141, 142, 143, 144, 145] 4 (α := Int × List Fl) (fun ⟨lf, acc4⟩ => [(16, .int .i64 lf)]) (fun ⟨lf, acc4⟩ => [_, _, some (b22, mapO (encs flV (insAll acc4))), none]) (fun ⟨lf, acc4⟩ h_lf => (j.life.mn ≤ lf ∧ lf ≤ j.life.mx + 1) ∧ acc4 = acc3 ++ fails4 x v hh cc mm j.life.mn lf) (fun ⟨lf, acc4⟩ => (j.life.mx + 1 - lf).toNat) ((j.life.mn, acc3)) ⟨rfl, trivial⟩ (rfl) (⟨⟨by omega, by omega⟩, by unfold fails4; rw [rangeI_nil (by omega)]; simp⟩) ?_
      rintro ⟨lf, acc4⟩ T7 h_lf E_lf J_lf
      refine qP [_, _, _, _] rfl ?_
      refine qF ?_
      refine qF ?_
      refine qC rfl ?_
      refine qA (qB (v := .int .i64 _) rfl) ?_
      refine qA (qG rfl rfl rfl rfl 7 rfl) ?_
      refine qA (qG rfl rfl rfl rfl 8 rfl) ?_
      refine qI 0 (v := .int .i64 _) rfl rfl rfl rfl ?_
      refine qA (qK (v := .bool _) rfl) ?_
      refine wA rfl (fun hc4 => ?_) (fun hc4 => ?_)
      ·skip
       have hle4 : lf ≤ j.life.mx := of_decide_eq_true hc4
       refine qT ?_
       refine qF ?_
       refine qN ?_
       refine qF ?_
       refine qC rfl ?_
       refine qA (qB (v := .int .i64 _) rfl) ?_
       refine qA (qO rfl (by omega)) ?_
       refine qA (qB (v := .int .i64 _) rfl) ?_
       refine qA (qO rfl (by omega)) ?_
       refine qA (qB (v := .int .i64 _) rfl) ?_
       refine qA (pv_buildA (zc := [_, _, _]) (vs := [(0, .int .i64 _), (1, .int .i64 _), (2, .int .i64 _)]) (cs := [_, _, _]) rfl rfl rfl rfl rfl rfl) ?_
       refine wO (cs := [_, _, _]) rfl rfl fun b17 hb17 => ?_
       refine qH [_, _, _, _, _] rfl ?_
       refine qJ 4 (v := .agg #[.int .i64 _, .int .i64 _, .int .i64 _]) (vs := [_, _, _]) (c' := [_, _, _]) rfl rfl rfl rfl rfl rfl rfl rfl rfl ?_
       refine qH [_, _, _, _, _] rfl ?_
       refine xp_cutB [18, 99, 100, 101, 102, 103, 104, 105, 106, 107] 5 (α := Unit) (fun u => []) (fun u L => L.set 4 (some (b17, .cells #[.int .i64 (when0 x v hh : Nat), .int .i64 (last + 1), .int .i64 lf] 145 (0, 0)))) (fun u h_u => True) ?_ ?_
       ·skip
        refine qF ?_
        refine qC rfl ?_
        refine qA (qB (v := .int .u64 _) rfl) ?_
        refine wP (caps := []) (vs := [.int .u64 _]) rfl rfl rfl (list_ok (hotM x hh v) hm h_lf) ?_
        rintro _ h6 E6 ⟨A6, c6, rfl, R6⟩
        refine qA (qE (v := .slice _ _ _) rfl) ?_
        refine qF ?_
        refine qC rfl ?_
        refine qA (qB (v := .slice _ _ _) rfl) ?_
        refine qA (wV rfl rfl) ?_
        refine qA (qK (v := .bool _) rfl) ?_
        rcases hL : listM (hotM x hh v) with _ | ⟨w0, ws⟩
        ·skip
         refine zI rfl (rfl) ?_
         refine qT ?_
         refine ⟨(), trivial, rfl, by simp only [when0, hL]; rw [show last + 1 = (v : Int) from by omega]; rfl, E6, fun h3 E3 => by first | trivial | omega | (refine ⟨?_, ?_⟩ <;> omega), ?_⟩
         repeat (first | exact zE _ _ | exact qU _ _ _ | refine wB (by decide) ?_ | refine qS rfl ?_ | refine wN rfl ?_)
        ·skip
         refine xp_condT rfl (by simp) ?_
         rw [hL] at R6
         have hpos : 0 < (w0 :: ws).length := by simp
         obtain ⟨g6, o6, rfl, hc6⟩ := R6.at (by omega) (i := 0) (by simp)
         refine qC rfl ?_
         refine qA (qB (v := .slice _ _ _) rfl) ?_
         refine qA (qM rfl rfl rfl rfl (by omega) (by omega)) ?_
         refine qV (v := .int .i64 _) rfl rfl ((hc6) 0 _ rfl) ?_
         refine qA (pv_indexA rfl rfl rfl rfl (by omega) (by omega)) ?_
         refine qJ 4 (v := .int .i64 _) (vs := [_]) (c' := [_, _, _]) rfl rfl rfl rfl rfl rfl rfl rfl rfl ?_
         refine qH [_, _, _, _, _] rfl ?_
         refine ⟨(), trivial, rfl, by simp only [when0, hL]; rw [Int.toNat_of_nonneg (listN_nonneg (hL ▸ List.mem_cons_self ..))]; rfl, E6, fun h3 E3 => by first | trivial | omega | (refine ⟨?_, ?_⟩ <;> omega), ?_⟩
         repeat (first | exact zE _ _ | exact qU _ _ _ | refine wB (by decide) ?_ | refine qS rfl ?_ | refine wN rfl ?_)
       ·rintro u T8 h_u E_u J_u
        refine qP [_, _, _, _, _] rfl ?_
        refine xp_cutB [108, 109, 110, 111, 112, 113, 114, 115, 116, 117] 5 (α := Unit) (fun u2 => []) (fun u2 L => L.set 4 (some (b17, .cells #[.int .i64 (when0 x v hh : Nat), .int .i64 (when1 x v cc mm.toNat : Nat), .int .i64 lf] 145 (0, 0)))) (fun u2 h_u2 => True) ?_ ?_
        ·skip
         refine qF ?_
         refine qC rfl ?_
         refine qA (qB (v := .int .i64 _) rfl) ?_
         refine qA (qB (v := .slice _ _ _) rfl) ?_
         refine qA (wV rfl rfl) ?_
         refine qA (qK (v := .bool _) rfl) ?_
         refine wA rfl (fun hq => ?_) (fun hq => ?_)
         ·skip
          have hq1 : mm ≤ (a.n : Int) := of_decide_eq_true hq
          have hq2 : mm.toNat - 1 < (coldM x cc v).length := by omega
          obtain ⟨g7, o7, hA7, hc7⟩ := (Rc.ext (zP (zP E_mm E_lf) E_u)).at (by omega) hq2
          have hix : ((mm - 1).toNat : Nat) = mm.toNat - 1 := by omega
          refine qC rfl ?_
          refine qA (qB (v := .slice _ _ _) rfl) ?_
          refine qA (qB (v := .int .i64 _) rfl) ?_
          refine qA (qO rfl (by omega)) ?_
          refine qA (wM rfl hA7 rfl rfl rfl (by omega) (by omega)) ?_
          refine qV (v := .int .i64 _) rfl rfl (by rw [hix]; exact hc7 0 _ rfl) ?_
          refine qA (pv_indexA rfl rfl rfl rfl (by omega) (by omega)) ?_
          refine qJ 4 (v := .int .i64 _) (vs := [_]) (c' := [_, _, _]) rfl rfl rfl rfl rfl rfl rfl rfl rfl ?_
          refine qH [_, _, _, _, _] rfl ?_
          refine ⟨(), trivial, rfl, by rw [when1, if_pos (by omega), List.getD_eq_getElem?_getD, List.getElem?_eq_getElem hq2, Option.getD_some, Int.toNat_of_nonneg (coldM_nonneg (List.getElem_mem hq2))]; rfl, (Ext.refl _), fun h3 E3 => by first | trivial | omega | (refine ⟨?_, ?_⟩ <;> omega), ?_⟩
          repeat (first | exact zE _ _ | exact qU _ _ _ | refine wB (by decide) ?_ | refine qS rfl ?_ | refine wN rfl ?_)
         ·skip
          have hq1 : ¬ mm ≤ (a.n : Int) := of_decide_eq_false hq
          refine qT ?_
          refine ⟨(), trivial, rfl, by rw [when1, if_neg (by omega), show last + 1 = (v : Int) from by omega]; rfl, (Ext.refl _), fun h3 E3 => by first | trivial | omega | (refine ⟨?_, ?_⟩ <;> omega), ?_⟩
          repeat (first | exact zE _ _ | exact qU _ _ _ | refine wB (by decide) ?_ | refine qS rfl ?_ | refine wN rfl ?_)
        ·rintro u2 T9 h_u2 E_u2 J_u2
         refine qP [_, _, _, _, _] rfl ?_
         have ew : List.foldl min (last + 1) [(when0 x v hh : Int), (when1 x v cc mm.toNat : Int), lf] = (weekM x v hh cc mm.toNat lf.toNat : Nat) := by
          simp only [List.foldl, weekM]
          omega
         refine zH 4 rfl ?_
         intro h8 E8 hb8
         refine qF ?_
         refine qC rfl ?_
         refine qA (qB (v := .int .i64 _) rfl) ?_
         refine qA (qO rfl (by omega)) ?_
         refine qA (pv_sliceA rfl rfl rfl (by omega)) ?_
         refine wP (caps := []) (vs := [.int .i64 _, .slice _ _ _]) rfl rfl rfl (least_ok (last + 1) [(when0 x v hh : Int), (when1 x v cc mm.toNat : Int), lf] _ 3 h8 ⟨fun _ _ => rfl, fun _ => ⟨b17, 0, rfl, fun i u hu => by simp only [cellA, hb8, Nat.zero_add]; simpa [intC] using hu⟩⟩ (by simp)) ?_
         rintro _ h9 E9 rfl
         rw [ew]
         refine qA (pv_build (zc := [_, _]) (vs := [(0, .int .i64 _)]) (cs := [_, _]) rfl rfl rfl rfl rfl rfl) ?_
         refine wO (cs := [_, _]) rfl rfl fun b19 hb19 => ?_
         refine qH [_, _, _, _, _, _] rfl ?_
         refine qJ 5 (v := .agg #[.int .i64 _, .int .i64 _]) (vs := [_, _]) (c' := [_, _]) rfl rfl rfl rfl rfl rfl rfl rfl rfl ?_
         refine qH [_, _, _, _, _, _] rfl ?_
         refine qF ?_
         refine qF ?_
         refine qC rfl ?_
         refine op_loadA rfl rfl rfl rfl (fun i u hu => E9.cell (show cellA h8 _ = some u by simp only [cellA, hb8, Nat.zero_add]; simpa using hu)) ?_
         refine qA (qB (v := .int .i64 _) rfl) ?_
         refine qN ?_
         refine zN [20, 21, 124, 125, 126, 127, 128, 129, 130, 131, 132, 133, 134, 135, 136, 137, 138, 139, 140, 141, 142, 143] 6 (α := Nat) (fun k => [(124, .int .i64 k)]) (fun k => [_, _, _, none, none, some (b19, .cells #[.int .i64 (weekM x v hh cc mm.toNat lf.toNat : Nat), .int .i64 (causesP v (weekM x v hh cc mm.toNat lf.toNat) (when0 x v hh) (when1 x v cc mm.toNat) lf.toNat k : Nat)] 103 (0, 0))]) (fun k h_k => k ≤ 3) (fun k => 3 - k) (0) ⟨rfl, trivial⟩ (rfl) (by omega) ?_
         rintro k T10 h_k E_k J_k
         refine qP [_, _, _, _, _, _] rfl ?_
         refine qF ?_
         refine qC rfl ?_
         refine qA (qK (v := .bool _) rfl) ?_
         refine qF ?_
         refine wA rfl (fun hk => ?_) (fun hk => ?_)
         ·skip
          have hk3 : k < 3 := ltI (n := 3) hk
          have hcl := causesP_lt v (weekM x v hh cc mm.toNat lf.toNat) (when0 x v hh) (when1 x v cc mm.toNat) lf.toNat k (by omega)
          have h2k : 2 ^ k ≤ 2 ^ 3 := Nat.pow_le_pow_right (by omega) (by omega)
          have hs : sel3 (when0 x v hh : Int) (when1 x v cc mm.toNat : Int) lf k = (sel3 (when0 x v hh) (when1 x v cc mm.toNat) lf.toNat k : Nat) := by
           rw [← sel3_cast, Int.toNat_of_nonneg (by omega)]
          refine qT ?_
          refine qF ?_
          refine qN ?_
          refine qF ?_
          refine qC rfl ?_
          refine qA (qB (v := .int .i64 _) rfl) ?_
          refine qA (pv_indexV rfl rfl rfl rfl rfl (by omega) (by omega) (arr3 _ _ _ k hk3)) ?_
          refine qA (qE (v := .int .i64 _) rfl) ?_
          refine qA (qE (v := .int .i64 _) rfl) ?_
          refine xp_cutB [128, 129, 130, 131, 132, 133, 134, 135, 136] 6 (α := Unit) (fun u11 => [(136, .bool ((decide (sel3 (when0 x v hh : Int) (when1 x v cc mm.toNat : Int) lf k = (weekM x v hh cc mm.toNat lf.toNat : Nat))) && (decide (sel3 (when0 x v hh : Int) (when1 x v cc mm.toNat : Int) lf k ≤ last))))]) (fun u11 L => L) (fun u11 h_u11 => True) ?_ ?_
          ·rcases Bool.eq_false_or_eq_true (decide (sel3 (when0 x v hh : Int) (when1 x v cc mm.toNat : Int) lf k = (weekM x v hh cc mm.toNat lf.toNat : Nat))) with hg11 | hg11
           ·refine qC rfl ?_
            refine qA (qB (v := .int .i64 _) rfl) ?_
            refine qA (qG rfl rfl rfl rfl 0 rfl) ?_
            refine qI 5 (v := .int .i64 _) rfl rfl rfl rfl ?_
            refine qA (qK (v := .bool _) rfl) ?_
            refine qA (qB (v := .bool _) rfl) ?_
            refine qQ rfl hg11 ?_
            refine qA (qB (v := .int .i64 _) rfl) ?_
            refine qQ rfl hg11 ?_
            refine qA (qB (v := .int .i64 _) rfl) ?_
            refine qQ rfl hg11 ?_
            refine qA (qK (v := .bool _) rfl) ?_
            refine qA (wX rfl hg11 (v := .bool _) rfl) ?_
            refine ⟨(), ⟨(by show Value.bool _ = _; rw [hg11]; rfl), trivial⟩, rfl, rfl, (Ext.refl _), fun h3 E3 => by first | trivial | omega | (refine ⟨?_, ?_⟩ <;> omega), ?_⟩
            repeat (first | exact zE _ _ | exact qU _ _ _ | refine wB (by decide) ?_ | refine qS rfl ?_ | refine wN rfl ?_)
           ·refine qC rfl ?_
            refine qA (qB (v := .int .i64 _) rfl) ?_
            refine qA (qG rfl rfl rfl rfl 0 rfl) ?_
            refine qI 5 (v := .int .i64 _) rfl rfl rfl rfl ?_
            refine qA (qK (v := .bool _) rfl) ?_
            refine qA (qB (v := .bool _) rfl) ?_
            refine wQ rfl hg11 ?_
            refine wQ rfl hg11 ?_
            refine wQ rfl hg11 ?_
            refine qA (wY rfl hg11 (v := .bool _) rfl) ?_
            refine ⟨(), ⟨(by show Value.bool _ = _; rw [hg11]; rfl), trivial⟩, rfl, rfl, (Ext.refl _), fun h3 E3 => by first | trivial | omega | (refine ⟨?_, ?_⟩ <;> omega), ?_⟩
            repeat (first | exact zE _ _ | exact qU _ _ _ | refine wB (by decide) ?_ | refine qS rfl ?_ | refine wN rfl ?_)
          rintro u11 T12 h_u11 E_u11 J_u11
          refine qP [_, _, _, _, _, _] rfl ?_
          refine wA rfl (fun hy => ?_) (fun hy => ?_)
          ·skip
           have hy1 : (decide (sel3 (when0 x v hh) (when1 x v cc mm.toNat) lf.toNat k = weekM x v hh cc mm.toNat lf.toNat) && decide (sel3 (when0 x v hh) (when1 x v cc mm.toNat) lf.toNat k < v)) = true := by
            rw [hs] at hy
            simp only [Bool.and_eq_true, decide_eq_true_eq] at hy ⊢
            omega
           refine zB [] rfl rfl rfl ?_
           refine qD (i := 0) rfl (by decide +kernel) (qG rfl rfl rfl rfl 1 rfl) ?_
           refine qL (i := 1) rfl (by decide +kernel) ?_
           refine qI 5 (v := .int .i64 _) rfl rfl rfl rfl ?_
           refine qD (i := 2) rfl (by decide +kernel) (qB (v := .int .i64 _) rfl) ?_
           refine qD (i := 3) rfl (by decide +kernel) (pv_shl 1 k (.inl rfl) rfl rfl rfl rfl (by omega) (by omega)) ?_
           refine qD (i := 4) rfl (by decide +kernel) (pv_val (i64_or _ (1 * 2 ^ k) (by omega) (by omega)) rfl) ?_
           refine qD (i := 5) rfl (by decide +kernel) (qG rfl rfl rfl rfl 1 rfl) ?_
           refine wI (i := 6) rfl (by decide +kernel) (by decide +kernel) ?_
           refine qJ 5 (v := .int .i64 _) (vs := [_]) (c' := [_, _]) rfl rfl rfl rfl rfl rfl rfl rfl rfl ?_
           refine qZ [_, _, _, _, _, _] rfl ?_
           refine wW rfl ?_
           refine qC rfl ?_
           refine qA (qO rfl (by omega)) ?_
           refine qA (qB (v := .int .i64 _) rfl) ?_
           refine ⟨k + 1, ⟨rfl, trivial⟩, rfl, by rw [causesP, bitIf, if_pos hy1, Nat.one_mul]; rfl, (zP E_k E_u11), fun h3 E3 => by first | trivial | omega | (refine ⟨?_, ?_⟩ <;> omega), by first | omega | (dsimp only; omega), ?_⟩
           repeat (first | exact qU _ _ _ | refine wB (by decide) ?_ | refine qS rfl ?_ | refine wN rfl ?_)
          ·skip
           have hy1 : (decide (sel3 (when0 x v hh) (when1 x v cc mm.toNat) lf.toNat k = weekM x v hh cc mm.toNat lf.toNat) && decide (sel3 (when0 x v hh) (when1 x v cc mm.toNat) lf.toNat k < v)) = false := by
            rw [hs] at hy
            rw [Bool.eq_false_iff] at hy ⊢
            simp only [ne_eq, Bool.and_eq_true, decide_eq_true_eq] at hy ⊢
            omega
           refine qT ?_
           refine qC rfl ?_
           refine qA (qO rfl (by omega)) ?_
           refine qA (qB (v := .int .i64 _) rfl) ?_
           refine ⟨k + 1, ⟨rfl, trivial⟩, rfl, by rw [causesP, bitIf, hy1]; rfl, (zP E_k E_u11), fun h3 E3 => by first | trivial | omega | (refine ⟨?_, ?_⟩ <;> omega), by first | omega | (dsimp only; omega), ?_⟩
           repeat (first | exact qU _ _ _ | refine wB (by decide) ?_ | refine qS rfl ?_ | refine wN rfl ?_)
         ·skip
          have hk3 : k = 3 := by have := geI (n := 3) hk; omega
          subst hk3
          refine wU ?_
          refine qC rfl ?_
          refine qA (qB (v := .map _) rfl) ?_
          refine qX 5 (vs := [.int .i64 _, .int .i64 _]) rfl rfl rfl rfl rfl ?_
          refine op_mapUpdate 2 (a := failM x v hh cc mm.toNat lf.toNat) flK rfl rfl rfl rfl rfl ?_
          refine qH [_, _, _, _, _, _] rfl ?_
          refine qC rfl ?_
          refine qA (qB (v := .int .i64 _) rfl) ?_
          refine qA (qO rfl (by omega)) ?_
          refine qA (qE (v := .int .i64 _) rfl) ?_
          refine ⟨(lf + 1, acc4 ++ [failM x v hh cc mm.toNat lf.toNat]), ⟨rfl, trivial⟩, rfl, by dsimp only; rw [insAll_snoc]; rfl, (zP (zP (zP (zP (zP E_lf E_u) E_u2) E8) E9) E_k), fun h3 E3 => ⟨⟨by omega, by omega⟩, by rw [J_lf.2, fails4_succ J_lf.1.1, List.append_assoc]⟩, by first | omega | (dsimp only; omega), ?_⟩
          repeat (first | exact qU _ _ _ | refine wB (by decide) ?_ | refine qS rfl ?_ | refine wN rfl ?_)
      ·skip
       have hlf : lf = j.life.mx + 1 := by have := of_decide_eq_false hc4; omega
       refine wU ?_
       refine qC rfl ?_
       refine qA (qB (v := .int .i64 _) rfl) ?_
       refine qA (qO rfl (by omega)) ?_
       refine qA (qE (v := .int .i64 _) rfl) ?_
       refine ⟨(mm + 1, acc4), ⟨rfl, trivial⟩, rfl, rfl, (zP E_mm E_lf), fun h3 E3 => ⟨⟨by omega, by omega⟩, by rw [J_lf.2, J_mm.2, fails3_succ J_mm.1.1, hlf, List.append_assoc]⟩, by first | omega | (dsimp only; omega), ?_⟩
       repeat (first | exact qU _ _ _ | refine wB (by decide) ?_ | refine qS rfl ?_ | refine wN rfl ?_)
     ·skip
      have hmm : mm = j.weeks.mx + 1 := by have := of_decide_eq_false hc3; omega
      refine wU ?_
      refine qC rfl ?_
      refine qA (qB (v := .int .i64 _) rfl) ?_
      refine qA (qO rfl (by omega)) ?_
      refine qA (qE (v := .int .i64 _) rfl) ?_
      refine ⟨(cc + 1, acc3), ⟨rfl, trivial⟩, rfl, rfl, (zP (zP (zP E_cc E_v) E5) E_mm), fun h3 E3 => ⟨⟨by omega, by omega⟩, by rw [J_mm.2, J_cc.2, fails2_succ J_cc.1.1, hmm, List.append_assoc]⟩, by first | omega | (dsimp only; omega), ?_⟩
      repeat (first | exact qU _ _ _ | refine wB (by decide) ?_ | refine qS rfl ?_ | refine wN rfl ?_)
   ·skip
    have hcc : cc = j.low.mx + 1 := by have := of_decide_eq_false hc; omega
    refine wU ?_
    refine qC rfl ?_
    refine qA (qB (v := .int .i64 _) rfl) ?_
    refine qA (qO rfl (by omega)) ?_
    refine qA (qE (v := .int .i64 _) rfl) ?_
    refine ⟨(hh + 1, acc2), ⟨rfl, trivial⟩, rfl, rfl, (zP (zP E_hh E_w) E_cc), fun h3 E3 => ⟨⟨by omega, by omega⟩, by rw [J_cc.2, J_hh.2, fails1_succ J_hh.1.1, hcc]⟩, by first | omega | (dsimp only; omega), ?_⟩
    repeat (first | exact qU _ _ _ | refine wB (by decide) ?_ | refine qS rfl ?_ | refine wN rfl ?_)
 ·skip
  have hhh : hh = j.high.mx + 1 := by have := of_decide_eq_false ht; omega
  refine wU ?_
  refine qF ?_
  refine qC rfl ?_
  refine qA (qB (v := .map _) rfl) ?_
  refine qA (qE (v := .map _) rfl) ?_
  refine wK ?_
  refine qW (vs := [_]) Try.results71 ⟨qR rfl rfl, trivial⟩ fun V => ?_
  refine ⟨(zP E_hh (wE V)), b22, rfl, ?_⟩
  rw [wl_get V (i := 2) rfl, J_hh.2, hhh]
  rfl
end Go.Proofs.Ytgjcepdhclmglaa
namespace Go.HL
open Go
variable [Lvl]
section
variable {P : Program} {n : Nat} {ops : Array Oper} {d : Option Tmp} {op : Op} {ty : TypeId} {ps : String} {af : Array Edge} {os : List Oper} {K : Sl → Pv → AH → Prop} {E : Value → Sl → Pv → AH → Prop} {S : Sl} {L : Pv} {h : AH}
theorem op_allocF (i : Nat) {t : TypeId} {z : Value} {cs : List Value} (hi : L[i]? = some none) (hz : pev P (zeroValue t) = some z) (hcs : z.cells = cs.toArray)
  (k : ∀ b, wl h L b = none → wpL P n ops os K E (put S d (.pointer (some ⟨b, 0, none⟩))) (L.set i (some (b, .cells cs.toArray t (0, 0)))) h) : wpL P n ops (⟨d, .alloc t, ty, ps, af, none⟩ :: os) K E S L h := by
 refine op_of fun V => ?_
 unfold opW
 simp only [execOp]
 refine wJ (wJ (dem_pev hz ?_))
 refine wJ (wJ ?_)
 intro b hb
 rw [hcs]
 obtain ⟨e, V'⟩ := wl_fill V hi hb (.cells cs.toArray t (0, 0))
 exact ⟨_, h, e, V', k b hb⟩
theorem op_boxF (i : Nat) {t : TypeId} {x : Operand} {v : Value} {cs : List Value} (hi : L[i]? = some none) (hx : ev n S x = v) (hcs : v.cells = cs.toArray)
  (k : ∀ b, wl h L b = none → wpL P n ops os K E (put S d (.pointer (some ⟨b, 0, none⟩))) (L.set i (some (b, .cells cs.toArray t (0, 0)))) h) : wpL P n ops (⟨d, .box t x, ty, ps, af, none⟩ :: os) K E S L h := by
 refine op_of fun V => ?_
 unfold opW
 simp only [execOp, hx]
 refine wJ (wJ (wJ ?_))
 intro b hb
 rw [hcs]
 obtain ⟨e, V'⟩ := wl_fill V hi hb (.cells cs.toArray t (0, 0))
 exact ⟨_, h, e, V', k b hb⟩
theorem op_makeMapF (i : Nat) {t : TypeId} (hi : L[i]? = some none) (k : ∀ b, wl h L b = none → wpL P n ops os K E (put S d (.map (some b))) (L.set i (some (b, mapO []))) h) : wpL P n ops (⟨d, .makeMap t none, ty, ps, af, none⟩ :: os) K E S L h := by
 refine op_of fun V => ?_
 unfold opW
 simp only [execOp, Option.map]
 refine wJ ?_
 unfold Instr.makeMap
 refine wJ ?_
 intro b hb
 obtain ⟨e, V'⟩ := wl_fill V hi hb (mapO [])
 exact ⟨_, h, e, V', k b hb⟩
end
section
variable {P : Program} {n : Nat} {ro : Option Nat} {K : Post} {S : Sl} {D : Df} {L : Pv} {h : AH}
theorem xp_loopN {c : Code} (M : List Nat) {α : Type} (V : α → List (Nat × Value)) (Lf : α → Pv) (J : α → AH → Prop) (μ : α → Nat) (a0 : α) (hV : HasL S (V a0)) (hL : Lf a0 = L) (h0 : J a0 h)
  (round : ∀ (a : α) (T : Sl) (h' : AH), Ext h h' → J a h' → xp P n ro c (thenK (fun S2 D2 L2 h2 => ∃ a2, HasL S2 (V a2) ∧ D2 = D ∧ L2 = Lf a2 ∧ Ext h h2 ∧ J a2 h2 ∧ μ a2 < μ a ∧ Off M S S2) K) (updL (mix M T S) (V a)) D (Lf a) h') :
  xp P n ro (.loop c) K S D L h := by
 have key : ∀ u a h' T, μ a = u → Ext h h' → J a h' → Goes P n ro ([.code c] ++ [.inLoop c]) K (updL (mix M T S) (V a)) D (Lf a) h' := by
  intro u
  induction u using Nat.strongRecOn with
  | _ u ih =>
   intro a h' T hm hE hJ
   refine goes_append trivial (Goes.mono (round a T h' hE hJ) ?_)
   intro e S2 D2 L2 h2 kk
   cases e with
   | normal =>
    obtain ⟨a2, hv, hD, hL2, E2, hJ2, hlt, off⟩ := kk
    subst hD hL2
    have e2 : updL (mix M S2 S) (V a2) = S2 := updL_self M S S2 off _ _ (mix_self off) hv
    have := ih (μ a2) (hm ▸ hlt) a2 h2 S2 rfl E2 hJ2
    rw [e2] at this
    exact goes_step (items' := [.code c] ++ [.inLoop c]) (fun b hb k cs w => by simp [stepG, stepG.exec, mk]) this
   | exit id => exact kk
   | ret => exact kk
   | panic v => exact kk
 have e0 : updL (mix M S S) (V a0) = S := updL_self M S S (zE M S) _ _ (mix_self (zE M S)) hV
 have := key _ a0 h S rfl (Ext.refl h) h0
 rw [e0, hL] at this
 exact goes_step (items' := [.code c] ++ [.inLoop c]) (fun b hb k cs w => by simp [stepG, stepG.exec, mk]) this
end
theorem dw_pub {P : Program} {n : Nat} {ops : Array Oper} {X : Sl → AH → Prop} {dn ac : List Nat} {S : Sl} {L : Pv} {h : AH} (i : Nat) {b : Nat} {o : Obj} (hi : L[i]? = some (some (b, o))) (k : ∀ h', Ext h h' → h' b = some o → Dw P n ops [] X dn ac S (L.set i none) h') : Dw P n ops [] X dn ac S L h := by
 intro V G hG
 have k1 := k (hupd h b o) (Ext.new (Ext.refl h) (wl_fresh V hi) o) (by simp [hupd]) (valid_pub V hi) G (by
  intro g hg
  obtain ⟨h1, h2, h3⟩ := hG g hg
  refine ⟨h1, h2, ?_⟩
  have e : wl (hupd h b o) (rmM [] (L.set i none)) = wl h (rmM [] L) := (wl_pub V hi).symm
  rw [e]
  exact h3)
 rw [← wl_pub V hi] at k1
 exact k1
def Yields {α : Type} (P : Program) (y : Value) (all : List α) (enc : α → Value) (I : Nat → AH → Pv → Prop) : Prop :=
 ∀ (k : Nat) (x : α) (h : AH) (M : Pv), all[k]? = some x → I k h M → FnM P y [enc x] h M (fun v h' M' => v = .bool true ∧ I (k + 1) h' M')
def Iter {α : Type} (P : Program) (f : Value) (h0 : AH) (all : List α) (enc : α → Value) : Prop :=
 ∀ (fn : Fn) (fs cs : Array Value) (I : Nat → AH → Pv → Prop), (∀ k h h' M, Ext h h' → I k h M → I k h' M) → Yields P (.func fn fs cs) all enc I → ∀ h M, Ext h0 h → I 0 h M → FnM P f [.func fn fs cs] h M (fun _ h' M' => I all.length h' M')
theorem Iter.ext {α : Type} {P : Program} {f : Value} {h h' : AH} {all : List α} {enc : α → Value} (i : Iter P f h all enc) (E : Ext h h') : Iter P f h' all enc :=
 fun fn fs cs I hI Y h1 M E1 => i fn fs cs I hI Y h1 M (E.trans E1)
end Go.HL
