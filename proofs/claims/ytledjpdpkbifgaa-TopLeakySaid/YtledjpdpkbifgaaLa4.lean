/- An own logic over the model, its walks and its plain laws, joined of parts GE GF GG GH GI Rb GJ GU GV GK GL GM GN GO GS GT GW GX GY Rc Rd Re Rf Rg Rh Ri Rj Rs Rv GZ HA W17 W18 Sy W19 Sz W20 W21 W22 BB W23 W24 Ta W25 Tb Tc Td U CC W26 Te W27. Conditions: as each theorem states. -/
import Derived.Test.YtledjpdpkbifgaaLa3
import Derived.Conc.CrowdComm
import Derived.Conc.EventLaws
import Derived.Test.YtledjpdpkbifgaaLa1
import Derived.Test.YtledjpdpkbifgaaLa2
set_option linter.all false
/- The own logic, part GE: one goroutine that sends beside goroutine 0 that receives: the theorem. Conditions: none. -/
namespace Go.HL
open Go Go.Conc Go.ConcN

/-- Goroutine 0's walk in the phase; the worker's. -/
abbrev RM (P : Program) (c : Nat) := @Rch ⟨false, none, some c⟩ P
abbrev RW (P : Program) (c : Nat) := @Rch ⟨false, some c, none⟩ P
def QW (R : AH) (c : Nat) (cw : List Frame) (WorkEnd : Frame → AH → Prop) : Frame → List Frame → AH → Prop := fun fr cs h => cs = cw ∧ ∃ hw, h = hun hw (zw R c []) ∧ hw c = none ∧ Disj hw R ∧ WorkEnd fr hw
/-- Goroutine 0 waits at its receive. -/
def MW (P : Program) (R : AH) (c : Nat) (Q : Frame → List Frame → AH → Prop) (z : Value) (vs : List Value) (fr : Frame) (cs : List Frame) (hm : AH) : Prop :=
  (∀ w, stepG P true (G fr cs) w = .comm (G fr cs) #[rcase c z] true (.recv true) w) ∧
    match vs with
    | v :: us => RM P c Q (fr.finish (.tuple #[v, .bool true])) cs (hun hm (zw R c us))
    | [] => RM P c Q (fr.finish (.tuple #[z, .bool false])) cs (hun hm (zx R c))

/-- What the two do: goroutine 0 sees the channel closed; the worker, all sent, closes and leaves. -/
structure Cert (P : Program) (R : AH) (c : Nat) (tm : Bool) (cw : List Frame) (Q : Frame → List Frame → AH → Prop) (WorkEnd : Frame → AH → Prop) : Prop where
  rows : OnlyRows R
  seen : ∀ fr cs h, Q fr cs h → h c = some gone
  close : ∀ fr hw, WorkEnd fr hw → mayWake P (G fr cw) = true ∧ ∃ (g2 : Goroutine) (es : Array Event) (n : Nat), (∀ (w : World) s r, w.heap[c]? = some (.chan 0 #[] false s r tm) → stepG P false (G fr cw) w = .go g2 (w.shut c s r tm) (es.push ⟨.obj c, true, true⟩)) ∧
    (∀ e ∈ es, e = ⟨.obj c, false, true⟩) ∧ QuitsD P n 0 g2

theorem hun_inj {X Y R : AH} (e : hun X (zf R) = hun Y (zf R)) (d : Disj X R) (d2 : Disj Y R) : X = Y := by
  funext b
  have e1 := congrFun e b
  simp only [hun] at e1
  cases hx : X b with
  | some o =>
    have hr : R b = none := d.right hx
    rw [hx] at e1
    simp only [zf, hr, Option.map_none] at e1
    cases hy : Y b with
    | some o' => rw [hy] at e1; exact e1
    | none => rw [hy] at e1; cases e1
  | none =>
    cases hy : Y b with
    | none => rfl
    | some o' =>
      have hr : R b = none := d2.right hy
      rw [hx, hy] at e1
      simp only [zf, hr, Option.map_none] at e1
      cases e1
theorem zw_c {X R : AH} {c : Nat} {vs : List Value} (h : X c = none) : hun X (zw R c vs) c = some (gch vs) := by simp [hun, h, zw, oneC_same]
theorem gch_inj {vs us : List Value} (e : gch vs = gch us) : vs = us := by
  unfold gch at e
  injection e with _ e1
  simpa using e1
theorem hunc_inj {X Y R : AH} {c : Nat} {vs us : List Value} (e : hun X (zw R c vs) = hun Y (zw R c us)) (h1 : X c = none) (h2 : Y c = none) (d : Disj X R) (d2 : Disj Y R) : X = Y ∧ vs = us := by
  have e0 := congrFun e c
  rw [zw_c h1, zw_c h2] at e0
  refine ⟨hun_inj ?_ d d2, gch_inj (Option.some.inj e0)⟩
  funext b
  have e1 := congrFun e b
  by_cases hb : b = c
  · subst hb
    simp [hun, h1, h2]
  · have hz : ∀ us : List Value, zw R c us b = zf R b := fun us => by simp [zw, hun, oneC_ne hb]
    simp only [hun, hz] at e1 ⊢
    exact e1
theorem zx_c {X R : AH} {c : Nat} (h : X c = none) : hun X (zx R c) c = some gone := by simp [hun, h, zx, oneC_same]
theorem zw_last {X R : AH} {c : Nat} {vs : List Value} (h : X c = none) : hupd (hun X (zw R c vs)) c gone = hun X (zx R c) := by
  funext b
  by_cases hb : b = c
  · subst hb
    simp [hupd, hun, h, zx, oneC_same]
  · simp [hupd, hun, hb, zw, zx, oneC_ne hb]
theorem gch_gone {vs : List Value} : gch vs ≠ gone := by unfold gch gone; intro e; injection e with e1; cases e1
theorem zw_next {X R : AH} {c : Nat} {v : Value} {vs : List Value} (h : X c = none) : hupd (hun X (zw R c (v :: vs))) c (gch vs) = hun X (zw R c vs) := by
  funext b
  by_cases hb : b = c
  · subst hb
    simp [hupd, hun, h, zw, oneC_same]
  · simp [hupd, hun, hb, zw, oneC_ne hb]

/-- Whoever is not woken while the channel is open. -/
def Firm (c : Nat) (tm : Bool) (g : Goroutine) : Prop := awake g ∧ ∀ (w : World) s r, w.heap[c]? = some (.chan 0 #[] false s r tm) → g.again w = g
theorem firm_run {c : Nat} {tm : Bool} {g : Goroutine} (h : g.status = .running) : Firm c tm g := ⟨awake_of (.inl h), fun _ _ _ _ => again_running _ (.inl h)⟩
theorem firm_parked {c : Nat} {tm : Bool} {g : Goroutine} {x : CommCase} {sh : CommShape} (hk : x.chan = .chan (some c)) : Firm c tm (parked g #[x] sh) := ⟨awake_of (.inr (.inl rfl)), fun _ _ _ hc => again_parked_open hk hc⟩

section
variable {P : Program} {R F : AH} {c k : Nat} {tm : Bool} {w0 : World} {gs : Array Goroutine} {w : World} {t : Trace} {q : Nat → Nat} {hm hw : AH} {s r : Nat} {a b : Goroutine} {cw : List Frame}
theorem one_at {X R : AH} {c : Nat} {o : Obj} (d : Disj X (hun (oneC c o) R)) : X c = none := by
  rcases d c with h | h
  · exact h
  · simp [hun, oneC_same] at h
theorem St.stay (st : St P R F c k tm w0 gs w t q hm hw s r a b) {g : Goroutine} (h : Firm c tm g) : Stay w g := ⟨h.1, fun d => h.2 (w.at d) s r st.open⟩
/-- A node of goroutine 0's walk. -/
theorem St.sem0 {Goal : Machine → Trace → Prop} {fr : Frame} {cs : List Frame} {β : Type} {x : Sem β} {ok : β → Prop} {okp : Value → Prop} {nxt : β → Frame × List Frame} {pan : Value → Frame × List Frame} {X : β → AH → Prop} {Y : Value → AH → Prop} {vs : List Value}
    (hR : OnlyRows R) (hs : StepBy P fr cs x ok okp nxt pan) (hd : dem P x (hun hm (zw R c vs)) X Y) (hok : ∀ b h', X b h' → ok b) (hokp : ∀ v h', Y v h' → okp v) (fb : Firm c tm b)
    (hx : ∀ v hm' gs w sl t q, X v (hun hm' (zw R c vs)) → St P R F c k tm w0 gs w t q hm' hw s r (G (nxt v).1 (nxt v).2) b → Must P Goal (crowd gs w sl) t)
    (hy : ∀ v hm' gs w sl t q, Y v (hun hm' (zw R c vs)) → St P R F c k tm w0 gs w t q hm' hw s r (G (pan v).1 (pan v).2) b → Must P Goal (crowd gs w sl) t)
    (gs : Array Goroutine) (w : World) (sl : Option (Nat × Nat)) (t : Trace) (q : Nat → Nat) (st : St P R F c k tm w0 gs w t q hm hw s r (G fr cs) b) : ∃ m ops, runT P (crowd gs w sl) 0 = (.next m, ops) ∧ Must P Goal m (t ++ ops) := by
  obtain ⟨hm', w', z, hev, ho⟩ := st.run0 hR vs hd
  have hop : w'.heap[c]? = some (.chan 0 #[] false s r tm) := by
    have e0 := one_at (o := .chan 0 #[] false s r tm) z.disj
    show absH w'.heap c = _
    rw [z.heap]
    simp [hun, e0, oneC_same]
  have ha : b.again w' = b := fb.2 w' s r hop
  rcases ho with ⟨v, e, kk⟩ | ⟨v, e, kk⟩
  · obtain ⟨es, hgo, hes⟩ := tells_eq.1 ((hs true w).1 v w' e (hok _ _ kk))
    obtain ⟨gs', ops, e1, st'⟩ := st.step0 sl hgo z (fun e he => (hev #[] e (hes e he)).resolve_left (by simp)) ha
    exact ⟨_, ops, e1, hx v hm' gs' w' sl _ q kk st'⟩
  · obtain ⟨es, hgo, hes⟩ := tells_eq.1 ((hs true w).2 v w' e (hokp _ _ kk))
    obtain ⟨gs', ops, e1, st'⟩ := st.step0 sl hgo z (fun e he => (hev #[] e (hes e he)).resolve_left (by simp)) ha
    exact ⟨_, ops, e1, hy v hm' gs' w' sl _ q kk st'⟩

/-- A node of the worker's walk. -/
theorem St.semk {Goal : Machine → Trace → Prop} {fr : Frame} {cs : List Frame} {β : Type} {x : Sem β} {ok : β → Prop} {okp : Value → Prop} {nxt : β → Frame × List Frame} {pan : Value → Frame × List Frame} {X : β → AH → Prop} {Y : Value → AH → Prop} {vs : List Value}
    (hR : OnlyRows R) (hs : StepBy P fr cs x ok okp nxt pan) (hd : dem P x (hun hw (zw R c vs)) X Y) (hok : ∀ b h', X b h' → ok b) (hokp : ∀ v h', Y v h' → okp v) (fa : Firm c tm a)
    (hx : ∀ v hw' gs w sl t q, X v (hun hw' (zw R c vs)) → St P R F c k tm w0 gs w t q hm hw' s r a (G (nxt v).1 (nxt v).2) → Must P Goal (crowd gs w sl) t)
    (hy : ∀ v hw' gs w sl t q, Y v (hun hw' (zw R c vs)) → St P R F c k tm w0 gs w t q hm hw' s r a (G (pan v).1 (pan v).2) → Must P Goal (crowd gs w sl) t)
    (gs : Array Goroutine) (w : World) (sl : Option (Nat × Nat)) (t : Trace) (q : Nat → Nat) (st : St P R F c k tm w0 gs w t q hm hw s r a (G fr cs)) : ∃ m ops, runT P (crowd gs w sl) k = (.next m, ops) ∧ Must P Goal m (t ++ ops) := by
  obtain ⟨hw', w', z, hev, ho⟩ := st.runk hR vs hd
  have hop : w'.heap[c]? = some (.chan 0 #[] false s r tm) := by
    have e0 := one_at (o := .chan 0 #[] false s r tm) z.disj
    show absH w'.heap c = _
    rw [z.heap]
    simp [hun, e0, oneC_same]
  have ha : a.again w' = a := fa.2 w' s r hop
  rcases ho with ⟨v, e, kk⟩ | ⟨v, e, kk⟩
  · obtain ⟨es, hgo, hes⟩ := tells_eq.1 ((hs false w).1 v w' e (hok _ _ kk))
    obtain ⟨gs', ops, e1, st'⟩ := st.stepk sl hgo z (fun e he => (hev #[] e (hes e he)).resolve_left (by simp)) ha
    exact ⟨_, ops, e1, hx v hw' gs' w' sl _ q kk st'⟩
  · obtain ⟨es, hgo, hes⟩ := tells_eq.1 ((hs false w).2 v w' e (hokp _ _ kk))
    obtain ⟨gs', ops, e1, st'⟩ := st.stepk sl hgo z (fun e he => (hev #[] e (hes e he)).resolve_left (by simp)) ha
    exact ⟨_, ops, e1, hy v hw' gs' w' sl _ q kk st'⟩

theorem St.leaver (st : St P R F c k tm w0 gs w t q hm hw s r a b) {j : Nat} {g : Goroutine} (hj : j ≠ 0) (hk : j ≠ k) (hg : gs[j]? = some g) : g.status ≠ .blocked := by
  have := (st.crew.old j g (by simp [hj, hk]) hg).status
  rcases this with h | h <;> rw [h] <;> simp
/-- Goroutine 0's place is laid anew, or the worker's, or both: memory as it was, but the channel's block. -/
theorem St.relay {gs' : Array Goroutine} {w' : World} {u : Trace} {a' b' : Goroutine} {s' r' : Nat} (st : St P R F c k tm w0 gs w t q hm hw s r a b) (hs : gs'.size = gs.size) (h0 : gs'[0]? = some a') (hk : gs'[k]? = some b')
    (hg : ∀ j x, ¬ (j = 0 ∨ j = k) → gs[j]? = some x → gs'[j]? = some x) (he : SameEnv w w') (hh : absH w'.heap = hupd (absH w.heap) c (.chan 0 #[] false s' r' tm)) (hz : w'.heap.size = w.heap.size)
    (hu : ∀ op ∈ u, (op.g = 0 ∨ op.g = k) ∧ op.act.touch? = none ∧ (op.act ≠ .mark .disable ∧ op.act ≠ .mark .enable) ∧ op.act.low w.heap.size) : St P R F c k tm w0 gs' w' (t ++ u) q hm hw s' r' a' b' := by
  have e0 := oneC_same c (.chan 0 #[] false s r tm)
  have hlt := lt_of_get st.g0
  have hltk := lt_of_get st.gk
  have e1 : hm c = none := (st.mC c).resolve_right (by rw [e0]; simp)
  have e2 : hw c = none := (st.wC c).resolve_right (by rw [e0]; simp)
  have e3 : R c = none := (st.rC c).resolve_right (by rw [e0]; simp)
  refine ⟨h0, hk, st.k0, ?_, st.mw, st.mR, st.wR, disj_oneC st.mC, disj_oneC st.wC, disj_oneC st.rC, st.mF, st.wF, st.rF, st.cF, ?_, ?_, st.env.trans he⟩
  · rw [hh, st.heap]
    funext x
    by_cases hx : x = c
    · subst hx
      simp [hupd, hun, e1, e2, e3, oneC_same]
    · simp [hupd, hun, hx, oneC_ne hx]
  · refine st.crew.app _ (fun op hop => ⟨(hu op hop).1, ?_⟩) hs hg
    rcases (hu op hop).1 with h | h <;> rw [h]
    · exact hlt
    · exact hltk
  · rw [hz]
    exact st.duo.mute (fun op hop => (hu op hop).2.2.2) (fun op hop => (hu op hop).2.1) fun op hop => .inr (hu op hop).2.2.1
theorem hupd_self {H : AH} {b : Nat} {o : Obj} (h : H b = some o) : hupd H b o = H := by
  funext x
  by_cases hx : x = b
  · subst hx; simp [hupd, h]
  · simp [hupd, hx]
theorem ofEvents_nil {g : Nat} {fn : FuncId} {pos : String} : MemOp.ofEvents g fn pos #[] = #[] := rfl

/-- Goroutine 0 comes to the receive; the worker is on its way. -/
theorem St.recvWaits {z : Value} {fr : Frame} {cs0 : List Frame} (hst : ∀ w, stepG P true (G fr cs0) w = .comm (G fr cs0) #[rcase c z] true (.recv true) w) (hb : b.status = .running) (sl : Option (Nat × Nat))
    (st : St P R F c k tm w0 gs w t q hm hw s r (G fr cs0) b) : ∃ gs', runT P (crowd gs w sl) 0 = (.next (crowd gs' w sl), #[]) ∧ St P R F c k tm w0 gs' w (t ++ #[]) q hm hw s r (parked (G fr cs0) #[rcase c z] (.recv true)) b := by
  have hlt := lt_of_get st.g0
  have np : partners (gs.setIfInBounds 0 ph) c true = [] := by
    refine partners_nil fun j g hj => ?_
    rcases getElem?_stand gs 0 j g hj with ⟨_, rfl⟩ | ⟨hj0, hj1⟩
    · rfl
    · refine offersAt_of_not_blocked ?_ _ _
      by_cases hjk : j = k
      · subst hjk; rw [st.gk] at hj1; cases hj1; rw [hb]; simp
      · exact st.leaver hj0 hjk hj1
  have nw : ∀ cc ∈ #[rcase c z], NoWays w (gs.setIfInBounds 0 ph) cc := by
    intro cc hcc
    simp only [List.mem_toArray, List.mem_singleton] at hcc
    subst hcc
    refine ⟨made_recv z st.open, ?_⟩
    simp [ways, rcase, st.open, np]
  refine ⟨_, crowd_waits st.g0 (show stepG P (0 == 0) (G fr cs0) w = _ from hst w) nw, st.relay (by simp) (by simp [hlt]) (by rw [Array.getElem?_setIfInBounds_ne (fun e => st.k0 e.symm)]; exact st.gk) (fun j x hj hx => by rw [Array.getElem?_setIfInBounds_ne (fun e => hj (.inl e.symm))]; exact hx) (.refl w) (hupd_self st.chan).symm rfl (by simp)⟩
/-- The worker comes to the send; goroutine 0 is on its way. -/
theorem St.sendWaits {v z : Value} {fr : Frame} {cw : List Frame} (hst : ∀ w, stepG P false (G fr cw) w = .comm (G fr cw) #[scase c v z] true .send w) (ha : a.status = .running) (sl : Option (Nat × Nat))
    (st : St P R F c k tm w0 gs w t q hm hw s r a (G fr cw)) : ∃ gs', runT P (crowd gs w sl) k = (.next (crowd gs' w sl), #[]) ∧ St P R F c k tm w0 gs' w (t ++ #[]) q hm hw s r a (parked (G fr cw) #[scase c v z] .send) := by
  have hk0 : (k == 0) = false := by simp [st.k0]
  have hltk := lt_of_get st.gk
  have np : partners (gs.setIfInBounds k ph) c false = [] := by
    refine partners_nil fun j g hj => ?_
    rcases getElem?_stand gs k j g hj with ⟨_, rfl⟩ | ⟨hjk, hj1⟩
    · rfl
    · refine offersAt_of_not_blocked ?_ _ _
      by_cases hj0 : j = 0
      · subst hj0; rw [st.g0] at hj1; cases hj1; rw [ha]; simp
      · exact st.leaver hj0 hjk hj1
  have nw : ∀ cc ∈ #[scase c v z], NoWays w (gs.setIfInBounds k ph) cc := by
    intro cc hcc
    simp only [List.mem_toArray, List.mem_singleton] at hcc
    subst hcc
    refine ⟨made_send v z st.open, ?_⟩
    simp [ways, scase, st.open, np]
  refine ⟨_, crowd_waits st.gk (show stepG P (k == 0) (G fr cw) w = _ by rw [hk0]; exact hst w) nw, st.relay (by simp) (by rw [Array.getElem?_setIfInBounds_ne st.k0]; exact st.g0) (by simp [hltk]) (fun j x hj hx => by rw [Array.getElem?_setIfInBounds_ne (fun e => hj (.inr e.symm))]; exact hx) (.refl w) (hupd_self st.chan).symm rfl (by simp)⟩
/-- The worker sends, and goroutine 0 waits. -/
theorem St.sendMeets {v z z0 : Value} {fr frm : Frame} {cs0 : List Frame} (hst : ∀ w, stepG P false (G fr cw) w = .comm (G fr cw) #[scase c v z] true .send w) (sl : Option (Nat × Nat))
    (st : St P R F c k tm w0 gs w t q hm hw s r (parked (G frm cs0) #[rcase c z0] (.recv true)) (G fr cw)) :
    ∃ gs' w' ops, runT P (crowd gs w sl) k = (.next (crowd gs' w' sl), ops) ∧ St P R F c k tm w0 gs' w' (t ++ ops) q hm hw (s + 1) (r + 1) (G (frm.finish (.tuple #[v, .bool true])) cs0) (G (fr.finish undef) cw) := by
  have hk0 : (k == 0) = false := by simp [st.k0]
  have hltk := lt_of_get st.gk
  have hlt := lt_of_get st.g0
  have np : partners (gs.setIfInBounds k ph) c false = [(0, 0)] := by
    have h0 : (gs.setIfInBounds k ph)[0]? = some (parked (G frm cs0) #[rcase c z0] (.recv true)) := by rw [Array.getElem?_setIfInBounds_ne st.k0]; exact st.g0
    rw [partners_one h0 fun j x hj hx => ?_]
    · rw [offersAt_parked_recv]; simp
    · rcases getElem?_stand gs k j x hx with ⟨_, rfl⟩ | ⟨hjk, hj1⟩
      · rfl
      · exact offersAt_of_not_blocked (st.leaver hj hjk hj1) _ _
  have e := crowd_send_meets (sl := sl) st.gk (show stepG P (k == 0) (G fr cw) w = _ by rw [hk0]; exact hst w) st.open (fun e => st.k0 e.symm) st.g0 np
  refine ⟨_, _, _, e, st.relay (by simp) ?_ ?_ ?_ ⟨rfl, rfl, rfl⟩ ?_ (by simp [World.setChan]) ?_⟩
  · rw [Array.getElem?_setIfInBounds_ne st.k0, finishComm_recv]
    simp only [hlt, Array.getElem?_setIfInBounds_self_of_lt]
    rfl
  · rw [finishComm_send]
    simp [hltk]
    rfl
  · intro j x hj hx
    rw [Array.getElem?_setIfInBounds_ne (fun e => hj (.inr e.symm)), Array.getElem?_setIfInBounds_ne (fun e => hj (.inl e.symm))]
    exact hx
  · exact absH_set _ _ _ _ st.chan
  · have := st.clt
    intro op hop
    simp only [ofEvents_nil, Array.empty_append, List.mem_toArray, List.mem_cons, List.not_mem_nil, or_false] at hop
    rcases hop with rfl | rfl | rfl | rfl <;> simp [MemAct.touch?, MemAct.low, this]
/-- Goroutine 0 receives, and the worker waits. -/
theorem St.recvMeets {v z z0 : Value} {fr frm : Frame} {cs0 : List Frame} (hst : ∀ w, stepG P true (G frm cs0) w = .comm (G frm cs0) #[rcase c z0] true (.recv true) w) (sl : Option (Nat × Nat))
    (st : St P R F c k tm w0 gs w t q hm hw s r (G frm cs0) (parked (G fr cw) #[scase c v z] .send)) :
    ∃ gs' w' ops, runT P (crowd gs w sl) 0 = (.next (crowd gs' w' sl), ops) ∧ St P R F c k tm w0 gs' w' (t ++ ops) q hm hw (s + 1) (r + 1) (G (frm.finish (.tuple #[v, .bool true])) cs0) (G (fr.finish undef) cw) := by
  have hltk := lt_of_get st.gk
  have hlt := lt_of_get st.g0
  have np : partners (gs.setIfInBounds 0 ph) c true = [(k, 0)] := by
    have h0 : (gs.setIfInBounds 0 ph)[k]? = some (parked (G fr cw) #[scase c v z] .send) := by rw [Array.getElem?_setIfInBounds_ne (fun e => st.k0 e.symm)]; exact st.gk
    rw [partners_one h0 fun j x hj hx => ?_]
    · rw [offersAt_parked_send]; simp
    · rcases getElem?_stand gs 0 j x hx with ⟨_, rfl⟩ | ⟨hjk, hj1⟩
      · rfl
      · exact offersAt_of_not_blocked (st.leaver hjk hj hj1) _ _
  have e := crowd_recv_meets (sl := sl) st.g0 (show stepG P (0 == 0) (G frm cs0) w = _ from hst w) st.open st.k0 st.gk np
  refine ⟨_, _, _, e, st.relay (by simp) ?_ ?_ ?_ ⟨rfl, rfl, rfl⟩ ?_ (by simp [World.setChan]) ?_⟩
  · rw [finishComm_recv]
    simp [hlt]
    rfl
  · rw [Array.getElem?_setIfInBounds_ne (fun e => st.k0 e.symm), finishComm_send]
    simp only [hltk, Array.getElem?_setIfInBounds_self_of_lt]
    rfl
  · intro j x hj hx
    rw [Array.getElem?_setIfInBounds_ne (fun e => hj (.inl e.symm)), Array.getElem?_setIfInBounds_ne (fun e => hj (.inr e.symm))]
    exact hx
  · exact absH_set _ _ _ _ st.chan
  · have := st.clt
    intro op hop
    simp only [ofEvents_nil, Array.empty_append, List.mem_toArray, List.mem_cons, List.not_mem_nil, or_false] at hop
    rcases hop with rfl | rfl | rfl | rfl <;> simp [MemAct.touch?, MemAct.low, this]
end
end Go.HL
/- The own logic, part GF: one goroutine that sends beside goroutine 0 that receives: from the start to the end. Conditions: none. -/
namespace Go.HL
open Go Go.Conc Go.ConcN

/-- The channel is closed; the worker only leaves. -/
structure Sh (P : Program) (R F : AH) (c : Nat) (tm : Bool) (w0 : World) (gs : Array Goroutine) (w : World) (t : Trace) (q : Nat → Nat) (hm hw : AH) (s r : Nat) (a : Goroutine) (pc : Nat) : Prop where
  g0 : gs[0]? = some a
  heap : absH w.heap = hun hm (hun hw (hun R (hun (oneC c (.chan 0 #[] true s r tm)) F)))
  mw : Disj hm hw
  mR : Disj hm R
  wR : Disj hw R
  mC : Disj hm (oneC c (.chan 0 #[] true s r tm))
  wC : Disj hw (oneC c (.chan 0 #[] true s r tm))
  rC : Disj R (oneC c (.chan 0 #[] true s r tm))
  mF : Disj hm F
  wF : Disj hw F
  rF : Disj R F
  cF : F c = none
  crew : Crew P (· = 0) t gs q
  shut : Shut c w.heap.size (fun b => hw b ≠ none) (fun b => R b ≠ none ∨ b = c) pc t
  env : SameEnv w0 w

/-- What is reached. -/
def Aim (P : Program) (F : AH) (w0 : World) (X : Frame → List Frame → AH → Prop) (m : Machine) (t : Trace) : Prop :=
  ∃ (gs' : Array Goroutine) (fr' : Frame) (cs' : List Frame) (h' : AH) (w' : World) (sl' : Option (Nat × Nat)) (q' : Nat → Nat),
    m = crowd gs' w' sl' ∧ gs'[0]? = some (G fr' cs') ∧ absH w'.heap = hun h' F ∧ Disj h' F ∧ Leavers P t gs' q' ∧ Past (fun _ => False) w'.heap.size t ∧ SameEnv w0 w' ∧ X fr' cs' h'

section
variable {P : Program} {R F : AH} {c k : Nat} {tm : Bool} {w0 : World} {cw : List Frame} {Q : Frame → List Frame → AH → Prop} {WorkEnd : Frame → AH → Prop} {X : Frame → List Frame → AH → Prop}

/-- What is asked of X. -/
def Ends (R : AH) (c : Nat) (tm : Bool) (Q : Frame → List Frame → AH → Prop) (WorkEnd : Frame → AH → Prop) (X : Frame → List Frame → AH → Prop) : Prop :=
  ∀ fr cs hm fr' hw s r, Q fr cs (hun hm (zx R c)) → WorkEnd fr' hw → Disj hm hw → Disj hm R → Disj hw R → hm c = none → hw c = none → R c = none →
    X fr cs (hun hm (hun hw (hun R (oneC c (.chan 0 #[] true s r tm)))))

theorem Sh.pick {Goal : Machine → Trace → Prop} {gs : Array Goroutine} {w : World} {t : Trace} {q : Nat → Nat} {hm hw : AH} {s r pc : Nat} {a : Goroutine} (sh : Sh P R F c tm w0 gs w t q hm hw s r a pc) (sl : Option (Nat × Nat)) (hr : a.status = .running)
    (h0 : ∀ gs w sl t q, Sh P R F c tm w0 gs w t q hm hw s r a pc → ∃ m ops, runT P (crowd gs w sl) 0 = (.next m, ops) ∧ Must P Goal m (t ++ ops)) : Must P Goal (crowd gs w sl) t := by
  have rd := slip (P := P) (Sp := (· = 0)) (J := Shut c w.heap.size (fun b => hw b ≠ none) (fun b => R b ≠ none ∨ b = c) pc) rfl
    (fun t i fn pos es hi hj hme => hj.mute (fun op hop => by obtain ⟨e, he, rfl⟩ := Go.Conc.mem_ofEvents hop; exact low_mute (hme e he) _) (fun op hop => by obtain ⟨e, he, rfl⟩ := Go.Conc.mem_ofEvents hop; exact touch_mute (hme e he))
      (fun op hop => by rw [g_ofEvents op hop]; exact hi)) _ gs w sl t q (Nat.le_refl _) sh.crew
    (fun i g hi hg => by subst hi; rw [sh.g0] at hg; cases hg; exact stay_run hr) ⟨0, a, rfl, sh.g0, hr⟩ sh.shut
  refine rd.bind ?_
  rintro m t1 ⟨gs1, d1, sl1, q1, i, g, d1', sl1', rfl, hsz, hkeep, hC1, hD1, rfl, hg, hrun, hst⟩
  have sh1 : Sh P R F c tm w0 gs1 (w.at d1') t1 q1 hm hw s r a pc := ⟨by rw [hkeep 0 rfl]; exact sh.g0, sh.heap, sh.mw, sh.mR, sh.wR, sh.mC, sh.wC, sh.rC, sh.mF, sh.wF, sh.rF, sh.cF, hC1, hD1, sh.env.trans ⟨rfl, rfl, rfl⟩⟩
  obtain ⟨m, ops, e, k⟩ := h0 _ _ sl1' _ _ sh1
  exact .step (hst.trans e) k

/-- Goroutine 0 goes on beside leavers; what it does not own is lent. -/
theorem tail (C : Cert P R c tm cw Q WorkEnd) (hX : Ends R c tm Q WorkEnd X) {fr : Frame} {cs : List Frame} {h : AH} (rM : RM P c Q fr cs h) :
    ∀ {hw : AH} {fr' : Frame} {s r : Nat}, WorkEnd fr' hw → Disj hw R → hw c = none → R c = none → Disj hw F → Disj R F → F c = none →
      ∀ (hm : AH) gs w sl t q, h = hun hm (zx R c) → gs[0]? = some (G fr cs) → absH w.heap = hun hm (hun hw (hun R (hun (oneC c (.chan 0 #[] true s r tm)) F))) → Disj hm hw → Disj hm R → hm c = none → Disj hm F → Leavers P t gs q → Past (fun _ => False) w.heap.size t → SameEnv w0 w →
        Must P (Aim P F w0 X) (crowd gs w sl) t := by
  have oneD : ∀ {A : AH} {o : Obj}, A c = none → Disj A (oneC c o) := by
    intro A o hA b
    by_cases hb : b = c
    · subst hb; exact .inl hA
    · exact .inr (oneC_ne hb)
  induction rM with
  | far hl _ _ _ _ _ => cases hl
  | send hl _ _ _ _ => cases hl
  | recv hl hc _ _ _ =>
    intro hw fr' s r hW wR wc rc wF rF cF hm gs w sl t q e g0 hh mw mR mc mF hL hP env
    cases Option.some.inj hl
    rw [e, zx_c mc] at hc
    exact absurd (Option.some.inj hc).symm gch_gone
  | last hl hc _ _ _ =>
    intro hw fr' s r hW wR wc rc wF rF cF hm gs w sl t q e g0 hh mw mR mc mF hL hP env
    cases Option.some.inj hl
    rw [e, zx_c mc] at hc
    exact absurd (Option.some.inj hc).symm gch_gone
  | @done fr1 cs1 h1 qm =>
    intro hw fr' s r hW wR wc rc wF rF cF hm gs w sl t q e g0 hh mw mR mc mF hL hP env
    subst e
    refine .done ⟨gs, fr1, cs1, hun hm (hun hw (hun R (oneC c (.chan 0 #[] true s r tm)))), w, sl, q, rfl, g0, ?_, ?_, hL, hP, env, hX _ _ _ _ _ _ _ qm hW mw mR wR mc wc rc⟩
    · rw [hh]; simp only [hun_assoc]
    · exact Disj.hun_left mF (Disj.hun_left wF (Disj.hun_left rF ((oneD cF).symm)))
  | @sem fr1 cs1 h1 β x ok okp nxt pan X' Y' hs hd hok hokp _ _ ihx ihy =>
    intro hw fr' s r hW wR wc rc wF rF cF hm gs w sl t q e g0 hh mw mR mc mF hL hP env
    subst e
    have rd := slip (P := P) (Sp := (· = 0)) (J := Past (fun _ => False) w.heap.size) rfl (fun t i fn pos es hi hj hm => hj.mute hi hm) _ gs w sl t q (Nat.le_refl _) (Crew.of hL)
      (fun i g hi hg => by subst hi; rw [g0] at hg; cases hg; exact stay_run rfl) ⟨0, _, rfl, g0, rfl⟩ hP
    refine rd.bind ?_
    rintro m t1 ⟨gs1, d1, sl1, q1, i, g, d1', sl1', rfl, hsz, hkeep, hC1, hP1, hi, hg, hrun, hst⟩
    subst hi
    rw [hkeep 0 rfl, g0] at hg
    cases hg
    have hg0 : gs1[0]? = some (G fr1 cs1) := by rw [hkeep 0 rfl]; exact g0
    have hlt := lt_of_get hg0
    obtain ⟨hm', w', zz, hev, ho⟩ := dem_runZ (lent_zx (tm := tm) C.rows rc (cl := true) s r) (F := hun hw F) hm (w.at d1')
      (by show absH w.heap = _; rw [hh, hun_assoc, hun_assoc, hun_swap wR, hun_swap (oneD wc), hun_swap (oneD rc)]) ((oneD mc).hun mR)
      (Disj.hun_left (mw.hun mF) (Disj.hun_left ((oneD wc).symm.hun (oneD cF).symm) (wR.symm.hun rF))) hd
    obtain ⟨dO, dR⟩ := zz.disj.of_hun_right
    obtain ⟨da, _⟩ := zz.disjF.of_hun
    obtain ⟨d3, d6⟩ := da.of_hun_right
    have mc' : hm' c = none := (dO c).resolve_right (by rw [oneC_same]; simp)
    have hXl : ∀ b, hm' b ≠ none → b < w'.heap.size := fun b hb => absH_lt zz.heap (fun e => hb (hun_none (hun_none e).1).1)
    have hRl : ∀ b, hun (oneC c (.chan 0 #[] true s r tm)) R b ≠ none → b < w'.heap.size := fun b hb => absH_lt zz.heap (fun e => hb (hun_none (hun_none e).1).2)
    have go : ∀ (fr2 : Frame) (cs2 : List Frame), (stepG P true (G fr1 cs1) (w.at d1')).tells (x.events P (w.at d1') #[]) (G fr2 cs2) w' →
        (∀ gs sl t q, gs[0]? = some (G fr2 cs2) → Leavers P t gs q → Past (fun _ => False) w'.heap.size t → Must P (Aim P F w0 X) (crowd gs w' sl) t) → Must P (Aim P F w0 X) (crowd gs1 (w.at d1) sl1) t1 := by
      intro fr2 cs2 ht kk
      obtain ⟨es, hgo, hes⟩ := tells_eq.1 ht
      have hev' : ∀ e ∈ es, EvOK hm' (hun (oneC c (.chan 0 #[] true s r tm)) R) e := fun e he => (hev #[] e (hes e he)).resolve_left (by simp)
      have e := runT_crowd_go (P := P) (sl := sl1') (i := 0) hg0 (show stepG P (0 == 0) (G fr1 cs1) (w.at d1') = _ from hgo)
      refine .step (hst.trans e) (kk _ sl1' _ q1 (by simp [hlt]) ?_ ?_)
      · exact (hC1.app _ (fun op hop => by rw [g_ofEvents op hop]; exact ⟨rfl, hlt⟩) (by simp) (crew_keep hC1 rfl _ _ _)).to
      · exact (hP1.mono zz.size).own fun e he => (hev' e he).low hXl hRl
    have hh' : absH w'.heap = hun hm' (hun hw (hun R (hun (oneC c (.chan 0 #[] true s r tm)) F))) := by
      rw [zz.heap, hun_assoc, hun_assoc, hun_swap wR.symm, hun_swap (oneD wc).symm, hun_swap (b := R) (oneD rc).symm]
    have z0 : SameEnv w (w.at d1') := ⟨rfl, rfl, rfl⟩
    rcases ho with ⟨v, e, kk⟩ | ⟨v, e, kk⟩
    · exact go _ _ ((hs true (w.at d1')).1 v w' e (hok _ _ kk)) fun gs sl t q a1 a2 a3 => ihx v _ kk hW wR wc rc wF rF cF hm' gs w' sl t q rfl a1 hh' d3 dR mc' d6 a2 a3 ((env.trans z0).trans zz.env)
    · exact go _ _ ((hs true (w.at d1')).2 v w' e (hokp _ _ kk)) fun gs sl t q a1 a2 a3 => ihy v _ kk hW wR wc rc wF rF cF hm' gs w' sl t q rfl a1 hh' d3 dR mc' d6 a2 a3 ((env.trans z0).trans zz.env)

/-- Goroutine 0 finds the channel closed. -/
theorem Sh.recv (C : Cert P R c tm cw Q WorkEnd) (hX : Ends R c tm Q WorkEnd X) {z : Value} {gs : Array Goroutine} {w : World} {t : Trace} {q : Nat → Nat} {hm hw : AH} {s r pc : Nat} {a : Goroutine} {fr fr' : Frame} {cs0 : List Frame} (sl : Option (Nat × Nat)) (hr : a.status = .running)
    (hst : ∀ w, stepG P true a w = .comm (G fr cs0) #[rcase c z] true (.recv true) w) (hM : RM P c Q (fr.finish (.tuple #[z, .bool false])) cs0 (hun hm (zx R c))) (hW : WorkEnd fr' hw) (sh : Sh P R F c tm w0 gs w t q hm hw s r a pc) : Must P (Aim P F w0 X) (crowd gs w sl) t := by
  refine sh.pick sl hr fun gs w sl t q sh => ?_
  have hlt := lt_of_get sh.g0
  have e0 := oneC_same c (.chan 0 #[] true s r tm)
  have e1 : hm c = none := (sh.mC c).resolve_right (by rw [e0]; simp)
  have e2 : hw c = none := (sh.wC c).resolve_right (by rw [e0]; simp)
  have e3 : R c = none := (sh.rC c).resolve_right (by rw [e0]; simp)
  have hc : w.heap[c]? = some (.chan 0 #[] true s r tm) := by
    show absH w.heap c = _
    rw [sh.heap]
    simp [hun, e1, e2, e3, e0]
  have hcl : c < w.heap.size := absH_lt rfl (show absH w.heap c ≠ none by show w.heap[c]? ≠ none; rw [hc]; simp)
  have np : partners (gs.setIfInBounds 0 ph) c true = [] := by
    refine partners_nil fun j g hj => ?_
    rcases getElem?_stand gs 0 j g hj with ⟨_, rfl⟩ | ⟨hj0, hj1⟩
    · rfl
    · refine offersAt_of_not_blocked ?_ _ _
      have := (sh.crew.old j g hj0 hj1).status
      rcases this with h | h <;> rw [h] <;> simp
  have e := crowd_recv_closed (sl := sl) sh.g0 (show stepG P (0 == 0) a w = _ from hst w) hc np
  refine ⟨_, _, e, tail C hX hM hW sh.wR e2 e3 sh.wF sh.rF sh.cF hm _ w sl _ q rfl ?_ sh.heap sh.mw sh.mR e1 sh.mF ?_ ?_ sh.env⟩
  · rw [finishComm_recv]
    simp [hlt]
    rfl
  · refine (sh.crew.app _ (fun op hop => ?_) (by simp) (fun j x hj hx => by rw [Array.getElem?_setIfInBounds_ne (fun e => hj e.symm)]; exact hx)).to
    simp only [ofEvents_nil, Array.empty_append, List.mem_toArray, List.mem_cons, List.not_mem_nil, or_false] at hop
    subst hop
    exact ⟨rfl, hlt⟩
  · rw [ofEvents_nil, Array.empty_append]
    exact sh.shut.past hcl rfl rfl

theorem Sh.must (C : Cert P R c tm cw Q WorkEnd) (hX : Ends R c tm Q WorkEnd X) {fr : Frame} {cs : List Frame} {h : AH} (rM : RM P c Q fr cs h) :
    ∀ {hw : AH} {fr' : Frame}, WorkEnd fr' hw → ∀ (hm : AH) gs w sl t q s r pc, h = hun hm (zw R c []) → Sh P R F c tm w0 gs w t q hm hw s r (G fr cs) pc → Must P (Aim P F w0 X) (crowd gs w sl) t := by
  have cc : ∀ {hm hw : AH} {gs : Array Goroutine} {w : World} {t : Trace} {q : Nat → Nat} {s r pc : Nat} {a : Goroutine}, Sh P R F c tm w0 gs w t q hm hw s r a pc → hm c = none ∧ hw c = none ∧ R c = none := fun sh =>
    ⟨(sh.mC c).resolve_right (by rw [oneC_same]; simp), (sh.wC c).resolve_right (by rw [oneC_same]; simp), (sh.rC c).resolve_right (by rw [oneC_same]; simp)⟩
  induction rM with
  | far hl _ _ _ _ _ => cases hl
  | send hl _ _ _ _ => cases hl
  | done qm =>
    intro hw fr' hW hm gs w sl t q s r pc e sh
    have h1 := C.seen _ _ _ qm
    rw [e, zw_c (cc sh).1] at h1
    exact absurd (Option.some.inj h1) gch_gone
  | recv hl hc _ _ _ =>
    intro hw fr' hW hm gs w sl t q s r pc e sh
    cases Option.some.inj hl
    rw [e, zw_c (cc sh).1] at hc
    cases gch_inj (Option.some.inj hc)
  | last hl hc hs hx _ =>
    intro hw fr' hW hm gs w sl t q s r pc e sh
    cases Option.some.inj hl
    subst e
    rw [zw_last (cc sh).1] at hx
    exact sh.recv C hX sl rfl hs hx hW
  | @sem fr1 cs1 h1 β x ok okp nxt pan X' Y' hs hd hok hokp _ _ ihx ihy =>
    intro hw fr' hW hm gs w sl t q s r pc e sh
    subst e
    refine sh.pick sl rfl fun gs w sl t q sh => ?_
    have hlt := lt_of_get sh.g0
    have cF : Disj (oneC c (.chan 0 #[] true s r tm)) F := by
      intro b
      by_cases hb : b = c
      · subst hb; exact .inr sh.cF
      · exact .inl (oneC_ne hb)
    obtain ⟨hm', w', zz, hev, ho⟩ := dem_runZ (lent_zw (tm := tm) C.rows (cc sh).2.2 [] (cl := true) s r) (F := hun hw F) hm w
      (by rw [sh.heap, hun_assoc, hun_assoc, hun_swap sh.wR, hun_swap sh.wC, hun_swap sh.rC]) (sh.mC.hun sh.mR)
      (Disj.hun_left (sh.mw.hun sh.mF) (Disj.hun_left (sh.wC.symm.hun cF) (sh.wR.symm.hun sh.rF))) hd
    obtain ⟨dO, dR⟩ := zz.disj.of_hun_right
    obtain ⟨da, _⟩ := zz.disjF.of_hun
    obtain ⟨d3, d6⟩ := da.of_hun_right
    have hXl : ∀ b, hm' b ≠ none → b < w'.heap.size := fun b hb => absH_lt zz.heap (fun e => hb (hun_none (hun_none e).1).1)
    have hRl : ∀ b, hun (oneC c (.chan 0 #[] true s r tm)) R b ≠ none → b < w'.heap.size := fun b hb => absH_lt zz.heap (fun e => hb (hun_none (hun_none e).1).2)
    have go : ∀ (fr2 : Frame) (cs2 : List Frame), (stepG P true (G fr1 cs1) w).tells (x.events P w #[]) (G fr2 cs2) w' →
        (∀ gs w sl t q, Sh P R F c tm w0 gs w t q hm' hw s r (G fr2 cs2) pc → Must P (Aim P F w0 X) (crowd gs w sl) t) → ∃ m ops, runT P (crowd gs w sl) 0 = (.next m, ops) ∧ Must P (Aim P F w0 X) m (t ++ ops) := by
      intro fr2 cs2 ht kk
      obtain ⟨es, hgo, hes⟩ := tells_eq.1 ht
      have hev' : ∀ e ∈ es, EvOK hm' (hun (oneC c (.chan 0 #[] true s r tm)) R) e := fun e he => (hev #[] e (hes e he)).resolve_left (by simp)
      have e := runT_crowd_go (P := P) (sl := sl) (i := 0) sh.g0 (show stepG P (0 == 0) (G fr1 cs1) w = _ from hgo)
      refine ⟨_, _, e, kk _ _ _ _ q ⟨by simp [hlt], ?_, d3, dR, sh.wR, dO, sh.wC, sh.rC, d6, sh.wF, sh.rF, sh.cF, ?_, ?_, sh.env.trans zz.env⟩⟩
      · rw [zz.heap, hun_assoc, hun_assoc, hun_swap sh.wR.symm, hun_swap sh.wC.symm, hun_swap (b := R) sh.rC.symm]
      · exact sh.crew.app _ (fun op hop => by rw [g_ofEvents op hop]; exact ⟨rfl, hlt⟩) (by simp) (crew_keep sh.crew rfl _ _ _)
      · refine (sh.shut.mono zz.size).app0 g_ofEvents ?_ ?_ ?_
        · intro op hop
          obtain ⟨e, he, rfl⟩ := Go.Conc.mem_ofEvents hop
          exact ev_mark (hev' e he)
        · intro op hop
          obtain ⟨e, he, rfl⟩ := Go.Conc.mem_ofEvents hop
          exact ((hev' e he).low hXl hRl).2.2.2
        · intro op hop x hx y hy
          obtain ⟨e, he, rfl⟩ := Go.Conc.mem_ofEvents hop
          rcases ev_touch (hev' e he) hx hy with h1 | ⟨h1, h2⟩
          · refine ⟨fun h2 => h2 ((d3 y).resolve_left h1), fun h2 => ?_⟩
            rcases h2 with h2 | h2
            · exact absurd ((dR y).resolve_left h1) h2
            · subst h2
              have := (dO y).resolve_left h1
              rw [oneC_same] at this
              cases this
          · refine ⟨fun h3 => h1 ?_, fun _ => h2⟩
            have hyc : y ≠ c := by
              rintro rfl
              exact h3 (cc sh).2.1
            have := (sh.wR y).resolve_left h3
            simp [hun, oneC_ne hyc, this]
    rcases ho with ⟨v, e, kk⟩ | ⟨v, e, kk⟩
    · exact go _ _ ((hs true w).1 v w' e (hok _ _ kk)) fun gs w sl t q sh => ihx v _ kk hW hm' gs w sl t q s r pc rfl sh
    · exact go _ _ ((hs true w).2 v w' e (hokp _ _ kk)) fun gs w sl t q sh => ihy v _ kk hW hm' gs w sl t q s r pc rfl sh
end
end Go.HL
/- The own logic, part GG: one goroutine that sends beside goroutine 0 that receives: all of it. Conditions: none. -/
namespace Go.HL
open Go Go.Conc Go.ConcN

section
variable {P : Program} {R F : AH} {c k : Nat} {tm : Bool} {w0 : World} {cw : List Frame} {Q : Frame → List Frame → AH → Prop} {WorkEnd : Frame → AH → Prop} {X : Frame → List Frame → AH → Prop}

/-- The worker closes the channel. -/
theorem St.close {Goal : Machine → Trace → Prop} (C : Cert P R c tm cw Q WorkEnd) {hm hw : AH} {s r : Nat} {a : Goroutine} {fr : Frame} (hW : WorkEnd fr hw)
    (kk : ∀ gs w sl t q pc s r, Sh P R F c tm w0 gs w t q hm hw s r (a.again w) pc → w.heap[c]? = some (.chan 0 #[] true s r tm) → Must P Goal (crowd gs w sl) t)
    (gs : Array Goroutine) (w : World) (sl : Option (Nat × Nat)) (t : Trace) (q : Nat → Nat) (st : St P R F c k tm w0 gs w t q hm hw s r a (G fr cw)) : ∃ m ops, runT P (crowd gs w sl) k = (.next m, ops) ∧ Must P Goal m (t ++ ops) := by
  obtain ⟨hwake, g2, es, n, hgo, hes, hq⟩ := C.close _ _ hW
  have hk0 : (k == 0) = false := by simp [st.k0]
  have hlt := lt_of_get st.g0
  have hltk := lt_of_get st.gk
  have e := runT_crowd_go (P := P) (sl := sl) (i := k) st.gk (by rw [hk0]; exact hgo w s r st.open)
  have e0 := oneC_same c (.chan 0 #[] false s r tm)
  have e1 : hm c = none := (st.mC c).resolve_right (by rw [e0]; simp)
  have e2 : hw c = none := (st.wC c).resolve_right (by rw [e0]; simp)
  have e3 : R c = none := (st.rC c).resolve_right (by rw [e0]; simp)
  have hheap : absH (w.shut c s r tm).heap = hun hm (hun hw (hun R (hun (oneC c (.chan 0 #[] true s r tm)) F))) := by
    show absH (w.heap.setIfInBounds c _) = _
    rw [absH_set _ _ _ _ st.chan, st.heap]
    funext x
    by_cases hx : x = c
    · subst hx
      simp [hupd, hun, e1, e2, e3, oneC_same]
    · simp [hupd, hun, hx, oneC_ne hx]
  have hop2 : (w.shut c s r tm).heap[c]? = some (.chan 0 #[] true s r tm) := by
    show absH (w.shut c s r tm).heap c = _
    rw [hheap]
    simp [hun, e1, e2, e3, oneC_same]
  have hwk : ∀ o, woken P (G fr cw) g2 (w.shut c s r tm) o = o.again (w.shut c s r tm) := by
    intro o
    unfold woken
    rcases hq.status with h | h <;> simp [hwake, h]
  have hsz : (w.shut c s r tm).heap.size = w.heap.size := by simp [World.shut]
  have hop : ∀ op ∈ MemOp.ofEvents k (G fr cw).frame.fn (G fr cw).frame.place es, op.act = .access ⟨.obj c, false, true⟩ := by
    intro op hop
    obtain ⟨e, he, rfl⟩ := Go.Conc.mem_ofEvents hop
    rw [hes e he]
    rfl
  have D := st.duo.appk (u := MemOp.ofEvents k (G fr cw).frame.fn (G fr cw).frame.place es) g_ofEvents (fun op h => by rw [hop op h]; simp) (fun op h => by rw [hop op h]; exact st.clt) (fun op h x hx y hy => by
    rw [hop op h] at hx
    simp only [MemAct.touch?, Option.some.injEq] at hx
    subst hx
    simp only [blkOf, Option.some.injEq] at hy
    exact .inr ⟨.inr hy.symm, rfl⟩)
  have hS := Shut.of (k := k) (y := { g := k, fn := (G fr cw).frame.fn, pos := (G fr cw).frame.place, act := .close c }) D rfl rfl st.clt
  have ht : t ++ MemOp.ofEvents k (G fr cw).frame.fn (G fr cw).frame.place (es.push ⟨.obj c, true, true⟩) = t ++ MemOp.ofEvents k (G fr cw).frame.fn (G fr cw).frame.place es ++ #[{ g := k, fn := (G fr cw).frame.fn, pos := (G fr cw).frame.place, act := .close c }] := by
    rw [ofEvents_push]
    simp [MemAct.ofEvent]
  refine ⟨_, _, e, ?_⟩
  rw [ht]
  refine kk _ _ sl _ (Go.ConcN.upd q k n) _ s r ⟨?_, hheap, st.mw, st.mR, st.wR, disj_oneC st.mC, disj_oneC st.wC, disj_oneC st.rC, st.mF, st.wF, st.rF, st.cF, ⟨fun j x hj hx => ?_, fun j hj => ?_⟩, by rw [hsz]; exact hS, st.env.trans ⟨rfl, rfl, rfl⟩⟩ hop2
  · rw [Array.getElem?_setIfInBounds_ne st.k0, Array.getElem?_map, st.g0]
    simp only [Option.map_some]
    rw [hwk]
  · by_cases hjk : k = j
    · subst hjk
      rw [Array.getElem?_setIfInBounds_self_of_lt (by simpa using hltk)] at hx
      obtain rfl := Option.some.inj hx
      have hd : Deaf (t ++ MemOp.ofEvents k (G fr cw).frame.fn (G fr cw).frame.place es ++ #[{ g := k, fn := (G fr cw).frame.fn, pos := (G fr cw).frame.place, act := .close c }]) k = 0 := by
        rw [Deaf_q fun op h => .inr (by
          simp only [List.mem_toArray, List.mem_cons, List.not_mem_nil, or_false] at h
          subst h
          simp)]
        exact D.heark
      rw [upd_same, hd]
      exact hq
    · rw [Array.getElem?_setIfInBounds_ne hjk, Array.getElem?_map] at hx
      obtain ⟨y, hy, rfl⟩ := Option.map_eq_some_iff.1 hx
      have hqj := st.crew.old j y (by simp; exact ⟨hj, fun e => hjk e.symm⟩) hy
      rw [woken_quitsD hqj, upd_ne q n (Ne.symm hjk), Deaf_ne _ j _ (fun op h => ?_), Deaf_ne t j _ (fun op h => by rw [g_ofEvents op h]; exact hjk)]
      · exact hqj
      · simp only [List.mem_toArray, List.mem_cons, List.not_mem_nil, or_false] at h
        subst h
        exact hjk
  · have hj' : gs.size ≤ j := by simpa using hj
    rw [Deaf_ne _ j _ (fun op h => ?_), Deaf_ne t j _ (fun op h => by rw [g_ofEvents op h]; omega)]
    · exact st.crew.above j hj'
    · simp only [List.mem_toArray, List.mem_cons, List.not_mem_nil, or_false] at h
      subst h
      show k ≠ j
      omega

theorem close_wait (C : Cert P R c tm cw Q WorkEnd) (hX : Ends R c tm Q WorkEnd X) {z : Value} {hm hw : AH} {s r : Nat} {fr frm : Frame} {cs0 : List Frame} (hW : WorkEnd fr hw) (hM : MW P R c Q z [] frm cs0 hm)
    (gs : Array Goroutine) (w : World) (sl : Option (Nat × Nat)) (t : Trace) (q : Nat → Nat) (st : St P R F c k tm w0 gs w t q hm hw s r (parked (G frm cs0) #[rcase c z] (.recv true)) (G fr cw)) :
    ∃ m ops, runT P (crowd gs w sl) k = (.next m, ops) ∧ Must P (Aim P F w0 X) m (t ++ ops) := by
  refine st.close C hW (fun gs w sl t q pc s r sh hc => ?_) gs w sl t q
  rw [again_parked_shut rfl hc] at sh
  exact sh.recv C hX sl rfl (fun w => by rw [stepG_tries]; exact hM.1 w) hM.2 hW
theorem close_run (C : Cert P R c tm cw Q WorkEnd) (hX : Ends R c tm Q WorkEnd X) {hm hw : AH} {s r : Nat} {fr frm : Frame} {csm : List Frame} (hW : WorkEnd fr hw) (rM : RM P c Q frm csm (hun hm (zw R c [])))
    (gs : Array Goroutine) (w : World) (sl : Option (Nat × Nat)) (t : Trace) (q : Nat → Nat) (st : St P R F c k tm w0 gs w t q hm hw s r (G frm csm) (G fr cw)) :
    ∃ m ops, runT P (crowd gs w sl) k = (.next m, ops) ∧ Must P (Aim P F w0 X) m (t ++ ops) := by
  refine st.close C hW (fun gs w sl t q pc s r sh hc => ?_) gs w sl t q
  rw [again_running _ (.inl rfl)] at sh
  exact Sh.must C hX rM hW hm gs w sl t q s r pc rfl sh
theorem St.noc {gs : Array Goroutine} {w : World} {t : Trace} {q : Nat → Nat} {hm hw : AH} {s r : Nat} {a b : Goroutine} (st : St P R F c k tm w0 gs w t q hm hw s r a b) : hm c = none ∧ hw c = none :=
  ⟨(st.mC c).resolve_right (by rw [oneC_same]; simp), (st.wC c).resolve_right (by rw [oneC_same]; simp)⟩

/-- The worker waits at its send. -/
theorem waitk (C : Cert P R c tm cw Q WorkEnd) {v : Value} {vs : List Value} {frw : Frame} {csw : List Frame} {hw : AH}
    (nx : ∀ hm gs w sl t q s r frm csm, RM P c Q frm csm (hun hm (zw R c vs)) → St P R F c k tm w0 gs w t q hm hw s r (G frm csm) (G (frw.finish undef) csw) → Must P (Aim P F w0 X) (crowd gs w sl) t)
    {fr : Frame} {cs : List Frame} {h : AH} (rM : RM P c Q fr cs h) :
    ∀ {z' : Value} (hm : AH) gs w sl t q s r, h = hun hm (zw R c (v :: vs)) → St P R F c k tm w0 gs w t q hm hw s r (G fr cs) (parked (G frw csw) #[scase c v z'] .send) → Must P (Aim P F w0 X) (crowd gs w sl) t := by
  induction rM with
  | far hl _ _ _ _ _ => cases hl
  | send hl _ _ _ _ => cases hl
  | @sem fr1 cs1 h1 β x ok okp nxt pan X' Y' hs hd hok hokp _ _ ihx ihy =>
    intro z' hm gs w sl t q s r e st
    subst e
    refine st.pick sl (stay_run rfl) (st.stay (firm_parked rfl)) (.inl rfl) (fun _ gs w sl t q st => ?_) (fun h => by cases h)
    exact st.sem0 C.rows hs hd hok hokp (firm_parked rfl) (fun v hm' gs w sl t q kk st => ihx v _ kk hm' gs w sl t q s r rfl st) (fun v hm' gs w sl t q kk st => ihy v _ kk hm' gs w sl t q s r rfl st) gs w sl t q
  | done qm =>
    intro z' hm gs w sl t q s r e st
    have h1 := C.seen _ _ _ qm
    rw [e, zw_c st.noc.1] at h1
    exact absurd (Option.some.inj h1) gch_gone
  | last hl hc _ _ _ =>
    intro z' hm gs w sl t q s r e st
    cases Option.some.inj hl
    rw [e, zw_c st.noc.1] at hc
    cases gch_inj (Option.some.inj hc)
  | recv hl hc hs hx _ =>
    intro z' hm gs w sl t q s r e st
    cases Option.some.inj hl
    subst e
    rw [zw_c st.noc.1] at hc
    cases gch_inj (Option.some.inj hc)
    rw [zw_next st.noc.1] at hx
    refine st.pick sl (stay_run rfl) (st.stay (firm_parked rfl)) (.inl rfl) (fun _ gs w sl t q st => ?_) (fun h => by cases h)
    obtain ⟨gs', w', ops, e2, st'⟩ := st.recvMeets hs sl
    exact ⟨_, ops, e2, nx hm gs' w' sl _ q _ _ _ _ hx st'⟩

/-- Goroutine 0 on its way, the worker at a place where it has a step of its own. -/
theorem run0 (C : Cert P R c tm cw Q WorkEnd) {vs : List Value} {frw : Frame} {csw : List Frame} {hw : AH}
    (A : ∀ {z : Value} {frm : Frame} {csm : List Frame} {hm : AH}, MW P R c Q z vs frm csm hm → ∀ gs w sl t q s r, St P R F c k tm w0 gs w t q hm hw s r (parked (G frm csm) #[rcase c z] (.recv true)) (G frw csw) → Must P (Aim P F w0 X) (crowd gs w sl) t)
    (W : ∀ {frm : Frame} {csm : List Frame} (hm : AH), RM P c Q frm csm (hun hm (zw R c vs)) → ∀ s r gs w sl t q, St P R F c k tm w0 gs w t q hm hw s r (G frm csm) (G frw csw) → ∃ m ops, runT P (crowd gs w sl) k = (.next m, ops) ∧ Must P (Aim P F w0 X) m (t ++ ops))
    {frm : Frame} {csm : List Frame} {h : AH} (rM : RM P c Q frm csm h) :
    ∀ (hm : AH) gs w sl t q s r, h = hun hm (zw R c vs) → St P R F c k tm w0 gs w t q hm hw s r (G frm csm) (G frw csw) → Must P (Aim P F w0 X) (crowd gs w sl) t := by
  letI : Lvl := ⟨false, none, some c⟩
  induction rM with
  | far hl _ _ _ _ _ => cases hl
  | send hl _ _ _ _ => cases hl
  | @sem fr1 cs1 h1 β x ok okp nxt pan X' Y' hs hd hok hokp hxr hyr ihx ihy =>
    intro hm gs w sl t q s r e st
    subst e
    refine st.pick sl (stay_run rfl) (stay_run rfl) (.inl rfl) (fun _ gs w sl t q st => ?_) (fun _ gs w sl t q st => ?_)
    · exact st.sem0 C.rows hs hd hok hokp (firm_run rfl) (fun v hm' gs w sl t q kk st => ihx v _ kk hm' gs w sl t q s r rfl st) (fun v hm' gs w sl t q kk st => ihy v _ kk hm' gs w sl t q s r rfl st) gs w sl t q
    · exact W hm (.sem x ok okp nxt pan X' Y' hs hd hok hokp hxr hyr) s r gs w sl t q st
  | done qm =>
    intro hm gs w sl t q s r e st
    have h1 := C.seen _ _ _ qm
    rw [e, zw_c st.noc.1] at h1
    exact absurd (Option.some.inj h1) gch_gone
  | @recv fr1 cs1 h1 c1 hl v z us hc hs hx _ =>
    intro hm gs w sl t q s r e st
    have ec : c = c1 := Option.some.inj hl
    subst ec
    subst e
    have hc0 := hc
    rw [zw_c st.noc.1] at hc0
    have ev : vs = v :: us := gch_inj (Option.some.inj hc0)
    subst ev
    have hx1 := hx
    rw [zw_next st.noc.1] at hx1
    refine st.pick sl (stay_run rfl) (stay_run rfl) (.inl rfl) (fun _ gs w sl t q st => ?_) (fun _ gs w sl t q st => ?_)
    · obtain ⟨gs', e4, st'⟩ := st.recvWaits hs rfl sl
      exact ⟨_, _, e4, A ⟨hs, hx1⟩ gs' w sl _ q s r st'⟩
    · exact W hm (.recv hl hc hs hx) s r gs w sl t q st
  | @last fr1 cs1 h1 c1 hl z hc hs hx _ =>
    intro hm gs w sl t q s r e st
    have ec : c = c1 := Option.some.inj hl
    subst ec
    subst e
    have hc0 := hc
    rw [zw_c st.noc.1] at hc0
    have ev : vs = [] := gch_inj (Option.some.inj hc0)
    subst ev
    have hx1 := hx
    rw [zw_last st.noc.1] at hx1
    refine st.pick sl (stay_run rfl) (stay_run rfl) (.inl rfl) (fun _ gs w sl t q st => ?_) (fun _ gs w sl t q st => ?_)
    · obtain ⟨gs', e4, st'⟩ := st.recvWaits hs rfl sl
      exact ⟨_, _, e4, A ⟨hs, hx1⟩ gs' w sl _ q s r st'⟩
    · exact W hm (.last hl hc hs hx) s r gs w sl t q st

/-- The whole phase, by the worker's walk. -/
theorem worker (C : Cert P R c tm cw Q WorkEnd) (hX : Ends R c tm Q WorkEnd X) {fr : Frame} {cs : List Frame} {h : AH} (rW : RW P c (QW R c cw WorkEnd) fr cs h) :
    ∀ (vs : List Value) (hw : AH), h = hun hw (zw R c vs) → hw c = none →
      (∀ {z : Value} {frm : Frame} {csm : List Frame} {hm : AH}, MW P R c Q z vs frm csm hm → ∀ gs w sl t q s r, St P R F c k tm w0 gs w t q hm hw s r (parked (G frm csm) #[rcase c z] (.recv true)) (G fr cs) → Must P (Aim P F w0 X) (crowd gs w sl) t) ∧
      (∀ {frm : Frame} {csm : List Frame} (hm : AH), RM P c Q frm csm (hun hm (zw R c vs)) → ∀ gs w sl t q s r, St P R F c k tm w0 gs w t q hm hw s r (G frm csm) (G fr cs) → Must P (Aim P F w0 X) (crowd gs w sl) t) := by
  induction rW with
  | far hl _ _ _ _ _ => cases hl
  | recv hl _ _ _ _ => cases hl
  | last hl _ _ _ _ => cases hl
  | @sem fr1 cs1 h1 β x ok okp nxt pan X' Y' hs hd hok hokp hxr hyr ihx ihy =>
    intro vs hw e hwc
    subst e
    have A : ∀ {z : Value} {frm : Frame} {csm : List Frame} {hm : AH}, MW P R c Q z vs frm csm hm → ∀ gs w sl t q s r, St P R F c k tm w0 gs w t q hm hw s r (parked (G frm csm) #[rcase c z] (.recv true)) (G fr1 cs1) → Must P (Aim P F w0 X) (crowd gs w sl) t := by
      intro z frm csm hm hM gs w sl t q s r st
      refine st.pick sl (st.stay (firm_parked rfl)) (stay_run rfl) (.inr rfl) (fun h => by cases h) fun _ gs w sl t q st => ?_
      exact st.semk C.rows hs hd hok hokp (firm_parked rfl) (fun v hw' gs w sl t q kk st => (ihx v _ kk vs hw' rfl st.noc.2).1 hM gs w sl t q s r st) (fun v hw' gs w sl t q kk st => (ihy v _ kk vs hw' rfl st.noc.2).1 hM gs w sl t q s r st) gs w sl t q
    refine ⟨A, fun hm rM gs w sl t q s r st => run0 C A (fun hm rM s r gs w sl t q st => ?_) rM hm gs w sl t q s r rfl st⟩
    exact st.semk C.rows hs hd hok hokp (firm_run rfl) (fun v hw' gs w sl t q kk st => (ihx v _ kk vs hw' rfl st.noc.2).2 hm rM gs w sl t q s r st) (fun v hw' gs w sl t q kk st => (ihy v _ kk vs hw' rfl st.noc.2).2 hm rM gs w sl t q s r st) gs w sl t q
  | @done fr1 cs1 h1 qw =>
    intro vs hw e hwc
    obtain ⟨rfl, hw1, e1, hc1, d1, hW⟩ := qw
    have key : ∀ {gs : Array Goroutine} {w : World} {t : Trace} {q : Nat → Nat} {hm : AH} {s r : Nat} {a b : Goroutine}, St P R F c k tm w0 gs w t q hm hw s r a b → hw = hw1 ∧ vs = [] := fun st => hunc_inj (e.symm.trans e1) hwc hc1 st.wR d1
    have A : ∀ {z : Value} {frm : Frame} {csm : List Frame} {hm : AH}, MW P R c Q z vs frm csm hm → ∀ gs w sl t q s r, St P R F c k tm w0 gs w t q hm hw s r (parked (G frm csm) #[rcase c z] (.recv true)) (G fr1 cs1) → Must P (Aim P F w0 X) (crowd gs w sl) t := by
      intro z frm csm hm hM gs w sl t q s r st
      obtain ⟨e2, e3⟩ := key st
      subst e2
      subst e3
      refine st.pick sl (st.stay (firm_parked rfl)) (stay_run rfl) (.inr rfl) (fun h => by cases h) fun _ gs w sl t q st => ?_
      exact close_wait C hX hW hM gs w sl t q st
    refine ⟨A, fun hm rM gs w sl t q s r st => run0 C A (fun hm rM s r gs w sl t q st => ?_) rM hm gs w sl t q s r rfl st⟩
    obtain ⟨e2, e3⟩ := key st
    subst e2
    subst e3
    exact close_run C hX hW rM gs w sl t q st
  | @send fr1 cs1 h1 c1 hl v z' us hc hs hx ih =>
    have ec : c = c1 := Option.some.inj hl
    subst ec
    intro vs hw e hwc
    subst e
    have ev : vs = v :: us := by
      rw [zw_c hwc] at hc
      exact gch_inj (Option.some.inj hc)
    subst ev
    have I := ih us hw (zw_next hwc) hwc
    have A : ∀ {z : Value} {frm : Frame} {csm : List Frame} {hm : AH}, MW P R c Q z (v :: us) frm csm hm → ∀ gs w sl t q s r, St P R F c k tm w0 gs w t q hm hw s r (parked (G frm csm) #[rcase c z] (.recv true)) (G fr1 cs1) → Must P (Aim P F w0 X) (crowd gs w sl) t := by
      intro z frm csm hm hM gs w sl t q s r st
      refine st.pick sl (st.stay (firm_parked rfl)) (stay_run rfl) (.inr rfl) (fun h => by cases h) fun _ gs w sl t q st => ?_
      obtain ⟨gs', w', ops, e2, st'⟩ := st.sendMeets hs sl
      exact ⟨_, ops, e2, I.2 hm hM.2 gs' w' sl _ q _ _ st'⟩
    refine ⟨A, fun hm rM gs w sl t q s r st => run0 C A (fun hm rM s r gs w sl t q st => ?_) rM hm gs w sl t q s r rfl st⟩
    obtain ⟨gs', e4, st'⟩ := st.sendWaits hs rfl sl
    exact ⟨_, _, e4, waitk C (fun hm gs w sl t q s r frm csm rM st => I.2 hm rM gs w sl t q s r st) rM hm gs' w sl _ q s r rfl st'⟩

/-- FROM THE go STATEMENT ON, to wherever goroutine 0 comes once it has seen the channel closed. -/
theorem far_phase {fr f1 fw : Frame} {cs : List Frame} {hm hw : AH} {s r : Nat} {vs : List Value} (C : Cert P R c tm cw Q WorkEnd) (hX : Ends R c tm Q WorkEnd X)
    (hgo : ∀ w, stepG P true (G fr cs) w = .spawn (G f1 cs) (G fw []) w) (rM : RM P c Q f1 cs (hun hm (zw R c vs))) (rW : RW P c (QW R c cw WorkEnd) fw [] (hun hw (zw R c vs)))
    (mw : Disj hm hw) (mR : Disj hm R) (wR : Disj hw R) (hmc : hm c = none) (hwc : hw c = none) (hRc : R c = none) :
    Far P X fr cs (hun hm (hun hw (hun R (oneC c (.chan 0 #[] false s r tm))))) := by
  intro F gs w sl t q h0 hh d hL hP
  have dc : ∀ {A : AH}, A c = none → Disj A (oneC c (.chan 0 #[] false s r tm)) := by
    intro A hA b
    by_cases hb : b = c
    · subst hb; exact .inl hA
    · exact .inr (oneC_ne hb)
  obtain ⟨dm, d1⟩ := d.of_hun
  obtain ⟨dw, d2⟩ := d1.of_hun
  obtain ⟨dR, dC⟩ := d2.of_hun
  have cF : F c = none := (dC c).resolve_left (by rw [oneC_same]; simp)
  have rd := slip (P := P) (Sp := (· = 0)) (J := Past (fun _ => False) w.heap.size) rfl (fun t i fn pos es hi hj hm => hj.mute hi hm) _ gs w sl t q (Nat.le_refl _) (Crew.of hL)
    (fun i g hi hg => by subst hi; rw [h0] at hg; cases hg; exact stay_run rfl) ⟨0, _, rfl, h0, rfl⟩ hP
  have main : Must P (Aim P F w X) (crowd gs w sl) t := by
    refine rd.bind ?_
    rintro m t1 ⟨gs1, d1, sl1, q1, i, g, d1', sl1', rfl, hsz, hkeep, hC1, hP1, hi, hg, hrun, hst⟩
    subst hi
    rw [hkeep 0 rfl, h0] at hg
    cases hg
    have hg0 : gs1[0]? = some (G fr cs) := by rw [hkeep 0 rfl]; exact h0
    have hlt := lt_of_get hg0
    have e := runT_crowd_spawn (P := P) (sl := sl1') (i := 0) hg0 (show stepG P (0 == 0) (G fr cs) (w.at d1') = _ from hgo _)
    refine .step (hst.trans e) ?_
    have ek0 : gs1.size ≠ 0 := by omega
    have eops : ((MemOp.ofEvents 0 (G fr cs).frame.fn (G fr cs).frame.place #[]).push { g := 0, fn := (G fr cs).frame.fn, pos := (G fr cs).frame.place, act := .go gs1.size } |>.push { g := gs1.size, fn := (G fw []).frame.fn, pos := (G fr cs).frame.place, act := .start }) =
        #[{ g := 0, fn := (G fr cs).frame.fn, pos := (G fr cs).frame.place, act := .go gs1.size }, { g := gs1.size, fn := (G fw []).frame.fn, pos := (G fr cs).frame.place, act := .start }] := rfl
    rw [eops]
    refine (worker C hX (k := gs1.size) rW vs hw rfl hwc).2 hm rM _ (w.at d1') sl1' _ q1 s r ⟨?_, ?_, ek0, ?_, mw, mR, wR, dc hmc, dc hwc, dc hRc, dm, dw, dR, cF, ⟨fun j x hj hx => ?_, fun j hj => ?_⟩, ?_, ⟨rfl, rfl, rfl⟩⟩
    · rw [Array.getElem?_push]
      simp [hlt]
      omega
    · rw [Array.getElem?_push]
      simp
    · show absH w.heap = _
      rw [hh]
      simp only [hun_assoc]
    · simp only [not_or] at hj
      have hjs : j < gs1.size := by
        have := lt_of_get hx
        simp at this
        omega
      have hx' : gs1[j]? = some x := by
        rw [Array.getElem?_push] at hx
        rw [if_neg (by simp; omega), Array.getElem?_setIfInBounds_ne (fun e => hj.1 e.symm)] at hx
        exact hx
      rw [Deaf_ne t1 j _ fun op h => ?_]
      · exact hC1.old j x hj.1 hx'
      · simp only [List.mem_toArray, List.mem_cons, List.not_mem_nil, or_false] at h
        rcases h with rfl | rfl
        · exact fun e => hj.1 e.symm
        · exact fun e => hj.2 e.symm
    · have hj' : gs1.size + 1 ≤ j := by simpa using hj
      rw [Deaf_ne t1 j _ fun op h => ?_]
      · exact hC1.above j (by omega)
      · simp only [List.mem_toArray, List.mem_cons, List.not_mem_nil, or_false] at h
        rcases h with rfl | rfl
        · show 0 ≠ j; omega
        · show gs1.size ≠ j; omega
    · exact Duo.spawn (k := gs1.size) hP1 ek0 (hC1.above _ (Nat.le_refl _)) rfl rfl rfl rfl
  obtain ⟨N, m, t', e, gs', fr', cs', h', w', sl', q', rfl, a1, a2, a3, a4, a5, a6, a7⟩ := main
  exact ⟨N, gs', fr', cs', h', w', sl', t', q', e, a1, a2, a3, a4, a5, a6, a7⟩
end
end Go.HL
/- The own logic, part GH: the steps that start a goroutine, send, receive, put off a call, close, leave; one operation with whatever follows it. Conditions: none. -/
namespace Go.HL
open Go Go.Conc
variable [Lvl]

section
variable {P : Program} {n : Nat} {ro : Option Nat} {S : Sl} {D : Df} {L : Pv} {h : AH} {ops : Array Oper} {i : Nat} {rest : List Nat} {o : Oper} {b : Frame} {k : List Item} {cs : List Frame} {w : World} {main : Bool}

/-- One operation, whatever follows. -/
theorem rch_op {K E : Value → Pv → AH → Prop} (ho : ops[i]? = some o) (hc : Op.calm o.op) (hw : Region.wanted o (yielded ops (arr n S)) = true) (r : opL P n o S L h K E) {H : AH} (V : Fits h L D H) (b : Frame) (k : List Item) (cs : List Frame) :
    Rch P (fun fr cs' H' => cs' = cs ∧ ((∃ v L' h', fr = mk b n (put S o.dst v) D (.inRegion ops rest :: k) ∧ Fits h' L' D H' ∧ K v L' h') ∨
      (∃ v L' h', fr = { mk b n S D (.inRegion ops (i :: rest) :: k) with mode := .panicking [{ v := v, recovered := false }] } ∧ Fits h' L' D H' ∧ E v L' h'))) (mk b n S D (.inRegion ops (i :: rest) :: k)) cs H := by
  have r1 := opW_frameE (r V.valid) (fin_wl V.valid) V.disj
  rw [← V.eq] at r1
  refine .sem (execOp (ev n S) o) (fun x => match x with | .value _ => True | .skip => True | .enter _ _ => True | .round _ _ _ _ _ => True | _ => False) (fun _ => True)
    (fun x => match x with
      | .value v => (mk b n (put S o.dst v) D (.inRegion ops rest :: k), cs)
      | .skip => (mk b n (put S o.dst undef) D (.inRegion ops rest :: k), cs)
      | .enter f args => (Frame.enter P f args .normal, mk b n S D (.inRegion ops (i :: rest) :: k) :: cs)
      | .round l f tmps a c => (Frame.round l f tmps a c .normal, mk b n S D (.inRegion ops (i :: rest) :: k) :: cs)
      | _ => (b, cs))
    (fun v => ({ mk b n S D (.inRegion ops (i :: rest) :: k) with mode := .panicking [{ v := v, recovered := false }] }, cs)) _ _ ?_ (dem_fin V.fin r1) ?_ (fun _ _ _ => trivial) ?_ ?_
  · intro main w
    have hg := stepG_mk_op (P := P) b S D ops i rest k cs o ho hc hw main w
    have hf := mk_finish (n := n) b S D ops i rest k o ho
    refine ⟨fun x w' hr hx => ?_, fun v w' hr _ => ?_⟩
    · rw [hg]
      cases x <;> first | exact hx.elim | (simp only [stepG.apply, Sem.runT_eq, hr, if_true, hf, tells_after, tells_go]; refine ⟨⟨?_, ?_, ?_⟩, ?_⟩ <;> first | trivial | rfl | exact seen_if _ _ _ _ | exact fun _ he => absurd he (by simp))
    · rw [hg]
      simp only [stepG.apply, Sem.runT_eq, hr, if_true, tells_after, tells_go]
      refine ⟨⟨?_, ?_, ?_⟩, ?_⟩ <;> first | trivial | rfl | exact seen_if _ _ _ _ | exact fun _ he => absurd he (by simp)
  · rintro x h' ⟨_, hx⟩
    cases x <;> first | exact trivial | exact hx
  · have call : ∀ (fr0 : Frame) (h' : AH), Fin h' → EnterT P fr0 h' (fun v H2 => ∃ H1, H2 = hun H1 (mkH D) ∧ Disj H1 (mkH D) ∧ Fin H1 ∧ ∃ L' h'', H1 = wl h'' L' ∧ Valid h'' L' ∧ K v L' h'')
        (fun v H2 => ∃ H1, H2 = hun H1 (mkH D) ∧ Disj H1 (mkH D) ∧ Fin H1 ∧ ∃ L' h'', H1 = wl h'' L' ∧ Valid h'' L' ∧ E v L' h'') →
        Rch P (fun fr cs' H' => cs' = cs ∧ ((∃ v L' h', fr = mk b n (put S o.dst v) D (.inRegion ops rest :: k) ∧ Fits h' L' D H' ∧ K v L' h') ∨
          (∃ v L' h', fr = { mk b n S D (.inRegion ops (i :: rest) :: k) with mode := .panicking [{ v := v, recovered := false }] } ∧ Fits h' L' D H' ∧ E v L' h'))) fr0 (mk b n S D (.inRegion ops (i :: rest) :: k) :: cs) h' := by
      intro fr0 h' hfin hx
      refine (hx hfin (mk b n S D (.inRegion ops (i :: rest) :: k)) cs).bind ?_
      rintro fr cs' H' ⟨rfl, ⟨v, rfl, H1, e1, d1, f1, L', h1, rfl, V', g⟩ | ⟨v, rfl, H1, e1, d1, f1, L', h1, rfl, V', g⟩⟩
      · rw [mk_finish b S D ops i rest k o ho]
        exact .done ⟨rfl, .inl ⟨v, L', h1, rfl, V.step V' d1 e1, g⟩⟩
      · exact .done ⟨rfl, .inr ⟨v, L', h1, rfl, V.step V' d1 e1, g⟩⟩
    rintro x h' ⟨hfin, hx⟩
    cases x with
    | value v =>
      obtain ⟨H1, e1, d1, f1, L', h1, rfl, V', g⟩ := hx
      exact .done ⟨rfl, .inl ⟨v, L', h1, rfl, V.step V' d1 e1, g⟩⟩
    | skip =>
      obtain ⟨H1, e1, d1, f1, L', h1, rfl, V', g⟩ := hx
      exact .done ⟨rfl, .inl ⟨undef, L', h1, rfl, V.step V' d1 e1, g⟩⟩
    | enter f args => exact call _ h' hfin hx
    | round l f tmps a c => exact call _ h' hfin hx
    | _ => exact hx.elim
  · rintro v h' ⟨_, H1, e1, d1, f1, L', h1, rfl, V', g⟩
    exact .done ⟨rfl, .inr ⟨v, L', h1, rfl, V.step V' d1 e1, g⟩⟩

/-- The frame a go statement's goroutine begins with. -/
def baseG (P : Program) (ds : List Deferred) : Frame := { (default : Frame) with fn := P.funcs.size, defers := ds, mode := .panicking [goexitEntry] }

theorem seen_nil (fn : FuncId) : seen P fn #[] = #[] := rfl
theorem after_nil (s : GStep) : GStep.after #[] s = s := by cases s <;> simp [GStep.after]

theorem step_go {x : Operand} {f : FuncId} {fs cap : Array Value} (ho : ops[i]? = some o) (hw : Region.wanted o (yielded ops (arr n S)) = true) (hop : o.op = .go { callee := .value x, args := #[], argTypes := #[] }) (hx : ev n S x = .func (.func f) fs cap) :
    stepG P main (G (mk b n S D (.inRegion ops (i :: rest) :: k)) cs) w =
      .spawn (G (mk b n (put S o.dst undef) D (.inRegion ops rest :: k)) cs) (G (baseG P [{ target := .fn (.func f) cap, args := fs }]) []) w := by
  rw [stepG_mk_op b S D ops i rest k cs o ho (by rw [hop]; trivial) hw main w]
  have hr : (execOp (ev n S) o).runT P w #[] = (.ok (.spawn { target := .fn (.func f) cap, args := fs }) w, #[]) := by
    unfold execOp
    simp only [hop, resolve, Deferred.ofValue, hx]
    simp [bind, pure, Sem.bind, Sem.runT, -Sem.runT_eq]
  have hf := mk_finish (n := n) b S D ops i rest k o ho undef
  unfold stepG.apply
  simp only [hr, if_true]
  rw [hf]
  split <;> simp_all [seen_nil, after_nil, baseG]
/-- .. and how it begins. -/
theorem step_base {f : FuncId} {fn : Func} {c : Code} {args cap : Array Value} (hf : P.funcs[f]? = some fn) (hname : (fn.name == "runtime.NumGoroutine") = false) (hb : fn.body = some c) (ds : List Deferred) :
    stepG P main (G (baseG P ({ target := .fn (.func f) cap, args := args } :: ds)) cs) w = .go (G (Frame.enter P f (args ++ cap) .deferred) (baseG P ds :: cs)) w := by
  have h1 : ¬ fn.name = "runtime.NumGoroutine" := by simpa using hname
  simp [stepG, unwind, callDeferred, baseG, invoke, callFunc, hf, h1, hb, GStep.after, seen_none]
/-- What an instruction yields that looks at no memory and says nothing. -/
def pev0 (P : Program) {α : Type} : Sem α → Option α
  | .pure a => some a
  | .program k => pev0 P (k P)
  | _ => none
omit [Lvl] in
theorem runT_pev0 {α : Type} {s : Sem α} {a : α} (h : pev0 P s = some a) (w : World) (es : Array Event) : s.runT P w es = (.ok a w, es) := by
  induction s with
  | pure x => simp only [pev0, Option.some.injEq] at h; subst h; rfl
  | program k ih => exact ih P h
  | _ => simp [pev0] at h
omit [Lvl] in
theorem pev0_bind {α β : Type} {s : Sem α} {f : α → Sem β} {a : α} (h : pev0 P s = some a) : pev0 P (s.bind f) = pev0 P (f a) := by
  induction s with
  | pure x => simp only [pev0, Option.some.injEq] at h; subst h; rfl
  | program k ih => exact ih P h
  | _ => simp [pev0] at h
/-- A communication. -/
theorem step_comm {cases : Array CommCase} {sh : CommShape} (ho : ops[i]? = some o) (hw : Region.wanted o (yielded ops (arr n S)) = true) (hc : Op.calm o.op) (hr : pev0 P (execOp (ev n S) o) = some (.comm cases true sh)) :
    stepG P main (G (mk b n S D (.inRegion ops (i :: rest) :: k)) cs) w = .comm (G (mk b n S D (.inRegion ops (i :: rest) :: k)) cs) cases true sh w := by
  rw [stepG_mk_op b S D ops i rest k cs o ho hc hw main w]
  unfold stepG.apply
  simp only [runT_pev0 hr, if_true]
  split <;> simp_all [seen_nil, after_nil]
omit [Lvl] in
theorem exec_recv {t : TypeId} {x : Operand} {c : Nat} {dr : ChanDir} {e : TypeId} {z : Value} (hop : o.op = .recv t x true) (hx : ev n S x = .chan (some c)) (ht : pev0 P (underlying t) = some (.chan dr e)) (hz : pev0 P (zeroValue e) = some z) :
    pev0 P (execOp (ev n S) o) = some (.comm #[rcase c z] true (.recv true)) := by
  unfold execOp
  simp only [hop, hx]
  refine (pev0_bind ht).trans ?_
  refine (pev0_bind hz).trans ?_
  rfl
omit [Lvl] in
theorem exec_send {x y : Operand} {c : Nat} {v : Value} (hop : o.op = .send x y) (hx : ev n S x = .chan (some c)) (hy : ev n S y = v) : pev0 P (execOp (ev n S) o) = some (.comm #[scase c v (.tuple #[])] true .send) := by
  unfold execOp
  simp only [hop, hx, hy]
  rfl
/-- A call of a built-in is put off. -/
def laterB (bi : Builtin) (ats : Array TypeId) (ty : TypeId) (v : Value) : Deferred := { target := .builtin bi ats ty #[false], args := #[v] }
theorem step_defer {bi : Builtin} {ats : Array TypeId} {x : Tmp} {v : Value} (ho : ops[i]? = some o) (hw : Region.wanted o (yielded ops (arr n S)) = true) (hop : o.op = .defer { callee := .builtin bi, args := #[.tmp x], argTypes := ats }) (hx : ev n S (.tmp x) = v) (hro : b.roundOf = none) :
    stepG P main (G (mk b n S D (.inRegion ops (i :: rest) :: k)) cs) w = .go (G (mk b n (put S o.dst undef) (laterB bi ats o.type v :: D) (.inRegion ops rest :: k)) cs) w := by
  have he := mk_eval b n S D (.inRegion ops (i :: rest) :: k)
  simp only [mk, hro] at he
  have hr : (execOp (ev n S) o).runT P w #[] = (.ok (.defer (laterB bi ats o.type v)) w, #[]) := by
    unfold execOp
    simp only [hop, resolve, hx]
    simp [bind, pure, Sem.bind, Sem.runT, -Sem.runT_eq, laterB, hx]
  have hf := mk_finish (n := n) b S (laterB bi ats o.type v :: D) ops i rest k o ho undef
  have e1 : stepG P main (G (mk b n S D (.inRegion ops (i :: rest) :: k)) cs) w = stepG.apply P true (mk b n S D (.inRegion ops (i :: rest) :: k)) cs none (execOp (ev n S) o) w := by
    simp only [stepG, stepG.exec, stepG.oper, Frame.oper?, mk, ho, he, Option.map_some, Option.getD_some, hw, if_true, hro]
  rw [e1]
  unfold stepG.apply
  simp only [hr, if_true]
  have hf2 : Frame.finish { mk b n S D (.inRegion ops (i :: rest) :: k) with defers := laterB bi ats o.type v :: (mk b n S D (.inRegion ops (i :: rest) :: k)).defers } undef = mk b n (put S o.dst undef) (laterB bi ats o.type v :: D) (.inRegion ops rest :: k) := hf
  rw [hf2]
  split <;> simp_all [seen_nil, after_nil]
/-- At the return: the channel is closed. -/
theorem step_close {ats : Array TypeId} {ty : TypeId} {c s r : Nat} {tm : Bool} {todo : List Item} (hc : w.heap[c]? = some (.chan 0 #[] false s r tm)) :
    stepG P main (G { mk b n S (laterB .close ats ty (.chan (some c)) :: D) todo with mode := .returning } cs) w = .go (G { mk b n S D todo with mode := .returning } cs) (w.shut c s r tm) (#[⟨.obj c, false, true⟩].push ⟨.obj c, true, true⟩) := by
  have hr : (invoke (.builtin .close ats ty #[false]) #[.chan (some c)]).runT P w #[] = (.ok (.value (.tuple #[])) (w.shut c s r tm), #[⟨.obj c, false, true⟩, ⟨.obj c, true, true⟩]) := by
    have h1 : (invoke (.builtin .close ats ty #[false]) #[.chan (some c)] : Sem Next) = (Builtin.close_ ats ty #[.chan (some c)]).bind fun v => .pure (.value v) := rfl
    rw [h1]
    refine Prod.ext ?_ ?_
    · rw [Sem.runT_fst, run_map (fun v => Next.value v), run_close_open ats ty hc]
      rfl
    · rw [events_map (fun v => Next.value v)]
      have := events_close_open (P := P) (es := #[]) ats ty hc
      simpa [Sem.events, -Sem.runT_eq] using this
  have hs : seen P b.fn #[⟨.obj c, false, true⟩, ⟨.obj c, true, true⟩] = #[⟨.obj c, false, true⟩, ⟨.obj c, true, true⟩] := by
    simp [seen]
  simp only [stepG, unwind, callDeferred, laterB, mk, hr]
  simp [hs, GStep.after]
/-- The worker leaves: the return of the call, and of the frame below. -/
theorem quits {f : FuncId} {fn : Func} {todo : List Item} (hf : P.funcs[f]? = some fn) (hres : fn.results = #[]) (hbf : b.fn = f) (hbk : b.kind = .deferred) : QuitsD P 2 0 (G { mk b n S [] todo with mode := .returning } [baseG P []]) := by
  subst hbf
  have hr : ∀ w, (results fn (arr n S)).runT P w #[] = (.ok (.tuple #[]) w, #[]) := fun w => by
    exact Prod.ext ((Sem.runT_fst _ _ _ _).trans (results_none hres _ P w)) (events_results_none hres _ _)
  refine .ctl (g' := G (baseG P []) []) rfl (fun w => ?_) (.ctl (g' := { G (baseG P []) [] with status := .finished }) rfl (fun w => ?_) ⟨rfl, rfl⟩)
  · simp only [stepG, unwind, mk, hf, hr w, doReturn, hbk, baseG]
    simp [goexitEntry, seen_nil, after_nil]
  · simp [stepG, unwind, baseG, Frame.catches, goexitEntry]
    rfl
/-- Awake to others, while a frame returns. -/
theorem wakes {todo : List Item} {d : Deferred} : mayWake P (G { mk b n S (d :: D) todo with mode := .returning } cs) = true := rfl
end
end Go.HL
/- The own logic, part GI: rules for send, a put-off close, makeChan; the worker's walk as a function's. Conditions: none. -/
namespace Go.HL
open Go Go.Conc
variable [Lvl]

section
variable {P : Program} {n : Nat} {ro : Option Nat} {K : Post} {S : Sl} {D : Df} {L : Pv} {h : AH} {ops : Array Oper} {i : Nat} {rest : List Nat} {o : Oper}

/-- A send, where so may be sent. -/
theorem goes_send {x y : Operand} {c j : Nat} {v : Value} {vs : List Value} (hl : Lvl.co = some c) (ho : ops[i]? = some o) (hw : Region.wanted o (yielded ops (arr n S)) = true) (hop : o.op = .send x y) (hx : ev n S x = .chan (some c)) (hy : ev n S y = v)
    (hj : L[j]? = some (some (c, gch (v :: vs)))) (g : Goes P n ro [.inRegion ops rest] K (put S o.dst undef) D (L.set j (some (c, gch vs))) h) : Goes P n ro [.inRegion ops (i :: rest)] K S D L h := by
  intro H V b hb k cs
  have hc : H c = some (gch (v :: vs)) := by rw [V.eq]; exact hun_left (wl_get V.valid hj)
  refine .send (z := .tuple #[]) hl hc (fun w => step_comm (b := b) (k := k) (cs := cs) (w := w) (main := false) ho hw (by rw [hop]; trivial) (exec_send hop hx hy)) ?_
  have e1 : (mk b n S D ([.inRegion ops (i :: rest)] ++ k)).finish undef = mk b n (put S o.dst undef) D (.inRegion ops rest :: k) := mk_finish b S D ops i rest k o ho undef
  rw [e1]
  have hs := wl_set (o' := gch vs) V.valid hj
  refine g _ ⟨valid_set V.valid hj, ?_, V.nd, ?_⟩ b hb k cs
  · rw [← hs]
    exact V.disj.hupd (V.disj.right (wl_get V.valid hj))
  · rw [← hs, V.eq, hun_hupd]
/-- A receive, where so may be received: a value. -/
theorem goes_recv {t : TypeId} {x : Operand} {c j : Nat} {v z : Value} {vs : List Value} {dr : ChanDir} {el : TypeId} (hl : Lvl.ci = some c) (ho : ops[i]? = some o) (hw : Region.wanted o (yielded ops (arr n S)) = true) (hop : o.op = .recv t x true) (hx : ev n S x = .chan (some c))
    (ht : pev0 P (underlying t) = some (.chan dr el)) (hz : pev0 P (zeroValue el) = some z)
    (hj : L[j]? = some (some (c, gch (v :: vs)))) (g : Goes P n ro [.inRegion ops rest] K (put S o.dst (.tuple #[v, .bool true])) D (L.set j (some (c, gch vs))) h) : Goes P n ro [.inRegion ops (i :: rest)] K S D L h := by
  intro H V b hb k cs
  have hc : H c = some (gch (v :: vs)) := by rw [V.eq]; exact hun_left (wl_get V.valid hj)
  refine .recv (z := z) hl hc (fun w => step_comm (b := b) (k := k) (cs := cs) (w := w) (main := true) ho hw (by rw [hop]; trivial) (exec_recv hop hx ht hz)) ?_
  have e1 : (mk b n S D ([.inRegion ops (i :: rest)] ++ k)).finish (.tuple #[v, .bool true]) = mk b n (put S o.dst (.tuple #[v, .bool true])) D (.inRegion ops rest :: k) := mk_finish b S D ops i rest k o ho _
  rw [e1]
  have hs := wl_set (o' := gch vs) V.valid hj
  refine g _ ⟨valid_set V.valid hj, ?_, V.nd, ?_⟩ b hb k cs
  · rw [← hs]
    exact V.disj.hupd (V.disj.right (wl_get V.valid hj))
  · rw [← hs, V.eq, hun_hupd]
/-- .. and the channel is closed. -/
theorem goes_last {t : TypeId} {x : Operand} {c j : Nat} {z : Value} {dr : ChanDir} {el : TypeId} (hl : Lvl.ci = some c) (ho : ops[i]? = some o) (hw : Region.wanted o (yielded ops (arr n S)) = true) (hop : o.op = .recv t x true) (hx : ev n S x = .chan (some c))
    (ht : pev0 P (underlying t) = some (.chan dr el)) (hz : pev0 P (zeroValue el) = some z)
    (hj : L[j]? = some (some (c, gch []))) (g : Goes P n ro [.inRegion ops rest] K (put S o.dst (.tuple #[z, .bool false])) D (L.set j (some (c, gone))) h) : Goes P n ro [.inRegion ops (i :: rest)] K S D L h := by
  intro H V b hb k cs
  have hc : H c = some (gch []) := by rw [V.eq]; exact hun_left (wl_get V.valid hj)
  refine .last (z := z) hl hc (fun w => step_comm (b := b) (k := k) (cs := cs) (w := w) (main := true) ho hw (by rw [hop]; trivial) (exec_recv hop hx ht hz)) ?_
  have e1 : (mk b n S D ([.inRegion ops (i :: rest)] ++ k)).finish (.tuple #[z, .bool false]) = mk b n (put S o.dst (.tuple #[z, .bool false])) D (.inRegion ops rest :: k) := mk_finish b S D ops i rest k o ho _
  rw [e1]
  have hs := wl_set (o' := gone) V.valid hj
  refine g _ ⟨valid_set V.valid hj, ?_, V.nd, ?_⟩ b hb k cs
  · rw [← hs]
    exact V.disj.hupd (V.disj.right (wl_get V.valid hj))
  · rw [← hs, V.eq, hun_hupd]
/-- A put-off call of a built-in. -/
theorem goes_defer {bi : Builtin} {ats : Array TypeId} {x : Tmp} {v : Value} (ho : ops[i]? = some o) (hw : Region.wanted o (yielded ops (arr n S)) = true) (hop : o.op = .defer { callee := .builtin bi, args := #[.tmp x], argTypes := ats }) (hx : ev n S (.tmp x) = v)
    (g : Goes P n none [.inRegion ops rest] K (put S o.dst undef) (laterB bi ats o.type v :: D) L h) : Goes P n none [.inRegion ops (i :: rest)] K S D L h := by
  intro H V b hb k cs
  refine .ctl (fr' := mk b n (put S o.dst undef) (laterB bi ats o.type v :: D) ([.inRegion ops rest] ++ k)) (cs' := cs) (fun main w => step_defer ho hw hop hx hb) ?_
  have V' : Fits h L (laterB bi ats o.type v :: D) H := ⟨V.valid, V.disj, V.nd, V.eq⟩
  refine (g H V' b hb k cs).mono ?_
  rintro fr cs' H' ⟨e0, e, S', D', L', h', V2, kk, a⟩
  refine ⟨e0, e, S', D', L', h', V2, kk, ?_⟩
  cases e <;> exact a
/-- The part of a heap that is not lent. -/
def own (R h : AH) : AH := fun b => match R b with | some _ => none | none => h b
theorem own_disj (R h : AH) : Disj (own R h) R := by
  intro b
  cases hr : R b with
  | none => exact .inr rfl
  | some o => exact .inl (by simp [own, hr])
theorem own_hun {R h : AH} (e : Ext (zf R) h) : hun (own R h) (zf R) = h := by
  funext b
  cases hr : R b with
  | none =>
    have : zf R b = none := zf_none.2 hr
    simp only [hun, own, hr, this]
    cases h b <;> rfl
  | some o =>
    have : zf R b = some (zO o) := by simp [zf, hr]
    simp only [hun, own, hr]
    rw [this, e b _ this]
theorem own_ext {X R h : AH} (d : Disj X R) (e : Ext (hun X (zf R)) h) : Ext X (own R h) := by
  intro b o hb
  have hr : R b = none := d.right hb
  simp only [own, hr]
  exact e b o (hun_left hb)
theorem ext_right {X Z : AH} (d : Disj X Z) : Ext Z (hun X Z) := by
  intro b o hb
  rcases d b with h | h
  · simp [hun, h, hb]
  · rw [h] at hb; cases hb
end

/-- Where the worker is about to close. -/
def WEnd (f n c : Nat) (ats : Array TypeId) (ty : TypeId) (hw0 : AH) (fr : Frame) (hw : AH) : Prop :=
  Ext hw0 hw ∧ ∃ (S : Sl) (todo : List Item), fr = { mk { (default : Frame) with fn := f, kind := .deferred, roundOf := none } n S [laterB .close ats ty (.chan (some c))] todo with mode := .returning }

theorem wl_of {h : AH} {L : Pv} {D : Df} {H : AH} (f : Fits h L D H) (e : D = []) : H = wl h L := by
  subst e
  rw [f.eq]
  exact hun_nil _
end Go.HL
/- How machines and hands of package rod lie in memory; makeChan. Conditions: none. -/
namespace Go.Rd
open Go Go.HL Go.Wx
variable [Lvl]
def pinC (p : PinP) : List Value := [.int .i64 p.rod, .int .i64 p.lever, .int .i64 p.lag]
def linkC (l : LinkP) : List Value := [.int .i64 l.frm, .int .i64 l.to, .int .i64 l.reg, .int .i64 l.lag]
/-- A machine's value. -/
def MachV (h : AH) (m : MachP) (v : Value) : Prop :=
  ∃ B Q L W, v = .agg #[.int .i64 m.rods, .int .i64 m.levers, .int .i64 m.regs, .int .i64 m.travel, .int .i64 m.opn, B, Q, L, W] ∧ SlR h 1 intC m.buttons B ∧ SlR h 3 pinC m.pins Q ∧ SlR h 4 linkC m.links L ∧ SlR h 1 intC m.weights W
theorem MachV.ext {h h' : AH} {m : MachP} {v : Value} (r : MachV h m v) (e : Ext h h') : MachV h' m v := by
  obtain ⟨B, Q, L, W, hv, r1, r2, r3, r4⟩ := r
  exact ⟨B, Q, L, W, hv, r1.ext e, r2.ext e, r3.ext e, r4.ext e⟩
/-- A hand's value. -/
def HandV (h : AH) (a : HandP) (v : Value) : Prop := ∃ B O, v = .agg #[B, O] ∧ SlR h 1 intC a.buttons B ∧ SlR h 1 intC a.on O
theorem HandV.ext {h h' : AH} {a : HandP} {v : Value} (r : HandV h a v) (e : Ext h h') : HandV h' a v := by
  obtain ⟨B, O, hv, r1, r2⟩ := r
  exact ⟨B, O, hv, r1.ext e, r2.ext e⟩
end Go.Rd
namespace Go.HL
open Go
variable [Lvl]
variable {P : Program} {n : Nat} {ops : Array Oper} {os : List Oper} {K : Sl → Pv → AH → Prop} {E : Value → Sl → Pv → AH → Prop} {S : Sl} {L : Pv} {h : AH} {d : Option Tmp} {ty : TypeId} {ps : String} {af : Array Edge}
theorem op_makeChan {t : TypeId} {x : Operand} {kd : IntKind} {dr : ChanDir} {el : TypeId} {inf : TypeInfo} (hx : ev n S x = .int kd 0) (ht : pev P (underlying t) = some (.chan dr el)) (hi : pev P (typeInfo el) = some inf)
    (k : ∀ b, wl h L b = none → wpL P n ops os K E (put S d (.chan (some b))) (L ++ [some (b, .chan 0 #[] false 0 0 false)]) h) : wpL P n ops (⟨d, .makeChan t x, ty, ps, af, none⟩ :: os) K E S L h := by
  refine op_of fun V => ?_
  unfold opW
  simp only [execOp, hx, Instr.makeChan]
  refine dem_bind (dem_pev_bind (a := (0 : Int)) rfl (dem_pev_bind ht ?_))
  simp only
  refine dem_pev_bind hi ?_
  simp only [Int.mul_zero]
  rw [if_neg (by decide)]
  refine dem_bind ?_
  intro b hb
  exact ⟨_, h, wl_new hb _, valid_new V hb _, k b hb⟩

section pre
variable {ro : Option Nat} {K : Post} {D : Df}
/-- The first operations of a region; what stands behind them is left (r). -/
theorem goes_pre {ops : Array Oper} {r : List Nat} (l : List Oper) (hcalm : ∀ o ∈ l, Op.calm o.op) : ∀ (k : Nat) (S : Sl) (L : Pv) (h : AH), (∀ j, j < l.length → l[j]? = ops[k + j]?) →
    wpL P n ops l (fun S' L' h' => Goes P n ro [.inRegion ops r] K S' D L' h') (fun v S' L' h' => K (.panic v) S' D L' h') S L h → Goes P n ro [.inRegion ops (List.range' k l.length ++ r)] K S D L h := by
  induction l with
  | nil => intro k S L h _ w; exact w
  | cons o l ih =>
    intro k S L h hl w
    have h0 : ops[k]? = some o := by simpa using (hl 0 (by simp)).symm
    have hl' : ∀ j, j < l.length → l[j]? = ops[k + 1 + j]? := fun j hj => by have := hl (j + 1) (by simp; omega); simpa [Nat.add_assoc, Nat.add_comm 1 j] using this
    have ih' := ih (fun x hx => hcalm x (List.mem_cons_of_mem _ hx)) (k + 1)
    have hc := hcalm o (List.mem_cons_self ..)
    rw [List.length_cons, List.range'_succ, List.cons_append]
    unfold wpL at w
    cases hg : o.guard with
    | none =>
      rw [hg] at w
      refine goes_op h0 hc (by simp [Region.wanted, hg]) (fun V => opW_mono ?_ ?_ (w V))
      · rintro v H ⟨L', h', rfl, V', w'⟩; exact ⟨L', h', rfl, V', ih' _ _ _ hl' w'⟩
      · rintro v H ⟨L', h', rfl, V', w'⟩; exact ⟨L', h', rfl, V', w'⟩
    | some jw =>
      obtain ⟨j, want⟩ := jw
      rw [hg] at w
      obtain ⟨t, he, w1, w2⟩ := w
      by_cases ht : t = some want
      · refine goes_op h0 hc (by simp [Region.wanted, hg, yielded_ev he, ht]) (fun V => opW_mono ?_ ?_ (w1 ht V))
        · rintro v H ⟨L', h', rfl, V', w'⟩; exact ⟨L', h', rfl, V', ih' _ _ _ hl' w'⟩
        · rintro v H ⟨L', h', rfl, V', w'⟩; exact ⟨L', h', rfl, V', w'⟩
      · exact goes_pass h0 (by simp [Region.wanted, hg, yielded_ev he, ht]) (ih' _ _ _ hl' (w2 ht))
/-- A region in the order of the text, up to its last operation. -/
theorem xp_regionS {id : Nat} {ops : Array Oper} {last : Oper} (l : List Oper) (e : ops = (l ++ [last]).toArray) (hc : calmB l = true)
    (w : wpL P n ops l (fun S' L' h' => Goes P n ro [.inRegion ops [l.length]] K S' D L' h') (fun v S' L' h' => K (.panic v) S' D L' h') S L h) : xp P n ro (.region id ops false) K S D L h := by
  subst e
  refine goes_step (items' := [.inRegion (l ++ [last]).toArray (List.range (l ++ [last]).toArray.size)]) (fun b hb k cs main w => by simp [stepG, stepG.exec, mk]) ?_
  have e1 : List.range (l ++ [last]).toArray.size = List.range' 0 l.length ++ [l.length] := by
    simp [List.range_succ, List.range_eq_range']
  rw [e1]
  exact goes_pre l (calm_of l hc) 0 S L h (fun j hj => by rw [List.getElem?_toArray, Nat.zero_add, List.getElem?_append_left hj]) w
/-- The same, the list spelt by the region itself. -/
theorem xp_regionD {id : Nat} {ops : Array Oper} (hne : Nat.blt 0 ops.size = true) (hc : calmB ops.toList.dropLast = true)
    (w : wpL P n ops ops.toList.dropLast (fun S' L' h' => Goes P n ro [.inRegion ops [ops.size - 1]] K S' D L' h') (fun v S' L' h' => K (.panic v) S' D L' h') S L h) : xp P n ro (.region id ops false) K S D L h := by
  have hp : 0 < ops.size := Nat.le_of_ble_eq_true hne
  have hn : ops.toList ≠ [] := fun e => by
    have : ops.size = 0 := by rw [← Array.length_toList, e]; rfl
    omega
  refine xp_regionS (last := ops.toList.getLast hn) ops.toList.dropLast ?_ hc ?_
  · rw [List.dropLast_concat_getLast]
  · rw [List.length_dropLast, Array.length_toList]
    exact w
/-- .. one at a region's begin, and what is behind the region stays in sight. -/
theorem goes_regionB {id : Nat} {ops : Array Oper} {items : List Item} (g : Goes P n ro ([.inRegion ops (List.range ops.size)] ++ items) K S D L h) : Goes P n ro ([.code (.region id ops false)] ++ items) K S D L h :=
  goes_step (items' := [.inRegion ops (List.range ops.size)] ++ items) (fun b hb k cs main w => by simp [stepG, stepG.exec, mk]) g
/-- One operation, and all that is behind it stays in sight. -/
theorem goes_opB {ops : Array Oper} {i : Nat} {rest : List Nat} {o : Oper} {items : List Item} (ho : ops[i]? = some o) (hc : Op.calm o.op) (hw : Region.wanted o (yielded ops (arr n S)) = true)
    (r : opL P n o S L h (fun v L' h' => Goes P n ro ([.inRegion ops rest] ++ items) K (put S o.dst v) D L' h') (fun v L' h' => K (.panic v) S D L' h')) : Goes P n ro ([.inRegion ops (i :: rest)] ++ items) K S D L h := by
  intro H V b hb k cs
  refine (rch_op ho hc hw r V b (items ++ k) cs).bind ?_
  rintro fr cs' H' ⟨rfl, ⟨v, L', h', rfl, V', g⟩ | ⟨v, L', h', rfl, V', g⟩⟩
  · exact g H' V' b hb k cs'
  · exact .done ⟨rfl, .panic v, S, D, L', h', V', g, _, rfl⟩
end pre
end Go.HL
/- The own logic, part GJ: pieces around a go statement. Conditions: none. -/
namespace Go.HL
open Go Go.Conc
variable [Lvl]
section
variable {P : Program} {n : Nat} {ro : Option Nat} {K : Post} {S : Sl} {D : Df} {L : Pv} {h : AH}
theorem xp_regionL {id : Nat} {ops : Array Oper} (g : Goes P n ro [.inRegion ops (List.range ops.size)] K S D L h) : xp P n ro (.region id ops false) K S D L h := goes_regionB (items := []) g
/-- A pure operation, where the rest of the region is by hand. -/
theorem goes_pv {ops : Array Oper} {i : Nat} {rest : List Nat} {d : Option Tmp} {op : Op} {ty : TypeId} {ps : String} {af : Array Edge} {v : Value} {items : List Item} (ho : ops[i]? = some ⟨d, op, ty, ps, af, none⟩) (hc : Op.calm op)
    (hv : pev P (execOp (ev n S) ⟨d, op, ty, ps, af, none⟩) = some (.value v)) (g : Goes P n ro ([.inRegion ops rest] ++ items) K (put S d v) D L h) : Goes P n ro ([.inRegion ops (i :: rest)] ++ items) K S D L h :=
  goes_opB ho hc (by simp [Region.wanted]) (fun V => dem_pev hv ⟨L, h, rfl, V, g⟩)
end
/-- What goroutine 0 has at the end, beside what was lent. -/
theorem main_end {R h' : AH} {L' : Pv} {c j : Nat} (V : Valid h' L') (hj : L'[j]? = some (some (c, gone))) (E : Ext (zf R) h') (hRc : R c = none) :
    ∃ hm', wl h' L' = hun hm' (zx R c) ∧ hm' c = none ∧ Disj hm' R ∧ ∀ b o, wl h' L' b = some o → b ≠ c → R b = none → hm' b = some o := by
  refine ⟨fun b => if b = c then none else match R b with | some _ => none | none => wl h' L' b, ?_, by simp, fun b => ?_, fun b o hb hc hR => by simp [hc, hR, hb]⟩
  · funext b
    by_cases hb : b = c
    · subst hb
      simp [hun, zx, oneC_same, wl_get V hj]
    · cases hR : R b with
      | none =>
        have : zf R b = none := zf_none.2 hR
        simp only [hun, if_neg hb, hR, zx, oneC_ne hb, this]
        cases wl h' L' b <;> rfl
      | some o =>
        have e1 : zf R b = some (zO o) := by simp [zf, hR]
        have e2 := ext_wl V b _ (E b _ e1)
        simp only [hun, if_neg hb, hR, zx, oneC_ne hb, e1, e2]
  · cases hR : R b with
    | none => exact .inr rfl
    | some o => left; simp [hR]
/-- The worker closes, and leaves. -/
theorem wend_close {P : Program} {f : FuncId} {fn : Func} {n c : Nat} {ats : Array TypeId} {ty : TypeId} {hw0 : AH} {tm : Bool} (hf : P.funcs[f]? = some fn) (hres : fn.results = #[]) :
    ∀ fr hw', WEnd f n c ats ty hw0 fr hw' → mayWake P (G fr [baseG P []]) = true ∧ ∃ (g2 : Goroutine) (es : Array Event) (k : Nat), (∀ (w : World) s r, w.heap[c]? = some (.chan 0 #[] false s r tm) → stepG P false (G fr [baseG P []]) w = .go g2 (w.shut c s r tm) (es.push ⟨.obj c, true, true⟩)) ∧ (∀ e ∈ es, e = ⟨.obj c, false, true⟩) ∧ QuitsD P k 0 g2 := by
  rintro fr hw' ⟨_, S, todo, rfl⟩
  exact ⟨wakes, _, _, _, fun w s r hc => step_close hc, by simp, quits hf hres rfl rfl⟩
theorem fin_one (c : Nat) (o : Obj) : Fin (oneC c o) := Fin.hupd ⟨0, fun _ _ => rfl⟩ _ _
theorem fin_zf {R : AH} (f : Fin R) : Fin (zf R) := f.imp fun _ hN y hy => zf_none.2 (hN y hy)
theorem disj_out {h : AH} {b : Nat} {o : Obj} (hb : h b = none) : Disj h (oneC b o) := fun x => by
  by_cases e : x = b
  · subst e; exact .inl hb
  · exact .inr (oneC_ne e)
theorem ext_hun {h F : AH} : Ext h (hun h F) := fun _ _ e => hun_left e
section
variable {P : Program} {n : Nat} {ops : Array Oper} {os : List Oper} {K : Sl → Pv → AH → Prop} {E : Value → Sl → Pv → AH → Prop} {S : Sl} {L : Pv} {h : AH} {d : Option Tmp} {op : Op} {ty : TypeId} {ps : String} {af : Array Edge}
end
section
variable {P : Program} {n : Nat} {ops : Array Oper} {os : List Oper} {K : Sl → Pv → AH → Prop} {E : Value → Sl → Pv → AH → Prop} {S : Sl} {L : Pv} {h : AH} {d : Option Tmp} {ty : TypeId} {ps : String} {af : Array Edge}
end
end Go.HL
/- The own logic, part GU: slice literals of things of many cells. Conditions: none. -/
namespace Go.HL
open Go
variable [Lvl]
variable {P : Program} {n : Nat} {ops : Array Oper} {os : List Oper} {K : Sl → Pv → AH → Prop} {E : Value → Sl → Pv → AH → Prop} {S : Sl} {L : Pv} {h : AH} {d : Option Tmp} {ty : TypeId} {ps : String} {af : Array Edge}
end Go.HL
/- The own logic, part GV: panics that are raised and recovered, a call of a closure that is put off. Conditions: none. -/
namespace Go.HL
open Go Go.Conc
variable [Lvl]
section
variable {P : Program} {n : Nat} {ops : Array Oper} {os : List Oper} {K : Sl → Pv → AH → Prop} {E : Value → Sl → Pv → AH → Prop} {S : Sl} {L : Pv} {h : AH} {d : Option Tmp} {ty : TypeId} {ps : String} {af : Array Edge}
/-- A function that may panic: R holds of what it returns, Q of what it panics with. -/
def FnE (P : Program) (f : FuncId) (args : Array Value) (h : AH) (R Q : Value → AH → Prop) : Prop := CallT P f args h (fun v h' => Ext h h' ∧ R v h') (fun v h' => Ext h h' ∧ Q v h')
theorem FnE.of {f : FuncId} {args : Array Value} {R Q : Value → AH → Prop} (c : FnT P f args h R) : FnE P f args h R Q := CallT.mono c (fun _ _ r => r) (fun _ _ y => y.elim)
end
section
variable {P : Program} {n : Nat} {S : Sl} {D : Df} {L : Pv} {h : AH} {ops : Array Oper} {i : Nat} {rest : List Nat} {o : Oper} {b : Frame} {k : List Item} {cs : List Frame} {w : World} {main : Bool}
end
section
variable {P : Program} {n : Nat} {K : Value → AH → Prop}
/-- What the closure has to do, behind the word that recovers: x is what it got. -/
def Clo (P : Program) (m : Nat) (ops0 : Array Oper) (c2 : Code) (t : Tmp) (x : Value) (caps : Array Value) (L : Pv) (h : AH) (Q : Pv → AH → Prop) : Prop :=
  Nat.ble caps.size m = true ∧ Goes P m none ([.inRegion ops0 [1]] ++ [.code c2]) (fun e _ D L' h' => (e = .normal ∨ e = .ret) ∧ D = [] ∧ Q L' h') (put (argS caps) (some t) x) [] L h
end
end Go.HL
/- The own logic, part GK: iterators that may be stopped; blocks laid open at once; loops over functions within rounds. Conditions: none. -/
namespace Go.HL
open Go
variable [Lvl]
/-- What a body of a loop over a function owes that may stop it (F: what holds then). -/
def YieldsS {α : Type} (P : Program) (y : Value) (all : List α) (T : AH → α → Value → Prop) (I : Nat → AH → Pv → Prop) (F : AH → Pv → Prop) : Prop :=
  ∀ (k : Nat) (x : α) (v : Value) (h : AH) (M : Pv), all[k]? = some x → T h x v → I k h M → FnM P y [v] h M (fun r h' M' => (r = .bool true ∧ I (k + 1) h' M') ∨ (r = .bool false ∧ F h' M'))
/-- What such an iterator owes. -/
def IterS {α : Type} (P : Program) (f : Value) (h0 : AH) (all : List α) (T : AH → α → Value → Prop) : Prop :=
  ∀ (fn : Fn) (fs cs : Array Value) (I : Nat → AH → Pv → Prop) (F : AH → Pv → Prop), (∀ k h h' M, Ext h h' → I k h M → I k h' M) → (∀ h h' M, Ext h h' → F h M → F h' M) → YieldsS P (.func fn fs cs) all T I F →
    ∀ h M, Ext h0 h → I 0 h M → FnM P f [.func fn fs cs] h M (fun _ h' M' => I all.length h' M' ∨ F h' M')
theorem IterS.ext {α : Type} {P : Program} {f : Value} {h h' : AH} {all : List α} {T : AH → α → Value → Prop} (i : IterS P f h all T) (E : Ext h h') : IterS P f h' all T :=
  fun fn fs cs I F hI hF Y h1 M E1 => i fn fs cs I F hI hF Y h1 M (E.trans E1)
section
variable {P : Program} {n : Nat} {ops : Array Oper} {os : List Oper} {K : Sl → Pv → AH → Prop} {E : Value → Sl → Pv → AH → Prop} {S : Sl} {L : Pv} {h : AH} {d : Option Tmp} {op : Op} {ty : TypeId} {ps : String} {af : Array Edge}
end
end Go.HL
/- The own logic, part GL: a lookup in a map; counting in a map; loops over functions that may stop. Conditions: none. -/
namespace Go.HL
open Go
variable [Lvl]
section
variable {P : Program} {n : Nat} {ops : Array Oper} {os : List Oper} {K : Sl → Pv → AH → Prop} {E : Value → Sl → Pv → AH → Prop} {S : Sl} {L : Pv} {h : AH} {d : Option Tmp} {ty : TypeId} {ps : String} {af : Array Edge}
variable {α : Type} [DecidableEq α] {kt : TypeId} {enc : α → Value}
end
end Go.HL
/- The own logic, part GM: a loop over a function within a round. Conditions: none. -/
namespace Go.HL
open Go
variable [Lvl]
section
variable {P : Program} {n : Nat} {K : Post} {S : Sl} {D : Df} {L : Pv} {h : AH}
end
end Go.HL
/- The own logic, part GN: loops over functions whose object stands in a place of its own. Conditions: none. -/
namespace Go.HL
open Go
variable [Lvl]
section
variable {P : Program} {n : Nat} {K : Post} {S : Sl} {D : Df} {L : Pv} {h : AH}
end
end Go.HL
/- The own logic, part GO: parts of slices; capacities. Conditions: none. -/
namespace Go.HL
open Go
variable [Lvl]
section
variable {P : Program} {n : Nat} {d : Option Tmp} {ty : TypeId} {ps : String} {af : Array Edge} {S : Sl}
end
/-- A slice's capacity is no less than its length. -/
def CapOK : Value → Prop
  | .slice _ n c => n ≤ c
  | _ => True
theorem AccP.cap {e : TypeId} {m : Nat} {cs : List Value} {p : Option (Nat × Obj)} {v : Value} (a : AccP e m cs p v) (hm : 0 < m) : CapOK v := by
  rcases a with ⟨_, _, A, rfl⟩ | ⟨b, len, cap, junk, h1, rfl, _, h2⟩
  · exact Nat.le_refl 0
  · show len ≤ cap
    rw [List.length_append, h1] at h2
    exact Nat.le_of_mul_le_mul_right (by omega) hm
end Go.HL
/- The own logic, part GS: a part of an array as a slice. Conditions: none. -/
namespace Go.HL
open Go
variable [Lvl]
section
variable {P : Program} {n : Nat} {d : Option Tmp} {ty : TypeId} {ps : String} {af : Array Edge} {S : Sl}
end
end Go.HL
/- The own logic, part GT: the first and the last part of a slice. Conditions: none. -/
namespace Go.HL
open Go
variable [Lvl]
section
variable {P : Program} {n : Nat} {d : Option Tmp} {ty : TypeId} {ps : String} {af : Array Edge} {S : Sl}
end
end Go.HL
/- The own logic, part GW: copy, clear, append in place and of zeros, cap, full slices; whether two slices overlap. Conditions: none. -/
namespace Go.HL
open Go
variable [Lvl]
section
variable {P : Program} {n : Nat} {d : Option Tmp} {ty : TypeId} {ps : String} {af : Array Edge} {S : Sl}
end
section
variable {P : Program} {n : Nat} {ops : Array Oper} {os : List Oper} {K : Sl → Pv → AH → Prop} {E : Value → Sl → Pv → AH → Prop} {S : Sl} {L : Pv} {h : AH} {d : Option Tmp} {ty : TypeId} {ps : String} {af : Array Edge}
end
end Go.HL
/- The own logic, part GX: a call of a function that may panic, numbers of another kind. Conditions: none. -/
namespace Go.HL
open Go
variable [Lvl]
section
variable {P : Program} {n : Nat} {ops : Array Oper} {os : List Oper} {K : Sl → Pv → AH → Prop} {E : Value → Sl → Pv → AH → Prop} {S : Sl} {L : Pv} {h : AH} {d : Option Tmp} {ty : TypeId} {ps : String} {af : Array Edge}
end
section
variable {P : Program} {m n : Nat} {K' : Post} {S : Sl} {D : Df} {L : Pv} {h : AH}
end
end Go.HL
/- The own logic, part GY: strings, told as lists of bytes. Conditions: none. -/
namespace Go.HL
open Go
variable [Lvl]
section
variable {P : Program} {n : Nat} {d : Option Tmp} {ty : TypeId} {ps : String} {af : Array Edge} {S : Sl}
end
end Go.HL
/- Plain: how far rods turn is the least that all causes ask. Conditions: none. -/
namespace Go.Rd

/-- A machine that passes the check. -/
structure MOK (m : MachP) : Prop where
  rods : 1 ≤ m.rods ∧ m.rods ≤ 6
  levers : 1 ≤ m.levers ∧ m.levers ≤ 6
  regs : 0 ≤ m.regs ∧ m.regs ≤ 2
  travel : 1 ≤ m.travel ∧ m.travel ≤ 12
  opn : 1 ≤ m.opn ∧ m.opn ≤ m.travel
  bl : m.buttons.length ≤ 4
  btn : ∀ b ∈ m.buttons, 0 ≤ b ∧ b < m.rods
  pl : m.pins.length ≤ 8
  pin : ∀ p ∈ m.pins, (0 ≤ p.rod ∧ p.rod < m.rods) ∧ (0 ≤ p.lever ∧ p.lever < m.levers) ∧ (0 ≤ p.lag ∧ p.lag ≤ m.travel)
  ll : m.links.length ≤ 4
  link : ∀ l ∈ m.links, (0 ≤ l.frm ∧ l.frm < m.rods) ∧ (0 ≤ l.to ∧ l.to < m.rods) ∧ l.frm ≠ l.to ∧ (-1 ≤ l.reg ∧ l.reg < m.regs) ∧ (1 ≤ l.lag ∧ l.lag ≤ m.travel)
  wl : (m.weights.length : Int) = m.levers
  wt : ∀ w ∈ m.weights, 0 ≤ w ∧ w ≤ 50
/-- What a walk of how far rods turn wants. -/
structure Fit (m : MachP) (a : HandP) : Prop where
  bl : m.buttons.length ≤ 4
  btn : ∀ b ∈ m.buttons, 0 ≤ b ∧ b < 6
  ll : m.links.length ≤ 4
  link : ∀ l ∈ m.links, (0 ≤ l.frm ∧ l.frm < 6) ∧ (0 ≤ l.to ∧ l.to < 6) ∧ (0 ≤ l.lag ∧ l.lag ≤ 12)
  hb : ∀ b ∈ a.buttons, 0 ≤ b ∧ b < m.buttons.length
  hl : a.buttons.length ≤ 4
  ol : a.on.length ≤ 4

/-- All causes are met. -/
structure Clo (m : MachP) (a : HandP) (depth : Int) (f : Int → Int) : Prop where
  zero : ∀ r, 0 ≤ r → 0 ≤ f r
  press : ∀ b ∈ a.buttons, depth ≤ f (m.buttons.getD b.toNat 0)
  link : ∀ l ∈ m.links, active a.on l = true → f l.frm - l.lag ≤ f l.to
theorem Fit.lag {m : MachP} {a : HandP} (F : Fit m a) : ∀ l ∈ m.links, 0 ≤ l.lag := fun l hl => (F.link l hl).2.2.1
end Go.Rd
/- Plain: how far levers are lifted. Conditions: none. -/
namespace Go.Rd

end Go.Rd
/- The checks of a machine and of a hand, in plain data. Conditions: none. -/
namespace Go.Rd
open Go Go.HL Go.Wx
variable [Lvl]
def checkLinkM (m : MachP) (l : LinkP) : Int :=
  if !inM l.frm 0 (m.rods - 1) then 3 else if !inM l.to 0 (m.rods - 1) then 3 else if l.frm = l.to then 4 else if !inM l.reg (-1) (m.regs - 1) then 3 else if !inM l.lag 1 m.travel then 1 else 0
def checkButtonM (m : MachP) (b : Int) : Int := if !inM b 0 (m.rods - 1) then 3 else 0
def checkPinM (m : MachP) (p : PinP) : Int := if !inM p.rod 0 (m.rods - 1) then 3 else if !inM p.lever 0 (m.levers - 1) then 3 else if !inM p.lag 0 m.travel then 1 else 0
def checkWeightM (w : Int) : Int := if !inM w 0 50 then 1 else 0
/-- The first error of a machine. -/
def chkM (m : MachP) : Int :=
  if !inM m.rods 1 6 then 1 else if !inM m.levers 1 6 then 1 else if !inM m.regs 0 2 then 1 else if !inM m.travel 1 12 then 1 else if !inM m.opn 1 m.travel then 1
  else if m.buttons.length > 4 then 6 else if firstErr (checkButtonM m) m.buttons ≠ 0 then firstErr (checkButtonM m) m.buttons
  else if m.pins.length > 8 then 6 else if firstErr (checkPinM m) m.pins ≠ 0 then firstErr (checkPinM m) m.pins
  else if m.links.length > 4 then 6 else if firstErr (checkLinkM m) m.links ≠ 0 then firstErr (checkLinkM m) m.links
  else if (m.weights.length : Int) ≠ m.levers then 2 else firstErr checkWeightM m.weights
theorem inM_iff {n lo hi : Int} : inM n lo hi = true ↔ lo ≤ n ∧ n ≤ hi := by simp [inM]
/-- A set of numbers below some number: ascending. -/
structure SetOK (l : List Int) (below : Int) : Prop where
  mem : ∀ x ∈ l, 0 ≤ x ∧ x < below
  asc : l.Pairwise (· < ·)
theorem peel {c : Prop} [Decidable c] {n x : Int} (h : (if c then n else x) = 0) (hn : c → n ≠ 0) : ¬ c ∧ x = 0 := by
  by_cases hc : c
  · rw [if_pos hc] at h; exact absurd h (hn hc)
  · rw [if_neg hc] at h; exact ⟨hc, h⟩
theorem check_ok {m : MachP} (h : chkM m = 0) : MOK m := by
  unfold chkM at h
  obtain ⟨a1, h⟩ := peel h (fun _ => by decide)
  obtain ⟨a2, h⟩ := peel h (fun _ => by decide)
  obtain ⟨a3, h⟩ := peel h (fun _ => by decide)
  obtain ⟨a4, h⟩ := peel h (fun _ => by decide)
  obtain ⟨a5, h⟩ := peel h (fun _ => by decide)
  obtain ⟨a6, h⟩ := peel h (fun _ => by decide)
  obtain ⟨a7, h⟩ := peel h (fun x => x)
  obtain ⟨a8, h⟩ := peel h (fun _ => by decide)
  obtain ⟨a9, h⟩ := peel h (fun x => x)
  obtain ⟨a10, h⟩ := peel h (fun _ => by decide)
  obtain ⟨a11, h⟩ := peel h (fun x => x)
  obtain ⟨a12, h⟩ := peel h (fun _ => by decide)
  simp only [Bool.not_eq_true', Bool.not_eq_false, inM_iff] at a1 a2 a3 a4 a5
  simp only [ne_eq, Classical.not_not] at a7 a9 a11 a12
  have b1 := firstErr_zero a7
  have b2 := firstErr_zero a9
  have b3 := firstErr_zero a11
  have b4 := firstErr_zero h
  refine ⟨a1, a2, a3, a4, a5, by omega, fun b hb => ?_, by omega, fun p hp => ?_, by omega, fun l hl => ?_, by simpa using a12, fun w hw => ?_⟩
  · have h1 := b1 b hb
    unfold checkButtonM at h1
    obtain ⟨a1, _⟩ := peel h1 (fun _ => by decide)
    simp only [Bool.not_eq_true', Bool.not_eq_false, inM_iff] at a1
    omega
  · have h1 := b2 p hp
    unfold checkPinM at h1
    obtain ⟨a1, h1⟩ := peel h1 (fun _ => by decide)
    obtain ⟨a2, h1⟩ := peel h1 (fun _ => by decide)
    obtain ⟨a3, h1⟩ := peel h1 (fun _ => by decide)
    simp only [Bool.not_eq_true', Bool.not_eq_false, inM_iff] at a1 a2 a3
    omega
  · have h1 := b3 l hl
    unfold checkLinkM at h1
    obtain ⟨a1, h1⟩ := peel h1 (fun _ => by decide)
    obtain ⟨a2, h1⟩ := peel h1 (fun _ => by decide)
    obtain ⟨a3, h1⟩ := peel h1 (fun _ => by decide)
    obtain ⟨a4, h1⟩ := peel h1 (fun _ => by decide)
    obtain ⟨a5, h1⟩ := peel h1 (fun _ => by decide)
    simp only [Bool.not_eq_true', Bool.not_eq_false, inM_iff] at a1 a2 a4 a5
    omega
  · have h1 := b4 w hw
    unfold checkWeightM at h1
    obtain ⟨a1, _⟩ := peel h1 (fun _ => by decide)
    simp only [Bool.not_eq_true', Bool.not_eq_false, inM_iff] at a1
    omega
structure HOK (m : MachP) (a : HandP) : Prop where
  b : SetOK a.buttons m.buttons.length
  o : SetOK a.on m.regs
end Go.Rd
/- Plain: sets of levers. Conditions: none. -/
namespace Go.Rd
open Go Go.HL Go.Wx
variable [Lvl]
end Go.Rd
/- Arrays of numbers in a private place. Conditions: none. -/
namespace Go.Rd
open Go Go.HL Go.Wx
variable [Lvl]
abbrev tV (t : List Int) : List Value := t.map (Value.int .i64)
theorem rd_all {l : List Value} {m : Nat} (h : l.length = m) : rd l.toArray 0 m = some l := by
  subst h
  unfold rd
  simp
/-- A machine's value, a hand's value. -/
abbrev machV (AB AQ AL AW : Option Addr) (cB cQ cL cW : Nat) (m : MachP) : Value := .agg #[.int .i64 m.rods, .int .i64 m.levers, .int .i64 m.regs, .int .i64 m.travel, .int .i64 m.opn, .slice AB m.buttons.length cB, .slice AQ m.pins.length cQ, .slice AL m.links.length cL, .slice AW m.weights.length cW]
abbrev handV (HA OA : Option Addr) (cH cO : Nat) (a : HandP) : Value := .agg #[.slice HA a.buttons.length cH, .slice OA a.on.length cO]
structure MachR (h : AH) (AB AQ AL AW : Option Addr) (m : MachP) : Prop where
  b : Row h 1 intC AB m.buttons
  q : Row h 3 pinC AQ m.pins
  l : Row h 4 linkC AL m.links
  w : Row h 1 intC AW m.weights
theorem MachR.ext {h h' : AH} {AB AQ AL AW : Option Addr} {m : MachP} (r : MachR h AB AQ AL AW m) (e : Ext h h') : MachR h' AB AQ AL AW m := ⟨r.b.ext e, r.q.ext e, r.l.ext e, r.w.ext e⟩
structure HandR (h : AH) (HA OA : Option Addr) (a : HandP) : Prop where
  b : Row h 1 intC HA a.buttons
  o : Row h 1 intC OA a.on
theorem HandR.ext {h h' : AH} {HA OA : Option Addr} {a : HandP} (r : HandR h HA OA a) (e : Ext h h') : HandR h' HA OA a := ⟨r.b.ext e, r.o.ext e⟩
theorem MachV.open {h : AH} {m : MachP} {v : Value} (r : MachV h m v) : ∃ AB AQ AL AW cB cQ cL cW, v = machV AB AQ AL AW cB cQ cL cW m ∧ MachR h AB AQ AL AW m := by
  obtain ⟨_, _, _, _, rfl, ⟨AB, cB, rfl, r1⟩, ⟨AQ, cQ, rfl, r2⟩, ⟨AL, cL, rfl, r3⟩, ⟨AW, cW, rfl, r4⟩⟩ := r
  exact ⟨AB, AQ, AL, AW, cB, cQ, cL, cW, rfl, r1, r2, r3, r4⟩
theorem MachR.close {h : AH} {m : MachP} {AB AQ AL AW : Option Addr} {cB cQ cL cW : Nat} (r : MachR h AB AQ AL AW m) : MachV h m (machV AB AQ AL AW cB cQ cL cW m) :=
  ⟨_, _, _, _, rfl, ⟨_, _, rfl, r.b⟩, ⟨_, _, rfl, r.q⟩, ⟨_, _, rfl, r.l⟩, ⟨_, _, rfl, r.w⟩⟩
theorem HandV.open {h : AH} {a : HandP} {v : Value} (r : HandV h a v) : ∃ HA OA cH cO, v = handV HA OA cH cO a ∧ HandR h HA OA a := by
  obtain ⟨_, _, rfl, ⟨HA, cH, rfl, r1⟩, ⟨OA, cO, rfl, r2⟩⟩ := r
  exact ⟨HA, OA, cH, cO, rfl, r1, r2⟩
theorem HandR.close {h : AH} {a : HandP} {HA OA : Option Addr} {cH cO : Nat} (r : HandR h HA OA a) : HandV h a (handV HA OA cH cO a) := ⟨_, _, rfl, ⟨_, _, rfl, r.b⟩, ⟨_, _, rfl, r.o⟩⟩
end Go.Rd
/- Slices of things that point into memory themselves. Conditions: none. -/
namespace Go.Rd
open Go Go.HL Go.Wx
variable [Lvl]
/-- A slice of things of m cells each, each of which stands for a datum. -/
def SlX {α : Type} (h : AH) (m : Nat) (T : AH → α → List Value → Prop) (l : List α) (v : Value) : Prop :=
  ∃ (cs : List (List Value)) (A : Option Addr) (cap : Nat), v = .slice A l.length cap ∧ cs.length = l.length ∧ Row h m id A cs ∧ ∀ (i : Nat) (x : α) (c : List Value), l[i]? = some x → cs[i]? = some c → T h x c
def Mono {α : Type} (T : AH → α → List Value → Prop) : Prop := ∀ h h' x c, Ext h h' → T h x c → T h' x c
theorem SlX.ext {α : Type} {h h' : AH} {m : Nat} {T : AH → α → List Value → Prop} {l : List α} {v : Value} (r : SlX h m T l v) (mo : Mono T) (e : Ext h h') : SlX h' m T l v := by
  obtain ⟨cs, A, cap, hv, hl, R, hT⟩ := r
  exact ⟨cs, A, cap, hv, hl, R.ext e, fun i x c h1 h2 => mo _ _ _ _ e (hT i x c h1 h2)⟩
theorem SlX.nil {α : Type} (h : AH) (m : Nat) (T : AH → α → List Value → Prop) (A : Option Addr) (c : Nat) : SlX h m T ([] : List α) (.slice A 0 c) :=
  ⟨[], A, c, rfl, rfl, ⟨fun _ hx => absurd hx (List.not_mem_nil), Rd.nil _ _⟩, fun i x c h1 _ => by simp at h1⟩
/-- The elements so far of what grows in a place of its own. -/
def Els {α : Type} (h : AH) (T : AH → α → List Value → Prop) (l : List α) (cs : List (List Value)) : Prop := cs.length = l.length ∧ ∀ (i : Nat) (x : α) (c : List Value), l[i]? = some x → cs[i]? = some c → T h x c
theorem Els.nil {α : Type} (h : AH) (T : AH → α → List Value → Prop) : Els h T ([] : List α) [] := ⟨rfl, fun i x c h1 _ => by simp at h1⟩
theorem Els.ext {α : Type} {h h' : AH} {T : AH → α → List Value → Prop} {l : List α} {cs : List (List Value)} (r : Els h T l cs) (mo : Mono T) (e : Ext h h') : Els h' T l cs := ⟨r.1, fun i x c h1 h2 => mo _ _ _ _ e (r.2 i x c h1 h2)⟩
theorem Els.snoc {α : Type} {h : AH} {T : AH → α → List Value → Prop} {l : List α} {cs : List (List Value)} {x : α} {c : List Value} (r : Els h T l cs) (t : T h x c) : Els h T (l ++ [x]) (cs ++ [c]) := by
  refine ⟨by simp [r.1], fun i y d h1 h2 => ?_⟩
  rw [List.getElem?_append] at h1 h2
  rw [r.1] at h2
  split at h1
  · rename_i hi; rw [if_pos hi] at h2; exact r.2 i y d h1 h2
  · rename_i hi
    rw [if_neg hi] at h2
    have h0 : i - l.length = 0 := by
      have := (List.getElem?_eq_some_iff.1 h1).1
      simp at this
      omega
    rw [h0] at h1 h2
    simp at h1 h2
    subst h1 h2
    exact t
theorem Els.at {α : Type} {h : AH} {T : AH → α → List Value → Prop} {l : List α} {cs : List (List Value)} (r : Els h T l cs) {i : Nat} (hi : i < l.length) : ∃ hc : i < cs.length, T h l[i] cs[i] :=
  ⟨by rw [r.1]; exact hi, r.2 i _ _ (List.getElem?_eq_getElem hi) (List.getElem?_eq_getElem (by rw [r.1]; exact hi))⟩
theorem SlX.of {α : Type} {h : AH} {m : Nat} {T : AH → α → List Value → Prop} {l : List α} {cs : List (List Value)} {A : Option Addr} {cap n : Nat} (R : Row h m id A cs) (e : Els h T l cs) (hn : l.length = n) : SlX h m T l (.slice A n cap) := by
  subst hn
  exact ⟨cs, A, cap, rfl, e.1, R, e.2⟩
/-- What has grown in a place of its own. -/
theorem SlX.acc {α : Type} {e : TypeId} {m : Nat} {T : AH → α → List Value → Prop} {l : List α} {cs : List (List Value)} {p : Option (Nat × Obj)} {v : Value} (a : AccP e m (cs.flatMap id) p v) (hm : 0 < m) (hl : ∀ x ∈ cs, x.length = m) {L : Pv} {h : AH} (V : Valid h L) {i : Nat} (hi : L[i]? = some p) (E : Els (wl h L) T l cs) : SlX (wl h L) m T l v := by
  obtain ⟨A, cap, rfl, R⟩ := AccP.row a hm hl V hi
  exact SlX.of R E E.1.symm
/-- Lists of numbers as elements. -/
def TL (h : AH) (l : List Int) (c : List Value) : Prop := ∃ v, c = [v] ∧ SlR h 1 intC l v
theorem TL.mono : Mono TL := fun h h' l c e ⟨v, hc, r⟩ => ⟨v, hc, r.ext e⟩
/-- Hands as elements. -/
def TH (h : AH) (a : HandP) (c : List Value) : Prop := ∃ B O, c = [B, O] ∧ SlR h 1 intC a.buttons B ∧ SlR h 1 intC a.on O
theorem TH.mono : Mono TH := fun h h' l c e ⟨B, O, hc, r, s⟩ => ⟨B, O, hc, r.ext e, s.ext e⟩
/-- What was heard. -/
structure HeardP where
  hand : HandP
  sounds : List Int
def TU (h : AH) (x : HeardP) (c : List Value) : Prop := ∃ B O U, c = [B, O, U] ∧ SlR h 1 intC x.hand.buttons B ∧ SlR h 1 intC x.hand.on O ∧ SlR h 1 intC x.sounds U
theorem TU.mono : Mono TU := fun h h' l c e ⟨B, O, U, hc, r, s, t⟩ => ⟨B, O, U, hc, r.ext e, s.ext e, t.ext e⟩
end Go.Rd
/- Plain: machines with faults. Conditions: none. -/
namespace Go.Rd
open Go Go.HL Go.Wx
variable [Lvl]
inductive FaultP
  | shut (i : Nat)
  | opn (i : Nat)
  | pin (i : Nat)
  | link (i : Nat)
  deriving DecidableEq
structure BrkP where
  pins : List PinP
  links : List LinkP
  stay : Nat
  dumb : Nat
end Go.Rd
/- Plain: all sets of numbers. Conditions: none. -/
namespace Go.Rd
open Go Go.HL Go.Wx
end Go.Rd
/- Plain: all sets of so many numbers, as they are listed. Conditions: none. -/
namespace Go.Rd
open Go Go.HL Go.Wx
end Go.Rd
/- Plain facts: cells that are written over within a row. Conditions: as each theorem states. -/
namespace Go.Wx
open Go Go.HL
variable [Lvl]
end Go.Wx
/- The own logic, part GZ: parts of an array as slices; bytes as a string; constants of the program that are read. Conditions: none. -/
namespace Go.HL
open Go Go.Wx
variable [Lvl]
section
variable {P : Program} {n : Nat} {d : Option Tmp} {ty : TypeId} {ps : String} {af : Array Edge} {S : Sl}
end
section
variable {P : Program} {n : Nat} {ops : Array Oper} {os : List Oper} {K : Sl → Pv → AH → Prop} {E : Value → Sl → Pv → AH → Prop} {S : Sl} {L : Pv} {h : AH} {d : Option Tmp} {ty : TypeId} {ps : String} {af : Array Edge}
end
end Go.HL
/- The own logic, part HA: drawn regions in which one block is read and written, cell by cell. Conditions: none. -/
namespace Go.HL
open Go
variable [Lvl]
section
variable {P : Program} {n : Nat} {ops : Array Oper} {ro : Option Nat} {K : Post} {S : Sl} {D : Df} {L : Pv} {h : AH} {X : Sl → AH → Prop} {dn ac : List Nat}

/-- The cells that have been read: by which operation, where, what. -/
abbrev Pins := List (Nat × Addr × Value)
def PinG (C : Pins) (dn : List Nat) (g : Nat × (AH → Prop)) : Prop :=
  el g.1 dn = true ∧ (∀ H1 H2, Ext H1 H2 → g.2 H1 → g.2 H2) ∧ ((∀ H, g.2 H) ∨ ∃ c ∈ C, c.1 = g.1 ∧ ∀ H, cellA H c.2.1 = some c.2.2 → g.2 H)
def PinH (C : Pins) (H : AH) : Prop := ∀ c ∈ C, cellA H c.2.1 = some c.2.2
theorem PinG.now {C : Pins} {g : Nat × (AH → Prop)} {H : AH} (p : PinG C dn g) (q : PinH C H) : g.2 H := by
  rcases p.2.2 with a | ⟨c, hc, _, a⟩
  · exact a H
  · exact a H (q c hc)
section rules
variable {C : Pins} {i : Nat} {d : Option Tmp} {op : Op} {ty : TypeId} {ps : String} {af : Array Edge}
end rules
end
end Go.HL
/- Walks: copies that are owned; the fewest weeks. Conditions: as each theorem states. -/
namespace Go.Proofs.Ytledjpdpkbifgaa
open Go Go.HL Go.Proofs Go.Wx
variable [Lvl]
set_option maxRecDepth 100000
theorem accR_new {e : TypeId} {m : Nat} {b : Nat} : AccR e m [] ⟨some (b, .cells ([] : List Value).toArray e (0, 0)), some ⟨b, 0, none⟩, 0, 0⟩ := accp_new
/-- What a closure that judges a list owes. -/
def Will (y : Value) (h0 : AH) (p : List Int → Bool) : Prop := ∀ h, Ext h0 h → Fin h → ∀ (l : List Int) (B : Option Addr) (c : Nat), Row h 1 intC B l → l.length ≤ 20 → CallV Try.prog y [.slice B l.length c] h (fun v h' => Ext h h' ∧ v = .bool (p l)) noE
theorem Will.ext {y : Value} {h h' : AH} {p : List Int → Bool} (w : Will y h p) (E : Ext h h') : Will y h' p := fun h1 E1 => w h1 (E.trans E1)
end Go.Proofs.Ytledjpdpkbifgaa
/- Walks: the fewest weeks; when to look. Conditions: as each theorem states. -/
namespace Go.Proofs.Ytledjpdpkbifgaa
open Go Go.HL Go.Proofs Go.Wx
variable [Lvl]
set_option maxRecDepth 100000
theorem cells_blk {h : AH} {b : Nat} {cs : List Value} {t : TypeId} (e : h b = some (.cells cs.toArray t (0, 0))) : Cells h b 0 cs := fun j u hu => by
  simp only [cellA, e, Nat.zero_add]
  simpa using hu
end Go.Proofs.Ytledjpdpkbifgaa
/- Plain: ranges changed in place. Conditions: as each theorem states. -/
namespace Go.Wx
open Go Go.HL
variable [Lvl]
end Go.Wx
/- Walks: ranges raised. Conditions: as each theorem states. -/
namespace Go.Proofs.Ytledjpdpkbifgaa
open Go Go.HL Go.Proofs Go.Wx
variable [Lvl]
set_option maxRecDepth 100000
end Go.Proofs.Ytledjpdpkbifgaa
/- Plain: how much warmer. Conditions: as each theorem states. -/
namespace Go.Wx
open Go Go.HL
variable [Lvl]
end Go.Wx
/- Walks: how much warmer it may be. Conditions: as each theorem states. -/
namespace Go.Proofs.Ytledjpdpkbifgaa
open Go Go.HL Go.Proofs Go.Wx
variable [Lvl]
set_option maxRecDepth 100000
end Go.Proofs.Ytledjpdpkbifgaa
/- Walks: the known season of the laws. Conditions: as each theorem states. -/
namespace Go.Proofs.Ytledjpdpkbifgaa
open Go Go.HL Go.Proofs Go.Wx
variable [Lvl]
set_option maxRecDepth 100000
theorem row_of_block {α : Type} {enc : α → List Value} {m : Nat} {l : List α} (hl : ∀ x ∈ l, (enc x).length = m) {h : AH} {b : Nat} {t : TypeId} (hb : h b = some (.cells (l.flatMap enc).toArray t (0, 0))) : Row h m enc (some ⟨b, 0, none⟩) l :=
  ⟨hl, fun _ => ⟨b, 0, rfl, cells_blk hb⟩⟩
section
variable (A0 A1 A2 A3 : Option Addr) (c0 c1 c2 c3 : Nat) (h : AH)
end
end Go.Proofs.Ytledjpdpkbifgaa
/- Walks: the laws' check at the known season. Conditions: none. -/
namespace Go.Proofs.Ytledjpdpkbifgaa
open Go Go.HL Go.Proofs Go.Wx
variable [Lvl]
set_option maxRecDepth 100000
end Go.Proofs.Ytledjpdpkbifgaa
/- The own logic, part BB: words whose value does not matter. Conditions: none. -/
namespace Go.HL
open Go
variable [Lvl]
section
variable {P : Program} {n : Nat} {ops : Array Oper} {d : Option Tmp} {op : Op} {ty : TypeId} {ps : String} {af : Array Edge} {os : List Oper} {K : Sl → Pv → AH → Prop} {E : Value → Sl → Pv → AH → Prop} {S : Sl} {L : Pv} {h : AH}
theorem wrap_u64 (z : Int) : ∃ r : Nat, r < 2 ^ 64 ∧ IntKind.wrap .u64 z = (r : Int) := by
  have e : IntKind.wrap .u64 z = z % 2 ^ 64 := by simp [IntKind.wrap, IntKind.bits, IntKind.signed]
  have h1 : 0 ≤ z % 2 ^ 64 := Int.emod_nonneg _ (by decide)
  have h2 : z % 2 ^ 64 < 2 ^ 64 := Int.emod_lt_of_pos _ (by decide)
  exact ⟨(z % 2 ^ 64).toNat, by omega, by rw [e]; omega⟩
theorem op_some {z : Int} (hv : pev P (execOp (ev n S) ⟨d, op, ty, ps, af, none⟩) = some (.value (.int .u64 (IntKind.wrap .u64 z))))
    (k : ∀ r : Nat, r < 2 ^ 64 → wpL P n ops os K E (put S d (.int .u64 (r : Int))) L h) : wpL P n ops (⟨d, op, ty, ps, af, none⟩ :: os) K E S L h := by
  obtain ⟨r, hr, e⟩ := wrap_u64 z
  rw [e] at hv
  exact op_pure hv (k r hr)
theorem dw_some {mask : List Bool} {X : Sl → AH → Prop} {dn ac : List Nat} {i : Nat} {z : Int} (hoi : ops[i]? = some ⟨d, op, ty, ps, af, none⟩) (hok : okS ops dn ac i = true) (hv : pev P (execOp (ev n S) ⟨d, op, ty, ps, af, none⟩) = some (.value (.int .u64 (IntKind.wrap .u64 z))))
    (k : ∀ r : Nat, r < 2 ^ 64 → Dw P n ops mask X (i :: dn) ac (put S d (.int .u64 (r : Int))) L h) : Dw P n ops mask X dn ac S L h := by
  obtain ⟨r, hr, e⟩ := wrap_u64 z
  rw [e] at hv
  exact dw_pure hoi hok hv (k r hr)
theorem pv_rem {t u : TypeId} {x y : Operand} {a b : Nat} {b' : Int} (hx : ev n S x = .int .u64 (a : Int)) (hy : ev n S y = .int .u64 b') (eb : b' = b) (hb : 0 < b) :
    pev P (execOp (ev n S) ⟨d, .binOp .rem t x y u, ty, ps, af, none⟩) = some (.value (.int .u64 ((a % b : Nat) : Int))) := by
  subst eb
  have h0 : ¬ ((b : Nat) : Int) = 0 := by omega
  simp only [execOp, hx, hy, binOp, Op.intDiv, if_neg h0]
  rfl
end
end Go.HL
/- Walks: the pot of numbers. Conditions: as each theorem states. -/
namespace Go.Proofs.Ytledjpdpkbifgaa
open Go Go.HL Go.Proofs Go.Wx
variable [Lvl]
set_option maxRecDepth 100000
theorem step_ok (b x : Nat) (h : AH) : FnM Try.prog (.func (.func 17) #[] ([] : List Value).toArray) [.pointer (some ⟨b, 0, none⟩)] h [some (b, .cells #[.int .u64 (x : Int)] 56 (0, 0))]
    (fun v h' M' => ∃ x' r : Nat, M' = [some (b, .cells #[.int .u64 (x' : Int)] 56 (0, 0))] ∧ v = .int .u64 (r : Int)) := by
  refine fnM_body rfl rfl Try.func17 rfl Try.ntmps17 rfl ?_
  refine xp_seq ?_
  refine xp_region rfl ?_
  refine op_pure (pv_assign (v := .int .u64 _) rfl) ?_
  refine xp_seq ?_
  refine xp_region rfl ?_
  refine op_pure (pv_move (v := .pointer (some ⟨b, 0, none⟩)) rfl) ?_
  refine op_pure (pv_move (v := .pointer (some ⟨b, 0, none⟩)) rfl) ?_
  refine op_pure (pv_of (v := .pointer (some ⟨b, 0, none⟩)) rfl) ?_
  refine op_pure (pv_fieldAddr rfl rfl rfl rfl 0 rfl) ?_
  refine op_loadP 0 (v := .int .u64 _) rfl rfl rfl rfl ?_
  refine op_some rfl fun r1 hr1 => ?_
  refine op_some rfl fun r2 hr2 => ?_
  refine op_pure (pv_of (v := .pointer (some ⟨b, 0, none⟩)) rfl) ?_
  refine op_pure (pv_fieldAddr rfl rfl rfl rfl 0 rfl) ?_
  refine op_storeP 0 (v := .int .u64 _) (vs := [_]) (c' := [_]) rfl rfl rfl rfl rfl rfl rfl rfl rfl ?_
  refine wp_norm [_] rfl ?_
  refine xp_seq ?_
  refine xp_region rfl ?_
  refine op_pure (pv_move (v := .pointer (some ⟨b, 0, none⟩)) rfl) ?_
  refine op_pure (pv_of (v := .pointer (some ⟨b, 0, none⟩)) rfl) ?_
  refine op_pure (pv_fieldAddr rfl rfl rfl rfl 0 rfl) ?_
  refine op_loadP 0 (v := .int .u64 _) rfl rfl rfl rfl ?_
  refine op_pure (pv_assign (v := .int .u64 _) rfl) ?_
  refine xp_seq ?_
  refine xp_region rfl ?_
  refine op_pure (pv_move (v := .int .u64 _) rfl) ?_
  refine op_pure (pv_move (v := .int .u64 _) rfl) ?_
  refine op_pure (pv_shr _ 33 (.inr rfl) rfl rfl rfl rfl (by omega)) ?_
  refine op_some rfl fun r3 hr3 => ?_
  refine op_some rfl fun r4 hr4 => ?_
  refine op_pure (pv_assign (v := .int .u64 _) rfl) ?_
  refine xp_seq ?_
  refine xp_region rfl ?_
  refine op_pure (pv_move (v := .int .u64 _) rfl) ?_
  refine op_pure (pv_move (v := .int .u64 _) rfl) ?_
  refine op_pure (pv_shr _ 33 (.inr rfl) rfl rfl rfl rfl (by omega)) ?_
  refine op_some rfl fun r5 hr5 => ?_
  refine op_some rfl fun r6 hr6 => ?_
  refine op_pure (pv_assign (v := .int .u64 _) rfl) ?_
  refine xp_seq ?_
  refine xp_region rfl ?_
  refine op_pure (pv_move (v := .int .u64 _) rfl) ?_
  refine op_pure (pv_move (v := .int .u64 _) rfl) ?_
  refine op_pure (pv_shr _ 33 (.inr rfl) rfl rfl rfl rfl (by omega)) ?_
  refine op_some rfl fun r7 hr7 => ?_
  refine op_pure (pv_assign (v := .int .u64 _) rfl) ?_
  refine xp_ret ?_
  refine res_list (vs := [_]) Try.results17 ⟨resV_tmp rfl rfl, trivial⟩ fun V => ?_
  exact ⟨_, [_], rfl, V, (Ext.refl _), r2, r7, rfl, rfl⟩
theorem Upto_ok (b x : Nat) (n : Int) (hn : n < 2 ^ 40) (h : AH) : FnM Try.prog (.func (.func 6) #[] ([] : List Value).toArray) [.pointer (some ⟨b, 0, none⟩), .int .i64 n] h [some (b, .cells #[.int .u64 (x : Int)] 56 (0, 0))]
    (fun v h' M' => ∃ (x' : Nat) (k : Int), M' = [some (b, .cells #[.int .u64 (x' : Int)] 56 (0, 0))] ∧ v = .int .i64 k ∧ 0 ≤ k ∧ k ≤ max n 0) := by
  refine fnM_body rfl rfl Try.func6 rfl Try.ntmps6 rfl ?_
  refine xp_seq ?_
  refine xp_region rfl ?_
  refine op_pure (pv_assign (v := .int .i64 _) rfl) ?_
  refine xp_seq ?_
  refine xp_seq ?_
  refine xp_region rfl ?_
  refine op_pure (pv_move (v := .int .i64 _) rfl) ?_
  refine op_pure (pv_of (v := .bool _) rfl) ?_
  refine xp_cond rfl (fun ht => ?_) (fun ht => ?_)
  · skip
    refine xp_seq ?_
    refine xp_region rfl ?_
    refine op_pure (pv_assign (v := .int .i64 _) rfl) ?_
    refine xp_ret ?_
    refine res_list (vs := [_]) Try.results6 ⟨resV_tmp rfl rfl, trivial⟩ fun V => ?_
    exact ⟨_, [_], rfl, V, (Ext.refl _), x, 0, rfl, rfl, by omega, by omega⟩
  · skip
    have h1 : 1 ≤ n := by simpa using ht
    refine xp_skip ?_
    refine xp_seq ?_
    refine xp_region rfl ?_
    refine op_pure (pv_move (v := .pointer (some ⟨b, 0, none⟩)) rfl) ?_
    refine op_fnMM [] [_] [] (vs := _) rfl rfl rfl ((step_ok b x h)) ?_
    rintro _ h2 _ E2 ⟨x2, r, rfl, rfl⟩
    refine wp_norm [_] rfl ?_
    refine op_pure (pv_shr _ 11 (.inr rfl) rfl rfl rfl rfl (by omega)) ?_
    refine op_pure (pv_move (v := .int .i64 _) rfl) ?_
    refine op_pure (pv_arith rfl (by omega)) ?_
    refine op_pure (pv_val (intE (show IntKind.wrap .u64 (n + 1) = (((n + 1).toNat : Nat) : Int) by rw [IntWalk.u64_in _ (by omega)]; omega)) rfl) ?_
    refine op_pure (pv_rem (b := (n + 1).toNat) rfl rfl rfl (by omega)) ?_
    have hm : r / 2 ^ 11 % (n + 1).toNat < (n + 1).toNat := Nat.mod_lt _ (by omega)
    refine op_pure (pv_val (intE (show IntKind.wrap .i64 ((r / 2 ^ 11 % (n + 1).toNat : Nat) : Int) = ((r / 2 ^ 11 % (n + 1).toNat : Nat) : Int) by rw [IntWalk.i64_in _ (by omega)])) rfl) ?_
    refine op_pure (pv_assign (v := .int .i64 _) rfl) ?_
    refine xp_ret ?_
    refine res_list (vs := [_]) Try.results6 ⟨resV_tmp rfl rfl, trivial⟩ fun V => ?_
    exact ⟨_, [_], rfl, V, E2, x2, _, rfl, rfl, by omega, by omega⟩
theorem Within_ok (b x : Nat) (lo hi : Int) (h1 : -2 ^ 30 ≤ lo) (h2 : lo ≤ hi) (h3 : hi ≤ 2 ^ 30) (h : AH) : FnM Try.prog (.func (.func 14) #[] ([] : List Value).toArray) [.pointer (some ⟨b, 0, none⟩), .int .i64 lo, .int .i64 hi] h [some (b, .cells #[.int .u64 (x : Int)] 56 (0, 0))]
    (fun v h' M' => ∃ (x' : Nat) (k : Int), M' = [some (b, .cells #[.int .u64 (x' : Int)] 56 (0, 0))] ∧ v = .int .i64 k ∧ lo ≤ k ∧ k ≤ hi) := by
  refine fnM_body rfl rfl Try.func14 rfl Try.ntmps14 rfl ?_
  refine xp_seq ?_
  refine xp_region rfl ?_
  refine op_pure (pv_assign (v := .int .i64 _) rfl) ?_
  refine xp_seq ?_
  refine xp_region rfl ?_
  refine op_pure (pv_move (v := .int .i64 _) rfl) ?_
  refine op_pure (pv_move (v := .pointer (some ⟨b, 0, none⟩)) rfl) ?_
  refine op_pure (pv_move (v := .int .i64 _) rfl) ?_
  refine op_pure (pv_move (v := .int .i64 _) rfl) ?_
  refine op_pure (pv_arith rfl (by omega)) ?_
  refine op_fnMM [] [_] [] (vs := [.pointer _, .int .i64 _]) rfl rfl rfl ((Upto_ok b x (hi - lo) (by omega) h)) ?_
  rintro _ h2 _ E2 ⟨x2, k, rfl, rfl, k1, k2⟩
  refine wp_norm [_] rfl ?_
  refine op_pure (pv_arith rfl (by omega)) ?_
  refine op_pure (pv_assign (v := .int .i64 _) rfl) ?_
  refine xp_ret ?_
  refine res_list (vs := [_]) Try.results14 ⟨resV_tmp rfl rfl, trivial⟩ fun V => ?_
  exact ⟨_, [_], rfl, V, E2, x2, lo + k, rfl, rfl, by omega, by omega⟩
theorem Of_ok (b x : Nat) (l : List Int) (hl : 0 < l.length) (hl2 : l.length < 2 ^ 20) (A : Option Addr) (c : Nat) (h : AH) (R : Row h 1 intC A l) : FnM Try.prog (.func (.func 16) #[] ([] : List Value).toArray) [.pointer (some ⟨b, 0, none⟩), .slice A l.length c] h [some (b, .cells #[.int .u64 (x : Int)] 56 (0, 0))]
    (fun v h' M' => ∃ (x' : Nat) (k : Int), M' = [some (b, .cells #[.int .u64 (x' : Int)] 56 (0, 0))] ∧ v = .int .i64 k ∧ k ∈ l) := by
  refine fnM_body rfl rfl Try.func16 rfl Try.ntmps16 rfl ?_
  refine xp_seq ?_
  refine xp_region rfl ?_
  refine op_pure (pv_assign (v := .int .i64 _) rfl) ?_
  refine xp_seq ?_
  refine xp_seq ?_
  refine xp_region rfl ?_
  refine op_pure (pv_move (v := .slice _ _ _) rfl) ?_
  refine op_pure (pv_len rfl rfl) ?_
  refine op_pure (pv_of (v := .bool _) rfl) ?_
  refine xp_condF rfl (by first | (rw [decide_eq_false_iff_not]; omega) | (rw [beq_eq_false_iff_ne]; omega)) ?_
  refine xp_skip ?_
  refine xp_seq ?_
  refine xp_region rfl ?_
  refine op_pure (pv_move (v := .slice _ _ _) rfl) ?_
  refine op_pure (pv_move (v := .pointer (some ⟨b, 0, none⟩)) rfl) ?_
  refine op_pure (pv_move (v := .slice _ _ _) rfl) ?_
  refine op_pure (pv_len rfl rfl) ?_
  refine op_pure (pv_arith rfl (by omega)) ?_
  refine op_fnMM [] [_] [] (vs := [.pointer _, .int .i64 _]) rfl rfl rfl ((Upto_ok b x (l.length - 1) (by omega) h)) ?_
  rintro _ h2 _ E2 ⟨x2, k, rfl, rfl, k1, k2⟩
  refine wp_norm [_] rfl ?_
  obtain ⟨q, rfl⟩ : ∃ q : Nat, k = q := ⟨k.toNat, by omega⟩
  have hq : q < l.length := by omega
  obtain ⟨g, off, hA, hc⟩ := (R.ext E2).at (by omega) hq
  refine op_pure (pv_indexE rfl hA rfl rfl rfl (by omega) (by omega)) ?_
  refine op_load (v := .int .i64 _) rfl rfl ((hc) 0 _ rfl) ?_
  refine op_pure (pv_assign (v := .int .i64 _) rfl) ?_
  refine xp_ret ?_
  refine res_list (vs := [_]) Try.results16 ⟨resV_tmp rfl rfl, trivial⟩ fun V => ?_
  exact ⟨_, [_], rfl, V, E2, x2, l[q], rfl, rfl, List.getElem_mem hq⟩
theorem Near_ok (b x : Nat) (a lo hi d : Int) (ha : -2 ^ 30 ≤ a ∧ a ≤ 2 ^ 30) (hd : 0 ≤ d ∧ d ≤ 2 ^ 30) (h : AH) : FnM Try.prog (.func (.func 15) #[] ([] : List Value).toArray) [.pointer (some ⟨b, 0, none⟩), .int .i64 a, .int .i64 lo, .int .i64 hi, .int .i64 d] h [some (b, .cells #[.int .u64 (x : Int)] 56 (0, 0))]
    (fun v h' M' => ∃ (x' : Nat) (u w : Int), M' = [some (b, .cells #[.int .u64 (x' : Int)] 56 (0, 0))] ∧ v = .agg #[.int .i64 (max lo (a - u)), .int .i64 (min hi (a + w))] ∧ 0 ≤ u ∧ u ≤ d ∧ 0 ≤ w ∧ w ≤ d) := by
  refine fnM_body rfl rfl Try.func15 rfl Try.ntmps15 rfl ?_
  refine xp_seq ?_
  refine xp_region rfl ?_
  refine op_alloc (cs := [_, _]) rfl rfl fun b10 hb10 => ?_
  refine wp_norm [_, _] rfl ?_
  refine xp_seq ?_
  refine xp_region rfl ?_
  refine op_pure (pv_move (v := .int .i64 _) rfl) ?_
  refine op_pure (pv_move (v := .int .i64 _) rfl) ?_
  refine op_pure (pv_move (v := .pointer (some ⟨b, 0, none⟩)) rfl) ?_
  refine op_pure (pv_move (v := .pointer (some ⟨b, 0, none⟩)) rfl) ?_
  refine op_pure (pv_move (v := .int .i64 _) rfl) ?_
  refine op_fnMM [] [_] [_] (vs := [.pointer _, .int .i64 _]) rfl rfl rfl ((Upto_ok b x d (by omega) h)) ?_
  rintro _ h2 _ E2 ⟨x2, k2, rfl, rfl, k21, k22⟩
  refine wp_norm [_, _] rfl ?_
  refine op_buildSlice (zc := [_]) (vs := [(0, .int .i64 _), (1, .int .i64 _), (2, .int .i64 _)]) (cs := [_, _, _]) rfl rfl rfl rfl rfl rfl rfl fun b17 hb17 => ?_
  refine wp_norm [_, _, _] rfl ?_
  refine wp_pub 2 rfl rfl ?_
  intro h3 E3 p3
  refine wp_norm [_, _, _] rfl ?_
  refine op_fnMM [] [_] [_, _] (vs := [.pointer _, .slice _ _ _]) rfl rfl rfl ((Of_ok b x2 [0, 0, k2] (by simp) (by simp) _ _ h3 (row_of_block (enc := intC) (m := 1) (l := [0, 0, k2]) (fun _ _ => rfl) p3))) ?_
  rintro _ h4 _ E4 ⟨x4, k4, rfl, rfl, k4m⟩
  refine wp_norm [_, _, _] rfl ?_
  have k4b : 0 ≤ k4 ∧ k4 ≤ d := by simp at k4m; omega
  refine op_pure (pv_arith rfl (by omega)) ?_
  refine op_pure (pv_max rfl rfl) ?_
  refine op_pure (pv_move (v := .int .i64 _) rfl) ?_
  refine op_pure (pv_move (v := .int .i64 _) rfl) ?_
  refine op_pure (pv_move (v := .pointer (some ⟨b, 0, none⟩)) rfl) ?_
  refine op_pure (pv_move (v := .pointer (some ⟨b, 0, none⟩)) rfl) ?_
  refine op_pure (pv_move (v := .int .i64 _) rfl) ?_
  refine op_fnMM [] [_] [_, _] (vs := [.pointer _, .int .i64 _]) rfl rfl rfl ((Upto_ok b x4 d (by omega) h4)) ?_
  rintro _ h5 _ E5 ⟨x5, k5, rfl, rfl, k51, k52⟩
  refine wp_norm [_, _, _] rfl ?_
  refine op_buildSlice (zc := [_]) (vs := [(0, .int .i64 _), (1, .int .i64 _), (2, .int .i64 _)]) (cs := [_, _, _]) rfl rfl rfl rfl rfl rfl rfl fun b27 hb27 => ?_
  refine wp_norm [_, _, _, _] rfl ?_
  refine wp_pub 3 rfl rfl ?_
  intro h6 E6 p6
  refine wp_norm [_, _, _, _] rfl ?_
  refine op_fnMM [] [_] [_, _, _] (vs := [.pointer _, .slice _ _ _]) rfl rfl rfl ((Of_ok b x5 [0, 0, k5] (by simp) (by simp) _ _ h6 (row_of_block (enc := intC) (m := 1) (l := [0, 0, k5]) (fun _ _ => rfl) p6))) ?_
  rintro _ h7 _ E7 ⟨x7, k7, rfl, rfl, k7m⟩
  refine wp_norm [_, _, _, _] rfl ?_
  have k7b : 0 ≤ k7 ∧ k7 ≤ d := by simp at k7m; omega
  refine op_pure (pv_arith rfl (by omega)) ?_
  refine op_pure (pv_min rfl rfl) ?_
  refine op_pure (pv_build (zc := [_, _]) (vs := [(0, .int .i64 _), (1, .int .i64 _)]) (cs := [_, _]) rfl rfl rfl rfl rfl rfl) ?_
  refine op_storeP 1 (v := .agg #[.int .i64 _, .int .i64 _]) (vs := [_, _]) (c' := [_, _]) rfl rfl rfl rfl rfl rfl rfl rfl rfl ?_
  refine wp_norm [_, _, _, _] rfl ?_
  refine xp_ret ?_
  refine res_list (vs := [_]) Try.results15 ⟨resV_agg 1 rfl rfl rfl rfl rfl (vs := [.int .i64 _, .int .i64 _]) rfl, trivial⟩ fun V => ?_
  obtain ⟨h9, E9, e9, V9⟩ := wl_drop [_, _, _] [_] V
  exact ⟨h9, _, e9, V9, Ext.trans (Ext.trans (Ext.trans (Ext.trans (Ext.trans (Ext.trans E2 E3) E4) E5) E6) E7) E9, x7, k4, k7, rfl, rfl, k4b.1, k4b.2, k7b.1, k7b.2⟩
theorem NewPot_ok (l : List Int) (hl : l.length < 2 ^ 63) (A : Option Addr) (c : Nat) (h : AH) (R : Row h 1 intC A l) : FnM Try.prog (.func (.func 4) #[] ([] : List Value).toArray) [.slice A l.length c] h []
    (fun v h' M' => ∃ b x : Nat, M' = [some (b, .cells #[.int .u64 (x : Int)] 56 (0, 0))] ∧ v = .pointer (some ⟨b, 0, none⟩)) := by
  refine fnM_body rfl rfl Try.func4 rfl Try.ntmps4 rfl ?_
  refine xp_seq ?_
  refine xp_region rfl ?_
  refine op_pure (pv_assign (v := .pointer _) rfl) ?_
  refine xp_seq ?_
  refine xp_region rfl ?_
  refine op_pure (pv_build (zc := [_]) (vs := [(0, .int .u64 _)]) (cs := [_]) rfl rfl rfl rfl rfl rfl) ?_
  refine op_box (v := .agg #[.int .u64 _]) (cs := [_]) rfl rfl fun b6 hb6 => ?_
  refine wp_norm [_] rfl ?_
  refine op_pure (pv_assign (v := .pointer (some ⟨b6, 0, none⟩)) rfl) ?_
  refine xp_seq ?_
  refine xp_seq ?_
  refine xp_region rfl ?_
  refine op_pure (pv_assign (v := .int .i64 _) rfl) ?_
  refine xp_block ?_
  refine xp_loopL [4, 7, 8, 9, 10, 11, 12, 13, 14, 15, 16, 17, 18, 19, 20, 21, 22, 23, 24, 25, 26, 27, 28, 29, 30, 31, 32, 33, 34, 35, 36, 37, 38, 39] 1 (α := Nat × Nat) (fun ⟨k, x⟩ => [(4, .int .i64 k)]) (fun ⟨k, x⟩ L => L.set 0 (some (b6, .cells #[.int .u64 (x : Int)] 56 (0, 0)))) (fun ⟨k, x⟩ h_k => k ≤ l.length) (fun ⟨k, x⟩ => l.length - k) ((0, 2611923443488327891)) ⟨rfl, trivial⟩ (rfl) (Nat.zero_le _) ?_
  rintro ⟨k, x⟩ T1 h_k E_k J_k
  refine goes_norm [_] rfl ?_
  refine xp_seq ?_
  refine xp_seq ?_
  refine xp_region rfl ?_
  refine op_pure (pv_move (v := .int .i64 _) rfl) ?_
  refine op_pure (pv_move (v := .slice _ _ _) rfl) ?_
  refine op_pure (pv_len rfl rfl) ?_
  refine op_pure (pv_of (v := .bool _) rfl) ?_
  refine xp_cond rfl (fun ht => ?_) (fun ht => ?_)
  · skip
    have hlt := ltI ht
    obtain ⟨g, off, hA, hc⟩ := (R.ext E_k).at (by omega) hlt
    refine xp_skip ?_
    refine xp_seq ?_
    refine xp_block ?_
    refine xp_seq ?_
    refine xp_dw [] rfl rfl rfl ?_
    refine dw_pure (i := 0) rfl (by decide +kernel) (pv_move (v := .pointer (some ⟨b6, 0, none⟩)) rfl) ?_
    refine dw_pure (i := 1) rfl (by decide +kernel) (pv_move (v := .pointer (some ⟨b6, 0, none⟩)) rfl) ?_
    refine dw_pure (i := 2) rfl (by decide +kernel) (pv_of (v := .pointer (some ⟨b6, 0, none⟩)) rfl) ?_
    refine dw_pure (i := 3) rfl (by decide +kernel) (pv_fieldAddr rfl rfl rfl rfl 0 rfl) ?_
    refine dw_load (i := 4) rfl (by decide +kernel) ?_
    refine op_loadP 0 (v := .int .u64 _) rfl rfl rfl rfl ?_
    refine dw_pure (i := 5) rfl (by decide +kernel) (pv_move (v := .slice _ _ _) rfl) ?_
    refine dw_pure (i := 6) rfl (by decide +kernel) (pv_move (v := .int .i64 _) rfl) ?_
    refine dw_pure (i := 7) rfl (by decide +kernel) (pv_indexE rfl hA rfl rfl rfl (by omega) (by omega)) ?_
    refine dw_load (i := 8) rfl (by decide +kernel) ?_
    refine op_load (v := .int .i64 _) rfl rfl ((hc) 0 _ rfl) ?_
    refine dw_some (i := 9) rfl (by decide +kernel) rfl fun r1 hr1 => ?_
    refine dw_some (i := 10) rfl (by decide +kernel) rfl fun r2 hr2 => ?_
    refine dw_some (i := 11) rfl (by decide +kernel) rfl fun r3 hr3 => ?_
    refine dw_pure (i := 12) rfl (by decide +kernel) (pv_of (v := .pointer (some ⟨b6, 0, none⟩)) rfl) ?_
    refine dw_pure (i := 13) rfl (by decide +kernel) (pv_fieldAddr rfl rfl rfl rfl 0 rfl) ?_
    refine dw_last (i := 14) rfl (by decide +kernel) (by decide +kernel) ?_
    refine op_storeP 0 (v := .int .u64 _) (vs := [_]) (c' := [_]) rfl rfl rfl rfl rfl rfl rfl rfl rfl ?_
    refine dw_norm [_] rfl ?_
    refine dw_end rfl ?_
    refine xp_dw [] rfl rfl rfl ?_
    refine dw_pure (i := 0) rfl (by decide +kernel) (pv_move (v := .pointer (some ⟨b6, 0, none⟩)) rfl) ?_
    refine dw_pure (i := 1) rfl (by decide +kernel) (pv_move (v := .pointer (some ⟨b6, 0, none⟩)) rfl) ?_
    refine dw_pure (i := 2) rfl (by decide +kernel) (pv_of (v := .pointer (some ⟨b6, 0, none⟩)) rfl) ?_
    refine dw_pure (i := 3) rfl (by decide +kernel) (pv_fieldAddr rfl rfl rfl rfl 0 rfl) ?_
    refine dw_load (i := 4) rfl (by decide +kernel) ?_
    refine op_loadP 0 (v := .int .u64 _) rfl rfl rfl rfl ?_
    refine dw_pure (i := 5) rfl (by decide +kernel) (pv_move (v := .pointer (some ⟨b6, 0, none⟩)) rfl) ?_
    refine dw_pure (i := 6) rfl (by decide +kernel) (pv_of (v := .pointer (some ⟨b6, 0, none⟩)) rfl) ?_
    refine dw_pure (i := 7) rfl (by decide +kernel) (pv_fieldAddr rfl rfl rfl rfl 0 rfl) ?_
    refine dw_load (i := 8) rfl (by decide +kernel) ?_
    refine op_loadP 0 (v := .int .u64 _) rfl rfl rfl rfl ?_
    refine dw_pure (i := 9) rfl (by decide +kernel) (pv_shr _ 32 (.inr rfl) rfl rfl rfl rfl (by omega)) ?_
    refine dw_some (i := 10) rfl (by decide +kernel) rfl fun r4 hr4 => ?_
    refine dw_pure (i := 11) rfl (by decide +kernel) (pv_of (v := .pointer (some ⟨b6, 0, none⟩)) rfl) ?_
    refine dw_pure (i := 12) rfl (by decide +kernel) (pv_fieldAddr rfl rfl rfl rfl 0 rfl) ?_
    refine dw_last (i := 13) rfl (by decide +kernel) (by decide +kernel) ?_
    refine op_storeP 0 (v := .int .u64 _) (vs := [_]) (c' := [_]) rfl rfl rfl rfl rfl rfl rfl rfl rfl ?_
    refine dw_norm [_] rfl ?_
    refine dw_end rfl ?_
    refine xp_region rfl ?_
    refine op_pure (pv_move (v := .int .i64 _) rfl) ?_
    refine op_pure (pv_arith rfl (by omega)) ?_
    refine op_pure (pv_assign (v := .int .i64 _) rfl) ?_
    refine ⟨(k + 1, r4), ⟨rfl, trivial⟩, rfl, rfl, E_k, fun h3 E3 => hlt, by first | omega | (dsimp only; omega), ?_⟩
    repeat (first | exact off_base _ _ _ | refine off_upd (by decide) ?_ | refine off_updL rfl ?_ | refine off_mix rfl ?_)
  · skip
    refine xp_exit ?_
    refine xp_seq ?_
    refine xp_region rfl ?_
    refine op_pure (pv_move (v := .pointer (some ⟨b6, 0, none⟩)) rfl) ?_
    refine op_pure (pv_assign (v := .pointer (some ⟨b6, 0, none⟩)) rfl) ?_
    refine xp_ret ?_
    refine res_list (vs := [_]) Try.results4 ⟨resV_tmp rfl rfl, trivial⟩ fun V => ?_
    exact ⟨_, [_], rfl, V, E_k, b6, x, rfl, rfl⟩
end Go.Proofs.Ytledjpdpkbifgaa
/- Walks: a report that is right. Conditions: as each theorem states. -/
namespace Go.Proofs.Ytledjpdpkbifgaa
open Go Go.HL Go.Proofs Go.Wx
variable [Lvl]
set_option maxRecDepth 100000
theorem SeenOf_ok (b x : Nat) (W dn : Nat) (hW : 0 < W) (hW2 : W < 2 ^ 20) (f : List Int) (hf : 0 < f.length) (hf2 : f.length < 2 ^ 20) (HA DA FA : Option Addr) (hc dc fc : Nat) (h : AH) (R : Row h 1 intC FA f) :
    FnM Try.prog (.func (.func 12) #[] ([] : List Value).toArray) [.pointer (some ⟨b, 0, none⟩), .agg #[.slice HA W hc, .slice DA dn dc, .slice FA f.length fc]] h [some (b, .cells #[.int .u64 (x : Int)] 56 (0, 0))]
    (fun v h' M' => ∃ (x' : Nat) (r : Seen), M' = [some (b, .cells #[.int .u64 (x' : Int)] 56 (0, 0))] ∧ v = .agg (seenC r).toArray ∧ 0 ≤ r.joint ∧ r.joint < f.length ∧ 0 ≤ r.week ∧ r.week < W ∧ r.failed = decide (f.getD r.joint.toNat 0 ≤ r.week)) := by
  refine fnM_body rfl rfl Try.func12 rfl Try.ntmps12 rfl ?_
  refine xp_seq ?_
  refine xp_region rfl ?_
  refine op_box (v := .agg #[.slice _ _ _, .slice _ _ _, .slice _ _ _]) (cs := [_, _, _]) rfl rfl fun b3 hb3 => ?_
  refine wp_norm [_, _] rfl ?_
  refine op_alloc (cs := [_, _, _]) rfl rfl fun b4 hb4 => ?_
  refine wp_norm [_, _, _] rfl ?_
  refine xp_seq ?_
  refine xp_dw [true, false, false] rfl rfl rfl ?_
  refine dw_pure (i := 0) rfl (by decide +kernel) (pv_move (v := .pointer (some ⟨b, 0, none⟩)) rfl) ?_
  refine dw_pure (i := 1) rfl (by decide +kernel) (pv_fieldAddr rfl rfl rfl rfl 2 rfl) ?_
  refine dw_load (i := 2) rfl (by decide +kernel) ?_
  refine op_loadP 1 (v := .slice _ _ _) rfl rfl rfl rfl ?_
  refine dw_pure (i := 3) rfl (by decide +kernel) (pv_len rfl rfl) ?_
  refine dw_pure (i := 4) rfl (by decide +kernel) (pv_arith rfl (by omega)) ?_
  refine dw_pure (i := 6) rfl (by decide +kernel) (pv_move (v := .pointer (some ⟨b, 0, none⟩)) rfl) ?_
  refine dw_pure (i := 7) rfl (by decide +kernel) (pv_fieldAddr rfl rfl rfl rfl 0 rfl) ?_
  refine dw_load (i := 8) rfl (by decide +kernel) ?_
  refine op_loadP 1 (v := .slice _ _ _) rfl rfl rfl rfl ?_
  refine dw_pure (i := 9) rfl (by decide +kernel) (pv_len rfl rfl) ?_
  refine dw_pure (i := 10) rfl (by decide +kernel) (pv_arith rfl (by omega)) ?_
  refine dw_eff (i := 5) rfl (by decide +kernel) ?_
  refine op_fnMM [] [_] [_, _] (vs := [.pointer _, .int .i64 _]) rfl rfl rfl ((Upto_ok b x (f.length - 1) (by omega) h)) ?_
  rintro _ h2 _ E2 ⟨x2, k, rfl, rfl, k1, k2⟩
  refine ⟨ext_wlm E2 _, ?_⟩
  refine dw_norm [_, _, _] rfl ?_
  refine dw_last (i := 11) rfl (by decide +kernel) (by decide +kernel) ?_
  refine op_fnMM [] [_] [_, _] (vs := [.pointer _, .int .i64 _]) rfl rfl rfl ((Upto_ok b x2 (W - 1) (by omega) h2)) ?_
  rintro _ h3 _ E3 ⟨x3, w, rfl, rfl, w1, w2⟩
  refine dw_norm [_, _, _] rfl ?_
  obtain ⟨q, rfl⟩ : ∃ q : Nat, k = q := ⟨k.toNat, by omega⟩
  have hq : q < f.length := by omega
  obtain ⟨g, off, hA, hcq⟩ := (R.ext (Ext.trans E2 E3)).at (by omega) hq
  refine dw_pure (i := 12) rfl (by decide +kernel) (pv_build (zc := [_, _, _]) (vs := [(0, .int .i64 _), (1, .int .i64 _)]) (cs := [_, _, _]) rfl rfl rfl rfl rfl rfl) ?_
  refine dw_eff (i := 13) rfl (by decide +kernel) ?_
  refine op_alloc (cs := [_, _, _]) rfl rfl fun b5 hb5 => ?_
  refine ⟨ext_newM hb5 _, ?_⟩
  refine dw_norm [_, _, _, _] rfl ?_
  refine dw_last (i := 14) rfl (by decide +kernel) (by decide +kernel) ?_
  refine op_storeP 3 (v := .agg #[.int .i64 _, .int .i64 _, .bool _]) (vs := [_, _, _]) (c' := [_, _, _]) rfl rfl rfl rfl rfl rfl rfl rfl rfl ?_
  refine dw_norm [_, _, _, _] rfl ?_
  refine dw_end rfl ?_
  refine xp_seq ?_
  refine xp_dw [] rfl rfl rfl ?_
  refine dw_pure (i := 0) rfl (by decide +kernel) (pv_fieldAddr rfl rfl rfl rfl 2 rfl) ?_
  refine dw_load (i := 1) rfl (by decide +kernel) ?_
  refine op_loadP 1 (v := .slice _ _ _) rfl rfl rfl rfl ?_
  refine dw_pure (i := 2) rfl (by decide +kernel) (pv_fieldAddr rfl rfl rfl rfl 0 rfl) ?_
  refine dw_load (i := 3) rfl (by decide +kernel) ?_
  refine op_loadP 3 (v := .int .i64 _) rfl rfl rfl rfl ?_
  refine dw_pure (i := 4) rfl (by decide +kernel) (pv_indexE rfl hA rfl rfl rfl (by omega) (by omega)) ?_
  refine dw_load (i := 5) rfl (by decide +kernel) ?_
  refine op_load (v := .int .i64 _) rfl rfl ((hcq) 0 _ rfl) ?_
  refine dw_pure (i := 6) rfl (by decide +kernel) (pv_fieldAddr rfl rfl rfl rfl 1 rfl) ?_
  refine dw_load (i := 7) rfl (by decide +kernel) ?_
  refine op_loadP 3 (v := .int .i64 _) rfl rfl rfl rfl ?_
  refine dw_pure (i := 8) rfl (by decide +kernel) (pv_of (v := .bool _) rfl) ?_
  refine dw_pure (i := 9) rfl (by decide +kernel) (pv_fieldAddr rfl rfl rfl rfl 2 rfl) ?_
  refine dw_last (i := 10) rfl (by decide +kernel) (by decide +kernel) ?_
  refine op_storeP 3 (v := .bool _) (vs := [_]) (c' := [_, _, _]) rfl rfl rfl rfl rfl rfl rfl rfl rfl ?_
  refine dw_norm [_, _, _, _] rfl ?_
  refine dw_end rfl ?_
  refine xp_seq ?_
  refine xp_region rfl ?_
  refine op_loadPA 3 (vs := [.int .i64 _, .int .i64 _, .bool _]) rfl rfl rfl rfl rfl ?_
  refine op_storeP 2 (v := .agg #[.int .i64 _, .int .i64 _, .bool _]) (vs := [_, _, _]) (c' := [_, _, _]) rfl rfl rfl rfl rfl rfl rfl rfl rfl ?_
  refine wp_norm [_, _, _, _] rfl ?_
  refine xp_ret ?_
  refine res_list (vs := [_]) Try.results12 ⟨resV_agg 2 rfl rfl rfl rfl rfl (vs := [.int .i64 _, .int .i64 _, .bool _]) rfl, trivial⟩ fun V => ?_
  obtain ⟨h9, E9, e9, V9⟩ := wl_drop [_, _, _] [_] V
  refine ⟨h9, _, e9, V9, Ext.trans (Ext.trans E2 E3) E9, x3, ⟨q, w, decide (f[q] ≤ w)⟩, rfl, rfl, by simp, by simp; omega, w1, by simp; omega, ?_⟩
  simp [List.getD_eq_getElem?_getD, List.getElem?_eq_getElem hq]
end Go.Proofs.Ytledjpdpkbifgaa
/- Plain: a season with its truth. Conditions: as each theorem states. -/
namespace Go.Wx
open Go Go.HL
variable [Lvl]
/-- A range about a true value. -/
def NearR (t lo hi d : Int) (r : Rg) : Prop := ∃ u w : Int, 0 ≤ u ∧ u ≤ d ∧ 0 ≤ w ∧ w ≤ d ∧ r = ⟨max lo (t - u), min hi (t + w)⟩
structure NearL (ts : List Int) (rs : List Rg) : Prop where
  len : rs.length = ts.length
  at' : ∀ (i : Nat) t r, ts[i]? = some t → rs[i]? = some r → NearR t (-50) 100 1 r
theorem NearL.nil : NearL [] [] := ⟨rfl, fun i t r h => by simp at h⟩
theorem NearL.snoc {ts : List Int} {rs : List Rg} (n : NearL ts rs) {t : Int} {r : Rg} (h : NearR t (-50) 100 1 r) : NearL (ts ++ [t]) (rs ++ [r]) := by
  refine ⟨by simp [n.len], fun i t' r' h1 h2 => ?_⟩
  by_cases hi : i < ts.length
  · rw [List.getElem?_append_left hi] at h1
    rw [List.getElem?_append_left (by rw [n.len]; exact hi)] at h2
    exact n.at' i t' r' h1 h2
  · have hl := (List.getElem?_eq_some_iff.1 h1).1
    have hi2 : i = ts.length := by simp at hl; omega
    subst hi2
    rw [List.getElem?_append_right (by omega)] at h1
    rw [List.getElem?_append_right (by rw [n.len]; omega)] at h2
    simp [n.len] at h1 h2
    subst h1 h2
    exact h
/-- How many of the first k weeks were cold. -/
def coldN (x : List Int) (lo : Int) (k : Nat) : Nat := ((x.take k).filter fun t => decide (t ≤ lo)).length
def failW (x : List Int) (hi lo many life : Int) (w : Nat) : Bool := decide (x.getD w 0 ≥ hi) || decide ((w : Int) = life) || (decide (x.getD w 0 ≤ lo) && decide ((coldN x lo (w + 1) : Int) = many))
/-- The first failing week among the last k. -/
def failP (x : List Int) (hi lo many life : Int) : Nat → Nat
  | 0 => x.length
  | k + 1 => if failW x hi lo many life (x.length - (k + 1)) then x.length - (k + 1) else failP x hi lo many life k
def failT (x : List Int) (hi lo many life : Int) : Nat := failP x hi lo many life x.length
theorem coldN_succ {x : List Int} {lo : Int} {k : Nat} (hk : k < x.length) : coldN x lo (k + 1) = coldN x lo k + if x[k] ≤ lo then 1 else 0 := by
  unfold coldN
  rw [take_snoc hk, List.filter_append, List.length_append]
  by_cases h : x[k] ≤ lo <;> simp [h]
theorem coldN_le (x : List Int) (lo : Int) (k : Nat) : coldN x lo k ≤ k := by
  unfold coldN
  exact Nat.le_trans (List.length_filter_le _ _) (by simp; omega)
structure JointT (ht dt : List Int) (j : Joint) (f : Int) (hi lo many life : Int) : Prop where
  k : (j.kind = 1 ∧ 25 ≤ hi ∧ hi ≤ 38 ∧ -5 ≤ lo ∧ lo ≤ 8) ∨ (j.kind = 2 ∧ 60 ≤ hi ∧ hi ≤ 72 ∧ 28 ≤ lo ∧ lo ≤ 42)
  m : 1 ≤ many ∧ many ≤ 3
  l : 0 ≤ life ∧ life ≤ 9
  h1 : NearR hi (-50) 100 1 j.high
  h2 : NearR lo (-50) 100 1 j.low
  h3 : NearR many 1 6 1 j.weeks
  h4 : NearR life 0 9 2 j.life
  f : f = (failT (if j.kind = 1 then ht else dt) hi lo many life : Nat)
structure JointsT (ht dt : List Int) (js : List Joint) (fs : List Int) : Prop where
  len : fs.length = js.length
  at' : ∀ (i : Nat) j f, js[i]? = some j → fs[i]? = some f → ∃ hi lo many life, JointT ht dt j f hi lo many life
theorem JointsT.nil {ht dt : List Int} : JointsT ht dt [] [] := ⟨rfl, fun i j f h => by simp at h⟩
theorem JointsT.snoc {ht dt : List Int} {js : List Joint} {fs : List Int} (n : JointsT ht dt js fs) {j : Joint} {f hi lo many life : Int} (h : JointT ht dt j f hi lo many life) : JointsT ht dt (js ++ [j]) (fs ++ [f]) := by
  refine ⟨by simp [n.len], fun i j' f' h1 h2 => ?_⟩
  by_cases hi' : i < js.length
  · rw [List.getElem?_append_left hi'] at h1
    rw [List.getElem?_append_left (by rw [n.len]; exact hi')] at h2
    exact n.at' i j' f' h1 h2
  · have hl := (List.getElem?_eq_some_iff.1 h1).1
    have hi2 : i = js.length := by simp at hl; omega
    subst hi2
    rw [List.getElem?_append_right (by omega)] at h1
    rw [List.getElem?_append_right (by rw [n.len]; omega)] at h2
    simp [n.len] at h1 h2
    subst h1 h2
    exact ⟨_, _, _, _, h⟩
def SeenT (w : Nat) (fs : List Int) (r : Seen) : Prop := 0 ≤ r.joint ∧ r.joint < fs.length ∧ 0 ≤ r.week ∧ r.week < w ∧ r.failed = decide (fs.getD r.joint.toNat 0 ≤ r.week)
/-- A season that its truth bears out. -/
structure SeasonT (weeks joints reports : Nat) (s : Season) (ht dt fs : List Int) : Prop where
  w1 : 1 ≤ ht.length
  ww : ht.length ≤ weeks
  dl : dt.length = ht.length
  hn : NearL ht s.heats
  dn : NearL dt s.damps
  hb : ∀ t ∈ ht, -5 ≤ t ∧ t ≤ 35
  db : ∀ t ∈ dt, 30 ≤ t ∧ t ≤ 70
  jl : s.joints.length ≤ joints
  js : JointsT ht dt s.joints fs
  rl : s.reports.length ≤ reports
  rs : ∀ r ∈ s.reports, SeenT ht.length fs r
/-- The weeks made so far. -/
structure WA where
  i : Int
  x : Nat
  ht : List Int
  dt : List Int
  hs : List Rg
  ds : List Rg
  a1 : Acc
  a2 : Acc
  a3 : Acc
  a4 : Acc
structure WOk (weeks : Nat) (q : WA) : Prop where
  i0 : 0 ≤ q.i
  iw : q.i + q.ht.length ≤ weeks
  pos : 1 ≤ q.i + q.ht.length
  dl : q.dt.length = q.ht.length
  hn : NearL q.ht q.hs
  dn : NearL q.dt q.ds
  hb : ∀ t ∈ q.ht, -5 ≤ t ∧ t ≤ 35
  db : ∀ t ∈ q.dt, 30 ≤ t ∧ t ≤ 70
end Go.Wx
/- Walks: a season with its truth. Conditions: as each theorem states. -/
namespace Go.Proofs.Ytledjpdpkbifgaa
open Go Go.HL Go.Proofs Go.Wx
variable [Lvl]
set_option maxRecDepth 100000
structure WAc (q : WA) : Prop where
  r1 : AccR 3 1 (q.ht.flatMap intC) q.a1
  r2 : AccR 3 1 (q.dt.flatMap intC) q.a2
  r3 : AccR 36 2 (q.hs.flatMap rgC) q.a3
  r4 : AccR 36 2 (q.ds.flatMap rgC) q.a4
theorem memS {α : Type} {l : List α} {p : α → Prop} (h : ∀ x ∈ l, p x) {y : α} (hy : p y) : ∀ x ∈ l ++ [y], p x := fun x hx => by
  rcases List.mem_append.1 hx with h1 | h1
  · exact h x h1
  · rw [List.mem_singleton.1 h1]; exact hy
structure CutJ where
  x : Nat
  hi : Int
  lo : Int
  A : Option Addr
  c : Nat
  l : List Int
theorem perm_two {α : Type} (l1 l2 l3 : List α) (p q : α) : (l1 ++ p :: (l2 ++ q :: l3)).Perm (p :: q :: (l1 ++ (l2 ++ l3))) := by
  refine List.perm_middle.trans (List.Perm.cons p ?_)
  rw [← List.append_assoc, ← List.append_assoc]
  exact List.perm_middle
/-- Three of the private blocks are kept. -/
theorem wl_two {h : AH} {a p q : Option (Nat × Obj)} (l1 l2 l3 : Pv) (V : Valid h (a :: (l1 ++ p :: (l2 ++ q :: l3)))) : ∃ h', Ext h h' ∧ wl h (a :: (l1 ++ p :: (l2 ++ q :: l3))) = wl h' [a, p, q] ∧ Valid h' [a, p, q] := by
  obtain ⟨e, V'⟩ := wl_perm (L' := [a, p, q] ++ (l1 ++ (l2 ++ l3))) (((perm_two l1 l2 l3 p q).cons a).filterMap _) V
  obtain ⟨h', E, e2, V2⟩ := wl_drop (l1 ++ (l2 ++ l3)) [a, p, q] V'
  exact ⟨h', E, e.trans e2, V2⟩
/-- Two of three private blocks are laid open. -/
theorem wl_open {h : AH} {a p q : Option (Nat × Obj)} (V : Valid h [a, p, q]) : ∃ h', Ext h h' ∧ wl h [a, p, q] = wl h' [a] ∧ Valid h' [a] ∧ (∀ b o, p = some (b, o) → h' b = some o) ∧ (∀ b o, q = some (b, o) → h' b = some o) := by
  obtain ⟨h', E, e, V'⟩ := wl_drop [p, q] [a] V
  have key : ∀ z, z ∈ [p, q] → ∀ b o, z = some (b, o) → h' b = some o := by
    intro z hz b o hzb
    have hm : (b, o) ∈ cl [a, p, q] := List.mem_filterMap.2 ⟨z, List.mem_cons_of_mem _ hz, hzb⟩
    have h1 : wl h [a, p, q] b = some o := by
      obtain ⟨i, hi⟩ := List.mem_iff_getElem?.1 (List.mem_cons_of_mem a hz)
      exact wl_get V (i := i) (by rw [hi, hzb])
    change wl h [a, p, q] = wl h' [a] at e
    rw [e] at h1
    have ha : ∀ o', a ≠ some (b, o') := by
      intro o' ha
      have nd := V.nd
      subst ha
      have h2 : cl [some (b, o'), p, q] = (b, o') :: cl [p, q] := rfl
      rw [h2, List.map_cons, List.nodup_cons] at nd
      refine nd.1 (List.mem_map.2 ⟨(b, o), List.mem_filterMap.2 ⟨z, hz, hzb⟩, rfl⟩)
    cases a with
    | none =>
      have : wl h' [none] = h' := rfl
      rw [this] at h1; exact h1
    | some c =>
      obtain ⟨b', o'⟩ := c
      have hne : b ≠ b' := fun e => ha o' (by rw [e])
      have : wl h' [some (b', o')] b = h' b := by
        unfold wl wl0
        have : (cl [some (b', o')]).lookup b = none := by
          show List.lookup b [(b', o')] = none
          rw [List.lookup_cons]
          have : (b == b') = false := by simpa using hne
          rw [this]; rfl
        simp only [this]
      rw [this] at h1; exact h1
  exact ⟨h', E, e, V', key p (by simp), key q (by simp)⟩
def wa0 (i : Int) (x : Nat) : WA := ⟨i, x, [], [], [], [], acc0, acc0, acc0, acc0⟩
set_option maxHeartbeats 8000000 in
theorem SeasonOf_okM (b x weeks joints reports : Nat) (hw : 1 ≤ weeks) (hw2 : weeks ≤ 6) (hj : joints ≤ 3) (hr : reports ≤ 100) (h : AH) :
    FnM Try.prog (.func (.func 5) #[] ([] : List Value).toArray) [.pointer (some ⟨b, 0, none⟩), .int .i64 weeks, .int .i64 joints, .int .i64 reports] h [some (b, .cells #[.int .u64 (x : Int)] 56 (0, 0))]
    (fun v h' M' => ∃ (x' : Nat) (s : Season) (ht dt fs : List Int) (u w : Value) (a5 a7 : Acc), M' = [some (b, .cells #[.int .u64 (x' : Int)] 56 (0, 0)), a5.p, a7.p] ∧ v = .tuple #[u, w] ∧ SeasonT weeks joints reports s ht dt fs
      ∧ AccR 61 9 (s.joints.flatMap jointC) a5 ∧ AccR 50 3 (s.reports.flatMap seenC) a7
      ∧ (∃ A0 c0 A1 c1, u = .agg #[.slice A0 s.heats.length c0, .slice A1 s.damps.length c1, .slice a5.A s.joints.length a5.c, .slice a7.A s.reports.length a7.c] ∧ Row h' 2 rgC A0 s.heats ∧ Row h' 2 rgC A1 s.damps)
      ∧ ∃ HA hc DA dc FA fc, w = .agg #[.slice HA ht.length hc, .slice DA dt.length dc, .slice FA fs.length fc] ∧ Row h' 1 intC HA ht ∧ Row h' 1 intC DA dt ∧ Row h' 1 intC FA fs) := by
  refine fnM_body rfl rfl Try.func5 rfl Try.ntmps5 rfl ?_
  refine xp_seq ?_
  refine xp_region rfl ?_
  refine op_alloc (cs := [_, _, _, _]) rfl rfl fun b8 hb8 => ?_
  refine wp_norm [_, _] rfl ?_
  refine op_alloc (cs := [_, _, _]) rfl rfl fun b9 hb9 => ?_
  refine wp_norm [_, _, _] rfl ?_
  refine xp_seq ?_
  refine xp_region rfl ?_
  refine op_alloc (cs := [_, _, _, _]) rfl rfl fun b10 hb10 => ?_
  refine wp_norm [_, _, _, _] rfl ?_
  refine xp_seq ?_
  refine xp_region rfl ?_
  refine op_alloc (cs := [_, _, _]) rfl rfl fun b11 hb11 => ?_
  refine wp_norm [_, _, _, _, _] rfl ?_
  refine goes_more ?_
  refine goes_norm [_, _, _, _, _, _] rfl ?_
  refine goes_more ?_
  refine goes_norm [_, _, _, _, _, _, _] rfl ?_
  refine goes_more ?_
  refine goes_norm [_, _, _, _, _, _, _, _] rfl ?_
  refine goes_more ?_
  refine goes_norm [_, _, _, _, _, _, _, _, _] rfl ?_
  refine xp_seq ?_
  refine xp_seq ?_
  refine xp_region rfl ?_
  refine op_pure (pv_move (v := .pointer (some ⟨b, 0, none⟩)) rfl) ?_
  refine op_pure (pv_move (v := .int .i64 _) rfl) ?_
  refine op_fnMM [] [_] [_, _, _, _, _, _, _, _] (vs := [.pointer _, .int .i64 _, .int .i64 _]) rfl rfl rfl ((Within_ok b x 1 weeks (by omega) (by omega) (by omega) h)) ?_
  rintro _ h1 _ E1 ⟨x1, i0, rfl, rfl, i01, i02⟩
  refine wp_norm [_, _, _, _, _, _, _, _, _] rfl ?_
  refine op_pure (pv_assign (v := .int .i64 _) rfl) ?_
  refine xp_block ?_
  refine xp_loopL [12, 13, 14, 30, 31, 32, 33, 34, 35, 36, 37, 38, 39, 40, 41, 42, 43, 44, 45, 46, 47, 48, 49, 50, 51, 52, 53, 54, 55, 56, 57, 58, 59, 60, 61, 62, 63, 64, 65] 9 (α := WA) (fun q => [(12, .int .i64 q.i)]) (fun q L => ((((((L.set 0 (some (b, .cells #[.int .u64 (q.x : Int)] 56 (0, 0)))).set 3 (some (b10, .cells #[.slice q.a3.A q.a3.n q.a3.c, .slice q.a4.A q.a4.n q.a4.c, .slice none 0 0, .slice none 0 0] 29 (0, 0)))).set 4 (some (b11, .cells #[.slice q.a1.A q.a1.n q.a1.c, .slice q.a2.A q.a2.n q.a2.c, .slice none 0 0] 31 (0, 0)))).set 5 (q.a1.p)).set 6 (q.a2.p)).set 7 (q.a3.p)).set 8 (q.a4.p)) (fun q h_q => WOk weeks q ∧ WAc q) (fun q => q.i.toNat) (wa0 i0 x1) ⟨rfl, trivial⟩ (rfl) (⟨⟨by show 0 ≤ i0; omega, by show i0 + 0 ≤ _; omega, by show 1 ≤ i0 + 0; omega, rfl, NearL.nil, NearL.nil, fun _ h => (by cases h), fun _ h => (by cases h)⟩, ⟨accR0, accR0, accR0, accR0⟩⟩) ?_
  rintro q T1 h_q E_q J_q
  refine goes_norm [_, _, _, _, _, _, _, _, _] rfl ?_
  obtain ⟨⟨j1, j2, j3, j4, j5, j6, j7, j8⟩, ⟨r1, r2, r3, r4⟩⟩ := J_q
  refine xp_seq ?_
  refine xp_seq ?_
  refine xp_region rfl ?_
  refine op_pure (pv_move (v := .int .i64 _) rfl) ?_
  refine op_pure (pv_of (v := .bool _) rfl) ?_
  refine xp_cond rfl (fun ht => ?_) (fun ht => ?_)
  · skip
    have hi : 0 < q.i := of_decide_eq_true ht
    have hl : q.ht.length ≤ 6 := by omega
    refine xp_skip ?_
    refine xp_seq ?_
    refine xp_block ?_
    refine xp_seq ?_
    refine xp_region rfl ?_
    refine op_pure (pv_move (v := .pointer (some ⟨b, 0, none⟩)) rfl) ?_
    refine op_fnMM [] [_] [_, _, _, _, _, _, _, _] (vs := [.pointer _, .int .i64 _, .int .i64 _]) rfl rfl rfl ((Within_ok b q.x (-5) 35 (by omega) (by omega) (by omega) h_q)) ?_
    rintro _ h2 _ E2 ⟨x2, t, rfl, rfl, t1, t2⟩
    refine wp_norm [_, _, _, _, _, _, _, _, _] rfl ?_
    refine op_pure (pv_move (v := .pointer (some ⟨b, 0, none⟩)) rfl) ?_
    refine op_fnMM [] [_] [_, _, _, _, _, _, _, _] (vs := [.pointer _, .int .i64 _, .int .i64 _]) rfl rfl rfl ((Within_ok b x2 30 70 (by omega) (by omega) (by omega) h2)) ?_
    rintro _ h3 _ E3 ⟨x3, d, rfl, rfl, d1, d2⟩
    refine wp_norm [_, _, _, _, _, _, _, _, _] rfl ?_
    refine op_pure (pv_assign (v := .int .i64 _) rfl) ?_
    refine op_pure (pv_assign (v := .int .i64 _) rfl) ?_
    refine xp_seq ?_
    refine xp_dw [false, false, false, false, false, true, true] rfl rfl rfl ?_
    refine dw_pure (i := 0) rfl (by decide +kernel) (pv_fieldAddr rfl rfl rfl rfl 0 rfl) ?_
    refine dw_load (i := 1) rfl (by decide +kernel) ?_
    refine op_loadP 4 (v := .slice _ _ _) rfl rfl rfl rfl ?_
    refine dw_pure (i := 2) rfl (by decide +kernel) (pv_move (v := .int .i64 _) rfl) ?_
    refine dw_pure (i := 5) rfl (by decide +kernel) (pv_fieldAddr rfl rfl rfl rfl 1 rfl) ?_
    refine dw_load (i := 6) rfl (by decide +kernel) ?_
    refine op_loadP 4 (v := .slice _ _ _) rfl rfl rfl rfl ?_
    refine dw_pure (i := 7) rfl (by decide +kernel) (pv_move (v := .int .i64 _) rfl) ?_
    refine dw_eff (i := 3) rfl (by decide +kernel) ?_
    refine op_buildSlice (zc := [_]) (vs := [(0, .int .i64 _)]) (cs := [_]) rfl rfl rfl rfl rfl rfl rfl fun b41 hb41 => ?_
    refine ⟨ext_newM hb41 _, ?_⟩
    refine dw_norm [_, _, _, _, _, _, _, _, _, _] rfl ?_
    refine dw_eff (i := 4) rfl (by decide +kernel) ?_
    refine op_appendR 5 r1 rfl rfl rfl (fun V => rdP V (i := 9) rfl) rfl rfl rfl rfl rfl rfl rfl rfl rfl (by omega) rfl (by rw [flat_len (m := 1) (fun _ _ => rfl)]; simp; omega) fun a1 h2a E2a ra1 => ?_
    refine ⟨ext_wlm E2a _, ?_⟩
    refine dw_norm [_, _, _, _, _, _, _, _, _, _] rfl ?_
    refine dw_pure (i := 10) rfl (by decide +kernel) (pv_fieldAddr rfl rfl rfl rfl 0 rfl) ?_
    refine dw_eff (i := 8) rfl (by decide +kernel) ?_
    refine op_buildSlice (zc := [_]) (vs := [(0, .int .i64 _)]) (cs := [_]) rfl rfl rfl rfl rfl rfl rfl fun b46 hb46 => ?_
    refine ⟨ext_newM hb46 _, ?_⟩
    refine dw_norm [_, _, _, _, _, _, _, _, _, _, _] rfl ?_
    refine dw_last (i := 9) rfl (by decide +kernel) (by decide +kernel) ?_
    refine op_appendR 6 r2 rfl rfl rfl (fun V => rdP V (i := 10) rfl) rfl rfl rfl rfl rfl rfl rfl rfl rfl (by omega) rfl (by rw [flat_len (m := 1) (fun _ _ => rfl)]; simp; omega) fun a2 h3a E3a ra2 => ?_
    refine dw_norm [_, _, _, _, _, _, _, _, _, _, _] rfl ?_
    refine dw_last (i := 11) rfl (by decide +kernel) (by decide +kernel) ?_
    refine op_storeP 4 (v := .slice _ _ _) (vs := [_]) (c' := [_, _, _]) rfl rfl rfl rfl rfl rfl rfl rfl rfl ?_
    refine dw_norm [_, _, _, _, _, _, _, _, _, _, _] rfl ?_
    refine dw_pure (i := 12) rfl (by decide +kernel) (pv_fieldAddr rfl rfl rfl rfl 1 rfl) ?_
    refine dw_last (i := 13) rfl (by decide +kernel) (by decide +kernel) ?_
    refine op_storeP 4 (v := .slice _ _ _) (vs := [_]) (c' := [_, _, _]) rfl rfl rfl rfl rfl rfl rfl rfl rfl ?_
    refine dw_norm [_, _, _, _, _, _, _, _, _, _, _] rfl ?_
    refine dw_end rfl ?_
    refine xp_dw [true, false, false, false, false, false, false, true, true] rfl rfl rfl ?_
    refine dw_pure (i := 0) rfl (by decide +kernel) (pv_fieldAddr rfl rfl rfl rfl 0 rfl) ?_
    refine dw_load (i := 1) rfl (by decide +kernel) ?_
    refine op_loadP 3 (v := .slice _ _ _) rfl rfl rfl rfl ?_
    refine dw_pure (i := 2) rfl (by decide +kernel) (pv_move (v := .pointer (some ⟨b, 0, none⟩)) rfl) ?_
    refine dw_pure (i := 3) rfl (by decide +kernel) (pv_move (v := .int .i64 _) rfl) ?_
    refine dw_pure (i := 7) rfl (by decide +kernel) (pv_fieldAddr rfl rfl rfl rfl 1 rfl) ?_
    refine dw_load (i := 8) rfl (by decide +kernel) ?_
    refine op_loadP 3 (v := .slice _ _ _) rfl rfl rfl rfl ?_
    refine dw_pure (i := 9) rfl (by decide +kernel) (pv_move (v := .pointer (some ⟨b, 0, none⟩)) rfl) ?_
    refine dw_pure (i := 10) rfl (by decide +kernel) (pv_move (v := .int .i64 _) rfl) ?_
    refine dw_eff (i := 4) rfl (by decide +kernel) ?_
    refine op_fnMM [] [_] [_, _, _, _, _, _, _, _, _, _] (vs := [.pointer _, .int .i64 _, .int .i64 _, .int .i64 _, .int .i64 _]) rfl rfl rfl ((Near_ok b x3 t (-50) 100 1 (by omega) (by omega) h3a)) ?_
    rintro _ h4 _ E4 ⟨x4, u4, w4, rfl, rfl, u41, u42, w41, w42⟩
    refine ⟨ext_wlm E4 _, ?_⟩
    refine dw_norm [_, _, _, _, _, _, _, _, _, _, _] rfl ?_
    refine dw_eff (i := 5) rfl (by decide +kernel) ?_
    refine op_buildSlice (zc := [_, _]) (vs := [(0, .agg #[.int .i64 _, .int .i64 _])]) (cs := [_, _]) rfl rfl rfl rfl rfl rfl rfl fun b55 hb55 => ?_
    refine ⟨ext_newM hb55 _, ?_⟩
    refine dw_norm [_, _, _, _, _, _, _, _, _, _, _, _] rfl ?_
    refine dw_eff (i := 6) rfl (by decide +kernel) ?_
    refine op_appendR 7 r3 rfl rfl rfl (fun V => rdP V (i := 11) rfl) rfl rfl rfl rfl rfl rfl rfl rfl rfl (by omega) rfl (by rw [flat_len (m := 2) (fun _ _ => rfl), j5.len]; simp; omega) fun a3 h4a E4a ra3 => ?_
    refine ⟨ext_wlm E4a _, ?_⟩
    refine dw_norm [_, _, _, _, _, _, _, _, _, _, _, _] rfl ?_
    refine dw_pure (i := 14) rfl (by decide +kernel) (pv_fieldAddr rfl rfl rfl rfl 0 rfl) ?_
    refine dw_eff (i := 11) rfl (by decide +kernel) ?_
    refine op_fnMM [] [_] [_, _, _, _, _, _, _, _, _, _, _] (vs := [.pointer _, .int .i64 _, .int .i64 _, .int .i64 _, .int .i64 _]) rfl rfl rfl ((Near_ok b x4 d (-50) 100 1 (by omega) (by omega) h4a)) ?_
    rintro _ h5 _ E5 ⟨x5, u5, w5, rfl, rfl, u51, u52, w51, w52⟩
    refine ⟨ext_wlm E5 _, ?_⟩
    refine dw_norm [_, _, _, _, _, _, _, _, _, _, _, _] rfl ?_
    refine dw_eff (i := 12) rfl (by decide +kernel) ?_
    refine op_buildSlice (zc := [_, _]) (vs := [(0, .agg #[.int .i64 _, .int .i64 _])]) (cs := [_, _]) rfl rfl rfl rfl rfl rfl rfl fun b62 hb62 => ?_
    refine ⟨ext_newM hb62 _, ?_⟩
    refine dw_norm [_, _, _, _, _, _, _, _, _, _, _, _, _] rfl ?_
    refine dw_last (i := 13) rfl (by decide +kernel) (by decide +kernel) ?_
    refine op_appendR 8 r4 rfl rfl rfl (fun V => rdP V (i := 12) rfl) rfl rfl rfl rfl rfl rfl rfl rfl rfl (by omega) rfl (by rw [flat_len (m := 2) (fun _ _ => rfl), j6.len, j4]; simp; omega) fun a4 h5a E5a ra4 => ?_
    refine dw_norm [_, _, _, _, _, _, _, _, _, _, _, _, _] rfl ?_
    refine dw_last (i := 15) rfl (by decide +kernel) (by decide +kernel) ?_
    refine op_storeP 3 (v := .slice _ _ _) (vs := [_]) (c' := [_, _, _, _]) rfl rfl rfl rfl rfl rfl rfl rfl rfl ?_
    refine dw_norm [_, _, _, _, _, _, _, _, _, _, _, _, _] rfl ?_
    refine dw_pure (i := 16) rfl (by decide +kernel) (pv_fieldAddr rfl rfl rfl rfl 1 rfl) ?_
    refine dw_last (i := 17) rfl (by decide +kernel) (by decide +kernel) ?_
    refine op_storeP 3 (v := .slice _ _ _) (vs := [_]) (c' := [_, _, _, _]) rfl rfl rfl rfl rfl rfl rfl rfl rfl ?_
    refine dw_norm [_, _, _, _, _, _, _, _, _, _, _, _, _] rfl ?_
    refine dw_end rfl ?_
    refine xp_region rfl ?_
    refine op_pure (pv_move (v := .int .i64 _) rfl) ?_
    refine op_pure (pv_arith rfl (by omega)) ?_
    refine op_pure (pv_assign (v := .int .i64 _) rfl) ?_
    refine ⟨⟨q.i - 1, x5, q.ht ++ [t], q.dt ++ [d], q.hs ++ [⟨max (-50) (t - u4), min 100 (t + w4)⟩], q.ds ++ [⟨max (-50) (d - u5), min 100 (d + w5)⟩], a1, a2, a3, a4⟩, ⟨rfl, trivial⟩, rfl, rfl, (Ext.trans (Ext.trans (Ext.trans (Ext.trans (Ext.trans (Ext.trans (Ext.trans (Ext.trans E_q E2) E3) E2a) E3a) E4) E4a) E5) E5a), fun h3 E3 => ⟨⟨by show 0 ≤ q.i - 1; omega, by show q.i - 1 + ((q.ht ++ [t]).length : Nat) ≤ _; simp; omega, by show 1 ≤ q.i - 1 + ((q.ht ++ [t]).length : Nat); simp; omega, by simp [j4], j5.snoc ⟨u4, w4, u41, u42, w41, w42, rfl⟩, j6.snoc ⟨u5, w5, u51, u52, w51, w52, rfl⟩, memS j7 ⟨t1, t2⟩, memS j8 ⟨d1, d2⟩⟩, ⟨by rw [List.flatMap_append]; exact ra1, by rw [List.flatMap_append]; exact ra2, by rw [List.flatMap_append]; exact ra3, by rw [List.flatMap_append]; exact ra4⟩⟩, by first | omega | (dsimp only; omega), ?_⟩
    repeat (first | exact off_base _ _ _ | refine off_upd (by decide) ?_ | refine off_updL rfl ?_ | refine off_mix rfl ?_)
  · skip
    have hi0 : q.i = 0 := by have := of_decide_eq_false ht; omega
    obtain ⟨qi, qx, wt, dt, hs, ds, ⟨p1, A1, n1, c1⟩, ⟨p2, A2, n2, c2⟩, ⟨p3, A3, n3, c3⟩, ⟨p4, A4, n4, c4⟩⟩ := q
    dsimp only at *
    have hwl : wt.length ≤ 6 := by omega
    obtain rfl : n1 = wt.length := by have := AccR.len r1; rw [flat_len (m := 1) (fun _ _ => rfl)] at this; dsimp only at this; omega
    obtain rfl : n2 = dt.length := by have := AccR.len r2; rw [flat_len (m := 1) (fun _ _ => rfl)] at this; dsimp only at this; omega
    obtain rfl : n3 = hs.length := by have := AccR.len r3; rw [flat_len (m := 2) (fun _ _ => rfl)] at this; dsimp only at this; omega
    obtain rfl : n4 = ds.length := by have := AccR.len r4; rw [flat_len (m := 2) (fun _ _ => rfl)] at this; dsimp only at this; omega
    refine goes_pubO 5 rfl ?_
    intro g1 G1 P1
    refine goes_norm [_, _, _, _, _, _, _, _, _] rfl ?_
    refine goes_pubO 6 rfl ?_
    intro g2 G2 P2
    refine goes_norm [_, _, _, _, _, _, _, _, _] rfl ?_
    refine goes_pubO 7 rfl ?_
    intro g3 G3 P3
    refine goes_norm [_, _, _, _, _, _, _, _, _] rfl ?_
    refine goes_pubO 8 rfl ?_
    intro g4 G4 P4
    refine goes_norm [_, _, _, _, _, _, _, _, _] rfl ?_
    have R1 : Row g4 1 intC A1 wt := ⟨fun _ _ => rfl, (AccR.rd r1 P1).ext (Ext.trans (Ext.trans G2 G3) G4)⟩
    have R2 : Row g4 1 intC A2 dt := ⟨fun _ _ => rfl, (AccR.rd r2 P2).ext (Ext.trans G3 G4)⟩
    have R3 : Row g4 2 rgC A3 hs := ⟨fun _ _ => rfl, (AccR.rd r3 P3).ext G4⟩
    have R4 : Row g4 2 rgC A4 ds := ⟨fun _ _ => rfl, AccR.rd r4 P4⟩
    refine goes_more ?_
    refine goes_norm [_, _, _, _, _, _, _, _, _, _] rfl ?_
    refine goes_more ?_
    refine goes_norm [_, _, _, _, _, _, _, _, _, _, _] rfl ?_
    refine xp_exit ?_
    refine xp_seq ?_
    refine xp_seq ?_
    refine xp_region rfl ?_
    refine op_pure (pv_move (v := .pointer (some ⟨b, 0, none⟩)) rfl) ?_
    refine op_pure (pv_move (v := .int .i64 _) rfl) ?_
    refine op_fnMM [] [_] [_, _, _, _, _, _, _, _, _, _] (vs := [.pointer _, .int .i64 _]) rfl rfl rfl ((Upto_ok b qx joints (by omega) g4)) ?_
    rintro _ k1 _ F1 ⟨y1, i1, rfl, rfl, i11, i12⟩
    refine wp_norm [_, _, _, _, _, _, _, _, _, _, _] rfl ?_
    refine op_pure (pv_assign (v := .int .i64 _) rfl) ?_
    refine xp_block ?_
    refine xp_loopL [15, 16, 17, 18, 19, 20, 21, 22, 23, 24, 25, 69, 70, 71, 72, 73, 74, 75, 76, 77, 78, 79, 80, 81, 82, 83, 84, 85, 86, 87, 88, 89, 90, 91, 92, 93, 94, 95, 96, 97, 98, 99, 100, 101, 102, 103, 104, 105, 106, 107, 108, 109, 110, 111, 112, 113, 114, 115, 116, 117, 118, 119, 120, 121, 122, 123, 124, 125, 126, 127, 128, 129, 130, 131, 132, 133, 134, 135, 136, 137, 138, 139, 140, 141, 142, 143, 144, 145, 146, 147, 148, 149, 150, 151, 152, 153, 154, 155, 156, 157, 158, 159, 160, 161, 162, 163, 164, 165, 166, 167, 168, 169, 170, 171, 172] 11 (α := Int × Nat × List Joint × List Int × Acc × Acc) (fun ⟨i, y, js, fs, a5, a6⟩ => [(15, .int .i64 i)]) (fun ⟨i, y, js, fs, a5, a6⟩ L => ((((L.set 0 (some (b, .cells #[.int .u64 (y : Int)] 56 (0, 0)))).set 3 (some (b10, .cells #[.slice A3 hs.length c3, .slice A4 ds.length c4, .slice a5.A a5.n a5.c, .slice none 0 0] 29 (0, 0)))).set 4 (some (b11, .cells #[.slice A1 wt.length c1, .slice A2 dt.length c2, .slice a6.A a6.n a6.c] 31 (0, 0)))).set 9 (a5.p)).set 10 (a6.p)) (fun ⟨i, y, js, fs, a5, a6⟩ h_i => (0 ≤ i ∧ i + js.length ≤ joints) ∧ JointsT wt dt js fs ∧ AccR 61 9 (js.flatMap jointC) a5 ∧ AccR 3 1 (fs.flatMap intC) a6) (fun ⟨i, y, js, fs, a5, a6⟩ => i.toNat) ((i1, y1, [], [], acc0, acc0)) ⟨rfl, trivial⟩ (rfl) (⟨⟨i11, by simp; omega⟩, JointsT.nil, accR0, accR0⟩) ?_
    rintro ⟨i, y, js, fs, a5, a6⟩ T6 h_i E_i J_i
    refine goes_norm [_, _, _, _, _, _, _, _, _, _, _] rfl ?_
    obtain ⟨⟨m1, m2⟩, m3, r5, r6⟩ := J_i
    have fl := m3.len
    refine xp_seq ?_
    refine xp_seq ?_
    refine xp_region rfl ?_
    refine op_pure (pv_move (v := .int .i64 _) rfl) ?_
    refine op_pure (pv_of (v := .bool _) rfl) ?_
    refine xp_cond rfl (fun ht2 => ?_) (fun ht2 => ?_)
    · skip
      have hi2 : 0 < i := of_decide_eq_true ht2
      refine xp_skip ?_
      refine xp_seq ?_
      refine xp_block ?_
      refine xp_seq ?_
      refine xp_region rfl ?_
      refine op_pure (pv_move (v := .pointer (some ⟨b, 0, none⟩)) rfl) ?_
      refine op_fnMM [] [_] [_, _, _, _, _, _, _, _, _, _] (vs := [.pointer _, .int .i64 _, .int .i64 _]) rfl rfl rfl ((Within_ok b y 1 2 (by omega) (by omega) (by omega) h_i)) ?_
      rintro _ k2 _ F2 ⟨y2, kd, rfl, rfl, kd1, kd2⟩
      refine wp_norm [_, _, _, _, _, _, _, _, _, _, _] rfl ?_
      refine op_pure (pv_build (zc := [_, _, _, _, _, _, _, _, _]) (vs := [(0, .int .i64 _)]) (cs := [_, _, _, _, _, _, _, _, _]) rfl rfl rfl rfl rfl rfl) ?_
      refine op_alloc (cs := [_, _, _, _, _, _, _, _, _]) rfl rfl fun b16 hb16 => ?_
      refine wp_norm [_, _, _, _, _, _, _, _, _, _, _, _] rfl ?_
      refine op_storeP 11 (v := .agg #[.int .i64 _, .int .i64 _, .int .i64 _, .int .i64 _, .int .i64 _, .int .i64 _, .int .i64 _, .int .i64 _, .int .i64 _]) (vs := [_, _, _, _, _, _, _, _, _]) (c' := [_, _, _, _, _, _, _, _, _]) rfl rfl rfl rfl rfl rfl rfl rfl rfl ?_
      refine wp_norm [_, _, _, _, _, _, _, _, _, _, _, _] rfl ?_
      refine xp_seq ?_
      refine xp_dw [true] rfl rfl rfl ?_
      refine dw_pure (i := 0) rfl (by decide +kernel) (pv_fieldAddr rfl rfl rfl rfl 0 rfl) ?_
      refine dw_load (i := 1) rfl (by decide +kernel) ?_
      refine op_loadP 4 (v := .slice _ _ _) rfl rfl rfl rfl ?_
      refine dw_pure (i := 2) rfl (by decide +kernel) (pv_move (v := .pointer (some ⟨b, 0, none⟩)) rfl) ?_
      refine dw_pure (i := 4) rfl (by decide +kernel) (pv_move (v := .pointer (some ⟨b, 0, none⟩)) rfl) ?_
      refine dw_eff (i := 3) rfl (by decide +kernel) ?_
      refine op_fnMM [] [_] [_, _, _, _, _, _, _, _, _, _, _] (vs := [.pointer _, .int .i64 _, .int .i64 _]) rfl rfl rfl ((Within_ok b y2 25 38 (by omega) (by omega) (by omega) k2)) ?_
      rintro _ k3 _ F3 ⟨y3, hi3, rfl, rfl, hi31, hi32⟩
      refine ⟨ext_wlm F3 _, ?_⟩
      refine dw_norm [_, _, _, _, _, _, _, _, _, _, _, _] rfl ?_
      refine dw_eff (i := 5) rfl (by decide +kernel) ?_
      refine op_fnMM [] [_] [_, _, _, _, _, _, _, _, _, _, _] (vs := [.pointer _, .int .i64 _, .int .i64 _]) rfl rfl rfl ((Within_ok b y3 (-5) 8 (by omega) (by omega) (by omega) k3)) ?_
      rintro _ k4 _ F4 ⟨y4, lo4, rfl, rfl, lo41, lo42⟩
      refine ⟨ext_wlm F4 _, ?_⟩
      refine dw_norm [_, _, _, _, _, _, _, _, _, _, _, _] rfl ?_
      refine dw_pure (i := 6) rfl (by decide +kernel) (pv_assign (v := .slice _ _ _) rfl) ?_
      refine dw_pure (i := 7) rfl (by decide +kernel) (pv_assign (v := .int .i64 _) rfl) ?_
      refine dw_pure (i := 8) rfl (by decide +kernel) (pv_assign (v := .int .i64 _) rfl) ?_
      refine dw_end rfl ?_
      refine xp_cutB [17, 18, 19, 82, 83, 84, 85, 86, 87, 88, 89, 90] 12 (α := CutJ) (fun z => [(17, .slice z.A z.l.length z.c), (18, .int .i64 z.hi), (19, .int .i64 z.lo)]) (fun z L => L.set 0 (some (b, .cells #[.int .u64 (z.x : Int)] 56 (0, 0)))) (fun z h_z => Row h_z 1 intC z.A z.l ∧ ((kd = 1 ∧ z.l = wt ∧ 25 ≤ z.hi ∧ z.hi ≤ 38 ∧ -5 ≤ z.lo ∧ z.lo ≤ 8) ∨ (kd = 2 ∧ z.l = dt ∧ 60 ≤ z.hi ∧ z.hi ≤ 72 ∧ 28 ≤ z.lo ∧ z.lo ≤ 42))) ?_ ?_
      · skip
        refine xp_seq ?_
        refine xp_region rfl ?_
        refine op_pure (pv_fieldAddr rfl rfl rfl rfl 0 rfl) ?_
        refine op_loadP 11 (v := .int .i64 _) rfl rfl rfl rfl ?_
        refine op_pure (pv_of (v := .bool _) rfl) ?_
        refine xp_cond rfl (fun hkd => ?_) (fun hkd => ?_)
        · skip
          have hkd' : kd = 2 := by simpa using hkd
          refine xp_dw [true] rfl rfl rfl ?_
          refine dw_pure (i := 0) rfl (by decide +kernel) (pv_fieldAddr rfl rfl rfl rfl 1 rfl) ?_
          refine dw_load (i := 1) rfl (by decide +kernel) ?_
          refine op_loadP 4 (v := .slice _ _ _) rfl rfl rfl rfl ?_
          refine dw_pure (i := 2) rfl (by decide +kernel) (pv_move (v := .pointer (some ⟨b, 0, none⟩)) rfl) ?_
          refine dw_pure (i := 4) rfl (by decide +kernel) (pv_move (v := .pointer (some ⟨b, 0, none⟩)) rfl) ?_
          refine dw_eff (i := 3) rfl (by decide +kernel) ?_
          refine op_fnMM [] [_] [_, _, _, _, _, _, _, _, _, _, _] (vs := [.pointer _, .int .i64 _, .int .i64 _]) rfl rfl rfl ((Within_ok b y4 60 72 (by omega) (by omega) (by omega) k4)) ?_
          rintro _ k5 _ F5 ⟨y5, hi5, rfl, rfl, hi51, hi52⟩
          refine ⟨ext_wlm F5 _, ?_⟩
          refine dw_norm [_, _, _, _, _, _, _, _, _, _, _, _] rfl ?_
          refine dw_eff (i := 5) rfl (by decide +kernel) ?_
          refine op_fnMM [] [_] [_, _, _, _, _, _, _, _, _, _, _] (vs := [.pointer _, .int .i64 _, .int .i64 _]) rfl rfl rfl ((Within_ok b y5 28 42 (by omega) (by omega) (by omega) k5)) ?_
          rintro _ k6 _ F6 ⟨y6, lo6, rfl, rfl, lo61, lo62⟩
          refine ⟨ext_wlm F6 _, ?_⟩
          refine dw_norm [_, _, _, _, _, _, _, _, _, _, _, _] rfl ?_
          refine dw_pure (i := 6) rfl (by decide +kernel) (pv_assign (v := .slice _ _ _) rfl) ?_
          refine dw_pure (i := 7) rfl (by decide +kernel) (pv_assign (v := .int .i64 _) rfl) ?_
          refine dw_pure (i := 8) rfl (by decide +kernel) (pv_assign (v := .int .i64 _) rfl) ?_
          refine dw_end rfl ?_
          refine ⟨⟨y6, hi5, lo6, A2, c2, dt⟩, ⟨rfl, rfl, rfl, trivial⟩, rfl, rfl, (Ext.trans F5 F6), fun h3 E3 => ⟨(R2.ext (Ext.trans (Ext.trans (Ext.trans (Ext.trans (Ext.trans (Ext.trans F1 E_i) F2) F3) F4) F5) F6)).ext E3, .inr ⟨hkd', rfl, hi51, hi52, lo61, lo62⟩⟩, ?_⟩
          repeat (first | exact off_refl _ _ | exact off_base _ _ _ | refine off_upd (by decide) ?_ | refine off_updL rfl ?_ | refine off_mix rfl ?_)
        · skip
          have hkd0 : ¬ kd = 2 := by simpa using hkd
          have hkd' : kd = 1 := by omega
          refine xp_skip ?_
          refine ⟨⟨y4, hi3, lo4, A1, c1, wt⟩, ⟨rfl, rfl, rfl, trivial⟩, rfl, rfl, (Ext.refl _), fun h3 E3 => ⟨(R1.ext (Ext.trans (Ext.trans (Ext.trans (Ext.trans F1 E_i) F2) F3) F4)).ext E3, .inl ⟨hkd', rfl, hi31, hi32, lo41, lo42⟩⟩, ?_⟩
          repeat (first | exact off_refl _ _ | exact off_base _ _ _ | refine off_upd (by decide) ?_ | refine off_updL rfl ?_ | refine off_mix rfl ?_)
      · rintro z T7 h_z E_z J_z
        refine goes_norm [_, _, _, _, _, _, _, _, _, _, _, _] rfl ?_
        obtain ⟨zx, hi, lo, WA', wc, l⟩ := z
        dsimp only at *
        obtain ⟨RW, hcase⟩ := J_z
        have hll : l.length = wt.length := by
          rcases hcase with h | h
          · rw [h.2.1]
          · rw [h.2.1, j4]
        have hhi : 25 ≤ hi ∧ hi ≤ 72 := by omega
        have hlo : -5 ≤ lo ∧ lo ≤ 42 := by omega
        refine xp_seq ?_
        refine xp_region rfl ?_
        refine op_pure (pv_move (v := .pointer (some ⟨b, 0, none⟩)) rfl) ?_
        refine op_fnMM [] [_] [_, _, _, _, _, _, _, _, _, _, _] (vs := [.pointer _, .int .i64 _, .int .i64 _]) rfl rfl rfl ((Within_ok b zx 1 3 (by omega) (by omega) (by omega) h_z)) ?_
        rintro _ k7 _ F7 ⟨y7, many, rfl, rfl, many1, many2⟩
        refine wp_norm [_, _, _, _, _, _, _, _, _, _, _, _] rfl ?_
        refine op_pure (pv_move (v := .pointer (some ⟨b, 0, none⟩)) rfl) ?_
        refine op_pure (pv_move (v := .pointer (some ⟨b, 0, none⟩)) rfl) ?_
        refine op_fnMM [] [_] [_, _, _, _, _, _, _, _, _, _, _] (vs := [.pointer _, .int .i64 _]) rfl rfl rfl ((Upto_ok b y7 9 (by omega) k7)) ?_
        rintro _ k8 _ F8 ⟨y8, u8, rfl, rfl, u81, u82⟩
        refine wp_norm [_, _, _, _, _, _, _, _, _, _, _, _] rfl ?_
        refine op_buildSlice (zc := [_]) (vs := [(0, .int .i64 _), (1, .int .i64 _)]) (cs := [_, _]) rfl rfl rfl rfl rfl rfl rfl fun b96 hb96 => ?_
        refine wp_norm [_, _, _, _, _, _, _, _, _, _, _, _, _] rfl ?_
        refine wp_pub 12 rfl rfl ?_
        intro k9 F9 p9
        refine wp_norm [_, _, _, _, _, _, _, _, _, _, _, _, _] rfl ?_
        refine op_fnMM [] [_] [_, _, _, _, _, _, _, _, _, _, _, _] (vs := [.pointer _, .slice _ _ _]) rfl rfl rfl ((Of_ok b y8 [u8, 9] (by simp) (by simp) _ _ k9 (row_of_block (enc := intC) (m := 1) (l := [u8, 9]) (fun _ _ => rfl) p9))) ?_
        rintro _ k10 _ F10 ⟨y10, life, rfl, rfl, lifem⟩
        refine wp_norm [_, _, _, _, _, _, _, _, _, _, _, _, _] rfl ?_
        have hlife : 0 ≤ life ∧ life ≤ 9 := by simp at lifem; omega
        refine op_pure (pv_assign (v := .int .i64 _) rfl) ?_
        refine op_pure (pv_assign (v := .int .i64 _) rfl) ?_
        refine xp_seq ?_
        refine xp_region rfl ?_
        refine op_pure (pv_move (v := .pointer (some ⟨b, 0, none⟩)) rfl) ?_
        refine op_pure (pv_move (v := .int .i64 _) rfl) ?_
        refine op_fnMM [] [_] [_, _, _, _, _, _, _, _, _, _, _, _] (vs := [.pointer _, .int .i64 _, .int .i64 _, .int .i64 _, .int .i64 _]) rfl rfl rfl ((Near_ok b y10 hi (-50) 100 1 (by omega) (by omega) k10)) ?_
        rintro _ k11 _ F11 ⟨y11, u11, w11, rfl, rfl, u111, u112, w111, w112⟩
        refine wp_norm [_, _, _, _, _, _, _, _, _, _, _, _, _] rfl ?_
        refine op_pure (pv_move (v := .pointer (some ⟨b, 0, none⟩)) rfl) ?_
        refine op_pure (pv_move (v := .int .i64 _) rfl) ?_
        refine op_fnMM [] [_] [_, _, _, _, _, _, _, _, _, _, _, _] (vs := [.pointer _, .int .i64 _, .int .i64 _, .int .i64 _, .int .i64 _]) rfl rfl rfl ((Near_ok b y11 lo (-50) 100 1 (by omega) (by omega) k11)) ?_
        rintro _ k12 _ F12 ⟨y12, u12, w12, rfl, rfl, u121, u122, w121, w122⟩
        refine wp_norm [_, _, _, _, _, _, _, _, _, _, _, _, _] rfl ?_
        refine op_pure (pv_fieldAddr rfl rfl rfl rfl 1 rfl) ?_
        refine op_storeP 11 (v := .agg #[.int .i64 _, .int .i64 _]) (vs := [_, _]) (c' := [_, _, _, _, _, _, _, _, _]) rfl rfl rfl rfl rfl rfl rfl rfl rfl ?_
        refine wp_norm [_, _, _, _, _, _, _, _, _, _, _, _, _] rfl ?_
        refine op_pure (pv_fieldAddr rfl rfl rfl rfl 3 rfl) ?_
        refine op_storeP 11 (v := .agg #[.int .i64 _, .int .i64 _]) (vs := [_, _]) (c' := [_, _, _, _, _, _, _, _, _]) rfl rfl rfl rfl rfl rfl rfl rfl rfl ?_
        refine wp_norm [_, _, _, _, _, _, _, _, _, _, _, _, _] rfl ?_
        refine xp_seq ?_
        refine xp_region rfl ?_
        refine op_pure (pv_move (v := .pointer (some ⟨b, 0, none⟩)) rfl) ?_
        refine op_pure (pv_move (v := .int .i64 _) rfl) ?_
        refine op_fnMM [] [_] [_, _, _, _, _, _, _, _, _, _, _, _] (vs := [.pointer _, .int .i64 _, .int .i64 _, .int .i64 _, .int .i64 _]) rfl rfl rfl ((Near_ok b y12 many 1 6 1 (by omega) (by omega) k12)) ?_
        rintro _ k13 _ F13 ⟨y13, u13, w13, rfl, rfl, u131, u132, w131, w132⟩
        refine wp_norm [_, _, _, _, _, _, _, _, _, _, _, _, _] rfl ?_
        refine op_pure (pv_move (v := .pointer (some ⟨b, 0, none⟩)) rfl) ?_
        refine op_pure (pv_move (v := .int .i64 _) rfl) ?_
        refine op_fnMM [] [_] [_, _, _, _, _, _, _, _, _, _, _, _] (vs := [.pointer _, .int .i64 _, .int .i64 _, .int .i64 _, .int .i64 _]) rfl rfl rfl ((Near_ok b y13 life 0 9 2 (by omega) (by omega) k13)) ?_
        rintro _ k14 _ F14 ⟨y14, u14, w14, rfl, rfl, u141, u142, w141, w142⟩
        refine wp_norm [_, _, _, _, _, _, _, _, _, _, _, _, _] rfl ?_
        refine op_pure (pv_fieldAddr rfl rfl rfl rfl 5 rfl) ?_
        refine op_storeP 11 (v := .agg #[.int .i64 _, .int .i64 _]) (vs := [_, _]) (c' := [_, _, _, _, _, _, _, _, _]) rfl rfl rfl rfl rfl rfl rfl rfl rfl ?_
        refine wp_norm [_, _, _, _, _, _, _, _, _, _, _, _, _] rfl ?_
        refine op_pure (pv_fieldAddr rfl rfl rfl rfl 7 rfl) ?_
        refine op_storeP 11 (v := .agg #[.int .i64 _, .int .i64 _]) (vs := [_, _]) (c' := [_, _, _, _, _, _, _, _, _]) rfl rfl rfl rfl rfl rfl rfl rfl rfl ?_
        refine wp_norm [_, _, _, _, _, _, _, _, _, _, _, _, _] rfl ?_
        refine xp_seq ?_
        refine xp_region rfl ?_
        refine op_pure (pv_fieldAddr rfl rfl rfl rfl 2 rfl) ?_
        refine op_loadP 3 (v := .slice _ _ _) rfl rfl rfl rfl ?_
        refine op_loadPA 11 (vs := [.int .i64 _, .int .i64 _, .int .i64 _, .int .i64 _, .int .i64 _, .int .i64 _, .int .i64 _, .int .i64 _, .int .i64 _]) rfl rfl rfl rfl rfl ?_
        refine op_buildSlice (zc := [_, _, _, _, _, _, _, _, _]) (vs := [(0, .agg #[.int .i64 _, .int .i64 _, .int .i64 _, .int .i64 _, .int .i64 _, .int .i64 _, .int .i64 _, .int .i64 _, .int .i64 _])]) (cs := [_, _, _, _, _, _, _, _, _]) rfl rfl rfl rfl rfl rfl rfl fun b117 hb117 => ?_
        refine wp_norm [_, _, _, _, _, _, _, _, _, _, _, _, _, _] rfl ?_
        refine op_appendR 9 r5 rfl rfl rfl (fun V => rdP V (i := 13) rfl) rfl rfl rfl rfl rfl rfl rfl rfl rfl (by omega) rfl (by rw [flat_len (m := 9) (fun _ _ => rfl)]; simp; omega) fun a5' h8a E8a ra5 => ?_
        refine wp_norm [_, _, _, _, _, _, _, _, _, _, _, _, _, _] rfl ?_
        refine op_pure (pv_fieldAddr rfl rfl rfl rfl 2 rfl) ?_
        refine op_storeP 3 (v := .slice _ _ _) (vs := [_]) (c' := [_, _, _, _]) rfl rfl rfl rfl rfl rfl rfl rfl rfl ?_
        refine wp_norm [_, _, _, _, _, _, _, _, _, _, _, _, _, _] rfl ?_
        refine xp_seq ?_
        refine xp_region rfl ?_
        refine op_pure (pv_move (v := .slice _ _ _) rfl) ?_
        refine op_pure (pv_len rfl rfl) ?_
        refine op_pure (pv_assign (v := .int .i64 _) rfl) ?_
        refine op_pure (pv_assign (v := .int .i64 _) rfl) ?_
        refine xp_seq ?_
        refine xp_seq ?_
        refine xp_region rfl ?_
        refine op_pure (pv_move (v := .slice _ _ _) rfl) ?_
        refine op_pure (pv_len rfl rfl) ?_
        refine op_pure (pv_arith rfl (by omega)) ?_
        refine op_pure (pv_assign (v := .int .i64 _) rfl) ?_
        refine xp_block ?_
        refine xp_loopB [22, 23, 24, 25, 125, 126, 127, 128, 129, 130, 131, 132, 133, 134, 135, 136, 137, 138, 139, 140, 141, 142, 143, 144, 145, 146, 147, 148, 149, 150, 151, 152, 153, 154, 155, 156, 157, 158, 159, 160, 161, 162, 163, 164, 165, 166] 14 (α := Nat) (fun kk => [(24, .int .i64 ((l.length : Int) - 1 - kk)), (22, .int .i64 (failP l hi lo many life kk : Nat))]) (fun kk => _) (fun kk h_kk => kk ≤ l.length) (fun kk => l.length - kk) (0) ⟨intE (by omega), rfl, trivial⟩ (rfl) (Nat.zero_le _) ?_
        rintro kk T9 h_kk E_kk J_kk
        refine goes_norm [_, _, _, _, _, _, _, _, _, _, _, _, _, _] rfl ?_
        refine xp_seq ?_
        refine xp_seq ?_
        refine xp_region rfl ?_
        refine op_pure (pv_move (v := .int .i64 _) rfl) ?_
        refine op_pure (pv_of (v := .bool _) rfl) ?_
        refine xp_cond rfl (fun hw3 => ?_) (fun hw3 => ?_)
        · skip
          have hkl : kk < l.length := by have := of_decide_eq_true hw3; omega
          have hwn : l.length - (kk + 1) < l.length := by omega
          have hsub : (l.length : Int) - 1 - kk = ((l.length - (kk + 1) : Nat) : Int) := by omega
          rw [hsub]
          have hgd : l.getD (l.length - (kk + 1)) 0 = l[l.length - (kk + 1)] := by rw [List.getD_eq_getElem?_getD, List.getElem?_eq_getElem hwn]; rfl
          refine xp_skip ?_
          refine xp_seq ?_
          refine xp_block ?_
          refine xp_seq ?_
          refine xp_region rfl ?_
          refine op_pure (pv_assign (v := .int .i64 _) rfl) ?_
          refine xp_seq ?_
          refine xp_seq ?_
          refine xp_region rfl ?_
          refine op_pure (pv_assign (v := .int .i64 _) rfl) ?_
          refine xp_block ?_
          refine xp_loopB [23, 25, 129, 130, 131, 132, 133, 134, 135, 136, 137, 138, 139, 140, 141] 14 (α := Nat) (fun v => [(25, .int .i64 v), (23, .int .i64 (coldN l lo v : Nat))]) (fun v => _) (fun v h_v => v ≤ l.length - (kk + 1) + 1) (fun v => l.length - (kk + 1) + 1 - v) (0) ⟨rfl, intE (by simp [coldN]), trivial⟩ (rfl) (Nat.zero_le _) ?_
          rintro v T10 h_v E_v J_v
          refine goes_norm [_, _, _, _, _, _, _, _, _, _, _, _, _, _] rfl ?_
          have hcn := coldN_le l lo v
          refine xp_seq ?_
          refine xp_seq ?_
          refine xp_region rfl ?_
          refine op_pure (pv_move (v := .int .i64 _) rfl) ?_
          refine op_pure (pv_move (v := .int .i64 _) rfl) ?_
          refine op_pure (pv_of (v := .bool _) rfl) ?_
          refine xp_cond rfl (fun hv3 => ?_) (fun hv3 => ?_)
          · skip
            have hvl : v < l.length := by have := of_decide_eq_true hv3; omega
            have hvw : v ≤ l.length - (kk + 1) := by have := of_decide_eq_true hv3; omega
            have hcs := coldN_succ (x := l) (lo := lo) hvl
            obtain ⟨gv, offv, hAv, hcv⟩ := (RW.ext (Ext.trans (Ext.trans (Ext.trans (Ext.trans (Ext.trans (Ext.trans (Ext.trans (Ext.trans (Ext.trans (Ext.trans F7 F8) F9) F10) F11) F12) F13) F14) E8a) E_kk) E_v)).at (by omega) hvl
            refine xp_skip ?_
            refine xp_seq ?_
            refine xp_block ?_
            refine xp_seq ?_
            refine xp_region rfl ?_
            refine op_pure (pv_move (v := .slice _ _ _) rfl) ?_
            refine op_pure (pv_move (v := .int .i64 _) rfl) ?_
            refine op_pure (pv_indexE rfl hAv rfl rfl rfl (by omega) (by omega)) ?_
            refine op_load (v := .int .i64 _) rfl rfl ((hcv) 0 _ rfl) ?_
            refine op_pure (pv_move (v := .int .i64 _) rfl) ?_
            refine op_pure (pv_of (v := .bool _) rfl) ?_
            refine xp_cond rfl (fun hcold => ?_) (fun hcold => ?_)
            · skip
              have hc1 : l[v] ≤ lo := of_decide_eq_true hcold
              refine xp_region rfl ?_
              refine op_pure (pv_move (v := .int .i64 _) rfl) ?_
              refine op_pure (pv_arith rfl (by omega)) ?_
              refine op_pure (pv_assign (v := .int .i64 _) rfl) ?_
              refine xp_region rfl ?_
              refine op_pure (pv_move (v := .int .i64 _) rfl) ?_
              refine op_pure (pv_arith rfl (by omega)) ?_
              refine op_pure (pv_assign (v := .int .i64 _) rfl) ?_
              refine ⟨v + 1, ⟨rfl, intE (by rw [hcs, if_pos hc1]; simp), trivial⟩, rfl, rfl, E_v, fun h3 E3 => by omega, by first | omega | (dsimp only; omega), ?_⟩
              repeat (first | exact off_base _ _ _ | refine off_upd (by decide) ?_ | refine off_updL rfl ?_ | refine off_mix rfl ?_)
            · skip
              have hc1 : ¬ l[v] ≤ lo := of_decide_eq_false hcold
              refine xp_skip ?_
              refine xp_region rfl ?_
              refine op_pure (pv_move (v := .int .i64 _) rfl) ?_
              refine op_pure (pv_arith rfl (by omega)) ?_
              refine op_pure (pv_assign (v := .int .i64 _) rfl) ?_
              refine ⟨v + 1, ⟨rfl, intE (by rw [hcs, if_neg hc1]; simp), trivial⟩, rfl, rfl, E_v, fun h3 E3 => by omega, by first | omega | (dsimp only; omega), ?_⟩
              repeat (first | exact off_base _ _ _ | refine off_upd (by decide) ?_ | refine off_updL rfl ?_ | refine off_mix rfl ?_)
          · skip
            have hve : v = l.length - (kk + 1) + 1 := by have := of_decide_eq_false hv3; omega
            subst hve
            obtain ⟨gw, offw, hAw, hcw⟩ := (RW.ext (Ext.trans (Ext.trans (Ext.trans (Ext.trans (Ext.trans (Ext.trans (Ext.trans (Ext.trans (Ext.trans (Ext.trans F7 F8) F9) F10) F11) F12) F13) F14) E8a) E_kk) E_v)).at (by omega) hwn
            have hfp : failP l hi lo many life (kk + 1) = if failW l hi lo many life (l.length - (kk + 1)) then l.length - (kk + 1) else failP l hi lo many life kk := rfl
            refine xp_exit ?_
            refine xp_seq ?_
            refine xp_region rfl ?_
            refine op_pure (pv_move (v := .slice _ _ _) rfl) ?_
            refine op_pure (pv_move (v := .int .i64 _) rfl) ?_
            refine op_pure (pv_indexE rfl hAw rfl rfl rfl (by omega) (by omega)) ?_
            refine op_load (v := .int .i64 _) rfl rfl ((hcw) 0 _ rfl) ?_
            refine op_pure (pv_move (v := .int .i64 _) rfl) ?_
            refine op_pure (pv_of (v := .bool _) rfl) ?_
            refine op_pure (pv_move (v := .bool _) rfl) ?_
            rcases Bool.eq_false_or_eq_true (decide (l[l.length - (kk + 1)] ≥ hi)) with c1 | c1
            · skip
              have hfw : failW l hi lo many life (l.length - (kk + 1)) = true := by unfold failW; rw [hgd, c1]; rfl
              refine guard_no rfl c1 ?_
              refine guard_no rfl c1 ?_
              refine guard_no rfl c1 ?_
              refine op_pure (pv_pickT rfl c1 (v := .bool _) rfl) ?_
              refine op_pure (pv_move (v := .bool _) rfl) ?_
              refine guard_no rfl rfl ?_
              refine guard_no rfl rfl ?_
              refine guard_no rfl rfl ?_
              refine guard_no rfl rfl ?_
              refine guard_no rfl rfl ?_
              refine guard_no rfl rfl ?_
              refine guard_no rfl rfl ?_
              refine guard_un rfl ?_
              refine guard_un rfl ?_
              refine guard_un rfl ?_
              refine guard_no rfl rfl ?_
              refine op_pure (pv_pickT rfl rfl (v := .bool _) rfl) ?_
              refine xp_condT rfl (rfl) ?_
              refine xp_region rfl ?_
              refine op_pure (pv_move (v := .int .i64 _) rfl) ?_
              refine op_pure (pv_assign (v := .int .i64 _) rfl) ?_
              refine xp_region rfl ?_
              refine op_pure (pv_move (v := .int .i64 _) rfl) ?_
              refine op_pure (pv_arith rfl (by omega)) ?_
              refine op_pure (pv_assign (v := .int .i64 _) rfl) ?_
              refine ⟨kk + 1, ⟨intE (by omega), intE (by rw [hfp, if_pos hfw]), trivial⟩, rfl, rfl, (Ext.trans E_kk E_v), fun h3 E3 => by omega, by first | omega | (dsimp only; omega), ?_⟩
              repeat (first | exact off_base _ _ _ | refine off_upd (by decide) ?_ | refine off_updL rfl ?_ | refine off_mix rfl ?_)
            · skip
              refine guard_yes rfl c1 ?_
              refine op_pure (pv_move (v := .int .i64 _) rfl) ?_
              refine guard_yes rfl c1 ?_
              refine op_pure (pv_move (v := .int .i64 _) rfl) ?_
              refine guard_yes rfl c1 ?_
              refine op_pure (pv_of (v := .bool _) rfl) ?_
              refine op_pure (pv_pickF rfl c1 (v := .bool _) rfl) ?_
              refine op_pure (pv_move (v := .bool _) rfl) ?_
              rcases Bool.eq_false_or_eq_true (decide (((l.length - (kk + 1) : Nat) : Int) = life)) with c2 | c2
              · skip
                have hfw : failW l hi lo many life (l.length - (kk + 1)) = true := by unfold failW; rw [hgd, c1, c2]; rfl
                refine guard_no rfl c2 ?_
                refine guard_no rfl c2 ?_
                refine guard_no rfl c2 ?_
                refine guard_no rfl c2 ?_
                refine guard_no rfl c2 ?_
                refine guard_no rfl c2 ?_
                refine guard_no rfl c2 ?_
                refine guard_un rfl ?_
                refine guard_un rfl ?_
                refine guard_un rfl ?_
                refine guard_no rfl c2 ?_
                refine op_pure (pv_pickT rfl c2 (v := .bool _) rfl) ?_
                refine xp_condT rfl (rfl) ?_
                refine xp_region rfl ?_
                refine op_pure (pv_move (v := .int .i64 _) rfl) ?_
                refine op_pure (pv_assign (v := .int .i64 _) rfl) ?_
                refine xp_region rfl ?_
                refine op_pure (pv_move (v := .int .i64 _) rfl) ?_
                refine op_pure (pv_arith rfl (by omega)) ?_
                refine op_pure (pv_assign (v := .int .i64 _) rfl) ?_
                refine ⟨kk + 1, ⟨intE (by omega), intE (by rw [hfp, if_pos hfw]), trivial⟩, rfl, rfl, (Ext.trans E_kk E_v), fun h3 E3 => by omega, by first | omega | (dsimp only; omega), ?_⟩
                repeat (first | exact off_base _ _ _ | refine off_upd (by decide) ?_ | refine off_updL rfl ?_ | refine off_mix rfl ?_)
              · skip
                refine guard_yes rfl c2 ?_
                refine op_pure (pv_move (v := .slice _ _ _) rfl) ?_
                refine guard_yes rfl c2 ?_
                refine op_pure (pv_move (v := .int .i64 _) rfl) ?_
                refine guard_yes rfl c2 ?_
                refine op_pure (pv_indexE rfl hAw rfl rfl rfl (by omega) (by omega)) ?_
                refine guard_yes rfl c2 ?_
                refine op_load (v := .int .i64 _) rfl rfl ((hcw) 0 _ rfl) ?_
                refine guard_yes rfl c2 ?_
                refine op_pure (pv_move (v := .int .i64 _) rfl) ?_
                refine guard_yes rfl c2 ?_
                refine op_pure (pv_of (v := .bool _) rfl) ?_
                refine guard_yes rfl c2 ?_
                refine op_pure (pv_move (v := .bool _) rfl) ?_
                rcases Bool.eq_false_or_eq_true (decide (l[l.length - (kk + 1)] ≤ lo)) with c3 | c3
                · skip
                  refine guard_yes rfl c3 ?_
                  refine op_pure (pv_move (v := .int .i64 _) rfl) ?_
                  refine guard_yes rfl c3 ?_
                  refine op_pure (pv_move (v := .int .i64 _) rfl) ?_
                  refine guard_yes rfl c3 ?_
                  refine op_pure (pv_of (v := .bool _) rfl) ?_
                  refine guard_yes rfl c2 ?_
                  refine op_pure (pv_pickT rfl c3 (v := .bool _) rfl) ?_
                  refine op_pure (pv_pickF rfl c2 (v := .bool _) rfl) ?_
                  refine xp_cond rfl (fun c4 => ?_) (fun c4 => ?_)
                  · skip
                    have hfw : failW l hi lo many life (l.length - (kk + 1)) = true := by unfold failW; rw [hgd, c1, c2, c3, show decide ((coldN l lo (l.length - (kk + 1) + 1) : Int) = many) = true from by simpa using c4]; rfl
                    refine xp_region rfl ?_
                    refine op_pure (pv_move (v := .int .i64 _) rfl) ?_
                    refine op_pure (pv_assign (v := .int .i64 _) rfl) ?_
                    refine xp_region rfl ?_
                    refine op_pure (pv_move (v := .int .i64 _) rfl) ?_
                    refine op_pure (pv_arith rfl (by omega)) ?_
                    refine op_pure (pv_assign (v := .int .i64 _) rfl) ?_
                    refine ⟨kk + 1, ⟨intE (by omega), intE (by rw [hfp, if_pos hfw]), trivial⟩, rfl, rfl, (Ext.trans E_kk E_v), fun h3 E3 => by omega, by first | omega | (dsimp only; omega), ?_⟩
                    repeat (first | exact off_base _ _ _ | refine off_upd (by decide) ?_ | refine off_updL rfl ?_ | refine off_mix rfl ?_)
                  · skip
                    have hfw : ¬ failW l hi lo many life (l.length - (kk + 1)) = true := by unfold failW; rw [hgd, c1, c2, c3, show decide ((coldN l lo (l.length - (kk + 1) + 1) : Int) = many) = false from by simpa using c4]; simp
                    refine xp_skip ?_
                    refine xp_region rfl ?_
                    refine op_pure (pv_move (v := .int .i64 _) rfl) ?_
                    refine op_pure (pv_arith rfl (by omega)) ?_
                    refine op_pure (pv_assign (v := .int .i64 _) rfl) ?_
                    refine ⟨kk + 1, ⟨intE (by omega), intE (by rw [hfp, if_neg hfw]), trivial⟩, rfl, rfl, (Ext.trans E_kk E_v), fun h3 E3 => by omega, by first | omega | (dsimp only; omega), ?_⟩
                    repeat (first | exact off_base _ _ _ | refine off_upd (by decide) ?_ | refine off_updL rfl ?_ | refine off_mix rfl ?_)
                · skip
                  have hfw : ¬ failW l hi lo many life (l.length - (kk + 1)) = true := by unfold failW; rw [hgd, c1, c2, c3]; simp
                  refine guard_no rfl c3 ?_
                  refine guard_no rfl c3 ?_
                  refine guard_no rfl c3 ?_
                  refine guard_yes rfl c2 ?_
                  refine op_pure (pv_pickF rfl c3 (v := .bool _) rfl) ?_
                  refine op_pure (pv_pickF rfl c2 (v := .bool _) rfl) ?_
                  refine xp_condF rfl (rfl) ?_
                  refine xp_skip ?_
                  refine xp_region rfl ?_
                  refine op_pure (pv_move (v := .int .i64 _) rfl) ?_
                  refine op_pure (pv_arith rfl (by omega)) ?_
                  refine op_pure (pv_assign (v := .int .i64 _) rfl) ?_
                  refine ⟨kk + 1, ⟨intE (by omega), intE (by rw [hfp, if_neg hfw]), trivial⟩, rfl, rfl, (Ext.trans E_kk E_v), fun h3 E3 => by omega, by first | omega | (dsimp only; omega), ?_⟩
                  repeat (first | exact off_base _ _ _ | refine off_upd (by decide) ?_ | refine off_updL rfl ?_ | refine off_mix rfl ?_)
        · skip
          have hkk : kk = l.length := by have := of_decide_eq_false hw3; omega
          subst hkk
          refine xp_exit ?_
          refine xp_region rfl ?_
          refine op_pure (pv_fieldAddr rfl rfl rfl rfl 2 rfl) ?_
          refine op_loadP 4 (v := .slice _ _ _) rfl rfl rfl rfl ?_
          refine op_pure (pv_move (v := .int .i64 _) rfl) ?_
          refine op_buildSlice (zc := [_]) (vs := [(0, .int .i64 _)]) (cs := [_]) rfl rfl rfl rfl rfl rfl rfl fun b170 hb170 => ?_
          refine wp_norm [_, _, _, _, _, _, _, _, _, _, _, _, _, _, _] rfl ?_
          refine op_appendR 10 r6 rfl rfl rfl (fun V => rdP V (i := 14) rfl) rfl rfl rfl rfl rfl rfl rfl rfl rfl (by omega) rfl (by rw [flat_len (m := 1) (fun _ _ => rfl), fl]; simp; omega) fun a6' h11a E11a ra6 => ?_
          refine wp_norm [_, _, _, _, _, _, _, _, _, _, _, _, _, _, _] rfl ?_
          have hJT : JointT wt dt ⟨kd, ⟨max (-50) (hi - u11), min 100 (hi + w11)⟩, ⟨max (-50) (lo - u12), min 100 (lo + w12)⟩, ⟨max 1 (many - u13), min 6 (many + w13)⟩, ⟨max 0 (life - u14), min 9 (life + w14)⟩⟩ (failP l hi lo many life l.length : Nat) hi lo many life := by
            refine ⟨?_, ⟨many1, many2⟩, hlife, ⟨u11, w11, u111, u112, w111, w112, rfl⟩, ⟨u12, w12, u121, u122, w121, w122, rfl⟩, ⟨u13, w13, u131, u132, w131, w132, rfl⟩, ⟨u14, w14, u141, u142, w141, w142, rfl⟩, ?_⟩
            · rcases hcase with c | c
              · exact .inl ⟨c.1, c.2.2⟩
              · exact .inr ⟨c.1, c.2.2⟩
            · rcases hcase with c | c
              · rw [c.1, if_pos rfl, ← c.2.1]; rfl
              · rw [c.1, if_neg (by show ¬ (2 : Int) = 1; decide), ← c.2.1]; rfl
          refine op_pure (pv_fieldAddr rfl rfl rfl rfl 2 rfl) ?_
          refine op_storeP 4 (v := .slice _ _ _) (vs := [_]) (c' := [_, _, _]) rfl rfl rfl rfl rfl rfl rfl rfl rfl ?_
          refine wp_norm [_, _, _, _, _, _, _, _, _, _, _, _, _, _, _] rfl ?_
          refine xp_region rfl ?_
          refine op_pure (pv_move (v := .int .i64 _) rfl) ?_
          refine op_pure (pv_arith rfl (by omega)) ?_
          refine op_pure (pv_assign (v := .int .i64 _) rfl) ?_
          refine ⟨(i - 1, y14, js ++ [⟨kd, ⟨max (-50) (hi - u11), min 100 (hi + w11)⟩, ⟨max (-50) (lo - u12), min 100 (lo + w12)⟩, ⟨max 1 (many - u13), min 6 (many + w13)⟩, ⟨max 0 (life - u14), min 9 (life + w14)⟩⟩], fs ++ [((failP l hi lo many life l.length : Nat) : Int)], a5', a6'), ⟨rfl, trivial⟩, rfl, rfl, (Ext.trans (Ext.trans (Ext.trans (Ext.trans (Ext.trans (Ext.trans (Ext.trans (Ext.trans (Ext.trans (Ext.trans (Ext.trans (Ext.trans (Ext.trans (Ext.trans (Ext.trans E_i F2) F3) F4) E_z) F7) F8) F9) F10) F11) F12) F13) F14) E8a) E_kk) E11a), fun h3 E3 => ⟨⟨by omega, by simp; omega⟩, m3.snoc hJT, by rw [List.flatMap_append]; exact ra5, by rw [List.flatMap_append]; exact ra6⟩, by first | omega | (dsimp only; omega), ?_⟩
          repeat (first | exact off_base _ _ _ | refine off_upd (by decide) ?_ | refine off_updL rfl ?_ | refine off_mix rfl ?_)
    · skip
      have hi0' : i = 0 := by have := of_decide_eq_false ht2; omega
      obtain ⟨p5, A5, n5, c5⟩ := a5
      obtain ⟨p6, A6, n6, c6⟩ := a6
      dsimp only at *
      obtain rfl : n5 = js.length := by have := AccR.len r5; rw [flat_len (m := 9) (fun _ _ => rfl)] at this; dsimp only at this; omega
      obtain rfl : n6 = fs.length := by have := AccR.len r6; rw [flat_len (m := 1) (fun _ _ => rfl)] at this; dsimp only at this; omega
      refine goes_pubO 10 rfl ?_
      intro g6 G6 P6
      refine goes_norm [_, _, _, _, _, _, _, _, _, _, _] rfl ?_
      have R6 : Row g6 1 intC A6 fs := ⟨fun _ _ => rfl, AccR.rd r6 P6⟩
      refine goes_more ?_
      refine goes_norm [_, _, _, _, _, _, _, _, _, _, _, _] rfl ?_
      refine xp_exit ?_
      refine xp_seq ?_
      refine xp_seq ?_
      refine xp_region rfl ?_
      refine op_pure (pv_move (v := .pointer (some ⟨b, 0, none⟩)) rfl) ?_
      refine op_pure (pv_move (v := .int .i64 _) rfl) ?_
      refine op_fnMM [] [_] [_, _, _, _, _, _, _, _, _, _, _] (vs := [.pointer _, .int .i64 _]) rfl rfl rfl ((Upto_ok b y reports (by omega) g6)) ?_
      rintro _ k20 _ F20 ⟨y20, i20, rfl, rfl, i201, i202⟩
      refine wp_norm [_, _, _, _, _, _, _, _, _, _, _, _] rfl ?_
      refine op_pure (pv_assign (v := .int .i64 _) rfl) ?_
      refine xp_block ?_
      refine xp_loopL [26, 176, 177, 178, 179, 180, 181, 182, 183, 184, 185, 186, 187, 188, 189, 190, 191, 192, 193] 12 (α := Int × Nat × List Seen × Acc) (fun ⟨e, y, rs, a7⟩ => [(26, .int .i64 e)]) (fun ⟨e, y, rs, a7⟩ L => ((L.set 0 (some (b, .cells #[.int .u64 (y : Int)] 56 (0, 0)))).set 3 (some (b10, .cells #[.slice A3 hs.length c3, .slice A4 ds.length c4, .slice A5 js.length c5, .slice a7.A a7.n a7.c] 29 (0, 0)))).set 11 (a7.p)) (fun ⟨e, y, rs, a7⟩ h_e => (0 ≤ e ∧ e + rs.length ≤ reports) ∧ (∀ r ∈ rs, SeenT wt.length fs r) ∧ AccR 50 3 (rs.flatMap seenC) a7) (fun ⟨e, y, rs, a7⟩ => e.toNat) ((i20, y20, [], acc0)) ⟨rfl, trivial⟩ (rfl) (⟨⟨i201, by simp; omega⟩, fun _ h => (by cases h), accR0⟩) ?_
      rintro ⟨e, y, rs, a7⟩ T12 h_e E_e J_e
      refine goes_norm [_, _, _, _, _, _, _, _, _, _, _, _] rfl ?_
      obtain ⟨⟨s1, s2⟩, s3, r7⟩ := J_e
      refine xp_seq ?_
      refine xp_seq ?_
      refine xp_region rfl ?_
      refine op_pure (pv_move (v := .int .i64 _) rfl) ?_
      refine op_pure (pv_of (v := .bool _) rfl) ?_
      refine op_pure (pv_move (v := .bool _) rfl) ?_
      rcases Bool.eq_false_or_eq_true (decide (e > 0)) with he | he
      · skip
        have he' : 0 < e := of_decide_eq_true he
        refine guard_yes rfl he ?_
        refine op_pure (pv_fieldAddr rfl rfl rfl rfl 2 rfl) ?_
        refine guard_yes rfl he ?_
        refine op_loadP 3 (v := .slice _ _ _) rfl rfl rfl rfl ?_
        refine guard_yes rfl he ?_
        refine op_pure (pv_len rfl rfl) ?_
        refine guard_yes rfl he ?_
        refine op_pure (pv_of (v := .bool _) rfl) ?_
        refine op_pure (pv_pickT rfl he (v := .bool _) rfl) ?_
        refine xp_cond rfl (fun hjl => ?_) (fun hjl => ?_)
        · skip
          have hjl' : 0 < fs.length := by have := of_decide_eq_true hjl; omega
          refine xp_skip ?_
          refine xp_seq ?_
          refine xp_block ?_
          refine xp_dw [true, false, false, false, false, false, false, false, false, false, false, true] rfl rfl rfl ?_
          refine dw_pure (i := 0) rfl (by decide +kernel) (pv_fieldAddr rfl rfl rfl rfl 3 rfl) ?_
          refine dw_load (i := 1) rfl (by decide +kernel) ?_
          refine op_loadP 3 (v := .slice _ _ _) rfl rfl rfl rfl ?_
          refine dw_pure (i := 2) rfl (by decide +kernel) (pv_move (v := .pointer (some ⟨b, 0, none⟩)) rfl) ?_
          refine dw_load (i := 3) rfl (by decide +kernel) ?_
          refine op_loadPA 4 (vs := [.slice _ _ _, .slice _ _ _, .slice _ _ _]) rfl rfl rfl rfl rfl ?_
          refine dw_eff (i := 4) rfl (by decide +kernel) ?_
          refine op_fnMM [] [_] [_, _, _, _, _, _, _, _, _, _, _] (vs := [.pointer _, .agg #[.slice _ _ _, .slice _ _ _, .slice _ _ _]]) rfl rfl rfl ((SeenOf_ok b y wt.length dt.length (by omega) (by omega) fs hjl' (by omega) A1 A2 A6 c1 c2 c6 h_e (R6.ext (Ext.trans F20 E_e)))) ?_
          rintro _ k21 _ F21 ⟨y21, sr, rfl, rfl, sr1⟩
          refine ⟨ext_wlm F21 _, ?_⟩
          refine dw_norm [_, _, _, _, _, _, _, _, _, _, _, _] rfl ?_
          refine dw_eff (i := 5) rfl (by decide +kernel) ?_
          refine op_buildSlice (zc := [_, _, _]) (vs := [(0, .agg #[.int .i64 _, .int .i64 _, .bool _])]) (cs := [_, _, _]) rfl rfl rfl rfl rfl rfl rfl fun b191 hb191 => ?_
          refine ⟨ext_newM hb191 _, ?_⟩
          refine dw_norm [_, _, _, _, _, _, _, _, _, _, _, _, _] rfl ?_
          refine dw_last (i := 6) rfl (by decide +kernel) (by decide +kernel) ?_
          refine op_appendR 11 r7 rfl rfl rfl (fun V => rdP V (i := 12) rfl) rfl rfl rfl rfl rfl rfl rfl rfl rfl (by omega) rfl (by rw [flat_len (m := 3) (fun _ _ => rfl)]; simp; omega) fun a7' h13a E13a ra7 => ?_
          refine dw_norm [_, _, _, _, _, _, _, _, _, _, _, _, _] rfl ?_
          refine dw_pure (i := 7) rfl (by decide +kernel) (pv_fieldAddr rfl rfl rfl rfl 3 rfl) ?_
          refine dw_last (i := 8) rfl (by decide +kernel) (by decide +kernel) ?_
          refine op_storeP 3 (v := .slice _ _ _) (vs := [_]) (c' := [_, _, _, _]) rfl rfl rfl rfl rfl rfl rfl rfl rfl ?_
          refine dw_norm [_, _, _, _, _, _, _, _, _, _, _, _, _] rfl ?_
          refine dw_end rfl ?_
          refine xp_region rfl ?_
          refine op_pure (pv_move (v := .int .i64 _) rfl) ?_
          refine op_pure (pv_arith rfl (by omega)) ?_
          refine op_pure (pv_assign (v := .int .i64 _) rfl) ?_
          refine ⟨(e - 1, y21, rs ++ [sr], a7'), ⟨rfl, trivial⟩, rfl, rfl, (Ext.trans (Ext.trans E_e F21) E13a), fun h3 E3 => ⟨⟨by omega, by simp; omega⟩, memS s3 sr1, by rw [List.flatMap_append]; exact ra7⟩, by first | omega | (dsimp only; omega), ?_⟩
          repeat (first | exact off_base _ _ _ | refine off_upd (by decide) ?_ | refine off_updL rfl ?_ | refine off_mix rfl ?_)
        · skip
          obtain ⟨p7, A7, n7, c7⟩ := a7
          dsimp only at *
          obtain rfl : n7 = rs.length := by have := AccR.len r7; rw [flat_len (m := 3) (fun _ _ => rfl)] at this; dsimp only at this; omega
          refine xp_exit ?_
          refine xp_seq ?_
          refine xp_dw [false, true, true] rfl rfl rfl ?_
          refine dw_load (i := 0) rfl (by decide +kernel) ?_
          refine op_loadPA 3 (vs := [.slice _ _ _, .slice _ _ _, .slice _ _ _, .slice _ _ _]) rfl rfl rfl rfl rfl ?_
          refine dw_load (i := 1) rfl (by decide +kernel) ?_
          refine op_loadPA 4 (vs := [.slice _ _ _, .slice _ _ _, .slice _ _ _]) rfl rfl rfl rfl rfl ?_
          refine dw_eff (i := 2) rfl (by decide +kernel) ?_
          refine op_storeP 1 (v := .agg #[.slice _ _ _, .slice _ _ _, .slice _ _ _, .slice _ _ _]) (vs := [_, _, _, _]) (c' := [_, _, _, _]) rfl rfl rfl rfl rfl rfl rfl rfl rfl ?_
          refine ⟨Ext.refl _, ?_⟩
          refine dw_norm [_, _, _, _, _, _, _, _, _, _, _, _] rfl ?_
          refine dw_last (i := 3) rfl (by decide +kernel) (by decide +kernel) ?_
          refine op_storeP 2 (v := .agg #[.slice _ _ _, .slice _ _ _, .slice _ _ _]) (vs := [_, _, _]) (c' := [_, _, _]) rfl rfl rfl rfl rfl rfl rfl rfl rfl ?_
          refine dw_norm [_, _, _, _, _, _, _, _, _, _, _, _] rfl ?_
          refine dw_end rfl ?_
          refine xp_ret ?_
          refine res_list (vs := [_, _]) Try.results5 ⟨resV_agg 1 rfl rfl rfl rfl rfl (vs := [.slice _ _ _, .slice _ _ _, .slice _ _ _, .slice _ _ _]) rfl, resV_agg 2 rfl rfl rfl rfl rfl (vs := [.slice _ _ _, .slice _ _ _, .slice _ _ _]) rfl, trivial⟩ fun V => ?_
          obtain ⟨h9, E9, e9, V9⟩ := wl_two [_, _, _, _, _, _, _, _] [_] [] V
          exact ⟨h9, _, e9, V9, Ext.trans (Ext.trans (Ext.trans (Ext.trans (Ext.trans (Ext.trans (Ext.trans (Ext.trans (Ext.trans (Ext.trans (Ext.trans E1 E_q) G1) G2) G3) G4) F1) E_i) G6) F20) E_e) E9, y, ⟨hs, ds, js, rs⟩, wt, dt, fs, _, _, ⟨p5, A5, js.length, c5⟩, ⟨p7, A7, rs.length, c7⟩, rfl, rfl, ⟨by omega, by omega, j4, j5, j6, j7, j8, by show js.length ≤ _; omega, m3, by show rs.length ≤ _; omega, s3⟩, r5, r7, ⟨A3, c3, A4, c4, rfl, (R3.ext (Ext.trans (Ext.trans (Ext.trans (Ext.trans F1 E_i) G6) F20) E_e)).ext E9, (R4.ext (Ext.trans (Ext.trans (Ext.trans (Ext.trans F1 E_i) G6) F20) E_e)).ext E9⟩, A1, c1, A2, c2, A6, c6, rfl, (R1.ext (Ext.trans (Ext.trans (Ext.trans (Ext.trans F1 E_i) G6) F20) E_e)).ext E9, (R2.ext (Ext.trans (Ext.trans (Ext.trans (Ext.trans F1 E_i) G6) F20) E_e)).ext E9, (R6.ext (Ext.trans F20 E_e)).ext E9⟩
      · skip
        refine guard_no rfl he ?_
        refine guard_no rfl he ?_
        refine guard_no rfl he ?_
        refine guard_no rfl he ?_
        refine op_pure (pv_pickF rfl he (v := .bool _) rfl) ?_
        refine xp_condF rfl (rfl) ?_
        obtain ⟨p7, A7, n7, c7⟩ := a7
        dsimp only at *
        obtain rfl : n7 = rs.length := by have := AccR.len r7; rw [flat_len (m := 3) (fun _ _ => rfl)] at this; dsimp only at this; omega
        refine xp_exit ?_
        refine xp_seq ?_
        refine xp_dw [false, true, true] rfl rfl rfl ?_
        refine dw_load (i := 0) rfl (by decide +kernel) ?_
        refine op_loadPA 3 (vs := [.slice _ _ _, .slice _ _ _, .slice _ _ _, .slice _ _ _]) rfl rfl rfl rfl rfl ?_
        refine dw_load (i := 1) rfl (by decide +kernel) ?_
        refine op_loadPA 4 (vs := [.slice _ _ _, .slice _ _ _, .slice _ _ _]) rfl rfl rfl rfl rfl ?_
        refine dw_eff (i := 2) rfl (by decide +kernel) ?_
        refine op_storeP 1 (v := .agg #[.slice _ _ _, .slice _ _ _, .slice _ _ _, .slice _ _ _]) (vs := [_, _, _, _]) (c' := [_, _, _, _]) rfl rfl rfl rfl rfl rfl rfl rfl rfl ?_
        refine ⟨Ext.refl _, ?_⟩
        refine dw_norm [_, _, _, _, _, _, _, _, _, _, _, _] rfl ?_
        refine dw_last (i := 3) rfl (by decide +kernel) (by decide +kernel) ?_
        refine op_storeP 2 (v := .agg #[.slice _ _ _, .slice _ _ _, .slice _ _ _]) (vs := [_, _, _]) (c' := [_, _, _]) rfl rfl rfl rfl rfl rfl rfl rfl rfl ?_
        refine dw_norm [_, _, _, _, _, _, _, _, _, _, _, _] rfl ?_
        refine dw_end rfl ?_
        refine xp_ret ?_
        refine res_list (vs := [_, _]) Try.results5 ⟨resV_agg 1 rfl rfl rfl rfl rfl (vs := [.slice _ _ _, .slice _ _ _, .slice _ _ _, .slice _ _ _]) rfl, resV_agg 2 rfl rfl rfl rfl rfl (vs := [.slice _ _ _, .slice _ _ _, .slice _ _ _]) rfl, trivial⟩ fun V => ?_
        obtain ⟨h9, E9, e9, V9⟩ := wl_two [_, _, _, _, _, _, _, _] [_] [] V
        exact ⟨h9, _, e9, V9, Ext.trans (Ext.trans (Ext.trans (Ext.trans (Ext.trans (Ext.trans (Ext.trans (Ext.trans (Ext.trans (Ext.trans (Ext.trans E1 E_q) G1) G2) G3) G4) F1) E_i) G6) F20) E_e) E9, y, ⟨hs, ds, js, rs⟩, wt, dt, fs, _, _, ⟨p5, A5, js.length, c5⟩, ⟨p7, A7, rs.length, c7⟩, rfl, rfl, ⟨by omega, by omega, j4, j5, j6, j7, j8, by show js.length ≤ _; omega, m3, by show rs.length ≤ _; omega, s3⟩, r5, r7, ⟨A3, c3, A4, c4, rfl, (R3.ext (Ext.trans (Ext.trans (Ext.trans (Ext.trans F1 E_i) G6) F20) E_e)).ext E9, (R4.ext (Ext.trans (Ext.trans (Ext.trans (Ext.trans F1 E_i) G6) F20) E_e)).ext E9⟩, A1, c1, A2, c2, A6, c6, rfl, (R1.ext (Ext.trans (Ext.trans (Ext.trans (Ext.trans F1 E_i) G6) F20) E_e)).ext E9, (R2.ext (Ext.trans (Ext.trans (Ext.trans (Ext.trans F1 E_i) G6) F20) E_e)).ext E9, (R6.ext (Ext.trans F20 E_e)).ext E9⟩
theorem SeasonOf_ok (b x weeks joints reports : Nat) (hw : 1 ≤ weeks) (hw2 : weeks ≤ 6) (hj : joints ≤ 3) (hr : reports ≤ 100) (h : AH) :
    FnM Try.prog (.func (.func 5) #[] ([] : List Value).toArray) [.pointer (some ⟨b, 0, none⟩), .int .i64 weeks, .int .i64 joints, .int .i64 reports] h [some (b, .cells #[.int .u64 (x : Int)] 56 (0, 0))]
    (fun v h' M' => ∃ (x' : Nat) (s : Season) (ht dt fs : List Int) (u w : Value), M' = [some (b, .cells #[.int .u64 (x' : Int)] 56 (0, 0))] ∧ v = .tuple #[u, w] ∧ SeasonS h' s u ∧ SeasonT weeks joints reports s ht dt fs
      ∧ ∃ HA hc DA dc FA fc, w = .agg #[.slice HA ht.length hc, .slice DA dt.length dc, .slice FA fs.length fc] ∧ Row h' 1 intC HA ht ∧ Row h' 1 intC DA dt ∧ Row h' 1 intC FA fs) := by
  intro V
  refine CallV.mono (SeasonOf_okM b x weeks joints reports hw hw2 hj hr h V) ?_ (fun _ _ y => y)
  rintro v H ⟨h', M', e, V', E, x', s, ht, dt, fs, u, w, a5, a7, rfl, rfl, T, r5, r7, ⟨A0, c0, A1, c1, rfl, RH, RD⟩, HA, hc, DA, dc, FA, fc, rfl, R1, R2, R3⟩
  obtain ⟨h9, E9, e9, V9, P5, P7⟩ := wl_open V'
  exact ⟨h9, _, e.trans e9, V9, E.trans E9, x', s, ht, dt, fs, _, _, rfl, rfl, ⟨A0, A1, a5.A, a7.A, c0, c1, a5.c, a7.c, rfl, RH.ext E9, RD.ext E9, ⟨fun _ _ => rfl, AccR.rd r5 P5⟩, ⟨fun _ _ => rfl, AccR.rd r7 P7⟩⟩, T, HA, hc, DA, dc, FA, fc, rfl, R1.ext E9, R2.ext E9, R3.ext E9⟩
end Go.Proofs.Ytledjpdpkbifgaa
/- Plain: a season that its truth bears out has no error. Conditions: as each theorem states. -/
namespace Go.Wx
open Go Go.HL
variable [Lvl]
theorem firstErr_all {α : Type} {f : α → Int} : ∀ {l : List α}, (∀ x ∈ l, f x = 0) → firstErr f l = 0
  | [], _ => rfl
  | y :: l, h => by
    rw [firstErr, if_neg (by simp [h y (List.mem_cons_self ..)])]
    exact firstErr_all fun x hx => h x (List.mem_cons_of_mem _ hx)
theorem checkRange_of {x : Rg} {lo hi : Int} (h : lo ≤ x.mn ∧ x.mn ≤ x.mx ∧ x.mx ≤ hi) : checkRangeM x lo hi = 0 := by
  unfold checkRangeM inM
  rw [if_neg (by simp; omega), if_neg (by simp; omega), if_neg (by omega)]
theorem checkWeather_of {x : Rg} (h : -50 ≤ x.mn ∧ x.mn ≤ x.mx ∧ x.mx ≤ 100 ∧ x.mx - x.mn ≤ 2) : checkWeatherM x = 0 := by
  unfold checkWeatherM
  rw [checkRange_of ⟨h.1, h.2.1, h.2.2.1⟩, if_neg (by simp), if_neg (by omega)]
theorem NearR.bd {t lo hi d : Int} {r : Rg} (n : NearR t lo hi d r) (h1 : lo ≤ t) (h2 : t ≤ hi) : lo ≤ r.mn ∧ r.mn ≤ t ∧ t ≤ r.mx ∧ r.mx ≤ hi ∧ r.mx - r.mn ≤ 2 * d := by
  obtain ⟨u, w, a, b, c, e, rfl⟩ := n
  dsimp only
  omega
theorem NearL.mem {ts : List Int} {rs : List Rg} (n : NearL ts rs) {r : Rg} (h : r ∈ rs) : ∃ t ∈ ts, NearR t (-50) 100 1 r := by
  obtain ⟨i, hi⟩ := List.mem_iff_getElem?.1 h
  have hl := (List.getElem?_eq_some_iff.1 hi).1
  have hl' : i < ts.length := by rw [← n.len]; exact hl
  have ht : ts[i]? = some ts[i] := List.getElem?_eq_getElem hl'
  exact ⟨ts[i], List.getElem_mem _, n.at' i _ r ht hi⟩
section
variable {weeks joints reports : Nat} {s : Season} {ht dt fs : List Int} (T : SeasonT weeks joints reports s ht dt fs) (hw : weeks ≤ 6) (hj : joints ≤ 3) (hr : reports ≤ 5)
include T hw hj hr
theorem check_T : checkM s = 0 := by
  have h1 := T.w1
  have h2 := T.ww
  have h3 := T.hn.len
  have h4 := T.dn.len
  have h5 := T.dl
  have h6 := T.jl
  have h7 := T.rl
  have hwt : firstErr checkWeatherM (s.heats ++ s.damps) = 0 := firstErr_all fun r h => by
    rcases List.mem_append.1 h with h | h
    · obtain ⟨t, ht', n⟩ := T.hn.mem h
      have := T.hb t ht'
      have := n.bd (by omega) (by omega)
      exact checkWeather_of (by omega)
    · obtain ⟨t, ht', n⟩ := T.dn.mem h
      have := T.db t ht'
      have := n.bd (by omega) (by omega)
      exact checkWeather_of (by omega)
  have hjt : firstErr checkJointM s.joints = 0 := firstErr_all fun j h => by
    obtain ⟨i, hi⟩ := List.mem_iff_getElem?.1 h
    have hl := (List.getElem?_eq_some_iff.1 hi).1
    have hl' : i < fs.length := by rw [T.js.len]; exact hl
    have hf : fs[i]? = some fs[i] := List.getElem?_eq_getElem hl'
    obtain ⟨a, b, c, d, J⟩ := T.js.at' i j _ hi hf
    have k := J.k
    have m := J.m
    have l := J.l
    have n1 := J.h1.bd (by omega) (by omega)
    have n2 := J.h2.bd (by omega) (by omega)
    have n3 := J.h3.bd (by omega) (by omega)
    have n4 := J.h4.bd (by omega) (by omega)
    unfold checkJointM inM
    rw [if_neg (by simp; omega), checkWeather_of (x := j.high) (by omega), if_neg (by simp), checkWeather_of (x := j.low) (by omega), if_neg (by simp), checkRange_of (x := j.weeks) (by omega), if_neg (by simp), checkRange_of (x := j.life) (by omega)]
  have hrt : firstErr (checkSeenM s) s.reports = 0 := firstErr_all fun r h => by
    obtain ⟨a, b, c, d, _⟩ := T.rs r h
    have := T.js.len
    unfold checkSeenM inM
    rw [if_neg (by simp; omega), if_neg (by simp; omega)]
  unfold checkM
  rw [if_neg (by omega), if_neg (by omega), if_neg (by omega), if_neg (by omega), hwt, if_neg (by simp), if_neg (by omega), hjt, if_neg (by simp), if_neg (by omega), hrt]
end
/-- The true weather. -/
def skyOf (l : List Int) : Sky := ⟨l.getD 0 0, l.getD 1 0, l.getD 2 0, l.getD 3 0, l.getD 4 0, l.getD 5 0⟩
theorem skyOf_at (l : List Int) : ∀ w, w < 6 → (skyOf l).at w = l.getD w 0
  | 0, _ => rfl
  | 1, _ => rfl
  | 2, _ => rfl
  | 3, _ => rfl
  | 4, _ => rfl
  | 5, _ => rfl
  | w + 6, h => by omega
theorem Sky.ext_at {x y : Sky} (h : ∀ i, i < 6 → x.at i = y.at i) : x = y := by
  obtain ⟨a0, a1, a2, a3, a4, a5⟩ := x
  obtain ⟨b0, b1, b2, b3, b4, b5⟩ := y
  have h0 := h 0 (by omega); have h1 := h 1 (by omega); have h2 := h 2 (by omega); have h3 := h 3 (by omega); have h4 := h 4 (by omega); have h5 := h 5 (by omega)
  simp only [Sky.at] at h0 h1 h2 h3 h4 h5
  rw [h0, h1, h2, h3, h4, h5]
theorem Sky.at_set (x : Sky) (v : Int) {k i : Nat} (hk : k < 6) (hi : i < 6) : (x.set k v).at i = if i = k then v else x.at i := by
  match k, hk, i, hi with
  | 0, _, i, hi => match i, hi with | 0, _ => rfl | 1, _ => rfl | 2, _ => rfl | 3, _ => rfl | 4, _ => rfl | 5, _ => rfl | i + 6, h => omega
  | 1, _, i, hi => match i, hi with | 0, _ => rfl | 1, _ => rfl | 2, _ => rfl | 3, _ => rfl | 4, _ => rfl | 5, _ => rfl | i + 6, h => omega
  | 2, _, i, hi => match i, hi with | 0, _ => rfl | 1, _ => rfl | 2, _ => rfl | 3, _ => rfl | 4, _ => rfl | 5, _ => rfl | i + 6, h => omega
  | 3, _, i, hi => match i, hi with | 0, _ => rfl | 1, _ => rfl | 2, _ => rfl | 3, _ => rfl | 4, _ => rfl | 5, _ => rfl | i + 6, h => omega
  | 4, _, i, hi => match i, hi with | 0, _ => rfl | 1, _ => rfl | 2, _ => rfl | 3, _ => rfl | 4, _ => rfl | 5, _ => rfl | i + 6, h => omega
  | 5, _, i, hi => match i, hi with | 0, _ => rfl | 1, _ => rfl | 2, _ => rfl | 3, _ => rfl | 4, _ => rfl | 5, _ => rfl | i + 6, h => omega
  | k + 6, h, _, _ => omega
theorem mem_skies {y : Sky} : ∀ (rs : List Rg) (k : Nat) (x : Sky), k + rs.length ≤ 6 → (∀ (i : Nat) r, rs[i]? = some r → r.mn ≤ y.at (k + i) ∧ y.at (k + i) ≤ r.mx) → (∀ i, i < 6 → i < k ∨ k + rs.length ≤ i → y.at i = x.at i) → y ∈ skiesM rs k x
  | [], k, x, _, _, h => by
    rw [skiesM, List.mem_singleton]
    exact Sky.ext_at fun i hi => h i hi (by simp; omega)
  | r :: rs, k, x, hl, hr, h => by
    rw [List.length_cons] at hl h
    rw [skiesM, List.mem_flatMap]
    have h0 := hr 0 r rfl
    refine ⟨y.at k, mem_rangeI.2 (by rw [Nat.add_zero] at h0; omega), mem_skies rs (k + 1) _ (by omega) (fun i q hq => ?_) (fun i hi hc => ?_)⟩
    · have := hr (i + 1) q (by simpa using hq)
      rw [show k + 1 + i = k + (i + 1) by omega]
      exact this
    · rw [Sky.at_set x _ (by omega) hi]
      split
      · rename_i e; rw [e]
      · exact h i hi (by omega)
end Go.Wx
/- Plain: when a joint truly fails. Conditions: as each theorem states. -/
namespace Go.Wx
open Go Go.HL
variable [Lvl]
theorem failP_spec (x : List Int) (hi lo many life : Int) : ∀ k, k ≤ x.length → x.length - k ≤ failP x hi lo many life k ∧ failP x hi lo many life k ≤ x.length ∧ (failP x hi lo many life k < x.length → failW x hi lo many life (failP x hi lo many life k) = true) ∧ ∀ w, x.length - k ≤ w → w < failP x hi lo many life k → failW x hi lo many life w = false
  | 0, _ => ⟨by simp [failP], by simp [failP], fun h => absurd h (by simp [failP]), fun w h1 h2 => by simp [failP] at h2; omega⟩
  | k + 1, hk => by
    obtain ⟨a, b, c, d⟩ := failP_spec x hi lo many life k (by omega)
    unfold failP
    split
    · rename_i h
      exact ⟨Nat.le_refl _, by omega, fun _ => h, fun w h1 h2 => by omega⟩
    · rename_i h
      refine ⟨by omega, b, c, fun w h1 h2 => ?_⟩
      by_cases hw : w = x.length - (k + 1)
      · rw [hw]; simpa using h
      · exact d w (by omega) h2
/-- The first week that fails is told by what it is. -/
theorem failT_eq {x : List Int} {hi lo many life : Int} {f : Nat} (h1 : f ≤ x.length) (h2 : f < x.length → failW x hi lo many life f = true) (h3 : ∀ w, w < f → failW x hi lo many life w = false) : failT x hi lo many life = f := by
  obtain ⟨_, b, c, d⟩ := failP_spec x hi lo many life x.length (Nat.le_refl _)
  unfold failT
  rcases Nat.lt_trichotomy (failP x hi lo many life x.length) f with h | h | h
  · have := h3 _ h
    rw [c (by omega)] at this
    cases this
  · exact h
  · have := d f (by omega) h
    rw [h2 (by omega)] at this
    cases this
theorem coldM_cold (l : List Int) (c : Int) : ∀ k, k ≤ l.length → l.length ≤ 6 → (coldM (skyOf l) c k).length = coldN l c k
  | 0, _, _ => rfl
  | k + 1, hk, h6 => by
    have hkl : k < l.length := by omega
    rw [coldM_succ, coldN_succ hkl, ← coldM_cold l c k (by omega) h6, skyOf_at l k (by omega), List.getD_eq_getElem?_getD, List.getElem?_eq_getElem hkl]
    show (if l[k] ≤ c then _ else _ : List Int).length = _
    split <;> simp
theorem coldM_at (x : Sky) (c : Int) (w n : Nat) (hw : w < n) (hc : x.at w ≤ c) : (coldM x c n)[(coldM x c w).length]? = some (w : Int) := by
  induction n with
  | zero => omega
  | succ n ih =>
    rw [coldM_succ]
    by_cases h : w = n
    · subst h
      rw [if_pos hc, List.getElem?_append_right (Nat.le_refl _)]
      simp
    · have := ih (by omega)
      split
      · rw [List.getElem?_append_left (List.getElem?_eq_some_iff.1 this).1]; exact this
      · exact this
end Go.Wx
/- Plain: what the truth of a season says of its questions. Conditions: as each theorem states. -/
namespace Go.Wx
open Go Go.HL
variable [Lvl]
theorem listN_pair (m : Nat) : ∀ k, (listN m k).Pairwise (· < ·)
  | 0 => by simp [listN]
  | k + 1 => by
    rw [listN_succ]
    split
    · rw [List.pairwise_append]
      refine ⟨listN_pair m k, by simp, fun a ha b hb => ?_⟩
      obtain ⟨i, rfl, hi, _⟩ := listN_mem ha
      simp at hb
      subst hb
      omega
    · exact listN_pair m k
theorem mem_listN {m k : Nat} {z : Int} : z ∈ listN m k ↔ ∃ i : Nat, z = i ∧ i < k ∧ m.testBit i = true := by
  refine ⟨listN_mem, ?_⟩
  rintro ⟨i, rfl, hi, hb⟩
  unfold listN
  simp only [List.mem_map, List.mem_filter, List.mem_range]
  exact ⟨i, ⟨hi, hb⟩, rfl⟩
theorem when0_spec (x : Sky) (n : Nat) (h : Int) (hn : n ≤ 6) : when0 x n h ≤ n ∧ (when0 x n h < n → h ≤ x.at (when0 x n h)) ∧ ∀ w, w < n → h ≤ x.at w → when0 x n h ≤ w := by
  unfold when0
  have hp := listN_pair (hotM x h n) 7
  have hm := @mem_listN _ (hotM x h n) 7
  split
  · rename_i e
    refine ⟨Nat.le_refl _, fun h => absurd h (by omega), fun w hw hh => ?_⟩
    have : (w : Int) ∈ listN (hotM x h n) 7 := hm.2 ⟨w, rfl, by omega, by rw [hotM_bit]; simp [hw, hh]⟩
    rw [show listN (hotM x h n) 7 = [] from e] at this
    cases this
  · rename_i w l e
    rw [show listN (hotM x h n) 7 = w :: l from e] at hp hm
    obtain ⟨i, rfl, hi, hb⟩ := hm.1 (List.mem_cons_self ..)
    rw [hotM_bit] at hb
    simp at hb
    refine ⟨by simp; omega, fun _ => by simpa using hb.2, fun w hw hh => ?_⟩
    have : (w : Int) ∈ (i : Int) :: l := hm.2 ⟨w, rfl, by omega, by rw [hotM_bit]; simp [hw, hh]⟩
    rcases List.mem_cons.1 this with h1 | h1
    · simp; omega
    · have := (List.pairwise_cons.1 hp).1 _ h1
      simp; omega
theorem coldM_pair (x : Sky) (c : Int) : ∀ k, (coldM x c k).Pairwise (· < ·)
  | 0 => by simp [coldM]
  | k + 1 => by
    rw [coldM_succ]
    split
    · rw [List.pairwise_append]
      refine ⟨coldM_pair x c k, by simp, fun a ha b hb => ?_⟩
      obtain ⟨i, rfl, hi, _⟩ := coldM_mem ha
      simp at hb
      subst hb
      omega
    · exact coldM_pair x c k
theorem pair_inj {l : List Int} (hp : l.Pairwise (· < ·)) {i j : Nat} {z : Int} (hi : l[i]? = some z) (hj : l[j]? = some z) : i = j := by
  obtain ⟨h1, e1⟩ := List.getElem?_eq_some_iff.1 hi
  obtain ⟨h2, e2⟩ := List.getElem?_eq_some_iff.1 hj
  rw [List.pairwise_iff_getElem] at hp
  rcases Nat.lt_trichotomy i j with h | h | h
  · have := hp i j h1 h2 h; omega
  · exact h
  · have := hp j i h2 h1 h; omega
theorem when1_spec (l : List Int) (hl : l.length ≤ 6) (c : Int) (many : Nat) (hm : 1 ≤ many) : when1 (skyOf l) l.length c many ≤ l.length ∧ (when1 (skyOf l) l.length c many < l.length → (skyOf l).at (when1 (skyOf l) l.length c many) ≤ c ∧ coldN l c (when1 (skyOf l) l.length c many + 1) = many) ∧ ∀ w, w < l.length → (skyOf l).at w ≤ c → coldN l c (w + 1) = many → when1 (skyOf l) l.length c many = w := by
  have step : ∀ w, w < l.length → (skyOf l).at w ≤ c → coldN l c (w + 1) = (coldM (skyOf l) c w).length + 1 := by
    intro w hw hc
    rw [← coldM_cold l c (w + 1) (by omega) hl, coldM_succ, if_pos hc]
    simp
  have third : ∀ w, w < l.length → (skyOf l).at w ≤ c → coldN l c (w + 1) = many → when1 (skyOf l) l.length c many = w := by
    intro w hw hc he
    have h1 := coldM_at (skyOf l) c w l.length hw hc
    rw [step w hw hc] at he
    have h2 := (List.getElem?_eq_some_iff.1 h1).1
    unfold when1
    rw [if_pos (by omega), show many - 1 = (coldM (skyOf l) c w).length from by omega, List.getD_eq_getElem?_getD, h1]
    rfl
  unfold when1 at third ⊢
  by_cases h : many ≤ (coldM (skyOf l) c l.length).length
  · rw [if_pos h] at third ⊢
    have hx : (coldM (skyOf l) c l.length)[many - 1]? = some ((coldM (skyOf l) c l.length)[many - 1]'(by omega)) := List.getElem?_eq_getElem (by omega)
    obtain ⟨w, hw, h1, h2⟩ := coldM_mem (List.getElem_mem (show many - 1 < (coldM (skyOf l) c l.length).length by omega))
    rw [hw] at hx
    have h3 := coldM_at (skyOf l) c w l.length h1 h2
    have h4 := pair_inj (coldM_pair _ _ _) hx h3
    rw [List.getD_eq_getElem?_getD, hx] at third ⊢
    refine ⟨by simp; omega, fun _ => ?_, third⟩
    simp only [Option.getD_some, Int.toNat_natCast]
    exact ⟨h2, by rw [step w h1 h2]; omega⟩
  · rw [if_neg h] at third ⊢
    exact ⟨Nat.le_refl _, fun h => absurd h (by omega), third⟩
/-- The week of a failure, in a weather that is known, is the first week with a cause. -/
theorem weekM_T (l : List Int) (hl : l.length ≤ 6) (hi lo : Int) (many life : Nat) (hm : 1 ≤ many) : failT l hi lo many life = weekM (skyOf l) l.length hi lo many life := by
  obtain ⟨a1, a2, a3⟩ := when0_spec (skyOf l) l.length hi hl
  obtain ⟨b1, b2, b3⟩ := when1_spec l hl lo many hm
  have hat : ∀ w, w < l.length → l.getD w 0 = (skyOf l).at w := fun w hw => (skyOf_at l w (by omega)).symm
  refine failT_eq (weekM_le ..) (fun h => ?_) (fun w hw => ?_)
  · unfold failW
    rw [hat _ h]
    simp only [Bool.or_eq_true, Bool.and_eq_true, decide_eq_true_eq]
    generalize he : weekM (skyOf l) l.length hi lo many life = f at h ⊢
    unfold weekM at he
    have : f = when0 (skyOf l) l.length hi ∨ f = when1 (skyOf l) l.length lo many ∨ f = life := by omega
    rcases this with e | e | e
    · left; left; rw [e]; exact a2 (by omega)
    · right; rw [e] at h ⊢; have := b2 h; exact ⟨this.1, by exact_mod_cast this.2⟩
    · left; right; exact_mod_cast e
  · have hwn : w < l.length := Nat.lt_of_lt_of_le hw (weekM_le ..)
    unfold weekM at hw
    unfold failW
    rw [hat _ hwn]
    rw [Bool.eq_false_iff]
    intro hc
    simp only [Bool.or_eq_true, Bool.and_eq_true, decide_eq_true_eq] at hc
    rcases hc with (h | h) | ⟨h1, h2⟩
    · have := a3 w hwn h; omega
    · omega
    · have := b3 w hwn h1 (by exact_mod_cast h2); omega
theorem uptoM_bit (m k w : Nat) : (uptoM m k).testBit w = (m.testBit w && decide (w ≤ k)) := by
  unfold uptoM
  rw [Nat.testBit_and, Nat.testBit_two_pow_sub_one]
  congr 1
  rw [decide_eq_decide]
  omega
theorem toldStep_bit (j : Int) (m : Nat) (r : Seen) (w : Nat) (hw : w < 64) (hm : m < 2 ^ 64) (hr : 0 ≤ r.week) : (toldStep j m r).testBit w = (m.testBit w && (!decide (r.joint = j) || (r.failed == decide ((w : Int) ≤ r.week)))) := by
  have hwk : decide (w ≤ r.week.toNat) = decide ((w : Int) ≤ r.week) := by rw [decide_eq_decide]; omega
  unfold toldStep
  by_cases h : r.joint = j
  · rw [if_neg (by simp [h])]
    cases hf : r.failed with
    | true => simp [uptoM_bit, h, hwk]
    | false =>
      have hu : uptoM m r.week.toNat < 2 ^ 64 := uptoM_lt hm
      simp only [h, Bool.false_eq_true, if_false, decide_true, Bool.not_true, Bool.false_or]
      rw [Nat.testBit_and, show 2 ^ 64 - 1 - uptoM m r.week.toNat = 2 ^ 64 - (uptoM m r.week.toNat + 1) from by omega, Nat.testBit_two_pow_sub_succ hu, uptoM_bit, hwk]
      cases m.testBit w <;> simp [hw]
  · rw [if_pos h]; simp [h]
/-- Which weeks the reports leave for a joint. -/
theorem toldW_bit (s : Season) (h6 : s.heats.length ≤ 6) (hr : ∀ r ∈ s.reports, 0 ≤ r.week) (i w : Nat) (hw : w < 64) : (toldW s i).testBit w = (decide (w ≤ s.heats.length) && s.reports.all fun r => !decide (r.joint = (i : Int)) || (r.failed == decide ((w : Int) ≤ r.week))) := by
  have key : ∀ (l : List Seen) (m : Nat), m < 2 ^ 64 → (∀ r ∈ l, 0 ≤ r.week) → (l.foldl (toldStep i) m).testBit w = (m.testBit w && l.all fun r => !decide (r.joint = (i : Int)) || (r.failed == decide ((w : Int) ≤ r.week))) := by
    intro l
    induction l with
    | nil => intro m _ _; simp
    | cons r l ih =>
      intro m hm hr
      rw [List.foldl_cons, ih _ (toldStep_lt hm) (fun q hq => hr q (List.mem_cons_of_mem _ hq)), toldStep_bit _ _ _ _ hw hm (hr r (List.mem_cons_self ..)), List.all_cons, Bool.and_assoc]
  have h2 : 2 ^ (s.heats.length + 1) ≤ 2 ^ 7 := Nat.pow_le_pow_right (by omega) (by omega)
  unfold toldW toldM
  rw [List.take_length, key _ _ (by omega) hr, Nat.testBit_two_pow_sub_one]
  congr 1
  rw [decide_eq_decide]
  omega
theorem mem_failuresM {j : Joint} {x : Sky} {n : Nat} {y : Fl} : y ∈ failuresM j x n ↔ ∃ h c many life : Int, (j.high.mn ≤ h ∧ h ≤ j.high.mx) ∧ (j.low.mn ≤ c ∧ c ≤ j.low.mx) ∧ (j.weeks.mn ≤ many ∧ many ≤ j.weeks.mx) ∧ (j.life.mn ≤ life ∧ life ≤ j.life.mx) ∧ y = failM x n h c many.toNat life.toNat := by
  unfold failuresM fails1 fails2 fails3 fails4
  simp only [List.mem_flatMap, List.mem_map, mem_rangeI]
  constructor
  · rintro ⟨h, h1, c, h2, m, h3, l, h4, rfl⟩
    exact ⟨h, c, m, l, by omega, by omega, by omega, by omega, rfl⟩
  · rintro ⟨h, c, m, l, h1, h2, h3, h4, rfl⟩
    exact ⟨h, by omega, c, by omega, m, by omega, l, by omega, rfl⟩
theorem mem_okAll {s : Season} {n : Int} {x : Sky} : x ∈ okK s n (allSkies s n).length ↔ x ∈ allSkies s n ∧ okM s n x = true := by
  unfold okK
  rw [List.take_length, List.mem_filter]
theorem mem_pushAll (x : Sky) : ∀ (l acc : List Sky), x ∈ l.foldl pushSky acc ↔ x ∈ acc ∨ x ∈ l
  | [], acc => by simp
  | y :: l, acc => by
    rw [List.foldl_cons, mem_pushAll x l]
    unfold pushSky
    split
    · rename_i h
      have hy : y ∈ acc := List.mem_of_getLast? h
      constructor
      · rintro (h | h) <;> simp [h]
      · rintro (h | h)
        · exact .inl h
        · rcases List.mem_cons.1 h with e | h
          · exact .inl (e ▸ hy)
          · exact .inr h
    · simp only [List.mem_append, List.mem_cons, List.not_mem_nil, or_false, or_assoc]
theorem mem_skM {s : Season} {n : Int} {x : Sky} : x ∈ skM s n ↔ x ∈ allSkies s n ∧ okM s n x = true := by
  show x ∈ (okK s n (allSkies s n).length).foldl pushSky [] ↔ _
  rw [mem_pushAll, mem_okAll]
  simp
theorem mem_flsM {s : Season} {n : Int} {i : Nat} {y : Fl} : y ∈ flsM s n i ↔ ∃ x, x ∈ allSkies s n ∧ okM s n x = true ∧ y ∈ surv s n x i := by
  show y ∈ (okK s n (allSkies s n).length).flatMap _ ↔ _
  rw [List.mem_flatMap]
  constructor
  · rintro ⟨x, hx, hy⟩; obtain ⟨h1, h2⟩ := mem_okAll.1 hx; exact ⟨x, h1, h2, hy⟩
  · rintro ⟨x, h1, h2, hy⟩; exact ⟨x, mem_okAll.2 ⟨h1, h2⟩, hy⟩
theorem mem_fatesM {s : Season} {n : Int} {f : Fate} : f ∈ fatesM s n ↔ ∃ x, x ∈ allSkies s n ∧ okM s n x = true ∧ fateOf s n x = f := by
  show f ∈ (okK s n (allSkies s n).length).map _ ↔ _
  rw [List.mem_map]
  constructor
  · rintro ⟨x, hx, hy⟩; obtain ⟨h1, h2⟩ := mem_okAll.1 hx; exact ⟨x, h1, h2, hy⟩
  · rintro ⟨x, h1, h2, hy⟩; exact ⟨x, mem_okAll.2 ⟨h1, h2⟩, hy⟩
theorem okM_iff {s : Season} {n : Int} {x : Sky} : okM s n x = true ↔ ∀ (i : Nat) j, s.joints[i]? = some j → j.kind = n → surv s n x i ≠ [] := by
  unfold okM
  rw [List.all_eq_true]
  constructor
  · intro h i j hj hk e
    have hl := (List.getElem?_eq_some_iff.1 hj).1
    have := h i (List.mem_range.2 hl)
    unfold kindAt at this
    rw [hj] at this
    simp [hk, fateM, e, maskM] at this
  · intro h i hi
    rw [List.mem_range] at hi
    have hj : s.joints[i]? = some s.joints[i] := List.getElem?_eq_getElem hi
    unfold kindAt
    rw [hj]
    by_cases hk : s.joints[i].kind = n
    · have := h i _ hj hk
      simp [fateM, maskM_zero, this]
    · simp [hk]
theorem mayM_iff {s : Season} : mayM s = true ↔ (∃ x, x ∈ skM s 1) ∧ (∃ x, x ∈ skM s 2) := by
  unfold mayM
  rw [Bool.and_eq_true, decide_eq_true_eq, decide_eq_true_eq, List.length_pos_iff_exists_mem, List.length_pos_iff_exists_mem]
section
variable {weeks joints reports : Nat} {s : Season} {ht dt fs : List Int} (T : SeasonT weeks joints reports s ht dt fs) (hw : weeks ≤ 6)
include T hw
/-- A joint's true failure is among those that can be. -/
theorem true_surv {n : Int} (hn : n = 1 ∨ n = 2) {i : Nat} {j : Joint} {f : Int} (hj : s.joints[i]? = some j) (hk : j.kind = n) (hf : fs[i]? = some f) : ∃ y ∈ surv s n (skyOf (if n = 1 then ht else dt)) i, (y.week : Int) = f := by
  obtain ⟨hi, lo, many, life, J⟩ := T.js.at' i j f hj hf
  have hx : (if n = 1 then ht else dt).length = s.heats.length := by split; · exact T.hn.len.symm
                                                                     · rw [T.dl]; exact T.hn.len.symm
  have h6 : s.heats.length ≤ 6 := by have := T.hn.len; have := T.ww; omega
  have m := J.m
  have l := J.l
  have k := J.k
  have n1 := J.h1.bd (by omega) (by omega)
  have n2 := J.h2.bd (by omega) (by omega)
  have n3 := J.h3.bd (by omega) (by omega)
  have n4 := J.h4.bd (by omega) (by omega)
  have hwk := weekM_T (if n = 1 then ht else dt) (by omega) hi lo many.toNat life.toNat (by omega)
  have hm : ((many.toNat : Nat) : Int) = many := by omega
  have hl : ((life.toNat : Nat) : Int) = life := by omega
  rw [hm, hl, hx] at hwk
  have hff := J.f
  rw [hk] at hff
  refine ⟨failM (skyOf (if n = 1 then ht else dt)) s.heats.length hi lo many.toNat life.toNat, ?_, ?_⟩
  · unfold surv
    rw [hj]
    simp only [hk, if_true]
    refine List.mem_filter.2 ⟨mem_failuresM.2 ⟨hi, lo, many, life, by omega, by omega, by omega, by omega, rfl⟩, ?_⟩
    have hle := weekM_le (skyOf (if n = 1 then ht else dt)) s.heats.length hi lo many.toNat life.toNat
    show (toldW s i).testBit (weekM (skyOf (if n = 1 then ht else dt)) s.heats.length hi lo many.toNat life.toNat) = true
    rw [toldW_bit s h6 (fun r hr => (T.rs r hr).2.2.1) i _ (by omega), Bool.and_eq_true, decide_eq_true_eq]
    refine ⟨hle, ?_⟩
    rw [List.all_eq_true]
    intro r hr
    obtain ⟨r1, r2, r3, r4, r5⟩ := T.rs r hr
    by_cases h : r.joint = (i : Int)
    · have : fs.getD r.joint.toNat 0 = f := by rw [h, Int.toNat_natCast, List.getD_eq_getElem?_getD, hf]; rfl
      rw [this, hff, hwk] at r5
      simp [h, r5]
    · simp [h]
  · show ((weekM _ _ _ _ _ _ : Nat) : Int) = f
    rw [hff, hwk]
theorem true_sky (n : Int) : skyOf (if n = 1 then ht else dt) ∈ allSkies s n := by
  have key : ∀ (ts : List Int) (rs : List Rg), NearL ts rs → ts.length ≤ 6 → (∀ t ∈ ts, -50 ≤ t ∧ t ≤ 100) → skyOf ts ∈ skiesM rs 0 sky0 := by
    intro ts rs N h6 hb
    have hl := N.len
    refine mem_skies rs 0 sky0 (by omega) (fun i r hr => ?_) (fun i hi hc => ?_)
    · have hi := (List.getElem?_eq_some_iff.1 hr).1
      have hi2 : i < ts.length := by omega
      have ht : ts[i]? = some ts[i] := List.getElem?_eq_getElem hi2
      have := N.at' i _ r ht hr
      have hb' := hb ts[i] (List.getElem_mem _)
      have := this.bd hb'.1 hb'.2
      rw [Nat.zero_add, skyOf_at _ _ (by omega), List.getD_eq_getElem?_getD, ht]
      simp only [Option.getD_some]
      omega
    · rw [skyOf_at _ _ hi, List.getD_eq_getElem?_getD, List.getElem?_eq_none (by omega)]
      match i, hi with
      | 0, _ => rfl
      | 1, _ => rfl
      | 2, _ => rfl
      | 3, _ => rfl
      | 4, _ => rfl
      | 5, _ => rfl
      | i + 6, h => omega
  have h1 := T.ww
  have h2 := T.dl
  unfold allSkies weatherM
  split
  · exact key ht s.heats T.hn (by omega) fun t h => by have := T.hb t h; omega
  · exact key dt s.damps T.dn (by omega) fun t h => by have := T.db t h; omega
theorem true_ok {n : Int} (hn : n = 1 ∨ n = 2) : okM s n (skyOf (if n = 1 then ht else dt)) = true := by
  rw [okM_iff]
  intro i j hj hk e
  have hl := (List.getElem?_eq_some_iff.1 hj).1
  have hl' : i < fs.length := by rw [T.js.len]; exact hl
  obtain ⟨y, hy, _⟩ := true_surv T hw hn hj hk (List.getElem?_eq_getElem hl')
  rw [e] at hy
  cases hy
theorem may_T : mayM s = true := mayM_iff.2 ⟨⟨_, mem_skM.2 ⟨true_sky T hw 1, true_ok T hw (.inl rfl)⟩⟩, ⟨_, mem_skM.2 ⟨true_sky T hw 2, true_ok T hw (.inr rfl)⟩⟩⟩
theorem kind_T {i : Nat} {j : Joint} (hj : s.joints[i]? = some j) : j.kind = 1 ∨ j.kind = 2 := by
  have hl := (List.getElem?_eq_some_iff.1 hj).1
  have hl' : i < fs.length := by rw [T.js.len]; exact hl
  obtain ⟨_, _, _, _, J⟩ := T.js.at' i j _ hj (List.getElem?_eq_getElem hl')
  rcases J.k with h | h
  · exact .inl h.1
  · exact .inr h.1
/-- The week in which a joint truly failed is among those in which it can. -/
theorem true_fails {i : Nat} (hi : i < s.joints.length) : ∃ f : Nat, fs[i]? = some (f : Int) ∧ f ≤ s.heats.length ∧ (failsM s i).testBit f = true := by
  have hj : s.joints[i]? = some s.joints[i] := List.getElem?_eq_getElem hi
  have hl' : i < fs.length := by rw [T.js.len]; exact hi
  have hf : fs[i]? = some fs[i] := List.getElem?_eq_getElem hl'
  have hk := kind_T T hw hj
  obtain ⟨y, hy, e⟩ := true_surv T hw hk hj rfl hf
  refine ⟨y.week, by rw [hf, e], surv_week hy, ?_⟩
  unfold failsM
  rw [maskM_bit]
  have ek : kindAt s i = s.joints[i].kind := by unfold kindAt; rw [hj]; rfl
  refine ⟨y, mem_flsM.2 ⟨skyOf (if s.joints[i].kind = 1 then ht else dt), ?_, ?_, ?_⟩, rfl⟩
  · rw [ek]; exact true_sky T hw _
  · rw [ek]; exact true_ok T hw hk
  · rw [ek]; exact hy
theorem fails_ne {i : Nat} (hi : i < s.joints.length) : failsM s i ≠ 0 := by
  obtain ⟨f, _, _, h⟩ := true_fails T hw hi
  intro e
  rw [e] at h
  simp at h
end
end Go.Wx
/- The own logic, part U: from a walk to the row of a law. Conditions: none. -/
namespace Go.HL
open Go Go.Wx Go.RowKit
/-- What is asked at the end of a law. -/
def lawK (t : Nat) (h0 : AH) : Post
  | .normal, S, D, L, h => D = [] ∧ (Valid h L → Ext h0 (wl h L)) ∧ S t = .bool true
  | .ret, S, D, L, h => D = [] ∧ (Valid h L → Ext h0 (wl h L)) ∧ S t = .bool true
  | _, _, _, _, _ => False
theorem below_of {w w' : World} (se : SameEnv w w') (e : Ext (absH w.heap) (absH w'.heap)) : Below w.heap.size w w' := by
  have hb : ∀ k, k < w.heap.size → w'.heap[k]? = w.heap[k]? := by
    intro k hk
    have h1 : absH w.heap k = some w.heap[k] := Array.getElem?_eq_getElem hk
    have h2 : w'.heap[k]? = some w.heap[k] := e k _ h1
    rw [h2]
    exact (Array.getElem?_eq_getElem hk).symm
  refine ⟨se.os, se.tape, se.output, ?_, hb⟩
  rcases Nat.lt_or_ge w'.heap.size w.heap.size with h1 | h1
  · have h2 := hb w'.heap.size h1
    rw [Array.getElem?_eq_getElem h1] at h2
    simp at h2
  · exact h1
variable [Lvl]
/-- A slice of ints that came in. -/
theorem row_of {w : World} {a : Option Addr} {len cap : Nat} {zs : List Int} (h : (a = none ∧ len = 0 ∧ cap = 0 ∧ zs = []) ∨
    ∃ x, a = some x ∧ len ≤ cap ∧ cap ≤ maxLen ∧ zs.length = cap ∧ (∀ i, i < zs.length → w.cell? (x.add i) = some (.int .i64 (zs.getD i 0))) ∧ ∀ n ∈ zs, (Lit.int .i64 n).wf = true) :
    ∃ l : List Int, l.length = len ∧ Row (absH w.heap) 1 intC a l ∧ len ≤ maxLen ∧ ∀ n ∈ l, (Lit.int .i64 n).wf = true := by
  rcases h with ⟨rfl, rfl, rfl, rfl⟩ | ⟨x, rfl, hl, hm, hz, hc, hw⟩
  · exact ⟨[], rfl, ⟨fun _ h => (by cases h), Rd.nil _ _⟩, Nat.zero_le _, fun _ h => (by cases h)⟩
  · refine ⟨zs.take len, by rw [List.length_take]; omega, ⟨fun _ _ => rfl, ?_⟩, by omega, fun n hn => hw n (List.mem_of_mem_take hn)⟩
    have hflat : ∀ l : List Int, l.flatMap intC = l.map (Value.int .i64) := by
      intro l
      induction l with
      | nil => rfl
      | cons a l ih => simp [List.flatMap_cons, ih, intC]
    rw [hflat]
    intro hne
    have hpos : 0 < zs.length := by
      rcases Nat.eq_zero_or_pos zs.length with h0 | h0
      · rw [List.eq_nil_of_length_eq_zero h0] at hne; simp at hne
      · exact h0
    obtain ⟨g, off, sp⟩ := x
    have h0 := hc 0 hpos
    have hsp : sp = none := by
      cases sp with
      | none => rfl
      | some s =>
        exfalso
        have : w.cell? ((⟨g, off, some s⟩ : Addr).add 0) = none := by
          simp only [Addr.add]
          rw [cell_abs]
          unfold cellA
          split <;> simp
        rw [this] at h0
        cases h0
    subst hsp
    refine ⟨g, off, rfl, fun j u hu => ?_⟩
    have hj : j < zs.length := by
      have := (List.getElem?_eq_some_iff.1 hu).1
      rw [List.length_map, List.length_take] at this
      omega
    have h1 := hc j hj
    rw [cell_abs, add_none] at h1
    rw [h1]
    rw [List.getElem?_map, List.getElem?_take] at hu
    split at hu
    · rw [List.getElem?_eq_getElem hj] at hu
      simp only [Option.map_some, Option.some.injEq] at hu
      rw [← hu]
      simp [List.getD_eq_getElem?_getD, hj]
    · cases hu
end Go.HL
/- The own logic, part CC: guarded operations that turn memory, amid drawn regions. Conditions: none. -/
namespace Go.HL
open Go
variable [Lvl]
variable {P : Program} {n : Nat} {ops : Array Oper} {i : Nat} {d : Option Tmp} {op : Op} {ty : TypeId} {ps : String} {af : Array Edge} {S : Sl} {L : Pv} {h : AH} {mask : List Bool} {X : Sl → AH → Prop} {dn ac : List Nat}
end Go.HL
/- Walks: the law that goes week by week. Conditions: as each theorem states. -/
namespace Go.Proofs.Ytledjpdpkbifgaa
open Go Go.HL Go.Proofs Go.Wx Go.RowKit
variable [Lvl]
set_option maxRecDepth 100000
theorem SeasonT.small {a b c : Nat} {s : Season} {ht dt fs : List Int} (T : SeasonT a b c s ht dt fs) (ha : a ≤ 6) (hb : b ≤ 3) (hc : c ≤ 100) : Small s := by
  have := T.hn.len; have := T.dn.len; have := T.dl; have := T.ww; have := T.jl; have := T.rl
  exact ⟨by omega, by omega, by omega, by omega⟩
section
variable {a b c : Nat} {s : Season} {ht dt fs : List Int} (T : SeasonT a b c s ht dt fs) (ha : a ≤ 6) (hb : b ≤ 3) (hc : c ≤ 5)
include T ha hb hc
end
end Go.Proofs.Ytledjpdpkbifgaa
/- Plain: seasons without an error, and without reports; how much warmer it may be. Conditions: as each theorem states. -/
namespace Go.Wx
open Go Go.HL
variable [Lvl]
structure CheckS (s : Season) : Prop where
  w1 : 1 ≤ s.heats.length
  w6 : s.heats.length ≤ 6
  dl : s.damps.length = s.heats.length
  h : ∀ r ∈ s.heats, checkWeatherM r = 0
  d : ∀ r ∈ s.damps, checkWeatherM r = 0
  j3 : s.joints.length ≤ 3
  j : ∀ j ∈ s.joints, checkJointM j = 0
  r5 : s.reports.length ≤ 5
  r : ∀ r ∈ s.reports, checkSeenM s r = 0
theorem CheckS.ok {s : Season} (c : CheckS s) : checkM s = 0 := by
  have h1 := c.w1; have h2 := c.w6; have h3 := c.dl; have h4 := c.j3; have h5 := c.r5
  unfold checkM
  rw [if_neg (by omega), if_neg (by omega), if_neg (by omega), if_neg (by omega), firstErr_all (fun x hx => (List.mem_append.1 hx).elim (c.h x) (c.d x)), if_neg (by simp), if_neg (by omega), firstErr_all c.j, if_neg (by simp), if_neg (by omega), firstErr_all c.r]
theorem CheckS.of {s : Season} (h : checkM s = 0) : CheckS s := by
  have V := checkM_zero h
  unfold checkM at h
  split at h
  · cases h
  · split at h
    · cases h
    · split at h
      · cases h
      · split at h
        · cases h
        · split at h
          · rename_i h1; exact absurd h h1
          · rename_i h1
            split at h
            · cases h
            · split at h
              · rename_i h2; exact absurd h h2
              · rename_i h2
                split at h
                · cases h
                · have w := firstErr_zero (by simpa using h1)
                  exact ⟨by omega, by omega, by omega, fun r hr => w r (List.mem_append_left _ hr), fun r hr => w r (List.mem_append_right _ hr), by omega, firstErr_zero (by simpa using h2), by omega, firstErr_zero h⟩
theorem known_of {s : Season} (c : CheckS s) (m : mayM s = true) {es : List Int} (he : ∀ e ∈ es, e = 0) : knownM s es = 0 := by
  unfold knownM
  rw [c.ok, if_neg (by simp), firstErr_all (f := id) he, if_neg (by simp), m]
  rfl
section
variable {α : Type} {f : α → α} {l : List α}
end
end Go.Wx
/- Walks: a season copied, and a warmer one (the reference). Conditions: as each theorem states. -/
namespace Go.Proofs.Ytledjpdpkbifgaa
open Go Go.HL Go.Proofs Go.Wx
variable [Lvl]
set_option maxRecDepth 100000
end Go.Proofs.Ytledjpdpkbifgaa
