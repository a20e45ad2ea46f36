/- An own logic over the model, its walks and its plain laws, joined of parts HF Pa Pb P1 P2 P3 Pc P4 Q1 Q2 Pd Pe. Conditions: as each theorem states. -/
import Derived.Test.YtboigjfgpppeaaaGreatDoorLa4
import Derived.Test.YtboigjfgpppeaaaGreatDoorLa5
import Derived.Test.YtboigjfgpppeaaaGreatDoorLa3
set_option linter.all false
namespace Go.HL
open Go Go.Wx Go.Rd
set_option linter.all false
variable [Lvl]
def FnEM (P : Program) (y : Value) (args : List Value) (h : AH) (M : Pv) (R Q : Value → AH → Pv → Prop) : Prop :=
 Valid h M → CallV P y args (wl h M) (fun v H => ∃ h' M', H = wl h' M' ∧ Valid h' M' ∧ Ext h h' ∧ R v h' M') (fun v H => ∃ h' M', H = wl h' M' ∧ Valid h' M' ∧ Ext h h' ∧ Q v h' M')
section
variable {P : Program} {n : Nat} {ops : Array Oper} {d : Option Tmp} {op : Op} {ty : TypeId} {ps : String} {af : Array Edge} {os : List Oper} {K : Sl → Pv → AH → Prop} {E : Value → Sl → Pv → AH → Prop} {S : Sl} {L : Pv} {h : AH}
theorem op_fnEM (pre M : Pv) {x : Operand} {xs : List Operand} {ats : Array TypeId} {y : Value} {vs : List Value} {R Q : Value → AH → Pv → Prop} (hf : ev n S x = y) (hx : xs.map (ev n S) = vs) (hL : L = pre ++ M) (c : FnEM P y vs h M R Q)
  (e : ∀ v h' M', Ext h h' → Q v h' M' → E v S (pre ++ M') h') (k : ∀ v h' M', Ext h h' → R v h' M' → wpL P n ops os K E (put S d v) (pre ++ M') h') : wpL P n ops (⟨d, .call ⟨.value x, xs.toArray, ats⟩, ty, ps, af, none⟩ :: os) K E S L h := by
 subst hL
 refine yJ fun V => ?_
 unfold opW
 rw [exec_callV hf hx]
 obtain ⟨e1, d1, VM⟩ := wl_app V
 rw [e1]
 have ndp : ((cl pre).map (·.1)).Nodup := by
  have := V.nd
  rw [vN, List.map_append, List.nodup_append] at this
  exact this.1
 refine CallV.mono (CallV.frame (c VM) (fin_wl VM) d1) ?_ ?_
 ·rintro v H2 ⟨H1, rfl, d2, f2, h', M', rfl, V', E', r⟩
  obtain ⟨e2, V2⟩ := wl_join ndp V' d2
  exact ⟨pre ++ M', h', e2, V2, k v h' M' E' r⟩
 rintro v H2 ⟨H1, rfl, d2, f2, h', M', rfl, V', E', r⟩
 obtain ⟨e2, V2⟩ := wl_join ndp V' d2
 exact ⟨pre ++ M', h', e2, V2, e v h' M' E' r⟩
theorem op_fnEMM (pre M post : Pv) {x : Operand} {xs : List Operand} {ats : Array TypeId} {y : Value} {vs : List Value} {R Q : Value → AH → Pv → Prop} (hf : ev n S x = y) (hx : xs.map (ev n S) = vs) (hL : L = pre ++ M ++ post) (c : FnEM P y vs h M R Q)
  (e : ∀ v h' M', Ext h h' → Q v h' M' → E v S (pre ++ M' ++ post) h') (k : ∀ v h' M', Ext h h' → R v h' M' → wpL P n ops os K E (put S d v) (pre ++ M' ++ post) h') : wpL P n ops (⟨d, .call ⟨.value x, xs.toArray, ats⟩, ty, ps, af, none⟩ :: os) K E S L h := by
 subst hL
 refine yJ fun V => ?_
 obtain ⟨e0, V'⟩ := wl_perm (mid_perm pre M post) V
 have w : wpL P n ops [⟨d, .call ⟨.value x, xs.toArray, ats⟩, ty, ps, af, none⟩] (fun S' L' h' => ∃ M', L' = pre ++ post ++ M' ∧ wpL P n ops os K E S' (pre ++ M' ++ post) h') (fun v S' L' h' => ∃ M', L' = pre ++ post ++ M' ∧ E v S' (pre ++ M' ++ post) h') S (pre ++ post ++ M) h :=
  op_fnEM (pre ++ post) M hf hx rfl c (fun v h' M' E' q => ⟨M', rfl, e v h' M' E' q⟩) fun v h' M' E' r => ⟨M', rfl, k v h' M' E' r⟩
 have w' := w V'
 rw [e0]
 refine yO ?_ ?_ w'
 ·rintro v H ⟨L', h', rfl, V1, M', rfl, w2⟩
  obtain ⟨e1, V2⟩ := wl_perm (mid_perm pre M' post).symm V1
  exact ⟨_, h', e1, V2, w2⟩
 rintro v H ⟨L', h', rfl, V1, M', rfl, w2⟩
 obtain ⟨e1, V2⟩ := wl_perm (mid_perm pre M' post).symm V1
 exact ⟨_, h', e1, V2, w2⟩
end
theorem fnEM_body {P : Program} {f : FuncId} {fn : Func} {c : Code} {args caps vs : List Value} {h : AH} {M : Pv} {n : Nat} {R Q : Value → AH → Pv → Prop} (hca : callable P f = true) (hvs : args ++ caps = vs) (hf : P.funcs[f]? = some fn) (hb : fn.body = some c) (hn : fn.ntmps = n) (ha : Nat.ble vs.length n = true)
  (w : xp P n none c (retK P n fn (fun v H => ∃ h' M', H = wl h' M' ∧ Valid h' M' ∧ Ext h h' ∧ R v h' M') (fun v H => ∃ h' M', H = wl h' M' ∧ Valid h' M' ∧ Ext h h' ∧ Q v h' M')) (argS vs.toArray) [] M h) : FnEM P (.func (.func f) #[] caps.toArray) args h M R Q := by
 intro V
 refine callV_fn hca ?_
 rw [hvs]
 refine qW hf hb hn (by simpa using ha) ?_
 exact goes_turn (fun _ => ⟨wl_nil _, V⟩) w
theorem opW_finE {P : Program} {n : Nat} {o : Oper} {S : Sl} {H : AH} {K E : Value → AH → Prop} (w : opW P n o S H K E) (f : Fin H) : opW P n o S H (fun v H' => Fin H' ∧ K v H') (fun v H' => Fin H' ∧ E v H') := by
 unfold opW at w ⊢
 refine vU ?_ (fun _ _ y => y) (dem_fin f w)
 rintro x H' ⟨f', u⟩
 cases x with
 | value v => exact ⟨f', u⟩
 | skip => exact ⟨f', u⟩
 | enter g args => exact EnterT.fin u
 | round l g tmps a c => exact EnterT.fin u
 | _ => exact u.elim
section drawE
variable (P : Program) (n : Nat) (ops : Array Oper) (Ex : Value → AH → Prop)
def T1E (o : Oper) (X : Sl → AH → Prop) (S : Sl) (H : AH) : Prop :=
 match o.guard with
 | none => opW P n o S H (fun v H' => X (put S o.dst v) H') Ex
 | some (j, w) => ∃ t, gval (ev n S (.tmp (((ops[j]?).bind (·.dst)).getD n))) = t ∧ (t = some w → opW P n o S H (fun v H' => X (put S o.dst v) H') Ex) ∧ (t ≠ some w → X (put S o.dst undef) H)
def WAE : Nat → List Nat → (Sl → AH → Prop) → Sl → AH → Prop
 | 0, _, X, S, H => X S H
 | m + 1, dn, X, S, H => ∀ i o, ops[i]? = some o → ready ops dn i = true → T1E P n ops Ex o (WAE m (i :: dn) X) S H
def TLE : List Nat → (Sl → AH → Prop) → Sl → AH → Prop
 | [], X, S, H => X S H
 | i :: r, X, S, H => ∃ o, ops[i]? = some o ∧ T1E P n ops Ex o (TLE r X) S H
end drawE
section
variable {P : Program} {n : Nat} {ops : Array Oper} {ro : Option Nat} {K : Post} {S : Sl} {D : Df} {L : Pv} {h : AH}
theorem T1E_mono {Ex : Value → AH → Prop} {o : Oper} {X Y : Sl → AH → Prop} {S : Sl} {H : AH} (hxy : ∀ S H, X S H → Y S H) (t : T1E P n ops Ex o X S H) : T1E P n ops Ex o Y S H := by
 unfold T1E at t ⊢
 split at t
 ·exact yO (fun v H' x => hxy _ _ x) (fun _ _ y => y) t
 obtain ⟨b, h1, h2, h3⟩ := t
 exact ⟨b, h1, fun e => yO (fun v H' x => hxy _ _ x) (fun _ _ y => y) (h2 e), fun e => hxy _ _ (h3 e)⟩
theorem TLE_goes {X : Sl → AH → Prop} (hcalm : ∀ (i : Nat) (o : Oper), ops[i]? = some o → Op.calm o.op) {Ex : Value → AH → Prop} (hX : ∀ S H, ¬ X S H) (hE : ∀ S v H, Fin H → Ex v H → ∃ L' h', H = wl h' L' ∧ Valid h' L' ∧ K (.panic v) S D L' h') :
  ∀ (l : List Nat) (S : Sl) (H : AH), Fin H → TLE P n ops Ex l X S H → Goes P n ro [.inRegion ops l] K S D [] H
 | [], S, H, f, w => (hX S H w).elim
 | i :: r, S, H, f, ⟨o, ho, w⟩ => by
  have ih := TLE_goes hcalm hX hE r
  have op : ∀ (w : opW P n o S H (fun v H' => TLE P n ops Ex r X (put S o.dst v) H') Ex), opL P n o S [] H (fun v L' h' => Goes P n ro [.inRegion ops r] K (put S o.dst v) D L' h') (fun v L' h' => K (.panic v) S D L' h') := by
   intro w V
   refine yO ?_ (fun v H' y => hE S v H' y.1 y.2) (opW_finE w f)
   rintro v H' ⟨f', t⟩
   exact ⟨[], H', rfl, kM f', ih _ _ f' t⟩
  unfold T1E at w
  cases hg : o.guard with
  | none =>
   rw [hg] at w
   exact goes_op ho (hcalm i o ho) (by simp [Region.wanted, hg]) (op w)
  | some jw =>
   obtain ⟨j, want⟩ := jw
   rw [hg] at w
   obtain ⟨t, he, w1, w2⟩ := w
   by_cases ht : t = some want
   ·exact goes_op ho (hcalm i o ho) (by simp [Region.wanted, hg, vP he, ht]) (op (w1 ht))
   exact goes_pass ho (by simp [Region.wanted, hg, vP he, ht]) (ih _ _ f (w2 ht))
theorem lin_goE (hb : backB ops = true) {X : Sl → AH → Prop} {Ex : Value → AH → Prop} : ∀ (m t : Nat) (listed : Array Bool) (dn acc : List Nat), listed.size = ops.size → (∀ k, listed.getD k false = el k dn) → (left ops dn).length = m →
  ∃ l, Region.linearise.go .any ops m t listed acc = acc.reverse ++ l ∧ ∀ S H, WAE P n ops Ex m dn X S H → TLE P n ops Ex l X S H
 | 0, t, listed, dn, acc, _, _, _ => ⟨[], by simp [Region.linearise.go], fun S H w => w⟩
 | m + 1, t, listed, dn, acc, hs, hd, hl => by
  unfold Region.linearise.go
  simp only
  have hrs : ((List.range ops.size).filter fun i => !listed.getD i true && ((ops[i]?).map (·.after.all fun e => !Region.binds .any e || listed.getD e.on false)).getD false) = (List.range ops.size).filter fun i => ready ops dn i := by
   apply List.filter_congr
   intro i hi
   have hlt : i < ops.size := by simpa using hi
   have ho : ops[i]? = some ops[i] := Array.getElem?_eq_getElem hlt
   have h1 : listed.getD i true = el i dn := by rw [← hd i]; simp [Array.getD, hs, hlt]
   unfold ready
   rw [ho, h1]
   simp only [Option.map_some, Option.getD_some]
   congr 1
   rw [← Array.all_toList]
   congr 1
   funext e
   rw [hd]
  rw [hrs]
  generalize hR : (List.range ops.size).filter (fun i => ready ops dn i) = rs
  obtain ⟨i0, hi0⟩ := some_ready hb hl
  have hpos : 0 < rs.length := by
   rw [← hR]
   refine List.length_pos_of_mem (a:=i0) ?_
   rw [List.mem_filter]
   exact ⟨by simpa using (yN hi0).1, hi0⟩
  have hlt : t % rs.length < rs.length := Nat.mod_lt _ hpos
  rw [List.getElem?_eq_getElem hlt]
  simp only
  generalize hi : rs[t % rs.length] = i
  have hr : ready ops dn i = true := by
   have : i ∈ rs := hi ▸ List.getElem_mem hlt
   rw [← hR, List.mem_filter] at this
   exact this.2
  obtain ⟨hil, hid⟩ := yN hr
  obtain ⟨l, e, w⟩ := lin_goE hb (Ex:=Ex) (X:=X) m (t / rs.length) (listed.setIfInBounds i true) (i :: dn) (i :: acc) (by simp [hs]) (fun k => by
   rw [zX]
   by_cases hk : k = i
   ·subst hk; simp [Array.getD, hs, hil]
   have h1 : (k == i) = false := by simpa using hk
   rw [h1, Bool.false_or, ← hd k]
   simp only [Array.getD_eq_getD_getElem?, Array.getElem?_setIfInBounds]
   rw [if_neg (fun e => hk e.symm)]) (vZ hil hid hl)
  refine ⟨i :: l, by rw [e]; simp, fun S H ww => ?_⟩
  have ho : ops[i]? = some ops[i] := Array.getElem?_eq_getElem hil
  exact ⟨ops[i], ho, T1E_mono (fun S H w' => w S H w') (ww i ops[i] ho hr)⟩
theorem xp_drawE {id : Nat} {l : List Oper} (hmx : P.follows .mixedOrders = true) (hc : calmB l = true) (hb : backB l.toArray = true)
  {X : Sl → AH → Prop} {Ex : Value → AH → Prop} (hX : ∀ S H, ¬ X S H) (hE : ∀ S v H, Fin H → Ex v H → ∃ L' h', H = wl h' L' ∧ Valid h' L' ∧ K (.panic v) S D L' h')
  (w : Valid h L → WAE P n l.toArray Ex l.length [] X S (wl h L)) : xp P n ro (.region id l.toArray true) K S D L h := by
 intro H0 V0 b hb0 k cs
 have V := V0.valid
 refine .sem (choose (.order b.fn id)) (fun _ => True) (fun _ => False) (fun t => (mk b n S D (.inRegion l.toArray (Region.schedule (P.follows .mixedOrders) l.toArray t) :: k), cs)) (fun _ => (b, cs)) (fun _ H' => H' = H0) (fun _ _ => False) ?_ ?_ (fun _ _ _ => trivial) (fun _ _ y => y) ?_ (fun _ _ y => y.elim)
 ·intro main ww
  refine ⟨fun t w' e _ => ?_, fun v w' e y => y.elim⟩
  show GStep.tells _ _ _ (stepG P main (G (mk b n S D ([.code (.region id l.toArray true)] ++ k)) cs) ww)
  simp only [stepG, stepG.exec, mk, List.cons_append, List.nil_append, e]
  exact ⟨rfl, rfl, fun _ he => absurd he (by simp)⟩
 ·show dem P (.choose (.order b.fn id) .pure) H0 _ _
  unfold dem
  exact fun t => rfl
 rintro t H' rfl
 have hlen : (left l.toArray []).length = l.length := by
  have : left l.toArray [] = List.range l.length := by unfold left; rw [List.size_toArray]; exact List.filter_eq_self.2 (fun _ _ => rfl)
  rw [this, List.length_range]
 obtain ⟨lst, e, tl⟩ := lin_goE (P:=P) (n:=n) hb (X:=X) (Ex:=Ex) l.length t (Array.replicate l.toArray.size false) [] [] (by simp) (fun k => by simp [el, Array.getD_eq_getD_getElem?, Array.getElem?_replicate]; split <;> rfl) hlen
 have hsch : Region.schedule (P.follows .mixedOrders) l.toArray t = lst := by
  unfold Region.schedule
  rw [hmx]
  simp only [Bool.true_or, if_true]
  unfold Region.linearise
  rw [List.size_toArray]
  have e' := e
  rw [List.size_toArray] at e'
  rw [e']; rfl
 simp only [hsch]
 have hcalm : ∀ (i : Nat) (o : Oper), l.toArray[i]? = some o → Op.calm o.op := fun i o ho => calm_of l hc o (by rw [List.getElem?_toArray] at ho; exact List.mem_of_getElem? ho)
 have g := TLE_goes (ro:=ro) (K:=K) (D:=D) hcalm (X:=X) (Ex:=Ex) hX hE lst S (wl h L) (fin_wl V) (tl S (wl h L) (w V))
 exact g H' (V0.turn (wl_nil _).symm (kM (fin_wl V))) b hb0 k cs
def needB (o : Oper) (k : Nat) : Bool := o.after.toList.any fun e => Region.binds .any e && (e.on == k)
def stopB (ops : Array Oper) (ml : List Nat) (i0 : Nat) : Bool := (List.range ops.size).all fun j => el j ml || j == i0 || (match ops[j]? with | some o => o.after.toList.any fun e => Region.binds .any e && !(el e.on ml) | none => false)
def ownB (ops : Array Oper) (lo : Nat) : Bool := (List.range ops.size).all fun j => match (ops[j]?).bind (·.dst) with | some t => Nat.ble lo t && ((List.range ops.size).all fun k => j == k || (match (ops[k]?).bind (·.dst) with | some u => u != t | none => true)) | none => true
theorem ownB_at {lo j t : Nat} (hb : ownB ops lo = true) (ht : (ops[j]?).bind (·.dst) = some t) : lo ≤ t ∧ ∀ k u, (ops[k]?).bind (·.dst) = some u → k ≠ j → u ≠ t := by
 have hlt : ∀ {k u}, (ops[k]?).bind (·.dst) = some u → k < ops.size := by
  intro k u hk
  cases ho : ops[k]? with
  | none => rw [ho] at hk; cases hk
  | some o => exact (Array.getElem?_eq_some_iff.1 ho).1
 have h1 := List.all_eq_true.1 hb j (by simpa using hlt ht)
 rw [ht] at h1
 simp only [Bool.and_eq_true] at h1
 refine ⟨Nat.le_of_ble_eq_true h1.1, fun k u hk hkj => ?_⟩
 have h2 := List.all_eq_true.1 h1.2 k (by simpa using hlt hk)
 rw [hk] at h2
 simp only [Bool.or_eq_true, beq_iff_eq, bne_iff_ne] at h2
 rcases h2 with h2 | h2
 ·exact absurd h2.symm hkj
 exact h2
theorem wae_panic {Ex : Value → AH → Prop} {X : Sl → AH → Prop} (val : Nat → Value) (ml : List Nat) (i0 lo : Nat) (S0 : Sl) (I : AH → Prop) (hst : stopB ops ml i0 = true) (how : ownB ops lo = true) (hi0 : el i0 ml = false) (hlt : Nat.blt i0 ops.size = true)
  (hml : ∀ j, el j ml = true → ∃ o, ops[j]? = some o ∧ ∀ S H, (∀ t, t < lo → S t = S0 t) → (∀ k t, needB o k = true → (ops[k]?).bind (·.dst) = some t → S t = val k) → Fin H → I H → T1E P n ops Ex o (fun S' H' => S' = put S o.dst (val j) ∧ Fin H' ∧ I H') S H)
  (h0 : ∃ o, ops[i0]? = some o ∧ ∀ S H, (∀ t, t < lo → S t = S0 t) → (∀ k t, needB o k = true → (ops[k]?).bind (·.dst) = some t → S t = val k) → Fin H → I H → T1E P n ops Ex o (fun _ _ => False) S H) :
  ∀ (m : Nat) (dn : List Nat) (S : Sl) (H : AH), (left ops dn).length = m → (∀ k, el k dn = true → el k ml = true) → (∀ t, t < lo → S t = S0 t) → (∀ k t, el k dn = true → (ops[k]?).bind (·.dst) = some t → S t = val k) → Fin H → I H → WAE P n ops Ex m dn X S H
 | 0, dn, S, H, hl, hd, _, _, _, _ => by
  exfalso
  have h1 : i0 ∈ left ops dn := by
   unfold left
   rw [List.mem_filter]
   refine ⟨by have := Nat.le_of_ble_eq_true hlt; simp; omega, ?_⟩
   cases hc : el i0 dn with
   | false => rfl
   | true => have := hd i0 hc; rw [hi0] at this; cases this
  rw [List.eq_nil_of_length_eq_zero hl] at h1
  cases h1
 | m + 1, dn, S, H, hl, hd, hS, hV, hF, hE => by
  intro j o ho hr
  obtain ⟨hj, hdj⟩ := yN hr
  have hneed : ∀ k t, needB o k = true → (ops[k]?).bind (·.dst) = some t → S t = val k := by
   intro k t hk ht
   refine hV k t ?_ ht
   obtain ⟨e, he, hb⟩ := List.any_eq_true.1 hk
   simp only [Bool.and_eq_true, beq_iff_eq] at hb
   unfold ready at hr
   rw [ho] at hr
   simp only [Bool.and_eq_true] at hr
   have := List.all_eq_true.1 hr.2 e he
   rw [hb.1, hb.2] at this
   simpa using this
  by_cases hm : el j ml = true
  ·obtain ⟨o', ho', w⟩ := hml j hm
   rw [ho] at ho'
   obtain rfl := Option.some.inj ho'
   refine T1E_mono ?_ (w S H hS hneed hF hE)
   rintro S' H' ⟨rfl, hF', hE'⟩
   refine wae_panic val ml i0 lo S0 I hst how hi0 hlt hml h0 m (j :: dn) _ _ (vZ hj hdj hl) ?_ ?_ ?_ hF' hE'
   ·intro k hk
    simp only [zX, Bool.or_eq_true, beq_iff_eq] at hk
    rcases hk with rfl | hk
    ·exact hm
    exact hd k hk
   ·intro t ht
    rw [← hS t ht]
    cases hdst : o.dst with
    | none => rfl
    | some u =>
     have := (ownB_at how (j:=j) (t:=u) (by rw [ho]; exact hdst)).1
     simp only [put, upd]
     rw [if_neg (by omega)]
   intro k t hk ht
   by_cases hkj : k = j
   ·subst hkj
    rw [ho] at ht
    have ht' : o.dst = some t := ht
    rw [ht']
    simp [put, upd]
   have hkd : el k dn = true := by
    simp only [zX, Bool.or_eq_true, beq_iff_eq] at hk
    exact hk.resolve_left hkj
   rw [← hV k t hkd ht]
   cases hdst : o.dst with
   | none => rfl
   | some u =>
    have := (ownB_at how (j:=j) (t:=u) (by rw [ho]; exact hdst)).2 k t ht hkj
    simp only [put, upd]
    rw [if_neg this]
  by_cases hj0 : j = i0
  ·subst hj0
   obtain ⟨o', ho', w⟩ := h0
   rw [ho] at ho'
   obtain rfl := Option.some.inj ho'
   exact T1E_mono (fun _ _ y => y.elim) (w S H hS hneed hF hE)
  exfalso
  have h1 := List.all_eq_true.1 hst j (by simpa using hj)
  rw [ho] at h1
  simp only [Bool.or_eq_true, beq_iff_eq] at h1
  rcases h1 with (h1 | h1) | h1
  ·exact hm h1
  ·exact hj0 h1
  obtain ⟨e, he, hb⟩ := List.any_eq_true.1 h1
  simp only [Bool.and_eq_true, Bool.not_eq_true'] at hb
  unfold ready at hr
  rw [ho] at hr
  simp only [Bool.and_eq_true] at hr
  have h2 := List.all_eq_true.1 hr.2 e he
  rw [hb.1] at h2
  simp only [Bool.not_true, Bool.false_or] at h2
  have := hd _ h2
  rw [hb.2] at this
  cases this
theorem xp_panic {id : Nat} {l : List Oper} (hmx : P.follows .mixedOrders = true) (hc : calmB l = true) (hb : backB l.toArray = true) {Ex : Value → AH → Prop} (hE : ∀ S v H, Fin H → Ex v H → ∃ L' h', H = wl h' L' ∧ Valid h' L' ∧ K (.panic v) S D L' h')
  (val : Nat → Value) (ml : List Nat) (i0 lo : Nat) (hst : stopB l.toArray ml i0 = true) (how : ownB l.toArray lo = true) (hi0 : el i0 ml = false) (hlt : Nat.blt i0 l.toArray.size = true)
  (hml : Valid h L → ∀ j, el j ml = true → ∃ o, l.toArray[j]? = some o ∧ ∀ S' H, (∀ t, t < lo → S' t = S t) → (∀ k t, needB o k = true → (l.toArray[k]?).bind (·.dst) = some t → S' t = val k) → Fin H → (∃ h', H = wl h' L ∧ Valid h' L ∧ Ext h h') → T1E P n l.toArray Ex o (fun S2 H' => S2 = put S' o.dst (val j) ∧ Fin H' ∧ ∃ h', H' = wl h' L ∧ Valid h' L ∧ Ext h h') S' H)
  (h0 : Valid h L → ∃ o, l.toArray[i0]? = some o ∧ ∀ S' H, (∀ t, t < lo → S' t = S t) → (∀ k t, needB o k = true → (l.toArray[k]?).bind (·.dst) = some t → S' t = val k) → Fin H → (∃ h', H = wl h' L ∧ Valid h' L ∧ Ext h h') → T1E P n l.toArray Ex o (fun _ _ => False) S' H) :
  xp P n ro (.region id l.toArray true) K S D L h := by
 refine xp_drawE hmx hc hb (X:=fun _ _ => False) (Ex:=Ex) (fun _ _ y => y) hE fun V => ?_
 refine wae_panic val ml i0 lo S (fun H => ∃ h', H = wl h' L ∧ Valid h' L ∧ Ext h h') hst how hi0 hlt (hml V) (h0 V) l.length [] S (wl h L) ?_ (fun k hk => by cases hk) (fun _ _ => rfl) (fun k t hk => by cases hk) (fin_wl V) ⟨h, rfl, V, Ext.refl _⟩
 have : left l.toArray [] = List.range l.length := by unfold left; rw [List.size_toArray]; exact List.filter_eq_self.2 (fun _ _ => rfl)
 rw [this, List.length_range]
theorem pv_nil {d : Option Tmp} {ty : TypeId} {ps : String} {af : Array Edge} {x : Operand} {a : Addr} (hx : ev n S x = .pointer (some a)) : pev P (execOp (ev n S) ⟨d, .nilCheck x, ty, ps, af, none⟩) = some (.value (.pointer (some a))) := by
 simp only [execOp, hx]
 rfl
theorem zR {Ex : Value → AH → Prop} {I : AH → Prop} {o : Oper} {v : Value} {H : AH} (hg : o.guard = none) (hF : Fin H) (hI : I H) (hv : pev P (execOp (ev n S) o) = some (.value v)) : T1E P n ops Ex o (fun S' H' => S' = put S o.dst v ∧ Fin H' ∧ I H') S H := by
 unfold T1E
 rw [hg]
 exact dem_pev hv ⟨rfl, hF, hI⟩
theorem kT {Ex : Value → AH → Prop} {I : AH → Prop} {d : Option Tmp} {t ty : TypeId} {ps : String} {af : Array Edge} {x : Operand} {a : Addr} {v : Value} {H : AH} (hF : Fin H) (hI : I H) (hx : ev n S x = .pointer (some a)) (ha : pev P (isAgg t) = some false) (hc : cellA H a = some v) : T1E P n ops Ex ⟨d, .load t x, ty, ps, af, none⟩ (fun S' H' => S' = put S d v ∧ Fin H' ∧ I H') S H := by
 show opW P n ⟨d, .load t x, ty, ps, af, none⟩ S H _ Ex
 unfold opW
 simp only [execOp, hx, Instr.loadAt, Instr.sureAddr]
 refine wE (wB (a:=a) rfl (wB ha ?_))
 exact ⟨v, hc, rfl, hF, hI⟩
theorem mild_call {Ex : Value → AH → Prop} {d : Option Tmp} {ty : TypeId} {ps : String} {af : Array Edge} {x : Operand} {xs : List Operand} {ats : Array TypeId} {g : FuncId} {caps vs : List Value} {R Q : Value → AH → Prop} {X : Sl → AH → Prop} {h2 : AH} (V : Valid h2 L) (hf : ev n S x = .func (.func g) #[] caps.toArray) (hc : callable P g = true) (hx : xs.map (ev n S) ++ caps = vs) (c : FnE P g vs.toArray h2 R Q)
  (e : ∀ v h', Valid h' L → Ext h2 h' → Q v h' → Ex v (wl h' L)) (k : ∀ v h', Fin (wl h' L) → Valid h' L → Ext h2 h' → R v h' → X (put S d v) (wl h' L)) : T1E P n ops Ex ⟨d, .call ⟨.value x, xs.toArray, ats⟩, ty, ps, af, none⟩ X S (wl h2 L) := by
 show opW P n _ S (wl h2 L) _ Ex
 unfold opW
 rw [exec_call hf hx]
 refine dem_callFunc hc ?_
 refine CallT.mono (CallT.fin (CallT.priv V c)) ?_ ?_
 ·rintro v H' ⟨f', h', rfl, V', E', r⟩; exact k v h' f' V' E' r
 rintro v H' ⟨f', h', rfl, V', E', q⟩; exact e v h' V' E' q
end
section
variable {P : Program} {n m : Nat} {K : Value → AH → Prop} {K' : Post} {S : Sl} {L : Pv} {h : AH}
def Clo0 (P : Program) (m : Nat) (ops0 : Array Oper) (c2 : Code) (t : Tmp) (x : Value) (caps : Array Value) (L : Pv) (h : AH) (Q : Pv → AH → Prop) : Prop :=
 Nat.ble caps.size m = true ∧ Goes P m none ([.inRegion ops0 []] ++ [.code c2]) (fun e _ D L' h' => (e = .normal ∨ e = .ret) ∧ D = [] ∧ Q L' h') (put (argS caps) (some t) x) [] L h
def deferK0 (P : Program) (n : Nat) (fn : Func) (K : Value → AH → Prop) (g : FuncId) (m : Nat) (ops0 : Array Oper) (c2 : Code) (t : Tmp) : Post
 | .normal, S, D, L, h => (D = [] ∧ doneK P n fn K S L h) ∨ ∃ caps, D = [laterF g caps] ∧ Clo0 P m ops0 c2 t .nilIface caps L h (fun L2 h2 => doneK P n fn K S L2 h2)
 | .ret, S, D, L, h => (D = [] ∧ doneK P n fn K S L h) ∨ ∃ caps, D = [laterF g caps] ∧ Clo0 P m ops0 c2 t .nilIface caps L h (fun L2 h2 => doneK P n fn K S L2 h2)
 | .panic v, S, D, L, h => ∃ caps, D = [laterF g caps] ∧ Clo0 P m ops0 c2 t v caps L h (fun L2 h2 => doneK P n fn K S L2 h2)
 | .exit _, _, _, _, _ => False
theorem call_defer0 {f : FuncId} {fn : Func} {c : Code} {args : Array Value} {h : AH} (hf : P.funcs[f]? = some fn) (hb : fn.body = some c) (hn : fn.ntmps = n) (ha : Nat.ble args.size n = true)
  {g : FuncId} {gn : Func} {id0 : Nat} {ops0 : Array Oper} {c2 : Code} {m : Nat} {o0 : Oper} {t : Tmp} {ats : Array TypeId} (hg : P.funcs[g]? = some gn) (hname : (gn.name == "runtime.NumGoroutine") = false) (hgb : gn.body = some (.seq (.region id0 ops0 false) c2)) (hgm : gn.ntmps = m) (hres : gn.results = #[])
  (h0 : ops0[0]? = some o0) (hop : o0.op = .call { callee := .builtin .recover, args := #[], argTypes := ats }) (hd : o0.dst = some t) (hgd : o0.guard = none) (hsz : ops0.size = 1)
  (w : xp P n none c (deferK0 P n fn K g m ops0 c2 t) (argS args) [] [] h) : CallT P f args h K noE := by
 intro hfin c0 cs
 have he : Frame.enter P f args .normal = mk { (default : Frame) with fn := f, kind := .normal, roundOf := none } n (argS args) [] [.code c] := by
  simp [Frame.enter, mk, hf, hb, hn, enter_tmps n args (Nat.le_of_ble_eq_true ha)]
 rw [he]
 have w1 := w h (by have := Fits.nil (kM hfin); rw [wl_nil] at this; exact this) { (default : Frame) with fn := f, kind := .normal, roundOf := none } rfl [] (c0 :: cs)
 obtain ⟨b, hbdef⟩ : ∃ b : Frame, b = { (default : Frame) with fn := f, kind := .normal, roundOf := none } := ⟨_, rfl⟩
 have hbf : b.fn = f := by rw [hbdef]
 have hbk : b.kind = .normal := by rw [hbdef]
 have hbr : b.roundOf = none := by rw [hbdef]
 rw [← hbdef] at w1 ⊢
 -- the way back, when nothing is put off any more
 have back : ∀ (S : Sl) (L : Pv) (h' H : AH) (todo : List Item), Fits h' L [] H → doneK P n fn K S L h' →
   Rch P (fun fr cs' h' => cs' = cs ∧ ((∃ v, fr = c0.finish v ∧ K v h') ∨ (∃ v, fr = c0.raise [{ v := v, recovered := false }] ∧ noE v h'))) { mk b n S [] todo with mode := .returning } (c0 :: cs) H := by
  intro S L h' H todo V kk
  refine ret_run hf c0 cs b hbf hbk S L todo [] h' H V rfl (fun h2 _ e V2 => ?_)
  rw [e rfl] at V2 ⊢
  exact kk V2
 -- the closure is run
 have run : ∀ (S : Sl) (L : Pv) (h' H : AH) (todo : List Item) (caps : Array Value) (x : Value) (md md' : FrameMode), Fits h' L [laterF g caps] H → (md = .returning ∨ ∃ ch, md = .panicking ch) →
   (∀ (b' : Frame) (S' : Sl) (k : List Item) (c1 : Frame) (cs' : List Frame) main w, c1.mode = md → b'.kind = .deferred → b'.roundOf = none → stepG P main (G (mk b' m S' [] (.inRegion ops0 (0 :: []) :: k)) (c1 :: cs')) w = .go (G (mk b' m (put S' o0.dst x) [] (.inRegion ops0 [] :: k)) ({ c1 with mode := md' } :: cs')) w) →
   (md' = .returning ∨ md' = .panicking [{ v := x, recovered := true }]) →
   Clo0 P m ops0 c2 t x caps L h' (fun L2 h2 => doneK P n fn K S L2 h2) →
   Rch P (fun fr cs' h' => cs' = cs ∧ ((∃ v, fr = c0.finish v ∧ K v h') ∨ (∃ v, fr = c0.raise [{ v := v, recovered := false }] ∧ noE v h'))) { mk b n S [laterF g caps] todo with mode := md } (c0 :: cs) H := by
  intro S L h' H todo caps x md md' V hmd hrec hmd' clo
  obtain ⟨hcs, clo⟩ := clo
  have hH : Fits h' L [] H := ⟨V.valid, by rw [mkH_nil]; exact disj_nil _, List.nodup_nil, by rw [V.eq]; rfl⟩
  refine .ctl (fr':=Frame.enter P g caps .deferred) (cs':={ mk b n S [] todo with mode := md } :: c0 :: cs) (fun main w => step_later hg hname hgb hmd) ?_
  have he2 : Frame.enter P g caps .deferred = mk { (default : Frame) with fn := g, kind := .deferred, roundOf := none } m (argS caps) [] [.code (.seq (.region id0 ops0 false) c2)] := by
   simp [Frame.enter, mk, hg, hgb, hgm, enter_tmps m caps (Nat.le_of_ble_eq_true hcs)]
  rw [he2]
  refine .ctl (fr':=mk { (default : Frame) with fn := g, kind := .deferred, roundOf := none } m (argS caps) [] [.code (.region id0 ops0 false), .code c2]) (cs':={ mk b n S [] todo with mode := md } :: c0 :: cs) (fun main w => by simp [stepG, stepG.exec, mk]) ?_
  refine .ctl (fr':=mk { (default : Frame) with fn := g, kind := .deferred, roundOf := none } m (argS caps) [] [.inRegion ops0 (0 :: []), .code c2]) (cs':={ mk b n S [] todo with mode := md } :: c0 :: cs) (fun main w => by simp [stepG, stepG.exec, mk, hsz]) ?_
  refine .ctl (fr':=mk { (default : Frame) with fn := g, kind := .deferred, roundOf := none } m (put (argS caps) (some t) x) [] ([.inRegion ops0 []] ++ [.code c2] ++ [])) (cs':={ mk b n S [] todo with mode := md' } :: c0 :: cs) (fun main w => by rw [← hd]; exact hrec _ _ _ _ _ main w rfl rfl rfl) ?_
  refine (clo H hH _ rfl [] ({ mk b n S [] todo with mode := md' } :: c0 :: cs)).bind ?_
  rintro fr cs' H' ⟨rfl, e, S', D', L', h2, V', ⟨hex, rfl, q⟩, a⟩
  have fin : ∀ todo', Rch P (fun fr cs' h' => cs' = cs ∧ ((∃ v, fr = c0.finish v ∧ K v h') ∨ (∃ v, fr = c0.raise [{ v := v, recovered := false }] ∧ noE v h'))) { mk { (default : Frame) with fn := g, kind := .deferred, roundOf := none } m S' [] todo' with mode := .returning } ({ mk b n S [] todo with mode := md' } :: c0 :: cs) H' := fun todo' => by
   refine .ctl (fr':={ mk b n S [] todo with mode := .returning }) (cs':=c0 :: cs) (fun main w => step_back (c0:={ mk b n S [] todo with mode := md' }) (v:=x) hg hres rfl rfl hmd') (back S L' h2 H' todo V' q)
  rcases hex with rfl | rfl
  ·have a' : fr = mk { (default : Frame) with fn := g, kind := .deferred, roundOf := none } m S' [] [] := a
   subst a'
   exact .ctl (fr':={ mk { (default : Frame) with fn := g, kind := .deferred, roundOf := none } m S' [] [] with mode := .returning }) (cs':={ mk b n S [] todo with mode := md' } :: c0 :: cs) (fun main w => by simp [stepG, stepG.exec, mk]) (fin [])
  obtain ⟨todo', rfl⟩ := a.1 rfl
  exact fin todo'
 have hw0 : ∀ S' : Sl, Region.wanted o0 (yielded ops0 (arr m S')) = true := fun S' => by simp [Region.wanted, hgd]
 have ret : ∀ (S : Sl) (D : Df) (L : Pv) (h' H : AH) (todo : List Item), Fits h' L D H → ((D = [] ∧ doneK P n fn K S L h') ∨ ∃ caps, D = [laterF g caps] ∧ Clo0 P m ops0 c2 t .nilIface caps L h' (fun L2 h2 => doneK P n fn K S L2 h2)) →
   Rch P (fun fr cs' h' => cs' = cs ∧ ((∃ v, fr = c0.finish v ∧ K v h') ∨ (∃ v, fr = c0.raise [{ v := v, recovered := false }] ∧ noE v h'))) { mk b n S D todo with mode := .returning } (c0 :: cs) H := by
  rintro S D L h' H todo V (⟨rfl, kk⟩ | ⟨caps, rfl, clo⟩)
  ·exact back S L h' H todo V kk
  refine run S L h' H todo caps .nilIface .returning .returning V (.inl rfl) ?_ (.inl rfl) clo
  intro b' S' k c1 cs' main w hm hk hr
  have hc1 : c1 = { c1 with mode := .returning } := by cases c1; simp at hm; subst hm; rfl
  rw [← hc1]
  exact step_norec h0 (hw0 S') hop hk hr hm
 refine w1.bind ?_
 rintro fr cs' H ⟨rfl, e, S', D', L', h', V', kk, a⟩
 cases e with
 | normal =>
  have a' : fr = mk b n S' D' [] := a
  subst a'
  exact .ctl (fr':={ mk b n S' D' [] with mode := .returning }) (cs':=c0 :: cs) (fun main w => by simp [stepG, stepG.exec, mk, hbr]) (ret S' D' L' h' H [] V' kk)
 | ret =>
  obtain ⟨todo, rfl⟩ := a.1 (by rw [hbdef])
  exact ret S' D' L' h' H todo V' kk
 | panic v =>
  obtain ⟨todo, rfl⟩ := a
  obtain ⟨caps, rfl, clo⟩ := kk
  refine run S' L' h' H todo caps v (.panicking [{ v := v, recovered := false }]) (.panicking [{ v := v, recovered := true }]) V' (.inr ⟨_, rfl⟩) ?_ (.inr rfl) clo
  intro b' S2 k c1 cs' main w hm hk hr
  exact step_recover h0 (hw0 S2) hop hk hr hm
 | exit id => exact kk.elim
theorem clo_run0 {ops : Array Oper} {c2 : Code} (w : xp P m none c2 K' S [] L h) : Goes P m none ([.inRegion ops []] ++ [.code c2]) K' S [] L h :=
 kW trivial (goes_end w)
end
end Go.HL
namespace Go.Wx
open Go Go.HL Go.Rd
set_option linter.all false
def rgL (x : Rg) : List UInt8 := itoaL x.mn ++ [47] ++ itoaL x.mx
def weekB : List UInt8 := [119, 101, 101, 107]
def waxB : List UInt8 := [119, 97, 120]
def leatherB : List UInt8 := [108, 101, 97, 116, 104, 101, 114]
def seenB : List UInt8 := [115, 101, 101, 110]
def springB : List UInt8 := [115, 112, 114, 105, 110, 103]
def failedB : List UInt8 := [102, 97, 105, 108, 101, 100]
def wholeB : List UInt8 := [119, 104, 111, 108, 101]
def weekL (x : Rg × Rg) : List UInt8 := [119, 101, 101, 107, 32] ++ rgL x.1 ++ [32] ++ rgL x.2 ++ [10]
def kindW (k : Int) : List UInt8 := if k = 2 then [108, 101, 97, 116, 104, 101, 114] else [119, 97, 120]
def jointL (j : Joint) : List UInt8 := kindW j.kind ++ [32] ++ rgL j.high ++ [32] ++ rgL j.low ++ [32] ++ rgL j.weeks ++ [32] ++ rgL j.life ++ [10]
def seenW (b : Bool) : List UInt8 := if b then [102, 97, 105, 108, 101, 100] else [119, 104, 111, 108, 101]
def seenL (r : Seen) : List UInt8 := [115, 101, 101, 110, 32] ++ itoaL r.joint ++ [32] ++ itoaL r.week ++ [32] ++ seenW r.failed ++ [10]
def ws1 (s : Season) : List UInt8 := (s.heats.zip s.damps).flatMap weekL
def ws2 (s : Season) : List UInt8 := ws1 s ++ s.joints.flatMap jointL
def ws3 (s : Season) : List UInt8 := ws2 s ++ s.reports.flatMap seenL
def writeS (s : Season) : List UInt8 := ws3 s ++ [115, 112, 114, 105, 110, 103, 10]
theorem vX (x : Rg) : (rgL x).length ≤ 9 := by
 have h1 := vA (n:=x.mn)
 have h2 := vA (n:=x.mx)
 unfold rgL
 simp only [List.length_append, List.length_cons, List.length_nil]
 omega
theorem kindW_len (k : Int) : (kindW k).length ≤ 7 := by unfold kindW; split <;> decide
theorem seenW_len (b : Bool) : (seenW b).length ≤ 6 := by unfold seenW; split <;> decide
theorem weekL_len (x : Rg × Rg) : (weekL x).length ≤ 25 := by
 have h1 := vX x.1
 have h2 := vX x.2
 unfold weekL
 simp only [List.length_append, List.length_cons, List.length_nil]
 omega
theorem jointL_len (j : Joint) : (jointL j).length ≤ 48 := by
 have h1 := vX j.high
 have h2 := vX j.low
 have h3 := vX j.weeks
 have h4 := vX j.life
 have h5 := kindW_len j.kind
 unfold jointL
 simp only [List.length_append, List.length_cons, List.length_nil]
 omega
theorem seenL_len (r : Seen) : (seenL r).length ≤ 22 := by
 have h1 := vA (n:=r.joint)
 have h2 := vA (n:=r.week)
 have h3 := seenW_len r.failed
 unfold seenL
 simp only [List.length_append, List.length_cons, List.length_nil]
 omega
theorem kG {α : Type} (f : α → List UInt8) (q : Nat) (hq : ∀ x, (f x).length ≤ q) (l : List α) : (l.flatMap f).length ≤ q * l.length := by
 induction l with
 | nil => exact Nat.le_refl 0
 | cons n l ih =>
  have := hq n
  rw [List.flatMap_cons, List.length_append, List.length_cons, Nat.mul_succ]
  omega
theorem writeS_len {s : Season} {a b c : Nat} (h1 : s.heats.length ≤ a) (h2 : s.joints.length ≤ b) (h3 : s.reports.length ≤ c) : (writeS s).length ≤ 25 * a + 48 * b + 22 * c + 7 := by
 have z1 := kG weekL 25 weekL_len (s.heats.zip s.damps)
 have z2 := kG jointL 48 jointL_len s.joints
 have z3 := kG seenL 22 seenL_len s.reports
 have z4 : (s.heats.zip s.damps).length ≤ a := by rw [List.length_zip]; omega
 unfold writeS ws3 ws2 ws1
 simp only [List.length_append, List.length_cons, List.length_nil]
 omega
def IntE (n : Int) : Prop := n.natAbs < 1000
def RgE (x : Rg) : Prop := IntE x.mn ∧ IntE x.mx
structure NumE (s : Season) : Prop where
 hb : ∀ r ∈ s.heats, RgE r
 db : ∀ r ∈ s.damps, RgE r
 jb : ∀ j ∈ s.joints, RgE j.high ∧ RgE j.low ∧ RgE j.weeks ∧ RgE j.life
 jk : ∀ j ∈ s.joints, j.kind = 1 ∨ j.kind = 2
 rb : ∀ r ∈ s.reports, IntE r.joint ∧ IntE r.week
theorem rgE_of [Lvl] {x : Rg} {lo hi : Int} (h : checkRangeM x lo hi = 0) (h1 : -100 ≤ lo) (h2 : hi ≤ 100) : RgE x := by
 have := yV h
 exact ⟨by unfold IntE; omega, by unfold IntE; omega⟩
theorem rgE_w [Lvl] {x : Rg} (h : checkWeatherM x = 0) : RgE x := by
 unfold checkWeatherM at h
 split at h
 ·rename_i hh; exact absurd h hh
 rename_i hh; exact rgE_of (by simpa using hh) (by decide) (by decide)
theorem checkM_num [Lvl] {s : Season} (h : checkM s = 0) : NumE s ∧ s.damps.length = s.heats.length ∧ s.heats.length ≤ 6 ∧ s.joints.length ≤ 3 ∧ s.reports.length ≤ 5 := by
 unfold checkM at h
 split at h
 ·cases h
 split at h
 ·cases h
 split at h
 ·cases h
 split at h
 ·cases h
 split at h
 ·rename_i hh; exact absurd h hh
 rename_i q1
 split at h
 ·cases h
 split at h
 ·rename_i hh; exact absurd h hh
 rename_i q2
 split at h
 ·cases h
 have w := zS (by simpa using q1 : firstErr checkWeatherM (s.heats ++ s.damps) = 0)
 have j := zS (by simpa using q2 : firstErr checkJointM s.joints = 0)
 have r := zS h
 have jj : ∀ x ∈ s.joints, (RgE x.high ∧ RgE x.low ∧ RgE x.weeks ∧ RgE x.life) ∧ (x.kind = 1 ∨ x.kind = 2) := by
  intro x hx
  have hj := j x hx
  unfold checkJointM at hj
  split at hj
  ·cases hj
  rename_i k1
  split at hj
  ·rename_i hh; exact absurd hj hh
  rename_i k2
  split at hj
  ·rename_i hh; exact absurd hj hh
  rename_i k3
  split at hj
  ·rename_i hh; exact absurd hj hh
  rename_i k4
  have kk : inM x.kind 1 2 = true := by simpa using k1
  unfold inM at kk
  rw [Bool.and_eq_true, decide_eq_true_eq, decide_eq_true_eq] at kk
  exact ⟨⟨rgE_w (by simpa using k2), rgE_w (by simpa using k3), rgE_of (by simpa using k4) (by decide) (by decide), rgE_of hj (by decide) (by decide)⟩, by omega⟩
 refine ⟨⟨fun x hx => rgE_w (w x (List.mem_append_left _ hx)), fun x hx => rgE_w (w x (List.mem_append_right _ hx)), fun x hx => (jj x hx).1, fun x hx => (jj x hx).2, ?_⟩, by omega, by omega, by omega, by omega⟩
 intro x hx
 have hr := r x hx
 unfold checkSeenM at hr
 split at hr
 ·cases hr
 rename_i k1
 split at hr
 ·cases hr
 rename_i k2
 have kk : inM x.joint 0 (s.joints.length - 1) = true := by simpa using k1
 have kl : inM x.week 0 (s.heats.length - 1) = true := by simpa using k2
 unfold inM at kk kl
 rw [Bool.and_eq_true, decide_eq_true_eq, decide_eq_true_eq] at kk kl
 exact ⟨by unfold IntE; omega, by unfold IntE; omega⟩
def rangeR (w : List UInt8) : Option Rg := match splitL 47 w with | [a, b] => (numS a).bind fun x => (numS b).map fun y => ⟨x, y⟩ | _ => none
def rangesF : List (List UInt8) → Option (List Rg)
 | [] => some []
 | w :: ws => (rangeR w).bind fun x => (rangesF ws).map (x :: ·)
theorem rangesF_cons (w : List UInt8) (ws : List (List UInt8)) : rangesF (w :: ws) = (rangeR w).bind fun x => (rangesF ws).map (x :: ·) := rfl
def rangesR (many : Nat) (ws : List (List UInt8)) : Option (List Rg) := if ws.length = many then rangesF ws else none
def s0 : Season := ⟨[], [], [], []⟩
def putW (s : Season) (x : Rg × Rg) : Season := { s with heats := s.heats ++ [x.1], damps := s.damps ++ [x.2] }
def putJ (s : Season) (j : Joint) : Season := { s with joints := s.joints ++ [j] }
def putR (s : Season) (r : Seen) : Season := { s with reports := s.reports ++ [r] }
def seenR (ws : List (List UInt8)) : Option Seen := match ws with | [a, b, f] => if f = failedB ∨ f = wholeB then (numS a).bind fun x => (numS b).map fun y => ⟨x, y, decide (f = failedB)⟩ else none | _ => none
def weekP (ws : List (List UInt8)) : Option (Rg × Rg) := match rangesR 2 ws with | some [a, b] => some (a, b) | _ => none
def jointR (k : Int) (ws : List (List UInt8)) : Option Joint := match rangesR 4 ws with | some [a, b, c, d] => some ⟨k, a, b, c, d⟩ | _ => none
def takeS (s : Season) (w : List UInt8) (ws : List (List UInt8)) : Option (Int × Season) :=
 if w = weekB then (weekP ws).map fun x => (1, putW s x)
 else if w = waxB ∨ w = leatherB then (jointR (if w = leatherB then 2 else 1) ws).map fun j => (2, putJ s j)
 else if w = seenB then (seenR ws).map fun r => (3, putR s r)
 else if w = springB then (if ws = [] then some (4, s) else none) else none
def lineS (s : Season) (row : List UInt8) : Option (Int × Season) := match splitL 32 row with | [] => none | w :: ws => takeS s w ws
def goS : Nat → Int → Season → List (List UInt8) → Nat × Int × Season
 | _, before, s, [] => (0, before, s)
 | i, before, s, r :: rs => match lineS s r with | none => (i + 1, before, s) | some p => if p.1 < before ∨ before = 4 then (i + 1, before, s) else goS (i + 1) p.1 p.2 rs
theorem goS_cons (i : Nat) (before : Int) (s : Season) (r : List UInt8) (rs : List (List UInt8)) : goS i before s (r :: rs) = match lineS s r with | none => (i + 1, before, s) | some p => if p.1 < before ∨ before = 4 then (i + 1, before, s) else goS (i + 1) p.1 p.2 rs := rfl
def readS [Lvl] (t : List UInt8) : Season × Int × Int :=
 if t.length > 500 then (s0, 0, 10) else
 let rows := splitL 10 t
 let g := goS 0 0 s0 rows.dropLast
 if g.1 ≠ 0 then (s0, g.1, 2) else if g.2.1 ≠ 4 ∨ rows.getLast? ≠ some [] then (s0, rows.length, 2) else if checkM g.2.2 ≠ 0 then (s0, 0, checkM g.2.2) else (g.2.2, 0, 0)
theorem itoa_free' {n : Int} (h : IntE n) : (47 : UInt8) ∉ itoaL n ∧ (10 : UInt8) ∉ itoaL n ∧ (32 : UInt8) ∉ itoaL n := by
 have key : ∀ c : UInt8, c ≠ 45 → isD c = false → c ∉ itoaL n := by
  intro c hc hd hm
  have h' : n.natAbs < 1000 := h
  by_cases h0 : n < 0
  ·obtain ⟨k, hk, rfl⟩ : ∃ k : Nat, 1 ≤ k ∧ n = -(k : Int) := ⟨n.natAbs, by omega, by omega⟩
   rw [itoaL_neg hk] at hm
   rcases List.mem_cons.1 hm with h1 | h1
   ·exact hc h1
   rw [natL_isD (by omega) c h1] at hd; cases hd
  obtain ⟨k, rfl⟩ : ∃ k : Nat, n = k := ⟨n.toNat, by omega⟩
  rw [itoaL_nat] at hm
  rw [natL_isD (by omega) c hm] at hd; cases hd
 exact ⟨key 47 (by decide) (by decide), key 10 (by decide) (by decide), key 32 (by decide) (by decide)⟩
theorem rgL_join (x : Rg) : rgL x = joinL 47 [itoaL x.mn, itoaL x.mx] := by
 unfold rgL joinL
 simp
theorem rangeR_some {w : List UInt8} {x : Rg} (h : rangeR w = some x) : w = rgL x ∧ RgE x := by
 unfold rangeR at h
 split at h
 ·rename_i a b hs
  obtain ⟨p, h1, h2⟩ := Option.bind_eq_some_iff.1 h
  obtain ⟨q, h3, h4⟩ := Option.map_eq_some_iff.1 h2
  subst h4
  obtain ⟨_, _, e1, l1⟩ := of_numS h1
  obtain ⟨_, _, e2, l2⟩ := of_numS h3
  have := join_split 47 w
  rw [hs] at this
  refine ⟨?_, l1, l2⟩
  rw [rgL_join, e1, e2, this]
 cases h
theorem rangesF_some : ∀ {ws : List (List UInt8)} {l : List Rg}, rangesF ws = some l → ws = l.map rgL ∧ ∀ x ∈ l, RgE x
 | [], l, h => by cases h; exact ⟨rfl, fun _ h => by cases h⟩
 | w :: ws, l, h => by
  rw [rangesF_cons] at h
  obtain ⟨x, h1, h2⟩ := Option.bind_eq_some_iff.1 h
  obtain ⟨l', h3, h4⟩ := Option.map_eq_some_iff.1 h2
  subst h4
  obtain ⟨e1, r1⟩ := rangeR_some h1
  obtain ⟨e2, r2⟩ := rangesF_some h3
  refine ⟨by rw [List.map_cons, ← e1, ← e2], fun y hy => ?_⟩
  rcases List.mem_cons.1 hy with rfl | hy
  ·exact r1
  exact r2 y hy
theorem kO {ws : List (List UInt8)} {l : List Rg} (h : rangesF ws = some l) : l.length = ws.length := by rw [(rangesF_some h).1, List.length_map]
theorem rangesF_snoc {x : List UInt8} : ∀ {ws : List (List UInt8)}, rangesF (ws ++ [x]) = (rangesF ws).bind fun l => (rangeR x).map fun n => l ++ [n]
 | [] => by
  show (rangeR x).bind _ = _
  simp only [rangesF, Option.bind_some]
  cases rangeR x <;> rfl
 | y :: ws => by
  rw [List.cons_append, rangesF_cons, rangesF_cons, rangesF_snoc]
  cases rangeR y with
  | none => rfl
  | some n =>
   simp only [Option.bind_some]
   cases rangesF ws with
   | none => rfl
   | some l =>
    simp only [Option.bind_some, Option.map_some]
    cases rangeR x <;> rfl
theorem rangesF_more : ∀ (b : List (List UInt8)) {a : List (List UInt8)}, rangesF a = none → rangesF (a ++ b) = none
 | b, [], h => by cases h
 | b, y :: a, h => by
  rw [List.cons_append, rangesF_cons]
  rw [rangesF_cons] at h
  cases hy : rangeR y with
  | none => rfl
  | some n =>
   rw [hy] at h
   simp only [Option.bind_some, Option.map_eq_none_iff] at h ⊢
   exact rangesF_more b h
theorem rangesF_step {w : List (List UInt8)} {k : Nat} {l : List Rg} (hk : k < w.length) (h : rangesF (w.take k) = some l) : rangesF (w.take (k + 1)) = (rangeR w[k]).map fun n => l ++ [n] := by
 rw [List.take_add_one, List.getElem?_eq_getElem hk]
 show rangesF (w.take k ++ [w[k]]) = _
 rw [rangesF_snoc, h, Option.bind_some]
theorem rangesF_stop {w : List (List UInt8)} {k : Nat} (h : rangesF (w.take k) = none) : rangesF w = none := by
 have := rangesF_more (w.drop k) h
 rwa [List.take_append_drop] at this
end Go.Wx
namespace Go.Wx
open Go Go.HL Go.Rd
set_option linter.all false
structure FarS (s : Season) (p : Int) : Prop where
 hd : s.damps.length = s.heats.length
 j : p < 2 → s.joints = []
 r : p < 3 → s.reports = []
end Go.Wx
namespace Go.Proofs.YtboigjfgpppeaaaGreatDoor
open Go Go.HL Go.Proofs Go.Wx Go.Rd
section
variable [Lvl]
set_option maxRecDepth 100000
theorem written_ok (x : Rg) (h : AH) (PW : Pow h) (hn : RgE x) : FnT Tryz.prog 29 #[rgV x] h (fun v _ => v = .string (bs (rgL x))) := by
 refine qW Tryz.func29 rfl Tryz.ntmps29 rfl ?_
 refine qC (qA rfl ?_)
 refine zC (v:=.agg #[.int .i64 _, .int .i64 _]) (cs:=[_, _]) rfl rfl fun b1 hb1 => ?_
 refine qH [_] rfl ?_
 refine asT rfl ?_
 refine qC ?_
 refine zL [] rfl rfl rfl ?_
 refine qE (i:=0) rfl (by decide +kernel) (qD rfl rfl rfl rfl 0 rfl) ?_
 refine wD (i:=1) rfl (by decide +kernel) ?_
 refine qL 0 (v:=.int .i64 _) rfl rfl rfl rfl ?_
 refine qE (i:=4) rfl (by decide +kernel) (qD rfl rfl rfl rfl 1 rfl) ?_
 refine wD (i:=5) rfl (by decide +kernel) ?_
 refine qL 0 (v:=.int .i64 _) rfl rfl rfl rfl ?_
 refine wZ (i:=2) rfl (by decide +kernel) ?_
 refine wI (caps:=[]) (vs:=[.int .i64 _]) rfl rfl rfl (itoaE_ok _ h (PW.ext (Ext.refl _)) hn.1) ?_
 rintro _ h1 E1 rfl
 refine ⟨zJ E1 _, ?_⟩
 have z1 := vA (n:=x.mn)
 have z2 := vA (n:=x.mx)
 refine qE (i:=3) rfl (by decide +kernel) (zT (b:=[47]) rfl rfl (by show _ + 1 < _; omega)) ?_
 refine wU (i:=6) rfl (by decide +kernel) (by decide +kernel) ?_
 refine wI (caps:=[]) (vs:=[.int .i64 _]) rfl rfl rfl (itoaE_ok _ h1 (PW.ext E1) hn.2) ?_
 rintro _ h2 E2 rfl
 refine qE (i:=7) rfl (by decide +kernel) (zT rfl rfl (by simp only [List.length_append, List.length_cons, List.length_nil]; omega)) ?_
 refine qE (i:=8) rfl (by decide +kernel) (wA (v:=.string _) rfl) ?_
 refine zB rfl ?_
 refine qQ ?_
 refine qJ (vs:=[_]) Tryz.results29 ⟨qG rfl rfl, trivial⟩ fun V => ?_
 exact ⟨(kX (kX E1 E2) (qN V)), rfl⟩
def writeSV (s : Season) : Value := .tuple #[.string (bs (if checkM s = 0 then writeS s else [])), .int .i64 (checkM s)]
set_option maxHeartbeats 4000000 in
theorem WriteS_ok (s : Season) (Sm : Small s) (A0 A1 A2 A3 : Option Addr) (c0 c1 c2 c3 : Nat) (h : AH) (PW : Pow h) (R : SeasonR h A0 A1 A2 A3 s) :
  FnT Tryz.prog 9 #[seasonV A0 A1 A2 A3 c0 c1 c2 c3 s] h (fun v _ => v = writeSV s) := by
 refine qW Tryz.func9 rfl Tryz.ntmps9 rfl ?_
 refine qC (qA rfl ?_)
 refine zC (v:=.agg #[.slice _ _ _, .slice _ _ _, .slice _ _ _, .slice _ _ _]) (cs:=[_, _, _, _]) rfl rfl fun b1 hb1 => ?_
 refine qH [_] rfl ?_
 refine asT rfl ?_
 refine asI rfl ?_
 refine qC (qC (qA rfl ?_))
 refine qZ 0 (vs:=[.slice _ _ _, .slice _ _ _, .slice _ _ _, .slice _ _ _]) rfl rfl rfl rfl rfl ?_
 refine wI (caps:=[]) (vs:=[.agg #[.slice _ _ _, .slice _ _ _, .slice _ _ _, .slice _ _ _]]) rfl rfl rfl (check_ok s A0 A1 A2 A3 c0 c1 c2 c3 h (R.ext (Ext.refl _)) Sm.h0 Sm.h1 Sm.h2 Sm.h3) ?_
 rintro _ h1 E1 rfl
 refine asI rfl ?_
 refine qC (qA rfl ?_)
 refine mvI rfl ?_
 refine pvB rfl ?_
 refine qP rfl (fun hc => ?_) (fun hc => ?_)
 ·skip
  have hc' : checkM s ≠ 0 := by simpa using hc
  refine qC (qA rfl ?_)
  refine mvI rfl ?_
  refine asT rfl ?_
  refine asI rfl ?_
  refine qQ ?_
  refine qJ (vs:=[_, _]) Tryz.results9 ⟨qG rfl rfl, qG rfl rfl, trivial⟩ fun V => ?_
  exact ⟨(kX E1 (qN V)), by rw [writeSV, if_neg hc']; rfl⟩
 skip
 have hc' : checkM s = 0 := by simpa using hc
 have N := (checkM_num hc').1
 have SB := (yR hc').b
 have q1 := SB.w6
 have q2 := SB.dl
 have q3 := SB.j3
 have q4 := SB.rl
 have hzl : (s.heats.zip s.damps).length = s.heats.length := by rw [List.length_zip]; omega
 refine qM ?_
 refine qC (qA rfl ?_)
 refine asT rfl ?_
 refine qC (qC (qA rfl ?_))
 refine qB (qD rfl rfl rfl rfl 0 rfl) ?_
 refine qL 0 (v:=.slice _ _ _) rfl rfl rfl rfl ?_
 refine qB (wP rfl rfl) ?_
 refine mvI rfl ?_
 refine qT ?_
 refine zF [5, 6, 21, 22, 23, 24, 25, 26, 27, 28, 29, 30, 31, 32, 33, 34, 35, 36, 37, 38, 39, 40, 41, 42] 1 (α:=Nat) (fun k => [(21, .int .i64 k), (5, .string (bs (((s.heats.zip s.damps).take k).flatMap weekL)))]) (fun k => _) (fun k h_k => k ≤ s.heats.length) (fun k => s.heats.length - k) (0) ⟨rfl, strE (by simp), trivial⟩ (rfl) (Nat.zero_le _) ?_
 rintro k T1 h_k E_k J_k
 refine qR [_] rfl ?_
 have z1 := kG weekL 25 weekL_len ((s.heats.zip s.damps).take k)
 have z2 : ((s.heats.zip s.damps).take k).length ≤ 6 := by rw [List.length_take]; omega
 refine qC (qA rfl ?_)
 refine pvB rfl ?_
 refine qC ?_
 refine qP rfl (fun hk => ?_) (fun hk => ?_)
 ·skip
  have hkl : k < s.heats.length := ltI hk
  have hkd : k < s.damps.length := by omega
  have hkz : k < (s.heats.zip s.damps).length := by omega
  obtain ⟨g, off, hA, hg⟩ := (R.heats.ext (kX E1 E_k)).at (by omega) hkl
  obtain ⟨g2, off2, hA2, hg2⟩ := (R.damps.ext (kX E1 E_k)).at (by omega) hkd
  have w1 := vX s.heats[k]
  have w2 := vX s.damps[k]
  refine qM ?_
  refine qC ?_
  refine qT ?_
  refine qC (qA rfl ?_)
  refine mvI rfl ?_
  refine asI rfl ?_
  refine zL [] rfl rfl rfl ?_
  refine qE (i:=0) rfl (by decide +kernel) (qK (v:=.string _) rfl) ?_
  refine qE (i:=1) rfl (by decide +kernel) (qD rfl rfl rfl rfl 0 rfl) ?_
  refine wD (i:=2) rfl (by decide +kernel) ?_
  refine qL 0 (v:=.slice _ _ _) rfl rfl rfl rfl ?_
  refine qE (i:=3) rfl (by decide +kernel) (qK (v:=.int .i64 _) rfl) ?_
  refine qE (i:=4) rfl (by decide +kernel) (wK rfl hA rfl rfl rfl (by omega) (by omega)) ?_
  refine wD (i:=5) rfl (by decide +kernel) ?_
  refine zH rfl rfl rfl rfl (hg) ?_
  refine qE (i:=9) rfl (by decide +kernel) (qD rfl rfl rfl rfl 1 rfl) ?_
  refine wD (i:=10) rfl (by decide +kernel) ?_
  refine qL 0 (v:=.slice _ _ _) rfl rfl rfl rfl ?_
  refine qE (i:=11) rfl (by decide +kernel) (qK (v:=.int .i64 _) rfl) ?_
  refine qE (i:=12) rfl (by decide +kernel) (wK rfl hA2 rfl rfl rfl (by omega) (by omega)) ?_
  refine wD (i:=13) rfl (by decide +kernel) ?_
  refine zH rfl rfl rfl rfl (hg2) ?_
  refine wZ (i:=6) rfl (by decide +kernel) ?_
  refine wI (caps:=[]) (vs:=[.agg #[.int .i64 _, .int .i64 _]]) rfl rfl rfl (written_ok s.heats[k] h_k (PW.ext (kX E1 E_k)) (N.hb _ (List.getElem_mem hkl))) ?_
  rintro _ h2 E2 rfl
  refine ⟨zJ E2 _, ?_⟩
  refine qE (i:=7) rfl (by decide +kernel) (zT (a:=[119, 101, 101, 107, 32]) rfl rfl (by show 5 + _ < _; omega)) ?_
  refine qE (i:=8) rfl (by decide +kernel) (zT (b:=[32]) rfl rfl (by simp only [List.length_append, List.length_cons, List.length_nil]; omega)) ?_
  refine wU (i:=14) rfl (by decide +kernel) (by decide +kernel) ?_
  refine wI (caps:=[]) (vs:=[.agg #[.int .i64 _, .int .i64 _]]) rfl rfl rfl (written_ok s.damps[k] h2 (PW.ext (kX (kX E1 E_k) E2)) (N.db _ (List.getElem_mem hkd))) ?_
  rintro _ h3 E3 rfl
  refine qE (i:=15) rfl (by decide +kernel) (zT rfl rfl (by simp only [List.length_append, List.length_cons, List.length_nil]; omega)) ?_
  refine qE (i:=16) rfl (by decide +kernel) (zT (b:=[10]) rfl rfl (by simp only [List.length_append, List.length_cons, List.length_nil]; omega)) ?_
  refine qE (i:=17) rfl (by decide +kernel) (zT rfl rfl (by simp only [List.length_append, List.length_cons, List.length_nil]; omega)) ?_
  refine qE (i:=18) rfl (by decide +kernel) (wA (v:=.string _) rfl) ?_
  refine zB rfl ?_
  refine qA rfl ?_
  refine qB (qO rfl (by omega)) ?_
  refine mvI rfl ?_
  refine ⟨k + 1, ⟨rfl, strE (by rw [flat_take weekL hkz, List.getElem_zip]; rfl), trivial⟩, rfl, rfl, (kX (kX E_k E2) E3), fun h3 E3 => hkl, by first | omega | (dsimp only; omega), ?_⟩
  repeat (first | exact qV _ _ _ | refine qX (by decide) ?_ | refine qU rfl ?_ | refine qY rfl ?_)
 skip
 have hke : k = s.heats.length := by have := geI hk; omega
 subst hke
 rw [← hzl, List.take_length] at z1 z2
 have y1 : (ws1 s).length < 200 := by unfold ws1; omega
 have e1 : ((s.heats.zip s.damps).take s.heats.length).flatMap weekL = ws1 s := by rw [← hzl, List.take_length]; rfl
 refine wV ?_
 refine qC (qC (qA rfl ?_))
 refine qB (qD rfl rfl rfl rfl 2 rfl) ?_
 refine qL 0 (v:=.slice _ _ _) rfl rfl rfl rfl ?_
 refine qB (wP rfl rfl) ?_
 refine mvI rfl ?_
 refine qT ?_
 refine zF [5, 8, 9, 46, 47, 48, 49, 50, 51, 52, 53, 54, 55, 56, 57, 58, 59, 60, 61, 62, 63, 64, 65, 66, 67, 68, 69, 70, 71, 72, 73, 74, 75, 76, 77] 1 (α:=Nat) (fun k2 => [(46, .int .i64 k2), (5, .string (bs (ws1 s ++ (s.joints.take k2).flatMap jointL)))]) (fun k2 => _) (fun k2 h_k2 => k2 ≤ s.joints.length) (fun k2 => s.joints.length - k2) (0) ⟨rfl, strE (by rw [e1]; simp), trivial⟩ (rfl) (Nat.zero_le _) ?_
 rintro k2 T2 h_k2 E_k2 J_k2
 refine qR [_] rfl ?_
 have x1 := kG jointL 48 jointL_len (s.joints.take k2)
 have x2 : (s.joints.take k2).length ≤ 3 := by rw [List.length_take]; omega
 refine qC (qA rfl ?_)
 refine pvB rfl ?_
 refine qC ?_
 refine qP rfl (fun hk2 => ?_) (fun hk2 => ?_)
 ·skip
  have hkl : k2 < s.joints.length := ltI hk2
  obtain ⟨g, off, hA, hg⟩ := (R.joints.ext (kX (kX E1 E_k) E_k2)).at (by omega) hkl
  obtain ⟨nj1, nj2, nj3, nj4⟩ := N.jb _ (List.getElem_mem hkl)
  have w1 := vX s.joints[k2].high
  have w2 := vX s.joints[k2].low
  have w3 := vX s.joints[k2].weeks
  have w4 := vX s.joints[k2].life
  have w5 := kindW_len s.joints[k2].kind
  refine qM ?_
  refine qC ?_
  refine qT ?_
  refine qC (qA rfl ?_)
  refine qB (wK rfl hA rfl rfl rfl (by omega) (by omega)) ?_
  refine zH rfl rfl rfl rfl (hg) ?_
  refine wT (cs:=[_, _, _, _, _, _, _, _, _]) rfl rfl fun b8 hb8 => ?_
  refine qH [_, _] rfl ?_
  refine qS 1 (v:=.agg #[.int .i64 _, .int .i64 _, .int .i64 _, .int .i64 _, .int .i64 _, .int .i64 _, .int .i64 _, .int .i64 _, .int .i64 _]) (vs:=[_, _, _, _, _, _, _, _, _]) (c':=[_, _, _, _, _, _, _, _, _]) rfl rfl rfl rfl rfl rfl rfl rfl rfl ?_
  refine qH [_, _] rfl ?_
  refine qC (qA rfl ?_)
  refine asT rfl ?_
  refine zU [9, 50, 51, 52] 2 (α:=Unit) (fun u => [(9, .string (bs (kindW s.joints[k2].kind)))]) (fun u L => L) (fun u h_u => True) ?_ ?_
  ·skip
   refine qC (qA rfl ?_)
   refine qB (qD rfl rfl rfl rfl 0 rfl) ?_
   refine qL 1 (v:=.int .i64 _) rfl rfl rfl rfl ?_
   refine pvB rfl ?_
   refine qP rfl (fun hj => ?_) (fun hj => ?_)
   ·skip
    have hj' : s.joints[k2].kind = 2 := by simpa using hj
    refine qA rfl ?_
    refine asT rfl ?_
    refine ⟨(), ⟨strE (by rw [kindW, if_pos hj']), trivial⟩, rfl, rfl, (Ext.refl _), fun h3 E3 => by first | trivial | omega | (refine ⟨?_, ?_⟩ <;> omega), ?_⟩
    repeat (first | exact wQ _ _ | exact qV _ _ _ | refine qX (by decide) ?_ | refine qU rfl ?_ | refine qY rfl ?_)
   skip
   have hj' : ¬ s.joints[k2].kind = 2 := by simpa using hj
   refine qM ?_
   refine ⟨(), ⟨strE (by rw [kindW, if_neg hj']), trivial⟩, rfl, rfl, (Ext.refl _), fun h3 E3 => by first | trivial | omega | (refine ⟨?_, ?_⟩ <;> omega), ?_⟩
   repeat (first | exact wQ _ _ | exact qV _ _ _ | refine qX (by decide) ?_ | refine qU rfl ?_ | refine qY rfl ?_)
  rintro u T3 h_u E_u J_u
  refine qR [_, _] rfl ?_
  refine zL [] rfl rfl rfl ?_
  refine qE (i:=0) rfl (by decide +kernel) (qK (v:=.string _) rfl) ?_
  refine qE (i:=1) rfl (by decide +kernel) (qK (v:=.string _) rfl) ?_
  refine qE (i:=2) rfl (by decide +kernel) (zT (b:=[32]) rfl rfl (by simp only [List.length_append, List.length_cons, List.length_nil]; omega)) ?_
  refine qE (i:=3) rfl (by decide +kernel) (qD rfl rfl rfl rfl 1 rfl) ?_
  refine wD (i:=4) rfl (by decide +kernel) ?_
  refine qZ 1 (vs:=[.int .i64 _, .int .i64 _]) rfl rfl rfl rfl rfl ?_
  refine qE (i:=8) rfl (by decide +kernel) (qD rfl rfl rfl rfl 3 rfl) ?_
  refine wD (i:=9) rfl (by decide +kernel) ?_
  refine qZ 1 (vs:=[.int .i64 _, .int .i64 _]) rfl rfl rfl rfl rfl ?_
  refine qE (i:=13) rfl (by decide +kernel) (qD rfl rfl rfl rfl 5 rfl) ?_
  refine wD (i:=14) rfl (by decide +kernel) ?_
  refine qZ 1 (vs:=[.int .i64 _, .int .i64 _]) rfl rfl rfl rfl rfl ?_
  refine qE (i:=18) rfl (by decide +kernel) (qD rfl rfl rfl rfl 7 rfl) ?_
  refine wD (i:=19) rfl (by decide +kernel) ?_
  refine qZ 1 (vs:=[.int .i64 _, .int .i64 _]) rfl rfl rfl rfl rfl ?_
  refine wZ (i:=5) rfl (by decide +kernel) ?_
  refine wI (caps:=[]) (vs:=[.agg #[.int .i64 _, .int .i64 _]]) rfl rfl rfl (written_ok s.joints[k2].high h_u (PW.ext (kX (kX (kX E1 E_k) E_k2) E_u)) nj1) ?_
  rintro _ h2 E2 rfl
  refine ⟨zJ E2 _, ?_⟩
  refine qE (i:=6) rfl (by decide +kernel) (zT rfl rfl (by simp only [List.length_append, List.length_cons, List.length_nil]; omega)) ?_
  refine qE (i:=7) rfl (by decide +kernel) (zT (b:=[32]) rfl rfl (by simp only [List.length_append, List.length_cons, List.length_nil]; omega)) ?_
  refine wZ (i:=10) rfl (by decide +kernel) ?_
  refine wI (caps:=[]) (vs:=[.agg #[.int .i64 _, .int .i64 _]]) rfl rfl rfl (written_ok s.joints[k2].low h2 (PW.ext (kX (kX (kX (kX E1 E_k) E_k2) E_u) E2)) nj2) ?_
  rintro _ h3 E3 rfl
  refine ⟨zJ E3 _, ?_⟩
  refine qE (i:=11) rfl (by decide +kernel) (zT rfl rfl (by simp only [List.length_append, List.length_cons, List.length_nil]; omega)) ?_
  refine qE (i:=12) rfl (by decide +kernel) (zT (b:=[32]) rfl rfl (by simp only [List.length_append, List.length_cons, List.length_nil]; omega)) ?_
  refine wZ (i:=15) rfl (by decide +kernel) ?_
  refine wI (caps:=[]) (vs:=[.agg #[.int .i64 _, .int .i64 _]]) rfl rfl rfl (written_ok s.joints[k2].weeks h3 (PW.ext (kX (kX (kX (kX (kX E1 E_k) E_k2) E_u) E2) E3)) nj3) ?_
  rintro _ h4 E4 rfl
  refine ⟨zJ E4 _, ?_⟩
  refine qE (i:=16) rfl (by decide +kernel) (zT rfl rfl (by simp only [List.length_append, List.length_cons, List.length_nil]; omega)) ?_
  refine qE (i:=17) rfl (by decide +kernel) (zT (b:=[32]) rfl rfl (by simp only [List.length_append, List.length_cons, List.length_nil]; omega)) ?_
  refine wU (i:=20) rfl (by decide +kernel) (by decide +kernel) ?_
  refine wI (caps:=[]) (vs:=[.agg #[.int .i64 _, .int .i64 _]]) rfl rfl rfl (written_ok s.joints[k2].life h4 (PW.ext (kX (kX (kX (kX (kX (kX E1 E_k) E_k2) E_u) E2) E3) E4)) nj4) ?_
  rintro _ h5 E5 rfl
  refine qE (i:=21) rfl (by decide +kernel) (zT rfl rfl (by simp only [List.length_append, List.length_cons, List.length_nil]; omega)) ?_
  refine qE (i:=22) rfl (by decide +kernel) (zT (b:=[10]) rfl rfl (by simp only [List.length_append, List.length_cons, List.length_nil]; omega)) ?_
  refine qE (i:=23) rfl (by decide +kernel) (zT rfl rfl (by simp only [List.length_append, List.length_cons, List.length_nil]; omega)) ?_
  refine qE (i:=24) rfl (by decide +kernel) (wA (v:=.string _) rfl) ?_
  refine zB rfl ?_
  refine qA rfl ?_
  refine qB (qO rfl (by omega)) ?_
  refine mvI rfl ?_
  refine ⟨k2 + 1, ⟨rfl, strE (by rw [flat_take jointL hkl]; exact List.append_assoc _ _ (jointL s.joints[k2])), trivial⟩, rfl, rfl, (kX (kX (kX (kX (kX E_k2 E_u) E2) E3) E4) E5), fun h3 E3 => hkl, by first | omega | (dsimp only; omega), ?_⟩
  repeat (first | exact qV _ _ _ | refine qX (by decide) ?_ | refine qU rfl ?_ | refine qY rfl ?_)
 skip
 have hke : k2 = s.joints.length := by have := geI hk2; omega
 subst hke
 rw [List.take_length] at x1 x2
 have y2 : (ws2 s).length < 400 := by unfold ws2; rw [List.length_append]; omega
 refine wV ?_
 refine qC (qC (qA rfl ?_))
 refine qB (qD rfl rfl rfl rfl 3 rfl) ?_
 refine qL 0 (v:=.slice _ _ _) rfl rfl rfl rfl ?_
 refine qB (wP rfl rfl) ?_
 refine mvI rfl ?_
 refine qT ?_
 refine zF [5, 11, 12, 81, 82, 83, 84, 85, 86, 87, 88, 89, 90, 91, 92, 93, 94, 95, 96, 97, 98, 99, 100, 101, 102] 1 (α:=Nat) (fun k3 => [(81, .int .i64 k3), (5, .string (bs (ws2 s ++ (s.reports.take k3).flatMap seenL)))]) (fun k3 => _) (fun k3 h_k3 => k3 ≤ s.reports.length) (fun k3 => s.reports.length - k3) (0) ⟨rfl, strE (by rw [List.take_length]; simp [ws2]), trivial⟩ (rfl) (Nat.zero_le _) ?_
 rintro k3 T4 h_k3 E_k3 J_k3
 refine qR [_] rfl ?_
 have v1 := kG seenL 22 seenL_len (s.reports.take k3)
 have v2 : (s.reports.take k3).length ≤ 1000 := by rw [List.length_take]; omega
 refine qC (qA rfl ?_)
 refine pvB rfl ?_
 refine qC ?_
 refine qP rfl (fun hk3 => ?_) (fun hk3 => ?_)
 ·skip
  have hkl : k3 < s.reports.length := ltI hk3
  obtain ⟨g, off, hA, hg⟩ := (R.reports.ext (kX (kX (kX E1 E_k) E_k2) E_k3)).at (by omega) hkl
  obtain ⟨nr1, nr2⟩ := N.rb _ (List.getElem_mem hkl)
  have w1 := vA (n:=s.reports[k3].joint)
  have w2 := vA (n:=s.reports[k3].week)
  have w5 := seenW_len s.reports[k3].failed
  refine qM ?_
  refine qC ?_
  refine qT ?_
  refine qC (qA rfl ?_)
  refine qB (wK rfl hA rfl rfl rfl (by omega) (by omega)) ?_
  refine zH rfl rfl rfl rfl (hg) ?_
  refine wT (cs:=[_, _, _]) rfl rfl fun b11 hb11 => ?_
  refine qH [_, _] rfl ?_
  refine qS 1 (v:=.agg #[.int .i64 _, .int .i64 _, .bool _]) (vs:=[_, _, _]) (c':=[_, _, _]) rfl rfl rfl rfl rfl rfl rfl rfl rfl ?_
  refine qH [_, _] rfl ?_
  refine qC (qA rfl ?_)
  refine asT rfl ?_
  refine zU [12, 85, 86] 2 (α:=Unit) (fun u => [(12, .string (bs (seenW s.reports[k3].failed)))]) (fun u L => L) (fun u h_u => True) ?_ ?_
  ·skip
   refine qC (qA rfl ?_)
   refine qB (qD rfl rfl rfl rfl 2 rfl) ?_
   refine qL 1 (v:=.bool _) rfl rfl rfl rfl ?_
   refine qP rfl (fun hj => ?_) (fun hj => ?_)
   ·skip
    refine qA rfl ?_
    refine asT rfl ?_
    refine ⟨(), ⟨strE (by rw [seenW, if_pos hj]), trivial⟩, rfl, rfl, (Ext.refl _), fun h3 E3 => by first | trivial | omega | (refine ⟨?_, ?_⟩ <;> omega), ?_⟩
    repeat (first | exact wQ _ _ | exact qV _ _ _ | refine qX (by decide) ?_ | refine qU rfl ?_ | refine qY rfl ?_)
   skip
   refine qM ?_
   refine ⟨(), ⟨strE (by rw [seenW, hj]; rfl), trivial⟩, rfl, rfl, (Ext.refl _), fun h3 E3 => by first | trivial | omega | (refine ⟨?_, ?_⟩ <;> omega), ?_⟩
   repeat (first | exact wQ _ _ | exact qV _ _ _ | refine qX (by decide) ?_ | refine qU rfl ?_ | refine qY rfl ?_)
  rintro u T5 h_u E_u J_u
  refine qR [_, _] rfl ?_
  refine zL [] rfl rfl rfl ?_
  refine qE (i:=0) rfl (by decide +kernel) (qK (v:=.string _) rfl) ?_
  refine qE (i:=1) rfl (by decide +kernel) (qD rfl rfl rfl rfl 0 rfl) ?_
  refine wD (i:=2) rfl (by decide +kernel) ?_
  refine qL 1 (v:=.int .i64 _) rfl rfl rfl rfl ?_
  refine qE (i:=6) rfl (by decide +kernel) (qD rfl rfl rfl rfl 1 rfl) ?_
  refine wD (i:=7) rfl (by decide +kernel) ?_
  refine qL 1 (v:=.int .i64 _) rfl rfl rfl rfl ?_
  refine qE (i:=11) rfl (by decide +kernel) (qK (v:=.string _) rfl) ?_
  refine wZ (i:=3) rfl (by decide +kernel) ?_
  refine wI (caps:=[]) (vs:=[.int .i64 _]) rfl rfl rfl (itoaE_ok s.reports[k3].joint h_u (PW.ext (kX (kX (kX (kX E1 E_k) E_k2) E_k3) E_u)) nr1) ?_
  rintro _ h2 E2 rfl
  refine ⟨zJ E2 _, ?_⟩
  refine qE (i:=4) rfl (by decide +kernel) (zT (a:=[115, 101, 101, 110, 32]) rfl rfl (by show 5 + _ < _; omega)) ?_
  refine qE (i:=5) rfl (by decide +kernel) (zT (b:=[32]) rfl rfl (by simp only [List.length_append, List.length_cons, List.length_nil]; omega)) ?_
  refine wU (i:=8) rfl (by decide +kernel) (by decide +kernel) ?_
  refine wI (caps:=[]) (vs:=[.int .i64 _]) rfl rfl rfl (itoaE_ok s.reports[k3].week h2 (PW.ext (kX (kX (kX (kX (kX E1 E_k) E_k2) E_k3) E_u) E2)) nr2) ?_
  rintro _ h3 E3 rfl
  refine qE (i:=9) rfl (by decide +kernel) (zT rfl rfl (by simp only [List.length_append, List.length_cons, List.length_nil]; omega)) ?_
  refine qE (i:=10) rfl (by decide +kernel) (zT (b:=[32]) rfl rfl (by simp only [List.length_append, List.length_cons, List.length_nil]; omega)) ?_
  refine qE (i:=12) rfl (by decide +kernel) (zT rfl rfl (by simp only [List.length_append, List.length_cons, List.length_nil]; omega)) ?_
  refine qE (i:=13) rfl (by decide +kernel) (zT (b:=[10]) rfl rfl (by simp only [List.length_append, List.length_cons, List.length_nil]; omega)) ?_
  refine qE (i:=14) rfl (by decide +kernel) (zT rfl rfl (by simp only [List.length_append, List.length_cons, List.length_nil]; omega)) ?_
  refine qE (i:=15) rfl (by decide +kernel) (wA (v:=.string _) rfl) ?_
  refine zB rfl ?_
  refine qA rfl ?_
  refine qB (qO rfl (by omega)) ?_
  refine mvI rfl ?_
  refine ⟨k3 + 1, ⟨rfl, strE (by rw [flat_take seenL hkl]; exact List.append_assoc _ _ (seenL s.reports[k3])), trivial⟩, rfl, rfl, (kX (kX (kX E_k3 E_u) E2) E3), fun h3 E3 => hkl, by first | omega | (dsimp only; omega), ?_⟩
  repeat (first | exact qV _ _ _ | refine qX (by decide) ?_ | refine qU rfl ?_ | refine qY rfl ?_)
 skip
 have hke : k3 = s.reports.length := by have := geI hk3; omega
 subst hke
 rw [List.take_length] at v1 v2
 refine wV ?_
 refine qC (qA rfl ?_)
 refine mvT rfl ?_
 refine qB (zT (b:=[115, 112, 114, 105, 110, 103, 10]) rfl rfl (by rw [List.take_length, List.length_append]; show _ + 7 < _; omega)) ?_
 refine asT rfl ?_
 refine asI rfl ?_
 refine qQ ?_
 refine qJ (vs:=[_, _]) Tryz.results9 ⟨qG rfl rfl, qG rfl rfl, trivial⟩ fun V => ?_
 exact ⟨(kX (kX (kX (kX E1 E_k) E_k2) E_k3) (qN V)), by rw [writeSV, if_pos hc', hc']; exact congrArg (fun z => Value.tuple #[.string (bs z), .int .i64 0]) (show (ws2 s ++ (s.reports.take s.reports.length).flatMap seenL) ++ _ = writeS s by rw [List.take_length]; rfl)⟩
end
end Go.Proofs.YtboigjfgpppeaaaGreatDoor
namespace Go.Proofs.YtboigjfgpppeaaaGreatDoor
open Go Go.HL Go.Proofs Go.Wx Go.Rd
section
variable [Lvl]
set_option maxRecDepth 100000
def cutV (c : UInt8) (l : List UInt8) : Value := match idxO c l with | some i => .tuple #[.string (bs (l.take i)), .string (bs (l.drop (i + 1))), .bool true] | none => .tuple #[.string (bs l), .string (bs []), .bool false]
theorem sliteCut_ok (l : List UInt8) (c : UInt8) (h : AH) (hl : l.length < 2 ^ 40) : FnT Tryz.prog 119 #[.string (bs l), .string (bs [c])] h (fun v _ => v = cutV c l) := by
 refine qW Tryz.func119 rfl Tryz.ntmps119 rfl ?_
 refine qC (qA rfl ?_)
 refine asT rfl ?_
 refine asT rfl ?_
 refine asB rfl ?_
 refine qC (qC (qA rfl ?_))
 refine mvT rfl ?_
 refine mvT rfl ?_
 refine wI (caps:=[]) (vs:=[.string _, .string _]) rfl rfl rfl (sliteIndex_ok l c h hl) ?_
 rintro _ h1 E1 rfl
 cases q : idxO c l with
 | some i =>
  obtain ⟨hi, _, _⟩ := idxO_some q
  have hq : idxI c l = (i : Int) := by unfold idxI; rw [q]
  have hc1 : [c].length = 1 := rfl
  refine asI rfl ?_
  refine qC (qA rfl ?_)
  refine mvI rfl ?_
  refine pvB rfl ?_
  refine wW rfl (decide_eq_true (by rw [hq]; omega)) ?_
  refine qC ?_
  refine zL [] rfl rfl rfl ?_
  refine qE (i:=0) rfl (by decide +kernel) (qK (v:=.string _) rfl) ?_
  refine qE (i:=1) rfl (by decide +kernel) (qK (v:=.int .i64 _) rfl) ?_
  refine qE (i:=2) rfl (by decide +kernel) (yA 0 i rfl rfl (.inl ⟨rfl, rfl⟩) (.inr ⟨_, _, rfl, intE hq⟩) (by omega) (by omega)) ?_
  refine qE (i:=3) rfl (by decide +kernel) (qK (v:=.string _) rfl) ?_
  refine qE (i:=4) rfl (by decide +kernel) (qK (v:=.int .i64 _) rfl) ?_
  refine qE (i:=5) rfl (by decide +kernel) (qK (v:=.string _) rfl) ?_
  refine qE (i:=6) rfl (by decide +kernel) (zA rfl rfl) ?_
  refine qE (i:=7) rfl (by decide +kernel) (qO rfl (by omega)) ?_
  refine qE (i:=8) rfl (by decide +kernel) (yA (i + 1) l.length rfl rfl (.inr ⟨_, _, rfl, intE (a:=idxI c l + ([c].length : Int)) (by rw [hq, hc1]; push_cast; rfl)⟩) (.inl ⟨rfl, rfl⟩) (by omega) (Nat.le_refl _)) ?_
  refine qE (i:=9) rfl (by decide +kernel) (wA (v:=.string _) rfl) ?_
  refine qE (i:=10) rfl (by decide +kernel) (wA (v:=.string _) rfl) ?_
  refine qE (i:=11) rfl (by decide +kernel) (wA (v:=.bool _) rfl) ?_
  refine zB rfl ?_
  refine qQ ?_
  refine qJ (vs:=[_, _, _]) Tryz.results119 ⟨qG rfl rfl, qG rfl rfl, qG rfl rfl, trivial⟩ fun V => ?_
  exact ⟨(kX E1 (qN V)), by unfold cutV; rw [q]; show Value.tuple #[.string (bs ((l.take i).drop 0)), .string (bs ((l.take l.length).drop (i + 1))), .bool true] = _; rw [List.take_length]; rfl⟩
 | none =>
  have hq : idxI c l = -1 := by unfold idxI; rw [q]
  refine asI rfl ?_
  refine qC (qA rfl ?_)
  refine mvI rfl ?_
  refine pvB rfl ?_
  refine wS rfl (decide_eq_false (by rw [hq]; decide)) ?_
  refine qM ?_
  refine qC (qA rfl ?_)
  refine mvT rfl ?_
  refine asT rfl ?_
  refine asT rfl ?_
  refine asB rfl ?_
  refine qQ ?_
  refine qJ (vs:=[_, _, _]) Tryz.results119 ⟨qG rfl rfl, qG rfl rfl, qG rfl rfl, trivial⟩ fun V => ?_
  exact ⟨(kX E1 (qN V)), by unfold cutV; rw [q]; rfl⟩
theorem Cut_ok (l : List UInt8) (c : UInt8) (h : AH) (hl : l.length < 2 ^ 40) : FnT Tryz.prog 104 #[.string (bs l), .string (bs [c])] h (fun v _ => v = cutV c l) := by
 refine qW Tryz.func104 rfl Tryz.ntmps104 rfl ?_
 refine qC (qA rfl ?_)
 refine asT rfl ?_
 refine asT rfl ?_
 refine asB rfl ?_
 refine qC (qA rfl ?_)
 refine mvT rfl ?_
 refine mvT rfl ?_
 refine wI (caps:=[]) (vs:=[.string _, .string _]) rfl rfl rfl (sliteCut_ok l c h hl) ?_
 rintro _ h1 E1 rfl
 cases q : idxO c l with
 | some i =>
  have e : cutV c l = .tuple #[.string (bs (l.take i)), .string (bs (l.drop (i + 1))), .bool true] := by unfold cutV; rw [q]
  rw [e]
  refine qB (wL (v:=.string _) rfl) ?_
  refine qB (wL (v:=.string _) rfl) ?_
  refine pvB rfl ?_
  refine asT rfl ?_
  refine asT rfl ?_
  refine asB rfl ?_
  refine qQ ?_
  refine qJ (vs:=[_, _, _]) Tryz.results104 ⟨qG rfl rfl, qG rfl rfl, qG rfl rfl, trivial⟩ fun V => ?_
  exact ⟨(kX E1 (qN V)), rfl⟩
 | none =>
  have e : cutV c l = .tuple #[.string (bs l), .string (bs []), .bool false] := by unfold cutV; rw [q]
  rw [e]
  refine qB (wL (v:=.string _) rfl) ?_
  refine qB (wL (v:=.string _) rfl) ?_
  refine pvB rfl ?_
  refine asT rfl ?_
  refine asT rfl ?_
  refine asB rfl ?_
  refine qQ ?_
  refine qJ (vs:=[_, _, _]) Tryz.results104 ⟨qG rfl rfl, qG rfl rfl, qG rfl rfl, trivial⟩ fun V => ?_
  exact ⟨(kX E1 (qN V)), rfl⟩
theorem hasMinus_ok (l : List UInt8) (h : AH) : FnT Tryz.prog 135 #[.string (bs l), .string (bs [45])] h (fun v _ => v = .bool (decide (l.head? = some 45))) := by
 refine qW Tryz.func135 rfl Tryz.ntmps135 rfl ?_
 cases l with
 | nil =>
  refine qC (qA rfl ?_)
  refine asB rfl ?_
  refine qC (qA rfl ?_)
  refine mvT rfl ?_
  refine qB (zA rfl rfl) ?_
  refine mvT rfl ?_
  refine qB (zA rfl rfl) ?_
  refine pvB rfl ?_
  refine mvB rfl ?_
  refine qI rfl rfl ?_
  refine qI rfl rfl ?_
  refine qI rfl rfl ?_
  refine qI rfl rfl ?_
  refine qI rfl rfl ?_
  refine qI rfl rfl ?_
  refine qB (wM rfl rfl (v:=.bool _) rfl) ?_
  refine asB rfl ?_
  refine qQ ?_
  refine qJ (vs:=[_]) Tryz.results135 ⟨qG rfl rfl, trivial⟩ fun V => ?_
  exact ⟨(qN V), rfl⟩
 | cons c r =>
  have g : decide ((((c :: r).length : Nat) : Int) ≥ (([45] : List UInt8).length : Int)) = true := decide_eq_true (by simp only [List.length_cons, List.length_nil]; omega)
  refine qC (qA rfl ?_)
  refine asB rfl ?_
  refine qC (qA rfl ?_)
  refine mvT rfl ?_
  refine qB (zA rfl rfl) ?_
  refine mvT rfl ?_
  refine qB (zA rfl rfl) ?_
  refine pvB rfl ?_
  refine mvB rfl ?_
  refine qF rfl g ?_
  refine mvT rfl ?_
  refine qF rfl g ?_
  refine mvT rfl ?_
  refine qF rfl g ?_
  refine qB (zA rfl rfl) ?_
  refine qF rfl g ?_
  refine qB (yA 0 1 rfl rfl (.inl ⟨rfl, rfl⟩) (.inr ⟨_, _, rfl, rfl⟩) (by omega) (by simp only [List.length_cons]; omega)) ?_
  refine qF rfl g ?_
  refine mvT rfl ?_
  refine qF rfl g ?_
  refine qB (yE rfl rfl) ?_
  refine qB (wN rfl g (v:=.bool _) rfl) ?_
  refine asB rfl ?_
  refine qQ ?_
  refine qJ (vs:=[_]) Tryz.results135 ⟨qG rfl rfl, trivial⟩ fun V => ?_
  exact ⟨(qN V), by show Value.bool (decide ([c] = [45])) = Value.bool (decide (some c = some 45)); congr 1; simp⟩
theorem sliteTrim_ok (l : List UInt8) (h : AH) : FnT Tryz.prog 122 #[.string (bs l), .string (bs [45])] h (fun v _ => v = .string (bs (trimP l))) := by
 refine qW Tryz.func122 rfl Tryz.ntmps122 rfl ?_
 refine qC (qA rfl ?_)
 refine asT rfl ?_
 refine qC (qC (qA rfl ?_))
 refine mvT rfl ?_
 refine mvT rfl ?_
 refine wI (caps:=[]) (vs:=[.string _, .string _]) rfl rfl rfl (hasMinus_ok l h) ?_
 rintro _ h1 E1 rfl
 refine qP rfl (fun hm => ?_) (fun hm => ?_)
 ·skip
  have hm' : l.head? = some 45 := of_decide_eq_true hm
  have hl : 1 ≤ l.length := by
   cases l with
   | nil => cases hm'
   | cons c r => simp
  refine qC (qA rfl ?_)
  refine mvT rfl ?_
  refine mvT rfl ?_
  refine qB (zA rfl rfl) ?_
  refine qB (yA 1 l.length rfl rfl (.inr ⟨_, _, rfl, rfl⟩) (.inl ⟨rfl, rfl⟩) hl (Nat.le_refl _)) ?_
  refine asT rfl ?_
  refine qQ ?_
  refine qJ (vs:=[_]) Tryz.results122 ⟨qG rfl rfl, trivial⟩ fun V => ?_
  exact ⟨(kX E1 (qN V)), by unfold trimP; rw [if_pos hm']; show Value.string (bs ((l.take l.length).drop 1)) = _; rw [List.take_length]⟩
 skip
 have hm' : ¬ l.head? = some 45 := of_decide_eq_false hm
 refine qM ?_
 refine qC (qA rfl ?_)
 refine mvT rfl ?_
 refine asT rfl ?_
 refine qQ ?_
 refine qJ (vs:=[_]) Tryz.results122 ⟨qG rfl rfl, trivial⟩ fun V => ?_
 exact ⟨(kX E1 (qN V)), by unfold trimP; rw [if_neg hm']; rfl⟩
theorem Trim_ok (l : List UInt8) (h : AH) : FnT Tryz.prog 106 #[.string (bs l), .string (bs [45])] h (fun v _ => v = .string (bs (trimP l))) := by
 refine qW Tryz.func106 rfl Tryz.ntmps106 rfl ?_
 refine qC (qA rfl ?_)
 refine asT rfl ?_
 refine qC (qA rfl ?_)
 refine mvT rfl ?_
 refine mvT rfl ?_
 refine wI (caps:=[]) (vs:=[.string _, .string _]) rfl rfl rfl (sliteTrim_ok l h) ?_
 rintro _ h1 E1 rfl
 refine asT rfl ?_
 refine qQ ?_
 refine qJ (vs:=[_]) Tryz.results106 ⟨qG rfl rfl, trivial⟩ fun V => ?_
 exact ⟨(kX E1 (qN V)), rfl⟩
end
end Go.Proofs.YtboigjfgpppeaaaGreatDoor
namespace Go.Proofs.YtboigjfgpppeaaaGreatDoor
open Go Go.HL Go.Proofs Go.Wx Go.Rd
section
variable [Lvl]
set_option maxRecDepth 100000
def refV : Value := .iface 128 (.agg #[])
theorem atoS_num {w : List UInt8} {n : Int} {e : Value} (a : AtoV w n e) {k : Int} (h : numS w = some k) : n = k ∧ e = .nilIface := by
 obtain ⟨h1, h2, h3, h4⟩ := of_numS h
 refine a.2.1 ?_ _ h1
 unfold trimP at h2
 split at h2
 ·rw [List.length_drop] at h2; omega
 omega
theorem trim_abs {w : List UInt8} {n : Int} (h : atoiF w = some n) (hl : (trimP w).length ≤ 3) : n.natAbs < 1000 := by
 cases w with
 | nil => cases h
 | cons c l =>
  unfold trimP at hl
  by_cases hc : c = 45
  ·subst hc
   simp only [List.head?_cons, if_true, List.drop_succ_cons, List.drop_zero] at hl
   rw [vV] at h
   rw [if_pos (.inl rfl)] at h
   split at h
   ·cases h
   obtain ⟨m, h1, h2⟩ := Option.map_eq_some_iff.1 h
   have h3 := digsV_lt _ _ _ h1
   have h4 : 10 ^ l.length ≤ 10 ^ 3 := Nat.pow_le_pow_right (by decide) hl
   rw [Nat.zero_add, Nat.one_mul] at h3
   have h5 : n.natAbs = m := by rw [← h2, if_pos rfl]; omega
   omega
  rw [if_neg (by simpa using hc)] at hl
  have h1 := atoi_abs h
  have h2 : 10 ^ (c :: l).length ≤ 10 ^ 3 := Nat.pow_le_pow_right (by decide) hl
  omega
set_option maxHeartbeats 1000000 in
theorem number_ok (w : List UInt8) (h : AH) (PW : Pow h) (ER : Errs h) (hw : w.length < 2 ^ 20) : FnE Tryz.prog 92 #[.string (bs w)] h (fun v _ => ∃ n, numS w = some n ∧ v = .int .i64 n) (fun v _ => numS w = none ∧ v = refV) := by
 refine qW Tryz.func92 rfl Tryz.ntmps92 rfl ?_
 refine qC (qA rfl ?_)
 refine asI rfl ?_
 refine qC (qA rfl ?_)
 refine mvT rfl ?_
 refine wI (caps:=[]) (vs:=[.string _]) rfl rfl rfl (Atoi_ok w h (ER.ext (Ext.refl _)) hw) ?_
 rintro _ h1 E1 ⟨n, e, rfl, AV⟩
 refine qB (qK (v:=.tuple #[.int .i64 _, _]) rfl) ?_
 refine qB (wL (v:=.int .i64 _) rfl) ?_
 refine qB (wL (v:=_) rfl) ?_
 refine asI rfl ?_
 refine qB (wA (v:=_) rfl) ?_
 refine qC ?_
 refine zU [10, 11, 12, 13, 14, 15, 16, 17, 18, 19, 20, 21, 22, 23] 0 (α:=Unit) (fun u => [(23, .bool (numS w).isNone)]) (fun u L => L) (fun u h_u => True) ?_ ?_
 ·skip
  rcases AV.1 with he | ⟨t, p, he⟩
  ·subst he
   have hlw : (trimP w).length ≤ w.length := by unfold trimP; split <;> simp
   have hlw2 : w.length ≤ (trimP w).length + 1 := by unfold trimP; split <;> simp; omega
   refine qA rfl ?_
   refine qB (qK (v:=_) rfl) ?_
   refine pvB rfl ?_
   refine mvB rfl ?_
   refine qF rfl rfl ?_
   refine mvT rfl ?_
   refine qF rfl rfl ?_
   refine wI (caps:=[]) (vs:=[.string _, .string _]) rfl rfl rfl (Trim_ok w h1) ?_
   rintro _ h2 E2 rfl
   by_cases hl3 : ((trimP w).length : Int) > 3
   ·have hlg : decide (((trimP w).length : Int) > 3) = true := decide_eq_true hl3
    have hnone : numS w = none := by
     cases q : numS w with
     | none => rfl
     | some m => have := (of_numS q).2.1; omega
    refine qF rfl rfl ?_
    refine qB (zA rfl rfl) ?_
    refine qF rfl rfl ?_
    refine pvB rfl ?_
    refine qB (wM rfl rfl (v:=.bool _) rfl) ?_
    refine mvB rfl ?_
    refine qI rfl hlg ?_
    refine qI rfl hlg ?_
    refine qI rfl hlg ?_
    refine qI rfl hlg ?_
    refine qB (wN rfl hlg (v:=.bool _) rfl) ?_
    refine ⟨(), ⟨(by rw [hnone]; rfl), trivial⟩, rfl, rfl, E2, fun h3 E3 => by first | trivial | omega | (refine ⟨?_, ?_⟩ <;> omega), ?_⟩
    repeat (first | exact wQ _ _ | exact qV _ _ _ | refine qX (by decide) ?_ | refine qU rfl ?_ | refine qY rfl ?_)
   skip
   have hlg : decide (((trimP w).length : Int) > 3) = false := decide_eq_false hl3
   obtain ⟨m, hm1⟩ : ∃ m, atoiF w = some m := by
    cases q : atoiF w with
    | some m => exact ⟨m, rfl⟩
    | none => exact absurd rfl (AV.2.2 (by omega) q)
   have hmn := (AV.2.1 (by omega) m hm1).1
   subst hmn
   have hab := trim_abs hm1 (by omega)
   refine qF rfl rfl ?_
   refine qB (zA rfl rfl) ?_
   refine qF rfl rfl ?_
   refine pvB rfl ?_
   refine qB (wM rfl rfl (v:=.bool _) rfl) ?_
   refine mvB rfl ?_
   refine qF rfl hlg ?_
   refine mvI rfl ?_
   refine qF rfl hlg ?_
   refine wI (caps:=[]) (vs:=[.int .i64 _]) rfl rfl rfl (itoaE_ok n h2 (PW.ext (kX E1 E2)) hab) ?_
   rintro _ h3 E3 rfl
   refine qF rfl hlg ?_
   refine mvT rfl ?_
   refine qF rfl hlg ?_
   refine qB (kE rfl rfl) ?_
   refine qB (wM rfl hlg (v:=.bool _) rfl) ?_
   have hfin : Value.bool (!decide (itoaL n = w)) = Value.bool (numS w).isNone := by
    by_cases hi : itoaL n = w
    ·rw [decide_eq_true hi, numS_of hm1 (by omega) hi]; rfl
    rw [decide_eq_false hi]
    cases q : numS w with
    | none => rfl
    | some m =>
     have h1 := of_numS q
     have h2 := (atoS_num AV q).1
     subst h2
     exact absurd h1.2.2.1 hi
   refine ⟨(), ⟨hfin, trivial⟩, rfl, rfl, (kX E2 E3), fun h3 E3 => by first | trivial | omega | (refine ⟨?_, ?_⟩ <;> omega), ?_⟩
   repeat (first | exact wQ _ _ | exact qV _ _ _ | refine qX (by decide) ?_ | refine qU rfl ?_ | refine qY rfl ?_)
  skip
  have hnone : numS w = none := by
   cases q : numS w with
   | none => rfl
   | some m => have := (atoS_num AV q).2; rw [he] at this; cases this
  subst he
  refine qA rfl ?_
  refine qB (qK (v:=_) rfl) ?_
  refine pvB rfl ?_
  refine mvB rfl ?_
  refine qI rfl rfl ?_
  refine qI rfl rfl ?_
  refine qI rfl rfl ?_
  refine qI rfl rfl ?_
  refine qB (wN rfl rfl (v:=.bool _) rfl) ?_
  refine mvB rfl ?_
  refine qI rfl rfl ?_
  refine qI rfl rfl ?_
  refine qI rfl rfl ?_
  refine qI rfl rfl ?_
  refine qB (wN rfl rfl (v:=.bool _) rfl) ?_
  refine ⟨(), ⟨(by rw [hnone]; rfl), trivial⟩, rfl, rfl, (Ext.refl _), fun h3 E3 => by first | trivial | omega | (refine ⟨?_, ?_⟩ <;> omega), ?_⟩
  repeat (first | exact wQ _ _ | exact qV _ _ _ | refine qX (by decide) ?_ | refine qU rfl ?_ | refine qY rfl ?_)
 rintro u T1 h_u E_u J_u
 refine qR [] rfl ?_
 refine qP rfl (fun hbad => ?_) (fun hbad => ?_)
 ·skip
  have hnone : numS w = none := by simpa using hbad
  refine qA rfl ?_
  refine qB (zD (zc:=[]) (vs:=[]) (cs:=[]) rfl rfl rfl rfl rfl rfl) ?_
  refine qB (wL (v:=_) rfl) ?_
  refine kF rfl ?_
  exact fun V => ⟨rfl, (kX (kX E1 E_u) (qN V)), hnone, rfl⟩
 skip
 obtain ⟨m, hm1⟩ : ∃ m, numS w = some m := by
  cases q : numS w with
  | some m => exact ⟨m, rfl⟩
  | none => rw [q] at hbad; cases hbad
 have hmn := (atoS_num AV hm1).1
 subst hmn
 refine qM ?_
 refine qC (qA rfl ?_)
 refine mvI rfl ?_
 refine asI rfl ?_
 refine qQ ?_
 refine qJ (vs:=[_]) Tryz.results92 ⟨qG rfl rfl, trivial⟩ fun V => ?_
 exact ⟨(kX (kX E1 E_u) (qN V)), n, hm1, rfl⟩
theorem rangeR_at {w : List UInt8} {i : Nat} (q : idxO 47 w = some i) : rangeR w = (numS (w.take i)).bind fun x => (numS (w.drop (i + 1))).map fun y => ⟨x, y⟩ := by
 unfold rangeR
 rw [splitL_at q]
 cases e : idxO 47 (w.drop (i + 1)) with
 | none => rw [splitL_no (idxO_none e)]
 | some j =>
  have hne : numS (w.drop (i + 1)) = none := by
   cases hq : numS (w.drop (i + 1)) with
   | none => rfl
   | some m =>
    obtain ⟨_, _, h3, h4⟩ := of_numS hq
    obtain ⟨a1, a2, _⟩ := idxO_some e
    exfalso
    refine (itoa_free' (n:=m) h4).1 ?_
    rw [h3, ← a2, List.getD_eq_getElem?_getD, List.getElem?_eq_getElem a1]
    exact List.getElem_mem a1
  rw [hne]
  have h2 : ∃ a b r, splitL 47 (w.drop (i + 1)) = a :: b :: r := by
   rw [splitL_at e]
   cases h : splitL 47 ((w.drop (i + 1)).drop (j + 1)) with
   | nil => exact absurd h (kN _ _)
   | cons x xs => exact ⟨_, _, _, rfl⟩
  obtain ⟨a, b, r, h2⟩ := h2
  rw [h2]
  cases numS (w.take i) <;> rfl
set_option maxHeartbeats 1000000 in
theorem wranges_ok (ws : List (List UInt8)) (many : Nat) (A : Option Addr) (c : Nat) (h : AH) (R : Row h 1 strC A ws) (PW : Pow h) (ER : Errs h) (hw : ∀ x ∈ ws, x.length < 2 ^ 20) (hl : ws.length < 2 ^ 20) (hm : many < 100) :
  FnE Tryz.prog 91 #[.slice A ws.length c, .int .i64 many] h (fun v h' => ∃ l A' c', rangesR many ws = some l ∧ v = .slice A' l.length c' ∧ Row h' 2 rgC A' l) (fun v _ => rangesR many ws = none ∧ v = refV) := by
 refine qW Tryz.func91 rfl Tryz.ntmps91 rfl ?_
 refine qC (qA rfl ?_)
 refine asS rfl ?_
 refine qC (qC (qA rfl ?_))
 refine mvS rfl ?_
 refine qB (wP rfl rfl) ?_
 refine mvI rfl ?_
 refine pvB rfl ?_
 refine qP rfl (fun hc => ?_) (fun hc => ?_)
 ·skip
  have hc' : ¬ ws.length = many := by
   have : ¬ (ws.length : Int) = many := by simpa using hc
   omega
  have hn : rangesR many ws = none := if_neg hc'
  refine qA rfl ?_
  refine qB (zD (zc:=[]) (vs:=[]) (cs:=[]) rfl rfl rfl rfl rfl rfl) ?_
  refine qB (wL (v:=_) rfl) ?_
  refine kF rfl ?_
  exact fun V => ⟨rfl, (qN V), hn, rfl⟩
 skip
 have hc' : ws.length = many := by
  have : (ws.length : Int) = many := by simpa using hc
  omega
 have hn : rangesR many ws = rangesF ws := if_pos hc'
 refine zN ?_
 refine qR [_] rfl ?_
 refine qM ?_
 refine qC (qA rfl ?_)
 refine asS rfl ?_
 refine qC (qC (qA rfl ?_))
 refine mvS rfl ?_
 refine qB (wP rfl rfl) ?_
 refine mvI rfl ?_
 refine qT ?_
 refine yC [5, 7, 8, 9, 10, 19, 20, 21, 22, 23, 24, 25, 26, 27, 28, 29, 30, 31, 32, 33, 34, 35, 36, 37, 38, 39, 40, 41] 1 (α:=Nat × Acc × List Rg) (fun ⟨k, a, ls⟩ => [(19, .int .i64 k), (5, .slice a.A a.n a.c)]) (fun ⟨k, a, ls⟩ L => L.set 0 (a.p)) (fun ⟨k, a, ls⟩ h_k => k ≤ ws.length ∧ rangesF (ws.take k) = some ls ∧ AccR 56 2 (ls.flatMap rgC) a) (fun ⟨k, a, ls⟩ => ws.length - k) ((0, acc0, [])) ⟨rfl, rfl, trivial⟩ (rfl) (⟨Nat.zero_le _, rfl, accR0⟩) ?_
 rintro ⟨k, a, ls⟩ T1 h_k E_k J_k
 refine qR [_] rfl ?_
 obtain ⟨K1, K2, KA⟩ := J_k
 have hLk : ls.length = k := by rw [kO K2, List.length_take]; omega
 have hfl : (ls.flatMap rgC).length = k * 2 := by rw [wO (m:=2) (fun _ _ => rfl)]; omega
 refine qC (qA rfl ?_)
 refine pvB rfl ?_
 refine qC ?_
 refine qP rfl (fun hk => ?_) (fun hk => ?_)
 ·skip
  have hkl : k < ws.length := ltI hk
  have hwl := hw _ (List.getElem_mem hkl)
  have hst := rangesF_step hkl K2
  obtain ⟨g, off, hA, hcl⟩ := (R.ext E_k).at (by omega) hkl
  refine qM ?_
  refine qC ?_
  refine qT ?_
  refine qC (qA rfl ?_)
  refine qB (wK rfl hA rfl rfl rfl (by omega) (by omega)) ?_
  refine wX (v:=.string _) rfl rfl ((hcl) 0 _ rfl) ?_
  refine asT rfl ?_
  refine qC (qA rfl ?_)
  refine mvT rfl ?_
  refine wI (caps:=[]) (vs:=[.string _, .string _]) rfl rfl rfl (Cut_ok ws[k] 47 h_k (by omega)) ?_
  rintro v1 h1 E1 hv1
  cases q : idxO 47 ws[k] with
  | none =>
   have hnone : rangeR ws[k] = none := by
    unfold rangeR
    rw [splitL_no (idxO_none q)]
   have hnn : rangesR many ws = none := by rw [hn]; exact rangesF_stop (k:=k + 1) (by rw [hst, hnone]; rfl)
   have hv2 : v1 = .tuple #[.string (bs ws[k]), .string (bs []), .bool false] := by rw [hv1]; unfold cutV; rw [q]
   subst hv2
   refine qB (qK (v:=.tuple #[.string _, .string _, .bool _]) rfl) ?_
   refine qB (wL (v:=.string _) rfl) ?_
   refine qB (wL (v:=.string _) rfl) ?_
   refine pvB rfl ?_
   refine asT rfl ?_
   refine asT rfl ?_
   refine asB rfl ?_
   refine qC (qC (qA rfl ?_))
   refine mvB rfl ?_
   refine pvB rfl ?_
   refine wW rfl (rfl) ?_
   refine qA rfl ?_
   refine qB (zD (zc:=[]) (vs:=[]) (cs:=[]) rfl rfl rfl rfl rfl rfl) ?_
   refine qB (wL (v:=_) rfl) ?_
   refine kF rfl ?_
   exact fun V => ⟨rfl, (kX (kX E_k E1) (qN V)), hnn, rfl⟩
  | some i =>
   have hv2 : v1 = .tuple #[.string (bs (ws[k].take i)), .string (bs (ws[k].drop (i + 1))), .bool true] := by rw [hv1]; unfold cutV; rw [q]
   have hr := rangeR_at q
   subst hv2
   refine qB (qK (v:=.tuple #[.string _, .string _, .bool _]) rfl) ?_
   refine qB (wL (v:=.string _) rfl) ?_
   refine qB (wL (v:=.string _) rfl) ?_
   refine pvB rfl ?_
   refine asT rfl ?_
   refine asT rfl ?_
   refine asB rfl ?_
   refine qC (qC (qA rfl ?_))
   refine mvB rfl ?_
   refine pvB rfl ?_
   refine wS rfl (rfl) ?_
   refine qM ?_
   refine qA rfl ?_
   refine mvS rfl ?_
   refine mvT rfl ?_
   refine op_fnE (caps:=[]) (vs:=[.string _]) rfl rfl rfl (number_ok (ws[k].take i) h1 (PW.ext (kX E_k E1)) (ER.ext (kX E_k E1)) (by rw [List.length_take]; omega)) (fun v h9 E9 p => ?_) ?_
   ·have hnn : rangesR many ws = none := by rw [hn]; exact rangesF_stop (k:=k + 1) (by rw [hst, hr, p.1]; rfl)
    exact fun V => ⟨rfl, kX (kX E_k E1) (kX E9 (qN V)), hnn, p.2⟩
   rintro _ h9 E9 ⟨m1, hm1, rfl⟩
   refine mvT rfl ?_
   refine op_fnE (caps:=[]) (vs:=[.string _]) rfl rfl rfl (number_ok (ws[k].drop (i + 1)) h9 (PW.ext (kX (kX E_k E1) E9)) (ER.ext (kX (kX E_k E1) E9)) (by rw [List.length_drop]; omega)) (fun v h10 E10 p => ?_) ?_
   ·have hnn : rangesR many ws = none := by rw [hn]; exact rangesF_stop (k:=k + 1) (by rw [hst, hr, hm1, p.1]; rfl)
    exact fun V => ⟨rfl, kX (kX (kX E_k E1) E9) (kX E10 (qN V)), hnn, p.2⟩
   rintro _ h10 E10 ⟨m2, hm2, rfl⟩
   have hst2 : rangesF (ws.take (k + 1)) = some (ls ++ [⟨m1, m2⟩]) := by rw [hst, hr, hm1, hm2]; rfl
   refine qB (zD (zc:=[_, _]) (vs:=[(0, .int .i64 _), (1, .int .i64 _)]) (cs:=[_, _]) rfl rfl rfl rfl rfl rfl) ?_
   refine wG (zc:=[_, _]) (vs:=[(0, .agg #[.int .i64 _, .int .i64 _])]) (cs:=[_, _]) rfl rfl rfl rfl rfl rfl rfl fun b39 hb39 => ?_
   refine qH [_, _] rfl ?_
   refine zE 0 KA rfl rfl rfl (fun V => rdP V (i:=1) rfl) rfl rfl rfl rfl rfl rfl rfl rfl rfl (by omega) rfl (by rw [hfl]; simp only [List.length_cons, List.length_nil]; omega) fun a2 h2a E2a ha2 => ?_
   refine qH [_, _] rfl ?_
   refine asS rfl ?_
   refine qA rfl ?_
   refine qB (qO rfl (by omega)) ?_
   refine mvI rfl ?_
   refine ⟨(k + 1, a2, ls ++ [⟨m1, m2⟩]), ⟨rfl, rfl, trivial⟩, rfl, rfl, (kX (kX (kX (kX E_k E1) E9) E10) E2a), fun h3 E3 => ⟨hkl, hst2, by rw [List.flatMap_append]; exact ha2⟩, by first | omega | (dsimp only; omega), ?_⟩
   repeat (first | exact qV _ _ _ | refine qX (by decide) ?_ | refine qU rfl ?_ | refine qY rfl ?_)
 skip
 have hke : k = ws.length := by have := geI hk; omega
 subst hke
 rw [List.take_length] at K2
 refine wV ?_
 refine qC (qA rfl ?_)
 refine mvS rfl ?_
 refine asS rfl ?_
 refine qQ ?_
 refine qJ (vs:=[_]) Tryz.results91 ⟨qG rfl rfl, trivial⟩ fun V => ?_
 obtain ⟨A9, c9, e9, R9⟩ := AccP.row (m:=2) (enc:=rgC) (i:=0) (l:=ls) KA (by omega) (fun _ _ => rfl) V rfl
 exact ⟨(kX E_k (qN V)), ls, A9, c9, by rw [hn, K2], e9, R9⟩
end
end Go.Proofs.YtboigjfgpppeaaaGreatDoor
namespace Go.Rd
open Go.HL
set_option linter.all false
theorem split_len {c : UInt8} : ∀ {t : List UInt8}, ∀ r ∈ splitL c t, r.length ≤ t.length
 | [], r, hr => by simp [splitL] at hr; subst hr; simp
 | b :: t, r, hr => by
  have ih := @split_len c t
  rw [splitL_cons] at hr
  split at hr
  ·rcases List.mem_cons.1 hr with rfl | hr
   ·simp
   have := ih r hr; rw [List.length_cons]; omega
  cases h : splitL c t with
  | nil => exact absurd h (kN c t)
  | cons x xs =>
   rw [h] at hr ih
   rcases List.mem_cons.1 hr with rfl | hr
   ·have := ih x (by simp); rw [List.length_cons, List.length_cons]; omega
   have := ih r (by simp [hr]); rw [List.length_cons]; omega
theorem row_tail [Lvl] {h : Go.HL.AH} {A : Option Go.Addr} {w : List UInt8} {wr : List (List UInt8)} {cap : Nat} (R : Go.Wx.Row h 1 strC A (w :: wr)) (hc : wr.length + 1 ≤ cap) : Go.Wx.Row h 1 strC (if cap = 1 then A else A.map (·.add (1 * 1))) wr := by
 refine ⟨fun _ _ => rfl, ?_⟩
 by_cases h1 : cap = 1
 ·have : wr = [] := List.eq_nil_of_length_eq_zero (by omega)
  subst this
  exact Rd.nil _ _
 rw [if_neg h1]
 have := rd_drop R.2 1
 exact this
end Go.Rd
namespace Go.Proofs.YtboigjfgpppeaaaGreatDoor
open Go Go.HL Go.Proofs Go.Wx Go.Rd
structure SAcc where
 aH : Acc
 aD : Acc
 aJ : Acc
 aR : Acc
abbrev sCells (x : SAcc) : List Value := [.slice x.aH.A x.aH.n x.aH.c, .slice x.aD.A x.aD.n x.aD.c, .slice x.aJ.A x.aJ.n x.aJ.c, .slice x.aR.A x.aR.n x.aR.c]
abbrev sPv (bm : Nat) (x : SAcc) : Pv := [some (bm, .cells (sCells x).toArray 26 (0, 0)), x.aH.p, x.aD.p, x.aJ.p, x.aR.p]
structure AccS (s : Season) (x : SAcc) : Prop where
 h : AccR 56 2 (s.heats.flatMap rgC) x.aH
 d : AccR 56 2 (s.damps.flatMap rgC) x.aD
 j : AccR 60 9 (s.joints.flatMap jointC) x.aJ
 r : AccR 63 3 (s.reports.flatMap seenC) x.aR
structure LenS (s : Season) (k : Nat) : Prop where
 h : s.heats.length ≤ k
 d : s.damps.length ≤ k
 j : s.joints.length ≤ k
 r : s.reports.length ≤ k
def seenBad (ws : List (List UInt8)) : Bool := match ws with | [_, _, f] => !(decide (f = failedB)) && !(decide (f = wholeB)) | _ => true
theorem seenBad_none : ∀ {ws : List (List UInt8)}, seenBad ws = true → seenR ws = none
 | [], _ => rfl
 | [_], _ => rfl
 | [_, _], _ => rfl
 | [a, b, f], h => by
  have hn : ¬ (f = failedB ∨ f = wholeB) := by
   intro q
   have h2 : (!(decide (f = failedB)) && !(decide (f = wholeB))) = true := h
   rcases q with q | q
   ·rw [decide_eq_true q] at h2; cases h2
   rw [decide_eq_true q, Bool.and_comm] at h2; cases h2
  exact if_neg hn
 | _ :: _ :: _ :: _ :: _, _ => rfl
theorem seenBad_some : ∀ {ws : List (List UInt8)}, seenBad ws = false → ∃ a b f, ws = [a, b, f] ∧ (f = failedB ∨ f = wholeB)
 | [], h => by cases h
 | [_], h => by cases h
 | [_, _], h => by cases h
 | [a, b, f], h => by
  have h2 : (!(decide (f = failedB)) && !(decide (f = wholeB))) = false := h
  refine ⟨a, b, f, rfl, ?_⟩
  by_cases q : f = failedB
  ·exact .inl q
  rw [decide_eq_false q] at h2
  exact .inr (by simpa using h2)
 | _ :: _ :: _ :: _ :: _, h => by cases h
section
variable [Lvl]
set_option maxRecDepth 100000
theorem number_okT {w : List UInt8} {n : Int} (hn : numS w = some n) (h : AH) (PW : Pow h) (ER : Errs h) (hw : w.length < 2 ^ 20) : FnT Tryz.prog 92 #[.string (bs w)] h (fun v _ => v = .int .i64 n) := by
 refine CallT.mono (number_ok w h PW ER hw) ?_ ?_
 ·rintro v h' ⟨E, m, hm, rfl⟩
  rw [hn] at hm
  cases hm
  exact ⟨E, rfl⟩
 rintro v h' ⟨E, hm, _⟩
 rw [hn] at hm
 cases hm
set_option maxHeartbeats 4000000 in
theorem take_ok (bm : Nat) (s : Season) (x : SAcc) (t : List UInt8) (k : Nat) (h : AH) (PW : Pow h) (ER : Errs h) (ht : t.length < 2 ^ 19) (AS : AccS s x) (LS : LenS s k) (hk : k < 2 ^ 18) :
  FnEM Tryz.prog (.func (.func 69) #[] ([] : List Value).toArray) [.pointer (some ⟨bm, 0, none⟩), .string (bs t)] h (sPv bm x)
  (fun v h' M' => ∃ p s', lineS s t = some (p, s') ∧ v = .int .i64 p ∧ ∃ x', M' = sPv bm x' ∧ AccS s' x')
  (fun v h' M' => lineS s t = none ∧ v = refV ∧ ∃ x', M' = sPv bm x') := by
 have lh := LS.h
 have ld := LS.d
 have lj := LS.j
 have lr := LS.r
 obtain ⟨w, ws, hws⟩ : ∃ w ws, splitL 32 t = w :: ws := by
  cases q : splitL 32 t with
  | nil => exact absurd q (kN 32 _)
  | cons w ws => exact ⟨w, ws, rfl⟩
 have hwl := yX 32 t
 have hwc := cnt_le 32 t
 rw [hws, List.length_cons] at hwl
 have hwn : ∀ r ∈ w :: ws, r.length < 2 ^ 20 := fun r hr => by
  rw [← hws] at hr
  have := split_len r hr
  omega
 have hlo : lineS s t = takeS s w ws := by unfold lineS; rw [hws]
 have hwl2 : (w :: ws).length = ws.length + 1 := rfl
 refine fnEM_body rfl rfl Tryz.func69 rfl Tryz.ntmps69 rfl ?_
 refine qC (qA rfl ?_)
 refine asI rfl ?_
 refine qC (qA rfl ?_)
 refine mvT rfl ?_
 refine wI (caps:=[]) (vs:=[.string _, .string _]) rfl rfl rfl (Split_ok t 32 h (by omega)) ?_
 rintro _ h1 E1 ⟨AW, cW, rfl, RW, hcW⟩
 rw [hws] at RW hcW ⊢
 obtain ⟨g0, f0, hA0, hc0⟩ := RW.at (by decide) (i:=0) (by simp)
 have RT := row_tail RW (by simpa using hcW)
 refine asS rfl ?_
 refine qC (qC (qA rfl ?_))
 refine mvS rfl ?_
 refine qB (wK rfl hA0 rfl rfl rfl (by simp) (by rw [hwl2]; push_cast; omega)) ?_
 refine wX (v:=.string (bs w)) rfl rfl (hc0 0 _ rfl) ?_
 refine qT ?_
 refine qC (qA rfl ?_)
 refine qB (yE rfl rfl) ?_
 refine asB rfl ?_
 refine qP rfl (fun hw1 => ?_) (fun hw1 => ?_)
 ·skip
  have hw1' : w = weekB := of_decide_eq_true hw1
  have htk : takeS s w ws = (weekP ws).map fun x => (1, putW s x) := by unfold takeS; rw [if_pos hw1']
  refine qC (qA rfl ?_)
  refine mvS rfl ?_
  refine qB (pv_sliceLoS (m:=1) 1 (l':=ws.length) (c':=cW - 1) (A':=if cW = 1 then AW else AW.map (·.add (1 * 1))) rfl rfl rfl rfl rfl (by omega) (by omega) rfl (by omega) rfl) ?_
  refine op_fnE (caps:=[]) (vs:=[.slice _ _ _, .int .i64 _]) rfl rfl rfl (wranges_ok ws 2 _ _ h1 (RT.ext (Ext.refl _)) (PW.ext E1) (ER.ext E1) (fun y hy => hwn y (by simp [hy])) (by omega) (by decide)) (fun v h9 E9 p => ?_) ?_
  ·exact fun V => ⟨rfl, _, _, rfl, V, kX E1 E9, by rw [hlo, htk]; unfold weekP; rw [p.1]; rfl, p.2, x, rfl⟩
  rintro _ h9 E9 ⟨l, A9, c9, hl9, rfl, R9⟩
  have hl2 : l.length = 2 := by
   unfold rangesR at hl9
   split at hl9
   ·rename_i hq; rw [kO hl9, hq]
   cases hl9
  match l, hl2 with
  | [a, b], _ =>
   have hr : lineS s t = some (1, putW s (a, b)) := by rw [hlo, htk]; unfold weekP; rw [hl9]; rfl
   obtain ⟨p0, o0, i0, j0⟩ := R9.at (by decide) (i:=0) (by simp)
   obtain ⟨p1, o1, i1, j1⟩ := R9.at (by decide) (i:=1) (by simp)
   refine asS rfl ?_
   refine qC ?_
   refine zL [false, true, true, false, false] rfl rfl rfl ?_
   refine qE (i:=0) rfl (by decide +kernel) (qK (v:=.pointer (some ⟨bm, 0, none⟩)) rfl) ?_
   refine qE (i:=1) rfl (by decide +kernel) (qK (v:=.pointer (some ⟨bm, 0, none⟩)) rfl) ?_
   refine qE (i:=2) rfl (by decide +kernel) (qK (v:=.pointer (some ⟨bm, 0, none⟩)) rfl) ?_
   refine qE (i:=3) rfl (by decide +kernel) (wL (v:=.pointer (some ⟨bm, 0, none⟩)) rfl) ?_
   refine qE (i:=4) rfl (by decide +kernel) (qD rfl rfl rfl rfl 0 rfl) ?_
   refine wD (i:=5) rfl (by decide +kernel) ?_
   refine qL 0 (v:=.slice _ _ _) rfl rfl rfl rfl ?_
   refine qE (i:=6) rfl (by decide +kernel) (qK (v:=.slice _ _ _) rfl) ?_
   refine qE (i:=7) rfl (by decide +kernel) (wK rfl i0 rfl rfl rfl (by simp) (by simp)) ?_
   refine wD (i:=8) rfl (by decide +kernel) ?_
   refine zH rfl rfl rfl rfl (j0) ?_
   refine qE (i:=11) rfl (by decide +kernel) (qK (v:=.pointer (some ⟨bm, 0, none⟩)) rfl) ?_
   refine qE (i:=12) rfl (by decide +kernel) (wL (v:=.pointer (some ⟨bm, 0, none⟩)) rfl) ?_
   refine qE (i:=13) rfl (by decide +kernel) (qD rfl rfl rfl rfl 1 rfl) ?_
   refine wD (i:=14) rfl (by decide +kernel) ?_
   refine qL 0 (v:=.slice _ _ _) rfl rfl rfl rfl ?_
   refine qE (i:=15) rfl (by decide +kernel) (qK (v:=.slice _ _ _) rfl) ?_
   refine qE (i:=16) rfl (by decide +kernel) (wK rfl i1 rfl rfl rfl (by simp) (by simp)) ?_
   refine wD (i:=17) rfl (by decide +kernel) ?_
   refine zH rfl rfl rfl rfl ((j1.ext (Ext.refl _))) ?_
   refine wZ (i:=9) rfl (by decide +kernel) ?_
   refine wG (zc:=[_, _]) (vs:=[(0, .agg #[.int .i64 _, .int .i64 _])]) (cs:=[_, _]) rfl rfl rfl rfl rfl rfl rfl fun b28 hb28 => ?_
   refine ⟨vL hb28 _, ?_⟩
   refine wJ [_, _, _, _, _, _] rfl ?_
   refine wZ (i:=10) rfl (by decide +kernel) ?_
   refine zE 1 AS.h rfl rfl rfl (fun V => rdP V (i:=5) rfl) rfl rfl rfl rfl rfl rfl rfl rfl rfl (by omega) rfl (by rw [wO (m:=2) (fun _ _ => rfl)]; simp only [List.length_cons, List.length_nil]; omega) fun a2 h1a E1a ha2 => ?_
   refine ⟨zJ E1a _, ?_⟩
   refine wJ [_, _, _, _, _, _] rfl ?_
   refine wZ (i:=18) rfl (by decide +kernel) ?_
   refine wG (zc:=[_, _]) (vs:=[(0, .agg #[.int .i64 _, .int .i64 _])]) (cs:=[_, _]) rfl rfl rfl rfl rfl rfl rfl fun b37 hb37 => ?_
   refine ⟨vL hb37 _, ?_⟩
   refine wJ [_, _, _, _, _, _, _] rfl ?_
   refine wU (i:=19) rfl (by decide +kernel) (by decide +kernel) ?_
   refine zE 2 AS.d rfl rfl rfl (fun V => rdP V (i:=6) rfl) rfl rfl rfl rfl rfl rfl rfl rfl rfl (by omega) rfl (by rw [wO (m:=2) (fun _ _ => rfl)]; simp only [List.length_cons, List.length_nil]; omega) fun a3 h2a E2a ha3 => ?_
   refine wJ [_, _, _, _, _, _, _] rfl ?_
   refine qE (i:=20) rfl (by decide +kernel) (wL (v:=.pointer (some ⟨bm, 0, none⟩)) rfl) ?_
   refine qE (i:=21) rfl (by decide +kernel) (qD rfl rfl rfl rfl 0 rfl) ?_
   refine wU (i:=22) rfl (by decide +kernel) (by decide +kernel) ?_
   refine qS 0 (v:=.slice _ _ _) (vs:=[_]) (c':=[_, _, _, _]) rfl rfl rfl rfl rfl rfl rfl rfl rfl ?_
   refine wJ [_, _, _, _, _, _, _] rfl ?_
   refine qE (i:=23) rfl (by decide +kernel) (wL (v:=.pointer (some ⟨bm, 0, none⟩)) rfl) ?_
   refine qE (i:=24) rfl (by decide +kernel) (qD rfl rfl rfl rfl 1 rfl) ?_
   refine wU (i:=25) rfl (by decide +kernel) (by decide +kernel) ?_
   refine qS 0 (v:=.slice _ _ _) (vs:=[_]) (c':=[_, _, _, _]) rfl rfl rfl rfl rfl rfl rfl rfl rfl ?_
   refine wJ [_, _, _, _, _, _, _] rfl ?_
   refine zB rfl ?_
   refine qC (qA rfl ?_)
   refine asI rfl ?_
   refine qQ ?_
   refine qJ (vs:=[_]) Tryz.results69 ⟨qG rfl rfl, trivial⟩ fun V => ?_
   obtain ⟨h10, E10, e10, V10⟩ := yY [_, _] [_, _, _, _, _] V
   exact ⟨h10, _, e10, V10, kX (kX (kX (kX E1 E9) E1a) E2a) E10, 1, putW s (a, b), hr, rfl, ⟨a2, a3, x.aJ, x.aR⟩, rfl, ⟨by show AccR _ 2 ((s.heats ++ [_]).flatMap rgC) a2; rw [List.flatMap_append]; exact ha2, by show AccR _ 2 ((s.damps ++ [_]).flatMap rgC) a3; rw [List.flatMap_append]; exact ha3, AS.j, AS.r⟩⟩
 skip
 have hw1' : ¬ w = weekB := of_decide_eq_false hw1
 refine zU [43, 44, 45] 5 (α:=Unit) (fun u => [(43, .bool (decide (w = waxB ∨ w = leatherB)))]) (fun u L => L) (fun u h_u => True) ?_ ?_
 ·skip
  refine qC (qA rfl ?_)
  refine qB (yE rfl rfl) ?_
  refine asB rfl ?_
  refine qP rfl (fun q1 => ?_) (fun q1 => ?_)
  ·skip
   have q1' : w = waxB := of_decide_eq_true q1
   refine qM ?_
   refine ⟨(), ⟨(by show Value.bool _ = _; rw [q1, decide_eq_true (.inl q1')]), trivial⟩, rfl, rfl, (Ext.refl _), fun h3 E3 => by first | trivial | omega | (refine ⟨?_, ?_⟩ <;> omega), ?_⟩
   repeat (first | exact wQ _ _ | exact qV _ _ _ | refine qX (by decide) ?_ | refine qU rfl ?_ | refine qY rfl ?_)
  skip
  have q1' : ¬ w = waxB := of_decide_eq_false q1
  refine qA rfl ?_
  refine qB (yE rfl rfl) ?_
  refine asB rfl ?_
  refine ⟨(), ⟨(by show Value.bool (decide (w = leatherB)) = _; congr 1; by_cases q2 : w = leatherB <;> simp [q1', q2]), trivial⟩, rfl, rfl, (Ext.refl _), fun h3 E3 => by first | trivial | omega | (refine ⟨?_, ?_⟩ <;> omega), ?_⟩
  repeat (first | exact wQ _ _ | exact qV _ _ _ | refine qX (by decide) ?_ | refine qU rfl ?_ | refine qY rfl ?_)
 rintro u T3 h_u E_u J_u
 refine qR [_, _, _, _, _] rfl ?_
 refine qP rfl (fun hx => ?_) (fun hx => ?_)
 ·skip
  have hx' : w = waxB ∨ w = leatherB := of_decide_eq_true hx
  have htk : takeS s w ws = (jointR (if w = leatherB then 2 else 1) ws).map fun j => (2, putJ s j) := by unfold takeS; rw [if_neg hw1', if_pos hx']
  refine qC (qA rfl ?_)
  refine mvS rfl ?_
  refine qB (pv_sliceLoS (m:=1) 1 (l':=ws.length) (c':=cW - 1) (A':=if cW = 1 then AW else AW.map (·.add (1 * 1))) rfl rfl rfl rfl rfl (by omega) (by omega) rfl (by omega) rfl) ?_
  refine op_fnE (caps:=[]) (vs:=[.slice _ _ _, .int .i64 _]) rfl rfl rfl (wranges_ok ws 4 _ _ h_u (RT.ext E_u) (PW.ext (kX E1 E_u)) (ER.ext (kX E1 E_u)) (fun y hy => hwn y (by simp [hy])) (by omega) (by decide)) (fun v h9 E9 p => ?_) ?_
  ·exact fun V => ⟨rfl, _, _, rfl, V, kX (kX E1 E_u) E9, by rw [hlo, htk]; unfold jointR; rw [p.1]; rfl, p.2, x, rfl⟩
  rintro _ h9 E9 ⟨l, A9, c9, hl9, rfl, R9⟩
  have hl4 : l.length = 4 := by
   unfold rangesR at hl9
   split at hl9
   ·rename_i hq; rw [kO hl9, hq]
   cases hl9
  match l, hl4 with
  | [a, b, c, d], _ =>
   have hr : lineS s t = some (2, putJ s ⟨if w = leatherB then 2 else 1, a, b, c, d⟩) := by rw [hlo, htk]; unfold jointR; rw [hl9]; rfl
   obtain ⟨p0, o0, i0, j0⟩ := R9.at (by decide) (i:=0) (by simp)
   obtain ⟨p1, o1, i1, j1⟩ := R9.at (by decide) (i:=1) (by simp)
   obtain ⟨p2, o2, i2, j2⟩ := R9.at (by decide) (i:=2) (by simp)
   obtain ⟨p3, o3, i3, j3⟩ := R9.at (by decide) (i:=3) (by simp)
   refine asS rfl ?_
   refine qC (qA rfl ?_)
   refine asI rfl ?_
   refine zU [8, 49, 50, 51, 52] 5 (α:=Unit) (fun u2 => [(8, .int .i64 (if w = leatherB then 2 else 1))]) (fun u2 L => L) (fun u2 h_u2 => True) ?_ ?_
   ·skip
    refine qC (qA rfl ?_)
    refine mvS rfl ?_
    refine qB (wK rfl hA0 rfl rfl rfl (by simp) (by rw [hwl2]; push_cast; omega)) ?_
    refine wX (v:=.string (bs w)) rfl rfl ((hc0.ext (kX E_u E9)) 0 _ rfl) ?_
    refine qB (yE rfl rfl) ?_
    refine qP rfl (fun q2 => ?_) (fun q2 => ?_)
    ·skip
     have q2' : w = leatherB := of_decide_eq_true q2
     refine qA rfl ?_
     refine asI rfl ?_
     refine ⟨(), ⟨(by rw [if_pos q2']; rfl), trivial⟩, rfl, rfl, (Ext.refl _), fun h3 E3 => by first | trivial | omega | (refine ⟨?_, ?_⟩ <;> omega), ?_⟩
     repeat (first | exact wQ _ _ | exact qV _ _ _ | refine qX (by decide) ?_ | refine qU rfl ?_ | refine qY rfl ?_)
    skip
    have q2' : ¬ w = leatherB := of_decide_eq_false q2
    refine qM ?_
    refine ⟨(), ⟨(by rw [if_neg q2']; rfl), trivial⟩, rfl, rfl, (Ext.refl _), fun h3 E3 => by first | trivial | omega | (refine ⟨?_, ?_⟩ <;> omega), ?_⟩
    repeat (first | exact wQ _ _ | exact qV _ _ _ | refine qX (by decide) ?_ | refine qU rfl ?_ | refine qY rfl ?_)
   rintro u2 T4 h_u2 E_u2 J_u2
   refine qR [_, _, _, _, _] rfl ?_
   obtain ⟨kd, hkd⟩ : ∃ kd : Int, kd = if w = leatherB then 2 else 1 := ⟨_, rfl⟩
   rw [← hkd] at hr ⊢
   refine qC ?_
   refine zL [] rfl rfl rfl ?_
   refine qE (i:=0) rfl (by decide +kernel) (qK (v:=.pointer (some ⟨bm, 0, none⟩)) rfl) ?_
   refine qE (i:=1) rfl (by decide +kernel) (qK (v:=.pointer (some ⟨bm, 0, none⟩)) rfl) ?_
   refine qE (i:=2) rfl (by decide +kernel) (wL (v:=.pointer (some ⟨bm, 0, none⟩)) rfl) ?_
   refine qE (i:=3) rfl (by decide +kernel) (qD rfl rfl rfl rfl 2 rfl) ?_
   refine wD (i:=4) rfl (by decide +kernel) ?_
   refine qL 0 (v:=.slice _ _ _) rfl rfl rfl rfl ?_
   refine qE (i:=5) rfl (by decide +kernel) (qK (v:=.int .i64 _) rfl) ?_
   refine qE (i:=6) rfl (by decide +kernel) (qK (v:=.slice _ _ _) rfl) ?_
   refine qE (i:=7) rfl (by decide +kernel) (wK rfl i0 rfl rfl rfl (by simp) (by simp)) ?_
   refine wD (i:=8) rfl (by decide +kernel) ?_
   refine zH rfl rfl rfl rfl ((j0.ext E_u2)) ?_
   refine qE (i:=9) rfl (by decide +kernel) (qK (v:=.slice _ _ _) rfl) ?_
   refine qE (i:=10) rfl (by decide +kernel) (wK rfl i1 rfl rfl rfl (by simp) (by simp)) ?_
   refine wD (i:=11) rfl (by decide +kernel) ?_
   refine zH rfl rfl rfl rfl ((j1.ext E_u2)) ?_
   refine qE (i:=12) rfl (by decide +kernel) (qK (v:=.slice _ _ _) rfl) ?_
   refine qE (i:=13) rfl (by decide +kernel) (wK rfl i2 rfl rfl rfl (by simp) (by simp)) ?_
   refine wD (i:=14) rfl (by decide +kernel) ?_
   refine zH rfl rfl rfl rfl ((j2.ext E_u2)) ?_
   refine qE (i:=15) rfl (by decide +kernel) (qK (v:=.slice _ _ _) rfl) ?_
   refine qE (i:=16) rfl (by decide +kernel) (wK rfl i3 rfl rfl rfl (by simp) (by simp)) ?_
   refine wD (i:=17) rfl (by decide +kernel) ?_
   refine zH rfl rfl rfl rfl ((j3.ext E_u2)) ?_
   refine qE (i:=18) rfl (by decide +kernel) (zD (zc:=[_, _, _, _, _, _, _, _, _]) (vs:=[(0, .int .i64 _), (1, .agg #[.int .i64 _, .int .i64 _]), (2, .agg #[.int .i64 _, .int .i64 _]), (3, .agg #[.int .i64 _, .int .i64 _]), (4, .agg #[.int .i64 _, .int .i64 _])]) (cs:=[_, _, _, _, _, _, _, _, _]) rfl rfl rfl rfl rfl rfl) ?_
   refine wZ (i:=19) rfl (by decide +kernel) ?_
   refine wG (zc:=[_, _, _, _, _, _, _, _, _]) (vs:=[(0, .agg #[.int .i64 _, .int .i64 _, .int .i64 _, .int .i64 _, .int .i64 _, .int .i64 _, .int .i64 _, .int .i64 _, .int .i64 _])]) (cs:=[_, _, _, _, _, _, _, _, _]) rfl rfl rfl rfl rfl rfl rfl fun b72 hb72 => ?_
   refine ⟨yK hb72 _, ?_⟩
   refine wJ [_, _, _, _, _, _] rfl ?_
   refine wU (i:=20) rfl (by decide +kernel) (by decide +kernel) ?_
   refine zE 3 AS.j rfl rfl rfl (fun V => rdP V (i:=5) rfl) rfl rfl rfl rfl rfl rfl rfl rfl rfl (by omega) rfl (by rw [wO (m:=9) (fun _ _ => rfl)]; simp only [List.length_cons, List.length_nil]; omega) fun a2 h5a E5a ha2 => ?_
   refine wJ [_, _, _, _, _, _] rfl ?_
   refine qE (i:=21) rfl (by decide +kernel) (wL (v:=.pointer (some ⟨bm, 0, none⟩)) rfl) ?_
   refine qE (i:=22) rfl (by decide +kernel) (qD rfl rfl rfl rfl 2 rfl) ?_
   refine wU (i:=23) rfl (by decide +kernel) (by decide +kernel) ?_
   refine qS 0 (v:=.slice _ _ _) (vs:=[_]) (c':=[_, _, _, _]) rfl rfl rfl rfl rfl rfl rfl rfl rfl ?_
   refine wJ [_, _, _, _, _, _] rfl ?_
   refine zB rfl ?_
   refine qC (qA rfl ?_)
   refine asI rfl ?_
   refine qQ ?_
   refine qJ (vs:=[_]) Tryz.results69 ⟨qG rfl rfl, trivial⟩ fun V => ?_
   obtain ⟨h10, E10, e10, V10⟩ := yY [_] [_, _, _, _, _] V
   exact ⟨h10, _, e10, V10, kX (kX (kX (kX (kX E1 E_u) E9) E_u2) E5a) E10, 2, _, hr, rfl, ⟨x.aH, x.aD, a2, x.aR⟩, rfl, ⟨AS.h, AS.d, by show AccR _ 9 ((s.joints ++ [_]).flatMap jointC) a2; rw [List.flatMap_append]; exact ha2, AS.r⟩⟩
 skip
 have hx' : ¬ (w = waxB ∨ w = leatherB) := of_decide_eq_false hx
 refine qC (qA rfl ?_)
 refine qB (yE rfl rfl) ?_
 refine asB rfl ?_
 refine qP rfl (fun hs => ?_) (fun hs => ?_)
 ·skip
  have hs' : w = seenB := of_decide_eq_true hs
  have htk : takeS s w ws = (seenR ws).map fun r => (3, putR s r) := by unfold takeS; rw [if_neg hw1', if_neg hx', if_pos hs']
  refine qC ?_
  refine zU [78, 79, 80, 81, 82, 83, 84, 85, 86, 87, 88, 89, 90, 91, 92] 5 (α:=Unit) (fun u3 => [(92, .bool (seenBad ws))]) (fun u3 L => L) (fun u3 h_u3 => True) ?_ ?_
  ·skip
   by_cases h3 : ws.length = 3
   ·obtain ⟨a, b, f, hwsf⟩ : ∃ a b f, ws = [a, b, f] := by
     match ws, h3 with
     | [a, b, f], _ => exact ⟨a, b, f, rfl⟩
    subst hwsf
    obtain ⟨g3, f3, hA3, hc3⟩ := RW.at (by decide) (i:=3) (by simp)
    have gA : ((([w, a, b, f].length : Nat) : Int) != 4) = false := rfl
    refine qA rfl ?_
    refine mvS rfl ?_
    refine qB (wP rfl rfl) ?_
    refine pvB rfl ?_
    refine mvB rfl ?_
    refine qF rfl gA ?_
    refine mvS rfl ?_
    refine qF rfl gA ?_
    refine qB (wK rfl hA3 rfl rfl rfl (by simp) (by simp)) ?_
    refine qF rfl gA ?_
    refine wX (v:=.string (bs f)) rfl rfl ((hc3.ext E_u) 0 _ rfl) ?_
    by_cases hf : f = failedB
    ·have gB : (!decide (f = failedB)) = false := by rw [decide_eq_true hf]; rfl
     have hbd : seenBad [a, b, f] = false := by unfold seenBad; simp [hf]
     refine qF rfl gA ?_
     refine qB (kE rfl rfl) ?_
     refine qF rfl gA ?_
     refine mvB rfl ?_
     refine qI rfl gB ?_
     refine qI rfl gB ?_
     refine qI rfl gB ?_
     refine qI rfl gB ?_
     refine qF rfl gA ?_
     refine qB (wM rfl gB (v:=.bool _) rfl) ?_
     refine qB (wM rfl gA (v:=.bool _) rfl) ?_
     refine ⟨(), ⟨(by rw [hbd]; rfl), trivial⟩, rfl, rfl, (Ext.refl _), fun h3 E3 => by first | trivial | omega | (refine ⟨?_, ?_⟩ <;> omega), ?_⟩
     repeat (first | exact wQ _ _ | exact qV _ _ _ | refine qX (by decide) ?_ | refine qU rfl ?_ | refine qY rfl ?_)
    skip
    have gB : (!decide (f = failedB)) = true := by rw [decide_eq_false hf]; rfl
    refine qF rfl gA ?_
    refine qB (kE rfl rfl) ?_
    refine qF rfl gA ?_
    refine mvB rfl ?_
    refine qF rfl gB ?_
    refine mvS rfl ?_
    refine qF rfl gB ?_
    refine qB (wK rfl hA3 rfl rfl rfl (by simp) (by simp)) ?_
    refine qF rfl gB ?_
    refine wX (v:=.string (bs f)) rfl rfl ((hc3.ext E_u) 0 _ rfl) ?_
    refine qF rfl gB ?_
    refine qB (kE rfl rfl) ?_
    refine qF rfl gA ?_
    refine qB (wN rfl gB (v:=.bool _) rfl) ?_
    refine qB (wM rfl gA (v:=.bool _) rfl) ?_
    have hbd : seenBad [a, b, f] = !decide (f = wholeB) := by unfold seenBad; simp [hf]
    refine ⟨(), ⟨(by rw [hbd]; rfl), trivial⟩, rfl, rfl, (Ext.refl _), fun h3 E3 => by first | trivial | omega | (refine ⟨?_, ?_⟩ <;> omega), ?_⟩
    repeat (first | exact wQ _ _ | exact qV _ _ _ | refine qX (by decide) ?_ | refine qU rfl ?_ | refine qY rfl ?_)
   skip
   have gA : ((((w :: ws).length : Nat) : Int) != 4) = true := by
    have : (((w :: ws).length : Nat) : Int) ≠ 4 := by rw [hwl2]; omega
    simpa using this
   have hbd : seenBad ws = true := by
    unfold seenBad
    split
    ·exact absurd rfl h3
    rfl
   refine qA rfl ?_
   refine mvS rfl ?_
   refine qB (wP rfl rfl) ?_
   refine pvB rfl ?_
   refine mvB rfl ?_
   refine qI rfl gA ?_
   refine qI rfl gA ?_
   refine qI rfl gA ?_
   refine qI rfl gA ?_
   refine qI rfl gA ?_
   refine zG rfl ?_
   refine zG rfl ?_
   refine zG rfl ?_
   refine zG rfl ?_
   refine qI rfl gA ?_
   refine qB (wN rfl gA (v:=.bool _) rfl) ?_
   refine ⟨(), ⟨(by rw [hbd]; rfl), trivial⟩, rfl, rfl, (Ext.refl _), fun h3 E3 => by first | trivial | omega | (refine ⟨?_, ?_⟩ <;> omega), ?_⟩
   repeat (first | exact wQ _ _ | exact qV _ _ _ | refine qX (by decide) ?_ | refine qU rfl ?_ | refine qY rfl ?_)
  rintro u3 T6 h_u3 E_u3 J_u3
  refine qR [_, _, _, _, _] rfl ?_
  refine qP rfl (fun hbad => ?_) (fun hbad => ?_)
  ·skip
   have hno : seenR ws = none := seenBad_none hbad
   refine qA rfl ?_
   refine qB (zD (zc:=[]) (vs:=[]) (cs:=[]) rfl rfl rfl rfl rfl rfl) ?_
   refine qB (wL (v:=_) rfl) ?_
   refine kF rfl ?_
   exact fun V => ⟨rfl, _, _, rfl, V, (kX (kX E1 E_u) E_u3), by rw [hlo, htk, hno]; rfl, rfl, x, rfl⟩
  skip
  obtain ⟨a, b, f, rfl, hf⟩ := seenBad_some hbad
  have hsr : seenR [a, b, f] = (numS a).bind fun x => (numS b).map fun y => ⟨x, y, decide (f = failedB)⟩ := by unfold seenR; exact if_pos hf
  obtain ⟨g1, f1, hA1, hc1⟩ := RW.at (by decide) (i:=1) (by simp)
  obtain ⟨g2, f2, hA2, hc2⟩ := RW.at (by decide) (i:=2) (by simp)
  obtain ⟨g3, f3, hA3, hc3⟩ := RW.at (by decide) (i:=3) (by simp)
  refine qM ?_
  cases hm : numS a with
  | none =>
   have hno : seenR [a, b, f] = none := by rw [hsr, hm]; rfl
   refine qC ?_
   refine xp_panic (Ex:=fun v H => v = refV ∧ ∃ h', H = wl h' (sPv bm x) ∧ Valid h' (sPv bm x) ∧ Ext h_u3 h') rfl rfl rfl ?_ (fun j => match j with | 0 => .pointer (some ⟨bm, 0, none⟩) | 1 => .pointer (some ⟨bm, 0, none⟩) | 2 => .pointer (some ⟨bm, 0, none⟩) | 3 => .pointer (some ⟨bm, 3, none⟩) | 4 => .slice x.aR.A x.aR.n x.aR.c | 5 => .slice AW (w :: [a, b, f]).length cW | 6 => .pointer (some ⟨g1, f1 + (1 : Int).toNat * 1, none⟩) | 7 => .string (bs a) | 9 => .slice AW (w :: [a, b, f]).length cW | 10 => .pointer (some ⟨g2, f2 + (2 : Int).toNat * 1, none⟩) | 11 => .string (bs b) | 13 => .slice AW (w :: [a, b, f]).length cW | 14 => .pointer (some ⟨g3, f3 + (3 : Int).toNat * 1, none⟩) | 15 => .string (bs f) | 16 => .bool (decide (f = failedB)) | 20 => .pointer (some ⟨bm, 0, none⟩) | 21 => .pointer (some ⟨bm, 3, none⟩) | _ => undef) [0, 1, 2, 3, 4, 5, 6, 7, 9, 10, 11, 13, 14, 15, 16, 20, 21] 8 95 rfl rfl rfl rfl ?_ ?_
   ·rintro S2 v H F9 ⟨hv, h9, e9, V9, E9⟩
    exact ⟨_, h9, e9, V9, fun V => ⟨rfl, _, _, rfl, V, kX (kX (kX E1 E_u) E_u3) E9, by rw [hlo, htk, hno]; rfl, hv, x, rfl⟩⟩
   ·intro V j hj
    have hj2 := (el_mem _ _).1 hj
    simp only [List.mem_cons, List.not_mem_nil, or_false] at hj2
    rcases hj2 with rfl | rfl | rfl | rfl | rfl | rfl | rfl | rfl | rfl | rfl | rfl | rfl | rfl | rfl | rfl | rfl | rfl
    ·refine ⟨_, rfl, fun S2 H hS hV hF hI => ?_⟩
     exact zR rfl hF hI (qK (v:=.pointer (some ⟨bm, 0, none⟩)) (hS 0 (by decide)))
    ·refine ⟨_, rfl, fun S2 H hS hV hF hI => ?_⟩
     exact zR rfl hF hI (qK (v:=.pointer (some ⟨bm, 0, none⟩)) (hS 0 (by decide)))
    ·refine ⟨_, rfl, fun S2 H hS hV hF hI => ?_⟩
     exact zR rfl hF hI (pv_nil (hV 1 96 rfl rfl))
    ·refine ⟨_, rfl, fun S2 H hS hV hF hI => ?_⟩
     exact zR rfl hF hI (qD (show ev 124 S2 (.tmp 97) = .pointer (some ⟨bm, 0, none⟩) from hV 2 97 rfl rfl) rfl rfl rfl 3 rfl)
    ·refine ⟨_, rfl, fun S2 H hS hV hF hI => ?_⟩
     exact kT hF hI (hV 3 98 rfl rfl) rfl (by obtain ⟨h8, e8, V8, _⟩ := hI; rw [e8]; unfold cellA; rw [zP V8 (i:=0) rfl]; rfl)
    ·refine ⟨_, rfl, fun S2 H hS hV hF hI => ?_⟩
     exact zR rfl hF hI (qK (v:=.slice AW (w :: [a, b, f]).length cW) (hS 5 (by decide)))
    ·refine ⟨_, rfl, fun S2 H hS hV hF hI => ?_⟩
     exact zR rfl hF hI (wK (hV 5 100 rfl rfl) hA1 rfl rfl rfl (by simp) (by simp))
    ·refine ⟨_, rfl, fun S2 H hS hV hF hI => ?_⟩
     exact kT hF hI (hV 6 101 rfl rfl) rfl (by obtain ⟨h8, e8, V8, E8⟩ := hI; rw [e8]; exact (hc1.ext (((kX E_u E_u3)).trans (E8.trans (qN V8)))) 0 _ rfl)
    ·refine ⟨_, rfl, fun S2 H hS hV hF hI => ?_⟩
     exact zR rfl hF hI (qK (v:=.slice AW (w :: [a, b, f]).length cW) (hS 5 (by decide)))
    ·refine ⟨_, rfl, fun S2 H hS hV hF hI => ?_⟩
     exact zR rfl hF hI (wK (hV 9 104 rfl rfl) hA2 rfl rfl rfl (by simp) (by simp))
    ·refine ⟨_, rfl, fun S2 H hS hV hF hI => ?_⟩
     exact kT hF hI (hV 10 105 rfl rfl) rfl (by obtain ⟨h8, e8, V8, E8⟩ := hI; rw [e8]; exact (hc2.ext (((kX E_u E_u3)).trans (E8.trans (qN V8)))) 0 _ rfl)
    ·refine ⟨_, rfl, fun S2 H hS hV hF hI => ?_⟩
     exact zR rfl hF hI (qK (v:=.slice AW (w :: [a, b, f]).length cW) (hS 5 (by decide)))
    ·refine ⟨_, rfl, fun S2 H hS hV hF hI => ?_⟩
     exact zR rfl hF hI (wK (hV 13 108 rfl rfl) hA3 rfl rfl rfl (by simp) (by simp))
    ·refine ⟨_, rfl, fun S2 H hS hV hF hI => ?_⟩
     exact kT hF hI (hV 14 109 rfl rfl) rfl (by obtain ⟨h8, e8, V8, E8⟩ := hI; rw [e8]; exact (hc3.ext (((kX E_u E_u3)).trans (E8.trans (qN V8)))) 0 _ rfl)
    ·refine ⟨_, rfl, fun S2 H hS hV hF hI => ?_⟩
     exact zR rfl hF hI (yE (hV 15 110 rfl rfl) rfl)
    ·refine ⟨_, rfl, fun S2 H hS hV hF hI => ?_⟩
     exact zR rfl hF hI (pv_nil (hV 0 95 rfl rfl))
    refine ⟨_, rfl, fun S2 H hS hV hF hI => ?_⟩
    exact zR rfl hF hI (qD (show ev 124 S2 (.tmp 115) = .pointer (some ⟨bm, 0, none⟩) from hV 20 115 rfl rfl) rfl rfl rfl 3 rfl)
   intro V
   refine ⟨_, rfl, fun S2 H hS hV hF hI => ?_⟩
   obtain ⟨h8, rfl, V8, E8⟩ := hI
   refine mild_call (caps:=[]) (vs:=[.string (bs a)]) V8 rfl rfl (congrArg (fun z => [z]) (hV 7 102 rfl rfl)) (number_ok a h8 (PW.ext (((kX (kX E1 E_u) E_u3)).trans E8)) (ER.ext (((kX (kX E1 E_u) E_u3)).trans E8)) (hwn _ (by simp))) ?_ ?_
   ·rintro v h7 V7 E7 ⟨_, hv⟩; exact ⟨hv, h7, rfl, V7, E8.trans E7⟩
   rintro v h7 F7 V7 E7 ⟨m7, q7, _⟩; rw [hm] at q7; cases q7
  | some m =>
   cases hn : numS b with
   | none =>
    have hno : seenR [a, b, f] = none := by rw [hsr, hm, hn]; rfl
    refine qC ?_
    refine xp_panic (Ex:=fun v H => v = refV ∧ ∃ h', H = wl h' (sPv bm x) ∧ Valid h' (sPv bm x) ∧ Ext h_u3 h') rfl rfl rfl ?_ (fun j => match j with | 0 => .pointer (some ⟨bm, 0, none⟩) | 1 => .pointer (some ⟨bm, 0, none⟩) | 2 => .pointer (some ⟨bm, 0, none⟩) | 3 => .pointer (some ⟨bm, 3, none⟩) | 4 => .slice x.aR.A x.aR.n x.aR.c | 5 => .slice AW (w :: [a, b, f]).length cW | 6 => .pointer (some ⟨g1, f1 + (1 : Int).toNat * 1, none⟩) | 7 => .string (bs a) | 8 => .int .i64 m | 9 => .slice AW (w :: [a, b, f]).length cW | 10 => .pointer (some ⟨g2, f2 + (2 : Int).toNat * 1, none⟩) | 11 => .string (bs b) | 13 => .slice AW (w :: [a, b, f]).length cW | 14 => .pointer (some ⟨g3, f3 + (3 : Int).toNat * 1, none⟩) | 15 => .string (bs f) | 16 => .bool (decide (f = failedB)) | 20 => .pointer (some ⟨bm, 0, none⟩) | 21 => .pointer (some ⟨bm, 3, none⟩) | _ => undef) [0, 1, 2, 3, 4, 5, 6, 7, 8, 9, 10, 11, 13, 14, 15, 16, 20, 21] 12 95 rfl rfl rfl rfl ?_ ?_
    ·rintro S2 v H F9 ⟨hv, h9, e9, V9, E9⟩
     exact ⟨_, h9, e9, V9, fun V => ⟨rfl, _, _, rfl, V, kX (kX (kX E1 E_u) E_u3) E9, by rw [hlo, htk, hno]; rfl, hv, x, rfl⟩⟩
    ·intro V j hj
     have hj2 := (el_mem _ _).1 hj
     simp only [List.mem_cons, List.not_mem_nil, or_false] at hj2
     rcases hj2 with rfl | rfl | rfl | rfl | rfl | rfl | rfl | rfl | rfl | rfl | rfl | rfl | rfl | rfl | rfl | rfl | rfl | rfl
     ·refine ⟨_, rfl, fun S2 H hS hV hF hI => ?_⟩
      exact zR rfl hF hI (qK (v:=.pointer (some ⟨bm, 0, none⟩)) (hS 0 (by decide)))
     ·refine ⟨_, rfl, fun S2 H hS hV hF hI => ?_⟩
      exact zR rfl hF hI (qK (v:=.pointer (some ⟨bm, 0, none⟩)) (hS 0 (by decide)))
     ·refine ⟨_, rfl, fun S2 H hS hV hF hI => ?_⟩
      exact zR rfl hF hI (pv_nil (hV 1 96 rfl rfl))
     ·refine ⟨_, rfl, fun S2 H hS hV hF hI => ?_⟩
      exact zR rfl hF hI (qD (show ev 124 S2 (.tmp 97) = .pointer (some ⟨bm, 0, none⟩) from hV 2 97 rfl rfl) rfl rfl rfl 3 rfl)
     ·refine ⟨_, rfl, fun S2 H hS hV hF hI => ?_⟩
      exact kT hF hI (hV 3 98 rfl rfl) rfl (by obtain ⟨h8, e8, V8, _⟩ := hI; rw [e8]; unfold cellA; rw [zP V8 (i:=0) rfl]; rfl)
     ·refine ⟨_, rfl, fun S2 H hS hV hF hI => ?_⟩
      exact zR rfl hF hI (qK (v:=.slice AW (w :: [a, b, f]).length cW) (hS 5 (by decide)))
     ·refine ⟨_, rfl, fun S2 H hS hV hF hI => ?_⟩
      exact zR rfl hF hI (wK (hV 5 100 rfl rfl) hA1 rfl rfl rfl (by simp) (by simp))
     ·refine ⟨_, rfl, fun S2 H hS hV hF hI => ?_⟩
      exact kT hF hI (hV 6 101 rfl rfl) rfl (by obtain ⟨h8, e8, V8, E8⟩ := hI; rw [e8]; exact (hc1.ext (((kX E_u E_u3)).trans (E8.trans (qN V8)))) 0 _ rfl)
     ·refine ⟨_, rfl, fun S2 H hS hV hF hI => ?_⟩
      obtain ⟨h8, rfl, V8, E8⟩ := hI
      refine mild_call (caps:=[]) (vs:=[.string (bs a)]) V8 rfl rfl (congrArg (fun z => [z]) (hV 7 102 rfl rfl)) (number_ok a h8 (PW.ext (((kX (kX E1 E_u) E_u3)).trans E8)) (ER.ext (((kX (kX E1 E_u) E_u3)).trans E8)) (hwn _ (by simp))) ?_ ?_
      ·rintro v h7 V7 E7 ⟨q7, _⟩; rw [hm] at q7; cases q7
      rintro v h7 F7 V7 E7 ⟨m7, q7, rfl⟩
      rw [hm] at q7; cases q7
      exact ⟨rfl, F7, h7, rfl, V7, E8.trans E7⟩
     ·refine ⟨_, rfl, fun S2 H hS hV hF hI => ?_⟩
      exact zR rfl hF hI (qK (v:=.slice AW (w :: [a, b, f]).length cW) (hS 5 (by decide)))
     ·refine ⟨_, rfl, fun S2 H hS hV hF hI => ?_⟩
      exact zR rfl hF hI (wK (hV 9 104 rfl rfl) hA2 rfl rfl rfl (by simp) (by simp))
     ·refine ⟨_, rfl, fun S2 H hS hV hF hI => ?_⟩
      exact kT hF hI (hV 10 105 rfl rfl) rfl (by obtain ⟨h8, e8, V8, E8⟩ := hI; rw [e8]; exact (hc2.ext (((kX E_u E_u3)).trans (E8.trans (qN V8)))) 0 _ rfl)
     ·refine ⟨_, rfl, fun S2 H hS hV hF hI => ?_⟩
      exact zR rfl hF hI (qK (v:=.slice AW (w :: [a, b, f]).length cW) (hS 5 (by decide)))
     ·refine ⟨_, rfl, fun S2 H hS hV hF hI => ?_⟩
      exact zR rfl hF hI (wK (hV 13 108 rfl rfl) hA3 rfl rfl rfl (by simp) (by simp))
     ·refine ⟨_, rfl, fun S2 H hS hV hF hI => ?_⟩
      exact kT hF hI (hV 14 109 rfl rfl) rfl (by obtain ⟨h8, e8, V8, E8⟩ := hI; rw [e8]; exact (hc3.ext (((kX E_u E_u3)).trans (E8.trans (qN V8)))) 0 _ rfl)
     ·refine ⟨_, rfl, fun S2 H hS hV hF hI => ?_⟩
      exact zR rfl hF hI (yE (hV 15 110 rfl rfl) rfl)
     ·refine ⟨_, rfl, fun S2 H hS hV hF hI => ?_⟩
      exact zR rfl hF hI (pv_nil (hV 0 95 rfl rfl))
     refine ⟨_, rfl, fun S2 H hS hV hF hI => ?_⟩
     exact zR rfl hF hI (qD (show ev 124 S2 (.tmp 115) = .pointer (some ⟨bm, 0, none⟩) from hV 20 115 rfl rfl) rfl rfl rfl 3 rfl)
    intro V
    refine ⟨_, rfl, fun S2 H hS hV hF hI => ?_⟩
    obtain ⟨h8, rfl, V8, E8⟩ := hI
    refine mild_call (caps:=[]) (vs:=[.string (bs b)]) V8 rfl rfl (congrArg (fun z => [z]) (hV 11 106 rfl rfl)) (number_ok b h8 (PW.ext (((kX (kX E1 E_u) E_u3)).trans E8)) (ER.ext (((kX (kX E1 E_u) E_u3)).trans E8)) (hwn _ (by simp))) ?_ ?_
    ·rintro v h7 V7 E7 ⟨_, hv⟩; exact ⟨hv, h7, rfl, V7, E8.trans E7⟩
    rintro v h7 F7 V7 E7 ⟨m7, q7, _⟩; rw [hn] at q7; cases q7
   | some n =>
    have hr : lineS s t = some (3, putR s ⟨m, n, decide (f = failedB)⟩) := by rw [hlo, htk, hsr, hm, hn]; rfl
    refine qC ?_
    refine zL [] rfl rfl rfl ?_
    refine qE (i:=0) rfl (by decide +kernel) (qK (v:=.pointer (some ⟨bm, 0, none⟩)) rfl) ?_
    refine qE (i:=1) rfl (by decide +kernel) (qK (v:=.pointer (some ⟨bm, 0, none⟩)) rfl) ?_
    refine qE (i:=2) rfl (by decide +kernel) (wL (v:=.pointer (some ⟨bm, 0, none⟩)) rfl) ?_
    refine qE (i:=3) rfl (by decide +kernel) (qD rfl rfl rfl rfl 3 rfl) ?_
    refine wD (i:=4) rfl (by decide +kernel) ?_
    refine qL 0 (v:=.slice _ _ _) rfl rfl rfl rfl ?_
    refine qE (i:=5) rfl (by decide +kernel) (qK (v:=.slice _ _ _) rfl) ?_
    refine qE (i:=6) rfl (by decide +kernel) (wK rfl hA1 rfl rfl rfl (by simp) (by simp)) ?_
    refine wD (i:=7) rfl (by decide +kernel) ?_
    refine wX (v:=.string (bs a)) rfl rfl ((hc1.ext (kX E_u E_u3)) 0 _ rfl) ?_
    refine qE (i:=9) rfl (by decide +kernel) (qK (v:=.slice _ _ _) rfl) ?_
    refine qE (i:=10) rfl (by decide +kernel) (wK rfl hA2 rfl rfl rfl (by simp) (by simp)) ?_
    refine wD (i:=11) rfl (by decide +kernel) ?_
    refine wX (v:=.string (bs b)) rfl rfl ((hc2.ext (kX E_u E_u3)) 0 _ rfl) ?_
    refine qE (i:=13) rfl (by decide +kernel) (qK (v:=.slice _ _ _) rfl) ?_
    refine qE (i:=14) rfl (by decide +kernel) (wK rfl hA3 rfl rfl rfl (by simp) (by simp)) ?_
    refine wD (i:=15) rfl (by decide +kernel) ?_
    refine wX (v:=.string (bs f)) rfl rfl ((hc3.ext (kX E_u E_u3)) 0 _ rfl) ?_
    refine qE (i:=16) rfl (by decide +kernel) (yE rfl rfl) ?_
    refine wZ (i:=8) rfl (by decide +kernel) ?_
    refine wI (caps:=[]) (vs:=[.string _]) rfl rfl rfl (number_okT hm h_u3 (PW.ext (kX (kX E1 E_u) E_u3)) (ER.ext (kX (kX E1 E_u) E_u3)) (hwn _ (by simp))) ?_
    rintro _ h2 E2 rfl
    refine ⟨zJ E2 _, ?_⟩
    refine wZ (i:=12) rfl (by decide +kernel) ?_
    refine wI (caps:=[]) (vs:=[.string _]) rfl rfl rfl (number_okT hn h2 (PW.ext (kX (kX (kX E1 E_u) E_u3) E2)) (ER.ext (kX (kX (kX E1 E_u) E_u3) E2)) (hwn _ (by simp))) ?_
    rintro _ h3 E3 rfl
    refine ⟨zJ E3 _, ?_⟩
    refine qE (i:=17) rfl (by decide +kernel) (zD (zc:=[_, _, _]) (vs:=[(0, .int .i64 _), (1, .int .i64 _), (2, .bool _)]) (cs:=[_, _, _]) rfl rfl rfl rfl rfl rfl) ?_
    refine wZ (i:=18) rfl (by decide +kernel) ?_
    refine wG (zc:=[_, _, _]) (vs:=[(0, .agg #[.int .i64 _, .int .i64 _, .bool _])]) (cs:=[_, _, _]) rfl rfl rfl rfl rfl rfl rfl fun b113 hb113 => ?_
    refine ⟨yK hb113 _, ?_⟩
    refine wJ [_, _, _, _, _, _] rfl ?_
    refine wU (i:=19) rfl (by decide +kernel) (by decide +kernel) ?_
    refine zE 4 AS.r rfl rfl rfl (fun V => rdP V (i:=5) rfl) rfl rfl rfl rfl rfl rfl rfl rfl rfl (by omega) rfl (by rw [wO (m:=3) (fun _ _ => rfl)]; simp only [List.length_cons, List.length_nil]; omega) fun a2 h7a E7a ha2 => ?_
    refine wJ [_, _, _, _, _, _] rfl ?_
    refine qE (i:=20) rfl (by decide +kernel) (wL (v:=.pointer (some ⟨bm, 0, none⟩)) rfl) ?_
    refine qE (i:=21) rfl (by decide +kernel) (qD rfl rfl rfl rfl 3 rfl) ?_
    refine wU (i:=22) rfl (by decide +kernel) (by decide +kernel) ?_
    refine qS 0 (v:=.slice _ _ _) (vs:=[_]) (c':=[_, _, _, _]) rfl rfl rfl rfl rfl rfl rfl rfl rfl ?_
    refine wJ [_, _, _, _, _, _] rfl ?_
    refine zB rfl ?_
    refine qC (qA rfl ?_)
    refine asI rfl ?_
    refine qQ ?_
    refine qJ (vs:=[_]) Tryz.results69 ⟨qG rfl rfl, trivial⟩ fun V => ?_
    obtain ⟨h10, E10, e10, V10⟩ := yY [_] [_, _, _, _, _] V
    exact ⟨h10, _, e10, V10, kX (kX (kX (kX (kX (kX E1 E_u) E_u3) E2) E3) E7a) E10, 3, _, hr, rfl, ⟨x.aH, x.aD, x.aJ, a2⟩, rfl, ⟨AS.h, AS.d, AS.j, by show AccR _ 3 ((s.reports ++ [_]).flatMap seenC) a2; rw [List.flatMap_append]; exact ha2⟩⟩
 skip
 have hs' : ¬ w = seenB := of_decide_eq_false hs
 have htk : takeS s w ws = if w = springB then (if ws = [] then some (4, s) else none) else none := by unfold takeS; rw [if_neg hw1', if_neg hx', if_neg hs']
 refine qC (qA rfl ?_)
 refine qB (yE rfl rfl) ?_
 refine asB rfl ?_
 refine qP rfl (fun hp => ?_) (fun hp => ?_)
 ·skip
  have hp' : w = springB := of_decide_eq_true hp
  refine qC (qA rfl ?_)
  refine mvS rfl ?_
  refine qB (wP rfl rfl) ?_
  refine pvB rfl ?_
  refine qP rfl (fun hz => ?_) (fun hz => ?_)
  ·skip
   have hz' : ws = [] := by
    have : (((w :: ws).length : Nat) : Int) = 1 := by simpa using hz
    rw [hwl2] at this
    exact List.eq_nil_of_length_eq_zero (by omega)
   refine qC (qA rfl ?_)
   refine asI rfl ?_
   refine qQ ?_
   refine qJ (vs:=[_]) Tryz.results69 ⟨qG rfl rfl, trivial⟩ fun V => ?_
   exact ⟨_, _, rfl, V, (kX E1 E_u), 4, s, by rw [hlo, htk, if_pos hp', if_pos hz'], rfl, x, rfl, AS⟩
  skip
  have hz' : ¬ ws = [] := by
   intro q
   subst q
   simp at hz
  refine qM ?_
  refine qA rfl ?_
  refine qB (zD (zc:=[]) (vs:=[]) (cs:=[]) rfl rfl rfl rfl rfl rfl) ?_
  refine qB (wL (v:=_) rfl) ?_
  refine kF rfl ?_
  exact fun V => ⟨rfl, _, _, rfl, V, (kX E1 E_u), by rw [hlo, htk, if_pos hp', if_neg hz'], rfl, x, rfl⟩
 skip
 have hp' : ¬ w = springB := of_decide_eq_false hp
 refine qM ?_
 refine qA rfl ?_
 refine qB (zD (zc:=[]) (vs:=[]) (cs:=[]) rfl rfl rfl rfl rfl rfl) ?_
 refine qB (wL (v:=_) rfl) ?_
 refine kF rfl ?_
 exact fun V => ⟨rfl, _, _, rfl, V, (kX E1 E_u), by rw [hlo, htk, if_neg hp'], rfl, x, rfl⟩
end
end Go.Proofs.YtboigjfgpppeaaaGreatDoor
namespace Go.Proofs.YtboigjfgpppeaaaGreatDoor
open Go Go.HL Go.Proofs Go.Wx Go.Rd
theorem boolQ {a b : Bool} (e : a = b) : Value.bool a = Value.bool b := by rw [e]
theorem u8_beqD {l : List UInt8} {k : Nat} {c : UInt8} (hk : k < l.length) (hne : ¬ k = l.length) : ((l[k].toNat : Int) == (c.toNat : Int)) = decide (k = l.length ∨ l[k]? = some c) := by
 rw [List.getElem?_eq_getElem hk]
 by_cases h : l[k] = c
 ·rw [h, decide_eq_true (.inr rfl)]; simp
 rw [decide_eq_false (by rintro (e | e); exact hne e; exact h (Option.some.inj e))]
 have : ¬ (l[k].toNat : Int) = (c.toNat : Int) := fun e => h (UInt8.toNat_inj.1 (Int.ofNat.inj e))
 simpa using this
theorem cut_next {c : UInt8} {l : List UInt8} {p : List (List UInt8)} {f k : Nat} (J : CutJ c l p f k) (hc : k = l.length ∨ l[k]? = some c) : CutJ c l (p ++ [(l.take k).drop f]) (k + 1) (k + 1) ∨ (k + 1 = l.length + 1 ∧ p ++ [(l.take k).drop f] = splitL c l) := by
 by_cases hk : k < l.length
 ·have : l[k]? = some c := hc.resolve_left (by omega)
  rw [List.getElem?_eq_getElem hk] at this
  exact .inl (J.cut hk (Option.some.inj this))
 have hkl := J.kl
 have hke : k = l.length := by omega
 subst hke
 exact .inr ⟨rfl, J.last.symm⟩
theorem cut_len {c : UInt8} {l : List UInt8} {p : List (List UInt8)} {f k : Nat} (J : CutJ c l p f k) (hc : k = l.length ∨ l[k]? = some c) : (p ++ [(l.take k).drop f]).length ≤ l.length + 1 := by
 have h1 := yX c l
 have h2 := cnt_le c l
 rcases cut_next J hc with J2 | ⟨_, e⟩
 ·rw [J2.eq, List.length_append] at h1
  omega
 rw [e]
 omega
section
variable [Lvl]
theorem acc_cap {e : TypeId} {m : Nat} {cs : List Value} {a : Acc} (r : AccR e (m + 1) cs a) : a.n ≤ a.c := by
 rcases r with ⟨_, _, A, h⟩ | ⟨b, len, cap, junk, h1, h2, _, h4⟩
 ·simp only [Value.slice.injEq] at h
  omega
 simp only [Value.slice.injEq] at h2
 rw [List.length_append, h1] at h4
 have : len * (m + 1) ≤ cap * (m + 1) := by omega
 have := Nat.le_of_mul_le_mul_right this (by omega)
 omega
set_option maxRecDepth 100000
theorem cutR_ok (l : List UInt8) (c : UInt8) (h : AH) (hl : l.length < 2 ^ 20) : FnT Tryz.prog 35 #[.string (bs l), .int .u8 c.toNat] h (fun v h' => ∃ A cap, v = .slice A (splitL c l).length cap ∧ Row h' 1 strC A (splitL c l) ∧ (splitL c l).length ≤ cap) := by
 have hcl := cnt_le c l
 have hsl := yX c l
 refine qW Tryz.func35 rfl Tryz.ntmps35 rfl ?_
 refine qC (qA rfl ?_)
 refine asS rfl ?_
 refine qC (qA rfl ?_)
 refine asS rfl ?_
 refine qC (qA rfl ?_)
 refine asI rfl ?_
 refine qC (qC (qA rfl ?_))
 refine asI rfl ?_
 refine qT ?_
 refine zN ?_
 refine qR [_] rfl ?_
 refine yC [5, 6, 7, 8, 9, 10, 11, 12, 13, 14, 15, 16, 17, 18, 19, 20, 21, 22, 23, 24, 25, 26, 27, 28, 29, 30, 31, 32, 33] 1 (α:=Nat × Nat × Acc × List (List UInt8)) (fun ⟨k, f, a, p⟩ => [(7, .int .i64 k), (6, .int .i64 f), (5, .slice a.A a.n a.c)]) (fun ⟨k, f, a, p⟩ L => L.set 0 (a.p)) (fun ⟨k, f, a, p⟩ h_k => AccR 9 1 (p.flatMap strC) a ∧ ((CutJ c l p f k) ∨ (k = l.length + 1 ∧ p = splitL c l)) ∧ p.length ≤ l.length + 1 ∧ p.length ≤ k ∧ f ≤ k ∧ a.n ≤ a.c) (fun ⟨k, f, a, p⟩ => l.length + 1 - k) ((0, 0, acc0, [])) ⟨rfl, rfl, rfl, trivial⟩ (rfl) (⟨accR0, .inl (CutJ.init c l), Nat.zero_le _, Nat.zero_le _, Nat.le_refl _, Nat.le_refl _⟩) ?_
 rintro ⟨k, f, a, p⟩ T1 h_k E_k J_k
 refine qR [_] rfl ?_
 obtain ⟨KA, KJ, KP, KK, KF, KC⟩ := J_k
 have hfl : (p.flatMap strC).length = p.length := by rw [wO (m:=1) (fun _ _ => rfl)]; omega
 have hkl : k ≤ l.length + 1 := by
  rcases KJ with J | ⟨e, _⟩
  ·have := J.kl; omega
  omega
 refine qC (qC (qA rfl ?_))
 refine mvI rfl ?_
 refine mvT rfl ?_
 refine qB (zA rfl rfl) ?_
 refine pvB rfl ?_
 refine qP rfl (fun hk => ?_) (fun hk => ?_)
 ·skip
  have hkl2 : k ≤ l.length := by have := of_decide_eq_true hk; omega
  have J : CutJ c l p f k := by
   rcases KJ with J | ⟨e, _⟩
   ·exact J
   omega
  refine qM ?_
  refine qC ?_
  refine qT ?_
  refine zU [14, 15, 16, 17, 18, 19, 20, 21, 22, 23, 24] 1 (α:=Unit) (fun u => [(24, .bool (decide (k = l.length ∨ l[k]? = some c)))]) (fun u L => L) (fun u h_u => True) ?_ ?_
  ·skip
   by_cases hke : k = l.length
   ·have hg : ((k : Int) == (l.length : Int)) = true := by rw [hke]; simp
    refine qA rfl ?_
    refine mvI rfl ?_
    refine mvT rfl ?_
    refine qB (zA rfl rfl) ?_
    refine pvB rfl ?_
    refine mvB rfl ?_
    refine qI rfl hg ?_
    refine qI rfl hg ?_
    refine qI rfl hg ?_
    refine qI rfl hg ?_
    refine qI rfl hg ?_
    refine qB (wN rfl hg (v:=.bool _) rfl) ?_
    refine ⟨(), ⟨boolQ (decide_eq_true (.inl hke)).symm, trivial⟩, rfl, rfl, (Ext.refl _), fun h3 E3 => by first | trivial | omega | (refine ⟨?_, ?_⟩ <;> omega), ?_⟩
    repeat (first | exact wQ _ _ | exact qV _ _ _ | refine qX (by decide) ?_ | refine qU rfl ?_ | refine qY rfl ?_)
   skip
   have hklt : k < l.length := by omega
   have hg : ((k : Int) == (l.length : Int)) = false := by
    have : ¬ (k : Int) = (l.length : Int) := by omega
    simpa using this
   refine qA rfl ?_
   refine mvI rfl ?_
   refine mvT rfl ?_
   refine qB (zA rfl rfl) ?_
   refine pvB rfl ?_
   refine mvB rfl ?_
   refine qF rfl hg ?_
   refine mvT rfl ?_
   refine qF rfl hg ?_
   refine mvI rfl ?_
   refine qF rfl hg ?_
   refine qB (zY (c:=l[k]) k rfl rfl rfl rfl (List.getElem?_eq_getElem hklt)) ?_
   refine qF rfl hg ?_
   refine mvI rfl ?_
   refine qF rfl hg ?_
   refine pvB rfl ?_
   refine qB (wM rfl hg (v:=.bool _) rfl) ?_
   refine ⟨(), ⟨boolQ (u8_beqD hklt hke), trivial⟩, rfl, rfl, (Ext.refl _), fun h3 E3 => by first | trivial | omega | (refine ⟨?_, ?_⟩ <;> omega), ?_⟩
   repeat (first | exact wQ _ _ | exact qV _ _ _ | refine qX (by decide) ?_ | refine qU rfl ?_ | refine qY rfl ?_)
  rintro u T2 h_u E_u J_u
  refine qR [_] rfl ?_
  refine qP rfl (fun hc => ?_) (fun hc => ?_)
  ·skip
   have hc' := of_decide_eq_true hc
   have hfk := J.fk
   refine qC (qA rfl ?_)
   refine mvS rfl ?_
   refine mvT rfl ?_
   refine mvI rfl ?_
   refine mvI rfl ?_
   refine qB (yA f k rfl rfl (.inr ⟨_, _, rfl, rfl⟩) (.inr ⟨_, _, rfl, rfl⟩) hfk hkl2) ?_
   refine wG (zc:=[_]) (vs:=[(0, .string _)]) (cs:=[_]) rfl rfl rfl rfl rfl rfl rfl fun b30 hb30 => ?_
   refine qH [_, _] rfl ?_
   refine zE 0 KA rfl rfl rfl (fun V => rdP V (i:=1) rfl) rfl rfl rfl rfl rfl rfl rfl rfl rfl (by omega) rfl (by rw [hfl]; simp only [List.length_cons, List.length_nil]; omega) fun a2 h3a E3a ha2 => ?_
   refine qH [_, _] rfl ?_
   refine asS rfl ?_
   refine qA rfl ?_
   refine mvI rfl ?_
   refine qB (qO rfl (by omega)) ?_
   refine asI rfl ?_
   refine qA rfl ?_
   refine mvI rfl ?_
   refine qB (qO rfl (by omega)) ?_
   refine asI rfl ?_
   have hlen2 := ha2.len
   refine ⟨(k + 1, k + 1, a2, p ++ [(l.take k).drop f]), ⟨rfl, rfl, rfl, trivial⟩, rfl, rfl, (kX (kX E_k E_u) E3a), fun h3 E3 => ⟨by rw [List.flatMap_append]; exact ha2, cut_next J hc', cut_len J hc', by rw [List.length_append]; show p.length + 1 ≤ _; omega, Nat.le_refl _, acc_cap ha2⟩, by first | omega | (dsimp only; omega), ?_⟩
   repeat (first | exact qV _ _ _ | refine qX (by decide) ?_ | refine qU rfl ?_ | refine qY rfl ?_)
  skip
  have hc' : ¬ (k = l.length ∨ l[k]? = some c) := of_decide_eq_false hc
  have hklt : k < l.length := by omega
  refine qM ?_
  refine qA rfl ?_
  refine mvI rfl ?_
  refine qB (qO rfl (by omega)) ?_
  refine asI rfl ?_
  refine ⟨(k + 1, f, a, p), ⟨rfl, rfl, rfl, trivial⟩, rfl, rfl, (kX E_k E_u), fun h3 E3 => ⟨KA, .inl (J.pass hklt fun e => hc' (.inr (by rw [List.getElem?_eq_getElem hklt, e]))), KP, by omega, by omega, KC⟩, by first | omega | (dsimp only; omega), ?_⟩
  repeat (first | exact qV _ _ _ | refine qX (by decide) ?_ | refine qU rfl ?_ | refine qY rfl ?_)
 skip
 have hke : k = l.length + 1 := by have := of_decide_eq_false hk; omega
 have hp : p = splitL c l := by
  rcases KJ with J | ⟨_, e⟩
  ·have := J.kl; omega
  exact e
 subst hp
 refine wV ?_
 refine qC (qA rfl ?_)
 refine mvS rfl ?_
 refine asS rfl ?_
 refine qQ ?_
 refine qJ (vs:=[_]) Tryz.results35 ⟨qG rfl rfl, trivial⟩ fun V => ?_
 have hal := KA.len
 obtain ⟨A9, c9, e9, R9⟩ := AccP.row (m:=1) (enc:=strC) (i:=0) (l:=splitL c l) KA (by omega) (fun _ _ => rfl) V rfl
 refine ⟨(kX E_k (qN V)), A9, c9, e9, R9, ?_⟩
 simp only [Value.slice.injEq] at e9
 omega
def sgn (w : List UInt8) : Int := if w.head? = some 45 then -1 else 1
def badS (r : List UInt8) (sg : Int) : Prop := r.length < 1 ∨ r.length > 3 ∨ (r.head? = some 48 ∧ (r.length > 1 ∨ sg < 0))
instance (r : List UInt8) (sg : Int) : Decidable (badS r sg) := by unfold badS; infer_instance
theorem numS_sgn (w : List UInt8) : numS w = if badS (trimP w) (sgn w) then none else (digsV (trimP w) 0).map fun n : Nat => sgn w * (n : Int) := by
 cases w with
 | nil => rfl
 | cons c r =>
  rw [numS_cons]
  by_cases hc : c = 45
  ·subst hc
   have e1 : trimP (45 :: r) = r := rfl
   have e2 : sgn (45 :: r) = -1 := rfl
   rw [if_pos rfl, e1, e2]
   by_cases hb : r.length < 1 ∨ r.length > 3 ∨ r.head? = some 48
   ·rw [if_pos hb, if_pos]
    rcases hb with h | h | h
    ·exact .inl h
    ·exact .inr (.inl h)
    exact .inr (.inr ⟨h, .inr (by decide)⟩)
   rw [if_neg hb, if_neg]
   ·congr 1
    funext n
    omega
   rintro (h | h | ⟨h, _⟩)
   ·exact hb (.inl h)
   ·exact hb (.inr (.inl h))
   exact hb (.inr (.inr h))
  have hh : ¬ (c :: r).head? = some 45 := fun e => hc (Option.some.inj e)
  have e1 : trimP (c :: r) = c :: r := by unfold trimP; rw [if_neg hh]
  have e2 : sgn (c :: r) = 1 := by unfold sgn; rw [if_neg hh]
  rw [if_neg hc, e1, e2]
  unfold numR
  by_cases hb : (c :: r).length < 1 ∨ (c :: r).length > 3 ∨ ((c :: r).head? = some 48 ∧ (c :: r).length > 1)
  ·rw [if_pos hb, if_pos]
   ·rfl
   rcases hb with h | h | ⟨h, h'⟩
   ·exact .inl h
   ·exact .inr (.inl h)
   exact .inr (.inr ⟨h, .inl h'⟩)
  rw [if_neg hb, if_neg]
  ·congr 1
   funext n
   omega
  rintro (h | h | ⟨h, h' | h'⟩)
  ·exact hb (.inl h)
  ·exact hb (.inr (.inl h))
  ·exact hb (.inr (.inr ⟨h, h'⟩))
  exact absurd h' (by decide)
def NumV (w : List UInt8) (v : Value) : Prop := ∃ n : Int, v = .tuple #[.int .i64 n, .bool (numS w).isSome] ∧ ∀ m, numS w = some m → n = m
set_option maxHeartbeats 1000000 in
theorem numberR_ok (w : List UInt8) (h : AH) : FnT Tryz.prog 71 #[.string (bs w)] h (fun v _ => NumV w v) := by
 refine qW Tryz.func71 rfl Tryz.ntmps71 rfl ?_
 refine qC (qA rfl ?_)
 refine asI rfl ?_
 refine asB rfl ?_
 refine qC (qA rfl ?_)
 refine asI rfl ?_
 refine zU [0, 4, 7, 8, 9, 10, 11, 12, 13, 14, 15, 16] 0 (α:=Unit) (fun u => [(4, .int .i64 (sgn w)), (0, .string (bs (trimP w)))]) (fun u L => L) (fun u h_u => True) ?_ ?_
 ·skip
  cases w with
  | nil =>
   refine qC (qA rfl ?_)
   refine mvT rfl ?_
   refine qB (zA rfl rfl) ?_
   refine pvB rfl ?_
   refine mvB rfl ?_
   refine qI rfl rfl ?_
   refine qI rfl rfl ?_
   refine qI rfl rfl ?_
   refine qB (wM rfl rfl (v:=.bool _) rfl) ?_
   refine wS rfl (rfl) ?_
   refine qM ?_
   refine ⟨(), ⟨rfl, rfl, trivial⟩, rfl, rfl, (Ext.refl _), fun h3 E3 => by first | trivial | omega | (refine ⟨?_, ?_⟩ <;> omega), ?_⟩
   repeat (first | exact wQ _ _ | exact qV _ _ _ | refine qX (by decide) ?_ | refine qU rfl ?_ | refine qY rfl ?_)
  | cons c r =>
   have g1 : decide ((((c :: r).length : Nat) : Int) > 0) = true := decide_eq_true (by rw [List.length_cons]; omega)
   refine qC (qA rfl ?_)
   refine mvT rfl ?_
   refine qB (zA rfl rfl) ?_
   refine pvB rfl ?_
   refine mvB rfl ?_
   refine qF rfl g1 ?_
   refine mvT rfl ?_
   refine qF rfl g1 ?_
   refine qB (zY (c:=c) 0 rfl rfl rfl rfl rfl) ?_
   refine qF rfl g1 ?_
   refine pvB rfl ?_
   refine qB (wN rfl g1 (v:=.bool _) rfl) ?_
   refine qP rfl (fun hc => ?_) (fun hc => ?_)
   ·skip
    have hc' : c = 45 := by
     have : (c.toNat : Int) = 45 := by simpa using hc
     exact UInt8.toNat_inj.1 (Int.ofNat.inj this)
    subst hc'
    refine zL [] rfl rfl rfl ?_
    refine qE (i:=0) rfl (by decide +kernel) (qK (v:=.string _) rfl) ?_
    refine qE (i:=1) rfl (by decide +kernel) (yA 1 (45 :: r : List UInt8).length rfl rfl (.inr ⟨_, _, rfl, rfl⟩) (.inl ⟨rfl, rfl⟩) (by rw [List.length_cons]; omega) (Nat.le_refl _)) ?_
    refine qE (i:=2) rfl (by decide +kernel) (wA (v:=.int .i64 _) rfl) ?_
    refine qE (i:=3) rfl (by decide +kernel) (wA (v:=.string _) rfl) ?_
    refine zB rfl ?_
    refine ⟨(), ⟨rfl, strE (by rw [List.take_length]; rfl), trivial⟩, rfl, rfl, (Ext.refl _), fun h3 E3 => by first | trivial | omega | (refine ⟨?_, ?_⟩ <;> omega), ?_⟩
    repeat (first | exact wQ _ _ | exact qV _ _ _ | refine qX (by decide) ?_ | refine qU rfl ?_ | refine qY rfl ?_)
   skip
   have hc' : ¬ c = 45 := by
    intro e
    rw [e] at hc
    exact absurd hc (by decide)
   have hh : ¬ (c :: r).head? = some 45 := fun e => hc' (Option.some.inj e)
   refine qM ?_
   refine ⟨(), ⟨intE (by unfold sgn; rw [if_neg hh]), strE (by unfold trimP; rw [if_neg hh]), trivial⟩, rfl, rfl, (Ext.refl _), fun h3 E3 => by first | trivial | omega | (refine ⟨?_, ?_⟩ <;> omega), ?_⟩
   repeat (first | exact wQ _ _ | exact qV _ _ _ | refine qX (by decide) ?_ | refine qU rfl ?_ | refine qY rfl ?_)
 rintro u T1 h_u E_u J_u
 refine qR [] rfl ?_
 have hns := numS_sgn w
 have hsg : sgn w = 1 ∨ sgn w = -1 := by unfold sgn; split; exact .inr rfl; exact .inl rfl
 generalize sgn w = sg at *
 generalize trimP w = q at *
 refine qC ?_
 refine zU [17, 18, 19, 20, 21, 22, 23, 24, 25, 26, 27, 28, 29, 30, 31, 32, 33, 34, 35, 36, 37, 38] 0 (α:=Unit) (fun u2 => [(38, .bool (decide (badS q sg)))]) (fun u2 L => L) (fun u2 h_u2 => True) ?_ ?_
 ·skip
  by_cases h1 : q.length < 1
  ·have g1 : decide ((q.length : Int) < 1) = true := decide_eq_true (by omega)
   refine qA rfl ?_
   refine mvT rfl ?_
   refine qB (zA rfl rfl) ?_
   refine pvB rfl ?_
   refine mvB rfl ?_
   refine qI rfl g1 ?_
   refine qI rfl g1 ?_
   refine qI rfl g1 ?_
   refine qB (wN rfl g1 (v:=.bool _) rfl) ?_
   refine mvB rfl ?_
   refine qI rfl rfl ?_
   refine qI rfl rfl ?_
   refine qI rfl rfl ?_
   refine qI rfl rfl ?_
   refine zG rfl ?_
   refine zG rfl ?_
   refine zG rfl ?_
   refine zG rfl ?_
   refine zG rfl ?_
   refine zG rfl ?_
   refine zG rfl ?_
   refine qI rfl rfl ?_
   refine qB (wN rfl rfl (v:=.bool _) rfl) ?_
   refine ⟨(), ⟨boolQ (decide_eq_true (.inl h1)).symm, trivial⟩, rfl, rfl, (Ext.refl _), fun h3 E3 => by first | trivial | omega | (refine ⟨?_, ?_⟩ <;> omega), ?_⟩
   repeat (first | exact wQ _ _ | exact qV _ _ _ | refine qX (by decide) ?_ | refine qU rfl ?_ | refine qY rfl ?_)
  skip
  have g1 : decide ((q.length : Int) < 1) = false := decide_eq_false (by omega)
  by_cases h3 : q.length > 3
  ·have g3 : decide ((q.length : Int) > 3) = true := decide_eq_true (by omega)
   refine qA rfl ?_
   refine mvT rfl ?_
   refine qB (zA rfl rfl) ?_
   refine pvB rfl ?_
   refine mvB rfl ?_
   refine qF rfl g1 ?_
   refine mvT rfl ?_
   refine qF rfl g1 ?_
   refine qB (zA rfl rfl) ?_
   refine qF rfl g1 ?_
   refine pvB rfl ?_
   refine qB (wM rfl g1 (v:=.bool _) rfl) ?_
   refine mvB rfl ?_
   refine qI rfl g3 ?_
   refine qI rfl g3 ?_
   refine qI rfl g3 ?_
   refine qI rfl g3 ?_
   refine zG rfl ?_
   refine zG rfl ?_
   refine zG rfl ?_
   refine zG rfl ?_
   refine zG rfl ?_
   refine zG rfl ?_
   refine zG rfl ?_
   refine qI rfl g3 ?_
   refine qB (wN rfl g3 (v:=.bool _) rfl) ?_
   refine ⟨(), ⟨boolQ (decide_eq_true (.inr (.inl h3))).symm, trivial⟩, rfl, rfl, (Ext.refl _), fun h3 E3 => by first | trivial | omega | (refine ⟨?_, ?_⟩ <;> omega), ?_⟩
   repeat (first | exact wQ _ _ | exact qV _ _ _ | refine qX (by decide) ?_ | refine qU rfl ?_ | refine qY rfl ?_)
  skip
  have g3 : decide ((q.length : Int) > 3) = false := decide_eq_false (by omega)
  obtain ⟨c, r, hcr⟩ : ∃ c r, q = c :: r := by
   cases q with
   | nil => simp at h1
   | cons c r => exact ⟨c, r, rfl⟩
  have hh : q.head? = some c := by rw [hcr]; rfl
  by_cases hc : c = 48
  ·have gc : ((c.toNat : Int) == 48) = true := by rw [hc]; rfl
   by_cases h9 : q.length > 1
   ·have g9 : decide ((q.length : Int) > 1) = true := decide_eq_true (by omega)
    refine qA rfl ?_
    refine mvT rfl ?_
    refine qB (zA rfl rfl) ?_
    refine pvB rfl ?_
    refine mvB rfl ?_
    refine qF rfl g1 ?_
    refine mvT rfl ?_
    refine qF rfl g1 ?_
    refine qB (zA rfl rfl) ?_
    refine qF rfl g1 ?_
    refine pvB rfl ?_
    refine qB (wM rfl g1 (v:=.bool _) rfl) ?_
    refine mvB rfl ?_
    refine qF rfl g3 ?_
    refine mvT rfl ?_
    refine qF rfl g3 ?_
    refine qB (zY (c:=c) 0 rfl rfl rfl rfl (by rw [hcr]; rfl)) ?_
    refine qF rfl g3 ?_
    refine pvB rfl ?_
    refine qF rfl g3 ?_
    refine mvB rfl ?_
    refine qF rfl gc ?_
    refine mvT rfl ?_
    refine qF rfl gc ?_
    refine qB (zA rfl rfl) ?_
    refine qF rfl gc ?_
    refine pvB rfl ?_
    refine qF rfl gc ?_
    refine mvB rfl ?_
    refine qI rfl g9 ?_
    refine qI rfl g9 ?_
    refine qF rfl gc ?_
    refine qB (wN rfl g9 (v:=.bool _) rfl) ?_
    refine qF rfl g3 ?_
    refine qB (wN rfl gc (v:=.bool _) rfl) ?_
    refine qB (wM rfl g3 (v:=.bool _) rfl) ?_
    refine ⟨(), ⟨boolQ (decide_eq_true (.inr (.inr ⟨by rw [hh, hc], .inl h9⟩))).symm, trivial⟩, rfl, rfl, (Ext.refl _), fun h3 E3 => by first | trivial | omega | (refine ⟨?_, ?_⟩ <;> omega), ?_⟩
    repeat (first | exact wQ _ _ | exact qV _ _ _ | refine qX (by decide) ?_ | refine qU rfl ?_ | refine qY rfl ?_)
   skip
   have g9 : decide ((q.length : Int) > 1) = false := decide_eq_false (by omega)
   refine qA rfl ?_
   refine mvT rfl ?_
   refine qB (zA rfl rfl) ?_
   refine pvB rfl ?_
   refine mvB rfl ?_
   refine qF rfl g1 ?_
   refine mvT rfl ?_
   refine qF rfl g1 ?_
   refine qB (zA rfl rfl) ?_
   refine qF rfl g1 ?_
   refine pvB rfl ?_
   refine qB (wM rfl g1 (v:=.bool _) rfl) ?_
   refine mvB rfl ?_
   refine qF rfl g3 ?_
   refine mvT rfl ?_
   refine qF rfl g3 ?_
   refine qB (zY (c:=c) 0 rfl rfl rfl rfl (by rw [hcr]; rfl)) ?_
   refine qF rfl g3 ?_
   refine pvB rfl ?_
   refine qF rfl g3 ?_
   refine mvB rfl ?_
   refine qF rfl gc ?_
   refine mvT rfl ?_
   refine qF rfl gc ?_
   refine qB (zA rfl rfl) ?_
   refine qF rfl gc ?_
   refine pvB rfl ?_
   refine qF rfl gc ?_
   refine mvB rfl ?_
   refine qF rfl g9 ?_
   refine mvI rfl ?_
   refine qF rfl g9 ?_
   refine pvB rfl ?_
   refine qF rfl gc ?_
   refine qB (wM rfl g9 (v:=.bool _) rfl) ?_
   refine qF rfl g3 ?_
   refine qB (wN rfl gc (v:=.bool _) rfl) ?_
   refine qB (wM rfl g3 (v:=.bool _) rfl) ?_
   have hfin : decide (sg < 0) = decide (badS q sg) := by
    by_cases hs : sg < 0
    ·rw [decide_eq_true hs, decide_eq_true (.inr (.inr ⟨by rw [hh, hc], .inr hs⟩))]
    rw [decide_eq_false hs, decide_eq_false]
    rintro (e | e | ⟨_, e | e⟩)
    ·exact h1 e
    ·exact h3 e
    ·exact h9 e
    exact hs e
   refine ⟨(), ⟨boolQ hfin, trivial⟩, rfl, rfl, (Ext.refl _), fun h3 E3 => by first | trivial | omega | (refine ⟨?_, ?_⟩ <;> omega), ?_⟩
   repeat (first | exact wQ _ _ | exact qV _ _ _ | refine qX (by decide) ?_ | refine qU rfl ?_ | refine qY rfl ?_)
  skip
  have gc : ((c.toNat : Int) == 48) = false := by
   have : ¬ (c.toNat : Int) = 48 := fun e => hc (UInt8.toNat_inj.1 (Int.ofNat.inj e))
   simpa using this
  refine qA rfl ?_
  refine mvT rfl ?_
  refine qB (zA rfl rfl) ?_
  refine pvB rfl ?_
  refine mvB rfl ?_
  refine qF rfl g1 ?_
  refine mvT rfl ?_
  refine qF rfl g1 ?_
  refine qB (zA rfl rfl) ?_
  refine qF rfl g1 ?_
  refine pvB rfl ?_
  refine qB (wM rfl g1 (v:=.bool _) rfl) ?_
  refine mvB rfl ?_
  refine qF rfl g3 ?_
  refine mvT rfl ?_
  refine qF rfl g3 ?_
  refine qB (zY (c:=c) 0 rfl rfl rfl rfl (by rw [hcr]; rfl)) ?_
  refine qF rfl g3 ?_
  refine pvB rfl ?_
  refine qF rfl g3 ?_
  refine mvB rfl ?_
  refine qI rfl gc ?_
  refine qI rfl gc ?_
  refine qI rfl gc ?_
  refine qI rfl gc ?_
  refine zG rfl ?_
  refine zG rfl ?_
  refine qI rfl gc ?_
  refine qF rfl g3 ?_
  refine qB (wM rfl gc (v:=.bool _) rfl) ?_
  refine qB (wM rfl g3 (v:=.bool _) rfl) ?_
  have hfin : false = decide (badS q sg) := by
   rw [decide_eq_false]
   rintro (e | e | ⟨e, _⟩)
   ·exact h1 e
   ·exact h3 e
   rw [hh] at e; exact hc (Option.some.inj e)
  refine ⟨(), ⟨boolQ hfin, trivial⟩, rfl, rfl, (Ext.refl _), fun h3 E3 => by first | trivial | omega | (refine ⟨?_, ?_⟩ <;> omega), ?_⟩
  repeat (first | exact wQ _ _ | exact qV _ _ _ | refine qX (by decide) ?_ | refine qU rfl ?_ | refine qY rfl ?_)
 rintro u2 T2 h_u2 E_u2 J_u2
 refine qR [] rfl ?_
 refine qP rfl (fun hb => ?_) (fun hb => ?_)
 ·skip
  have hb' := of_decide_eq_true hb
  have hn : numS w = none := by rw [hns, if_pos hb']
  refine qC (qA rfl ?_)
  refine asI rfl ?_
  refine asB rfl ?_
  refine qQ ?_
  refine qJ (vs:=[_, _]) Tryz.results71 ⟨qG rfl rfl, qG rfl rfl, trivial⟩ fun V => ?_
  exact ⟨(kX (kX E_u E_u2) (qN V)), 0, by rw [hn]; rfl, fun m hm => by rw [hn] at hm; cases hm⟩
 skip
 have hb' : ¬ badS q sg := of_decide_eq_false hb
 have hn : numS w = (digsV q 0).map fun n : Nat => sg * (n : Int) := by rw [hns, if_neg hb']
 have hl3 : q.length ≤ 3 := by
  have : ¬ q.length > 3 := fun e => hb' (.inr (.inl e))
  omega
 refine qM ?_
 refine qC (qA rfl ?_)
 refine asI rfl ?_
 refine qC (qC (qA rfl ?_))
 refine asI rfl ?_
 refine qT ?_
 refine zF [2, 3, 5, 6, 39, 40, 41, 42, 43, 44, 45, 46, 47, 48, 49, 50, 51, 52, 53, 54, 55, 56, 57, 58, 59, 60, 61, 62] 0 (α:=Nat × Nat) (fun ⟨k, n⟩ => [(6, .int .i64 k), (5, .int .i64 n)]) (fun ⟨k, n⟩ => _) (fun ⟨k, n⟩ h_k => k ≤ q.length ∧ digsV q 0 = digsV (q.drop k) n ∧ n < 10 ^ k) (fun ⟨k, n⟩ => q.length - k) ((0, 0)) ⟨rfl, rfl, trivial⟩ (rfl) (⟨Nat.zero_le _, rfl, by decide⟩) ?_
 rintro ⟨k, n⟩ T3 h_k E_k J_k
 refine qR [] rfl ?_
 obtain ⟨K1, K2, K3⟩ := J_k
 have hp3 : 10 ^ k ≤ 10 ^ 3 := Nat.pow_le_pow_right (by decide) (by omega)
 refine qC (qC (qA rfl ?_))
 refine mvI rfl ?_
 refine mvT rfl ?_
 refine qB (zA rfl rfl) ?_
 refine pvB rfl ?_
 refine qP rfl (fun hk => ?_) (fun hk => ?_)
 ·skip
  have hkl : k < q.length := ltI hk
  rw [List.drop_eq_getElem_cons hkl, digsV_cons] at K2
  have hdl := dv_lt q[k]
  have hiff := isD_iff q[k]
  refine qM ?_
  refine qC ?_
  refine qT ?_
  refine qC ?_
  refine zU [45, 46, 47, 48, 49, 50, 51, 52, 53, 54] 0 (α:=Unit) (fun u3 => [(54, .bool (!isD q[k]))]) (fun u3 L => L) (fun u3 h_u3 => True) ?_ ?_
  ·skip
   refine qA rfl ?_
   refine mvT rfl ?_
   refine mvI rfl ?_
   refine qB (zY (c:=q[k]) k rfl rfl rfl rfl (List.getElem?_eq_getElem hkl)) ?_
   refine pvB rfl ?_
   refine mvB rfl ?_
   by_cases hlo : q[k].toNat < 48
   ·have g : decide ((q[k].toNat : Int) < 48) = true := decide_eq_true (by omega)
    refine qI rfl g ?_
    refine qI rfl g ?_
    refine qI rfl g ?_
    refine qI rfl g ?_
    refine qB (wN rfl g (v:=.bool _) rfl) ?_
    refine ⟨(), ⟨boolQ (by rw [hiff, decide_eq_false (by omega)]; rfl), trivial⟩, rfl, rfl, (Ext.refl _), fun h3 E3 => by first | trivial | omega | (refine ⟨?_, ?_⟩ <;> omega), ?_⟩
    repeat (first | exact wQ _ _ | exact qV _ _ _ | refine qX (by decide) ?_ | refine qU rfl ?_ | refine qY rfl ?_)
   skip
   have g : decide ((q[k].toNat : Int) < 48) = false := decide_eq_false (by omega)
   refine qF rfl g ?_
   refine mvT rfl ?_
   refine qF rfl g ?_
   refine mvI rfl ?_
   refine qF rfl g ?_
   refine qB (zY (c:=q[k]) k rfl rfl rfl rfl (List.getElem?_eq_getElem hkl)) ?_
   refine qF rfl g ?_
   refine pvB rfl ?_
   refine qB (wM rfl g (v:=.bool _) rfl) ?_
   have hfin : decide ((q[k].toNat : Int) > 57) = !isD q[k] := by
    rw [hiff, decide_eq_true (by omega : 48 ≤ q[k].toNat), Bool.true_and]
    by_cases h9 : q[k].toNat ≤ 57
    ·rw [decide_eq_true h9, decide_eq_false (by omega)]; rfl
    rw [decide_eq_false h9, decide_eq_true (by omega)]; rfl
   refine ⟨(), ⟨boolQ hfin, trivial⟩, rfl, rfl, (Ext.refl _), fun h3 E3 => by first | trivial | omega | (refine ⟨?_, ?_⟩ <;> omega), ?_⟩
   repeat (first | exact wQ _ _ | exact qV _ _ _ | refine qX (by decide) ?_ | refine qU rfl ?_ | refine qY rfl ?_)
  rintro u3 T4 h_u3 E_u3 J_u3
  refine qR [] rfl ?_
  refine qP rfl (fun hd => ?_) (fun hd => ?_)
  ·skip
   have hD : isD q[k] = false := by simpa using hd
   have hnn : numS w = none := by rw [hn, K2, hD]; rfl
   refine qC (qA rfl ?_)
   refine asI rfl ?_
   refine asB rfl ?_
   refine qQ ?_
   refine qJ (vs:=[_, _]) Tryz.results71 ⟨qG rfl rfl, qG rfl rfl, trivial⟩ fun V => ?_
   exact ⟨(kX (kX (kX (kX E_u E_u2) E_k) E_u3) (qN V)), 0, by rw [hnn]; rfl, fun m hm => by rw [hnn] at hm; cases hm⟩
  skip
  have hD : isD q[k] = true := by simpa using hd
  have hD9 := dv_le hD
  rw [if_pos hD] at K2
  refine qM ?_
  refine qA rfl ?_
  refine mvI rfl ?_
  refine qB (qO rfl (by omega)) ?_
  refine mvT rfl ?_
  refine mvI rfl ?_
  refine qB (zY (c:=q[k]) k rfl rfl rfl rfl (List.getElem?_eq_getElem hkl)) ?_
  refine qB (pv_w (r:=((dv q[k] : Nat) : Int)) rfl (by have := u8_sub q[k] 48; exact this)) ?_
  refine qB (vG (z':=((dv q[k] : Nat) : Int)) rfl rfl rfl (i64_nat _ (by omega))) ?_
  refine qB (qO rfl (by omega)) ?_
  refine asI rfl ?_
  refine qA rfl ?_
  refine mvI rfl ?_
  refine qB (qO rfl (by omega)) ?_
  refine asI rfl ?_
  refine ⟨(k + 1, n * 10 + dv q[k]), ⟨rfl, intE (by push_cast; omega), trivial⟩, rfl, rfl, (kX E_k E_u3), fun h3 E3 => ⟨hkl, K2, by rw [Nat.pow_succ]; omega⟩, by first | omega | (dsimp only; omega), ?_⟩
  repeat (first | exact qV _ _ _ | refine qX (by decide) ?_ | refine qU rfl ?_ | refine qY rfl ?_)
 skip
 have hke : k = q.length := by have := geI hk; omega
 subst hke
 rw [List.drop_length] at K2
 have hs : numS w = some (sg * (n : Int)) := by rw [hn, K2]; rfl
 have hbd : -1000 ≤ sg * (n : Int) ∧ sg * (n : Int) ≤ 1000 := by rcases hsg with e | e <;> rw [e] <;> omega
 refine wV ?_
 refine qC (qA rfl ?_)
 refine mvI rfl ?_
 refine mvI rfl ?_
 refine qB (qO rfl (by omega)) ?_
 refine asI rfl ?_
 refine asB rfl ?_
 refine qQ ?_
 refine qJ (vs:=[_, _]) Tryz.results71 ⟨qG rfl rfl, qG rfl rfl, trivial⟩ fun V => ?_
 exact ⟨(kX (kX (kX E_u E_u2) E_k) (qN V)), sg * (n : Int), by rw [hs]; rfl, fun m hm => by rw [hs] at hm; cases hm; rfl⟩
end
end Go.Proofs.YtboigjfgpppeaaaGreatDoor
namespace Go.Proofs.YtboigjfgpppeaaaGreatDoor
open Go Go.HL Go.Proofs Go.Wx Go.Rd
section
variable [Lvl]
set_option maxRecDepth 100000
def RgsV (h : AH) (r : Option (List Rg)) (v : Value) : Prop := ∃ (A : Option Addr) (n c : Nat), v = .tuple #[.slice A n c, .bool r.isSome] ∧ ∀ l, r = some l → n = l.length ∧ Row h 2 rgC A l
set_option maxHeartbeats 1000000 in
theorem toRanges_ok (ws : List (List UInt8)) (many : Nat) (A : Option Addr) (c : Nat) (h : AH) (R : Row h 1 strC A ws) (hw : ∀ x ∈ ws, x.length < 2 ^ 20) (hl : ws.length < 2 ^ 20) (hm : many < 100) :
  FnT Tryz.prog 70 #[.slice A ws.length c, .int .i64 many] h (fun v h' => RgsV h' (rangesR many ws) v) := by
 refine qW Tryz.func70 rfl Tryz.ntmps70 rfl ?_
 refine zN ?_
 refine qR [_] rfl ?_
 refine qC (qA rfl ?_)
 refine asS rfl ?_
 refine asB rfl ?_
 refine qC (qA rfl ?_)
 refine asS rfl ?_
 refine qC (qC (qA rfl ?_))
 refine asI rfl ?_
 refine qT ?_
 refine yC [4, 5, 6, 7, 8, 9, 10, 11, 12, 13, 14, 15, 16, 17, 18, 19, 20, 21, 22, 23, 24, 25, 26, 27, 28, 29, 30, 31, 32, 33, 34, 35, 36, 37, 38, 39, 40, 41, 42, 43, 44, 45, 46, 47, 48, 49, 50, 51, 52] 1 (α:=Nat × Acc × List Rg) (fun ⟨k, a, ls⟩ => [(7, .int .i64 k), (6, .slice a.A a.n a.c)]) (fun ⟨k, a, ls⟩ L => L.set 0 (a.p)) (fun ⟨k, a, ls⟩ h_k => k ≤ ws.length ∧ rangesF (ws.take k) = some ls ∧ AccR 56 2 (ls.flatMap rgC) a) (fun ⟨k, a, ls⟩ => ws.length - k) ((0, acc0, [])) ⟨rfl, rfl, trivial⟩ (rfl) (⟨Nat.zero_le _, rfl, accR0⟩) ?_
 rintro ⟨k, a, ls⟩ T1 h_k E_k J_k
 refine qR [_] rfl ?_
 obtain ⟨K1, K2, KA⟩ := J_k
 have hLk : ls.length = k := by rw [kO K2, List.length_take]; omega
 have hfl : (ls.flatMap rgC).length = k * 2 := by rw [wO (m:=2) (fun _ _ => rfl)]; omega
 refine qC (qC (qA rfl ?_))
 refine mvI rfl ?_
 refine mvS rfl ?_
 refine qB (wP rfl rfl) ?_
 refine pvB rfl ?_
 refine qP rfl (fun hk => ?_) (fun hk => ?_)
 ·skip
  have hkl : k < ws.length := ltI hk
  have hwl := hw _ (List.getElem_mem hkl)
  have hst := rangesF_step hkl K2
  obtain ⟨g, off, hA, hcl⟩ := (R.ext E_k).at (by omega) hkl
  have hno : rangeR ws[k] = none → rangesR many ws = none := fun e => by
   unfold rangesR
   rw [rangesF_stop (k:=k + 1) (by rw [hst, e]; rfl)]
   split <;> rfl
  refine qM ?_
  refine qC ?_
  refine qT ?_
  refine qC (qA rfl ?_)
  refine mvS rfl ?_
  refine mvI rfl ?_
  refine qB (wK rfl hA rfl rfl rfl (by omega) (by omega)) ?_
  refine wX (v:=.string _) rfl rfl ((hcl) 0 _ rfl) ?_
  refine wI (caps:=[]) (vs:=[.string _, .int .u8 _]) rfl rfl rfl (cutR_ok ws[k] 47 h_k hwl) ?_
  rintro _ h1 E1 ⟨A1, c1, rfl, R1, hc1⟩
  refine asS rfl ?_
  refine qC (qC (qA rfl ?_))
  refine mvS rfl ?_
  refine qB (wP rfl rfl) ?_
  refine pvB rfl ?_
  refine qP rfl (fun h2 => ?_) (fun h2 => ?_)
  ·skip
   have h2' : ¬ (splitL 47 ws[k]).length = 2 := by
    have : ¬ ((splitL 47 ws[k]).length : Int) = 2 := by simpa using h2
    omega
   have hnone : rangeR ws[k] = none := by
    unfold rangeR
    split
    ·rename_i e; rw [e] at h2'; exact absurd rfl h2'
    rfl
   refine qC (qA rfl ?_)
   refine asS rfl ?_
   refine asB rfl ?_
   refine qQ ?_
   refine qJ (vs:=[_, _]) Tryz.results70 ⟨qG rfl rfl, qG rfl rfl, trivial⟩ fun V => ?_
   exact ⟨(kX (kX E_k E1) (qN V)), _, _, _, by rw [hno hnone]; rfl, fun l e => by rw [hno hnone] at e; cases e⟩
  skip
  have h2' : (splitL 47 ws[k]).length = 2 := by
   have : ((splitL 47 ws[k]).length : Int) = 2 := by simpa using h2
   omega
  obtain ⟨a1, b1, hsp⟩ : ∃ a b, splitL 47 ws[k] = [a, b] := by
   match hq : splitL 47 ws[k], h2' with
   | [a, b], _ => exact ⟨a, b, rfl⟩
  have hr : rangeR ws[k] = (numS a1).bind fun x => (numS b1).map fun y => ⟨x, y⟩ := by unfold rangeR; rw [hsp]
  rw [hsp] at R1
  have hn2 : ((splitL 47 ws[k]).length : Int) = 2 := by omega
  obtain ⟨p0, o0, i0, j0⟩ := R1.at (by decide) (i:=0) (by simp)
  obtain ⟨p1, o1, i1, j1⟩ := R1.at (by decide) (i:=1) (by simp)
  refine qM ?_
  refine qC (qA rfl ?_)
  refine mvS rfl ?_
  refine qB (wK rfl i0 rfl rfl rfl (by omega) (by omega)) ?_
  refine wX (v:=.string (bs a1)) rfl rfl ((j0.ext (Ext.refl _)) 0 _ rfl) ?_
  refine wI (caps:=[]) (vs:=[.string _]) rfl rfl rfl (numberR_ok a1 h1) ?_
  rintro _ h3 E3 ⟨n1, rfl, hN1⟩
  refine qB (qK (v:=.tuple #[.int .i64 _, .bool _]) rfl) ?_
  refine qB (wL (v:=.int .i64 _) rfl) ?_
  refine pvB rfl ?_
  refine asI rfl ?_
  refine asB rfl ?_
  refine qC (qA rfl ?_)
  refine mvS rfl ?_
  refine qB (wK rfl i1 rfl rfl rfl (by omega) (by omega)) ?_
  refine wX (v:=.string (bs b1)) rfl rfl ((j1.ext E3) 0 _ rfl) ?_
  refine wI (caps:=[]) (vs:=[.string _]) rfl rfl rfl (numberR_ok b1 h3) ?_
  rintro _ h4 E4 ⟨n2, rfl, hN2⟩
  cases q1 : numS a1 with
  | none =>
   have hnone : rangeR ws[k] = none := by rw [hr, q1]; rfl
   have g1 : (!(numS a1).isSome) = true := by rw [q1]; rfl
   rw [q1] at g1
   refine qB (qK (v:=.tuple #[.int .i64 _, .bool _]) rfl) ?_
   refine qB (wL (v:=.int .i64 _) rfl) ?_
   refine pvB rfl ?_
   refine asI rfl ?_
   refine asB rfl ?_
   refine qC (qC (qA rfl ?_))
   refine mvB rfl ?_
   refine pvB rfl ?_
   refine mvB rfl ?_
   refine qI rfl g1 ?_
   refine qI rfl g1 ?_
   refine qB (wN rfl g1 (v:=.bool _) rfl) ?_
   refine wW rfl (rfl) ?_
   refine qC (qA rfl ?_)
   refine asS rfl ?_
   refine asB rfl ?_
   refine qQ ?_
   refine qJ (vs:=[_, _]) Tryz.results70 ⟨qG rfl rfl, qG rfl rfl, trivial⟩ fun V => ?_
   exact ⟨(kX (kX (kX (kX E_k E1) E3) E4) (qN V)), _, _, _, by rw [hno hnone]; rfl, fun l e => by rw [hno hnone] at e; cases e⟩
  | some m1 =>
   have e1 := hN1 m1 q1
   subst e1
   cases q2 : numS b1 with
   | none =>
    have hnone : rangeR ws[k] = none := by rw [hr, q1, q2]; rfl
    have g1 : (!(some n1).isSome) = false := rfl
    refine qB (qK (v:=.tuple #[.int .i64 _, .bool _]) rfl) ?_
    refine qB (wL (v:=.int .i64 _) rfl) ?_
    refine pvB rfl ?_
    refine asI rfl ?_
    refine asB rfl ?_
    refine qC (qC (qA rfl ?_))
    refine mvB rfl ?_
    refine pvB rfl ?_
    refine mvB rfl ?_
    refine qF rfl g1 ?_
    refine mvB rfl ?_
    refine qF rfl g1 ?_
    refine pvB rfl ?_
    refine qB (wM rfl g1 (v:=.bool _) rfl) ?_
    refine wW rfl (rfl) ?_
    refine qC (qA rfl ?_)
    refine asS rfl ?_
    refine asB rfl ?_
    refine qQ ?_
    refine qJ (vs:=[_, _]) Tryz.results70 ⟨qG rfl rfl, qG rfl rfl, trivial⟩ fun V => ?_
    exact ⟨(kX (kX (kX (kX E_k E1) E3) E4) (qN V)), _, _, _, by rw [hno hnone]; rfl, fun l e => by rw [hno hnone] at e; cases e⟩
   | some m2 =>
    have e2 := hN2 m2 q2
    subst e2
    have hst2 : rangesF (ws.take (k + 1)) = some (ls ++ [⟨n1, n2⟩]) := by rw [hst, hr, q1, q2]; rfl
    have g1 : (!(some n1).isSome) = false := rfl
    refine qB (qK (v:=.tuple #[.int .i64 _, .bool _]) rfl) ?_
    refine qB (wL (v:=.int .i64 _) rfl) ?_
    refine pvB rfl ?_
    refine asI rfl ?_
    refine asB rfl ?_
    refine qC (qC (qA rfl ?_))
    refine mvB rfl ?_
    refine pvB rfl ?_
    refine mvB rfl ?_
    refine qF rfl g1 ?_
    refine mvB rfl ?_
    refine qF rfl g1 ?_
    refine pvB rfl ?_
    refine qB (wM rfl g1 (v:=.bool _) rfl) ?_
    refine wS rfl (rfl) ?_
    refine qM ?_
    refine qA rfl ?_
    refine mvS rfl ?_
    refine mvI rfl ?_
    refine mvI rfl ?_
    refine qB (zD (zc:=[_, _]) (vs:=[(0, .int .i64 _), (1, .int .i64 _)]) (cs:=[_, _]) rfl rfl rfl rfl rfl rfl) ?_
    refine wG (zc:=[_, _]) (vs:=[(0, .agg #[.int .i64 _, .int .i64 _])]) (cs:=[_, _]) rfl rfl rfl rfl rfl rfl rfl fun b51 hb51 => ?_
    refine qH [_, _] rfl ?_
    refine zE 0 KA rfl rfl rfl (fun V => rdP V (i:=1) rfl) rfl rfl rfl rfl rfl rfl rfl rfl rfl (by omega) rfl (by rw [hfl]; simp only [List.length_cons, List.length_nil]; omega) fun a2 h2a E2a ha2 => ?_
    refine qH [_, _] rfl ?_
    refine asS rfl ?_
    refine qA rfl ?_
    refine mvI rfl ?_
    refine qB (qO rfl (by omega)) ?_
    refine asI rfl ?_
    refine ⟨(k + 1, a2, ls ++ [⟨n1, n2⟩]), ⟨rfl, rfl, trivial⟩, rfl, rfl, (kX (kX (kX (kX E_k E1) E3) E4) E2a), fun h3 E3 => ⟨hkl, hst2, by rw [List.flatMap_append]; exact ha2⟩, by first | omega | (dsimp only; omega), ?_⟩
    repeat (first | exact qV _ _ _ | refine qX (by decide) ?_ | refine qU rfl ?_ | refine qY rfl ?_)
 skip
 have hke : k = ws.length := by have := geI hk; omega
 subst hke
 rw [List.take_length] at K2
 have hal := KA.len
 rw [hfl] at hal
 have hn : a.n = ws.length := by omega
 refine wV ?_
 refine qC (qA rfl ?_)
 refine mvS rfl ?_
 refine mvS rfl ?_
 refine qB (wP rfl rfl) ?_
 refine mvI rfl ?_
 refine pvB rfl ?_
 refine asS rfl ?_
 refine asB rfl ?_
 refine qQ ?_
 refine qJ (vs:=[_, _]) Tryz.results70 ⟨qG rfl rfl, qG rfl rfl, trivial⟩ fun V => ?_
 obtain ⟨A9, c9, e9, R9⟩ := AccP.row (m:=2) (enc:=rgC) (i:=0) (l:=ls) KA (by omega) (fun _ _ => rfl) V rfl
 have hb : ((a.n : Int) == (many : Int)) = (rangesR many ws).isSome := by
  unfold rangesR
  by_cases hq : ws.length = many
  ·rw [if_pos hq, K2, hn, hq]; simp
  rw [if_neg hq, hn]
  have : ¬ (ws.length : Int) = (many : Int) := by omega
  simpa using this
 refine ⟨(kX E_k (qN V)), A9, ls.length, c9, by rw [← hb, ← e9]; rfl, fun l e => ?_⟩
 unfold rangesR at e
 split at e
 ·rw [K2] at e; cases e; exact ⟨rfl, R9⟩
 cases e
end
end Go.Proofs.YtboigjfgpppeaaaGreatDoor
namespace Go.Wx
open Go Go.HL Go.Rd
set_option linter.all false
def lineN (t : List UInt8) : Int :=
 if (goS 0 0 s0 (splitL 10 t).dropLast).1 ≠ 0 then ((goS 0 0 s0 (splitL 10 t).dropLast).1 : Int) else if (goS 0 0 s0 (splitL 10 t).dropLast).2.1 ≠ 4 ∨ (splitL 10 t).getLast? ≠ some [] then ((splitL 10 t).length : Int) else 0
def seasN (t : List UInt8) : Season := (goS 0 0 s0 (splitL 10 t).dropLast).2.2
theorem lineN_pos (t : List UInt8) : 0 ≤ lineN t := by
 unfold lineN
 split
 ·omega
 split
 ·omega
 decide
theorem readS_parts [Lvl] (t : List UInt8) : readS t = if t.length > 500 then (s0, 0, 10) else if lineN t ≠ 0 then (s0, lineN t, 2) else if checkM (seasN t) ≠ 0 then (s0, 0, checkM (seasN t)) else (seasN t, 0, 0) := by
 unfold readS lineN seasN
 split
 ·rfl
 simp only
 by_cases h1 : (goS 0 0 s0 (splitL 10 t).dropLast).1 ≠ 0
 ·rw [if_pos h1, if_pos h1, if_pos (by omega)]
 rw [if_neg h1, if_neg h1]
 by_cases h2 : (goS 0 0 s0 (splitL 10 t).dropLast).2.1 ≠ 4 ∨ (splitL 10 t).getLast? ≠ some []
 ·have h3 : 1 ≤ (splitL 10 t).length := by
   cases h : splitL 10 t with
   | nil => exact absurd h (kN 10 t)
   | cons x xs => simp
  rw [if_pos h2, if_pos h2, if_pos (by omega)]
 rw [if_neg h2, if_neg h2]
 exact (if_neg (fun h : (0 : Int) ≠ 0 => h rfl)).symm
theorem lineN_bad {t : List UInt8} {k : Nat} {b : Int} {s : Season} (hg : goS 0 0 s0 (splitL 10 t).dropLast = (k + 1, b, s)) : lineN t = (k : Int) + 1 := by
 unfold lineN
 rw [hg]
 rw [if_pos (by simp)]
 push_cast
 rfl
theorem lineN_end {t : List UInt8} {b : Int} {s : Season} (hg : goS 0 0 s0 (splitL 10 t).dropLast = (0, b, s)) (hb : b ≠ 4 ∨ (splitL 10 t).getLast? ≠ some []) : lineN t = (splitL 10 t).length := by
 unfold lineN
 rw [hg]
 rw [if_neg (by simp), if_pos hb]
theorem lineN_ok {t : List UInt8} {b : Int} {s : Season} (hg : goS 0 0 s0 (splitL 10 t).dropLast = (0, b, s)) (hb : ¬ (b ≠ 4 ∨ (splitL 10 t).getLast? ≠ some [])) : lineN t = 0 ∧ seasN t = s := by
 unfold lineN seasN
 rw [hg]
 exact ⟨by rw [if_neg (by simp), if_neg hb], rfl⟩
theorem goS_stop {i : Nat} {b : Int} {s : Season} {r : List UInt8} {rs : List (List UInt8)} (h : lineS s r = none) : goS i b s (r :: rs) = (i + 1, b, s) := by rw [goS_cons, h]
theorem goS_bad {i : Nat} {b p : Int} {s s2 : Season} {r : List UInt8} {rs : List (List UInt8)} (h : lineS s r = some (p, s2)) (hb : p < b ∨ b = 4) : goS i b s (r :: rs) = (i + 1, b, s) := by
 rw [goS_cons, h]
 exact if_pos hb
theorem goS_next {i : Nat} {b p : Int} {s s2 : Season} {r : List UInt8} {rs : List (List UInt8)} (h : lineS s r = some (p, s2)) (hb : ¬ (p < b ∨ b = 4)) : goS i b s (r :: rs) = goS (i + 1) p s2 rs := by
 rw [goS_cons, h]
 exact if_neg hb
theorem lineS_cases {s s2 : Season} {t : List UInt8} {p : Int} (h : lineS s t = some (p, s2)) : (p = 1 ∧ ∃ x, s2 = putW s x) ∨ (p = 2 ∧ ∃ j, s2 = putJ s j) ∨ (p = 3 ∧ ∃ r, s2 = putR s r) ∨ (p = 4 ∧ s2 = s) := by
 unfold lineS at h
 split at h
 ·cases h
 unfold takeS at h
 split at h
 ·obtain ⟨x, _, e⟩ := Option.map_eq_some_iff.1 h
  simp only [Prod.mk.injEq] at e
  exact .inl ⟨e.1.symm, x, e.2.symm⟩
 split at h
 ·obtain ⟨x, _, e⟩ := Option.map_eq_some_iff.1 h
  simp only [Prod.mk.injEq] at e
  exact .inr (.inl ⟨e.1.symm, x, e.2.symm⟩)
 split at h
 ·obtain ⟨x, _, e⟩ := Option.map_eq_some_iff.1 h
  simp only [Prod.mk.injEq] at e
  exact .inr (.inr (.inl ⟨e.1.symm, x, e.2.symm⟩))
 split at h
 ·split at h
  ·simp only [Option.some.injEq, Prod.mk.injEq] at h
   exact .inr (.inr (.inr ⟨h.1.symm, h.2.symm⟩))
  cases h
 cases h
end Go.Wx
namespace Go.Wx
open Go Go.HL Go.Rd
set_option linter.all false
def takeX (s : Season) (w : List UInt8) (ws : List (List UInt8)) : Option Season :=
 if w = weekB then (weekP ws).bind fun x => if s.joints.length + s.reports.length > 0 then none else some (putW s x)
 else if w = waxB ∨ w = leatherB then (jointR (if w = leatherB then 2 else 1) ws).bind fun j => if s.reports.length > 0 then none else some (putJ s j)
 else if w = seenB then (seenR ws).map fun r => putR s r else none
structure Iv (b : Int) (s : Season) : Prop where
 r : b = 0 ∨ b = 1 ∨ b = 2 ∨ b = 3
 j1 : b < 2 → s.joints = [] ∧ s.reports = []
 j2 : b = 2 → 0 < s.joints.length ∧ s.reports = []
 j3 : b = 3 → 0 < s.reports.length
theorem iv0 : Iv 0 s0 := ⟨.inl rfl, fun _ => ⟨rfl, rfl⟩, fun h => absurd h (by decide), fun h => absurd h (by decide)⟩
theorem takeX_some {b : Int} {s s2 : Season} {t w : List UInt8} {ws : List (List UInt8)} (I : Iv b s) (hs : splitL 32 t = w :: ws) (h : takeX s w ws = some s2) : ∃ p, lineS s t = some (p, s2) ∧ ¬ (p < b ∨ b = 4) ∧ Iv p s2 := by
 have hl : lineS s t = takeS s w ws := by unfold lineS; rw [hs]
 have hr := I.r
 rw [hl]
 unfold takeX at h
 unfold takeS
 split at h
 ·rename_i hw
  rw [if_pos hw]
  obtain ⟨x, hx, e⟩ := Option.bind_eq_some_iff.1 h
  split at e
  ·cases e
  rename_i hz
  cases e
  rw [hx]
  have z1 : s.joints = [] := List.eq_nil_of_length_eq_zero (by omega)
  have z2 : s.reports = [] := List.eq_nil_of_length_eq_zero (by omega)
  have hb : b < 2 := by
   rcases hr with e | e | e | e
   ·omega
   ·omega
   ·have := (I.j2 e).1; rw [z1] at this; simp at this
   have := I.j3 e; rw [z2] at this; simp at this
  exact ⟨1, rfl, by omega, ⟨.inr (.inl rfl), fun _ => ⟨z1, z2⟩, fun h => absurd h (by decide), fun h => absurd h (by decide)⟩⟩
 rename_i hw
 rw [if_neg hw]
 split at h
 ·rename_i hx
  rw [if_pos hx]
  obtain ⟨j, hj, e⟩ := Option.bind_eq_some_iff.1 h
  split at e
  ·cases e
  rename_i hz
  cases e
  rw [hj]
  have z2 : s.reports = [] := List.eq_nil_of_length_eq_zero (by omega)
  have hb : b < 3 := by
   rcases hr with e | e | e | e
   ·omega
   ·omega
   ·omega
   have := I.j3 e; rw [z2] at this; simp at this
  exact ⟨2, rfl, by omega, ⟨.inr (.inr (.inl rfl)), fun h => absurd h (by decide), fun _ => ⟨by simp [putJ], z2⟩, fun h => absurd h (by decide)⟩⟩
 rename_i hx
 rw [if_neg hx]
 split at h
 ·rename_i hq
  rw [if_pos hq]
  obtain ⟨r, hr2, e⟩ := Option.map_eq_some_iff.1 h
  subst e
  rw [hr2]
  exact ⟨3, rfl, by omega, ⟨.inr (.inr (.inr rfl)), fun h => absurd h (by decide), fun h => absurd h (by decide), fun _ => by simp [putR]⟩⟩
 cases h
theorem takeX_none {b : Int} {s : Season} {t w : List UInt8} {ws : List (List UInt8)} (I : Iv b s) (hs : splitL 32 t = w :: ws) (ht : ¬ t = springB) (h : takeX s w ws = none) (i : Nat) (rs : List (List UInt8)) : goS i b s (t :: rs) = (i + 1, b, s) := by
 have hl : lineS s t = takeS s w ws := by unfold lineS; rw [hs]
 have hr := I.r
 cases q : takeS s w ws with
 | none => exact goS_stop (by rw [hl, q])
 | some p =>
  obtain ⟨p, s2⟩ := p
  refine goS_bad (p:=p) (s2:=s2) (by rw [hl, q]) ?_
  unfold takeX at h
  unfold takeS at q
  split at h
  ·rename_i hw
   rw [if_pos hw] at q
   obtain ⟨x, hx, e⟩ := Option.map_eq_some_iff.1 q
   simp only [Prod.mk.injEq] at e
   obtain ⟨rfl, rfl⟩ := e
   rw [hx, Option.bind_some] at h
   split at h
   ·rename_i hz
    rcases hr with e | e | e | e
    ·have := I.j1 (by omega); rw [this.1, this.2] at hz; simp at hz
    ·have := I.j1 (by omega); rw [this.1, this.2] at hz; simp at hz
    ·omega
    omega
   cases h
  rename_i hw
  rw [if_neg hw] at q
  split at h
  ·rename_i hx
   rw [if_pos hx] at q
   obtain ⟨j, hj, e⟩ := Option.map_eq_some_iff.1 q
   simp only [Prod.mk.injEq] at e
   obtain ⟨rfl, rfl⟩ := e
   rw [hj, Option.bind_some] at h
   split at h
   ·rename_i hz
    rcases hr with e | e | e | e
    ·have := I.j1 (by omega); rw [this.2] at hz; simp at hz
    ·have := I.j1 (by omega); rw [this.2] at hz; simp at hz
    ·have := I.j2 e; rw [this.2] at hz; simp at hz
    omega
   cases h
  rename_i hx
  rw [if_neg hx] at q
  split at h
  ·rename_i hq
   rw [if_pos hq] at q
   rw [Option.map_eq_none_iff] at h
   rw [h] at q
   cases q
  rename_i hq
  rw [if_neg hq] at q
  split at q
  ·rename_i hp
   split at q
   ·rename_i hws
    have := join_split 32 t
    rw [hs, hp, hws] at this
    exact absurd this.symm ht
   cases q
  cases q
theorem goS_ended {s : Season} (i : Nat) (t : List UInt8) (rs : List (List UInt8)) : goS i 4 s (t :: rs) = (i + 1, 4, s) := by
 cases h : lineS s t with
 | none => exact goS_stop h
 | some p => exact goS_bad (p:=p.1) (s2:=p.2) h (.inr rfl)
theorem goS_spring {b : Int} {s : Season} (I : Iv b s) (i : Nat) (rs : List (List UInt8)) : goS i b s (springB :: rs) = goS (i + 1) 4 s rs := goS_next (p:=4) (s2:=s) rfl (by have := I.r; omega)
end Go.Wx
