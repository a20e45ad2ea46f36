/- An own logic over the model, its walks and its plain laws, joined of parts GV GK GL GM GN GO GS GT GW GX GY GU Ri Rj Rs Rv GZ V1 V2 V3 Rk Rl V4 HA R10 R11 R12. Conditions: as each theorem states. -/
import Derived.Test.YtmpahfdiebhdbaaDoorLa3
import Derived.Test.YtmpahfdiebhdbaaDoorLa2
import Derived.Test.YtmpahfdiebhdbaaDoorLa1
set_option linter.all false
namespace Go.HL
open Go Go.Conc
variable [Lvl]
section
variable {P : Program} {n : Nat} {ops : Array Oper} {os : List Oper} {K : Sl → Pv → AH → Prop} {E : Value → Sl → Pv → AH → Prop} {S : Sl} {L : Pv} {h : AH} {d : Option Tmp} {ty : TypeId} {ps : String} {af : Array Edge}
theorem op_panic {x : Operand} {t : TypeId} {v : Value} (hx : ev n S x = .iface t v) (e : E (.iface t v) S L h) : wpL P n ops (⟨d, .panic x, ty, ps, af, none⟩ :: os) K E S L h := by
 refine op_of fun V => ?_
 unfold opW
 simp only [execOp, hx]
 exact ⟨L, h, rfl, V, e⟩
def FnE (P : Program) (f : FuncId) (args : Array Value) (h : AH) (R Q : Value → AH → Prop) : Prop := CallT P f args h (fun v h' => Ext h h' ∧ R v h') (fun v h' => Ext h h' ∧ Q v h')
theorem FnE.of {f : FuncId} {args : Array Value} {R Q : Value → AH → Prop} (c : FnT P f args h R) : FnE P f args h R Q := CallT.mono c (fun _ _ r => r) (fun _ _ y => y.elim)
end
section
variable {P : Program} {n : Nat} {S : Sl} {D : Df} {L : Pv} {h : AH} {ops : Array Oper} {i : Nat} {rest : List Nat} {o : Oper} {b : Frame} {k : List Item} {cs : List Frame} {w : World} {main : Bool}
def laterF (g : FuncId) (caps : Array Value) : Deferred := { target := .fn (.func g) caps, args := #[] }
theorem step_deferF {x : Operand} {g : FuncId} {caps : Array Value} {ats : Array TypeId} (ho : ops[i]? = some o) (hw : Region.wanted o (yielded ops (arr n S)) = true) (hop : o.op = .defer { callee := .value x, args := #[], argTypes := ats }) (hx : ev n S x = .func (.func g) #[] caps) (hro : b.roundOf = none) :
  stepG P main (G (mk b n S D (.inRegion ops (i :: rest) :: k)) cs) w = .go (G (mk b n (put S o.dst undef) (laterF g caps :: D) (.inRegion ops rest :: k)) cs) w := by
 have he := mk_eval b n S D (.inRegion ops (i :: rest) :: k)
 simp only [mk, hro] at he
 have hr : (execOp (ev n S) o).runT P w #[] = (.ok (.defer (laterF g caps)) w, #[]) := by
  unfold execOp
  simp only [hop, resolve, Deferred.ofValue, hx]
  simp [bind, pure, Sem.bind, Sem.runT, -Sem.runT_eq, laterF]
 have hf := mk_finish (n := n) b S (laterF g caps :: D) ops i rest k o ho undef
 have e1 : stepG P main (G (mk b n S D (.inRegion ops (i :: rest) :: k)) cs) w = stepG.apply P true (mk b n S D (.inRegion ops (i :: rest) :: k)) cs none (execOp (ev n S) o) w := by
  simp only [stepG, stepG.exec, stepG.oper, Frame.oper?, mk, ho, he, Option.map_some, Option.getD_some, hw, if_true, hro]
 rw [e1]
 unfold stepG.apply
 simp only [hr, if_true]
 have hf2 : Frame.finish { mk b n S D (.inRegion ops (i :: rest) :: k) with defers := laterF g caps :: (mk b n S D (.inRegion ops (i :: rest) :: k)).defers } undef = mk b n (put S o.dst undef) (laterF g caps :: D) (.inRegion ops rest :: k) := hf
 rw [hf2]
 split <;> simp_all [seen_nil, after_nil]
theorem goes_deferF {K : Post} {x : Operand} {g : FuncId} {caps : Array Value} {ats : Array TypeId} (ho : ops[i]? = some o) (hw : Region.wanted o (yielded ops (arr n S)) = true) (hop : o.op = .defer { callee := .value x, args := #[], argTypes := ats }) (hx : ev n S x = .func (.func g) #[] caps)
  (g2 : Goes P n none [.inRegion ops rest] K (put S o.dst undef) (laterF g caps :: D) L h) : Goes P n none [.inRegion ops (i :: rest)] K S D L h := by
 intro H V b hb k cs
 refine .ctl (fr' := mk b n (put S o.dst undef) (laterF g caps :: D) ([.inRegion ops rest] ++ k)) (cs' := cs) (fun main w => step_deferF ho hw hop hx hb) ?_
 have V' : Fits h L (laterF g caps :: D) H := ⟨V.valid, V.disj, V.nd, V.eq⟩
 exact g2 H V' b hb k cs
theorem step_later {g : FuncId} {gn : Func} {c : Code} {caps : Array Value} {md : FrameMode} {todo : List Item} (hg : P.funcs[g]? = some gn) (hname : (gn.name == "runtime.NumGoroutine") = false) (hb : gn.body = some c) (hmd : md = .returning ∨ ∃ ch, md = .panicking ch) :
  stepG P main (G { mk b n S (laterF g caps :: D) todo with mode := md } cs) w = .go (G (Frame.enter P g caps .deferred) ({ mk b n S D todo with mode := md } :: cs)) w := by
 have h1 : ¬ gn.name = "runtime.NumGoroutine" := by simpa using hname
 rcases hmd with rfl | ⟨ch, rfl⟩
 ·simp [stepG, unwind, callDeferred, laterF, mk, invoke, callFunc, hg, h1, hb, GStep.after, seen_none]
 ·simp [stepG, unwind, callDeferred, laterF, mk, invoke, callFunc, hg, h1, hb, GStep.after, seen_none]
theorem exec_recover {ats : Array TypeId} (hop : o.op = .call { callee := .builtin .recover, args := #[], argTypes := ats }) : (execOp (ev n S) o).runT P w #[] = (.ok .recover w, #[]) := by
 unfold execOp
 simp only [hop, resolve, invoke, builtin]
 simp [bind, pure, Sem.bind, Sem.runT, -Sem.runT_eq]
theorem step_recover {ats : Array TypeId} {v : Value} {older : List PanicEntry} {c0 : Frame} (ho : ops[i]? = some o) (hw : Region.wanted o (yielded ops (arr n S)) = true) (hop : o.op = .call { callee := .builtin .recover, args := #[], argTypes := ats }) (hbk : b.kind = .deferred) (hro : b.roundOf = none)
  (hm : c0.mode = .panicking ({ v := v, recovered := false } :: older)) :
  stepG P main (G (mk b n S D (.inRegion ops (i :: rest) :: k)) (c0 :: cs)) w = .go (G (mk b n (put S o.dst v) D (.inRegion ops rest :: k)) ({ c0 with mode := .panicking ({ v := v, recovered := true } :: older) } :: cs)) w := by
 have he := mk_eval b n S D (.inRegion ops (i :: rest) :: k)
 simp only [mk, hro] at he
 have hf := mk_finish (n := n) b S D ops i rest k o ho v
 have e1 : stepG P main (G (mk b n S D (.inRegion ops (i :: rest) :: k)) (c0 :: cs)) w = stepG.apply P true (mk b n S D (.inRegion ops (i :: rest) :: k)) (c0 :: cs) none (execOp (ev n S) o) w := by
  simp only [stepG, stepG.exec, stepG.oper, Frame.oper?, mk, ho, he, Option.map_some, Option.getD_some, hw, if_true, hro, hop]
 have e2 : tryRecover (mk b n S D (.inRegion ops (i :: rest) :: k)) (c0 :: cs) = some (v, { c0 with mode := .panicking ({ v := v, recovered := true } :: older) } :: cs) := by
  simp only [tryRecover, mk, hbk, hm]
 have e3 : (mk b n S D (.inRegion ops (i :: rest) :: k)).roundOf = none := hro
 rw [e1]
 unfold stepG.apply
 simp only [exec_recover hop, if_true, e3, e2, hf]
 split <;> simp_all [seen_nil, after_nil]
theorem step_norec {ats : Array TypeId} {c0 : Frame} (ho : ops[i]? = some o) (hw : Region.wanted o (yielded ops (arr n S)) = true) (hop : o.op = .call { callee := .builtin .recover, args := #[], argTypes := ats }) (hbk : b.kind = .deferred) (hro : b.roundOf = none)
  (hm : c0.mode = .returning) :
  stepG P main (G (mk b n S D (.inRegion ops (i :: rest) :: k)) (c0 :: cs)) w = .go (G (mk b n (put S o.dst .nilIface) D (.inRegion ops rest :: k)) (c0 :: cs)) w := by
 have he := mk_eval b n S D (.inRegion ops (i :: rest) :: k)
 simp only [mk, hro] at he
 have hf := mk_finish (n := n) b S D ops i rest k o ho .nilIface
 have e1 : stepG P main (G (mk b n S D (.inRegion ops (i :: rest) :: k)) (c0 :: cs)) w = stepG.apply P true (mk b n S D (.inRegion ops (i :: rest) :: k)) (c0 :: cs) none (execOp (ev n S) o) w := by
  simp only [stepG, stepG.exec, stepG.oper, Frame.oper?, mk, ho, he, Option.map_some, Option.getD_some, hw, if_true, hro, hop]
 have e2 : tryRecover (mk b n S D (.inRegion ops (i :: rest) :: k)) (c0 :: cs) = none := by
  simp only [tryRecover, mk, hbk, hm]
 have e3 : (mk b n S D (.inRegion ops (i :: rest) :: k)).roundOf = none := hro
 rw [e1]
 unfold stepG.apply
 simp only [exec_recover hop, if_true, e3, e2, hf]
 split <;> simp_all [seen_nil, after_nil]
theorem step_back {g : FuncId} {gn : Func} {c0 : Frame} {todo : List Item} {v : Value} (hg : P.funcs[g]? = some gn) (hres : gn.results = #[]) (hbf : b.fn = g) (hbk : b.kind = .deferred) (hm : c0.mode = .returning ∨ c0.mode = .panicking [{ v := v, recovered := true }]) :
  stepG P main (G { mk b n S [] todo with mode := .returning } (c0 :: cs)) w = .go (G { c0 with mode := .returning } cs) w := by
 subst hbf
 have hr : ∀ w, (results gn (arr n S)).runT P w #[] = (.ok (.tuple #[]) w, #[]) := fun w => by
  exact Prod.ext ((Sem.runT_fst _ _ _ _).trans (results_none hres _ P w)) (events_results_none hres _ _)
 rcases hm with hm | hm
 ·have e : c0 = { c0 with mode := .returning } := by cases c0; simp at hm; subst hm; rfl
  simp only [stepG, unwind, mk, hg, hr w, doReturn, hbk, hm]
  simp [seen_nil, after_nil]
  exact e
 ·simp only [stepG, unwind, mk, hg, hr w, doReturn, hbk, hm]
  simp [seen_nil, after_nil]
end
section
variable {P : Program} {n : Nat} {K : Value → AH → Prop}
def Clo (P : Program) (m : Nat) (ops0 : Array Oper) (c2 : Code) (t : Tmp) (x : Value) (caps : Array Value) (L : Pv) (h : AH) (Q : Pv → AH → Prop) : Prop :=
 Nat.ble caps.size m = true ∧ Goes P m none ([.inRegion ops0 [1]] ++ [.code c2]) (fun e _ D L' h' => (e = .normal ∨ e = .ret) ∧ D = [] ∧ Q L' h') (put (argS caps) (some t) x) [] L h
def doneK (P : Program) (n : Nat) (fn : Func) (K : Value → AH → Prop) (S : Sl) (L : Pv) (h : AH) : Prop := Valid h L → dem P (results fn (arr n S)) (wl h L) K noE
def deferK (P : Program) (n : Nat) (fn : Func) (K : Value → AH → Prop) (g : FuncId) (m : Nat) (ops0 : Array Oper) (c2 : Code) (t : Tmp) : Post
 | .normal, S, D, L, h => (D = [] ∧ doneK P n fn K S L h) ∨ ∃ caps, D = [laterF g caps] ∧ Clo P m ops0 c2 t .nilIface caps L h (fun L2 h2 => doneK P n fn K S L2 h2)
 | .ret, S, D, L, h => (D = [] ∧ doneK P n fn K S L h) ∨ ∃ caps, D = [laterF g caps] ∧ Clo P m ops0 c2 t .nilIface caps L h (fun L2 h2 => doneK P n fn K S L2 h2)
 | .panic v, S, D, L, h => ∃ caps, D = [laterF g caps] ∧ Clo P m ops0 c2 t v caps L h (fun L2 h2 => doneK P n fn K S L2 h2)
 | .exit _, _, _, _, _ => False
theorem call_defer {f : FuncId} {fn : Func} {c : Code} {args : Array Value} {h : AH} (hf : P.funcs[f]? = some fn) (hb : fn.body = some c) (hn : fn.ntmps = n) (ha : Nat.ble args.size n = true)
  {g : FuncId} {gn : Func} {id0 : Nat} {ops0 : Array Oper} {c2 : Code} {m : Nat} {o0 : Oper} {t : Tmp} {ats : Array TypeId} (hg : P.funcs[g]? = some gn) (hname : (gn.name == "runtime.NumGoroutine") = false) (hgb : gn.body = some (.seq (.region id0 ops0 false) c2)) (hgm : gn.ntmps = m) (hres : gn.results = #[])
  (h0 : ops0[0]? = some o0) (hop : o0.op = .call { callee := .builtin .recover, args := #[], argTypes := ats }) (hd : o0.dst = some t) (hgd : o0.guard = none) (hsz : ops0.size = 2)
  (w : xp P n none c (deferK P n fn K g m ops0 c2 t) (argS args) [] [] h) : CallT P f args h K noE := by
 intro hfin c0 cs
 have he : Frame.enter P f args .normal = mk { (default : Frame) with fn := f, kind := .normal, roundOf := none } n (argS args) [] [.code c] := by
  simp [Frame.enter, mk, hf, hb, hn, enter_tmps n args (Nat.le_of_ble_eq_true ha)]
 rw [he]
 have w1 := w h (by have := Fits.nil (valid_nil hfin); rw [wl_nil] at this; exact this) { (default : Frame) with fn := f, kind := .normal, roundOf := none } rfl [] (c0 :: cs)
 obtain ⟨b, hbdef⟩ : ∃ b : Frame, b = { (default : Frame) with fn := f, kind := .normal, roundOf := none } := ⟨_, rfl⟩
 have hbf : b.fn = f := by rw [hbdef]
 have hbk : b.kind = .normal := by rw [hbdef]
 have hbr : b.roundOf = none := by rw [hbdef]
 rw [← hbdef] at w1 ⊢
 -- the way back, when nothing is put off any more
 have back : ∀ (S : Sl) (L : Pv) (h' H : AH) (todo : List Item), Fits h' L [] H → doneK P n fn K S L h' →
   Rch P (fun fr cs' h' => cs' = cs ∧ ((∃ v, fr = c0.finish v ∧ K v h') ∨ (∃ v, fr = c0.raise [{ v := v, recovered := false }] ∧ noE v h'))) { mk b n S [] todo with mode := .returning } (c0 :: cs) H := by
  intro S L h' H todo V kk
  refine ret_run hf c0 cs b hbf hbk S L todo [] h' H V rfl (fun h2 _ e V2 => ?_)
  rw [e rfl] at V2 ⊢
  exact kk V2
 -- the closure is run
 have run : ∀ (S : Sl) (L : Pv) (h' H : AH) (todo : List Item) (caps : Array Value) (x : Value) (md md' : FrameMode), Fits h' L [laterF g caps] H → (md = .returning ∨ ∃ ch, md = .panicking ch) →
   (∀ (b' : Frame) (S' : Sl) (k : List Item) (c1 : Frame) (cs' : List Frame) main w, c1.mode = md → b'.kind = .deferred → b'.roundOf = none → stepG P main (G (mk b' m S' [] (.inRegion ops0 (0 :: [1]) :: k)) (c1 :: cs')) w = .go (G (mk b' m (put S' o0.dst x) [] (.inRegion ops0 [1] :: k)) ({ c1 with mode := md' } :: cs')) w) →
   (md' = .returning ∨ md' = .panicking [{ v := x, recovered := true }]) →
   Clo P m ops0 c2 t x caps L h' (fun L2 h2 => doneK P n fn K S L2 h2) →
   Rch P (fun fr cs' h' => cs' = cs ∧ ((∃ v, fr = c0.finish v ∧ K v h') ∨ (∃ v, fr = c0.raise [{ v := v, recovered := false }] ∧ noE v h'))) { mk b n S [laterF g caps] todo with mode := md } (c0 :: cs) H := by
  intro S L h' H todo caps x md md' V hmd hrec hmd' clo
  obtain ⟨hcs, clo⟩ := clo
  have hH : Fits h' L [] H := ⟨V.valid, by rw [mkH_nil]; exact disj_nil _, List.nodup_nil, by rw [V.eq]; rfl⟩
  refine .ctl (fr' := Frame.enter P g caps .deferred) (cs' := { mk b n S [] todo with mode := md } :: c0 :: cs) (fun main w => step_later hg hname hgb hmd) ?_
  have he2 : Frame.enter P g caps .deferred = mk { (default : Frame) with fn := g, kind := .deferred, roundOf := none } m (argS caps) [] [.code (.seq (.region id0 ops0 false) c2)] := by
   simp [Frame.enter, mk, hg, hgb, hgm, enter_tmps m caps (Nat.le_of_ble_eq_true hcs)]
  rw [he2]
  refine .ctl (fr' := mk { (default : Frame) with fn := g, kind := .deferred, roundOf := none } m (argS caps) [] [.code (.region id0 ops0 false), .code c2]) (cs' := { mk b n S [] todo with mode := md } :: c0 :: cs) (fun main w => by simp [stepG, stepG.exec, mk]) ?_
  refine .ctl (fr' := mk { (default : Frame) with fn := g, kind := .deferred, roundOf := none } m (argS caps) [] [.inRegion ops0 (0 :: [1]), .code c2]) (cs' := { mk b n S [] todo with mode := md } :: c0 :: cs) (fun main w => by simp [stepG, stepG.exec, mk, hsz]; rfl) ?_
  refine .ctl (fr' := mk { (default : Frame) with fn := g, kind := .deferred, roundOf := none } m (put (argS caps) (some t) x) [] ([.inRegion ops0 [1]] ++ [.code c2] ++ [])) (cs' := { mk b n S [] todo with mode := md' } :: c0 :: cs) (fun main w => by rw [← hd]; exact hrec _ _ _ _ _ main w rfl rfl rfl) ?_
  refine (clo H hH _ rfl [] ({ mk b n S [] todo with mode := md' } :: c0 :: cs)).bind ?_
  rintro fr cs' H' ⟨rfl, e, S', D', L', h2, V', ⟨hex, rfl, q⟩, a⟩
  have fin : ∀ todo', Rch P (fun fr cs' h' => cs' = cs ∧ ((∃ v, fr = c0.finish v ∧ K v h') ∨ (∃ v, fr = c0.raise [{ v := v, recovered := false }] ∧ noE v h'))) { mk { (default : Frame) with fn := g, kind := .deferred, roundOf := none } m S' [] todo' with mode := .returning } ({ mk b n S [] todo with mode := md' } :: c0 :: cs) H' := fun todo' => by
   refine .ctl (fr' := { mk b n S [] todo with mode := .returning }) (cs' := c0 :: cs) (fun main w => step_back (c0 := { mk b n S [] todo with mode := md' }) (v := x) hg hres rfl rfl hmd') (back S L' h2 H' todo V' q)
  rcases hex with rfl | rfl
  ·have a' : fr = mk { (default : Frame) with fn := g, kind := .deferred, roundOf := none } m S' [] [] := a
   subst a'
   exact .ctl (fr' := { mk { (default : Frame) with fn := g, kind := .deferred, roundOf := none } m S' [] [] with mode := .returning }) (cs' := { mk b n S [] todo with mode := md' } :: c0 :: cs) (fun main w => by simp [stepG, stepG.exec, mk]) (fin [])
  ·obtain ⟨todo', rfl⟩ := a.1 rfl
   exact fin todo'
 have hw0 : ∀ S' : Sl, Region.wanted o0 (yielded ops0 (arr m S')) = true := fun S' => by simp [Region.wanted, hgd]
 have ret : ∀ (S : Sl) (D : Df) (L : Pv) (h' H : AH) (todo : List Item), Fits h' L D H → ((D = [] ∧ doneK P n fn K S L h') ∨ ∃ caps, D = [laterF g caps] ∧ Clo P m ops0 c2 t .nilIface caps L h' (fun L2 h2 => doneK P n fn K S L2 h2)) →
   Rch P (fun fr cs' h' => cs' = cs ∧ ((∃ v, fr = c0.finish v ∧ K v h') ∨ (∃ v, fr = c0.raise [{ v := v, recovered := false }] ∧ noE v h'))) { mk b n S D todo with mode := .returning } (c0 :: cs) H := by
  rintro S D L h' H todo V (⟨rfl, kk⟩ | ⟨caps, rfl, clo⟩)
  ·exact back S L h' H todo V kk
  ·refine run S L h' H todo caps .nilIface .returning .returning V (.inl rfl) ?_ (.inl rfl) clo
   intro b' S' k c1 cs' main w hm hk hr
   have hc1 : c1 = { c1 with mode := .returning } := by cases c1; simp at hm; subst hm; rfl
   rw [← hc1]
   exact step_norec h0 (hw0 S') hop hk hr hm
 refine w1.bind ?_
 rintro fr cs' H ⟨rfl, e, S', D', L', h', V', kk, a⟩
 cases e with
 | normal =>
  have a' : fr = mk b n S' D' [] := a
  subst a'
  exact .ctl (fr' := { mk b n S' D' [] with mode := .returning }) (cs' := c0 :: cs) (fun main w => by simp [stepG, stepG.exec, mk, hbr]) (ret S' D' L' h' H [] V' kk)
 | ret =>
  obtain ⟨todo, rfl⟩ := a.1 (by rw [hbdef])
  exact ret S' D' L' h' H todo V' kk
 | panic v =>
  obtain ⟨todo, rfl⟩ := a
  obtain ⟨caps, rfl, clo⟩ := kk
  refine run S' L' h' H todo caps v (.panicking [{ v := v, recovered := false }]) (.panicking [{ v := v, recovered := true }]) V' (.inr ⟨_, rfl⟩) ?_ (.inr rfl) clo
  intro b' S2 k c1 cs' main w hm hk hr
  exact step_recover h0 (hw0 S2) hop hk hr hm
 | exit id => exact kk.elim
end
end Go.HL
namespace Go.HL
open Go
variable [Lvl]
def YieldsS {α : Type} (P : Program) (y : Value) (all : List α) (T : AH → α → Value → Prop) (I : Nat → AH → Pv → Prop) (F : AH → Pv → Prop) : Prop :=
 ∀ (k : Nat) (x : α) (v : Value) (h : AH) (M : Pv), all[k]? = some x → T h x v → I k h M → FnM P y [v] h M (fun r h' M' => (r = .bool true ∧ I (k + 1) h' M') ∨ (r = .bool false ∧ F h' M'))
def IterS {α : Type} (P : Program) (f : Value) (h0 : AH) (all : List α) (T : AH → α → Value → Prop) : Prop :=
 ∀ (fn : Fn) (fs cs : Array Value) (I : Nat → AH → Pv → Prop) (F : AH → Pv → Prop), (∀ k h h' M, Ext h h' → I k h M → I k h' M) → (∀ h h' M, Ext h h' → F h M → F h' M) → YieldsS P (.func fn fs cs) all T I F →
  ∀ h M, Ext h0 h → I 0 h M → FnM P f [.func fn fs cs] h M (fun _ h' M' => I all.length h' M' ∨ F h' M')
theorem IterS.ext {α : Type} {P : Program} {f : Value} {h h' : AH} {all : List α} {T : AH → α → Value → Prop} (i : IterS P f h all T) (E : Ext h h') : IterS P f h' all T :=
 fun fn fs cs I F hI hF Y h1 M E1 => i fn fs cs I F hI hF Y h1 M (E.trans E1)
theorem wl_fillO {h : AH} {L : Pv} {i : Nat} {p : Option (Nat × Obj)} (hi : L[i]? = some none) (V : Valid h (L ++ [p])) : wl h (L ++ [p]) = wl h (L.set i p) ∧ Valid h (L.set i p) := by
 cases p with
 | none =>
  have e : L.set i none = L := by
   apply List.ext_getElem?
   intro j
   rw [List.getElem?_set]
   by_cases hj : i = j
   ·subst hj
    rw [hi]
    simp [(List.getElem?_eq_some_iff.1 hi).1]
   ·simp [hj]
  have e2 : cl (L ++ [none]) = cl L := by simp [cl]
  rw [e]
  unfold Valid at V
  unfold wl Valid
  rw [e2] at V ⊢
  exact ⟨rfl, V⟩
 | some q => exact wl_perm (cl_fill L q hi).symm V
section
variable {P : Program} {n : Nat} {ops : Array Oper} {os : List Oper} {K : Sl → Pv → AH → Prop} {E : Value → Sl → Pv → AH → Prop} {S : Sl} {L : Pv} {h : AH} {d : Option Tmp} {op : Op} {ty : TypeId} {ps : String} {af : Array Edge}
theorem op_fnF (i : Nat) {x : Operand} {xs : List Operand} {ats : Array TypeId} {y : Value} {vs : List Value} {R : Value → AH → Option (Nat × Obj) → Prop} (hi : L[i]? = some none) (hf : ev n S x = y) (hx : xs.map (ev n S) = vs) (c : FnM P y vs h [] (fun v h' M' => ∃ p, M' = [p] ∧ R v h' p))
  (k : ∀ v h' p, Valid h' (L ++ [p]) → Ext h h' → R v h' p → wpL P n ops os K E (put S d v) (L.set i p) h') : wpL P n ops (⟨d, .call ⟨.value x, xs.toArray, ats⟩, ty, ps, af, none⟩ :: os) K E S L h := by
 refine op_of fun V => ?_
 have w : wpL P n ops [⟨d, .call ⟨.value x, xs.toArray, ats⟩, ty, ps, af, none⟩] (fun S' L' h' => ∃ p, L' = L ++ [p] ∧ Valid h' (L ++ [p]) ∧ wpL P n ops os K E S' (L.set i p) h') (fun _ _ _ _ => False) S L h :=
  op_fnV hf hx c fun v h' M' V' E' r => by
   obtain ⟨p, rfl, r⟩ := r
   exact ⟨p, rfl, V', k v h' p V' E' r⟩
 refine opW_mono ?_ ?_ (w V)
 ·rintro v H ⟨L', h', rfl, V1, p, rfl, V2, w2⟩
  obtain ⟨e, V3⟩ := wl_fillO hi V2
  exact ⟨_, h', e, V3, w2⟩
 ·rintro v H ⟨L', h', _, _, y⟩; exact y.elim
theorem op_open (w : wpL P n ops [⟨d, op, ty, ps, af, none⟩] (fun S' L' h' => h' = h ∧ ∃ b ob, L' = L ++ [some (b, ob)] ∧ ∀ h2, Ext h h2 → h2 b = some ob → wpL P n ops os K E S' L h2) (fun _ _ _ _ => False) S L h) : wpL P n ops (⟨d, op, ty, ps, af, none⟩ :: os) K E S L h := by
 refine op_of fun V => ?_
 refine opW_mono ?_ ?_ (w V)
 ·rintro v H ⟨L', h', rfl, V1, rfl, b, ob, rfl, k⟩
  obtain ⟨V2, hb, _⟩ := wl_last V1
  have hi : (L ++ [some (b, ob)])[L.length]? = some (some (b, ob)) := by simp
  have e0 : (L ++ [some (b, ob)]).set L.length none = L ++ [none] := by simp
  have e1 : cl (L ++ [none]) = cl L := by simp [cl]
  have hp := wl_pub V1 hi
  have Vp := valid_pub V1 hi
  rw [e0] at hp Vp
  unfold wl at hp
  unfold Valid at Vp
  rw [e1] at hp Vp
  exact ⟨L, hupd h' b ob, hp, Vp, k _ (Ext.new (Ext.refl h') (wl_fresh V1 hi) ob) (by simp [hupd])⟩
 ·rintro v H ⟨L', h', _, _, y⟩; exact y.elim
end
theorem runT_more {P : Program} {α : Type} : ∀ (s : Sem α) (w : World) (es es' : Array Event), (∀ e ∈ es, e ∈ es') → ∀ e ∈ (s.runT P w es).2, e ∈ (s.runT P w es').2 := by
 have push : ∀ {es es' : Array Event} {a : Event}, (∀ e ∈ es, e ∈ es') → ∀ e ∈ es.push a, e ∈ es'.push a := fun h e he => by
  rw [Array.mem_push] at he ⊢
  exact he.imp (h e) id
 have app : ∀ {es es' u : Array Event}, (∀ e ∈ es, e ∈ es') → ∀ e ∈ es ++ u, e ∈ es' ++ u := fun h e he => by
  rw [Array.mem_append] at he ⊢
  exact he.imp (h e) id
 intro s
 induction s with
 | pure a => intro w es es' h; exact h
 | load m a k ih =>
  intro w es es' h
  simp only [Sem.runT]
  cases w.cell? a with
  | some v => exact ih v w _ _ (push h)
  | none =>
   cases w.farLoad P a (m == .atomic) with
   | ok p => exact ih p.1 w _ _ (app h)
   | error x => exact h
 | store m a v k ih =>
  intro w es es' h
  have key : ∀ v : Value, plainV v → ∀ e ∈ ((Sem.store m a v k).runT P w es).2, e ∈ ((Sem.store m a v k).runT P w es').2 := by
   intro v hv
   have e2 : ∀ es : Array Event, (Sem.store m a v k).runT P w es = (match w.cell? a with
     | some _ => if w.frozen? a then (.halt (.unsupported (.unsafePointer "a write to bytes that a string shares")) w, es) else k.runT P (w.setCell a v) (es.push ⟨.cell a, true, m == .atomic⟩)
     | none => match w.farStore P a v (m == .atomic) with
      | .ok (w, touched) => k.runT P w (es ++ touched.toArray.map (⟨.cell ·, true, m == .atomic⟩))
      | .error h => (.halt h w, es)) := fun es => by cases v <;> first | exact hv.elim | rfl
   rw [e2, e2]
   cases w.cell? a with
   | some _ =>
    cases w.frozen? a with
    | true => exact h
    | false => exact ih _ _ _ (push h)
   | none =>
    cases w.farStore P a v (m == .atomic) with
    | ok p => exact ih p.1 _ _ (app h)
    | error x => exact h
  cases v <;> first | exact key _ trivial | exact h
 | new o k ih => intro w es es' h; exact ih _ _ _ _ h
 | shape r k ih => intro w es es' h; exact ih _ _ _ _ h
 | freeze a n k ih => intro w es es' h; exact ih _ _ _ h
 | frozen a k ih => intro w es es' h; exact ih _ _ _ _ h
 | getObj r k ih =>
  intro w es es' h
  simp only [Sem.runT]
  cases w.heap[r]? with
  | none => exact h
  | some o => cases o <;> first | exact h | exact ih _ w _ _ (push h)
 | setObj r o k ih =>
  intro w es es' h
  simp only [Sem.runT]
  cases w.heap[r]? with
  | none => exact h
  | some o => cases o <;> first | exact h | exact ih _ _ _ (push h)
 | choose q k ih =>
  intro w es es' h
  simp only [Sem.runT]
  split
  ·exact ih _ _ _ _ (by first | exact h | exact push h)
  ·exact ih _ _ _ _ (by first | exact h | exact push h)
 | sys c k ih => intro w es es' h; exact ih _ _ _ _ (by first | exact h | exact push h | exact app h)
 | program k ih => intro w es es' h; exact ih _ _ _ _ h
 | mark m k ih => intro w es es' h; exact ih _ _ _ (by first | exact h | exact push h | exact app h)
 | halt x => intro w es es' h; exact h
end Go.HL
namespace Go.HL
open Go
variable [Lvl]
section
variable {P : Program} {n : Nat} {ops : Array Oper} {os : List Oper} {K : Sl → Pv → AH → Prop} {E : Value → Sl → Pv → AH → Prop} {S : Sl} {L : Pv} {h : AH} {d : Option Tmp} {ty : TypeId} {ps : String} {af : Array Edge}
variable {α : Type} [DecidableEq α] {kt : TypeId} {enc : α → Value}
theorem op_lookup (i : Nat) {t et : TypeId} {x y : Operand} {m : Nat} {a : α} {z : Value} {l : List (α × Value)} (hk : KeyT P kt enc) (ht : pev P (underlying t) = some (.map kt et)) (hx : ev n S x = .map (some m)) (hy : ev n S y = enc a) (hz : pev P (zeroValue et) = some z) (hi : L[i]? = some (some (m, mapO (encs enc l)))) {w : Value} (hw : (findL a l 0).elim z (·.2) = w)
  (k : wpL P n ops os K E (put S d w) L h) : wpL P n ops (⟨d, .lookup t x y false, ty, ps, af, none⟩ :: os) K E S L h := by
 subst hw
 refine op_of fun V => ?_
 unfold opW
 simp only [execOp, hx, hy]
 refine wB ?_
 unfold Instr.lookup
 refine qU ht ?_
 simp only
 refine wB ?_
 refine ⟨_, zC V hi, trivial, ?_⟩
 show dem P (Instr.checkKey _ 10000 kt (enc a) >>= _) _ _ _
 refine qU (hk.chk _ a) ?_
 have hf : pev P (Instr.findKey kt (enc a) (mapEs (encs enc l) 0).toArray.toList) = some (findL a l 0) := findKey_ok hk a l
 refine qU hf ?_
 cases hfl : findL a l 0 with
 | none =>
  rw [hfl] at k
  refine qU hz ?_
  exact ⟨L, h, rfl, V, k⟩
 | some p =>
  rw [hfl] at k
  exact ⟨L, h, rfl, V, k⟩
end
def cntL {α : Type} [DecidableEq α] : List α → List (α × Value)
 | [] => []
 | x :: l => putL x (.int .i64 ((l.count x : Nat) + 1)) (cntL l)
theorem findL_put {α : Type} [DecidableEq α] (a b : α) (v : Value) : ∀ (l : List (α × Value)) (i : Nat), (findL a (putL b v l) i).map (·.2) = if a = b then some v else (findL a l i).map (·.2)
 | [], i => by
  unfold putL findL
  split
  ·rfl
  ·rfl
 | (c, u) :: l, i => by
  unfold putL
  by_cases hbc : b = c
  ·subst hbc
   rw [if_pos rfl]
   simp only [findL]
   split <;> rfl
  ·rw [if_neg hbc]
   simp only [findL]
   by_cases hac : a = c
   ·subst hac
    rw [if_pos rfl, if_pos rfl, if_neg (fun e => hbc e.symm)]
   ·rw [if_neg hac, if_neg hac]
    exact findL_put a b v l (i + 1)
theorem cnt_find {α : Type} [DecidableEq α] (a : α) : ∀ (l : List α), (findL a (cntL l) 0).elim (.int .i64 0) (·.2) = .int .i64 (l.count a : Nat)
 | [] => rfl
 | x :: l => by
  have ih := cnt_find a l
  have hp := findL_put a x (.int .i64 ((l.count x : Nat) + 1)) (cntL l) 0
  have e : ∀ o : Option (Nat × Value), o.elim (.int .i64 0) (·.2) = (o.map (·.2)).getD (.int .i64 0) := fun o => by cases o <;> rfl
  rw [e] at ih ⊢
  unfold cntL
  rw [hp]
  by_cases hax : a = x
  ·subst hax
   rw [if_pos rfl]
   simp
  ·rw [if_neg hax, ih, List.count_cons_of_ne (fun e => hax e.symm)]
end Go.HL
namespace Go.HL
open Go
variable [Lvl]
theorem runT_keep {P : Program} {α : Type} : ∀ (s : Sem α) (w : World) (es0 es : Array Event), (∀ e ∈ es0, e ∈ es) → ∀ e ∈ es0, e ∈ (s.runT P w es).2 := by
 have push : ∀ {es es' : Array Event} {a : Event}, (∀ e ∈ es, e ∈ es') → ∀ e ∈ es, e ∈ es'.push a := fun h e he => Array.mem_push.2 (.inl (h e he))
 have app : ∀ {es es' u : Array Event}, (∀ e ∈ es, e ∈ es') → ∀ e ∈ es, e ∈ es' ++ u := fun h e he => Array.mem_append.2 (.inl (h e he))
 intro s
 induction s with
 | pure a => intro w es es' h; exact h
 | load m a k ih =>
  intro w es es' h
  simp only [Sem.runT]
  cases w.cell? a with
  | some v => exact ih v w _ _ (push h)
  | none =>
   cases w.farLoad P a (m == .atomic) with
   | ok p => exact ih p.1 w _ _ (app h)
   | error x => exact h
 | store m a v k ih =>
  intro w es es' h
  have key : ∀ v : Value, plainV v → ∀ e ∈ es, e ∈ ((Sem.store m a v k).runT P w es').2 := by
   intro v hv
   have e2 : ∀ es : Array Event, (Sem.store m a v k).runT P w es = (match w.cell? a with
     | some _ => if w.frozen? a then (.halt (.unsupported (.unsafePointer "a write to bytes that a string shares")) w, es) else k.runT P (w.setCell a v) (es.push ⟨.cell a, true, m == .atomic⟩)
     | none => match w.farStore P a v (m == .atomic) with
      | .ok (w, touched) => k.runT P w (es ++ touched.toArray.map (⟨.cell ·, true, m == .atomic⟩))
      | .error h => (.halt h w, es)) := fun es => by cases v <;> first | exact hv.elim | rfl
   rw [e2]
   cases w.cell? a with
   | some _ =>
    cases w.frozen? a with
    | true => exact h
    | false => exact ih _ _ _ (push h)
   | none =>
    cases w.farStore P a v (m == .atomic) with
    | ok p => exact ih p.1 _ _ (app h)
    | error x => exact h
  cases v <;> first | exact key _ trivial | exact h
 | new o k ih => intro w es es' h; exact ih _ _ _ _ h
 | shape r k ih => intro w es es' h; exact ih _ _ _ _ h
 | freeze a n k ih => intro w es es' h; exact ih _ _ _ h
 | frozen a k ih => intro w es es' h; exact ih _ _ _ _ h
 | getObj r k ih =>
  intro w es es' h
  simp only [Sem.runT]
  cases w.heap[r]? with
  | none => exact h
  | some o => cases o <;> first | exact h | exact ih _ w _ _ (push h)
 | setObj r o k ih =>
  intro w es es' h
  simp only [Sem.runT]
  cases w.heap[r]? with
  | none => exact h
  | some o => cases o <;> first | exact h | exact ih _ _ _ (push h)
 | choose q k ih =>
  intro w es es' h
  simp only [Sem.runT]
  split
  ·exact ih _ _ _ _ (by first | exact h | exact push h)
  ·exact ih _ _ _ _ (by first | exact h | exact push h)
 | sys c k ih => intro w es es' h; exact ih _ _ _ _ (by first | exact h | exact push h | exact app h)
 | program k ih => intro w es es' h; exact ih _ _ _ _ h
 | mark m k ih => intro w es es' h; exact ih _ _ _ (by first | exact h | exact push h | exact app h)
 | halt x => intro w es es' h; exact h
section
variable {P : Program} {n : Nat} {K : Post} {S : Sl} {D : Df} {L : Pv} {h : AH}
def rfSemR (l0 : Nat) (fn : FuncId) (tm : Array Value) (ps : Array Nat) (assign body : Code) (y : Value) : Sem (Nat × Next) :=
 .getObj l0 fun o => match o with
  | .loop r0 => .new (.loop { state := .ready, pending := none, fn := fn, tmps := tm, params := ps, assign := assign, body := body, defers := r0.defers }) fun l =>
   (do let d ← Deferred.ofValue y #[.func (.yield l) #[] #[]]; invoke d.target d.args : Sem Next).bind fun x => .pure (l, x)
  | _ => .halt (.stuck "")
def LoopR (P : Program) (n l0 : Nat) (K : Post) (S : Sl) (D : Df) (L : Pv) (h : AH) (y : Value) (ps : List Nat) (assign body : Code) : Prop :=
 ∀ (l : Nat) (lp : Loop), lp.tmps = arr n S → lp.params = ps.toArray → lp.assign = assign → lp.body = body → Valid h (L ++ [some (l, obL lp .ready none)]) →
  CallV P y [.func (.yield l) #[] #[]] (wl h (L ++ [some (l, obL lp .ready none)]))
   (fun _ H' => ∃ h' L' st pd, H' = wl h' (L' ++ [some (l, obL lp st pd)]) ∧ Valid h' (L' ++ [some (l, obL lp st pd)]) ∧ st ≠ .busy ∧
    ∀ h'', Ext h' h'' → match pd with | none => K .normal S D L' h'' | some c => xp P n (some l0) c K S D L' h'') noE
theorem xp_rangeFuncR {f : Operand} {y : Value} {ps : List Nat} {assign body : Code} {l0 i0 : Nat} {lp0 : Loop} {st0 : LoopState} {pd0 : Option Code} (hi0 : L[i0]? = some (some (l0, obL lp0 st0 pd0))) (hy : ev n S f = y) (g : LoopR P n l0 K S D L h y ps assign body) : xp P n (some l0) (.rangeFunc f ps.toArray assign body) K S D L h := by
 subst hy
 intro H V b hb k cs
 have h0 : H l0 = some (obL lp0 st0 pd0) := by rw [V.eq]; exact hun_left (zC V.valid hi0)
 have endR : ∀ (l : Nat) (lp : Loop) (H2 : AH) (h' : AH) (L' : Pv) (st : LoopState) (pd : Option Code), Fits h' (L' ++ [some (l, obL lp st pd)]) D H2 → st ≠ .busy →
   (∀ h'', Ext h' h'' → match pd with | none => K .normal S D L' h'' | some c => xp P n (some l0) c K S D L' h'') →
   Rch P (fun fr cs' H' => cs' = cs ∧ ∃ e S' D' L' h', Fits h' L' D' H' ∧ K e S' D' L' h' ∧ AtX b n k e S' D' fr) (mk b n S D (.endRangeFunc l :: k)) cs H2 := by
  intro l lp H2 h' L' st pd V2 hst kk
  have hi : (L' ++ [some (l, obL lp st pd)])[L'.length]? = some (some (l, obL lp st pd)) := by simp
  have hl : H2 l = some (obL lp st pd) := by rw [V2.eq]; exact hun_left (zC V2.valid hi)
  have e0 : (L' ++ [some (l, obL lp st pd)]).set L'.length none = L' ++ [none] := by simp
  refine .sem (Instr.endLoop l) (fun _ => True) (fun _ => False) (fun j => (mk b n S D ((j.map Item.code).toList ++ k), cs)) (fun _ => (b, cs)) (fun j H' => j = pd ∧ ∃ h'', Ext h' h'' ∧ Fits h'' L' D H') noE ?_ ?_ (fun _ _ _ => trivial) (fun _ _ y => y) ?_ (fun _ _ y => y.elim)
  ·intro main w
   refine ⟨fun a w' hr _ => ?_, fun v w' hr y => y.elim⟩
   simp [stepG, stepG.exec, mk, hr]
  ·unfold Instr.endLoop
   refine wB (dem_getLoop hl ?_)
   have hb2 : ((obL lp st pd = .loop { lp with state := st, pending := pd }) ∧ (st == LoopState.busy) = false) := ⟨rfl, by cases st <;> first | rfl | exact absurd rfl hst⟩
   simp only [hb2.2, Bool.false_eq_true, if_false]
   refine wB ?_
   refine ⟨_, hl, trivial, ?_⟩
   refine ⟨rfl, hupd h' l (.loop { lp with state := .exhausted, pending := pd }), ?_, ?_⟩
   ·exact Ext.new (Ext.refl h') (wl_fresh V2.valid hi) _
   ·have hs := wl_set (o' := .loop { lp with state := .exhausted, pending := pd }) V2.valid hi
    have Vs := valid_set (o' := .loop { lp with state := .exhausted, pending := pd }) V2.valid hi
    have e1 : (L' ++ [some (l, obL lp st pd)]).set L'.length (some (l, .loop { lp with state := .exhausted, pending := pd })) = L' ++ [some (l, .loop { lp with state := .exhausted, pending := pd })] := by simp
    rw [e1] at hs Vs
    have hi1 : (L' ++ [some (l, Obj.loop { lp with state := .exhausted, pending := pd })])[L'.length]? = some (some (l, .loop { lp with state := .exhausted, pending := pd })) := by simp
    have hp := wl_pub Vs hi1
    have Vp := valid_pub Vs hi1
    have e2 : (L' ++ [some (l, Obj.loop { lp with state := .exhausted, pending := pd })]).set L'.length none = L' ++ [none] := by simp
    have e3 : cl (L' ++ [none]) = cl L' := by simp [cl]
    rw [e2] at hp Vp
    have hp' : wl h' (L' ++ [some (l, Obj.loop { lp with state := .exhausted, pending := pd })]) = wl (hupd h' l (.loop { lp with state := .exhausted, pending := pd })) L' := by
     rw [hp]; unfold wl; rw [e3]
    have Vp' : Valid (hupd h' l (.loop { lp with state := .exhausted, pending := pd })) L' := by unfold Valid at Vp ⊢; rw [e3] at Vp; exact Vp
    have hF : Fits h' (L' ++ [some (l, Obj.loop { lp with state := .exhausted, pending := pd })]) D (hupd H2 l (.loop { lp with state := .exhausted, pending := pd })) := by
     refine ⟨Vs, ?_, V2.nd, ?_⟩
     ·rw [← hs]
      exact V2.disj.hupd (V2.disj.right (zC V2.valid hi))
     ·rw [← hs, V2.eq, hun_hupd]
    exact hF.turn hp' Vp'
  ·rintro j H' ⟨rfl, h'', E, V3⟩
   have := kk h'' E
   cases j with
   | none => exact .done ⟨rfl, .normal, S, _, L', h'', V3, this, rfl⟩
   | some c => exact this H' V3 b hb k cs
 refine .sem (rfSemR l0 b.fn (arr n S) ps.toArray assign body (ev n S f)) (fun p => match p.2 with | .value _ => True | .skip => True | .enter _ _ => True | .round _ _ _ _ _ => True | _ => False) (fun _ => False)
  (fun p => match p.2 with
   | .value _ => (mk b n S D (.endRangeFunc p.1 :: k), cs)
   | .skip => (mk b n S D (.endRangeFunc p.1 :: k), cs)
   | .enter f args => (Frame.enter P f args .normal, mk b n S D (.inRangeFunc p.1 :: k) :: cs)
   | .round l f tmps a c => (Frame.round l f tmps a c .normal, mk b n S D (.inRangeFunc p.1 :: k) :: cs)
   | _ => (b, cs)) (fun _ => (b, cs)) _ _ ?_ (dem_fin V.fin (?_ : dem P (rfSemR l0 b.fn (arr n S) ps.toArray assign body (ev n S f)) H (fun p H' => upon P (fun _ H2 => ∃ h' L' lp st pd, Fits h' (L' ++ [some (p.1, obL lp st pd)]) D H2 ∧ st ≠ .busy ∧ ∀ h'', Ext h' h'' → match pd with | none => K .normal S D L' h'' | some c => xp P n (some l0) c K S D L' h'') noE p.2 H') noE)) ?_ (fun _ _ y => y.2) ?_ (fun _ _ y => y.2.elim)
 ·intro main w
  refine ⟨fun p w' hr hx => ?_, fun v w' hr y => y.elim⟩
  obtain ⟨l, x⟩ := p
  obtain ⟨r0, hl0⟩ : ∃ r0, w.heap[l0]? = some (.loop r0) := by
   unfold rfSemR at hr
   simp only [Sem.run] at hr
   cases ho : w.heap[l0]? with
   | none => rw [ho] at hr; cases hr
   | some o => cases o <;> first | exact ⟨_, rfl⟩ | (rw [ho] at hr; simp [Sem.run] at hr)
  have hes : (rfSemR l0 b.fn (arr n S) ps.toArray assign body (ev n S f)).events P w #[] = ((do let d ← Deferred.ofValue (ev n S f) #[Value.func (Fn.yield w.heap.size) #[] #[]]; invoke d.target d.args : Sem Next).runT P
    { heap := w.heap.push (Obj.loop { state := LoopState.ready, pending := none, fn := b.fn, tmps := arr n S, params := ps.toArray, assign := assign, body := body, defers := r0.defers }), tape := w.tape, drawn := w.drawn, os := w.os, output := w.output } #[⟨.obj l0, false, false⟩]).2 := by
   unfold rfSemR Sem.events
   simp only [Sem.runT, hl0]
   exact events_map _ _ _ _
  unfold rfSemR at hr
  simp only [Sem.run, hl0] at hr
  obtain ⟨x', hr1, hx'⟩ := run_map_ok hr
  simp only [Prod.mk.injEq] at hx'
  obtain ⟨rfl, rfl⟩ := hx'
  have hee := congrFun (mk_eval b n S D (.inRangeFunc w.heap.size :: k)) f
  have hstep : stepG P main (G (mk b n S D ([.code (.rangeFunc f ps.toArray assign body)] ++ k)) cs) w = GStep.after (seen P b.fn #[⟨.obj l0, false, false⟩]) (stepG.apply P true (mk b n S D (.inRangeFunc w.heap.size :: k)) cs none (do let d ← resolve (mk b n S D (.inRangeFunc w.heap.size :: k)).eval { callee := .value f, args := #[.const (.func (.yield w.heap.size) #[] #[])], argTypes := #[] } 0; invoke d.target d.args)
    { heap := w.heap.push (Obj.loop { state := LoopState.ready, pending := none, fn := b.fn, tmps := arr n S, params := ps.toArray, assign := assign, body := body, defers := r0.defers }), tape := w.tape, drawn := w.drawn, os := w.os, output := w.output }) := by
   have het : (Instr.enterLoop b.fn (arr n S) ps.toArray assign body (some l0)).runT P w #[] = (.ok (w.heap.size, []) { heap := w.heap.push (Obj.loop { state := LoopState.ready, pending := none, fn := b.fn, tmps := arr n S, params := ps.toArray, assign := assign, body := body, defers := r0.defers }), tape := w.tape, drawn := w.drawn, os := w.os, output := w.output }, #[⟨.obj l0, false, false⟩]) := by
    show (Sem.runT P (.getObj l0 _) w #[]) = _
    simp only [Sem.runT, hl0]
    rfl
   simp only [stepG, stepG.exec, mk, List.cons_append, List.nil_append, hb, het]
  have hres : resolve (mk b n S D (.inRangeFunc w.heap.size :: k)).eval { callee := .value f, args := #[.const (.func (.yield w.heap.size) #[] #[])], argTypes := #[] } 0 = Deferred.ofValue (ev n S f) #[Value.func (Fn.yield w.heap.size) #[] #[]] := by
   simp only [resolve, hee]
   simp [Frame.eval]
  rw [hres] at hstep
  rw [hstep]
  have k1 : ∀ e ∈ seen P b.fn #[⟨.obj l0, false, false⟩], e ∈ (rfSemR l0 b.fn (arr n S) ps.toArray assign body (ev n S f)).events P w #[] := fun e he => by
   rw [hes]
   exact runT_keep _ _ _ _ (fun e h => h) e (seen_sub P b.fn _ e he)
  have k2 : ∀ e ∈ Sem.events P (do let d ← Deferred.ofValue (ev n S f) #[Value.func (Fn.yield w.heap.size) #[] #[]]; invoke d.target d.args : Sem Next)
    { heap := w.heap.push (Obj.loop { state := LoopState.ready, pending := none, fn := b.fn, tmps := arr n S, params := ps.toArray, assign := assign, body := body, defers := r0.defers }), tape := w.tape, drawn := w.drawn, os := w.os, output := w.output } #[], e ∈ (rfSemR l0 b.fn (arr n S) ps.toArray assign body (ev n S f)).events P w #[] := fun e he => by
   rw [hes]
   exact runT_more _ _ _ _ (fun e h => by simp at h) e he
  cases x' <;> first | exact hx.elim | (simp only [stepG.apply, Sem.runT_eq, hr1, if_true, tells_after, tells_go]; refine ⟨⟨⟨?_, ?_, ?_⟩, ?_⟩, k1⟩ <;> first | trivial | rfl | exact fun e he => k2 e (seen_if _ _ _ _ e he) | exact fun _ he => absurd he (by simp))
 ·unfold rfSemR
  refine ⟨_, h0, trivial, ?_⟩
  intro l hl
  obtain ⟨V2, hlw⟩ := V.new hl (.loop { state := .ready, pending := none, fn := b.fn, tmps := arr n S, params := ps.toArray, assign := assign, body := body, defers := lp0.defers })
  refine wB ?_
  have c := g l { state := .ready, pending := none, fn := b.fn, tmps := arr n S, params := ps.toArray, assign := assign, body := body, defers := lp0.defers } rfl rfl rfl rfl V2.valid
  have c1 := CallV.frame c (fin_wl V2.valid) V2.disj
  have eH : hun (wl h (L ++ [some (l, obL { state := .ready, pending := none, fn := b.fn, tmps := arr n S, params := ps.toArray, assign := assign, body := body, defers := lp0.defers } .ready none)])) (mkH D) = hupd H l (.loop { state := .ready, pending := none, fn := b.fn, tmps := arr n S, params := ps.toArray, assign := assign, body := body, defers := lp0.defers }) := V2.eq.symm
  rw [eH] at c1
  refine dem_mono ?_ ?_ c1
  ·intro x H' u
   refine upon_mono ?_ ?_ u
   ·rintro v H2 ⟨H1, e1, d1, f1, h', L', st, pd, rfl, V', hst, kk⟩
    exact ⟨h', L', _, st, pd, ⟨V', d1, V.nd, e1⟩, hst, kk⟩
   ·rintro v H2 ⟨H1, e1, d1, f1, y⟩; exact y
  ·rintro v H2 ⟨H1, e1, d1, f1, y⟩; exact y
 ·rintro ⟨l, x⟩ H' ⟨_, u⟩
  cases x <;> first | exact trivial | exact u
 ·rintro ⟨l, x⟩ H' ⟨hfin, u⟩
  have call : ∀ fr0 : Frame, EnterT P fr0 H' (fun _ H2 => ∃ h' L' lp st pd, Fits h' (L' ++ [some (l, obL lp st pd)]) D H2 ∧ st ≠ .busy ∧ ∀ h'', Ext h' h'' → match pd with | none => K .normal S D L' h'' | some c => xp P n (some l0) c K S D L' h'') noE →
    Rch P (fun fr cs' H' => cs' = cs ∧ ∃ e S' D' L' h', Fits h' L' D' H' ∧ K e S' D' L' h' ∧ AtX b n k e S' D' fr) fr0 (mk b n S D (.inRangeFunc l :: k) :: cs) H' := by
   intro fr0 c
   refine (c hfin (mk b n S D (.inRangeFunc l :: k)) cs).bind ?_
   rintro fr cs' H2 ⟨rfl, ⟨v, rfl, h', L', lp, st, pd, V', hst, kk⟩ | ⟨v, rfl, y⟩⟩
   ·have ef : (mk b n S D (.inRangeFunc l :: k)).finish v = mk b n S D (.endRangeFunc l :: k) := rfl
    rw [ef]
    exact endR l lp H2 h' L' st pd V' hst kk
   ·exact y.elim
  cases x with
  | value v =>
   obtain ⟨h', L', lp, st, pd, V', hst, kk⟩ := u
   exact endR l lp H' h' L' st pd V' hst kk
  | skip =>
   obtain ⟨h', L', lp, st, pd, V', hst, kk⟩ := u
   exact endR l lp H' h' L' st pd V' hst kk
  | enter f args => exact call _ u
  | round l' f tmps a c => exact call _ u
  | _ => exact u.elim
end
end Go.HL
namespace Go.HL
open Go
variable [Lvl]
theorem wl_unfill {h : AH} {L : Pv} {i : Nat} {q : Nat × Obj} (hi : L[i]? = some (some q)) (V : Valid h L) : wl h L = wl h (L.set i none ++ [some q]) ∧ Valid h (L.set i none ++ [some q]) := by
 have hl : i < L.length := (List.getElem?_eq_some_iff.1 hi).1
 have h0 : (L.set i none)[i]? = some none := by simp [hl]
 have e : (L.set i none).set i (some q) = L := by
  rw [List.set_set]
  apply List.ext_getElem?
  intro j
  rw [List.getElem?_set]
  by_cases hj : i = j
  ·subst hj; rw [if_pos rfl, if_pos hl, hi]
  ·rw [if_neg hj]
 have p := cl_fill (L.set i none) q h0
 rw [e] at p
 exact wl_perm p V
section
variable {P : Program} {n : Nat} {K : Post} {S : Sl} {D : Df} {L : Pv} {h : AH}
def LoopF (P : Program) (n i : Nat) (K : Post) (S : Sl) (D : Df) (L : Pv) (h : AH) (y : Value) (ps : List Nat) (assign body : Code) : Prop :=
 ∀ (r l : Nat) (lp : Loop), lp.tmps = arr n S → lp.params = ps.toArray → lp.assign = assign → lp.body = body → Valid h (L.set i (some (l, obL lp .ready none))) →
  CallV P y [.func (.yield l) #[] #[]] (wl h (L.set i (some (l, obL lp .ready none))))
   (fun _ H' => ∃ h' L' st pd, H' = wl h' L' ∧ Valid h' L' ∧ L'[i]? = some (some (l, obL lp st pd)) ∧ st ≠ .busy ∧
    ∀ h'', Ext h' h'' → match pd with | none => K .normal S (markD r :: D) (L'.set i none) h'' | some c => xp P n none c K S (markD r :: D) (L'.set i none) h'') noE
theorem xp_rangeFuncF (i : Nat) {f : Operand} {y : Value} {ps : List Nat} {assign body : Code} (hi : L[i]? = some none) (hy : ev n S f = y) (g : LoopF P n i K S D L h y ps assign body) : xp P n none (.rangeFunc f ps.toArray assign body) K S D L h := by
 refine xp_rangeFunc hy ?_
 intro r l lp h1 h2 h3 h4 V
 obtain ⟨e, V1⟩ := wl_fillO hi V
 rw [e]
 refine CallV.mono (g r l lp h1 h2 h3 h4 V1) ?_ (fun _ _ y => y)
 rintro v H ⟨h', L', st, pd, rfl, V', hi', hst, k⟩
 obtain ⟨e2, V2⟩ := wl_unfill hi' V'
 exact ⟨h', L'.set i none, st, pd, e2, V2, hst, k⟩
def LoopRF (P : Program) (n l0 i : Nat) (K : Post) (S : Sl) (D : Df) (L : Pv) (h : AH) (y : Value) (ps : List Nat) (assign body : Code) : Prop :=
 ∀ (l : Nat) (lp : Loop), lp.tmps = arr n S → lp.params = ps.toArray → lp.assign = assign → lp.body = body → Valid h (L.set i (some (l, obL lp .ready none))) →
  CallV P y [.func (.yield l) #[] #[]] (wl h (L.set i (some (l, obL lp .ready none))))
   (fun _ H' => ∃ h' L' st pd, H' = wl h' L' ∧ Valid h' L' ∧ L'[i]? = some (some (l, obL lp st pd)) ∧ st ≠ .busy ∧
    ∀ h'', Ext h' h'' → match pd with | none => K .normal S D (L'.set i none) h'' | some c => xp P n (some l0) c K S D (L'.set i none) h'') noE
theorem xp_rangeFuncRF (i i0 : Nat) {f : Operand} {y : Value} {ps : List Nat} {assign body : Code} {l0 : Nat} {lp0 : Loop} {st0 : LoopState} {pd0 : Option Code} (hi : L[i]? = some none) (hi0 : L[i0]? = some (some (l0, obL lp0 st0 pd0))) (hy : ev n S f = y) (g : LoopRF P n l0 i K S D L h y ps assign body) : xp P n (some l0) (.rangeFunc f ps.toArray assign body) K S D L h := by
 refine xp_rangeFuncR hi0 hy ?_
 intro l lp h1 h2 h3 h4 V
 obtain ⟨e, V1⟩ := wl_fillO hi V
 rw [e]
 refine CallV.mono (g l lp h1 h2 h3 h4 V1) ?_ (fun _ _ y => y)
 rintro v H ⟨h', L', st, pd, rfl, V', hi', hst, k⟩
 obtain ⟨e2, V2⟩ := wl_unfill hi' V'
 exact ⟨h', L'.set i none, st, pd, e2, V2, hst, k⟩
end
end Go.HL
namespace Go.HL
open Go
variable [Lvl]
section
variable {P : Program} {n : Nat} {d : Option Tmp} {ty : TypeId} {ps : String} {af : Array Edge} {S : Sl}
theorem pv_sliceS {x lo hi : Operand} {t e : TypeId} {m len cap : Nat} {A : Option Addr} (i j : Nat) {k k2 : IntKind} {i' j' : Int} (hx : ev n S x = .slice A len cap) (hl : ev n S lo = .int k i') (hh : ev n S hi = .int k2 j') (ei : i' = i) (ej : j' = j) (ht : pev P (underlying t) = some (.slice e)) (hs : pev P (sizeOf e) = some m) (hij : i ≤ j) (hjc : j ≤ cap) {A' : Option Addr} {l' c' : Nat} (eA : (if cap = i then A else A.map (·.add (i * m))) = A') (el : j - i = l') (ec : cap - i = c') :
  pev P (execOp (ev n S) ⟨d, .slice t x (some lo) (some hi) none, ty, ps, af, none⟩) = some (.value (.slice A' l' c')) := by
 subst ei ej eA el ec
 simp only [execOp, hx, hl, hh, Option.map]
 refine (zB (a := .slice (if cap = i then A else A.map (·.add (i * m))) (j - i) (cap - i)) ?_).trans rfl
 unfold Instr.sliceAt
 refine (qY ht).trans ?_
 simp only
 unfold Instr.slice
 refine (qY ht).trans ?_
 simp only
 have hb : pev P (Instr.sliceBounds true len cap (some (.int k (i : Int))) (some (.int k2 (j : Int))) none) = some (i, j, cap) := by
  unfold Instr.sliceBounds
  refine (qY (a := cap) rfl).trans ?_
  have h1 : pev P (Instr.sliceBound (.int k2 (j : Int)) cap .sliceAcap) = some j := by
   unfold Instr.sliceBound
   refine (qY (a := (k2, (j : Int))) rfl).trans ?_
   simp only
   rw [if_pos ⟨by omega, by omega⟩]
   rfl
  have h2 : pev P (Instr.sliceBound (.int k (i : Int)) j .sliceB) = some i := by
   unfold Instr.sliceBound
   refine (qY (a := (k, (i : Int))) rfl).trans ?_
   simp only
   rw [if_pos ⟨by omega, by omega⟩]
   rfl
  refine (qY h1).trans ?_
  refine (qY h2).trans ?_
  rfl
 refine (qY hb).trans ?_
 simp only
 refine (qY hs).trans ?_
 rfl
end
def CapOK : Value → Prop
 | .slice _ n c => n ≤ c
 | _ => True
theorem AccP.cap {e : TypeId} {m : Nat} {cs : List Value} {p : Option (Nat × Obj)} {v : Value} (a : AccP e m cs p v) (hm : 0 < m) : CapOK v := by
 rcases a with ⟨_, _, A, rfl⟩ | ⟨b, len, cap, junk, h1, rfl, _, h2⟩
 ·exact Nat.le_refl 0
 ·show len ≤ cap
  rw [List.length_append, h1] at h2
  exact Nat.le_of_mul_le_mul_right (by omega) hm
end Go.HL
namespace Go.HL
open Go
variable [Lvl]
theorem rd_take {H : AH} {A : Option Addr} {cs : List Value} (r : Rd H A cs) (k : Nat) : Rd H A (cs.take k) := fun hne => by
 obtain ⟨g, off, ha, c⟩ := r (fun e => hne (by rw [e, List.take_nil]))
 refine ⟨g, off, ha, fun j u hu => c j u ?_⟩
 rw [List.getElem?_take] at hu
 split at hu
 ·exact hu
 ·cases hu
section
variable {P : Program} {n : Nat} {d : Option Tmp} {ty : TypeId} {ps : String} {af : Array Edge} {S : Sl}
theorem pv_sliceAH {x hi : Operand} {t e : TypeId} {len m g off : Nat} (j : Nat) {k : IntKind} {j' : Int} (hx : ev n S x = .pointer (some ⟨g, off, none⟩)) (hh : ev n S hi = .int k j') (ej : j' = j) (ht : pev P (underlying t) = some (.array len e)) (hs : pev P (sizeOf e) = some m) (hl : 0 < len) (hj : j ≤ len) :
  pev P (execOp (ev n S) ⟨d, .slice t x none (some hi) none, ty, ps, af, none⟩) = some (.value (.slice (some ⟨g, off, none⟩) j len)) := by
 subst ej
 simp only [execOp, hx, hh, Option.map]
 refine (zB (a := .slice (some ⟨g, off, none⟩) j len) ?_).trans rfl
 unfold Instr.sliceAt
 refine (qY ht).trans ?_
 simp only
 refine (qY (a := ⟨g, off, none⟩) rfl).trans ?_
 have hb : pev P (Instr.sliceBounds false len len none (some (.int k (j : Int))) none) = some (0, j, len) := by
  unfold Instr.sliceBounds
  refine (qY (a := len) rfl).trans ?_
  have h1 : pev P (Instr.sliceBound (.int k (j : Int)) len .sliceAlen) = some j := by
   unfold Instr.sliceBound
   refine (qY (a := (k, (j : Int))) rfl).trans ?_
   simp only
   rw [if_pos ⟨by omega, by omega⟩]
   rfl
  refine (qY h1).trans ?_
  rfl
 refine (qY hb).trans ?_
 simp only
 refine (qY hs).trans ?_
 have e0 : (if len = 0 then (⟨g, off, none⟩ : Addr) else (⟨g, off, none⟩ : Addr).add (0 * m)) = ⟨g, off, none⟩ := by rw [if_neg (by omega)]; simp [Addr.add]
 show some (Value.slice (some (if len = 0 then (⟨g, off, none⟩ : Addr) else (⟨g, off, none⟩ : Addr).add (0 * m))) (j - 0) (len - 0)) = _
 rw [e0]
 rfl
end
end Go.HL
namespace Go.HL
open Go
variable [Lvl]
section
variable {P : Program} {n : Nat} {d : Option Tmp} {ty : TypeId} {ps : String} {af : Array Edge} {S : Sl}
theorem pv_sliceHi {x hi : Operand} {t e : TypeId} {m len cap : Nat} {A : Option Addr} (j : Nat) {k2 : IntKind} {j' : Int} (hx : ev n S x = .slice A len cap) (hh : ev n S hi = .int k2 j') (ej : j' = j) (ht : pev P (underlying t) = some (.slice e)) (hs : pev P (sizeOf e) = some m) (hjc : j ≤ cap) :
  pev P (execOp (ev n S) ⟨d, .slice t x none (some hi) none, ty, ps, af, none⟩) = some (.value (.slice A j cap)) := by
 subst ej
 simp only [execOp, hx, hh, Option.map]
 refine (zB (a := .slice A j cap) ?_).trans rfl
 unfold Instr.sliceAt
 refine (qY ht).trans ?_
 simp only
 unfold Instr.slice
 refine (qY ht).trans ?_
 simp only
 have hb : pev P (Instr.sliceBounds true len cap none (some (.int k2 (j : Int))) none) = some (0, j, cap) := by
  unfold Instr.sliceBounds
  refine (qY (a := cap) rfl).trans ?_
  have h1 : pev P (Instr.sliceBound (.int k2 (j : Int)) cap .sliceAcap) = some j := by
   unfold Instr.sliceBound
   refine (qY (a := (k2, (j : Int))) rfl).trans ?_
   simp only
   rw [if_pos ⟨by omega, by omega⟩]
   rfl
  refine (qY h1).trans ?_
  rfl
 refine (qY hb).trans ?_
 simp only
 refine (qY hs).trans ?_
 have e0 : (if cap = 0 then A else A.map (·.add (0 * m))) = A := by
  split
  ·rfl
  ·cases A <;> simp [Addr.add]
 show some (Value.slice (if cap = 0 then A else A.map (·.add (0 * m))) (j - 0) (cap - 0)) = _
 rw [e0]
 rfl
theorem pv_sliceLo {x lo : Operand} {t e : TypeId} {m len cap : Nat} {A : Option Addr} (i : Nat) {k : IntKind} {i' : Int} (hx : ev n S x = .slice A len cap) (hl : ev n S lo = .int k i') (ei : i' = i) (ht : pev P (underlying t) = some (.slice e)) (hs : pev P (sizeOf e) = some m) (hij : i ≤ len) (hc : len ≤ cap) :
  pev P (execOp (ev n S) ⟨d, .slice t x (some lo) none none, ty, ps, af, none⟩) = some (.value (.slice (if cap = i then A else A.map (·.add (i * m))) (len - i) (cap - i))) := by
 subst ei
 simp only [execOp, hx, hl, Option.map]
 refine (zB (a := .slice (if cap = i then A else A.map (·.add (i * m))) (len - i) (cap - i)) ?_).trans rfl
 unfold Instr.sliceAt
 refine (qY ht).trans ?_
 simp only
 unfold Instr.slice
 refine (qY ht).trans ?_
 simp only
 have hb : pev P (Instr.sliceBounds true len cap (some (.int k (i : Int))) none none) = some (i, len, cap) := by
  unfold Instr.sliceBounds
  refine (qY (a := cap) rfl).trans ?_
  have h1 : ∀ f, pev P (Instr.sliceBound (.int .i64 (len : Int)) cap f) = some len := by
   intro f
   unfold Instr.sliceBound
   refine (qY (a := (IntKind.i64, (len : Int))) rfl).trans ?_
   simp only
   rw [if_pos ⟨by omega, by omega⟩]
   rfl
  have h2 : pev P (Instr.sliceBound (.int k (i : Int)) len .sliceB) = some i := by
   unfold Instr.sliceBound
   refine (qY (a := (k, (i : Int))) rfl).trans ?_
   simp only
   rw [if_pos ⟨by omega, by omega⟩]
   rfl
  first
  | (refine (qY (a := len) rfl).trans ?_; refine (qY h2).trans ?_; rfl)
  | (refine (qY (a := len) (h1 _)).trans ?_; refine (qY h2).trans ?_; rfl)
 refine (qY hb).trans ?_
 simp only
 refine (qY hs).trans ?_
 rfl
end
theorem rd_drop {H : AH} {A : Option Addr} {cs : List Value} (r : Rd H A cs) (k : Nat) : Rd H (A.map (·.add k)) (cs.drop k) := fun hne => by
 obtain ⟨g, off, rfl, c⟩ := r (fun e => hne (by rw [e, List.drop_nil]))
 refine ⟨g, off + k, by simp [Addr.add], fun j u hu => ?_⟩
 rw [List.getElem?_drop] at hu
 have := c (k + j) u hu
 rw [← Nat.add_assoc] at this
 exact this
end Go.HL
namespace Go.HL
open Go
variable [Lvl]
section
variable {P : Program} {n : Nat} {d : Option Tmp} {ty : TypeId} {ps : String} {af : Array Edge} {S : Sl}
theorem pv_slice3 {x lo hi mx : Operand} {t e : TypeId} {m len cap : Nat} {A : Option Addr} (i j q : Nat) {k k2 k3 : IntKind} {i' j' q' : Int} (hx : ev n S x = .slice A len cap) (hl : ev n S lo = .int k i') (hh : ev n S hi = .int k2 j') (hm : ev n S mx = .int k3 q') (ei : i' = i) (ej : j' = j) (eq : q' = q) (ht : pev P (underlying t) = some (.slice e)) (hs : pev P (sizeOf e) = some m) (hij : i ≤ j) (hjq : j ≤ q) (hqc : q ≤ cap) :
  pev P (execOp (ev n S) ⟨d, .slice t x (some lo) (some hi) (some mx), ty, ps, af, none⟩) = some (.value (.slice (if q = i then A else A.map (·.add (i * m))) (j - i) (q - i))) := by
 subst ei ej eq
 simp only [execOp, hx, hl, hh, hm, Option.map]
 refine (zB (a := .slice (if q = i then A else A.map (·.add (i * m))) (j - i) (q - i)) ?_).trans rfl
 unfold Instr.sliceAt
 refine (qY ht).trans ?_
 simp only
 unfold Instr.slice
 refine (qY ht).trans ?_
 simp only
 have hb : pev P (Instr.sliceBounds true len cap (some (.int k (i : Int))) (some (.int k2 (j : Int))) (some (.int k3 (q : Int)))) = some (i, j, q) := by
  unfold Instr.sliceBounds
  have h0 : pev P (Instr.sliceBound (.int k3 (q : Int)) cap .slice3Acap) = some q := by
   unfold Instr.sliceBound
   refine (qY (a := (k3, (q : Int))) rfl).trans ?_
   simp only
   rw [if_pos ⟨by omega, by omega⟩]
   rfl
  have h1 : pev P (Instr.sliceBound (.int k2 (j : Int)) q .slice3B) = some j := by
   unfold Instr.sliceBound
   refine (qY (a := (k2, (j : Int))) rfl).trans ?_
   simp only
   rw [if_pos ⟨by omega, by omega⟩]
   rfl
  have h2 : pev P (Instr.sliceBound (.int k (i : Int)) j .slice3C) = some i := by
   unfold Instr.sliceBound
   refine (qY (a := (k, (i : Int))) rfl).trans ?_
   simp only
   rw [if_pos ⟨by omega, by omega⟩]
   rfl
  refine (qY h0).trans ?_
  refine (qY h1).trans ?_
  refine (qY h2).trans ?_
  rfl
 refine (qY hb).trans ?_
 simp only
 refine (qY hs).trans ?_
 rfl
end
section
variable {P : Program} {n : Nat} {ops : Array Oper} {os : List Oper} {K : Sl → Pv → AH → Prop} {E : Value → Sl → Pv → AH → Prop} {S : Sl} {L : Pv} {h : AH} {d : Option Tmp} {ty : TypeId} {ps : String} {af : Array Edge}
theorem op_copyP (i : Nat) {sT xT e e' : TypeId} {x y : Operand} {m b o dl dc lx cx k : Nat} {A : Option Addr} {cs cs' xs : List Value} (hx : ev n S x = .slice (some ⟨b, o, none⟩) dl dc) (hy : ev n S y = .slice A lx cx) (hi : L[i]? = some (some (b, .cells cs.toArray e' (0, 0)))) (hk : Nat.min lx dl = k)
  (hr : Valid h L → Rd (wl h L) A xs) (hl : xs.length = k * m) (hp : xs.all plainB = true) (ht : pev P (underlying sT) = some (.slice e)) (hs : pev P (sizeOf e) = some m) (hb : o + xs.length ≤ cs.length) (hw : wrL cs o xs = cs')
  (kk : wpL P n ops os K E (put S d (.int .i64 k)) (L.set i (some (b, .cells cs'.toArray e' (0, 0)))) h) : wpL P n ops (⟨d, .call ⟨.builtin .copy, #[x, y], #[sT, xT]⟩, ty, ps, af, none⟩ :: os) K E S L h := by
 refine op_of fun V => ?_
 unfold opW
 rw [exec_builtin (xs := [x, y]) (vs := [.slice (some ⟨b, o, none⟩) dl dc, .slice A lx cx]) (by simp [hx, hy])]
 refine wB ?_
 show dem P (Builtin.copy_ #[sT, xT] ty #[.slice (some ⟨b, o, none⟩) dl dc, .slice A lx cx]) _ _ _
 unfold Builtin.copy_
 refine qU ht ?_
 simp only
 refine qU (a := lx) rfl (qU hs ?_)
 rw [hk]
 refine wB (rd_cells (hr V) hl ?_)
 refine wB (dem_storeFrom xs _ cs.toArray o 0 (zC V hi) (by simp; omega) hp ?_)
 rw [wl_set V hi, Nat.add_zero, wr_list, hw]
 exact ⟨_, h, rfl, valid_set V hi, kk⟩
theorem op_clearP (i : Nat) {sT e e' : TypeId} {x : Operand} {m b o dl dc : Nat} {cs cs' zc : List Value} {z : Value} (hx : ev n S x = .slice (some ⟨b, o, none⟩) (dl + 1) dc) (hi : L[i]? = some (some (b, .cells cs.toArray e' (0, 0))))
  (ht : pev P (underlying sT) = some (.slice e)) (hz : pev P (zeroValue e) = some z) (hzc : z.cells = zc.toArray) (hp : zc.all plainB = true) (hzl : zc.length = m) (hb : o + (dl + 1) * m ≤ cs.length) (hw : wrL cs o ((List.range ((dl + 1) * m)).map fun i => zc[i % zc.length]!) = cs')
  (kk : wpL P n ops os K E (put S d (.tuple #[])) (L.set i (some (b, .cells cs'.toArray e' (0, 0)))) h) : wpL P n ops (⟨d, .call ⟨.builtin .clear, #[x], #[sT]⟩, ty, ps, af, none⟩ :: os) K E S L h := by
 refine op_of fun V => ?_
 unfold opW
 rw [exec_builtin (xs := [x]) (vs := [.slice (some ⟨b, o, none⟩) (dl + 1) dc]) (by simp [hx])]
 refine wB ?_
 show dem P (Builtin.clear_ #[sT] ty #[.slice (some ⟨b, o, none⟩) (dl + 1) dc]) _ _ _
 unfold Builtin.clear_
 refine qU ht ?_
 show dem P (zeroValue e >>= fun z => ((storeCells ⟨b, o, none⟩ (Builtin.zeroCells z.cells (dl + 1)).toList) >>= fun _ => pure (Value.tuple #[]))) _ _ _
 refine qU hz (wB ?_)
 have e1 : (Builtin.zeroCells z.cells (dl + 1)).toList = (List.range ((dl + 1) * m)).map fun i => zc[i % zc.length]! := by
  rw [hzc]
  unfold Builtin.zeroCells
  rw [List.size_toArray, hzl]
  have := range_map zc ((dl + 1) * m)
  rw [List.size_toArray, hzl] at this
  rw [this, ← hzl]
 rw [e1]
 refine dem_storeFrom _ _ cs.toArray o 0 (zC V hi) (by simp; omega) ?_ ?_
 ·rw [List.all_map, List.all_eq_true]
  intro j _
  rw [List.all_eq_true] at hp
  show plainB (zc[j % zc.length]!) = true
  by_cases h0 : zc.length = 0
  ·rw [List.length_eq_zero_iff.1 h0]; rfl
  ·have hlt := Nat.mod_lt j (Nat.pos_of_ne_zero h0)
   rw [getElem!_pos zc _ hlt]
   exact hp _ (List.getElem_mem hlt)
 ·rw [wl_set V hi, Nat.add_zero, wr_list, hw]
  exact ⟨_, h, rfl, valid_set V hi, kk⟩
theorem op_appendIn (i : Nat) {sT xT e e' e2 : TypeId} {x y : Operand} {m b len cap lx cx : Nat} {A : Option Addr} {cs cs' xs : List Value} (hx : ev n S x = .slice (some ⟨b, 0, none⟩) len cap) (hy : ev n S y = .slice A lx cx) (hi : L[i]? = some (some (b, .cells cs.toArray e' (0, 0))))
  (hr : Valid h L → Rd (wl h L) A xs) (hl : xs.length = lx * m) (hp : xs.all plainB = true) (ht : pev P (underlying sT) = some (.slice e)) (hu : pev P (underlying xT) = some (.slice e2)) (hs : pev P (sizeOf e) = some m) (hc : len + lx ≤ cap) (hb : len * m + xs.length ≤ cs.length) (hw : wrL cs (len * m) xs = cs')
  (kk : wpL P n ops os K E (put S d (.slice (some ⟨b, 0, none⟩) (len + lx) cap)) (L.set i (some (b, .cells cs'.toArray e' (0, 0)))) h) : wpL P n ops (⟨d, .call ⟨.builtin .append, #[x, y], #[sT, xT]⟩, ty, ps, af, none⟩ :: os) K E S L h := by
 refine op_of fun V => ?_
 unfold opW
 rw [exec_builtin (xs := [x, y]) (vs := [.slice (some ⟨b, 0, none⟩) len cap, .slice A lx cx]) (by simp [hx, hy])]
 refine wB ?_
 show dem P (Builtin.append_ #[sT, xT] ty #[.slice (some ⟨b, 0, none⟩) len cap, .slice A lx cx]) _ _ _
 unfold Builtin.append_
 refine qU ht (qU hs ?_)
 refine qU hu (qU (a := false) rfl ?_)
 simp only [Bool.false_eq_true, if_false, Bool.not_false, if_true]
 refine qU (a := lx) rfl ?_
 rw [if_pos hc]
 refine wB (rd_cells (hr V) hl ?_)
 refine wB ?_
 show dem P (storeCells ((⟨b, 0, none⟩ : Addr).add (len * m)) xs) _ _ _
 rw [add_none]
 refine dem_storeFrom xs _ cs.toArray (0 + len * m) 0 (zC V hi) (by simp; omega) hp ?_
 rw [wl_set V hi, Nat.add_zero, wr_list, Nat.zero_add, hw]
 exact ⟨_, h, rfl, valid_set V hi, kk⟩
theorem op_appendMake {sT xT e : TypeId} {x y : Operand} {m len cap k : Nat} {A : Option Addr} {cs : List Value} {z : Value} {zc : List Value} {inf : TypeInfo} {ik : IntKind} {k' : Int} (hx : ev n S x = .slice A len cap) (hy : ev n S y = .int .i64 k') (ek : k' = k)
  (hr : Valid h L → Rd (wl h L) A cs) (hl : cs.length = len * m) (ht : pev P (underlying sT) = some (.slice e)) (hu : pev P (underlying xT) = some (.int ik)) (hi' : pev P (typeInfo e) = some inf) (hs : pev P (sizeOf e) = some m)
  (hz : pev P (zeroValue e) = some z) (hzc : z.cells = zc.toArray) (hzl : zc.length = m) (hm : 0 < m) (hby : Nat.ble inf.bytes 1024 = true) (hsmall : len + k < 2 ^ 30) (hk0 : 0 < k) (hcap : cap < len + k)
  (kk : ∀ (b cap' : Nat) (junk : List Value), wl h L b = none → junk.length + len * m = cap' * m → len + k ≤ cap' → wpL P n ops os K E (put S d (.slice (some ⟨b, 0, none⟩) (len + k) cap')) (L ++ [some (b, .cells (cs ++ junk).toArray e (0, 0))]) h) :
  wpL P n ops (⟨d, .call ⟨.builtin .append, #[x, y], #[sT, xT]⟩, ty, ps, af, none⟩ :: os) K E S L h := by
 subst ek
 refine op_of fun V => ?_
 have hby' := Nat.le_of_ble_eq_true hby
 unfold opW
 rw [exec_builtin (xs := [x, y]) (vs := [.slice A len cap, .int .i64 (k : Int)]) (by simp [hx, hy])]
 refine wB ?_
 show dem P (Builtin.append_ #[sT, xT] ty #[.slice A len cap, .int .i64 (k : Int)]) _ _ _
 unfold Builtin.append_
 refine qU ht (qU hs ?_)
 refine qU hu (qU (a := true) rfl ?_)
 simp only [if_true, Bool.not_true, Bool.false_eq_true, if_false]
 have hwr : IntKind.i64.wrap (k : Int) = k := IntWalk.i64_in _ (by omega)
 refine qU (s := asInt (.int .i64 (k : Int))) (a := (k : Int)) rfl ?_
 simp only [hwr]
 rw [if_neg (by omega)]
 have hmul : (k : Int) * (inf.bytes : Int) ≤ 2 ^ 30 * 1024 := by
  have h1 : k * inf.bytes ≤ 2 ^ 30 * 1024 := Nat.mul_le_mul (by omega) hby'
  have h2 : ((k * inf.bytes : Nat) : Int) ≤ ((2 ^ 30 * 1024 : Nat) : Int) := by exact_mod_cast h1
  simpa using h2
 refine qU hi' ?_
 rw [if_neg (by omega)]
 refine qU (a := (k : Int).toNat) rfl ?_
 simp only [Int.toNat_natCast]
 rw [if_neg (by omega)]
 have hneed : len + k < 2 ^ 30 := hsmall
 have hcapb : Builtin.nextslicecap (len + k) cap * inf.bytes ≤ 2 * 2 ^ 30 * 1024 := Nat.mul_le_mul (Nat.le_trans (nextslicecap_le (by omega)) (by omega)) hby'
 have hmx : ¬ ((len + k : Nat) : Int) > IntKind.i64.max := by
  show ¬ ((len + k : Nat) : Int) > 9223372036854775807
  omega
 refine qU hi' ?_
 rw [if_neg (fun y => hmx y.1)]
 refine qU hi' ?_
 rw [if_neg (by omega)]
 refine wB ?_
 intro t
 show dem P _ _ _ _
 refine qU hi' ?_
 refine wB ?_
 have hroom : ∀ (q : Nat) {K' : Unit → AH → Prop} {E' : Value → AH → Prop} {H : AH}, K' () H → dem P (askRoom q) H K' E' := by
  intro q K' E' H kk
  unfold askRoom
  split
  ·exact ⟨rfl, kk⟩
  ·exact kk
 refine hroom _ ?_
 refine wB (rd_cells (hr V) hl ?_)
 have hkm : ¬ k * m = 0 := fun h0 => by rcases Nat.mul_eq_zero.1 h0 with h0 | h0 <;> omega
 rw [if_neg hkm]
 refine qU (a := Builtin.zeroCells z.cells k) ((qY hz).trans rfl) (qU hz ?_)
 rw [hzc]
 obtain ⟨j, hj, hjl⟩ := zeroCells_list zc ((Question.appendCap (len + k) cap e).cut t - (len + k))
 obtain ⟨j0, hj0, hjl0⟩ := zeroCells_list zc k
 rw [hj, hj0]
 refine wB (wB ?_)
 intro b hb
 have hge : len + k ≤ (Question.appendCap (len + k) cap e).cut t := Nat.le_add_right _ _
 have ea : cs.toArray ++ j0.toArray ++ j.toArray = (cs ++ (j0 ++ j)).toArray := by simp
 rw [ea]
 have hlen : (j0 ++ j).length + len * m = (Question.appendCap (len + k) cap e).cut t * m := by
  rw [List.length_append, hjl, hjl0, hzl, ← Nat.add_mul, ← Nat.add_mul]
  congr 1
  omega
 exact ⟨_, h, wl_new hb _, valid_new V hb _, kk b _ (j0 ++ j) hb hlen hge⟩
theorem op_overlaps {x : Operand} {xs : List Operand} {ats : Array TypeId} {g : FuncId} {fn : Func} {tS e e1 e2 : TypeId} {size a b la ca lb cb oa ob : Nat} {rs : Array TypeId} {c1 c2 : Array Value} (hf : ev n S x = .func (.func g) #[] #[]) (hg : P.funcs[g]? = some fn) (hname : (fn.name == "runtime.NumGoroutine") = false) (hb : fn.body.isNone = true)
  (hn : Extern.findNext fn = none) (he : Extern.find fn = some (Extern.SlicesOverlaps.overlaps #[tS, tS] rs)) (hx : xs.map (ev n S) = [.slice (some ⟨a, oa, none⟩) la ca, .slice (some ⟨b, ob, none⟩) lb cb]) (ht : pev P (underlying tS) = some (.slice e)) (hs : pev P (sizeOf e) = some size)
  (h1 : Valid h L → wl h L a = some (.cells c1 e1 (0, 0))) (h2 : Valid h L → wl h L b = some (.cells c2 e2 (0, 0))) (hne : Valid h L → a ≠ b)
  (kk : wpL P n ops os K E (put S d (.bool false)) L h) : wpL P n ops (⟨d, .call ⟨.value x, xs.toArray, ats⟩, ty, ps, af, none⟩ :: os) K E S L h := by
 refine op_of fun V => ?_
 unfold opW
 rw [exec_call (caps := []) (vs := [.slice (some ⟨a, oa, none⟩) la ca, .slice (some ⟨b, ob, none⟩) lb cb]) (by simpa using hf) (by rw [List.append_nil]; exact hx)]
 have h1' := h1 V
 have h2' := h2 V
 have hne := hne V
 have hab : ((⟨a, oa, none⟩ : Addr).block != (⟨b, ob, none⟩ : Addr).block) = true := by simpa using hne
 have hba : ((⟨a, oa, none⟩ : Addr).block == (⟨b, ob, none⟩ : Addr).block) = false := by simpa using hne
 show dem P (match P.funcs[g]? with | none => _ | some fn => _) _ _ _
 rw [hg]
 simp only [hname, hb, Bool.false_eq_true, if_false, if_true]
 refine ⟨rfl, ?_⟩
 simp only [hn, he]
 show dem P (Extern.SlicesOverlaps.overlaps #[tS, tS] rs #[.slice (some ⟨a, oa, none⟩) la ca, .slice (some ⟨b, ob, none⟩) lb cb] >>= fun v => pure (Next.value v)) _ _ _
 refine wB ?_
 have fz : ∀ (r o : Nat) (c : Array Value) (t : TypeId) {K' : Bool → AH → Prop} {E' : Value → AH → Prop}, wl h L r = some (.cells c t (0, 0)) → K' false (wl h L) → dem P (frozen ⟨r, o, none⟩) (wl h L) K' E' := by
  intro r o c t K' E' hr k
  refine ⟨_, hr, fun t ht => ?_⟩
  cases t with
  | false => exact k
  | true => exact absurd (ht rfl) (by simp [frozenO])
 change dem P (α := Value) (do
  let some t := (#[tS, tS] : Array TypeId)[0]? | stuck "slices.overlaps: no parameter types"
  let .slice elem ← underlying t | stuck "slices.overlaps: slice type expected"
  let size ← sizeOf elem
  match (some ⟨a, oa, none⟩ : Option Addr), (some ⟨b, ob, none⟩ : Option Addr) with
  | some a, some b =>
   if la = 0 ∨ lb = 0 ∨ size = 0 then pure (Value.bool false)
   else if a.block != b.block && (← frozen a) && (← frozen b) then unsupported .addressObserved
   else do
    if a.block != b.block then do
     noView a; noView b
     if ← mayBeOne a b then return Value.bool ((← choose (.extern "sameAddr.stringBytes" 2)) == 1)
    pure (Value.bool (a.block == b.block && a.off < b.off + lb * size && b.off < a.off + la * size))
  | _, _ => pure (Value.bool false)) _ _ _
 refine qU (s := underlying tS) ht ?_
 refine qU (s := sizeOf e) hs ?_
 by_cases h0 : la = 0 ∨ lb = 0 ∨ size = 0
 ·simp only [if_pos h0]
  exact ⟨L, h, rfl, V, kk⟩
 ·simp only [if_neg h0]
  refine wB (fz a oa _ _ h1' ?_)
  refine wB (fz b ob _ _ h2' ?_)
  simp only [Bool.and_false, Bool.false_eq_true, if_false, hab, if_true]
  have shp : ∀ (r : Nat) (c : Array Value) (t : TypeId) {K' : Option (TypeId × Nat) → AH → Prop} {E' : Value → AH → Prop}, wl h L r = some (.cells c t (0, 0)) → K' (some (t, c.size)) (wl h L) → dem P (shape r) (wl h L) K' E' := by
   intro r c t K' E' hr k
   exact ⟨_, hr, k⟩
  have nv : ∀ (r o : Nat) (c : Array Value) (t : TypeId) {K' : Unit → AH → Prop} {E' : Value → AH → Prop}, wl h L r = some (.cells c t (0, 0)) → K' () (wl h L) → dem P (noView ⟨r, o, none⟩) (wl h L) K' E' := by
   intro r o c t K' E' hr k
   unfold noView viewAt
   refine wB (wB (shp r c t hr ?_))
   exact k
  have st : ∀ (r o : Nat) (c : Array Value) (t : TypeId) {K' : Bool → AH → Prop} {E' : Value → AH → Prop}, wl h L r = some (.cells c t (0, 0)) → K' false (wl h L) → dem P (stringish ⟨r, o, none⟩) (wl h L) K' E' := by
   intro r o c t K' E' hr k
   unfold stringish
   refine wB (fz r o c t hr ?_)
   refine wB (shp r c t hr ?_)
   exact fz r c.size c t hr k
  refine wB (nv a oa _ _ h1' ?_)
  refine wB (nv b ob _ _ h2' ?_)
  have mb : ∀ {K' : Bool → AH → Prop} {E' : Value → AH → Prop}, K' false (wl h L) → dem P (mayBeOne ⟨a, oa, none⟩ ⟨b, ob, none⟩) (wl h L) K' E' := by
   intro K' E' k
   unfold mayBeOne
   refine wB (st a oa _ _ h1' ?_)
   refine wB (st b ob _ _ h2' ?_)
   refine wB (wB (shp a _ _ h1' ?_))
   refine wB (wB (shp b _ _ h2' ?_))
   exact k
  refine wB (mb ?_)
  have hba2 : (a == b) = false := by simpa using hne
  simp only [Bool.false_eq_true, if_false, hba2, Bool.false_and]
  exact ⟨L, h, rfl, V, kk⟩
end
end Go.HL
namespace Go.HL
open Go
variable [Lvl]
section
variable {P : Program} {n : Nat} {ops : Array Oper} {os : List Oper} {K : Sl → Pv → AH → Prop} {E : Value → Sl → Pv → AH → Prop} {S : Sl} {L : Pv} {h : AH} {d : Option Tmp} {ty : TypeId} {ps : String} {af : Array Edge}
theorem op_fnE {x : Operand} {xs : List Operand} {ats : Array TypeId} {g : FuncId} {caps vs : List Value} {R Q : Value → AH → Prop} (hf : ev n S x = .func (.func g) #[] caps.toArray) (hc : callable P g = true) (hx : xs.map (ev n S) ++ caps = vs) (c : FnE P g vs.toArray h R Q)
  (e : ∀ v h', Ext h h' → Q v h' → E v S L h') (k : ∀ v h', Ext h h' → R v h' → wpL P n ops os K E (put S d v) L h') : wpL P n ops (⟨d, .call ⟨.value x, xs.toArray, ats⟩, ty, ps, af, none⟩ :: os) K E S L h :=
 op_call hf hc hx (CallT.mono c (fun v h' r => k v h' r.1 r.2) (fun v h' r => e v h' r.1 r.2))
theorem pv_conv {x : Operand} {s t : TypeId} {q k : IntKind} {z z' : Int} {us : TypeDesc} (hx : ev n S x = .int q z) (hs : pev P (underlying s) = some us) (ht : pev P (underlying t) = some (.int k)) (hz : k.wrap z = z') :
  pev P (execOp (ev n S) ⟨d, .convert s t x, ty, ps, af, none⟩) = some (.value (.int k z')) := by
 subst hz
 simp only [execOp, hx]
 refine (zB (a := .int k (k.wrap z)) ?_).trans rfl
 unfold convert
 refine (qY hs).trans ?_
 refine (qY ht).trans ?_
 rfl
theorem pv_sliceLoS {x lo : Operand} {t e : TypeId} {m len cap : Nat} {A : Option Addr} (i : Nat) {A' : Option Addr} {l' c' : Nat} {k : IntKind} {i' : Int} (hx : ev n S x = .slice A len cap) (hl : ev n S lo = .int k i') (ei : i' = i) (ht : pev P (underlying t) = some (.slice e)) (hs : pev P (sizeOf e) = some m) (hij : i ≤ len) (hc : len ≤ cap)
  (eA : (if cap = i then A else A.map (·.add (i * m))) = A') (el : len - i = l') (ec : cap - i = c') :
  pev P (execOp (ev n S) ⟨d, .slice t x (some lo) none none, ty, ps, af, none⟩) = some (.value (.slice A' l' c')) := by
 subst eA el ec
 exact pv_sliceLo i hx hl ei ht hs hij hc
theorem slA {b i cap : Nat} (h : i < cap) : (if cap = i then some (⟨b, 0, none⟩ : Addr) else (some (⟨b, 0, none⟩ : Addr)).map (·.add (i * 1))) = some ⟨b, i, none⟩ := by
 rw [if_neg (by omega), Option.map_some, add_none, Nat.mul_one, Nat.zero_add]
theorem pv_assert {x : Operand} {xt t : TypeId} {v : Value} {u : TypeDesc} (hx : ev n S x = .iface t v) (hu : pev P (underlying t) = some u) (hni : (match u with | .interface _ => false | _ => true) = true) :
  pev P (execOp (ev n S) ⟨d, .typeAssert x xt t true, ty, ps, af, none⟩) = some (.value (.tuple #[v, .bool true])) := by
 simp only [execOp, hx]
 refine (zB (a := .tuple #[v, .bool true]) ?_).trans rfl
 unfold Instr.typeAssert
 refine (qY hu).trans ?_
 cases u <;> first | (cases hni; done) | (simp only [if_true]; rfl)
end
section
variable {P : Program} {m n : Nat} {K' : Post} {S : Sl} {D : Df} {L : Pv} {h : AH}
def bodyOps (f : Func) : Array Oper := match f.body with | some (.seq (.region _ o _) _) => o | _ => #[]
def bodyRest (f : Func) : Code := match f.body with | some (.seq _ c) => c | _ => .skip
theorem clo_run {ops : Array Oper} {o1 : Oper} {c2 : Code} (h1 : ops[1]? = some o1) (hz : ops[2]? = none) (hc : calmB [o1] = true)
  (w : wpL P m ops [o1] (fun S' L' h' => xp P m none c2 K' S' [] L' h') (fun v S' L' h' => K' (.panic v) S' [] L' h') S L h) : Goes P m none ([.inRegion ops [1]] ++ [.code c2]) K' S [] L h := by
 refine goes_append trivial ?_
 refine goes_list [o1] (calm_of _ hc) 1 S L h (fun j => ?_) w
 match j with
 | 0 => exact h1.symm
 | j + 1 =>
  have : ops.size ≤ 2 := by simpa using hz
  rw [show 1 + (j + 1) = j + 2 from by omega, Array.getElem?_eq_none (by omega)]
  rfl
theorem doneK_list {fn : Func} {K : Value → AH → Prop} {rs : List ResultVar} {vs : List Value} (hr : fn.results = rs.toArray) (hv : ResL P n S L h rs vs) (k : Valid h L → K (tupV vs) (wl h L)) : doneK P n fn K S L h := fun V => res_core hr hv V (k V)
end
end Go.HL
namespace Go.HL
open Go
abbrev bs (l : List UInt8) : ByteArray := ⟨⟨l⟩⟩
theorem bs_loop (l : List UInt8) : ∀ (k i : Nat) (r : List UInt8), l.length - i = k → ByteArray.toList.loop (bs l) i r = r.reverse ++ l.drop i := by
 intro k
 induction k with
 | zero =>
  intro i r h
  unfold ByteArray.toList.loop
  have hi : ¬ i < (bs l).size := by show ¬ i < l.length; omega
  rw [if_neg hi, List.drop_eq_nil_of_le (by omega), List.append_nil]
 | succ k ih =>
  intro i r h
  have hl : i < l.length := by omega
  unfold ByteArray.toList.loop
  have hi : i < (bs l).size := hl
  rw [if_pos hi, ih (i + 1) _ (by omega), List.drop_eq_getElem_cons hl, List.reverse_cons, List.append_assoc]
  have : (bs l).get! i = l[i] := by
   show (Array.mk l)[i]! = _
   rw [getElem!_pos _ _ (by exact hl)]
   rfl
  rw [this]
  rfl
theorem bs_toList (l : List UInt8) : (bs l).toList = l := by
 show ByteArray.toList.loop (bs l) 0 [] = l
 rw [bs_loop l _ 0 [] rfl]
 rfl
theorem bs_cat (a b : List UInt8) : bs a ++ bs b = bs (a ++ b) := by
 apply ByteArray.ext
 rw [ByteArray.data_append]
 exact List.append_toArray a b
theorem bs_ext (l : List UInt8) (i j : Nat) : (bs l).extract i j = bs ((l.take j).drop i) := by
 apply ByteArray.ext
 rw [ByteArray.data_extract]
 show l.toArray.extract i j = ((l.take j).drop i).toArray
 rw [List.extract_toArray, List.extract_eq_take_drop, List.drop_take]
variable [Lvl]
section
variable {P : Program} {n : Nat} {d : Option Tmp} {ty : TypeId} {ps : String} {af : Array Edge} {S : Sl}
theorem pv_cat {x y : Operand} {t u : TypeId} {a b : List UInt8} (hx : ev n S x = .string (bs a)) (hy : ev n S y = .string (bs b)) (hs : a.length + b.length < 2 ^ 62) :
  pev P (execOp (ev n S) ⟨d, .binOp .add t x y u, ty, ps, af, none⟩) = some (.value (.string (bs (a ++ b)))) := by
 simp only [execOp, hx, hy]
 refine (zB (a := .string (bs (a ++ b))) ?_).trans rfl
 refine (qY (a := ()) rfl).trans ?_
 show pev P (Op.stringOp .add (bs a) (bs b)) = _
 unfold Op.stringOp
 simp only
 rw [if_neg (by show ¬ ((a.length + b.length : Nat) : Int) > 9223372036854775807; omega), bs_cat]
 rfl
theorem pv_streq {x y : Operand} {t u : TypeId} {a b : List UInt8} (hx : ev n S x = .string (bs a)) (hy : ev n S y = .string (bs b)) :
  pev P (execOp (ev n S) ⟨d, .binOp .eql t x y u, ty, ps, af, none⟩) = some (.value (.bool (decide (a = b)))) := by
 simp only [execOp, hx, hy]
 refine (zB (a := .bool (decide (a = b))) ?_).trans rfl
 refine (qY (a := ()) rfl).trans ?_
 show pev P (Op.stringOp .eql (bs a) (bs b)) = _
 unfold Op.stringOp
 simp only [bs_toList]
 have : (a == b) = decide (a = b) := by rw [Bool.eq_iff_iff]; simp
 rw [this]
 rfl
theorem pv_stridx {x y : Operand} {t : TypeId} {a : List UInt8} {q : IntKind} {i' : Int} {c : UInt8} (i : Nat) (hx : ev n S x = .string (bs a)) (hy : ev n S y = .int q i') (ei : i' = i) (ht : pev P (underlying t) = some .string) (hc : a[i]? = some c) :
  pev P (execOp (ev n S) ⟨d, .index t x y, ty, ps, af, none⟩) = some (.value (.int .u8 c.toNat)) := by
 subst ei
 simp only [execOp, hx, hy]
 refine (zB (a := .int .u8 c.toNat) ?_).trans rfl
 unfold Instr.index
 refine (qY (a := (q, (i : Int))) rfl).trans ?_
 refine (qY ht).trans ?_
 simp only
 rw [if_pos (by omega)]
 have : (bs a)[(i : Int).toNat]? = some c := by
  obtain ⟨hl, e⟩ := List.getElem?_eq_some_iff.1 hc
  rw [Int.toNat_natCast, getElem?_pos (bs a) i hl, ← e]
  rfl
 rw [this]
 rfl
theorem pv_strcut {x : Operand} {lo hi : Option Operand} {t : TypeId} {a : List UInt8} (i j : Nat) (hx : ev n S x = .string (bs a)) (ht : pev P (underlying t) = some .string)
  (hl : (lo = none ∧ i = 0) ∨ ∃ y q, lo = some y ∧ ev n S y = .int q (i : Int)) (hh : (hi = none ∧ j = a.length) ∨ ∃ y q, hi = some y ∧ ev n S y = .int q (j : Int)) (hij : i ≤ j) (hja : j ≤ a.length) :
  pev P (execOp (ev n S) ⟨d, .slice t x lo hi none, ty, ps, af, none⟩) = some (.value (.string (bs ((a.take j).drop i)))) := by
 have core : ∀ (l h : Option Value), ((l = none ∧ i = 0) ∨ ∃ q, l = some (.int q (i : Int))) → ((h = none ∧ j = a.length) ∨ ∃ q, h = some (.int q (j : Int))) → pev P (Instr.sliceAt t (.string (bs a)) l h none) = some (.string (bs ((a.take j).drop i))) := by
  intro l h hl hh
  unfold Instr.sliceAt
  refine (qY ht).trans ?_
  simp only
  unfold Instr.slice
  refine (qY ht).trans ?_
  simp only [Option.isSome, Bool.false_eq_true, if_false]
  have hb : pev P (Instr.sliceBounds false (bs a).size (bs a).size l h none) = some (i, j, (bs a).size) := by
   have bnd : ∀ (q : IntKind) (k y : Nat) (code : BoundsCode), k ≤ y → pev P (Instr.sliceBound (.int q (k : Int)) y code) = some k := by
    intro q k y code hk
    unfold Instr.sliceBound
    refine (qY (a := (q, (k : Int))) rfl).trans ?_
    simp only
    rw [if_pos ⟨by omega, by omega⟩]
    rfl
   unfold Instr.sliceBounds
   refine (qY (a := (bs a).size) rfl).trans ?_
   rcases hh with ⟨rfl, rfl⟩ | ⟨q, rfl⟩
   ·refine (qY (a := a.length) rfl).trans ?_
    rcases hl with ⟨rfl, rfl⟩ | ⟨q, rfl⟩
    ·refine (qY (a := 0) rfl).trans ?_
     rfl
    ·refine (qY (bnd q i _ _ hij)).trans ?_
     rfl
   ·refine (qY (bnd q j _ _ hja)).trans ?_
    rcases hl with ⟨rfl, rfl⟩ | ⟨q, rfl⟩
    ·refine (qY (a := 0) rfl).trans ?_
     rfl
    ·refine (qY (bnd q i _ _ hij)).trans ?_
     rfl
  refine (qY hb).trans ?_
  show pev P (pure (Value.string ((bs a).extract i j))) = _
  rw [bs_ext]
  rfl
 simp only [execOp, hx]
 refine (zB (a := .string (bs ((a.take j).drop i))) ?_).trans rfl
 refine core _ _ ?_ ?_
 ·rcases hl with ⟨rfl, h⟩ | ⟨y, q, rfl, h⟩
  ·exact .inl ⟨rfl, h⟩
  ·exact .inr ⟨q, by rw [Option.map_some, h]⟩
 ·rcases hh with ⟨rfl, h⟩ | ⟨y, q, rfl, h⟩
  ·exact .inl ⟨rfl, h⟩
  ·exact .inr ⟨q, by rw [Option.map_some, h]⟩
end
end Go.HL
namespace Go.HL
open Go
variable [Lvl]
theorem wrL_mid : ∀ (c pre j : List Value), c.length ≤ j.length → wrL (pre ++ j) pre.length c = pre ++ c ++ j.drop c.length
 | [], pre, j, _ => by simp [wrL]
 | v :: c, pre, [], h => absurd h (by simp)
 | v :: c, pre, x :: j, h => by
  have e : (pre ++ x :: j).set pre.length v = (pre ++ [v]) ++ j := by simp
  have ih := wrL_mid c (pre ++ [v]) j (by simpa using h)
  rw [List.length_append, List.length_singleton] at ih
  rw [wrL, e, ih]
  simp
variable {P : Program} {n : Nat} {ops : Array Oper} {os : List Oper} {K : Sl → Pv → AH → Prop} {E : Value → Sl → Pv → AH → Prop} {S : Sl} {L : Pv} {h : AH} {d : Option Tmp} {ty : TypeId} {ps : String} {af : Array Edge}
end Go.HL
namespace Go.Rd
open Go Go.HL Go.Wx
variable [Lvl]
inductive FaultP
 | shut (i : Nat)
 | opn (i : Nat)
 | pin (i : Nat)
 | link (i : Nat)
 deriving DecidableEq
structure BrkP where
 pins : List PinP
 links : List LinkP
 stay : Nat
 dumb : Nat
def lagP (ps : List PinP) (i : Nat) (t : Int) : List PinP := match ps[i]? with | some p => ps.set i ⟨p.rod, p.lever, t⟩ | none => ps
def lagL (ls : List LinkP) (i : Nat) (t : Int) : List LinkP := match ls[i]? with | some x => ls.set i ⟨x.frm, x.to, x.reg, t⟩ | none => ls
theorem lagP_len (ps : List PinP) (i : Nat) (t : Int) : (lagP ps i t).length = ps.length := by unfold lagP; split <;> simp
theorem lagL_len (ls : List LinkP) (i : Nat) (t : Int) : (lagL ls i t).length = ls.length := by unfold lagL; split <;> simp
def brkS (t : Int) (b : BrkP) : FaultP → BrkP
 | .shut i => ⟨b.pins, b.links, b.stay, withM b.dumb i⟩
 | .opn i => ⟨b.pins, b.links, withM b.stay i, b.dumb⟩
 | .pin i => ⟨lagP b.pins i t, b.links, b.stay, b.dumb⟩
 | .link i => ⟨b.pins, lagL b.links i t, b.stay, b.dumb⟩
def brkF (m : MachP) (l : List FaultP) : BrkP := l.foldl (brkS m.travel) ⟨m.pins, m.links, 0, 0⟩
def brkM (m : MachP) (l : List FaultP) : MachP := { m with pins := (brkF m l).pins, links := (brkF m l).links }
def FOK (m : MachP) : FaultP → Prop
 | .shut i => (i : Int) < m.levers
 | .opn i => (i : Int) < m.levers
 | .pin i => i < m.pins.length
 | .link i => i < m.links.length
theorem brkF_take {m : MachP} {l : List FaultP} {k : Nat} (hk : k < l.length) : brkF m (l.take (k + 1)) = brkS m.travel (brkF m (l.take k)) l[k] := by
 unfold brkF
 rw [List.take_add_one, List.getElem?_eq_getElem hk, Option.toList_some, List.foldl_append]
 rfl
theorem brkF_inv {m : MachP} {I : BrkP → Prop} (h0 : I ⟨m.pins, m.links, 0, 0⟩) : ∀ {l : List FaultP}, (∀ b f, f ∈ l → I b → I (brkS m.travel b f)) → I (brkF m l) := by
 intro l
 unfold brkF
 generalize (⟨m.pins, m.links, 0, 0⟩ : BrkP) = b at h0 ⊢
 induction l generalizing b with
 | nil => intro _; exact h0
 | cons f l ih => intro hs; exact ih _ (hs b f (List.mem_cons_self ..) h0) (fun b f hf => hs b f (List.mem_cons_of_mem _ hf))
theorem brk_pl (m : MachP) (l : List FaultP) : (brkF m l).pins.length = m.pins.length := brkF_inv (I := fun b => b.pins.length = m.pins.length) rfl fun b f _ h => by
 cases f <;> simp only [brkS, lagP_len] <;> exact h
theorem brk_ll (m : MachP) (l : List FaultP) : (brkF m l).links.length = m.links.length := brkF_inv (I := fun b => b.links.length = m.links.length) rfl fun b f _ h => by
 cases f <;> simp only [brkS, lagL_len] <;> exact h
theorem brk_bits {m : MachP} (hl : m.levers ≤ 6) {l : List FaultP} (hf : ∀ f ∈ l, FOK m f) : (brkF m l).stay < 2 ^ 6 ∧ (brkF m l).dumb < 2 ^ 6 := brkF_inv (I := fun b => b.stay < 2 ^ 6 ∧ b.dumb < 2 ^ 6) ⟨by show 0 < 2 ^ 6; decide, by show 0 < 2 ^ 6; decide⟩ fun b f hm h => by
 have hk := hf f hm
 have up : ∀ {s i : Nat}, s < 2 ^ 6 → (i : Int) < m.levers → withM s i < 2 ^ 6 := fun {s i} hs hi => Nat.or_lt_two_pow hs (Nat.pow_lt_pow_right (by omega) (by omega))
 cases f with
 | shut i => exact ⟨h.1, up h.2 hk⟩
 | opn i => exact ⟨up h.1 hk, h.2⟩
 | pin i => exact h
 | link i => exact h
theorem lagP_mem {ps : List PinP} {i : Nat} {t : Int} {q : PinP} (h : q ∈ lagP ps i t) : q ∈ ps ∨ ∃ p ∈ ps, q = ⟨p.rod, p.lever, t⟩ := by
 unfold lagP at h
 split at h
 ·rename_i p hp
  rcases List.mem_or_eq_of_mem_set h with h | h
  ·exact .inl h
  ·exact .inr ⟨p, List.mem_of_getElem? hp, h⟩
 ·exact .inl h
theorem lagL_mem {ls : List LinkP} {i : Nat} {t : Int} {q : LinkP} (h : q ∈ lagL ls i t) : q ∈ ls ∨ ∃ p ∈ ls, q = ⟨p.frm, p.to, p.reg, t⟩ := by
 unfold lagL at h
 split at h
 ·rename_i p hp
  rcases List.mem_or_eq_of_mem_set h with h | h
  ·exact .inl h
  ·exact .inr ⟨p, List.mem_of_getElem? hp, h⟩
 ·exact .inl h
theorem brk_mok {m : MachP} (M : MOK m) (l : List FaultP) : MOK (brkM m l) := by
 have tr := M.travel
 have I := brkF_inv (m := m) (l := l) (I := fun b => (∀ p ∈ b.pins, (0 ≤ p.rod ∧ p.rod < m.rods) ∧ (0 ≤ p.lever ∧ p.lever < m.levers) ∧ (0 ≤ p.lag ∧ p.lag ≤ m.travel)) ∧ (∀ x ∈ b.links, (0 ≤ x.frm ∧ x.frm < m.rods) ∧ (0 ≤ x.to ∧ x.to < m.rods) ∧ x.frm ≠ x.to ∧ (-1 ≤ x.reg ∧ x.reg < m.regs) ∧ (1 ≤ x.lag ∧ x.lag ≤ m.travel))) ⟨M.pin, M.link⟩ (fun b f _ h => by
  cases f with
  | shut i => exact h
  | opn i => exact h
  | pin i =>
   refine ⟨fun q hq => ?_, h.2⟩
   rcases lagP_mem hq with hq | ⟨p, hp, rfl⟩
   ·exact h.1 q hq
   ·obtain ⟨a, b, _⟩ := h.1 p hp
    exact ⟨a, b, by show 0 ≤ m.travel; omega, Int.le_refl _⟩
  | link i =>
   refine ⟨h.1, fun q hq => ?_⟩
   rcases lagL_mem hq with hq | ⟨p, hp, rfl⟩
   ·exact h.2 q hq
   ·obtain ⟨a, b, c, d, _⟩ := h.2 p hp
    exact ⟨a, b, c, d, tr.1, Int.le_refl _⟩)
 exact ⟨M.rods, M.levers, M.regs, M.travel, M.opn, M.bl, M.btn, by rw [show (brkM m l).pins = (brkF m l).pins from rfl, brk_pl]; exact M.pl, I.1, by rw [show (brkM m l).links = (brkF m l).links from rfl, brk_ll]; exact M.ll, I.2, M.wl, M.wt⟩
theorem brk_hok {m : MachP} {a : HandP} (H : HOK m a) (l : List FaultP) : HOK (brkM m l) a := ⟨H.b, H.o⟩
def soundsB (m : MachP) (l : List FaultP) (a : HandP) : Nat := (soundsM (brkM m l) a m.travel ||| (brkF m l).stay) &&& (2 ^ 64 - 1 - (brkF m l).dumb)
theorem pin_wr {junk : List Value} {t : Int} : ∀ {l : List PinP} {k : Nat}, k < l.length → wrL (l.flatMap pinC ++ junk) (k * 3 + 2) [.int .i64 t] = (lagP l k t).flatMap pinC ++ junk
 | [], _, h => by simp at h
 | p :: l, 0, _ => by simp [wrL, lagP, pinC]
 | p :: l, k + 1, h => by
  have ih := pin_wr (junk := junk) (t := t) (l := l) (k := k) (by simpa using h)
  have hk : k < l.length := by simpa using h
  have e : lagP (p :: l) (k + 1) t = p :: lagP l k t := by
   unfold lagP
   simp [List.getElem?_eq_getElem hk]
  rw [e, List.flatMap_cons, List.flatMap_cons, List.append_assoc, List.append_assoc, ← ih]
  rw [show (k + 1) * 3 + 2 = (k * 3 + 2) + 1 + 1 + 1 by omega]
  simp [wrL, pinC]
theorem link_wr {junk : List Value} {t : Int} : ∀ {l : List LinkP} {k : Nat}, k < l.length → wrL (l.flatMap linkC ++ junk) (k * 4 + 3) [.int .i64 t] = (lagL l k t).flatMap linkC ++ junk
 | [], _, h => by simp at h
 | p :: l, 0, _ => by simp [wrL, lagL, linkC]
 | p :: l, k + 1, h => by
  have ih := link_wr (junk := junk) (t := t) (l := l) (k := k) (by simpa using h)
  have hk : k < l.length := by simpa using h
  have e : lagL (p :: l) (k + 1) t = p :: lagL l k t := by
   unfold lagL
   simp [List.getElem?_eq_getElem hk]
  rw [e, List.flatMap_cons, List.flatMap_cons, List.append_assoc, List.append_assoc, ← ih]
  rw [show (k + 1) * 4 + 3 = (k * 4 + 3) + 1 + 1 + 1 + 1 by omega]
  simp [wrL, linkC]
end Go.Rd
namespace Go.Rd
open Go Go.HL Go.Wx
def choP {α : Type} (f : Nat → List α) (a d : Nat) : List α := (List.range' a d).flatMap f
theorem choP_zero {α : Type} (f : Nat → List α) (a : Nat) : choP f a 0 = [] := rfl
theorem choP_succ {α : Type} (f : Nat → List α) (a d : Nat) : choP f a (d + 1) = choP f a d ++ f (a + d) := by
 unfold choP
 rw [List.range'_concat, List.flatMap_append]
 simp
theorem choP_at {α : Type} {f : Nat → List α} {a d N : Nat} (hd : d < N) {j : Nat} {s : α} (h : (f (a + d))[j]? = some s) : (choP f a N)[(choP f a d).length + j]? = some s := by
 obtain ⟨r, rfl⟩ : ∃ r, N = (d + 1) + r := ⟨N - (d + 1), by omega⟩
 have e : choP f a (d + 1 + r) = choP f a (d + 1) ++ (List.range' (a + (d + 1)) r).flatMap f := by
  unfold choP
  rw [← List.flatMap_append, List.range'_append_1]
 rw [e, choP_succ, List.append_assoc, List.getElem?_append_right (by omega), Nat.add_sub_cancel_left, List.getElem?_append_left (List.getElem?_eq_some_iff.1 h).1]
 exact h
def choM (n : Nat) : Nat → Nat → List Int → List (List Int)
 | 0, _, l => [l]
 | m + 1, a, l => choP (fun i => choM n m (i + 1) (l ++ [(i : Int)])) a (n - a)
def setsM (n : Nat) : List (List Int) := choP (fun m => choM n m 0 []) 0 (n + 1)
theorem choP_mem {α : Type} {f : Nat → List α} {a d : Nat} {x : α} : x ∈ choP f a d ↔ ∃ i, a ≤ i ∧ i < a + d ∧ x ∈ f i := by
 unfold choP
 simp only [List.mem_flatMap, List.mem_range'_1]
 constructor
 ·rintro ⟨i, ⟨h1, h2⟩, h3⟩; exact ⟨i, h1, h2, h3⟩
 ·rintro ⟨i, h1, h2, h3⟩; exact ⟨i, ⟨h1, h2⟩, h3⟩
theorem choM_set {n : Nat} : ∀ {m a : Nat} {l x : List Int}, x ∈ choM n m a l → SetOK l n → (∀ z ∈ l, z < a) → SetOK x n ∧ x.length = l.length + m
 | 0, a, l, x, h, s, _ => by
  simp only [choM, List.mem_singleton] at h
  subst h
  exact ⟨s, rfl⟩
 | m + 1, a, l, x, h, s, hl => by
  unfold choM at h
  obtain ⟨i, h1, h2, h3⟩ := choP_mem.1 h
  have s2 : SetOK (l ++ [(i : Int)]) n := by
   refine ⟨fun z hz => ?_, ?_⟩
   ·rcases List.mem_append.1 hz with hz | hz
    ·exact s.mem z hz
    ·simp at hz; subst hz; omega
   ·rw [List.pairwise_append]
    refine ⟨s.asc, by simp, fun z hz w hw => ?_⟩
    simp at hw; subst hw
    have := hl z hz
    omega
  obtain ⟨s3, e⟩ := choM_set h3 s2 (fun z hz => by
   rcases List.mem_append.1 hz with hz | hz
   ·have := hl z hz; omega
   ·simp at hz; subst hz; omega)
  exact ⟨s3, by rw [e, List.length_append]; simp; omega⟩
theorem set_nil (k : Int) : SetOK [] k := ⟨fun _ h => absurd h List.not_mem_nil, List.Pairwise.nil⟩
theorem setsM_set {n : Nat} {x : List Int} (h : x ∈ setsM n) : SetOK x n := by
 obtain ⟨m, _, _, h⟩ := choP_mem.1 h
 exact (choM_set h (set_nil _) (fun _ h => absurd h List.not_mem_nil)).1
end Go.Rd
namespace Go.Rd
open Go Go.HL Go.Wx
def chosM (n : Nat) : Nat → Nat → List (List Int)
 | 0, _ => [[]]
 | m + 1, a => choP (fun i => (chosM n m (i + 1)).map ((i : Int) :: ·)) a (n - a)
theorem choP_congr {α : Type} {f g : Nat → List α} {a d : Nat} (h : ∀ i, f i = g i) : choP f a d = choP g a d := by rw [funext h]
theorem choM_map {n : Nat} : ∀ (m a : Nat) (l : List Int), choM n m a l = (chosM n m a).map (l ++ ·)
 | 0, a, l => by simp [choM, chosM]
 | m + 1, a, l => by
  rw [choM, chosM, choP_congr fun i => choM_map m (i + 1) (l ++ [(i : Int)])]
  unfold choP
  rw [List.map_flatMap]
  congr 1
  funext i
  rw [List.map_map]
  congr 1
  funext x
  simp
theorem choM_nil (n m a : Nat) : choM n m a [] = chosM n m a := by
 rw [choM_map]
 simp
theorem setsM_eq (n : Nat) : setsM n = choP (fun m => chosM n m 0) 0 (n + 1) := by
 unfold setsM
 rw [choP_congr fun m => choM_nil n m 0]
theorem chos_set {n m a : Nat} {x : List Int} (h : x ∈ chosM n m a) : SetOK x n ∧ x.length = m := by
 rw [← choM_nil] at h
 have := choM_set h (set_nil _) (fun _ h => absurd h List.not_mem_nil)
 simpa using this
theorem choP_len {n m a : Nat} (ih : ∀ a, (chosM n m a).length ≤ 2 ^ (n - a)) : ∀ d, d ≤ n - a → (choP (fun i => (chosM n m (i + 1)).map ((i : Int) :: ·)) a d).length + 2 ^ (n - a - d) ≤ 2 ^ (n - a)
 | 0, _ => by simp [choP_zero]
 | d + 1, hd => by
  have h1 := choP_len (a := a) ih d (by omega)
  have h2 := ih (a + d + 1)
  rw [choP_succ, List.length_append, List.length_map]
  have e : 2 ^ (n - a - d) = 2 ^ (n - a - (d + 1)) + 2 ^ (n - a - (d + 1)) := by
   rw [show n - a - d = (n - a - (d + 1)) + 1 by omega, Nat.pow_succ]; omega
  rw [show n - (a + d + 1) = n - a - (d + 1) by omega] at h2
  omega
theorem chos_len {n : Nat} : ∀ m a, (chosM n m a).length ≤ 2 ^ (n - a)
 | 0, a => by simp [chosM]; exact Nat.one_le_two_pow
 | m + 1, a => by
  have := choP_len (n := n) (m := m) (a := a) (fun a => chos_len m a) (n - a) (Nat.le_refl _)
  rw [chosM]
  exact Nat.le_trans (Nat.le_add_right _ _) this
end Go.Rd
namespace Go.Wx
open Go Go.HL
variable [Lvl]
theorem rdAt {h : AH} {L : Pv} {i b o : Nat} (pre xs post : List Value) {cs : List Value} {e : TypeId} {f : Nat × Nat} (V : Valid h L) (hi : L[i]? = some (some (b, .cells cs.toArray e f))) (ho : o = pre.length) (hc : cs = pre ++ xs ++ post) : Rd (wl h L) (some ⟨b, o, none⟩) xs := by
 subst ho hc
 intro _
 refine ⟨b, _, rfl, fun j u hu => ?_⟩
 simp only [cellA, zC V hi]
 have hj : j < xs.length := (List.getElem?_eq_some_iff.1 hu).1
 have : (pre ++ xs ++ post)[pre.length + j]? = some u := by
  rw [List.append_assoc, List.getElem?_append_right (by omega), Nat.add_sub_cancel_left, List.getElem?_append_left hj]
  exact hu
 simpa using this
theorem rdIf {h : AH} {L : Pv} {i b o cap : Nat} (pre xs post : List Value) {cs : List Value} {e : TypeId} {f : Nat × Nat} (V : Valid h L) (hi : L[i]? = some (some (b, .cells cs.toArray e f))) (ho : o = pre.length) (hc : cs = pre ++ xs ++ post) (hx : xs ≠ [] → o < cap) : Rd (wl h L) (if cap = o then some (⟨b, 0, none⟩ : Addr) else (some (⟨b, 0, none⟩ : Addr)).map (·.add (o * 1))) xs := by
 by_cases hn : xs = []
 ·subst hn; exact Rd.nil _ _
 ·have := hx hn
  rw [if_neg (by omega), Option.map_some, add_none, Nat.mul_one, Nat.zero_add]
  exact rdAt pre xs post V hi ho hc
theorem wrL_len : ∀ (vs c : List Value) (o : Nat), (wrL c o vs).length = c.length
 | [], _, _ => rfl
 | v :: vs, c, o => by
  show (wrL (c.set o v) (o + 1) vs).length = _
  rw [wrL_len vs, List.length_set]
theorem valid_ne {h : AH} {a b : Nat} {o o' : Obj} (V : Valid h [some (a, o), some (b, o')]) : a ≠ b := by
 have := V.nd
 simp [cl] at this
 exact this
theorem shed_row {α : Type} {m : Nat} {enc : α → List Value} {H h9 : AH} {l : List α} {v : Value} (e : H = wl h9 []) (r : SlR H m enc l v) : SlR h9 m enc l v := by
 rw [wl_nil] at e; exact e ▸ r
theorem gap_len (A B J : List Value) (hB : B ≠ []) (hJ : J ≠ []) : ∃ b0 X, wrL (A ++ B ++ J) (A.length + 1) B = A ++ [b0] ++ B ++ X ∧ X.length + 1 = J.length ∧ ∀ z, wrL (A ++ [b0] ++ B ++ X) A.length [z] = A ++ [z] ++ B ++ X := by
 cases B with
 | nil => exact absurd rfl hB
 | cons b0 B =>
  have hJ' : 0 < J.length := List.length_pos_iff.2 hJ
  refine ⟨b0, (B ++ J).drop (b0 :: B).length, ?_, ?_, fun z => ?_⟩
  ·have := Go.HL.wrL_mid (b0 :: B) (A ++ [b0]) (B ++ J) (by simp; omega)
   rw [List.length_append, List.length_singleton] at this
   rw [← this]
   simp
  ·simp; omega
  ·have := Go.HL.wrL_mid [z] A ([b0] ++ (b0 :: B) ++ (B ++ J).drop (b0 :: B).length) (by simp)
   simp only [List.append_assoc] at this ⊢
   rw [this]
   simp
theorem gap_new (A B J : List Value) (z : Value) (hJ : B.length + 1 ≤ J.length) : ∃ X, wrL (wrL (A ++ J) A.length [z]) (A.length + 1) B = A ++ [z] ++ B ++ X ∧ X.length + B.length + 1 = J.length := by
 have h1 := Go.HL.wrL_mid [z] A J (by simp; omega)
 refine ⟨(J.drop 1).drop B.length, ?_, by simp; omega⟩
 rw [h1]
 have h2 := Go.HL.wrL_mid B (A ++ [z]) (J.drop 1) (by simp; omega)
 rw [List.length_append, List.length_singleton] at h2
 exact h2
theorem gap_shut (A B J : List Value) (z0 z : Value) : ∃ X, wrL (A ++ [z0] ++ B ++ J) A.length B = A ++ B ++ X ∧ X.length = J.length + 1 ∧ ∃ Y, wrL (A ++ B ++ X) (A.length + B.length) [z] = A ++ B ++ Y ∧ Y.length = J.length + 1 := by
 refine ⟨([z0] ++ B ++ J).drop B.length, ?_, by simp; omega, [z] ++ (([z0] ++ B ++ J).drop B.length).drop 1, ?_, by first | (simp; done) | (simp; omega)⟩
 ·have := Go.HL.wrL_mid B A ([z0] ++ B ++ J) (by simp; omega)
  rw [← this]; simp
 ·have := Go.HL.wrL_mid [z] (A ++ B) (([z0] ++ B ++ J).drop B.length) (by simp; omega)
  rw [List.length_append] at this
  rw [this]; simp
end Go.Wx
namespace Go.HL
open Go Go.Wx
variable [Lvl]
section
variable {P : Program} {n : Nat} {d : Option Tmp} {ty : TypeId} {ps : String} {af : Array Edge} {S : Sl}
theorem pv_sliceALH {x : Operand} {lo hi : Option Operand} {t e : TypeId} {len m g off : Nat} (i j : Nat) {l' c' : Nat} {A' : Addr} (hx : ev n S x = .pointer (some ⟨g, off, none⟩))
  (hl : (lo = none ∧ i = 0) ∨ ∃ y q, lo = some y ∧ ev n S y = .int q (i : Int)) (hh : (hi = none ∧ j = len) ∨ ∃ y q, hi = some y ∧ ev n S y = .int q (j : Int))
  (ht : pev P (underlying t) = some (.array len e)) (hs : pev P (sizeOf e) = some m) (hij : i ≤ j) (hj : j ≤ len) (hil : i < len) (eA : (⟨g, off + i * m, none⟩ : Addr) = A') (el : j - i = l') (ec : len - i = c') :
  pev P (execOp (ev n S) ⟨d, .slice t x lo hi none, ty, ps, af, none⟩) = some (.value (.slice (some A') l' c')) := by
 subst eA el ec
 have core : ∀ (l h : Option Value), ((l = none ∧ i = 0) ∨ ∃ q, l = some (.int q (i : Int))) → ((h = none ∧ j = len) ∨ ∃ q, h = some (.int q (j : Int))) → pev P (Instr.sliceAt t (.pointer (some ⟨g, off, none⟩)) l h none) = some (.slice (some ⟨g, off + i * m, none⟩) (j - i) (len - i)) := by
  intro l h hl hh
  unfold Instr.sliceAt
  refine (qY ht).trans ?_
  simp only
  refine (qY (a := ⟨g, off, none⟩) rfl).trans ?_
  have hb : pev P (Instr.sliceBounds false len len l h none) = some (i, j, len) := by
   have bnd : ∀ (q : IntKind) (k y : Nat) (code : BoundsCode), k ≤ y → pev P (Instr.sliceBound (.int q (k : Int)) y code) = some k := by
    intro q k y code hk
    unfold Instr.sliceBound
    refine (qY (a := (q, (k : Int))) rfl).trans ?_
    simp only
    rw [if_pos ⟨by omega, by omega⟩]
    rfl
   unfold Instr.sliceBounds
   refine (qY (a := len) rfl).trans ?_
   rcases hh with ⟨rfl, rfl⟩ | ⟨q, rfl⟩
   ·refine (qY (a := j) rfl).trans ?_
    rcases hl with ⟨rfl, rfl⟩ | ⟨q, rfl⟩
    ·exact (qY (a := 0) rfl).trans rfl
    ·exact (qY (bnd q i _ _ hij)).trans rfl
   ·refine (qY (bnd q j _ _ hj)).trans ?_
    rcases hl with ⟨rfl, rfl⟩ | ⟨q, rfl⟩
    ·exact (qY (a := 0) rfl).trans rfl
    ·exact (qY (bnd q i _ _ hij)).trans rfl
  refine (qY hb).trans ?_
  simp only
  refine (qY hs).trans ?_
  rw [if_neg (show ¬ len = i by omega), add_none]
  rfl
 simp only [execOp, hx]
 refine (zB (a := .slice (some ⟨g, off + i * m, none⟩) (j - i) (len - i)) ?_).trans rfl
 refine core _ _ ?_ ?_
 ·rcases hl with ⟨rfl, h⟩ | ⟨y, q, rfl, h⟩
  ·exact .inl ⟨rfl, h⟩
  ·exact .inr ⟨q, by rw [Option.map_some, h]⟩
 ·rcases hh with ⟨rfl, h⟩ | ⟨y, q, rfl, h⟩
  ·exact .inl ⟨rfl, h⟩
  ·exact .inr ⟨q, by rw [Option.map_some, h]⟩
end
theorem strE {a b : List UInt8} (e : a = b) : Value.string (bs a) = Value.string (bs b) := by rw [e]
def byC (b : UInt8) : List Value := [.int .u8 b.toNat]
theorem dem_push {P : Program} {h : AH} {K : ByteArray → AH → Prop} {E : Value → AH → Prop} {f : Value → ByteArray → Sem (ForInStep ByteArray)}
  (hf : ∀ (b : UInt8) (s : ByteArray), f (.int .u8 b.toNat) s = Sem.pure (.yield (s.push (UInt8.ofNat (Int.toNat b.toNat))))) :
  ∀ (l p : List UInt8), K (bs (p ++ l)) h → dem P (forIn (m := Sem) (l.flatMap byC) (bs p) f) h K E := by
 intro l
 induction l with
 | nil => intro p k; rw [List.append_nil] at k; exact k
 | cons b l ih =>
  intro p k
  rw [List.flatMap_cons]
  show dem P (forIn (m := Sem) (Value.int .u8 b.toNat :: l.flatMap byC) (bs p) f) h K E
  rw [List.forIn_cons, hf]
  show dem P (forIn (m := Sem) (l.flatMap byC) ((bs p).push (UInt8.ofNat (Int.toNat b.toNat))) f) h K E
  have e : (bs p).push (UInt8.ofNat (Int.toNat b.toNat)) = bs (p ++ [b]) := by
   have : UInt8.ofNat (Int.toNat b.toNat) = b := by rw [Int.toNat_natCast]; exact UInt8.ofNat_toNat
   rw [this]
   apply ByteArray.ext
   show (Array.mk p).push b = _
   simp
  rw [e]
  exact ih _ (by rw [List.append_assoc]; exact k)
section
variable {P : Program} {n : Nat} {ops : Array Oper} {os : List Oper} {K : Sl → Pv → AH → Prop} {E : Value → Sl → Pv → AH → Prop} {S : Sl} {L : Pv} {h : AH} {d : Option Tmp} {ty : TypeId} {ps : String} {af : Array Edge}
theorem op_b2s {sT dT e : TypeId} {x : Operand} {A : Option Addr} {len cap : Nat} (l : List UInt8) (hx : ev n S x = .slice A len cap) (hl : l.length = len) (hr : Valid h L → Rd (wl h L) A (l.flatMap byC))
  (h1 : pev P (underlying sT) = some (.slice e)) (h2 : pev P (underlying dT) = some .string) (h3 : pev P (underlying e) = some (.int .u8))
  (k : wpL P n ops os K E (put S d (.string (bs l))) L h) : wpL P n ops (⟨d, .convert sT dT x, ty, ps, af, none⟩ :: os) K E S L h := by
 refine op_of fun V => ?_
 unfold opW
 simp only [execOp, hx]
 refine wB (qU h1 (qU h2 ?_))
 simp only
 refine qU h3 ?_
 simp only
 unfold Conv.bytesToString
 have fin : ∃ L' h', wl h L = wl h' L' ∧ Valid h' L' ∧ wpL P n ops os K E (put S d (.string (bs l))) L' h' := ⟨L, h, rfl, V, k⟩
 cases A with
 | none =>
  simp only
  have e0 : l = [] := by
   rcases l with _ | ⟨b, l⟩
   ·rfl
   ·obtain ⟨_, _, e, _⟩ := hr V (by simp [byC])
    cases e
  subst e0
  exact fin
 | some a =>
  simp only
  have fl : (l.flatMap byC).length = len := by rw [zE (m := 1) (fun _ _ => rfl), Nat.mul_one, hl]
  have rc : dem P (loadCells a len) (wl h L) (fun cs H => cs = (l.flatMap byC).toArray ∧ H = wl h L) (fun v H => ∃ L' h', H = wl h' L' ∧ Valid h' L' ∧ E v S L' h') := by
   have := rd_cells (P := P) (c := cap) (m := 1) (k := len) (l := len) (E := fun v H => ∃ L' h', H = wl h' L' ∧ Valid h' L' ∧ E v S L' h') (hr V) (by rw [fl, Nat.mul_one]) (K := fun cs H => cs = (l.flatMap byC).toArray ∧ H = wl h L) ⟨rfl, rfl⟩
   unfold Builtin.firstCells at this
   rw [Nat.mul_one] at this
   exact this
  refine wB (dem_mono ?_ (fun _ _ x => x) rc)
  rintro _ _ ⟨rfl, rfl⟩
  rw [List.forIn_toArray]
  refine wB (dem_push (fun b s => rfl) l [] ?_)
  exact fin
end
end Go.HL
namespace Go.Rd
def dig (k : Nat) : UInt8 := UInt8.ofNat (48 + k)
def natL (n : Nat) : List UInt8 := if n < 10 then [dig n] else if n < 100 then [dig (n / 10), dig (n % 10)] else [dig (n / 100), dig (n / 10 % 10), dig (n % 10)]
def itoaL (n : Int) : List UInt8 := if n < 0 then 45 :: natL n.natAbs else natL n.toNat
def digitsL : List UInt8 := [48, 49, 50, 51, 52, 53, 54, 55, 56, 57, 97, 98, 99, 100, 101, 102, 103, 104, 105, 106, 107, 108, 109, 110, 111, 112, 113, 114, 115, 116, 117, 118, 119, 120, 121, 122]
def smallsL : List UInt8 := (List.range 100).flatMap fun k => [dig (k / 10), dig (k % 10)]
theorem digits_cut : ∀ i, i < 10 → (digitsL.take (i + 1)).drop i = natL i := by decide +kernel
theorem smalls_cut : ∀ i, i < 100 → 10 ≤ i → (smallsL.take (i * 2 + 2)).drop (i * 2) = natL i := by decide +kernel
theorem smalls_len : smallsL.length = 200 := by decide +kernel
theorem natL_len {n : Nat} : (natL n).length ≤ 3 := by
 unfold natL
 split
 ·exact Nat.le_add_left 1 2
 ·split
  ·exact Nat.le_add_left 2 1
  ·exact Nat.le_refl 3
theorem itoaL_len {n : Int} : (itoaL n).length ≤ 4 := by
 unfold itoaL
 split
 ·exact Nat.succ_le_succ natL_len
 ·exact Nat.le_trans natL_len (by decide)
end Go.Rd
namespace Go.Proofs.YtmpahfdiebhdbaaDoor
open Go Go.HL Go.Proofs Go.Wx Go.Rd
section
variable [Lvl]
set_option maxRecDepth 100000
theorem small_ok (n : Nat) (h : AH) (hn : n < 100) : FnT Tryd.prog 79 #[.int .i64 (n : Int)] h (fun v _ => v = .string (bs (natL n))) := by
 refine wL Tryd.func79 rfl Tryd.ntmps79 rfl ?_
 refine qE ?_
 refine qC rfl ?_
 refine qA (qF (v := .string _) rfl) ?_
 refine qE ?_
 refine qE ?_
 refine qC rfl ?_
 refine qA (qD (v := .int .i64 _) rfl) ?_
 refine qA (qJ (v := .bool _) rfl) ?_
 refine wA rfl (fun hc => ?_) (fun hc => ?_)
 ·skip
  have hc' : n < 10 := by have := of_decide_eq_true hc; omega
  refine qE ?_
  refine qC rfl ?_
  refine qA (qD (v := .int .i64 _) rfl) ?_
  refine qA (qD (v := .int .i64 _) rfl) ?_
  refine qA (qX rfl (by omega)) ?_
  refine qA (pv_strcut (a := digitsL) n (n + 1) rfl rfl (.inr ⟨_, _, rfl, rfl⟩) (.inr ⟨_, _, rfl, by push_cast; rfl⟩) (by omega) (by show n + 1 ≤ 36; omega)) ?_
  refine qA (qF (v := .string _) rfl) ?_
  refine wD ?_
  refine qS (vs := [_]) Tryd.results79 ⟨qM rfl rfl, trivial⟩ fun V => ?_
  exact ⟨(qZ V), strE (digits_cut n hc')⟩
 ·skip
  have hc' : ¬ n < 10 := by have := of_decide_eq_false hc; omega
  refine qP ?_
  refine qE ?_
  refine qC rfl ?_
  refine qA (qD (v := .int .i64 _) rfl) ?_
  refine qA (qX rfl (by omega)) ?_
  refine qA (qD (v := .int .i64 _) rfl) ?_
  refine qA (qX rfl (by omega)) ?_
  refine qA (qX rfl (by omega)) ?_
  refine qA (pv_strcut (a := smallsL) (n * 2) (n * 2 + 2) rfl rfl (.inr ⟨_, _, rfl, by push_cast; rfl⟩) (.inr ⟨_, _, rfl, by push_cast; rfl⟩) (by omega) (by rw [smalls_len]; omega)) ?_
  refine qA (qF (v := .string _) rfl) ?_
  refine wD ?_
  refine qS (vs := [_]) Tryd.results79 ⟨qM rfl rfl, trivial⟩ fun V => ?_
  exact ⟨(qZ V), strE (smalls_cut n hn (by omega))⟩
def Pow (h : AH) : Prop := Rd h (some ⟨0, 0, none⟩) ((List.range 4).map fun i => Value.int .u64 ((10 ^ i : Nat) : Int))
theorem Pow.ext {h h' : AH} (p : Pow h) (E : Ext h h') : Pow h' := Rd.ext p E
end
end Go.Proofs.YtmpahfdiebhdbaaDoor
namespace Go.Proofs.YtmpahfdiebhdbaaDoor
open Go Go.HL Go.Proofs Go.Wx Go.Rd
section
variable [Lvl]
set_option maxRecDepth 100000
theorem len1_ok (h : AH) : FnT Tryd.prog 84 #[.int .u64 1] h (fun v _ => v = .int .i64 1) := by
 refine wL Tryd.func84 rfl Tryd.ntmps84 rfl ?_
 refine qE ?_
 refine qC rfl ?_
 refine qA (qF (v := .int .i64 _) rfl) ?_
 refine qE ?_
 refine qE ?_
 refine qC rfl ?_
 refine qA (qD (v := .int .u64 _) rfl) ?_
 refine qA (qJ (v := .bool _) rfl) ?_
 refine wO rfl (rfl) ?_
 refine qP ?_
 refine qE ?_
 refine qE ?_
 refine qC rfl ?_
 refine qA (qD (v := .int .u64 _) rfl) ?_
 refine qA (qJ (v := .bool _) rfl) ?_
 refine wO rfl (rfl) ?_
 refine qP ?_
 refine qE ?_
 refine qE ?_
 refine qC rfl ?_
 refine qA (qD (v := .int .u64 _) rfl) ?_
 refine qA (qJ (v := .bool _) rfl) ?_
 refine wO rfl (rfl) ?_
 refine qP ?_
 refine qE ?_
 refine qC rfl ?_
 refine qA (qD (v := .int .i64 _) rfl) ?_
 refine qA (qD (v := .int .u64 _) rfl) ?_
 refine qA (qJ (v := .int .u8 1) rfl) ?_
 refine qA (pv_stridx (c := 1) 1 rfl rfl rfl rfl rfl) ?_
 refine qA (qJ (v := .int .i64 1) rfl) ?_
 refine qA (qX rfl (by omega)) ?_
 refine qA (qF (v := .int .i64 _) rfl) ?_
 refine wD ?_
 refine qS (vs := [_]) Tryd.results84 ⟨qM rfl rfl, trivial⟩ fun V => ?_
 exact ⟨(qZ V), rfl⟩
theorem log1_ok (h : AH) : FnT Tryd.prog 83 #[.int .i64 1] h (fun v _ => v = .int .i64 0) := by
 refine wL Tryd.func83 rfl Tryd.ntmps83 rfl ?_
 refine qE ?_
 refine qC rfl ?_
 refine qA (qF (v := .int .i64 _) rfl) ?_
 refine qE ?_
 refine qC rfl ?_
 refine qA (qD (v := .int .i64 _) rfl) ?_
 refine qA (qX rfl (by omega)) ?_
 refine qA (qJ (v := .int .i64 0) rfl) ?_
 refine qA (qF (v := .int .i64 _) rfl) ?_
 refine wD ?_
 refine qS (vs := [_]) Tryd.results83 ⟨qM rfl rfl, trivial⟩ fun V => ?_
 exact ⟨(qZ V), rfl⟩
theorem bool2_ok (b : Bool) (h : AH) : FnT Tryd.prog 85 #[.bool b] h (fun v _ => v = .int .i64 (if b then 1 else 0)) := by
 refine wL Tryd.func85 rfl Tryd.ntmps85 rfl ?_
 refine qE ?_
 refine qC rfl ?_
 refine qA (qF (v := .int .i64 _) rfl) ?_
 refine qE ?_
 refine qE ?_
 refine qC rfl ?_
 refine qA (qD (v := .bool _) rfl) ?_
 refine wA rfl (fun hb => ?_) (fun hb => ?_)
 ·skip
  refine qE ?_
  refine qC rfl ?_
  refine qA (qF (v := .int .i64 _) rfl) ?_
  refine wD ?_
  refine qS (vs := [_]) Tryd.results85 ⟨qM rfl rfl, trivial⟩ fun V => ?_
  exact ⟨(qZ V), intE (by rw [hb]; rfl)⟩
 ·skip
  refine qP ?_
  refine qE ?_
  refine qC rfl ?_
  refine qA (qF (v := .int .i64 _) rfl) ?_
  refine wD ?_
  refine qS (vs := [_]) Tryd.results85 ⟨qM rfl rfl, trivial⟩ fun V => ?_
  exact ⟨(qZ V), intE (by rw [hb]; rfl)⟩
theorem digits1_ok (h : AH) (PW : Pow h) : FnT Tryd.prog 80 #[.int .u64 1] h (fun v _ => v = .int .i64 1) := by
 refine wL Tryd.func80 rfl Tryd.ntmps80 rfl ?_
 refine qE ?_
 refine qC rfl ?_
 refine qA (qF (v := .int .i64 _) rfl) ?_
 refine qE ?_
 refine qC rfl ?_
 refine qA (qD (v := .int .u64 _) rfl) ?_
 refine qV (caps := []) (vs := [.int .u64 _]) rfl rfl rfl (len1_ok h) ?_
 rintro _ h1 E1 rfl
 refine qV (caps := []) (vs := [.int .i64 _]) rfl rfl rfl (log1_ok h1) ?_
 rintro _ h2 E2 rfl
 refine qA (qF (v := .int .i64 _) rfl) ?_
 refine qE ?_
 refine qC rfl ?_
 refine qA (qD (v := .int .i64 _) rfl) ?_
 refine qA (qD (v := .int .u64 _) rfl) ?_
 refine qA (qD (v := .int .i64 _) rfl) ?_
 refine qA (pv_indexA rfl rfl rfl rfl (by omega) (by omega)) ?_
 obtain ⟨g, off, hA, hc⟩ := (PW.ext (zL E1 E2)) (by decide)
 cases hA
 refine wT (v := .int .u64 _) rfl rfl ((hc) 0 _ rfl) ?_
 refine qA (qJ (v := .bool _) rfl) ?_
 refine qV (caps := []) (vs := [.bool _]) rfl rfl rfl (bool2_ok _ h2) ?_
 rintro _ h3 E3 rfl
 refine qA (qX rfl (by omega)) ?_
 refine qA (qF (v := .int .i64 _) rfl) ?_
 refine wD ?_
 refine qS (vs := [_]) Tryd.results80 ⟨qM rfl rfl, trivial⟩ fun V => ?_
 exact ⟨(zL (zL (zL E1 E2) E3) (qZ V)), rfl⟩
def zer24 : List Value := List.replicate 24 (.int .u8 0)
theorem base1_ok (b : Nat) (h : AH) : FnM Tryd.prog (.func (.func 81) #[] ([] : List Value).toArray) [.slice (some ⟨b, 1, none⟩) 1 23, .int .u64 1] h [some (b, .cells zer24.toArray 135 (0, 0))]
  (fun v h' M' => M' = [some (b, .cells (zer24.set 1 (.int .u8 49)).toArray 135 (0, 0))]) := by
 refine fnM_body rfl rfl Tryd.func81 rfl Tryd.ntmps81 rfl ?_
 refine qE ?_
 refine qC rfl ?_
 refine qA (qD (v := .slice _ _ _) rfl) ?_
 refine qA (wP rfl rfl) ?_
 refine qA (qF (v := .int .i64 _) rfl) ?_
 refine qE ?_
 refine qT ?_
 refine xp_unroll ?_
 refine qE ?_
 refine qE ?_
 refine qC rfl ?_
 refine qA (qD (v := .int .i64 _) rfl) ?_
 refine qA (qJ (v := .bool _) rfl) ?_
 refine wO rfl (rfl) ?_
 refine zA ?_
 refine qE ?_
 refine qC rfl ?_
 refine qA (qD (v := .int .u64 _) rfl) ?_
 refine qA (qJ (v := .int .u32 1) rfl) ?_
 refine qA (qF (v := .int .u32 _) rfl) ?_
 refine qE ?_
 refine qE ?_
 refine qC rfl ?_
 refine qA (qD (v := .int .i64 _) rfl) ?_
 refine qA (qJ (v := .bool _) rfl) ?_
 refine wO rfl (rfl) ?_
 refine qP ?_
 refine qE ?_
 refine qE ?_
 refine qC rfl ?_
 refine qA (qD (v := .int .i64 _) rfl) ?_
 refine qA (qJ (v := .bool _) rfl) ?_
 refine wO rfl (rfl) ?_
 refine qP ?_
 refine qE ?_
 refine qC rfl ?_
 refine qA (qD (v := .int .i64 _) rfl) ?_
 refine qA (qJ (v := .bool _) rfl) ?_
 refine wY rfl (rfl) ?_
 refine qC rfl ?_
 refine qA (qD (v := .slice _ _ _) rfl) ?_
 refine qA (qD (v := .int .u32 _) rfl) ?_
 refine qA (qJ (v := .int .u32 49) rfl) ?_
 refine qA (qJ (v := .int .u8 49) rfl) ?_
 refine qA (zJ rfl rfl rfl rfl (by omega) (by omega)) ?_
 refine wG 0 (v := .int .u8 _) (vs := [_]) (c' := [_, _, _, _, _, _, _, _, _, _, _, _, _, _, _, _, _, _, _, _, _, _, _, _]) rfl rfl rfl rfl rfl rfl rfl rfl rfl ?_
 refine qH [_] rfl ?_
 refine qS (vs := []) Tryd.results81 trivial fun V => ?_
 exact ⟨_, _, rfl, V, (Ext.refl _), rfl⟩
theorem fmtNeg_ok (h : AH) (PW : Pow h) : FnT Tryd.prog 76 #[.int .i64 (-1), .int .i64 10] h (fun v _ => v = .string (bs (itoaL (-1)))) := by
 refine wL Tryd.func76 rfl Tryd.ntmps76 rfl ?_
 refine qE ?_
 refine qC rfl ?_
 refine qA (qF (v := .string _) rfl) ?_
 refine qE ?_
 refine qE ?_
 refine qC rfl ?_
 refine qA (qD (v := .int .i64 _) rfl) ?_
 refine qA (qJ (v := .bool _) rfl) ?_
 refine wY rfl (rfl) ?_
 refine qE ?_
 refine qE ?_
 refine qC rfl ?_
 refine qA (qD (v := .int .i64 _) rfl) ?_
 refine qA (qJ (v := .bool _) rfl) ?_
 refine qA (qD (v := .bool _) rfl) ?_
 refine qR rfl rfl ?_
 refine qR rfl rfl ?_
 refine qA (wI rfl rfl (v := .bool _) rfl) ?_
 refine wO rfl (rfl) ?_
 refine qP ?_
 refine qE ?_
 refine qC rfl ?_
 refine wW (cs := [_, _, _, _, _, _, _, _, _, _, _, _, _, _, _, _, _, _, _, _, _, _, _, _]) rfl rfl fun b5 hb5 => ?_
 refine qH [_] rfl ?_
 refine qE ?_
 refine qC rfl ?_
 refine qA (qD (v := .int .i64 _) rfl) ?_
 refine qA (qJ (v := .int .u64 18446744073709551615) rfl) ?_
 refine qA (qF (v := .int .u64 _) rfl) ?_
 refine qE ?_
 refine qE ?_
 refine qC rfl ?_
 refine qA (qD (v := .int .i64 _) rfl) ?_
 refine qA (qJ (v := .bool _) rfl) ?_
 refine wY rfl (rfl) ?_
 refine qC rfl ?_
 refine qA (qD (v := .int .u64 _) rfl) ?_
 refine qA (qJ (v := .int .u64 1) rfl) ?_
 refine qA (qF (v := .int .u64 _) rfl) ?_
 refine qE ?_
 refine qC rfl ?_
 refine qA (qD (v := .int .u64 _) rfl) ?_
 refine qV (caps := []) (vs := [.int .u64 _]) rfl rfl rfl (digits1_ok h (PW.ext (Ext.refl _))) ?_
 rintro _ h1 E1 rfl
 refine qA (qF (v := .int .i64 _) rfl) ?_
 refine qE ?_
 refine qC rfl ?_
 refine qA (qD (v := .int .i64 _) rfl) ?_
 refine qA (qX rfl (by omega)) ?_
 refine qA (pv_sliceALH 1 2 rfl (.inr ⟨_, _, rfl, rfl⟩) (.inr ⟨_, _, rfl, rfl⟩) rfl rfl (by decide) (by decide) (by decide) rfl rfl rfl) ?_
 refine qA (qD (v := .int .u64 _) rfl) ?_
 refine op_fnMM [] [_] [] (vs := _) rfl rfl rfl (base1_ok b5 h1) ?_
 rintro _ h2 _ E2 rfl
 refine qH [_] rfl ?_
 refine qE ?_
 refine qE ?_
 refine qC rfl ?_
 refine qA (qD (v := .int .i64 _) rfl) ?_
 refine qA (qJ (v := .bool _) rfl) ?_
 refine wY rfl (rfl) ?_
 refine qE ?_
 refine qC rfl ?_
 refine qA (pv_indexA rfl rfl rfl rfl (by omega) (by omega)) ?_
 refine wG 0 (v := .int .u8 _) (vs := [_]) (c' := [_, _, _, _, _, _, _, _, _, _, _, _, _, _, _, _, _, _, _, _, _, _, _, _]) rfl rfl rfl rfl rfl rfl rfl rfl rfl ?_
 refine qH [_] rfl ?_
 refine qE ?_
 refine qC rfl ?_
 refine qA (qD (v := .int .i64 _) rfl) ?_
 refine qA (qX rfl (by omega)) ?_
 refine qA (pv_sliceALH 0 2 rfl (.inl ⟨rfl, rfl⟩) (.inr ⟨_, _, rfl, rfl⟩) rfl rfl (by decide) (by decide) (by decide) rfl rfl rfl) ?_
 refine op_b2s [45, 49] rfl rfl (fun V => rd_take (rdP V (i := 0) rfl) 2) rfl rfl rfl ?_
 refine qA (qF (v := .string _) rfl) ?_
 refine wD ?_
 refine qS (vs := [_]) Tryd.results76 ⟨qM rfl rfl, trivial⟩ fun V => ?_
 exact ⟨(zL (zL E1 E2) (qZ V)), rfl⟩
end
end Go.Proofs.YtmpahfdiebhdbaaDoor
namespace Go.Rd
def numL (n : Int) : List UInt8 := 47 :: itoaL n
def lineM (w : List UInt8) (l : List Int) : List UInt8 := w ++ l.flatMap numL ++ [10]
def ItoD (n : Int) : Prop := n = -1 ∨ (0 ≤ n ∧ n < 100)
theorem numL_len {n : Int} : (numL n).length ≤ 5 := Nat.succ_le_succ itoaL_len
theorem nums_len (l : List Int) : (l.flatMap numL).length ≤ 5 * l.length := by
 induction l with
 | nil => exact Nat.le_refl 0
 | cons n l ih =>
  have := numL_len (n := n)
  rw [List.flatMap_cons, List.length_append, List.length_cons]
  omega
theorem flat_take {α : Type} (f : α → List UInt8) {l : List α} {k : Nat} (hk : k < l.length) : (l.take (k + 1)).flatMap f = (l.take k).flatMap f ++ f l[k] := by
 rw [List.take_add_one, List.getElem?_eq_getElem hk, List.flatMap_append]
 show _ ++ (f l[k] ++ []) = _
 rw [List.append_nil]
end Go.Rd
namespace Go.Proofs.YtmpahfdiebhdbaaDoor
open Go Go.HL Go.Proofs Go.Wx Go.Rd
section
variable [Lvl]
set_option maxRecDepth 100000
theorem fmt_ok (n : Int) (h : AH) (PW : Pow h) (hn : ItoD n) : FnT Tryd.prog 76 #[.int .i64 n, .int .i64 10] h (fun v _ => v = .string (bs (itoaL n))) := by
 rcases hn with rfl | ⟨h0, h1⟩
 ·exact fmtNeg_ok h PW
 ·obtain ⟨m, rfl⟩ : ∃ m : Nat, n = m := ⟨n.toNat, by omega⟩
  refine wL Tryd.func76 rfl Tryd.ntmps76 rfl ?_
  refine qE ?_
  refine qC rfl ?_
  refine qA (qF (v := .string _) rfl) ?_
  refine qE ?_
  refine qE ?_
  refine qC rfl ?_
  refine qA (qD (v := .int .i64 _) rfl) ?_
  refine qA (qJ (v := .bool _) rfl) ?_
  refine wY rfl (rfl) ?_
  refine qE ?_
  refine qE ?_
  refine qC rfl ?_
  refine qA (qD (v := .int .i64 _) rfl) ?_
  refine qA (qJ (v := .bool _) rfl) ?_
  refine qA (qD (v := .bool _) rfl) ?_
  have g0 : decide ((0 : Int) ≤ m) = true := decide_eq_true h0
  refine qG rfl g0 ?_
  refine qA (qD (v := .int .i64 _) rfl) ?_
  refine qG rfl g0 ?_
  refine qA (qJ (v := .bool _) rfl) ?_
  refine qA (wV rfl g0 (v := .bool _) rfl) ?_
  refine wY rfl (decide_eq_true h1) ?_
  refine qE ?_
  refine qC rfl ?_
  refine qA (qD (v := .int .i64 _) rfl) ?_
  refine qV (caps := []) (vs := [.int .i64 _]) rfl rfl rfl (small_ok m h (by omega)) ?_
  rintro _ h2 E2 rfl
  refine qA (qF (v := .string _) rfl) ?_
  refine wD ?_
  refine qS (vs := [_]) Tryd.results76 ⟨qM rfl rfl, trivial⟩ fun V => ?_
  exact ⟨(zL E2 (qZ V)), strE (by unfold itoaL; rw [if_neg (by omega)]; rfl)⟩
theorem itoa1_ok (n : Int) (h : AH) (PW : Pow h) (hn : ItoD n) : FnT Tryd.prog 71 #[.int .i64 n] h (fun v _ => v = .string (bs (itoaL n))) := by
 refine wL Tryd.func71 rfl Tryd.ntmps71 rfl ?_
 refine qE ?_
 refine qC rfl ?_
 refine qA (qF (v := .string _) rfl) ?_
 refine qE ?_
 refine qC rfl ?_
 refine qA (qD (v := .int .i64 _) rfl) ?_
 refine qV (caps := []) (vs := [.int .i64 _, .int .i64 _]) rfl rfl rfl (fmt_ok n h (PW.ext (Ext.refl _)) hn) ?_
 rintro _ h2 E2 rfl
 refine qA (qF (v := .string _) rfl) ?_
 refine wD ?_
 refine qS (vs := [_]) Tryd.results71 ⟨qM rfl rfl, trivial⟩ fun V => ?_
 exact ⟨(zL E2 (qZ V)), rfl⟩
theorem itoa_ok (n : Int) (h : AH) (PW : Pow h) (hn : ItoD n) : FnT Tryd.prog 58 #[.int .i64 n] h (fun v _ => v = .string (bs (itoaL n))) := by
 refine wL Tryd.func58 rfl Tryd.ntmps58 rfl ?_
 refine qE ?_
 refine qC rfl ?_
 refine qA (qF (v := .string _) rfl) ?_
 refine qE ?_
 refine qC rfl ?_
 refine qA (qD (v := .int .i64 _) rfl) ?_
 refine qV (caps := []) (vs := [.int .i64 _]) rfl rfl rfl (itoa1_ok n h (PW.ext (Ext.refl _)) hn) ?_
 rintro _ h2 E2 rfl
 refine qA (qF (v := .string _) rfl) ?_
 refine wD ?_
 refine qS (vs := [_]) Tryd.results58 ⟨qM rfl rfl, trivial⟩ fun V => ?_
 exact ⟨(zL E2 (qZ V)), rfl⟩
theorem line_ok (w : List UInt8) (l : List Int) (A : Option Addr) (cap : Nat) (h : AH) (PW : Pow h) (R : Row h 1 intC A l) (hn : ∀ n ∈ l, ItoD n) (hw : w.length < 100) (hl : l.length < 100) :
  FnT Tryd.prog 36 #[.string (bs w), .slice A l.length cap] h (fun v _ => v = .string (bs (lineM w l))) := by
 refine wL Tryd.func36 rfl Tryd.ntmps36 rfl ?_
 refine qE ?_
 refine qC rfl ?_
 refine qA (qF (v := .string _) rfl) ?_
 refine qE ?_
 refine qE ?_
 refine qC rfl ?_
 refine qA (qD (v := .slice _ _ _) rfl) ?_
 refine qA (wP rfl rfl) ?_
 refine qA (qD (v := .int .i64 _) rfl) ?_
 refine qT ?_
 refine xp_loopB [0, 6, 9, 10, 11, 12, 13, 14, 15, 16, 17, 18] 0 (α := Nat) (fun k => [(9, .int .i64 k), (0, .string (bs (w ++ (l.take k).flatMap numL)))]) (fun k => _) (fun k h_k => k ≤ l.length) (fun k => l.length - k) (0) ⟨rfl, strE (by simp), trivial⟩ (rfl) (Nat.zero_le _) ?_
 rintro k T1 h_k E_k J_k
 refine wE [] rfl ?_
 refine qE ?_
 refine qC rfl ?_
 refine qA (qJ (v := .bool _) rfl) ?_
 refine qE ?_
 refine wA rfl (fun hk => ?_) (fun hk => ?_)
 ·skip
  have hkl : k < l.length := ltI hk
  obtain ⟨g, off, hA, hc⟩ := (R.ext E_k).at (by omega) hkl
  refine qP ?_
  refine qE ?_
  refine qT ?_
  refine qE ?_
  refine qC rfl ?_
  refine qA (wU rfl hA rfl rfl rfl (by omega) (by omega)) ?_
  refine wT (v := .int .i64 _) rfl rfl ((hc) 0 _ rfl) ?_
  refine qA (qF (v := .int .i64 _) rfl) ?_
  refine qC rfl ?_
  refine qA (qD (v := .string _) rfl) ?_
  refine qA (qD (v := .int .i64 _) rfl) ?_
  refine qV (caps := []) (vs := [.int .i64 _]) rfl rfl rfl (itoa_ok _ h_k (PW.ext E_k) (hn _ (List.getElem_mem hkl))) ?_
  rintro _ h1 E1 rfl
  have b1 := itoaL_len (n := l[k])
  have b2 := nums_len (l.take k)
  rw [List.length_take] at b2
  refine qA (pv_cat (a := [47]) rfl rfl (by show 1 + _ < _; omega)) ?_
  refine qA (pv_cat rfl rfl (by rw [List.length_append, List.length_append]; show _ + (1 + _) < _; omega)) ?_
  refine qA (qF (v := .string _) rfl) ?_
  refine qC rfl ?_
  refine qA (qX rfl (by omega)) ?_
  refine qA (qD (v := .int .i64 _) rfl) ?_
  refine ⟨k + 1, ⟨rfl, strE (by rw [flat_take numL hkl, List.append_assoc]; rfl), trivial⟩, rfl, rfl, (zL E_k E1), fun h3 E3 => hkl, by first | omega | (dsimp only; omega), ?_⟩
  repeat (first | exact wK _ _ _ | refine wM (by decide) ?_ | refine wJ rfl ?_ | refine wN rfl ?_)
 ·skip
  have hke : k = l.length := by have := geI hk; omega
  subst hke
  refine zA ?_
  refine qE ?_
  refine qC rfl ?_
  refine qA (qD (v := .string _) rfl) ?_
  have b2 := nums_len l
  refine qA (pv_cat (b := [10]) rfl rfl (by rw [List.take_length, List.length_append]; show _ + 1 < _; omega)) ?_
  refine qA (qF (v := .string _) rfl) ?_
  refine wD ?_
  refine qS (vs := [_]) Tryd.results36 ⟨qM rfl rfl, trivial⟩ fun V => ?_
  exact ⟨(zL E_k (qZ V)), strE (by rw [List.take_length]; rfl)⟩
end
end Go.Proofs.YtmpahfdiebhdbaaDoor
namespace Go.Rd
open Go Go.HL Go.Wx
variable [Lvl]
structure More (m : MachP) (a : HandP) (m' : MachP) (a' : HandP) : Prop where
 btn : m'.buttons = m.buttons
 hb : ∀ b ∈ a.buttons, b ∈ a'.buttons
 ho : ∀ r ∈ a.on, r ∈ a'.on
 links : ∀ l ∈ m.links, l ∈ m'.links
 pins : ∀ p ∈ m.pins, p ∈ m'.pins
 levers : m'.levers = m.levers
 travel : m'.travel = m.travel
 opn : m'.opn = m.opn
end Go.Rd
namespace Go.Wx
open Go Go.HL
variable [Lvl]
structure Order (o : List Int) (n : Nat) : Prop where
 len : o.length = n
 bd : ∀ x ∈ o, 0 ≤ x ∧ x < n
 inj : ∀ (i k : Nat), i < n → k < n → o[i]? = o[k]? → i = k
theorem wrL_mid (a c : List Value) : ∀ (vs b : List Value) (j : Nat), j + vs.length ≤ b.length → wrL (a ++ b ++ c) (a.length + j) vs = a ++ wrL b j vs ++ c
 | [], b, j, _ => rfl
 | v :: vs, b, j, h => by
  rw [List.length_cons] at h
  have hj : j < b.length := by omega
  have e : (a ++ b ++ c).set (a.length + j) v = a ++ b.set j v ++ c := by
   rw [List.append_assoc, List.set_append_right _ _ (by omega), Nat.add_sub_cancel_left, List.set_append_left _ _ hj, List.append_assoc]
  show wrL ((a ++ b ++ c).set (a.length + j) v) (a.length + j + 1) vs = _
  rw [e, Nat.add_assoc, wrL_mid a c vs (b.set j v) (j + 1) (by rw [List.length_set]; omega)]
  rfl
section
variable {α : Type} {enc : α → List Value} {m : Nat} (hm : ∀ x, (enc x).length = m)
include hm
end
structure MixP (l : List Int) (i : Nat) : Prop where
 bd : ∀ m, m < i → ∃ v : Int, l[m]? = some v ∧ 0 ≤ v ∧ v < i
 inj : ∀ m m' : Nat, m < i → m' < i → l[m]? = l[m']? → m = m'
theorem MixP.zero (l : List Int) : MixP l 0 := ⟨fun m h => absurd h (Nat.not_lt_zero m), fun m _ h => absurd h (Nat.not_lt_zero m)⟩
def mixS (l : List Int) (i k : Nat) : List Int := (l.set i (l.getD k 0)).set k (i : Int)
theorem mixS_get {l : List Int} {i k : Nat} (hi : i < l.length) (hk : k ≤ i) (m : Nat) : (mixS l i k)[m]? = if m = k then some (i : Int) else if m = i then l[k]? else l[m]? := by
 unfold mixS
 have hkl : k < l.length := by omega
 rw [List.getElem?_set, List.length_set]
 by_cases h1 : k = m
 ·subst h1
  simp [hkl]
 ·rw [if_neg h1, if_neg (fun e => h1 e.symm), List.getElem?_set]
  by_cases h2 : i = m
  ·subst h2
   simp [hi, List.getD_eq_getElem?_getD, List.getElem?_eq_getElem hkl]
  ·rw [if_neg h2, if_neg (fun e => h2 e.symm)]
theorem MixP.step {l : List Int} {i k : Nat} (P : MixP l i) (hi : i < l.length) (hk : k ≤ i) : MixP (mixS l i k) (i + 1) := by
 have gk : k < i → ∃ v : Int, l[k]? = some v ∧ 0 ≤ v ∧ v < i := fun h => P.bd k h
 constructor
 ·intro m hm
  rw [mixS_get hi hk]
  by_cases h1 : m = k
  ·rw [if_pos h1]; exact ⟨i, rfl, by omega, by omega⟩
  ·rw [if_neg h1]
   by_cases h2 : m = i
   ·rw [if_pos h2]
    obtain ⟨v, e, a, b⟩ := gk (by omega)
    exact ⟨v, e, a, by omega⟩
   ·rw [if_neg h2]
    obtain ⟨v, e, a, b⟩ := P.bd m (by omega)
    exact ⟨v, e, a, by omega⟩
 ·have val : ∀ m, m < i + 1 → ∃ v : Int, (mixS l i k)[m]? = some v ∧ (m ≠ k → v < i) ∧ (m = k → v = i) := by
   intro m hm
   rw [mixS_get hi hk]
   by_cases h1 : m = k
   ·rw [if_pos h1]; exact ⟨i, rfl, fun h => absurd h1 h, fun _ => rfl⟩
   ·rw [if_neg h1]
    by_cases h2 : m = i
    ·rw [if_pos h2]
     obtain ⟨v, e, a, b⟩ := gk (by omega)
     exact ⟨v, e, fun _ => b, fun h => absurd h h1⟩
    ·rw [if_neg h2]
     obtain ⟨v, e, a, b⟩ := P.bd m (by omega)
     exact ⟨v, e, fun _ => b, fun h => absurd h h1⟩
  intro m m' hm hm' e
  obtain ⟨v, e1, a1, b1⟩ := val m hm
  obtain ⟨v', e2, a2, b2⟩ := val m' hm'
  have hv : v = v' := by rw [e1, e2] at e; simpa using e
  by_cases h1 : m = k
  ·by_cases h2 : m' = k
   ·omega
   ·have := a2 h2; have := b1 h1; omega
  ·by_cases h2 : m' = k
   ·have := a1 h1; have := b2 h2; omega
   ·rw [mixS_get hi hk, mixS_get hi hk, if_neg h1, if_neg h2] at e
    by_cases h3 : m = i
    ·by_cases h4 : m' = i
     ·omega
     ·rw [if_pos h3, if_neg h4] at e
      have := P.inj k m' (by omega) (by omega) e
      omega
    ·by_cases h4 : m' = i
     ·rw [if_neg h3, if_pos h4] at e
      have := P.inj m k (by omega) (by omega) e
      omega
     ·rw [if_neg h3, if_neg h4] at e
      exact P.inj m m' (by omega) (by omega) e
theorem MixP.order {l : List Int} {n : Nat} (P : MixP l n) (hl : l.length = n) : Order l n := by
 refine ⟨hl, fun x hx => ?_, P.inj⟩
 obtain ⟨i, hi⟩ := List.mem_iff_getElem?.1 hx
 have := (List.getElem?_eq_some_iff.1 hi).1
 obtain ⟨v, e, a, b⟩ := P.bd i (by omega)
 rw [hi] at e
 cases e
 exact ⟨a, b⟩
theorem wS {α : Type} {enc : α → List Value} {m : Nat} {l : List α} (hl : ∀ x ∈ l, (enc x).length = m) {h : AH} {b : Nat} {t : TypeId} (hb : h b = some (.cells (l.flatMap enc).toArray t (0, 0))) : Row h m enc (some ⟨b, 0, none⟩) l :=
 ⟨hl, fun _ => ⟨b, 0, rfl, cellsB hb⟩⟩
end Go.Wx
namespace Go.Rd
def headL (m : MachP) : List UInt8 := lineM [77] [m.rods, m.levers, m.regs, m.travel, m.opn]
def btnL (r : Int) : List UInt8 := lineM [66] [r]
def pinL (p : PinP) : List UInt8 := lineM [80] [p.rod, p.lever, p.lag]
def lnkL (l : LinkP) : List UInt8 := lineM [76] [l.frm, l.to, l.reg, l.lag]
def wgtL (w : Int) : List UInt8 := lineM [87] [w]
def wr1 (m : MachP) : List UInt8 := headL m ++ m.buttons.flatMap btnL
def wr2 (m : MachP) : List UInt8 := wr1 m ++ m.pins.flatMap pinL
def wr3 (m : MachP) : List UInt8 := wr2 m ++ m.links.flatMap lnkL
def wr4 (m : MachP) : List UInt8 := wr3 m ++ m.weights.flatMap wgtL
def writeM (m : MachP) : List UInt8 := wr4 m ++ [69, 10]
theorem lineM_len (w : List UInt8) (l : List Int) : (lineM w l).length ≤ w.length + 5 * l.length + 1 := by
 have := nums_len l
 unfold lineM
 simp only [List.length_append, List.length_cons, List.length_nil]
 omega
theorem flat_le {α : Type} (f : α → List UInt8) (q : Nat) (hq : ∀ x, (f x).length ≤ q) (l : List α) : (l.flatMap f).length ≤ q * l.length := by
 induction l with
 | nil => exact Nat.le_refl 0
 | cons n l ih =>
  have := hq n
  rw [List.flatMap_cons, List.length_append, List.length_cons, Nat.mul_succ]
  omega
theorem len1 {α : Type} (l : List α) (k : Nat) : (l.take k).length ≤ l.length := by rw [List.length_take]; omega
end Go.Rd
namespace Go.Proofs.YtmpahfdiebhdbaaDoor
open Go Go.HL Go.Proofs Go.Wx Go.Rd
section
variable [Lvl]
set_option maxRecDepth 100000
def writeV (m : MachP) : Value := .tuple #[.string (bs (if chkM m = 0 then writeM m else [])), .int .i64 (chkM m)]
set_option maxHeartbeats 4000000 in
theorem Write_ok (m : MachP) (AB AQ AL AW : Option Addr) (cB cQ cL cW : Nat) (h : AH) (PW : Pow h) (R : MachR h AB AQ AL AW m) (h0 : m.weights.length < 2 ^ 40) :
  FnT Tryd.prog 16 #[machV AB AQ AL AW cB cQ cL cW m] h (fun v _ => v = writeV m) := by
 refine wL Tryd.func16 rfl Tryd.ntmps16 rfl ?_
 refine qE ?_
 refine qC rfl ?_
 refine op_box (v := .agg #[.int .i64 _, .int .i64 _, .int .i64 _, .int .i64 _, .int .i64 _, .slice _ _ _, .slice _ _ _, .slice _ _ _, .slice _ _ _]) (cs := [_, _, _, _, _, _, _, _, _]) rfl rfl fun b1 hb1 => ?_
 refine qH [_] rfl ?_
 refine qA (qF (v := .string _) rfl) ?_
 refine qA (qF (v := .int .i64 _) rfl) ?_
 refine qE ?_
 refine qE ?_
 refine qC rfl ?_
 refine wH 0 (vs := [.int .i64 _, .int .i64 _, .int .i64 _, .int .i64 _, .int .i64 _, .slice _ _ _, .slice _ _ _, .slice _ _ _, .slice _ _ _]) rfl rfl rfl rfl rfl ?_
 refine qV (caps := []) (vs := [.agg #[.int .i64 _, .int .i64 _, .int .i64 _, .int .i64 _, .int .i64 _, .slice _ _ _, .slice _ _ _, .slice _ _ _, .slice _ _ _]]) rfl rfl rfl (Check_ok m AB AQ AL AW cB cQ cL cW h (R.ext (Ext.refl _)) h0) ?_
 rintro _ h1 E1 rfl
 refine qA (qF (v := .int .i64 _) rfl) ?_
 refine qE ?_
 refine qC rfl ?_
 refine qA (qD (v := .int .i64 _) rfl) ?_
 refine qA (qJ (v := .bool _) rfl) ?_
 refine wA rfl (fun hc => ?_) (fun hc => ?_)
 ·skip
  have hc' : chkM m ≠ 0 := by simpa using hc
  refine qE ?_
  refine qC rfl ?_
  refine qA (qD (v := .int .i64 _) rfl) ?_
  refine qA (qF (v := .string _) rfl) ?_
  refine qA (qF (v := .int .i64 _) rfl) ?_
  refine wD ?_
  refine qS (vs := [_, _]) Tryd.results16 ⟨qM rfl rfl, qM rfl rfl, trivial⟩ fun V => ?_
  exact ⟨(zL E1 (qZ V)), by rw [writeV, if_neg hc']; rfl⟩
 ·skip
  have hc' : chkM m = 0 := by simpa using hc
  have M := check_ok hc'
  have q1 := M.rods
  have q2 := M.levers
  have q3 := M.regs
  have q4 := M.travel
  have q5 := M.opn
  have q6 := M.bl
  have q7 := M.pl
  have q8 := M.ll
  have q9 := M.wl
  refine qP ?_
  refine qE ?_
  refine qC rfl ?_
  refine qA (qI rfl rfl rfl rfl 0 rfl) ?_
  refine qN 0 (v := .int .i64 _) rfl rfl rfl rfl ?_
  refine qA (qI rfl rfl rfl rfl 1 rfl) ?_
  refine qN 0 (v := .int .i64 _) rfl rfl rfl rfl ?_
  refine qA (qI rfl rfl rfl rfl 2 rfl) ?_
  refine qN 0 (v := .int .i64 _) rfl rfl rfl rfl ?_
  refine qA (qI rfl rfl rfl rfl 3 rfl) ?_
  refine qN 0 (v := .int .i64 _) rfl rfl rfl rfl ?_
  refine qA (qI rfl rfl rfl rfl 4 rfl) ?_
  refine qN 0 (v := .int .i64 _) rfl rfl rfl rfl ?_
  refine qK (zc := [_]) (vs := [(0, .int .i64 _), (1, .int .i64 _), (2, .int .i64 _), (3, .int .i64 _), (4, .int .i64 _)]) (cs := [_, _, _, _, _]) rfl rfl rfl rfl rfl rfl rfl fun b29 hb29 => ?_
  refine qH [_, _] rfl ?_
  refine wp_pub 1 rfl rfl ?_
  intro h2 E2 hb2
  refine qH [_, _] rfl ?_
  refine qV (caps := []) (vs := [.string _, .slice _ _ _]) rfl rfl rfl (line_ok [77] [m.rods, m.levers, m.regs, m.travel, m.opn] _ _ h2 (PW.ext (zL E1 E2)) (wS (enc := intC) (fun _ _ => rfl) hb2) (by intro n hn; simp only [List.mem_cons, List.not_mem_nil, or_false] at hn; exact .inr (by omega)) (by decide) (by show 5 < 100; decide)) ?_
  rintro _ h3 E3 rfl
  refine qA (qF (v := .string _) rfl) ?_
  refine qE ?_
  refine qE ?_
  refine qC rfl ?_
  refine qA (qI rfl rfl rfl rfl 5 rfl) ?_
  refine qN 0 (v := .slice _ _ _) rfl rfl rfl rfl ?_
  refine qA (wP rfl rfl) ?_
  refine qA (qD (v := .int .i64 _) rfl) ?_
  refine qT ?_
  have z0 := lineM_len [77] [m.rods, m.levers, m.regs, m.travel, m.opn]
  simp only [List.length_cons, List.length_nil] at z0
  refine xp_loopB [5, 7, 34, 35, 36, 37, 38, 39, 40, 41, 42, 43] 2 (α := Nat) (fun k => [(34, .int .i64 k), (5, .string (bs (headL m ++ (m.buttons.take k).flatMap btnL)))]) (fun k => _) (fun k h_k => k ≤ m.buttons.length) (fun k => m.buttons.length - k) (0) ⟨rfl, strE (by simp [headL]), trivial⟩ (rfl) (Nat.zero_le _) ?_
  rintro k T1 h_k E_k J_k
  refine wE [_, _] rfl ?_
  have z1 := flat_le btnL 7 (fun r => lineM_len [66] [r]) (m.buttons.take k)
  have z2 := len1 m.buttons k
  refine qE ?_
  refine qC rfl ?_
  refine qA (qJ (v := .bool _) rfl) ?_
  refine qE ?_
  refine wA rfl (fun hk => ?_) (fun hk => ?_)
  ·skip
   have hkl : k < m.buttons.length := ltI hk
   obtain ⟨g, off, hA, hc⟩ := (R.b.ext (zL (zL (zL E1 E2) E3) E_k)).at (by omega) hkl
   refine qP ?_
   refine qE ?_
   refine qT ?_
   refine qE ?_
   refine qC rfl ?_
   refine qA (wU rfl hA rfl rfl rfl (by omega) (by omega)) ?_
   refine wT (v := .int .i64 _) rfl rfl ((hc) 0 _ rfl) ?_
   refine qA (qF (v := .int .i64 _) rfl) ?_
   refine qC rfl ?_
   refine qA (qD (v := .string _) rfl) ?_
   refine qA (qD (v := .int .i64 _) rfl) ?_
   refine qK (zc := [_]) (vs := [(0, .int .i64 _)]) (cs := [_]) rfl rfl rfl rfl rfl rfl rfl fun b40 hb40 => ?_
   refine qH [_, _, _] rfl ?_
   refine wp_pub 2 rfl rfl ?_
   intro h4 E4 hb4
   refine qH [_, _, _] rfl ?_
   refine qV (caps := []) (vs := [.string _, .slice _ _ _]) rfl rfl rfl (line_ok [66] [m.buttons[k]] _ _ h4 (PW.ext (zL (zL (zL (zL E1 E2) E3) E_k) E4)) (wS (enc := intC) (fun _ _ => rfl) hb4) (by intro n hn; simp only [List.mem_cons, List.not_mem_nil, or_false] at hn; subst hn; have := M.btn _ (List.getElem_mem hkl); exact .inr (by omega)) (by decide) (by show 1 < 100; decide)) ?_
   rintro _ h5 E5 rfl
   have z3 := lineM_len [66] [m.buttons[k]]
   simp only [List.length_cons, List.length_nil] at z3
   refine qA (pv_cat rfl rfl (by rw [List.length_append]; unfold headL; omega)) ?_
   refine qA (qF (v := .string _) rfl) ?_
   refine qC rfl ?_
   refine qA (qX rfl (by omega)) ?_
   refine qA (qD (v := .int .i64 _) rfl) ?_
   refine ⟨k + 1, ⟨rfl, strE (by rw [flat_take btnL hkl, List.append_assoc]; rfl), trivial⟩, rfl, rfl, (zL (zL E_k E4) E5), fun h3 E3 => hkl, by first | omega | (dsimp only; omega), ?_⟩
   repeat (first | exact wK _ _ _ | refine wM (by decide) ?_ | refine wJ rfl ?_ | refine wN rfl ?_)
  ·skip
   have hke : k = m.buttons.length := by have := geI hk; omega
   subst hke
   rw [List.take_length] at z1
   refine zA ?_
   refine qE ?_
   refine qE ?_
   refine qC rfl ?_
   refine qA (qI rfl rfl rfl rfl 6 rfl) ?_
   refine qN 0 (v := .slice _ _ _) rfl rfl rfl rfl ?_
   refine qA (wP rfl rfl) ?_
   refine qA (qD (v := .int .i64 _) rfl) ?_
   refine qT ?_
   have y0 : (wr1 m).length < 1000 := by unfold wr1 headL; rw [List.length_append]; omega
   refine xp_loopB [5, 9, 47, 48, 49, 50, 51, 52, 53, 54, 55, 56, 57, 58, 59, 60, 61] 2 (α := Nat) (fun k2 => [(47, .int .i64 k2), (5, .string (bs (wr1 m ++ (m.pins.take k2).flatMap pinL)))]) (fun k2 => _) (fun k2 h_k2 => k2 ≤ m.pins.length) (fun k2 => m.pins.length - k2) (0) ⟨rfl, strE (by simp [wr1, List.take_length]), trivial⟩ (rfl) (Nat.zero_le _) ?_
   rintro k2 T2 h_k2 E_k2 J_k2
   refine wE [_, _] rfl ?_
   have x1 := flat_le pinL 17 (fun r => lineM_len [80] [r.rod, r.lever, r.lag]) (m.pins.take k2)
   have x2 := len1 m.pins k2
   refine qE ?_
   refine qC rfl ?_
   refine qA (qJ (v := .bool _) rfl) ?_
   refine qE ?_
   refine wA rfl (fun hk2 => ?_) (fun hk2 => ?_)
   ·skip
    have hkl : k2 < m.pins.length := ltI hk2
    obtain ⟨g, off, hA, hc⟩ := (R.q.ext (zL (zL (zL (zL E1 E2) E3) E_k) E_k2)).at (by omega) hkl
    refine qP ?_
    refine qE ?_
    refine qT ?_
    refine qE ?_
    refine qC rfl ?_
    refine qA (wU rfl hA rfl rfl rfl (by omega) (by omega)) ?_
    refine op_loadA rfl rfl rfl rfl (hc) ?_
    refine wW (cs := [_, _, _]) rfl rfl fun b9 hb9 => ?_
    refine qH [_, _, _] rfl ?_
    refine wG 2 (v := .agg #[.int .i64 _, .int .i64 _, .int .i64 _]) (vs := [_, _, _]) (c' := [_, _, _]) rfl rfl rfl rfl rfl rfl rfl rfl rfl ?_
    refine qH [_, _, _] rfl ?_
    refine qC rfl ?_
    refine qA (qD (v := .string _) rfl) ?_
    refine qA (qI rfl rfl rfl rfl 0 rfl) ?_
    refine qN 2 (v := .int .i64 _) rfl rfl rfl rfl ?_
    refine qA (qI rfl rfl rfl rfl 1 rfl) ?_
    refine qN 2 (v := .int .i64 _) rfl rfl rfl rfl ?_
    refine qA (qI rfl rfl rfl rfl 2 rfl) ?_
    refine qN 2 (v := .int .i64 _) rfl rfl rfl rfl ?_
    refine qK (zc := [_]) (vs := [(0, .int .i64 _), (1, .int .i64 _), (2, .int .i64 _)]) (cs := [_, _, _]) rfl rfl rfl rfl rfl rfl rfl fun b58 hb58 => ?_
    refine qH [_, _, _, _] rfl ?_
    refine wp_pub 3 rfl rfl ?_
    intro h4 E4 hb4
    refine qH [_, _, _, _] rfl ?_
    refine qV (caps := []) (vs := [.string _, .slice _ _ _]) rfl rfl rfl (line_ok [80] [m.pins[k2].rod, m.pins[k2].lever, m.pins[k2].lag] _ _ h4 (PW.ext (zL (zL (zL (zL (zL E1 E2) E3) E_k) E_k2) E4)) (wS (enc := intC) (fun _ _ => rfl) hb4) (by intro n hn; simp only [List.mem_cons, List.not_mem_nil, or_false] at hn; have := M.pin _ (List.getElem_mem hkl); exact .inr (by omega)) (by decide) (by show 3 < 100; decide)) ?_
    rintro _ h5 E5 rfl
    have x3 := lineM_len [80] [m.pins[k2].rod, m.pins[k2].lever, m.pins[k2].lag]
    simp only [List.length_cons, List.length_nil] at x3
    refine qA (pv_cat rfl rfl (by rw [List.length_append]; omega)) ?_
    refine qA (qF (v := .string _) rfl) ?_
    refine qC rfl ?_
    refine qA (qX rfl (by omega)) ?_
    refine qA (qD (v := .int .i64 _) rfl) ?_
    refine ⟨k2 + 1, ⟨rfl, strE (by rw [flat_take pinL hkl, List.append_assoc]; rfl), trivial⟩, rfl, rfl, (zL (zL E_k2 E4) E5), fun h3 E3 => hkl, by first | omega | (dsimp only; omega), ?_⟩
    repeat (first | exact wK _ _ _ | refine wM (by decide) ?_ | refine wJ rfl ?_ | refine wN rfl ?_)
   ·skip
    have hke : k2 = m.pins.length := by have := geI hk2; omega
    subst hke
    rw [List.take_length] at x1
    refine zA ?_
    refine qE ?_
    refine qE ?_
    refine qC rfl ?_
    refine qA (qI rfl rfl rfl rfl 7 rfl) ?_
    refine qN 0 (v := .slice _ _ _) rfl rfl rfl rfl ?_
    refine qA (wP rfl rfl) ?_
    refine qA (qD (v := .int .i64 _) rfl) ?_
    refine qT ?_
    have y1 : (wr2 m).length < 2000 := by unfold wr2; rw [List.length_append]; omega
    refine xp_loopB [5, 11, 65, 66, 67, 68, 69, 70, 71, 72, 73, 74, 75, 76, 77, 78, 79, 80, 81] 2 (α := Nat) (fun k3 => [(65, .int .i64 k3), (5, .string (bs (wr2 m ++ (m.links.take k3).flatMap lnkL)))]) (fun k3 => _) (fun k3 h_k3 => k3 ≤ m.links.length) (fun k3 => m.links.length - k3) (0) ⟨rfl, strE (by simp [wr2, List.take_length]), trivial⟩ (rfl) (Nat.zero_le _) ?_
    rintro k3 T3 h_k3 E_k3 J_k3
    refine wE [_, _] rfl ?_
    have w1 := flat_le lnkL 22 (fun r => lineM_len [76] [r.frm, r.to, r.reg, r.lag]) (m.links.take k3)
    have w2 := len1 m.links k3
    refine qE ?_
    refine qC rfl ?_
    refine qA (qJ (v := .bool _) rfl) ?_
    refine qE ?_
    refine wA rfl (fun hk3 => ?_) (fun hk3 => ?_)
    ·skip
     have hkl : k3 < m.links.length := ltI hk3
     obtain ⟨g, off, hA, hc⟩ := (R.l.ext (zL (zL (zL (zL (zL E1 E2) E3) E_k) E_k2) E_k3)).at (by omega) hkl
     refine qP ?_
     refine qE ?_
     refine qT ?_
     refine qE ?_
     refine qC rfl ?_
     refine qA (wU rfl hA rfl rfl rfl (by omega) (by omega)) ?_
     refine op_loadA rfl rfl rfl rfl (hc) ?_
     refine wW (cs := [_, _, _, _]) rfl rfl fun b11 hb11 => ?_
     refine qH [_, _, _] rfl ?_
     refine wG 2 (v := .agg #[.int .i64 _, .int .i64 _, .int .i64 _, .int .i64 _]) (vs := [_, _, _, _]) (c' := [_, _, _, _]) rfl rfl rfl rfl rfl rfl rfl rfl rfl ?_
     refine qH [_, _, _] rfl ?_
     refine qC rfl ?_
     refine qA (qD (v := .string _) rfl) ?_
     refine qA (qI rfl rfl rfl rfl 0 rfl) ?_
     refine qN 2 (v := .int .i64 _) rfl rfl rfl rfl ?_
     refine qA (qI rfl rfl rfl rfl 1 rfl) ?_
     refine qN 2 (v := .int .i64 _) rfl rfl rfl rfl ?_
     refine qA (qI rfl rfl rfl rfl 2 rfl) ?_
     refine qN 2 (v := .int .i64 _) rfl rfl rfl rfl ?_
     refine qA (qI rfl rfl rfl rfl 3 rfl) ?_
     refine qN 2 (v := .int .i64 _) rfl rfl rfl rfl ?_
     refine qK (zc := [_]) (vs := [(0, .int .i64 _), (1, .int .i64 _), (2, .int .i64 _), (3, .int .i64 _)]) (cs := [_, _, _, _]) rfl rfl rfl rfl rfl rfl rfl fun b78 hb78 => ?_
     refine qH [_, _, _, _] rfl ?_
     refine wp_pub 3 rfl rfl ?_
     intro h4 E4 hb4
     refine qH [_, _, _, _] rfl ?_
     refine qV (caps := []) (vs := [.string _, .slice _ _ _]) rfl rfl rfl (line_ok [76] [m.links[k3].frm, m.links[k3].to, m.links[k3].reg, m.links[k3].lag] _ _ h4 (PW.ext (zL (zL (zL (zL (zL (zL E1 E2) E3) E_k) E_k2) E_k3) E4)) (wS (enc := intC) (fun _ _ => rfl) hb4) (by intro n hn; simp only [List.mem_cons, List.not_mem_nil, or_false] at hn; have := M.link _ (List.getElem_mem hkl); unfold ItoD; omega) (by decide) (by show 4 < 100; decide)) ?_
     rintro _ h5 E5 rfl
     have w3 := lineM_len [76] [m.links[k3].frm, m.links[k3].to, m.links[k3].reg, m.links[k3].lag]
     simp only [List.length_cons, List.length_nil] at w3
     refine qA (pv_cat rfl rfl (by rw [List.length_append]; omega)) ?_
     refine qA (qF (v := .string _) rfl) ?_
     refine qC rfl ?_
     refine qA (qX rfl (by omega)) ?_
     refine qA (qD (v := .int .i64 _) rfl) ?_
     refine ⟨k3 + 1, ⟨rfl, strE (by rw [flat_take lnkL hkl, List.append_assoc]; rfl), trivial⟩, rfl, rfl, (zL (zL E_k3 E4) E5), fun h3 E3 => hkl, by first | omega | (dsimp only; omega), ?_⟩
     repeat (first | exact wK _ _ _ | refine wM (by decide) ?_ | refine wJ rfl ?_ | refine wN rfl ?_)
    ·skip
     have hke : k3 = m.links.length := by have := geI hk3; omega
     subst hke
     rw [List.take_length] at w1
     refine zA ?_
     refine qE ?_
     refine qE ?_
     refine qC rfl ?_
     refine qA (qI rfl rfl rfl rfl 8 rfl) ?_
     refine qN 0 (v := .slice _ _ _) rfl rfl rfl rfl ?_
     refine qA (wP rfl rfl) ?_
     refine qA (qD (v := .int .i64 _) rfl) ?_
     refine qT ?_
     have y2 : (wr3 m).length < 3000 := by unfold wr3; rw [List.length_append]; omega
     refine xp_loopB [5, 13, 85, 86, 87, 88, 89, 90, 91, 92, 93, 94] 2 (α := Nat) (fun k4 => [(85, .int .i64 k4), (5, .string (bs (wr3 m ++ (m.weights.take k4).flatMap wgtL)))]) (fun k4 => _) (fun k4 h_k4 => k4 ≤ m.weights.length) (fun k4 => m.weights.length - k4) (0) ⟨rfl, strE (by simp [wr3, List.take_length]), trivial⟩ (rfl) (Nat.zero_le _) ?_
     rintro k4 T4 h_k4 E_k4 J_k4
     refine wE [_, _] rfl ?_
     have v1 := flat_le wgtL 7 (fun r => lineM_len [87] [r]) (m.weights.take k4)
     have v2 := len1 m.weights k4
     refine qE ?_
     refine qC rfl ?_
     refine qA (qJ (v := .bool _) rfl) ?_
     refine qE ?_
     refine wA rfl (fun hk4 => ?_) (fun hk4 => ?_)
     ·skip
      have hkl : k4 < m.weights.length := ltI hk4
      obtain ⟨g, off, hA, hc⟩ := (R.w.ext (zL (zL (zL (zL (zL (zL E1 E2) E3) E_k) E_k2) E_k3) E_k4)).at (by omega) hkl
      refine qP ?_
      refine qE ?_
      refine qT ?_
      refine qE ?_
      refine qC rfl ?_
      refine qA (wU rfl hA rfl rfl rfl (by omega) (by omega)) ?_
      refine wT (v := .int .i64 _) rfl rfl ((hc) 0 _ rfl) ?_
      refine qA (qF (v := .int .i64 _) rfl) ?_
      refine qC rfl ?_
      refine qA (qD (v := .string _) rfl) ?_
      refine qA (qD (v := .int .i64 _) rfl) ?_
      refine qK (zc := [_]) (vs := [(0, .int .i64 _)]) (cs := [_]) rfl rfl rfl rfl rfl rfl rfl fun b91 hb91 => ?_
      refine qH [_, _, _] rfl ?_
      refine wp_pub 2 rfl rfl ?_
      intro h4 E4 hb4
      refine qH [_, _, _] rfl ?_
      refine qV (caps := []) (vs := [.string _, .slice _ _ _]) rfl rfl rfl (line_ok [87] [m.weights[k4]] _ _ h4 (PW.ext (zL (zL (zL (zL (zL (zL (zL E1 E2) E3) E_k) E_k2) E_k3) E_k4) E4)) (wS (enc := intC) (fun _ _ => rfl) hb4) (by intro n hn; simp only [List.mem_cons, List.not_mem_nil, or_false] at hn; subst hn; have := M.wt _ (List.getElem_mem hkl); exact .inr (by omega)) (by decide) (by show 1 < 100; decide)) ?_
      rintro _ h5 E5 rfl
      have v3 := lineM_len [87] [m.weights[k4]]
      simp only [List.length_cons, List.length_nil] at v3
      refine qA (pv_cat rfl rfl (by rw [List.length_append]; omega)) ?_
      refine qA (qF (v := .string _) rfl) ?_
      refine qC rfl ?_
      refine qA (qX rfl (by omega)) ?_
      refine qA (qD (v := .int .i64 _) rfl) ?_
      refine ⟨k4 + 1, ⟨rfl, strE (by rw [flat_take wgtL hkl, List.append_assoc]; rfl), trivial⟩, rfl, rfl, (zL (zL E_k4 E4) E5), fun h3 E3 => hkl, by first | omega | (dsimp only; omega), ?_⟩
      repeat (first | exact wK _ _ _ | refine wM (by decide) ?_ | refine wJ rfl ?_ | refine wN rfl ?_)
     ·skip
      have hke : k4 = m.weights.length := by have := geI hk4; omega
      subst hke
      rw [List.take_length] at v1
      refine zA ?_
      refine qE ?_
      refine qC rfl ?_
      refine qA (qD (v := .string _) rfl) ?_
      refine qA (pv_cat (b := [69, 10]) rfl rfl (by rw [List.take_length, List.length_append]; show _ + 2 < _; omega)) ?_
      refine qA (qF (v := .string _) rfl) ?_
      refine qA (qF (v := .int .i64 _) rfl) ?_
      refine wD ?_
      refine qS (vs := [_, _]) Tryd.results16 ⟨qM rfl rfl, qM rfl rfl, trivial⟩ fun V => ?_
      exact ⟨(zL (zL (zL (zL (zL (zL (zL E1 E2) E3) E_k) E_k2) E_k3) E_k4) (qZ V)), by rw [writeV, if_pos hc', hc']; exact congrArg (fun z => Value.tuple #[.string (bs z), .int .i64 0]) (show (wr3 m ++ (m.weights.take m.weights.length).flatMap wgtL) ++ [69, 10] = writeM m by rw [List.take_length]; rfl)⟩
end
end Go.Proofs.YtmpahfdiebhdbaaDoor
namespace Go.HL
open Go
variable [Lvl]
section
variable {P : Program} {n : Nat} {ops : Array Oper} {ro : Option Nat} {K : Post} {S : Sl} {D : Df} {L : Pv} {h : AH} {X : Sl → AH → Prop} {dn ac : List Nat}
theorem WG_dead {G G' : Gh} : ∀ (m : Nat) (dn ac : List Nat) (S : Sl) (H : AH), (∀ g ∈ G, g ∈ G' ∨ ¬ alive ops ac g.1) → WG P n ops m dn ac G' X S H → WG P n ops m dn ac G X S H
 | 0, _, _, _, _, _, w => w
 | m + 1, dn, ac, S, H, hd, w => fun j oj hoj hrj => by
  have hd' : ∀ g ∈ G, g ∈ G' ∨ ¬ alive ops (j :: ac) g.1 := fun g hg => (hd g hg).imp id fun na a => na (alive_less (fun k hk => by simp [zH, hk]) a)
  refine T1_mono (fun S2 H2 y => ⟨fun g hg a => ?_, WG_dead m _ _ _ _ hd' y.2⟩) (w j oj hoj hrj)
  exact y.1 g ((hd' g hg).resolve_right (fun na => na a)) a
abbrev Pins := List (Nat × Addr × Value)
def PinG (C : Pins) (dn : List Nat) (g : Nat × (AH → Prop)) : Prop :=
 el g.1 dn = true ∧ (∀ H1 H2, Ext H1 H2 → g.2 H1 → g.2 H2) ∧ ((∀ H, g.2 H) ∨ ∃ c ∈ C, c.1 = g.1 ∧ ∀ H, cellA H c.2.1 = some c.2.2 → g.2 H)
def PinH (C : Pins) (H : AH) : Prop := ∀ c ∈ C, cellA H c.2.1 = some c.2.2
theorem PinG.now {C : Pins} {g : Nat × (AH → Prop)} {H : AH} (p : PinG C dn g) (q : PinH C H) : g.2 H := by
 rcases p.2.2 with a | ⟨c, hc, _, a⟩
 ·exact a H
 ·exact a H (q c hc)
def Dw2 (P : Program) (n : Nat) (ops : Array Oper) (C : Pins) (X : Sl → AH → Prop) (dn ac : List Nat) (S : Sl) (L : Pv) (h : AH) : Prop :=
 Valid h L → PinH C (wl h L) → ∀ G : Gh, (∀ g ∈ G, PinG C dn g) → WG P n ops (left ops dn).length dn ac G X S (wl h L)
theorem dw2_stab {C : Pins} {i : Nat} {oi : Oper} (hoi : ops[i]? = some oi) (hok : okS ops dn ac i = true) {v : Value} {Φ : AH → Prop} {C' : Pins}
  (hmo : ∀ H1 H2, Ext H1 H2 → Φ H1 → Φ H2) (hsub : ∀ c ∈ C, c ∈ C') (hC : Valid h L → PinH C (wl h L) → PinH C' (wl h L)) (hΦ : (∀ H, Φ H) ∨ ∃ c ∈ C', c.1 = i ∧ ∀ H, cellA H c.2.1 = some c.2.2 → Φ H)
  (hst : ∀ S2, (∀ t ∈ reads ops oi, S2 t = S t) → ∀ H2, Φ H2 → ∀ Z : Sl → AH → Prop, Z (put S2 oi.dst v) H2 → T1 P n ops oi Z S2 H2)
  (k : Dw2 P n ops C' X (i :: dn) ac (put S oi.dst v) L h) : Dw2 P n ops C X dn ac S L h := by
 intro V hp G hG
 have hp' := hC V hp
 have hg0 : PinG C' (i :: dn) (i, Φ) := ⟨by simp [zH], hmo, hΦ⟩
 unfold okS at hok
 rw [hoi] at hok
 simp only [Bool.and_eq_true] at hok
 obtain ⟨⟨⟨hr, hbl⟩, hac⟩, hap⟩ := hok
 obtain ⟨m, hm⟩ := left_pos hr
 obtain ⟨hi, hdi⟩ := ready_lt hr
 rw [hm]
 refine take_stab hoi (Φ := Φ) m dn ac G S (wl h L) hm hr ?_ ?_ ?_ hst (hg0.now hp') ?_ ?_
 ·intro x hx
  have := List.all_eq_true.1 hbl x ((el_mem _ _).1 hx)
  simpa using this
 ·intro x hx
  exact List.all_eq_true.1 hac x ((el_mem _ _).1 hx)
 ·intro g hg _
  exact (hG g hg).now hp
 ·intro j oj hoj hji hdj hbj
  have hjl : j < ops.size := (Array.getElem?_eq_some_iff.1 hoj).1
  have := List.all_eq_true.1 hap j (by simpa using hjl)
  rw [hoj, hdj, hbj] at this
  simp only [Bool.or_false, Bool.or_eq_true, beq_iff_eq] at this
  exact this.resolve_left hji
 ·have := k V hp' ((i, Φ) :: G) ?_
  ·rw [left_cons hi hdi hm] at this
   exact this
  ·intro g hg
   rcases List.mem_cons.1 hg with rfl | hg
   ·exact hg0
   ·obtain ⟨h1, h2, h3⟩ := hG g hg
    exact ⟨by simp [zH, h1], h2, h3.imp id (fun ⟨c, hc, e⟩ => ⟨c, hsub c hc, e⟩)⟩
section rules
variable {C : Pins} {i : Nat} {d : Option Tmp} {op : Op} {ty : TypeId} {ps : String} {af : Array Edge}
theorem dw2_pure {v : Value} (hoi : ops[i]? = some ⟨d, op, ty, ps, af, none⟩) (hok : okS ops dn ac i = true) (hv : pev P (execOp (ev n S) ⟨d, op, ty, ps, af, none⟩) = some (.value v))
  (k : Dw2 P n ops C X (i :: dn) ac (put S d v) L h) : Dw2 P n ops C X dn ac S L h := by
 refine dw2_stab hoi hok (v := v) (Φ := fun _ => True) (C' := C) (fun _ _ _ _ => trivial) (fun _ hc => hc) (fun _ e => e) (.inl fun _ => trivial) ?_ k
 intro S2 ha H2 _ Z hz
 have he : execOp (ev n S2) ⟨d, op, ty, ps, af, none⟩ = execOp (ev n S) ⟨d, op, ty, ps, af, none⟩ := exec_agree (ev_agree fun t ht => ha t (List.mem_append_left _ ht))
 show opW P n _ S2 H2 _ noE
 unfold opW
 rw [he]
 exact dem_pev hv hz
theorem dw2_load {t : TypeId} {x : Operand} {a : Addr} {v : Value} (hoi : ops[i]? = some ⟨d, .load t x, ty, ps, af, none⟩) (hok : okS ops dn ac i = true)
  (hx : ev n S x = .pointer (some a)) (hag : pev P (isAgg t) = some false) (hv : Valid h L → cellA (wl h L) a = some v)
  (k : Dw2 P n ops ((i, a, v) :: C) X (i :: dn) ac (put S d v) L h) : Dw2 P n ops C X dn ac S L h := by
 refine dw2_stab hoi hok (v := v) (Φ := fun H => cellA H a = some v) (C' := (i, a, v) :: C) (fun _ _ e y => e.cell y) (fun _ hc => List.mem_cons_of_mem _ hc) (fun V e c hc => ?_) (.inr ⟨(i, a, v), List.mem_cons_self .., rfl, fun _ y => y⟩) ?_ k
 ·rcases List.mem_cons.1 hc with rfl | hc
  ·exact hv V
  ·exact e c hc
 ·intro S2 ha H2 hc Z hz
  show opW P n _ S2 H2 _ noE
  have he : ev n S2 x = .pointer (some a) := (ev_agree (xs := [x]) (fun t ht => ha t (List.mem_append_left _ ht)) x (List.mem_cons_self ..)).trans hx
  unfold opW
  simp only [execOp, he, Instr.loadAt, Instr.sureAddr]
  refine wB (qU (a := a) rfl (qU hag ?_))
  exact ⟨v, hc, hz⟩
theorem dw2_eff (hoi : ops[i]? = some ⟨d, op, ty, ps, af, none⟩) (hok : okE ops dn i = true) {C' : Pins} (hsub : ∀ c ∈ C', c ∈ C) (hdead : ∀ c ∈ C, c ∈ C' ∨ el i (blk ops c.1) = true)
  (w : wpL P n ops [⟨d, op, ty, ps, af, none⟩] (fun S' L' h' => (Valid h' L' → PinH C' (wl h' L')) ∧ Dw2 P n ops C' X (i :: dn) (i :: ac) S' L' h') (fun _ _ _ _ => False) S L h) : Dw2 P n ops C X dn ac S L h := by
 classical
 intro V hp G hG
 unfold okE at hok
 rw [hoi] at hok
 simp only [Bool.and_eq_true] at hok
 obtain ⟨⟨hr, hbl⟩, hap⟩ := hok
 obtain ⟨m, hm⟩ := left_pos hr
 obtain ⟨hi, hdi⟩ := ready_lt hr
 rw [hm]
 refine take_any hoi m dn ac G S (wl h L) (fin_wl V) hm hr ?_ ?_ (fun g hg => (hG g hg).2.1) ?_ ?_
 ·intro x hx
  have := List.all_eq_true.1 hbl x ((el_mem _ _).1 hx)
  simpa using this
 ·intro g hg _
  exact (hG g hg).now hp
 ·intro j oj hoj hji hdj hbj
  have hjl : j < ops.size := (Array.getElem?_eq_some_iff.1 hoj).1
  have := List.all_eq_true.1 hap j (by simpa using hjl)
  rw [hoj, hdj, hbj] at this
  simp only [Bool.or_false, Bool.or_eq_true, beq_iff_eq, Bool.and_eq_true, Option.isNone_iff_eq_none] at this
  obtain ⟨⟨h1, h2⟩, h3⟩ := this.resolve_left hji
  exact ⟨h1, h2, h3⟩
 ·show opW P n _ S (wl h L) _ noE
  refine opW_mono ?_ ?_ (w V)
  ·rintro v H ⟨L', h', rfl, V', hE, hD⟩
   have hp' := hE V'
   let G' : Gh := G.filter fun g => decide (PinG C' (i :: dn) g)
   have hG' : ∀ g ∈ G', PinG C' (i :: dn) g := fun g hg => by
    have := (List.mem_filter.1 hg).2
    simpa using this
   have hin : ∀ g ∈ G, g ∈ G' ∨ ¬ alive ops (i :: ac) g.1 := by
    intro g hg
    by_cases hq : PinG C' (i :: dn) g
    ·exact .inl (List.mem_filter.2 ⟨hg, by simpa using hq⟩)
    ·right
     intro a
     obtain ⟨h1, h2, h3⟩ := hG g hg
     rcases h3 with h3 | ⟨c, hc, hcg, h3⟩
     ·exact hq ⟨by simp [zH, h1], h2, .inl h3⟩
     ·rcases hdead c hc with hc' | hdd
      ·exact hq ⟨by simp [zH, h1], h2, .inr ⟨c, hc', hcg, h3⟩⟩
      ·rw [hcg] at hdd
       have := a i hdd
       simp [zH] at this
   refine ⟨fun g hg a => (hG' g ((hin g hg).resolve_right (fun na => na a))).now hp', ?_⟩
   have := hD V' hp' G' hG'
   rw [left_cons hi hdi hm] at this
   exact WG_dead _ _ _ _ _ hin this
  ·rintro v H ⟨L', h', rfl, V', y⟩; exact y
end rules
theorem cell_priv (V : Valid h L) {j b off : Nat} {c : List Value} {e : TypeId} {f : Nat × Nat} {v : Value} (hi : L[j]? = some (some (b, .cells c.toArray e f))) (hv : c[off]? = some v) : cellA (wl h L) ⟨b, off, none⟩ = some v := by
 simp [cellA, zC V hi, hv]
theorem xp_dw2 {id : Nat} {l : List Oper} (hmx : P.follows .mixedOrders = true) (hc : calmB l = true) (hb : backB l.toArray = true)
  (w : Dw2 P n l.toArray [] (fun S' H' => ∃ L' h', H' = wl h' L' ∧ Valid h' L' ∧ K .normal S' D L' h') [] [] S L h) : xp P n ro (.region id l.toArray true) K S D L h := by
 refine xp_draw hmx hc hb fun V => ?_
 have := WG_WA _ _ _ _ _ (w V (fun c hc => by cases hc) [] (fun g hg => by cases hg))
 have hlen : (left l.toArray []).length = l.length := by
  have : left l.toArray [] = List.range l.length := by unfold left; rw [List.size_toArray]; exact List.filter_eq_self.2 (fun _ _ => rfl)
  rw [this, List.length_range]
 rw [hlen] at this
 exact this
theorem dw2_end {C : Pins} (hl : (left ops dn).length = 0) (k : K .normal S D L h) : Dw2 P n ops C (fun S' H' => ∃ L' h', H' = wl h' L' ∧ Valid h' L' ∧ K .normal S' D L' h') dn ac S L h := by
 intro V _ G _
 rw [hl]
 exact ⟨L, h, rfl, V, k⟩
end
end Go.HL
namespace Go.Proofs.YtmpahfdiebhdbaaDoor
open Go Go.HL Go.Proofs Go.Wx Go.Rd
section
variable [Lvl]
set_option maxRecDepth 100000
def faultV : FaultP → Value
 | .shut i => .iface 120 (.int .i64 i)
 | .opn i => .iface 121 (.int .i64 i)
 | .pin i => .iface 112 (.int .i64 i)
 | .link i => .iface 122 (.int .i64 i)
def faultC (f : FaultP) : List Value := [faultV f]
theorem faultP (f : FaultP) : (faultC f).all plainB = true := by cases f <;> rfl
def fsN (c : Nat → FaultP) (k : Nat) : List FaultP := (List.range k).map c
theorem fsN_succ (c : Nat → FaultP) (k : Nat) : fsN c (k + 1) = fsN c k ++ [c k] := by simp [fsN, List.range_succ]
theorem fsN_len (c : Nat → FaultP) (k : Nat) : (fsN c k).length = k := by simp [fsN]
def fs1 (m : MachP) : List FaultP := fsN .shut m.levers.toNat
def fs2 (m : MachP) : List FaultP := fs1 m ++ fsN .opn m.levers.toNat
def fs3 (m : MachP) : List FaultP := fs2 m ++ fsN .pin m.pins.length
def faultsM (m : MachP) : List FaultP := fs3 m ++ fsN .link m.links.length
theorem faults_len (m : MachP) : (faultsM m).length = 2 * m.levers.toNat + m.pins.length + m.links.length := by
 simp [faultsM, fs3, fs2, fs1, fsN_len]; omega
theorem fa_step {l : List FaultP} {c : Nat → FaultP} {k : Nat} {a : Acc} (h : AccR 114 1 ((l ++ fsN c k).flatMap faultC ++ [faultV (c k)]) a) : AccR 114 1 ((l ++ fsN c (k + 1)).flatMap faultC) a := by
 rw [fsN_succ, ← List.append_assoc, List.flatMap_append]
 exact h
theorem fa_len {l : List FaultP} {c : Nat → FaultP} {k : Nat} : ((l ++ fsN c k).flatMap faultC).length = l.length + k := by
 rw [zE (m := 1) (fun _ _ => rfl), List.length_append, fsN_len, Nat.mul_one]
theorem faults_okC (m : MachP) (h1 : 0 ≤ m.levers ∧ m.levers ≤ 2 ^ 20) (h2 : m.pins.length ≤ 2 ^ 20) (h3 : m.links.length ≤ 2 ^ 20) (AB AQ AL AW : Option Addr) (cB cQ cL cW : Nat) (h : AH) :
  FnT Tryd.prog 45 #[machV AB AQ AL AW cB cQ cL cW m] h (fun v h' => SlR h' 1 faultC (faultsM m) v ∧ CapOK v) := by
 have hle : m.levers = ((m.levers.toNat : Nat) : Int) := by omega
 generalize hn : m.levers.toNat = n at *
 refine wL Tryd.func45 rfl Tryd.ntmps45 rfl ?_
 refine qE ?_
 refine qC rfl ?_
 refine op_box (v := .agg #[.int .i64 _, .int .i64 _, .int .i64 _, .int .i64 _, .int .i64 _, .slice _ _ _, .slice _ _ _, .slice _ _ _, .slice _ _ _]) (cs := [_, _, _, _, _, _, _, _, _]) rfl rfl fun b1 hb1 => ?_
 refine qH [_] rfl ?_
 refine qA (qF (v := .slice _ _ _) rfl) ?_
 refine qE ?_
 refine qC rfl ?_
 refine qA (qF (v := .slice _ _ _) rfl) ?_
 refine qE ?_
 refine qE ?_
 refine qC rfl ?_
 refine qA (qI rfl rfl rfl rfl 1 rfl) ?_
 refine qN 0 (v := .int .i64 _) rfl rfl rfl rfl ?_
 refine qA (qD (v := .int .i64 _) rfl) ?_
 refine qT ?_
 refine goes_more ?_
 refine wE [_, _] rfl ?_
 rw [hle]
 refine xp_loopL [3, 4, 10, 11, 12, 13, 14, 15, 16, 17, 18] 2 (α := Nat × Acc) (fun ⟨k, a⟩ => [(3, .slice a.A a.n a.c), (10, .int .i64 k)]) (fun ⟨k, a⟩ L => L.set 1 (a.p)) (fun ⟨k, a⟩ h_k => k ≤ n ∧ AccR 114 1 (([] ++ fsN .shut k).flatMap faultC) a) (fun ⟨k, a⟩ => n - k) ((0, acc0)) ⟨rfl, rfl, trivial⟩ (rfl) (⟨Nat.zero_le _, accR0⟩) ?_
 rintro ⟨k, a⟩ T1 h_k E_k J_k
 refine wE [_, _] rfl ?_
 obtain ⟨K1, K2⟩ := J_k
 refine qE ?_
 refine qC rfl ?_
 refine qA (qJ (v := .bool _) rfl) ?_
 refine qE ?_
 refine wA rfl (fun hk => ?_) (fun hk => ?_)
 ·skip
  have hkl : k < n := ltI hk
  refine qP ?_
  refine qE ?_
  refine qT ?_
  refine qE ?_
  refine qC rfl ?_
  refine qA (qD (v := .int .i64 _) rfl) ?_
  refine qA (qF (v := .int .i64 _) rfl) ?_
  refine qC rfl ?_
  refine qA (qD (v := .slice _ _ _) rfl) ?_
  refine qA (qD (v := .int .i64 _) rfl) ?_
  refine qA (qJ (v := _) rfl) ?_
  refine qK (zc := [_]) (vs := [(0, _)]) (cs := [_]) rfl rfl rfl rfl rfl rfl rfl fun b16 hb16 => ?_
  refine qH [_, _, _] rfl ?_
  refine zF 1 K2 rfl rfl rfl (fun V => rdP V (i := 2) rfl) rfl rfl rfl rfl rfl rfl rfl rfl rfl (by omega) rfl (by rw [fa_len]; simp; omega) fun a2 h2a E2a ha2 => ?_
  refine qH [_, _, _] rfl ?_
  refine qA (qF (v := .slice _ _ _) rfl) ?_
  refine qC rfl ?_
  refine qA (qX rfl (by omega)) ?_
  refine qA (qD (v := .int .i64 _) rfl) ?_
  refine ⟨(k + 1, a2), ⟨rfl, rfl, trivial⟩, rfl, rfl, (zL E_k E2a), fun h3 E3 => ⟨hkl, fa_step ha2⟩, by first | omega | (dsimp only; omega), ?_⟩
  repeat (first | exact wK _ _ _ | refine wM (by decide) ?_ | refine wJ rfl ?_ | refine wN rfl ?_)
 ·skip
  have hke : k = n := by have := geI hk; omega
  have K3 : AccR 114 1 ((fs1 m).flatMap faultC) a := by rw [fs1, hn, ← hke]; exact K2
  have n1 : (fs1 m).length = n := by rw [fs1, fsN_len, hn]
  refine zA ?_
  refine qE ?_
  refine qE ?_
  refine qC rfl ?_
  refine qA (qI rfl rfl rfl rfl 1 rfl) ?_
  refine qN 0 (v := .int .i64 _) rfl rfl rfl rfl ?_
  refine qA (qD (v := .int .i64 _) rfl) ?_
  refine qT ?_
  refine xp_loopL [3, 5, 21, 22, 23, 24, 25, 26, 27, 28, 29] 2 (α := Nat × Acc) (fun ⟨j, a⟩ => [(3, .slice a.A a.n a.c), (21, .int .i64 j)]) (fun ⟨j, a⟩ L => L.set 1 (a.p)) (fun ⟨j, a⟩ h_j => j ≤ n ∧ AccR 114 1 ((fs1 m ++ fsN .opn j).flatMap faultC) a) (fun ⟨j, a⟩ => n - j) ((0, a)) ⟨rfl, rfl, trivial⟩ (rfl) (⟨Nat.zero_le _, by simpa [fsN] using K3⟩) ?_
  rintro ⟨j, a⟩ T3 h_j E_j J_j
  refine wE [_, _] rfl ?_
  obtain ⟨K4, K5⟩ := J_j
  refine qE ?_
  refine qC rfl ?_
  refine qA (qJ (v := .bool _) rfl) ?_
  refine qE ?_
  refine wA rfl (fun hj => ?_) (fun hj => ?_)
  ·skip
   have hjl : j < n := ltI hj
   refine qP ?_
   refine qE ?_
   refine qT ?_
   refine qE ?_
   refine qC rfl ?_
   refine qA (qD (v := .int .i64 _) rfl) ?_
   refine qA (qF (v := .int .i64 _) rfl) ?_
   refine qC rfl ?_
   refine qA (qD (v := .slice _ _ _) rfl) ?_
   refine qA (qD (v := .int .i64 _) rfl) ?_
   refine qA (qJ (v := _) rfl) ?_
   refine qK (zc := [_]) (vs := [(0, _)]) (cs := [_]) rfl rfl rfl rfl rfl rfl rfl fun b27 hb27 => ?_
   refine qH [_, _, _] rfl ?_
   refine zF 1 K5 rfl rfl rfl (fun V => rdP V (i := 2) rfl) rfl rfl rfl rfl rfl rfl rfl rfl rfl (by omega) rfl (by rw [fa_len]; simp; omega) fun a2 h4a E4a ha2 => ?_
   refine qH [_, _, _] rfl ?_
   refine qA (qF (v := .slice _ _ _) rfl) ?_
   refine qC rfl ?_
   refine qA (qX rfl (by omega)) ?_
   refine qA (qD (v := .int .i64 _) rfl) ?_
   refine ⟨(j + 1, a2), ⟨rfl, rfl, trivial⟩, rfl, rfl, (zL E_j E4a), fun h3 E3 => ⟨hjl, fa_step ha2⟩, by first | omega | (dsimp only; omega), ?_⟩
   repeat (first | exact wK _ _ _ | refine wM (by decide) ?_ | refine wJ rfl ?_ | refine wN rfl ?_)
  ·skip
   have hje : j = n := by have := geI hj; omega
   have K6 : AccR 114 1 ((fs2 m).flatMap faultC) a := by rw [fs2, hn, ← hje]; exact K5
   have n2 : (fs2 m).length = n + n := by rw [fs2, List.length_append, n1, fsN_len, hn]
   refine zA ?_
   refine qE ?_
   refine qE ?_
   refine qC rfl ?_
   refine qA (qI rfl rfl rfl rfl 6 rfl) ?_
   refine qN 0 (v := .slice _ _ _) rfl rfl rfl rfl ?_
   refine qA (wP rfl rfl) ?_
   refine qA (qD (v := .int .i64 _) rfl) ?_
   refine qT ?_
   refine xp_loopL [3, 6, 33, 34, 35, 36, 37, 38, 39, 40, 41] 2 (α := Nat × Acc) (fun ⟨i, a⟩ => [(3, .slice a.A a.n a.c), (33, .int .i64 i)]) (fun ⟨i, a⟩ L => L.set 1 (a.p)) (fun ⟨i, a⟩ h_i => i ≤ m.pins.length ∧ AccR 114 1 ((fs2 m ++ fsN .pin i).flatMap faultC) a) (fun ⟨i, a⟩ => m.pins.length - i) ((0, a)) ⟨rfl, rfl, trivial⟩ (rfl) (⟨Nat.zero_le _, by simpa [fsN] using K6⟩) ?_
   rintro ⟨i, a⟩ T5 h_i E_i J_i
   refine wE [_, _] rfl ?_
   obtain ⟨K7, K8⟩ := J_i
   refine qE ?_
   refine qC rfl ?_
   refine qA (qJ (v := .bool _) rfl) ?_
   refine qE ?_
   refine wA rfl (fun hi => ?_) (fun hi => ?_)
   ·skip
    have hil : i < m.pins.length := ltI hi
    refine qP ?_
    refine qE ?_
    refine qT ?_
    refine qE ?_
    refine qC rfl ?_
    refine qA (qD (v := .int .i64 _) rfl) ?_
    refine qA (qF (v := .int .i64 _) rfl) ?_
    refine qC rfl ?_
    refine qA (qD (v := .slice _ _ _) rfl) ?_
    refine qA (qD (v := .int .i64 _) rfl) ?_
    refine qA (qJ (v := _) rfl) ?_
    refine qK (zc := [_]) (vs := [(0, _)]) (cs := [_]) rfl rfl rfl rfl rfl rfl rfl fun b39 hb39 => ?_
    refine qH [_, _, _] rfl ?_
    refine zF 1 K8 rfl rfl rfl (fun V => rdP V (i := 2) rfl) rfl rfl rfl rfl rfl rfl rfl rfl rfl (by omega) rfl (by rw [fa_len]; simp; omega) fun a2 h6a E6a ha2 => ?_
    refine qH [_, _, _] rfl ?_
    refine qA (qF (v := .slice _ _ _) rfl) ?_
    refine qC rfl ?_
    refine qA (qX rfl (by omega)) ?_
    refine qA (qD (v := .int .i64 _) rfl) ?_
    refine ⟨(i + 1, a2), ⟨rfl, rfl, trivial⟩, rfl, rfl, (zL E_i E6a), fun h3 E3 => ⟨hil, fa_step ha2⟩, by first | omega | (dsimp only; omega), ?_⟩
    repeat (first | exact wK _ _ _ | refine wM (by decide) ?_ | refine wJ rfl ?_ | refine wN rfl ?_)
   ·skip
    have hie : i = m.pins.length := by have := geI hi; omega
    have K9 : AccR 114 1 ((fs3 m).flatMap faultC) a := by rw [fs3, ← hie]; exact K8
    have n3 : (fs3 m).length = n + n + m.pins.length := by rw [fs3, List.length_append, n2, fsN_len]
    refine zA ?_
    refine qE ?_
    refine qE ?_
    refine qC rfl ?_
    refine qA (qI rfl rfl rfl rfl 7 rfl) ?_
    refine qN 0 (v := .slice _ _ _) rfl rfl rfl rfl ?_
    refine qA (wP rfl rfl) ?_
    refine qA (qD (v := .int .i64 _) rfl) ?_
    refine qT ?_
    refine xp_loopL [3, 7, 45, 46, 47, 48, 49, 50, 51, 52, 53] 2 (α := Nat × Acc) (fun ⟨o, a⟩ => [(3, .slice a.A a.n a.c), (45, .int .i64 o)]) (fun ⟨o, a⟩ L => L.set 1 (a.p)) (fun ⟨o, a⟩ h_o => o ≤ m.links.length ∧ AccR 114 1 ((fs3 m ++ fsN .link o).flatMap faultC) a) (fun ⟨o, a⟩ => m.links.length - o) ((0, a)) ⟨rfl, rfl, trivial⟩ (rfl) (⟨Nat.zero_le _, by simpa [fsN] using K9⟩) ?_
    rintro ⟨o, a⟩ T7 h_o E_o J_o
    refine wE [_, _] rfl ?_
    obtain ⟨K10, K11⟩ := J_o
    refine qE ?_
    refine qC rfl ?_
    refine qA (qJ (v := .bool _) rfl) ?_
    refine qE ?_
    refine wA rfl (fun ho => ?_) (fun ho => ?_)
    ·skip
     have hol : o < m.links.length := ltI ho
     refine qP ?_
     refine qE ?_
     refine qT ?_
     refine qE ?_
     refine qC rfl ?_
     refine qA (qD (v := .int .i64 _) rfl) ?_
     refine qA (qF (v := .int .i64 _) rfl) ?_
     refine qC rfl ?_
     refine qA (qD (v := .slice _ _ _) rfl) ?_
     refine qA (qD (v := .int .i64 _) rfl) ?_
     refine qA (qJ (v := _) rfl) ?_
     refine qK (zc := [_]) (vs := [(0, _)]) (cs := [_]) rfl rfl rfl rfl rfl rfl rfl fun b51 hb51 => ?_
     refine qH [_, _, _] rfl ?_
     refine zF 1 K11 rfl rfl rfl (fun V => rdP V (i := 2) rfl) rfl rfl rfl rfl rfl rfl rfl rfl rfl (by omega) rfl (by rw [fa_len]; simp; omega) fun a2 h8a E8a ha2 => ?_
     refine qH [_, _, _] rfl ?_
     refine qA (qF (v := .slice _ _ _) rfl) ?_
     refine qC rfl ?_
     refine qA (qX rfl (by omega)) ?_
     refine qA (qD (v := .int .i64 _) rfl) ?_
     refine ⟨(o + 1, a2), ⟨rfl, rfl, trivial⟩, rfl, rfl, (zL E_o E8a), fun h3 E3 => ⟨hol, fa_step ha2⟩, by first | omega | (dsimp only; omega), ?_⟩
     repeat (first | exact wK _ _ _ | refine wM (by decide) ?_ | refine wJ rfl ?_ | refine wN rfl ?_)
    ·skip
     have hoe : o = m.links.length := by have := geI ho; omega
     have K12 : AccR 114 1 ((faultsM m).flatMap faultC) a := by rw [faultsM, ← hoe]; exact K11
     refine zA ?_
     refine qE ?_
     refine qC rfl ?_
     refine qA (qD (v := .slice _ _ _) rfl) ?_
     refine qA (qF (v := .slice _ _ _) rfl) ?_
     refine wD ?_
     refine qS (vs := [_]) Tryd.results45 ⟨qM rfl rfl, trivial⟩ fun V => ?_
     exact ⟨(zL (zL (zL (zL E_k E_j) E_i) E_o) (qZ V)), AccP.row (i := 1) K12 (by omega) (fun _ _ => rfl) V rfl, AccP.cap K12 (by decide)⟩
theorem faults_ok (m : MachP) (h1 : 0 ≤ m.levers ∧ m.levers ≤ 2 ^ 20) (h2 : m.pins.length ≤ 2 ^ 20) (h3 : m.links.length ≤ 2 ^ 20) (AB AQ AL AW : Option Addr) (cB cQ cL cW : Nat) (h : AH) :
  FnT Tryd.prog 45 #[machV AB AQ AL AW cB cQ cL cW m] h (fun v h' => SlR h' 1 faultC (faultsM m) v) :=
 CallT.mono (faults_okC m h1 h2 h3 AB AQ AL AW cB cQ cL cW h) (fun _ _ r => ⟨r.1, r.2.1⟩) (fun _ _ y => y)
theorem accR_new {e : TypeId} {m : Nat} {b : Nat} : AccR e m [] ⟨some (b, .cells ([] : List Value).toArray e (0, 0)), some ⟨b, 0, none⟩, 0, 0⟩ := accp_new
theorem pinP (x : PinP) : (pinC x).all plainB = true := rfl
theorem linkP (x : LinkP) : (linkC x).all plainB = true := rfl
theorem clonePinO (l : List PinP) (A : Option Addr) (c : Nat) (h : AH) (R : Row h 3 pinC A l) (hl : l.length < 2 ^ 20) :
  FnM Tryd.prog (.func (.func 62) #[] ([] : List Value).toArray) [.slice A l.length c] h [] (fun v h' M' => ∃ a : Acc, M' = [a.p] ∧ v = .slice a.A a.n a.c ∧ AccR 54 3 (l.flatMap pinC) a) := by
 cases A with
 | none =>
  have h0 := R.none_nil (by omega)
  subst h0
  refine fnM_body rfl rfl Tryd.func62 rfl Tryd.ntmps62 rfl ?_
  refine qE ?_
  refine qC rfl ?_
  refine qA (qF (v := .slice _ _ _) rfl) ?_
  refine qE ?_
  refine qE ?_
  refine qC rfl ?_
  refine qA (qD (v := .slice _ _ _) rfl) ?_
  refine qA (qJ (v := .bool _) rfl) ?_
  refine wA rfl (fun ht => ?_) (fun ht => ?_)
  ·skip
   refine qE ?_
   refine qC rfl ?_
   refine qA (qF (v := .slice _ _ _) rfl) ?_
   refine wD ?_
   refine qS (vs := [_]) Tryd.results62 ⟨qM rfl rfl, trivial⟩ fun V => ?_
   exact ⟨_, [none], rfl, V, (Ext.refl _), acc0, rfl, rfl, accR0⟩
  ·cases ht
 | some a =>
  refine fnM_body rfl rfl Tryd.func62 rfl Tryd.ntmps62 rfl ?_
  refine qE ?_
  refine qC rfl ?_
  refine qA (qF (v := .slice _ _ _) rfl) ?_
  refine qE ?_
  refine qE ?_
  refine qC rfl ?_
  refine qA (qD (v := .slice _ _ _) rfl) ?_
  refine qA (qJ (v := .bool _) rfl) ?_
  refine wA rfl (fun ht => ?_) (fun ht => ?_)
  ·cases ht
  ·skip
   refine qP ?_
   refine qE ?_
   refine qC rfl ?_
   refine qK (zc := [_, _, _]) (vs := []) (cs := []) rfl rfl rfl rfl rfl rfl rfl fun b5 hb5 => ?_
   refine qH [_] rfl ?_
   refine qA (qD (v := .slice _ _ _) rfl) ?_
   refine zF 0 accR_new rfl rfl rfl (fun V => R.2.ext (qZ V)) (zE R.1) (flat_plain pinP l) rfl rfl rfl rfl rfl rfl rfl (by omega) rfl (by rw [zE R.1, List.length_nil]; omega) fun a2 h1a E1a ha2 => ?_
   refine qH [_] rfl ?_
   refine qA (qF (v := .slice _ _ _) rfl) ?_
   refine wD ?_
   refine qS (vs := [_]) Tryd.results62 ⟨qM rfl rfl, trivial⟩ fun V => ?_
   exact ⟨_, [_], rfl, V, E1a, a2, rfl, rfl, ha2⟩
theorem cloneLinkO (l : List LinkP) (A : Option Addr) (c : Nat) (h : AH) (R : Row h 4 linkC A l) (hl : l.length < 2 ^ 20) :
  FnM Tryd.prog (.func (.func 63) #[] ([] : List Value).toArray) [.slice A l.length c] h [] (fun v h' M' => ∃ a : Acc, M' = [a.p] ∧ v = .slice a.A a.n a.c ∧ AccR 29 4 (l.flatMap linkC) a) := by
 cases A with
 | none =>
  have h0 := R.none_nil (by omega)
  subst h0
  refine fnM_body rfl rfl Tryd.func63 rfl Tryd.ntmps63 rfl ?_
  refine qE ?_
  refine qC rfl ?_
  refine qA (qF (v := .slice _ _ _) rfl) ?_
  refine qE ?_
  refine qE ?_
  refine qC rfl ?_
  refine qA (qD (v := .slice _ _ _) rfl) ?_
  refine qA (qJ (v := .bool _) rfl) ?_
  refine wA rfl (fun ht => ?_) (fun ht => ?_)
  ·skip
   refine qE ?_
   refine qC rfl ?_
   refine qA (qF (v := .slice _ _ _) rfl) ?_
   refine wD ?_
   refine qS (vs := [_]) Tryd.results63 ⟨qM rfl rfl, trivial⟩ fun V => ?_
   exact ⟨_, [none], rfl, V, (Ext.refl _), acc0, rfl, rfl, accR0⟩
  ·cases ht
 | some a =>
  refine fnM_body rfl rfl Tryd.func63 rfl Tryd.ntmps63 rfl ?_
  refine qE ?_
  refine qC rfl ?_
  refine qA (qF (v := .slice _ _ _) rfl) ?_
  refine qE ?_
  refine qE ?_
  refine qC rfl ?_
  refine qA (qD (v := .slice _ _ _) rfl) ?_
  refine qA (qJ (v := .bool _) rfl) ?_
  refine wA rfl (fun ht => ?_) (fun ht => ?_)
  ·cases ht
  ·skip
   refine qP ?_
   refine qE ?_
   refine qC rfl ?_
   refine qK (zc := [_, _, _, _]) (vs := []) (cs := []) rfl rfl rfl rfl rfl rfl rfl fun b5 hb5 => ?_
   refine qH [_] rfl ?_
   refine qA (qD (v := .slice _ _ _) rfl) ?_
   refine zF 0 accR_new rfl rfl rfl (fun V => R.2.ext (qZ V)) (zE R.1) (flat_plain linkP l) rfl rfl rfl rfl rfl rfl rfl (by omega) rfl (by rw [zE R.1, List.length_nil]; omega) fun a2 h1a E1a ha2 => ?_
   refine qH [_] rfl ?_
   refine qA (qF (v := .slice _ _ _) rfl) ?_
   refine wD ?_
   refine qS (vs := [_]) Tryd.results63 ⟨qM rfl rfl, trivial⟩ fun V => ?_
   exact ⟨_, [_], rfl, V, E1a, a2, rfl, rfl, ha2⟩
end
end Go.Proofs.YtmpahfdiebhdbaaDoor
namespace Go.Proofs.YtmpahfdiebhdbaaDoor
open Go Go.HL Go.Proofs Go.Wx Go.Rd
section
variable [Lvl]
set_option maxRecDepth 100000
def BrkP (h : AH) (m : MachP) (l : List FaultP) (b1 b2 b3 b4 : Nat) : Prop :=
 ∃ ys, cellA h ⟨b1, 0, none⟩ = some ys ∧ SndV h (brkM m l) ys ∧ cellA h ⟨b2, 3, none⟩ = some (.int .i64 m.travel) ∧ cellA h ⟨b3, 0, none⟩ = some (.int .i64 ((brkF m l).stay : Nat)) ∧ cellA h ⟨b4, 0, none⟩ = some (.int .i64 ((brkF m l).dumb : Nat))
theorem BrkP.ext {h h' : AH} {m : MachP} {l : List FaultP} {b1 b2 b3 b4 : Nat} (r : BrkP h m l b1 b2 b3 b4) (e : Ext h h') : BrkP h' m l b1 b2 b3 b4 := by
 obtain ⟨ys, c1, s, c2, c3, c4⟩ := r
 exact ⟨ys, e.cell c1, s.ext e, e.cell c2, e.cell c3, e.cell c4⟩
abbrev brkY (b1 b2 b3 b4 : Nat) : Value := .func (.func 64) #[] #[.pointer (some ⟨b1, 0, none⟩), .pointer (some ⟨b2, 0, none⟩), .pointer (some ⟨b3, 0, none⟩), .pointer (some ⟨b4, 0, none⟩)]
def BrkV (h : AH) (m : MachP) (l : List FaultP) (y : Value) : Prop := ∃ b1 b2 b3 b4, y = brkY b1 b2 b3 b4 ∧ BrkP h m l b1 b2 b3 b4
theorem BrkV.ext {h h' : AH} {m : MachP} {l : List FaultP} {y : Value} (r : BrkV h m l y) (e : Ext h h') : BrkV h' m l y := by
 obtain ⟨b1, b2, b3, b4, hy, p⟩ := r
 exact ⟨b1, b2, b3, b4, hy, p.ext e⟩
theorem AccR.parts {e : TypeId} {m : Nat} {cs : List Value} {a : Acc} (r : AccR e m cs a) (hc : cs ≠ []) : ∃ b len cap junk, a = ⟨some (b, .cells (cs ++ junk).toArray e (0, 0)), some ⟨b, 0, none⟩, len, cap⟩ ∧ cs.length = len * m ∧ ∀ cs' : List Value, cs'.length = cs.length → AccR e m cs' ⟨some (b, .cells (cs' ++ junk).toArray e (0, 0)), some ⟨b, 0, none⟩, len, cap⟩ := by
 obtain ⟨p, A, n, c⟩ := a
 rcases r with ⟨_, h, _⟩ | ⟨b, len, cap, junk, hl, ev, hpp, hx⟩
 ·exact absurd h hc
 ·injection ev with e1 e2 e3
  dsimp only at e1 e2 e3 hpp
  subst e1 e2 e3 hpp
  exact ⟨b, n, c, junk, rfl, hl, fun cs' h' => .inr ⟨b, n, c, junk, by rw [h', hl], rfl, rfl, by rw [List.length_append, h', ← List.length_append]; exact hx⟩⟩
theorem cell_own {h : AH} {L : Pv} {i b off : Nat} {c : Array Value} {e : TypeId} {f : Nat × Nat} {v : Value} (V : Valid h L) (hi : L[i]? = some (some (b, .cells c e f))) (hv : c[off]? = some v) : cellA (wl h L) ⟨b, off, none⟩ = some v := by
 simp [cellA, zC V hi, hv]
set_option maxHeartbeats 8000000 in
theorem broken_ok (m : MachP) (M : MOK m) (l : List FaultP) (hf : ∀ f ∈ l, FOK m f) (hl : l.length < 2 ^ 20) (AB AQ AL AW AF : Option Addr) (cB cQ cL cW cF : Nat) (h : AH) (R : MachR h AB AQ AL AW m) (RF : Row h 1 faultC AF l) :
  FnT Tryd.prog 46 #[machV AB AQ AL AW cB cQ cL cW m, .slice AF l.length cF] h (fun v h' => BrkV h' m l v) := by
 have hpl := M.pl
 have hll := M.ll
 have hlv := M.levers
 refine wL Tryd.func46 rfl Tryd.ntmps46 rfl ?_
 refine qE ?_
 refine qC rfl ?_
 refine op_box (v := .agg #[.int .i64 _, .int .i64 _, .int .i64 _, .int .i64 _, .int .i64 _, .slice _ _ _, .slice _ _ _, .slice _ _ _, .slice _ _ _]) (cs := [_, _, _, _, _, _, _, _, _]) rfl rfl fun b2 hb2 => ?_
 refine qH [_] rfl ?_
 refine qA (qF (v := _) rfl) ?_
 refine qE ?_
 refine xp_dw [] rfl rfl rfl ?_
 refine qO (i := 0) rfl (by decide +kernel) (qI rfl rfl rfl rfl 6 rfl) ?_
 refine wQ (i := 1) rfl (by decide +kernel) ?_
 refine qN 0 (v := .slice _ _ _) rfl rfl rfl rfl ?_
 refine qO (i := 3) rfl (by decide +kernel) (qI rfl rfl rfl rfl 7 rfl) ?_
 refine wQ (i := 4) rfl (by decide +kernel) ?_
 refine qN 0 (v := .slice _ _ _) rfl rfl rfl rfl ?_
 refine dw_eff (i := 2) rfl (by decide +kernel) ?_
 refine op_fnV rfl rfl (clonePinO m.pins AQ cQ h (R.q.ext (Ext.refl _)) (by omega)) ?_
 rintro _ h1 _ Vmn E1 ⟨a1, rfl, rfl, r1⟩
 refine ⟨ext_out Vmn E1, ?_⟩
 refine zI [_, _] rfl ?_
 refine dw_last (i := 5) rfl (by decide +kernel) (by decide +kernel) ?_
 refine op_fnMM [_, _] [] [] rfl rfl rfl (cloneLinkO m.links AL cL h1 (R.l.ext E1) (by omega)) ?_
 rintro _ h2 _ E2 ⟨a2, rfl, rfl, r2⟩
 refine zI [_, _, _] rfl ?_
 refine qO (i := 6) rfl (by decide +kernel) (qF (v := .slice _ _ _) rfl) ?_
 refine qO (i := 7) rfl (by decide +kernel) (qF (v := .slice _ _ _) rfl) ?_
 refine dw_end rfl ?_
 refine qE ?_
 refine qC rfl ?_
 refine wW (cs := [_]) rfl rfl fun b7 hb7 => ?_
 refine qH [_, _, _, _] rfl ?_
 refine wW (cs := [_]) rfl rfl fun b8 hb8 => ?_
 refine qH [_, _, _, _, _] rfl ?_
 refine qE ?_
 refine qE ?_
 refine qC rfl ?_
 refine qA (qD (v := .slice _ _ _) rfl) ?_
 refine qA (wP rfl rfl) ?_
 refine qA (qD (v := .int .i64 _) rfl) ?_
 refine qT ?_
 refine xp_loopL [10, 11, 12, 13, 14, 24, 25, 26, 27, 28, 29, 30, 31, 32, 33, 34, 35, 36, 37, 38, 39, 40, 41, 42, 43, 44, 45, 46, 47, 48, 49, 50, 51, 52, 53, 54, 55, 56, 57, 58, 59] 5 (α := Nat × Option (Nat × Obj) × Option (Nat × Obj)) (fun ⟨k, pp, lp⟩ => [(24, .int .i64 k)]) (fun ⟨k, pp, lp⟩ L => (((L.set 1 (pp)).set 2 (lp)).set 3 (some (b7, .cells #[.int .i64 ((brkF m (l.take k)).stay : Nat)] 70 (0, 0)))).set 4 (some (b8, .cells #[.int .i64 ((brkF m (l.take k)).dumb : Nat)] 70 (0, 0)))) (fun ⟨k, pp, lp⟩ h_k => k ≤ l.length ∧ AccR 54 3 ((brkF m (l.take k)).pins.flatMap pinC) ⟨pp, a1.A, a1.n, a1.c⟩ ∧ AccR 29 4 ((brkF m (l.take k)).links.flatMap linkC) ⟨lp, a2.A, a2.n, a2.c⟩) (fun ⟨k, pp, lp⟩ => l.length - k) ((0, a1.p, a2.p)) ⟨rfl, trivial⟩ (rfl) (⟨Nat.zero_le _, r1, r2⟩) ?_
 rintro ⟨k, pp, lp⟩ T1 h_k E_k J_k
 refine wE [_, _, _, _, _] rfl ?_
 obtain ⟨K1, K2, K3⟩ := J_k
 refine qE ?_
 refine qC rfl ?_
 refine qA (qJ (v := .bool _) rfl) ?_
 refine qE ?_
 refine wA rfl (fun hk => ?_) (fun hk => ?_)
 ·skip
  have hkl : k < l.length := ltI hk
  obtain ⟨g, off, hA, hc⟩ := (RF.ext (zL (zL E1 E2) E_k)).at (by omega) hkl
  have hfk := hf _ (List.getElem_mem hkl)
  have hN := brkF_take (m := m) hkl
  have hbt := brk_bits hlv.2 (l := l.take k) (fun f hm => hf f (take_mem hm))
  have hpk := brk_pl m (l.take k)
  have hlk := brk_ll m (l.take k)
  generalize brkF m (l.take k) = bk at *
  obtain ⟨bp, bl, bs, bd⟩ := bk
  dsimp only at hbt hpk hlk K2 K3
  obtain ⟨fk, hfe⟩ : ∃ fk, fk = l[k] := ⟨_, rfl⟩
  rw [← hfe] at hc hfk hN
  dsimp only
  rcases fk with i | i | i | i
  ·skip
   have hi6 : (i : Int) < m.levers := hfk
   refine qP ?_
   refine qE ?_
   refine qT ?_
   refine qE ?_
   refine qC rfl ?_
   refine qA (wU rfl hA rfl rfl rfl (by omega) (by omega)) ?_
   refine wT (v := _) rfl rfl ((hc) 0 _ rfl) ?_
   refine qA (qF (v := _) rfl) ?_
   refine qE ?_
   refine qC rfl ?_
   refine qA (qD (v := _) rfl) ?_
   refine qT ?_
   refine qE ?_
   refine qC rfl ?_
   refine qA (qJ (v := .tuple #[.int .i64 i, .bool true]) rfl) ?_
   refine qA (qJ (v := .bool _) rfl) ?_
   refine qA (qJ (v := .int .i64 _) rfl) ?_
   refine wY rfl (rfl) ?_
   refine qE ?_
   refine qC rfl ?_
   refine qA (qF (v := .int .i64 _) rfl) ?_
   refine qC rfl ?_
   refine qN 4 (v := .int .i64 _) rfl rfl rfl rfl ?_
   refine qA (qD (v := .int .i64 _) rfl) ?_
   refine qV (caps := []) (vs := [.int .i64 _, .int .i64 _]) rfl rfl rfl (with_ok bd i i rfl (by omega) (by omega) h_k) ?_
   rintro _ h3 E3 rfl
   refine wG 4 (v := .int .i64 _) (vs := [_]) (c' := [_]) rfl rfl rfl rfl rfl rfl rfl rfl rfl ?_
   refine qH [_, _, _, _, _] rfl ?_
   refine qC rfl ?_
   refine qA (qX rfl (by omega)) ?_
   refine qA (qD (v := .int .i64 _) rfl) ?_
   refine ⟨(k + 1, pp, lp), ⟨rfl, trivial⟩, rfl, by rw [hN]; rfl, (zL E_k E3), fun h3 E3 => ⟨hkl, by rw [hN]; exact K2, by rw [hN]; exact K3⟩, by first | omega | (dsimp only; omega), ?_⟩
   repeat (first | exact wK _ _ _ | refine wM (by decide) ?_ | refine wJ rfl ?_ | refine wN rfl ?_)
  ·skip
   have hi6 : (i : Int) < m.levers := hfk
   refine qP ?_
   refine qE ?_
   refine qT ?_
   refine qE ?_
   refine qC rfl ?_
   refine qA (wU rfl hA rfl rfl rfl (by omega) (by omega)) ?_
   refine wT (v := _) rfl rfl ((hc) 0 _ rfl) ?_
   refine qA (qF (v := _) rfl) ?_
   refine qE ?_
   refine qC rfl ?_
   refine qA (qD (v := _) rfl) ?_
   refine qT ?_
   refine qE ?_
   refine qC rfl ?_
   refine qA (qJ (v := .tuple #[.int .i64 0, .bool false]) rfl) ?_
   refine qA (qJ (v := .bool _) rfl) ?_
   refine qA (qJ (v := .int .i64 _) rfl) ?_
   refine wO rfl (rfl) ?_
   refine qE ?_
   refine qC rfl ?_
   refine qA (qJ (v := .tuple #[.int .i64 i, .bool true]) rfl) ?_
   refine qA (qJ (v := .bool _) rfl) ?_
   refine qA (qJ (v := .int .i64 _) rfl) ?_
   refine wY rfl (rfl) ?_
   refine qE ?_
   refine qC rfl ?_
   refine qA (qF (v := .int .i64 _) rfl) ?_
   refine qC rfl ?_
   refine qN 3 (v := .int .i64 _) rfl rfl rfl rfl ?_
   refine qA (qD (v := .int .i64 _) rfl) ?_
   refine qV (caps := []) (vs := [.int .i64 _, .int .i64 _]) rfl rfl rfl (with_ok bs i i rfl (by omega) (by omega) h_k) ?_
   rintro _ h3 E3 rfl
   refine wG 3 (v := .int .i64 _) (vs := [_]) (c' := [_]) rfl rfl rfl rfl rfl rfl rfl rfl rfl ?_
   refine qH [_, _, _, _, _] rfl ?_
   refine qC rfl ?_
   refine qA (qX rfl (by omega)) ?_
   refine qA (qD (v := .int .i64 _) rfl) ?_
   refine ⟨(k + 1, pp, lp), ⟨rfl, trivial⟩, rfl, by rw [hN]; rfl, (zL E_k E3), fun h3 E3 => ⟨hkl, by rw [hN]; exact K2, by rw [hN]; exact K3⟩, by first | omega | (dsimp only; omega), ?_⟩
   repeat (first | exact wK _ _ _ | refine wM (by decide) ?_ | refine wJ rfl ?_ | refine wN rfl ?_)
  ·skip
   have hi6 : i < m.pins.length := hfk
   have hib : i < bp.length := by omega
   have hfl : (bp.flatMap pinC).length = bp.length * 3 := zE (fun _ _ => rfl)
   obtain ⟨gb, len, cap, junk, ha, hlen, put⟩ := AccR.parts K2 (by intro e; rw [e] at hfl; simp at hfl; omega)
   injection ha with q1 q2 q3 q4
   subst q1
   rw [← q2, ← q3, ← q4] at put
   refine qP ?_
   refine qE ?_
   refine qT ?_
   refine qE ?_
   refine qC rfl ?_
   refine qA (wU rfl hA rfl rfl rfl (by omega) (by omega)) ?_
   refine wT (v := _) rfl rfl ((hc) 0 _ rfl) ?_
   refine qA (qF (v := _) rfl) ?_
   refine qE ?_
   refine qC rfl ?_
   refine qA (qD (v := _) rfl) ?_
   refine qT ?_
   refine qE ?_
   refine qC rfl ?_
   refine qA (qJ (v := .tuple #[.int .i64 0, .bool false]) rfl) ?_
   refine qA (qJ (v := .bool _) rfl) ?_
   refine qA (qJ (v := .int .i64 _) rfl) ?_
   refine wO rfl (rfl) ?_
   refine qE ?_
   refine qC rfl ?_
   refine qA (qJ (v := .tuple #[.int .i64 0, .bool false]) rfl) ?_
   refine qA (qJ (v := .bool _) rfl) ?_
   refine qA (qJ (v := .int .i64 _) rfl) ?_
   refine wO rfl (rfl) ?_
   refine qE ?_
   refine qC rfl ?_
   refine qA (qJ (v := .tuple #[.int .i64 i, .bool true]) rfl) ?_
   refine qA (qJ (v := .bool _) rfl) ?_
   refine qA (qJ (v := .int .i64 _) rfl) ?_
   refine wY rfl (rfl) ?_
   refine qE ?_
   refine qC rfl ?_
   refine qA (qF (v := .int .i64 _) rfl) ?_
   refine qC rfl ?_
   refine qA (qD (v := .slice _ _ _) rfl) ?_
   refine qA (qD (v := .int .i64 _) rfl) ?_
   refine qA (qI rfl rfl rfl rfl 3 rfl) ?_
   refine qN 0 (v := .int .i64 _) rfl rfl rfl rfl ?_
   refine qA (wU (m := 3) rfl q2 rfl rfl rfl (by omega) (by omega)) ?_
   refine qA (qI rfl rfl rfl rfl _ rfl) ?_
   refine wG 1 (m := 1) (off := 0 + (i : Int).toNat * 3 + 2) (v := .int .i64 m.travel) (vs := [.int .i64 m.travel]) (c' := (lagP bp i m.travel).flatMap pinC ++ junk) rfl rfl rfl rfl rfl rfl (Nat.ble_eq_true_of_le (by rw [List.length_append, hfl]; omega)) rfl (by rw [show 0 + (i : Int).toNat * 3 + 2 = i * 3 + 2 by omega, pin_wr hib]) ?_
   refine qH [_, _, _, _, _] rfl ?_
   refine qC rfl ?_
   refine qA (qX rfl (by omega)) ?_
   refine qA (qD (v := .int .i64 _) rfl) ?_
   refine ⟨(k + 1, some (gb, .cells ((lagP bp i m.travel).flatMap pinC ++ junk).toArray 54 (0, 0)), lp), ⟨rfl, trivial⟩, rfl, by rw [hN]; rfl, E_k, fun h3 E3 => ⟨hkl, by rw [hN]; exact put _ (by rw [hfl, zE (m := 3) (fun _ _ => rfl)]; exact congrArg (· * 3) (lagP_len _ _ _)), by rw [hN]; exact K3⟩, by first | omega | (dsimp only; omega), ?_⟩
   repeat (first | exact wK _ _ _ | refine wM (by decide) ?_ | refine wJ rfl ?_ | refine wN rfl ?_)
  ·skip
   have hi6 : i < m.links.length := hfk
   have hib : i < bl.length := by omega
   have hfl : (bl.flatMap linkC).length = bl.length * 4 := zE (fun _ _ => rfl)
   obtain ⟨gb, len, cap, junk, ha, hlen, put⟩ := AccR.parts K3 (by intro e; rw [e] at hfl; simp at hfl; omega)
   injection ha with q1 q2 q3 q4
   subst q1
   rw [← q2, ← q3, ← q4] at put
   refine qP ?_
   refine qE ?_
   refine qT ?_
   refine qE ?_
   refine qC rfl ?_
   refine qA (wU rfl hA rfl rfl rfl (by omega) (by omega)) ?_
   refine wT (v := _) rfl rfl ((hc) 0 _ rfl) ?_
   refine qA (qF (v := _) rfl) ?_
   refine qE ?_
   refine qC rfl ?_
   refine qA (qD (v := _) rfl) ?_
   refine qT ?_
   refine qE ?_
   refine qC rfl ?_
   refine qA (qJ (v := .tuple #[.int .i64 0, .bool false]) rfl) ?_
   refine qA (qJ (v := .bool _) rfl) ?_
   refine qA (qJ (v := .int .i64 _) rfl) ?_
   refine wO rfl (rfl) ?_
   refine qE ?_
   refine qC rfl ?_
   refine qA (qJ (v := .tuple #[.int .i64 0, .bool false]) rfl) ?_
   refine qA (qJ (v := .bool _) rfl) ?_
   refine qA (qJ (v := .int .i64 _) rfl) ?_
   refine wO rfl (rfl) ?_
   refine qE ?_
   refine qC rfl ?_
   refine qA (qJ (v := .tuple #[.int .i64 0, .bool false]) rfl) ?_
   refine qA (qJ (v := .bool _) rfl) ?_
   refine qA (qJ (v := .int .i64 _) rfl) ?_
   refine wO rfl (rfl) ?_
   refine qE ?_
   refine qC rfl ?_
   refine qA (qJ (v := .tuple #[.int .i64 i, .bool true]) rfl) ?_
   refine qA (qJ (v := .bool _) rfl) ?_
   refine qA (qJ (v := .int .i64 _) rfl) ?_
   refine wY rfl (rfl) ?_
   refine qE ?_
   refine qC rfl ?_
   refine qA (qF (v := .int .i64 _) rfl) ?_
   refine qC rfl ?_
   refine qA (qD (v := .slice _ _ _) rfl) ?_
   refine qA (qD (v := .int .i64 _) rfl) ?_
   refine qA (qI rfl rfl rfl rfl 3 rfl) ?_
   refine qN 0 (v := .int .i64 _) rfl rfl rfl rfl ?_
   refine qA (wU (m := 4) rfl q2 rfl rfl rfl (by omega) (by omega)) ?_
   refine qA (qI rfl rfl rfl rfl _ rfl) ?_
   refine wG 2 (m := 1) (off := 0 + (i : Int).toNat * 4 + 3) (v := .int .i64 m.travel) (vs := [.int .i64 m.travel]) (c' := (lagL bl i m.travel).flatMap linkC ++ junk) rfl rfl rfl rfl rfl rfl (Nat.ble_eq_true_of_le (by rw [List.length_append, hfl]; omega)) rfl (by rw [show 0 + (i : Int).toNat * 4 + 3 = i * 4 + 3 by omega, link_wr hib]) ?_
   refine qH [_, _, _, _, _] rfl ?_
   refine qC rfl ?_
   refine qA (qX rfl (by omega)) ?_
   refine qA (qD (v := .int .i64 _) rfl) ?_
   refine ⟨(k + 1, pp, some (gb, .cells ((lagL bl i m.travel).flatMap linkC ++ junk).toArray 29 (0, 0))), ⟨rfl, trivial⟩, rfl, by rw [hN]; rfl, E_k, fun h3 E3 => ⟨hkl, by rw [hN]; exact K2, by rw [hN]; exact put _ (by rw [hfl, zE (m := 4) (fun _ _ => rfl)]; exact congrArg (· * 4) (lagL_len _ _ _))⟩, by first | omega | (dsimp only; omega), ?_⟩
   repeat (first | exact wK _ _ _ | refine wM (by decide) ?_ | refine wJ rfl ?_ | refine wN rfl ?_)
 ·skip
  have hke : k = l.length := by have := geI hk; omega
  subst hke
  rw [List.take_length] at K2 K3 ⊢
  obtain ⟨pp0, pA, pn, pcap⟩ := a1
  obtain ⟨lp0, lA, ln, lcap⟩ := a2
  dsimp only at K2 K3
  obtain rfl : pn = (brkF m l).pins.length := by have := AccR.len K2; rw [zE (m := 3) (fun _ _ => rfl)] at this; dsimp only at this; omega
  obtain rfl : ln = (brkF m l).links.length := by have := AccR.len K3; rw [zE (m := 4) (fun _ _ => rfl)] at this; dsimp only at this; omega
  dsimp only
  refine goes_pubO 1 rfl ?_
  intro h3 E3 P3
  refine wE [_, _, _, _, _] rfl ?_
  refine goes_pubO 2 rfl ?_
  intro h4 E4 P4
  refine wE [_, _, _, _, _] rfl ?_
  refine zA ?_
  refine qE ?_
  refine qC rfl ?_
  refine qA (qD (v := .slice _ _ _) rfl) ?_
  refine qA (qD (v := .slice _ _ _) rfl) ?_
  refine qA (qI rfl rfl rfl rfl 6 rfl) ?_
  refine wG 0 (v := .slice _ _ _) (vs := [_]) (c' := [_, _, _, _, _, _, _, _, _]) rfl rfl rfl rfl rfl rfl rfl rfl rfl ?_
  refine qH [_, _, _, _, _] rfl ?_
  refine qA (qI rfl rfl rfl rfl 7 rfl) ?_
  refine wG 0 (v := .slice _ _ _) (vs := [_]) (c' := [_, _, _, _, _, _, _, _, _]) rfl rfl rfl rfl rfl rfl rfl rfl rfl ?_
  refine qH [_, _, _, _, _] rfl ?_
  refine qE ?_
  refine qC rfl ?_
  refine wH 0 (vs := [.int .i64 _, .int .i64 _, .int .i64 _, .int .i64 _, .int .i64 _, .slice _ _ _, .slice _ _ _, .slice _ _ _, .slice _ _ _]) rfl rfl rfl rfl rfl ?_
  refine qV (caps := []) (vs := [.agg #[.int .i64 _, .int .i64 _, .int .i64 _, .int .i64 _, .int .i64 _, .slice _ _ _, .slice _ _ _, .slice _ _ _, .slice _ _ _]]) rfl rfl rfl (sounding_ok (brkM m l) AB pA lA AW cB pcap lcap cW h4 ⟨R.b.ext (zL (zL (zL (zL E1 E2) E_k) E3) E4), ⟨fun _ _ => rfl, (AccR.rd K2 P3).ext E4⟩, ⟨fun _ _ => rfl, (AccR.rd K3 P4).ext (Ext.refl _)⟩, R.w.ext (zL (zL (zL (zL E1 E2) E_k) E3) E4)⟩) ?_
  rintro _ h5 E5 S5
  obtain ⟨bs, AB1, AQ1, AL1, AW1, cB1, cQ1, cL1, cW1, rfl, CM, RM1⟩ := id S5
  refine wW (cs := [_]) rfl rfl fun b15 hb15 => ?_
  refine qH [_, _, _, _, _, _] rfl ?_
  refine wG 5 (v := _) (vs := [_]) (c' := [_]) rfl rfl rfl rfl rfl rfl rfl rfl rfl ?_
  refine qH [_, _, _, _, _, _] rfl ?_
  refine qE ?_
  refine qC rfl ?_
  refine qA (pv_makeFunc (vs := []) (ws := [_, _, _, _]) rfl rfl) ?_
  refine qA (qF (v := _) rfl) ?_
  refine wD ?_
  refine qS (vs := [_]) Tryd.results46 ⟨qM rfl rfl, trivial⟩ fun V => ?_
  exact ⟨(zL (zL (zL (zL (zL (zL E1 E2) E_k) E3) E4) E5) (qZ V)), b15, b2, b7, b8, rfl, _, cell_own V (i := 5) rfl rfl, S5.ext (qZ V), cell_own V (i := 0) rfl rfl, cell_own V (i := 3) rfl rfl, cell_own V (i := 4) rfl rfl⟩
end
end Go.Proofs.YtmpahfdiebhdbaaDoor
namespace Go.Proofs.YtmpahfdiebhdbaaDoor
open Go Go.HL Go.Proofs Go.Wx Go.Rd
section
variable [Lvl]
set_option maxRecDepth 100000
theorem brk_ok (hph : Lvl.ph = true) (m : MachP) (M : MOK m) (l : List FaultP) (hf : ∀ f ∈ l, FOK m f) (a : HandP) (H : HOK m a) (b1 b2 b3 b4 : Nat) (HA OA : Option Addr) (cH cO : Nat) (h : AH) (B : BrkP h m l b1 b2 b3 b4) (RH : HandR h HA OA a) :
  FnT Tryd.prog 64 #[handV HA OA cH cO a, .pointer (some ⟨b1, 0, none⟩), .pointer (some ⟨b2, 0, none⟩), .pointer (some ⟨b3, 0, none⟩), .pointer (some ⟨b4, 0, none⟩)] h (fun v _ => v = .int .i64 (soundsB m l a : Nat)) := by
 obtain ⟨ys, c1, ⟨bs, AB, AQ, AL, AW, cB, cQ, cL, cW, rfl, CM, RM⟩, c2, c3, c4⟩ := B
 have M2 := brk_mok M l
 have H2 := brk_hok H l
 have PF := pfit_of M2
 have tr := M.travel
 have hbt := brk_bits M.levers.2 hf
 have hss := sounds_small PF a m.travel
 have h62 : soundsM (brkM m l) a m.travel ||| (brkF m l).stay < 2 ^ 60 := Nat.or_lt_two_pow hss (by omega)
 refine wL Tryd.func64 rfl Tryd.ntmps64 rfl ?_
 refine qE ?_
 refine qC rfl ?_
 refine op_box (v := .agg #[.slice _ _ _, .slice _ _ _]) (cs := [_, _]) rfl rfl fun b5 hb5 => ?_
 refine qH [_] rfl ?_
 refine qA (qF (v := .int .i64 _) rfl) ?_
 refine qE ?_
 refine xp_dw [] rfl rfl rfl ?_
 refine wQ (i := 0) rfl (by decide +kernel) ?_
 refine wT (v := .func _ _ _) rfl rfl ((Ext.refl _).cell c1) ?_
 refine wQ (i := 1) rfl (by decide +kernel) ?_
 refine wH 0 (vs := [.slice _ _ _, .slice _ _ _]) rfl rfl rfl rfl rfl ?_
 refine qO (i := 2) rfl (by decide +kernel) (qI rfl rfl rfl rfl _ rfl) ?_
 refine wQ (i := 3) rfl (by decide +kernel) ?_
 refine wT (v := .int .i64 m.travel) rfl rfl ((Ext.refl _).cell c2) ?_
 refine wQ (i := 5) rfl (by decide +kernel) ?_
 refine wT (v := .int .i64 ((brkF m l).stay : Nat)) rfl rfl ((Ext.refl _).cell c3) ?_
 refine wQ (i := 7) rfl (by decide +kernel) ?_
 refine wT (v := .int .i64 ((brkF m l).dumb : Nat)) rfl rfl ((Ext.refl _).cell c4) ?_
 refine dw_eff (i := 4) rfl (by decide +kernel) ?_
 refine qV  (vs := _) rfl rfl rfl (snd_ok hph (brkM m l) a (fit_of M2 H2) PF m.travel (by omega) tr.2 bs AB AQ AL AW HA OA cB cQ cL cW cH cO h (CM.ext (Ext.refl _)) (RM.ext (Ext.refl _)) (RH.ext (Ext.refl _))) ?_
 rintro _ h5 E5 rfl
 refine ⟨ext_wlm E5 _, ?_⟩
 refine qO (i := 6) rfl (by decide +kernel) (pv_val (i64_or (soundsM (brkM m l) a m.travel) (brkF m l).stay (by omega) (by omega)) rfl) ?_
 refine qO (i := 8) rfl (by decide +kernel) (pv_val (i64_andNot (soundsM (brkM m l) a m.travel ||| (brkF m l).stay) (brkF m l).dumb (by omega) (by omega)) rfl) ?_
 refine qO (i := 9) rfl (by decide +kernel) (qF (v := .int .i64 _) rfl) ?_
 refine dw_end rfl ?_
 refine wD ?_
 refine qS (vs := [_]) Tryd.results64 ⟨qM rfl rfl, trivial⟩ fun V => ?_
 exact ⟨(zL E5 (qZ V)), rfl⟩
theorem cell_blk {h : AH} {b : Nat} {v : Value} {e : TypeId} {f : Nat × Nat} (hb : h b = some (.cells #[v] e f)) : cellA h ⟨b, 0, none⟩ = some v := by
 simp only [cellA, hb]
 rfl
structure HeardOK (m : MachP) (x : HeardP) : Prop where
 h : HOK m x.hand
 s : SetOK x.sounds m.levers
def against (m : MachP) (l : List FaultP) (x : HeardP) : Bool := ((soundsB m l x.hand : Nat) : Int) != ((setM x.sounds : Nat) : Int)
def explainsB (m : MachP) (l : List FaultP) (hs : List HeardP) : Bool := !hs.any (against m l)
theorem explains1_ok (hph : Lvl.ph = true) (m : MachP) (M : MOK m) (l : List FaultP) (hf : ∀ f ∈ l, FOK m f) (x : HeardP) (X : HeardOK m x) (b : Nat) (y : Value) (HA OA UA : Option Addr) (cH cO cU : Nat) (h : AH) (c1 : cellA h ⟨b, 0, none⟩ = some y) (B : BrkV h m l y)
  (RH : HandR h HA OA x.hand) (RU : Row h 1 intC UA x.sounds) :
  FnT Tryd.prog 73 #[.agg #[.slice HA x.hand.buttons.length cH, .slice OA x.hand.on.length cO, .slice UA x.sounds.length cU], .pointer (some ⟨b, 0, none⟩)] h (fun v _ => v = .bool (against m l x)) := by
 have lv := M.levers
 have us := set_len (below := m.levers.toNat) (by rw [Int.toNat_of_nonneg (by omega)]; exact X.s)
 obtain ⟨z1, z2, z3, z4, rfl, B⟩ := B
 refine wL Tryd.func73 rfl Tryd.ntmps73 rfl ?_
 refine qE ?_
 refine qC rfl ?_
 refine op_box (v := .agg #[.slice _ _ _, .slice _ _ _, .slice _ _ _]) (cs := [_, _, _]) rfl rfl fun b2 hb2 => ?_
 refine qH [_] rfl ?_
 refine qA (qF (v := .bool _) rfl) ?_
 refine qE ?_
 refine xp_dw [] rfl rfl rfl ?_
 refine wQ (i := 0) rfl (by decide +kernel) ?_
 refine wT (v := .func _ _ _) rfl rfl ((Ext.refl _).cell c1) ?_
 refine qO (i := 1) rfl (by decide +kernel) (qI rfl rfl rfl rfl 0 rfl) ?_
 refine wQ (i := 2) rfl (by decide +kernel) ?_
 refine wH 0 (vs := [.slice _ _ _, .slice _ _ _]) rfl rfl rfl rfl rfl ?_
 refine qO (i := 4) rfl (by decide +kernel) (qI rfl rfl rfl rfl 2 rfl) ?_
 refine wQ (i := 5) rfl (by decide +kernel) ?_
 refine qN 0 (v := .slice _ _ _) rfl rfl rfl rfl ?_
 refine dw_eff (i := 3) rfl (by decide +kernel) ?_
 refine qV  (vs := _) rfl rfl rfl (brk_ok hph m M l hf x.hand X.h z1 z2 z3 z4 HA OA cH cO h (B.ext (Ext.refl _)) (RH.ext (Ext.refl _))) ?_
 rintro _ h5 E5 rfl
 refine ⟨ext_wlm E5 _, ?_⟩
 refine dw_last (i := 6) rfl (by decide +kernel) (by decide +kernel) ?_
 refine qV (caps := []) (vs := [.slice _ _ _]) rfl rfl rfl (set_ok x.sounds (fun z hz => by have := X.s.mem z hz; omega) UA cU h5 (RU.ext E5) (by omega)) ?_
 rintro _ h6 E6 rfl
 refine qO (i := 7) rfl (by decide +kernel) (qJ (v := .bool _) rfl) ?_
 refine qO (i := 8) rfl (by decide +kernel) (qF (v := .bool _) rfl) ?_
 refine dw_end rfl ?_
 refine wD ?_
 refine qS (vs := [_]) Tryd.results73 ⟨qM rfl rfl, trivial⟩ fun V => ?_
 exact ⟨(zL (zL E5 E6) (qZ V)), rfl⟩
abbrev expY (b : Nat) : Value := .func (.func 73) #[] #[.pointer (some ⟨b, 0, none⟩)]
theorem indexFunc_ok (hph : Lvl.ph = true) (m : MachP) (M : MOK m) (l : List FaultP) (hf : ∀ f ∈ l, FOK m f) (hs : List HeardP) (X : ∀ x ∈ hs, HeardOK m x) (hl : hs.length < 2 ^ 40) (b : Nat) (y : Value) (UA : Option Addr) (cU : Nat) (cs : List (List Value)) (h : AH) (c1 : cellA h ⟨b, 0, none⟩ = some y) (B : BrkV h m l y) (R : Row h 3 id UA cs) (EL : Els h TU hs cs) :
  FnT Tryd.prog 77 #[.slice UA hs.length cU, expY b] h (fun v _ => ∃ i : Int, v = .int .i64 i ∧ decide (i ≥ 0) = hs.any (against m l)) := by
 refine wL Tryd.func77 rfl Tryd.ntmps77 rfl ?_
 refine qE ?_
 refine qC rfl ?_
 refine qA (qF (v := .int .i64 _) rfl) ?_
 refine qE ?_
 refine qE ?_
 refine qC rfl ?_
 refine qA (qD (v := .slice _ _ _) rfl) ?_
 refine qA (wP rfl rfl) ?_
 refine qA (qD (v := .int .i64 _) rfl) ?_
 refine qT ?_
 refine xp_loopB [4, 5, 8, 9, 10, 11, 12, 13, 14, 15, 16, 17, 18] 0 (α := Nat) (fun k => [(8, .int .i64 k)]) (fun k => _) (fun k h_k => k ≤ hs.length ∧ (hs.take k).any (against m l) = false) (fun k => hs.length - k) (0) ⟨rfl, trivial⟩ (rfl) (⟨Nat.zero_le _, rfl⟩) ?_
 rintro k T1 h_k E_k J_k
 refine wE [] rfl ?_
 obtain ⟨K1, K2⟩ := J_k
 refine qE ?_
 refine qC rfl ?_
 refine qA (qJ (v := .bool _) rfl) ?_
 refine qE ?_
 refine wA rfl (fun hk => ?_) (fun hk => ?_)
 ·skip
  have hkl : k < hs.length := ltI hk
  obtain ⟨hkc, B0, O0, U0, e0, ⟨HA, cH, rfl, r1⟩, ⟨OA, cO, rfl, r2⟩, ⟨XA, cX, rfl, r3⟩⟩ := (EL.ext TU.mono E_k).at hkl
  obtain ⟨g, off, hA, hc⟩ := (R.ext E_k).at (by omega) hkc
  have hc : Cells h_k g (off + k * 3) [.slice HA hs[k].hand.buttons.length cH, .slice OA hs[k].hand.on.length cO, .slice XA hs[k].sounds.length cX] := by rw [← e0]; exact hc
  refine qP ?_
  refine qE ?_
  refine qT ?_
  refine qE ?_
  refine qC rfl ?_
  refine qA (qD (v := .int .i64 _) rfl) ?_
  refine qA (qF (v := .int .i64 _) rfl) ?_
  refine qE ?_
  refine qC rfl ?_
  refine qA (qD (v := _) rfl) ?_
  refine qA (qD (v := .slice _ _ _) rfl) ?_
  refine qA (qD (v := .int .i64 _) rfl) ?_
  refine qA (wU rfl hA rfl rfl rfl (by omega) (by omega)) ?_
  refine op_loadA rfl rfl rfl rfl (hc) ?_
  refine qV  (vs := _) rfl rfl rfl (explains1_ok hph m M l hf hs[k] (X _ (List.getElem_mem hkl)) b y HA OA XA cH cO cX h_k (E_k.cell c1) (B.ext E_k) ⟨r1, r2⟩ r3) ?_
  rintro _ h5 E5 rfl
  refine wA rfl (fun hp => ?_) (fun hp => ?_)
  ·skip
   refine qE ?_
   refine qC rfl ?_
   refine qA (qD (v := .int .i64 _) rfl) ?_
   refine qA (qF (v := .int .i64 _) rfl) ?_
   refine wD ?_
   refine qS (vs := [_]) Tryd.results77 ⟨qM rfl rfl, trivial⟩ fun V => ?_
   refine ⟨(zL (zL E_k E5) (qZ V)), k, rfl, ?_⟩
   have : hs.any (against m l) = true := List.any_eq_true.2 ⟨_, List.getElem_mem hkl, hp⟩
   rw [this]
   exact decide_eq_true (by omega)
  ·skip
   refine qP ?_
   refine qC rfl ?_
   refine qA (qX rfl (by omega)) ?_
   refine qA (qD (v := .int .i64 _) rfl) ?_
   refine ⟨k + 1, ⟨rfl, trivial⟩, rfl, rfl, (zL E_k E5), fun h3 E3 => ⟨hkl, by rw [List.take_succ_eq_append_getElem hkl, List.any_append, K2]; simp [hp]⟩, by first | omega | (dsimp only; omega), ?_⟩
   repeat (first | exact wK _ _ _ | refine wM (by decide) ?_ | refine wJ rfl ?_ | refine wN rfl ?_)
 ·skip
  have hke : k = hs.length := by have := geI hk; omega
  subst hke
  rw [List.take_length] at K2
  refine zA ?_
  refine qE ?_
  refine qC rfl ?_
  refine qA (qF (v := .int .i64 _) rfl) ?_
  refine wD ?_
  refine qS (vs := [_]) Tryd.results77 ⟨qM rfl rfl, trivial⟩ fun V => ?_
  exact ⟨(zL E_k (qZ V)), -1, rfl, by rw [K2]; rfl⟩
theorem containsFunc_ok (hph : Lvl.ph = true) (m : MachP) (M : MOK m) (l : List FaultP) (hf : ∀ f ∈ l, FOK m f) (hs : List HeardP) (X : ∀ x ∈ hs, HeardOK m x) (hl : hs.length < 2 ^ 40) (b : Nat) (y : Value) (UA : Option Addr) (cU : Nat) (cs : List (List Value)) (h : AH) (c1 : cellA h ⟨b, 0, none⟩ = some y) (B : BrkV h m l y) (R : Row h 3 id UA cs) (EL : Els h TU hs cs) :
  FnT Tryd.prog 72 #[.slice UA hs.length cU, expY b] h (fun v _ => v = .bool (hs.any (against m l))) := by
 refine wL Tryd.func72 rfl Tryd.ntmps72 rfl ?_
 refine qE ?_
 refine qC rfl ?_
 refine qA (qF (v := .bool _) rfl) ?_
 refine qE ?_
 refine qC rfl ?_
 refine qA (qD (v := .slice _ _ _) rfl) ?_
 refine qA (qD (v := _) rfl) ?_
 refine qV (caps := []) (vs := [.slice UA hs.length cU, expY b]) rfl rfl rfl (indexFunc_ok hph m M l hf hs X hl b y UA cU cs h ((Ext.refl _).cell c1) (B.ext (Ext.refl _)) (R.ext (Ext.refl _)) (EL.ext TU.mono (Ext.refl _))) ?_
 rintro _ h5 E5 ⟨i, rfl, hi⟩
 refine qA (qJ (v := .bool _) rfl) ?_
 refine qA (qF (v := .bool _) rfl) ?_
 refine wD ?_
 refine qS (vs := [_]) Tryd.results72 ⟨qM rfl rfl, trivial⟩ fun V => ?_
 exact ⟨(zL E5 (qZ V)), boolE hi⟩
theorem explains_ok (hph : Lvl.ph = true) (m : MachP) (M : MOK m) (l : List FaultP) (hf : ∀ f ∈ l, FOK m f) (hl : l.length < 2 ^ 20) (hs : List HeardP) (X : ∀ x ∈ hs, HeardOK m x) (hl2 : hs.length < 2 ^ 40) (AB AQ AL AW AF UA : Option Addr) (cB cQ cL cW cF cU : Nat) (cs : List (List Value)) (h : AH) (RM : MachR h AB AQ AL AW m) (RF : Row h 1 faultC AF l) (R : Row h 3 id UA cs) (EL : Els h TU hs cs) :
  FnT Tryd.prog 61 #[machV AB AQ AL AW cB cQ cL cW m, .slice AF l.length cF, .slice UA hs.length cU] h (fun v _ => v = .bool (explainsB m l hs)) := by
 refine wL Tryd.func61 rfl Tryd.ntmps61 rfl ?_
 refine qE ?_
 refine qC rfl ?_
 refine op_box (v := .agg #[.int .i64 _, .int .i64 _, .int .i64 _, .int .i64 _, .int .i64 _, .slice _ _ _, .slice _ _ _, .slice _ _ _, .slice _ _ _]) (cs := [_, _, _, _, _, _, _, _, _]) rfl rfl fun b3 hb3 => ?_
 refine qH [_] rfl ?_
 refine qA (qF (v := .bool _) rfl) ?_
 refine qE ?_
 refine qC rfl ?_
 refine wH 0 (vs := [.int .i64 _, .int .i64 _, .int .i64 _, .int .i64 _, .int .i64 _, .slice _ _ _, .slice _ _ _, .slice _ _ _, .slice _ _ _]) rfl rfl rfl rfl rfl ?_
 refine qA (qD (v := .slice _ _ _) rfl) ?_
 refine qV (caps := []) (vs := [.agg #[.int .i64 _, .int .i64 _, .int .i64 _, .int .i64 _, .int .i64 _, .slice _ _ _, .slice _ _ _, .slice _ _ _, .slice _ _ _], .slice _ _ _]) rfl rfl rfl (broken_ok m M l hf hl AB AQ AL AW AF cB cQ cL cW cF h (RM.ext (Ext.refl _)) (RF.ext (Ext.refl _))) ?_
 rintro _ h5 E5 ⟨z1, z2, z3, z4, rfl, B⟩
 refine wW (cs := [_]) rfl rfl fun b7 hb7 => ?_
 refine qH [_, _] rfl ?_
 refine wG 1 (v := _) (vs := [_]) (c' := [_]) rfl rfl rfl rfl rfl rfl rfl rfl rfl ?_
 refine qH [_, _] rfl ?_
 refine qE ?_
 refine qC rfl ?_
 refine qA (qD (v := .slice _ _ _) rfl) ?_
 refine qA (pv_makeFunc (vs := []) (ws := [_]) rfl rfl) ?_
 refine wp_pub 1 rfl rfl ?_
 intro h6 E6 hb7
 refine qH [_, _] rfl ?_
 refine qV (caps := []) (vs := [.slice UA hs.length cU, expY b7]) rfl rfl rfl (containsFunc_ok hph m M l hf hs X hl2 b7 (brkY z1 z2 z3 z4) UA cU cs h6 (cell_blk hb7) ⟨z1, z2, z3, z4, rfl, B.ext E6⟩ (R.ext (zL E5 E6)) (EL.ext TU.mono (zL E5 E6))) ?_
 rintro _ h7 E7 rfl
 refine qA (qJ (v := .bool _) rfl) ?_
 refine qA (qF (v := .bool _) rfl) ?_
 refine wD ?_
 refine qS (vs := [_]) Tryd.results61 ⟨qM rfl rfl, trivial⟩ fun V => ?_
 exact ⟨(zL (zL (zL E5 E6) E7) (qZ V)), rfl⟩
end
end Go.Proofs.YtmpahfdiebhdbaaDoor
