/- An own logic over the model, its walks and its plain laws, joined of parts A B C D E F G H I J K M Sp. Conditions: as each theorem states. -/
import Derived.Calls
import Derived.Below
import Derived.Conc.Beside
import Derived.IntWalk
import Derived.Laws.Append
set_option linter.all false
namespace Go.HL
open Go
abbrev AH := Nat → Option Obj
def absH (a : Array Obj) : AH := fun b => a[b]?
def hupd (h : AH) (b : Nat) (o : Obj) : AH := fun c => if c = b then some o else h c
def cellA (h : AH) (a : Addr) : Option Value :=
 match h a.block with
 | some (.cells c _ _) => if a.spot.isSome then none else c[a.off]?
 | _ => none
def frozenO (o : Obj) (off : Nat) : Bool :=
 match o with
 | .cells _ _ (lo, hi) => lo ≤ off && off < hi
 | _ => false
def shapeO : Obj → Option (TypeId × Nat)
 | .cells c e _ => some (e, c.size)
 | _ => none
def setO (o : Obj) (a : Addr) (v : Value) : Obj :=
 match o with
 | .cells c e f => .cells (if a.spot.isSome then c else c.setIfInBounds a.off v) e f
 | o => o
def _root_.Go.Mark.quiet : Mark → Bool
 | .extern _ => true
 | .noRoom => true
 | _ => false
def Obj.noCells : Obj → Prop
 | .cells .. => False
 | .chan _ _ true _ _ true => False
 | _ => True
def plainV : Value → Prop
 | .agg _ => False
 | .tuple _ => False
 | _ => True
def dem (P : Program) {α : Type} : Sem α → AH → (α → AH → Prop) → (Value → AH → Prop) → Prop
 | .pure a, h, K, _ => K a h
 | .load _ a k, h, K, E => ∃ v, cellA h a = some v ∧ dem P (k v) h K E
 | .store _ a v k, h, K, E => plainV v ∧ ∃ o u, h a.block = some o ∧ cellA h a = some u ∧ frozenO o a.off = false ∧ dem P k (hupd h a.block (setO o a v)) K E
 | .new o k, h, K, E => ∀ b, h b = none → dem P (k b) (hupd h b o) K E
 | .shape r k, h, K, E => ∃ o, h r = some o ∧ dem P (k (shapeO o)) h K E
 | .freeze a n k, h, K, E => n ≠ 0 ∧ ∃ c e, h a.block = some (.cells c e (0, 0)) ∧ dem P k (hupd h a.block (.cells c e (a.off, a.off + n))) K E
 | .frozen a k, h, K, E => ∃ o, h a.block = some o ∧ ∀ t, (t = true → frozenO o a.off = true) → dem P (k t) h K E
 | .getObj r k, h, K, E => ∃ o, h r = some o ∧ Obj.noCells o ∧ dem P (k o) h K E
 | .setObj r o k, h, K, E => ∃ o', h r = some o' ∧ Obj.noCells o' ∧ dem P k (hupd h r o) K E
 | .choose q k, h, K, E => if q.forced then dem P (k 0) h K E else ∀ t, dem P (k (q.cut t)) h K E
 | .sys _ _, _, _, _ => False
 | .program k, h, K, E => dem P (k P) h K E
 | .mark m k, h, K, E => m.quiet = true ∧ dem P k h K E
 | .halt (.panic v), h, _, E => E v h
 | .halt _, _, _, _ => False
theorem dem_mono {P : Program} {α : Type} {s : Sem α} {K K' : α → AH → Prop} {E E' : Value → AH → Prop} (hk : ∀ a h, K a h → K' a h) (he : ∀ v h, E v h → E' v h) :
  ∀ {h : AH}, dem P s h K E → dem P s h K' E' := by
 induction s with
 | pure a => intro h; exact hk _ _
 | load m a k ih => intro h ⟨v, h1, h2⟩; exact ⟨v, h1, ih _ h2⟩
 | store m a v k ih => intro h ⟨h0, o, u, h1, h2, h3, h4⟩; exact ⟨h0, o, u, h1, h2, h3, ih h4⟩
 | new o k ih => intro h h1 b hb; exact ih _ (h1 b hb)
 | shape r k ih => intro h ⟨o, h1, h2⟩; exact ⟨o, h1, ih _ h2⟩
 | freeze a n k ih => intro h ⟨hn, c, e, h1, h2⟩; exact ⟨hn, c, e, h1, ih h2⟩
 | frozen a k ih => intro h ⟨o, h1, h2⟩; exact ⟨o, h1, fun t ht => ih t (h2 t ht)⟩
 | getObj r k ih => intro h ⟨o, h1, h2, h3⟩; exact ⟨o, h1, h2, ih _ h3⟩
 | setObj r o k ih => intro h ⟨o', h1, h2, h3⟩; exact ⟨o', h1, h2, ih h3⟩
 | choose q k ih =>
  intro h h1
  unfold dem at h1 ⊢
  split
  ·rename_i hq; rw [if_pos hq] at h1; exact ih _ h1
  ·rename_i hq; rw [if_neg hq] at h1; exact fun t => ih _ (h1 t)
 | sys c k ih => intro h h1; exact h1
 | program k ih => intro h h1; exact ih _ h1
 | mark m k ih => intro h h1; exact ⟨h1.1, ih h1.2⟩
 | halt x =>
  intro h h1
  cases x <;> first | exact he _ _ h1 | exact h1
theorem wJ {P : Program} {α β : Type} {s : Sem α} {f : α → Sem β} {K : β → AH → Prop} {E : Value → AH → Prop} :
  ∀ {h : AH}, dem P s h (fun a h' => dem P (f a) h' K E) E → dem P (s.bind f) h K E := by
 induction s with
 | pure a => intro h h1; exact h1
 | load m a k ih => intro h ⟨v, h1, h2⟩; exact ⟨v, h1, ih _ h2⟩
 | store m a v k ih => intro h ⟨h0, o, u, h1, h2, h3, h4⟩; exact ⟨h0, o, u, h1, h2, h3, ih h4⟩
 | new o k ih => intro h h1 b hb; exact ih _ (h1 b hb)
 | shape r k ih => intro h ⟨o, h1, h2⟩; exact ⟨o, h1, ih _ h2⟩
 | freeze a n k ih => intro h ⟨hn, c, e, h1, h2⟩; exact ⟨hn, c, e, h1, ih h2⟩
 | frozen a k ih => intro h ⟨o, h1, h2⟩; exact ⟨o, h1, fun t ht => ih t (h2 t ht)⟩
 | getObj r k ih => intro h ⟨o, h1, h2, h3⟩; exact ⟨o, h1, h2, ih _ h3⟩
 | setObj r o k ih => intro h ⟨o', h1, h2, h3⟩; exact ⟨o', h1, h2, ih h3⟩
 | choose q k ih =>
  intro h h1
  show dem P (.choose q fun n => (k n).bind f) h K E
  unfold dem at h1 ⊢
  split
  ·rename_i hq; rw [if_pos hq] at h1; exact ih _ h1
  ·rename_i hq; rw [if_neg hq] at h1; exact fun t => ih _ (h1 t)
 | sys c k ih => intro h h1; exact h1
 | program k ih => intro h h1; exact ih _ h1
 | mark m k ih => intro h h1; exact ⟨h1.1, ih h1.2⟩
 | halt x =>
  intro h h1
  cases x <;> exact h1
theorem dem_unbind {P : Program} {α β : Type} {s : Sem α} {f : α → Sem β} {K : β → AH → Prop} {E : Value → AH → Prop} :
  ∀ {h : AH}, dem P (s.bind f) h K E → dem P s h (fun a h' => dem P (f a) h' K E) E := by
 induction s with
 | pure a => intro h h1; exact h1
 | load m a k ih => intro h ⟨v, h1, h2⟩; exact ⟨v, h1, ih _ h2⟩
 | store m a v k ih => intro h ⟨h0, o, u, h1, h2, h3, h4⟩; exact ⟨h0, o, u, h1, h2, h3, ih h4⟩
 | new o k ih => intro h h1 b hb; exact ih _ (h1 b hb)
 | shape r k ih => intro h ⟨o, h1, h2⟩; exact ⟨o, h1, ih _ h2⟩
 | freeze a n k ih => intro h ⟨hn, c, e, h1, h2⟩; exact ⟨hn, c, e, h1, ih h2⟩
 | frozen a k ih => intro h ⟨o, h1, h2⟩; exact ⟨o, h1, fun t ht => ih t (h2 t ht)⟩
 | getObj r k ih => intro h ⟨o, h1, h2, h3⟩; exact ⟨o, h1, h2, ih _ h3⟩
 | setObj r o k ih => intro h ⟨o', h1, h2, h3⟩; exact ⟨o', h1, h2, ih h3⟩
 | choose q k ih =>
  intro h h1
  have h1' : dem P (.choose q fun n => (k n).bind f) h K E := h1
  unfold dem at h1' ⊢
  split
  ·rename_i hq; rw [if_pos hq] at h1'; exact ih _ h1'
  ·rename_i hq; rw [if_neg hq] at h1'; exact fun t => ih _ (h1' t)
 | sys c k ih => intro h h1; exact h1
 | program k ih => intro h h1; exact ih _ h1
 | mark m k ih => intro h h1; exact ⟨h1.1, ih h1.2⟩
 | halt x =>
  intro h h1
  cases x <;> exact h1
structure SameEnv (w w' : World) : Prop where
 tape : w'.tape = w.tape
 os : w'.os = w.os
 output : w'.output = w.output
theorem SameEnv.refl (w : World) : SameEnv w w := ⟨rfl, rfl, rfl⟩
theorem SameEnv.trans {a b c : World} (h : SameEnv a b) (k : SameEnv b c) : SameEnv a c := ⟨k.tape.trans h.tape, k.os.trans h.os, k.output.trans h.output⟩
theorem cell_abs (w : World) (a : Addr) : w.cell? a = cellA (absH w.heap) a := rfl
theorem absH_push (a : Array Obj) (o : Obj) : absH (a.push o) = hupd (absH a) a.size o := by
 funext c
 simp only [absH, hupd, Array.getElem?_push]
theorem absH_fresh (a : Array Obj) : absH a a.size = none := by simp [absH]
theorem absH_set (a : Array Obj) (r : Nat) (o o' : Obj) (h : absH a r = some o') : absH (a.setIfInBounds r o) = hupd (absH a) r o := by
 have hr : r < a.size := by
  rcases Nat.lt_or_ge r a.size with h1 | h1
  ·exact h1
  ·simp [absH, Array.getElem?_eq_none h1] at h
 funext c
 simp only [absH, hupd, Array.getElem?_setIfInBounds]
 by_cases hc : c = r
 ·subst hc; simp [hr]
 ·rw [if_neg (by omega), if_neg hc]
theorem absH_setCell (w : World) (a : Addr) (v : Value) (o : Obj) (h : absH w.heap a.block = some o) : absH (w.setCell a v).heap = hupd (absH w.heap) a.block (setO o a v) := by
 funext c
 simp only [absH, hupd, World.setCell, Array.getElem?_modify]
 by_cases hc : c = a.block
 ·subst hc
  simp only [absH] at h
  rw [if_pos rfl, if_pos rfl, h]
  cases o <;> rfl
 ·rw [if_neg (by omega), if_neg hc]
theorem absH_freeze (w : World) (a : Addr) {n : Nat} (hn : n ≠ 0) {c : Array Value} {e : TypeId} (h : absH w.heap a.block = some (.cells c e (0, 0))) : absH (w.freeze a n).heap = hupd (absH w.heap) a.block (.cells c e (a.off, a.off + n)) := by
 funext x
 simp only [absH, hupd, World.freeze, if_neg hn, Array.getElem?_modify]
 by_cases hc : x = a.block
 ·subst hc
  simp only [absH] at h
  rw [if_pos rfl, if_pos rfl, h]
  rfl
 ·rw [if_neg (by omega), if_neg hc]
theorem freeze_env (w : World) (a : Addr) {n : Nat} (hn : n ≠ 0) : SameEnv w (w.freeze a n) := by
 unfold World.freeze
 rw [if_neg hn]
 exact ⟨rfl, rfl, rfl⟩
theorem out_env {α : Type} {r : Result α} {w w1 : World} {K : α → AH → Prop} {E : Value → AH → Prop}
  (h : (∃ a w', r = .ok a w' ∧ SameEnv w1 w' ∧ K a (absH w'.heap)) ∨ (∃ v w', r = .halt (.panic v) w' ∧ SameEnv w1 w' ∧ E v (absH w'.heap))) (se : SameEnv w w1) :
  (∃ a w', r = .ok a w' ∧ SameEnv w w' ∧ K a (absH w'.heap)) ∨ (∃ v w', r = .halt (.panic v) w' ∧ SameEnv w w' ∧ E v (absH w'.heap)) := by
 rcases h with ⟨a, w', h1, h2, h3⟩ | ⟨a, w', h1, h2, h3⟩
 ·exact .inl ⟨a, w', h1, se.trans h2, h3⟩
 ·exact .inr ⟨a, w', h1, se.trans h2, h3⟩
theorem dem_run {P : Program} {α : Type} {s : Sem α} {K : α → AH → Prop} {E : Value → AH → Prop} :
  ∀ (w : World), dem P s (absH w.heap) K E →
   (∃ a w', s.run P w = .ok a w' ∧ SameEnv w w' ∧ K a (absH w'.heap)) ∨ (∃ v w', s.run P w = .halt (.panic v) w' ∧ SameEnv w w' ∧ E v (absH w'.heap)) := by
 induction s with
 | pure a => intro w h; exact .inl ⟨a, w, rfl, .refl w, h⟩
 | load m a k ih =>
  intro w ⟨v, h1, h2⟩
  rw [← cell_abs] at h1
  simp only [Sem.run, h1]
  exact ih v w h2
 | store m a v k ih =>
  intro w ⟨h0, o, u, h1, h2, h3, h4⟩
  rw [← cell_abs] at h2
  have hfz : w.frozen? a = false := by
   have h1' : w.heap[a.block]? = some o := h1
   simp only [World.frozen?, h1']
   cases o <;> first | rfl | exact h3
  rw [← absH_setCell w a v o h1] at h4
  have := ih (w.setCell a v) h4
  have e : (Sem.store m a v k).run P w = k.run P (w.setCell a v) := by
   cases v <;> first | exact h0.elim | simp [Sem.run, h2, hfz]
  rw [e]
  exact out_env this ⟨rfl, rfl, rfl⟩
 | new o k ih =>
  intro w h
  have h1 := h w.heap.size (absH_fresh w.heap)
  rw [← absH_push] at h1
  exact out_env (ih w.heap.size { w with heap := w.heap.push o } h1) ⟨rfl, rfl, rfl⟩
 | shape r k ih =>
  intro w ⟨o, h1, h2⟩
  have e : w.shape? r = shapeO o := by
   have h1' : w.heap[r]? = some o := h1
   simp only [World.shape?, h1']
   cases o <;> rfl
  simp only [Sem.run, e]
  exact ih _ w h2
 | freeze a n k ih =>
  intro w ⟨hn, c, e, h1, h2⟩
  rw [← absH_freeze w a hn h1] at h2
  exact out_env (ih (w.freeze a n) h2) (freeze_env w a hn)
 | frozen a k ih =>
  intro w ⟨o, h1, h2⟩
  have e : w.frozen? a = frozenO o a.off := by
   have h1' : w.heap[a.block]? = some o := h1
   simp only [World.frozen?, h1']
   cases o <;> rfl
  simp only [Sem.run, e]
  exact ih _ w (h2 _ id)
 | getObj r k ih =>
  intro w ⟨o, h1, h2, h3⟩
  have h1' : w.heap[r]? = some o := h1
  have e : (Sem.getObj r k).run P w = (k o).run P w := by
   simp only [Sem.run, h1']
   cases o <;> first | exact h2.elim | rfl
  rw [e]
  exact ih o w h3
 | setObj r o k ih =>
  intro w ⟨o', h1, h2, h3⟩
  have h1' : w.heap[r]? = some o' := h1
  have e : (Sem.setObj r o k).run P w = k.run P { w with heap := w.heap.setIfInBounds r o } := by
   simp only [Sem.run, h1']
   cases o' <;> first | exact h2.elim | rfl
  rw [e]
  rw [← absH_set w.heap r o o' h1] at h3
  exact out_env (ih { w with heap := w.heap.setIfInBounds r o } h3) ⟨rfl, rfl, rfl⟩
 | choose q k ih =>
  intro w h
  unfold dem at h
  simp only [Sem.run]
  split
  ·rename_i hq; rw [if_pos hq] at h; exact ih 0 w h
  ·rename_i hq; rw [if_neg hq] at h
   exact out_env (ih _ { w with drawn := w.drawn + 1 } (h (w.tape w.drawn q))) ⟨rfl, rfl, rfl⟩
 | sys c k ih => intro w h; exact h.elim
 | program k ih => intro w h; exact ih P w h
 | mark m k ih => intro w h; exact ih w h.2
 | halt x =>
  intro w h
  cases x <;> first | exact h.elim | exact .inr ⟨_, w, rfl, .refl w, h⟩
def hun (h F : AH) : AH := fun b => match h b with | some o => some o | none => F b
def Disj (h F : AH) : Prop := ∀ b, h b = none ∨ F b = none
theorem hun_left {h F : AH} {b : Nat} {o : Obj} (e : h b = some o) : hun h F b = some o := by simp [hun, e]
theorem hun_none {h F : AH} {b : Nat} (e : hun h F b = none) : h b = none ∧ F b = none := by
 unfold hun at e
 cases hb : h b with
 | some o => rw [hb] at e; cases e
 | none => rw [hb] at e; exact ⟨rfl, e⟩
theorem hun_hupd {h F : AH} {b : Nat} {o : Obj} : hun (hupd h b o) F = hupd (hun h F) b o := by
 funext c
 simp only [hun, hupd]
 by_cases hc : c = b <;> simp [hc]
theorem Disj.hupd {h F : AH} {b : Nat} {o : Obj} (d : Disj h F) (hb : F b = none) : Disj (hupd h b o) F := by
 intro c
 by_cases hc : c = b
 ·subst hc; exact .inr hb
 ·simp only [HL.hupd, if_neg hc]; exact d c
theorem Disj.right {h F : AH} {b : Nat} {o : Obj} (d : Disj h F) (e : h b = some o) : F b = none := (d b).resolve_left (by simp [e])
theorem cellA_hun {h F : AH} {a : Addr} {v : Value} (e : cellA h a = some v) : cellA (hun h F) a = some v := by
 unfold cellA at e ⊢
 cases hb : h a.block with
 | none => rw [hb] at e; cases e
 | some o => rw [hun_left hb]; rw [hb] at e; exact e
theorem dem_frame {P : Program} {α : Type} {s : Sem α} {F : AH} {K : α → AH → Prop} {E : Value → AH → Prop} :
  ∀ {h : AH}, Disj h F → dem P s h K E → dem P s (hun h F) (fun a h2 => ∃ h1, h2 = hun h1 F ∧ Disj h1 F ∧ K a h1) (fun v h2 => ∃ h1, h2 = hun h1 F ∧ Disj h1 F ∧ E v h1) := by
 induction s with
 | pure a => intro h d h1; exact ⟨h, rfl, d, h1⟩
 | load m a k ih => intro h d ⟨v, h1, h2⟩; exact ⟨v, cellA_hun h1, ih _ d h2⟩
 | store m a v k ih =>
  intro h d ⟨h0, o, u, h1, h2, h3, h4⟩
  refine ⟨h0, o, u, hun_left h1, cellA_hun h2, h3, ?_⟩
  rw [← hun_hupd]
  exact ih (d.hupd (d.right h1)) h4
 | new o k ih =>
  intro h d h1 b hb
  obtain ⟨hb1, hb2⟩ := hun_none hb
  rw [← hun_hupd]
  exact ih _ (d.hupd hb2) (h1 b hb1)
 | shape r k ih => intro h d ⟨o, h1, h2⟩; exact ⟨o, hun_left h1, ih _ d h2⟩
 | freeze a n k ih =>
  intro h d ⟨hn, c, e, h1, h2⟩
  refine ⟨hn, c, e, hun_left h1, ?_⟩
  rw [← hun_hupd]
  exact ih (d.hupd (d.right h1)) h2
 | frozen a k ih => intro h d ⟨o, h1, h2⟩; exact ⟨o, hun_left h1, fun t ht => ih t d (h2 t ht)⟩
 | getObj r k ih => intro h d ⟨o, h1, h2, h3⟩; exact ⟨o, hun_left h1, h2, ih _ d h3⟩
 | setObj r o k ih =>
  intro h d ⟨o', h1, h2, h3⟩
  refine ⟨o', hun_left h1, h2, ?_⟩
  rw [← hun_hupd]
  exact ih (d.hupd (d.right h1)) h3
 | choose q k ih =>
  intro h d h1
  unfold dem at h1 ⊢
  split
  ·rename_i hq; rw [if_pos hq] at h1; exact ih _ d h1
  ·rename_i hq; rw [if_neg hq] at h1; exact fun t => ih _ d (h1 t)
 | sys c k ih => intro h d h1; exact h1
 | program k ih => intro h d h1; exact ih _ d h1
 | mark m k ih => intro h d h1; exact ⟨h1.1, ih d h1.2⟩
 | halt x =>
  intro h d h1
  cases x <;> first | exact ⟨h, rfl, d, h1⟩ | exact h1
def Fin (h : AH) : Prop := ∃ N, ∀ b, N ≤ b → h b = none
theorem Fin.hupd {h : AH} (f : Fin h) (b : Nat) (o : Obj) : Fin (hupd h b o) := by
 obtain ⟨N, hN⟩ := f
 refine ⟨max N (b + 1), fun c hc => ?_⟩
 have : c ≠ b := by omega
 simp [HL.hupd, this, hN c (by omega)]
theorem Fin.abs (a : Array Obj) : Fin (absH a) := ⟨a.size, fun b hb => by simp [absH, hb]⟩
theorem dem_fin {P : Program} {α : Type} {s : Sem α} {K : α → AH → Prop} {E : Value → AH → Prop} :
  ∀ {h : AH}, Fin h → dem P s h K E → dem P s h (fun a h' => Fin h' ∧ K a h') (fun v h' => Fin h' ∧ E v h') := by
 induction s with
 | pure a => intro h f h1; exact ⟨f, h1⟩
 | load m a k ih => intro h f ⟨v, h1, h2⟩; exact ⟨v, h1, ih _ f h2⟩
 | store m a v k ih => intro h f ⟨h0, o, u, h1, h2, h3, h4⟩; exact ⟨h0, o, u, h1, h2, h3, ih (f.hupd _ _) h4⟩
 | new o k ih => intro h f h1 b hb; exact ih _ (f.hupd _ _) (h1 b hb)
 | shape r k ih => intro h f ⟨o, h1, h2⟩; exact ⟨o, h1, ih _ f h2⟩
 | freeze a n k ih => intro h f ⟨hn, c, e, h1, h2⟩; exact ⟨hn, c, e, h1, ih (f.hupd _ _) h2⟩
 | frozen a k ih => intro h f ⟨o, h1, h2⟩; exact ⟨o, h1, fun t ht => ih t f (h2 t ht)⟩
 | getObj r k ih => intro h f ⟨o, h1, h2, h3⟩; exact ⟨o, h1, h2, ih _ f h3⟩
 | setObj r o k ih => intro h f ⟨o', h1, h2, h3⟩; exact ⟨o', h1, h2, ih (f.hupd _ _) h3⟩
 | choose q k ih =>
  intro h f h1
  unfold dem at h1 ⊢
  split
  ·rename_i hq; rw [if_pos hq] at h1; exact ih _ f h1
  ·rename_i hq; rw [if_neg hq] at h1; exact fun t => ih _ f (h1 t)
 | sys c k ih => intro h f h1; exact h1
 | program k ih => intro h f h1; exact ih _ f h1
 | mark m k ih => intro h f h1; exact ⟨h1.1, ih f h1.2⟩
 | halt x =>
  intro h f h1
  cases x <;> first | exact ⟨f, h1⟩ | exact h1
theorem dem_some {P : Program} {α : Type} {s : Sem α} {K : α → AH → Prop} {E : Value → AH → Prop} :
  ∀ {h : AH}, Fin h → dem P s h K E → (∃ a h', Fin h' ∧ K a h') ∨ (∃ v h', Fin h' ∧ E v h') := by
 induction s with
 | pure a => intro h f h1; exact .inl ⟨a, h, f, h1⟩
 | load m a k ih => intro h f ⟨v, h1, h2⟩; exact ih _ f h2
 | store m a v k ih => intro h f ⟨h0, o, u, h1, h2, h3, h4⟩; exact ih (f.hupd _ _) h4
 | new o k ih => intro h f h1; obtain ⟨N, hN⟩ := f; exact ih _ (Fin.hupd ⟨N, hN⟩ _ _) (h1 N (hN N (Nat.le_refl _)))
 | shape r k ih => intro h f ⟨o, h1, h2⟩; exact ih _ f h2
 | freeze a n k ih => intro h f ⟨hn, c, e, h1, h2⟩; exact ih (f.hupd _ _) h2
 | frozen a k ih => intro h f ⟨o, h1, h2⟩; exact ih false f (h2 false (fun e => by cases e))
 | getObj r k ih => intro h f ⟨o, h1, h2, h3⟩; exact ih _ f h3
 | setObj r o k ih => intro h f ⟨o', h1, h2, h3⟩; exact ih (f.hupd _ _) h3
 | choose q k ih =>
  intro h f h1
  unfold dem at h1
  split at h1
  ·exact ih _ f h1
  ·exact ih _ f (h1 0)
 | sys c k ih => intro h f h1; exact h1.elim
 | program k ih => intro h f h1; exact ih _ f h1
 | mark m k ih => intro h f h1; exact ih f h1.2
 | halt x =>
  intro h f h1
  cases x <;> first | exact .inr ⟨_, h, f, h1⟩ | exact h1.elim
abbrev G (fr : Frame) (cs : List Frame) : Goroutine := { frame := fr, callers := cs, status := .running, dying := none }
def _root_.Go.GStep.tells (es0 : Array Event) (g' : Goroutine) (w' : World) : GStep → Prop
 | .go g w es => g = g' ∧ w = w' ∧ ∀ e ∈ es, e ∈ es0
 | _ => False
theorem seen_sub (P : Program) (fn : FuncId) (es : Array Event) : ∀ e ∈ seen P fn es, e ∈ es := by
 obtain ⟨l⟩ := es
 unfold seen
 simp only [List.size_toArray, List.foldl_toArray']
 have gen : ∀ (l : List Event) (q : Bool) (k : Array Event) (q' : FuncId → Bool), ∀ e ∈ (l.foldl (fun (x : Bool × Array Event) e => match e.loc with
  | .mark (.extern f) => (q' f, x.2)
  | _ => (x.1, if x.1 && !e.sync then x.2 else x.2.push e)) (q, k)).2, e ∈ k ∨ e ∈ l := by
  intro l
  induction l with
  | nil => intro q k q' e he; exact .inl he
  | cons a l ih =>
   intro q k q' e he
   simp only [List.foldl_cons] at he
   split at he
   ·rcases ih _ _ _ e he with h1 | h1
    ·exact .inl h1
    ·exact .inr (List.mem_cons_of_mem _ h1)
   ·rcases ih _ _ _ e he with h1 | h1
    ·split at h1
     ·exact .inl h1
     ·rcases Array.mem_push.1 h1 with h2 | rfl
      ·exact .inl h2
      ·exact .inr (List.mem_cons_self ..)
    ·exact .inr (List.mem_cons_of_mem _ h1)
 intro e he
 rcases gen l _ _ _ e he with h1 | h1
 ·simp at h1
 ·simpa using h1
@[simp] theorem tells_go (es0 es : Array Event) (g g' : Goroutine) (w w' : World) : (GStep.go g w es).tells es0 g' w' ↔ g = g' ∧ w = w' ∧ ∀ e ∈ es, e ∈ es0 := Iff.rfl
@[simp] theorem tells_after (es0 es : Array Event) (s : GStep) (g' : Goroutine) (w' : World) : (GStep.after es s).tells es0 g' w' ↔ s.tells es0 g' w' ∧ ∀ e ∈ es, e ∈ es0 := by
 cases s <;> simp only [GStep.after, GStep.tells, false_and, Array.mem_append]
 constructor
 ·rintro ⟨h1, h2, h3⟩; exact ⟨⟨h1, h2, fun e he => h3 e (.inr he)⟩, fun e he => h3 e (.inl he)⟩
 ·rintro ⟨⟨h1, h2, h3⟩, h4⟩; exact ⟨h1, h2, fun e he => he.elim (h4 e) (h3 e)⟩
@[simp] theorem seen_sub' (P : Program) (fn : FuncId) (es : Array Event) : (∀ e ∈ seen P fn es, e ∈ es) ↔ True := iff_true_intro (seen_sub P fn es)
theorem seen_if (P : Program) (fn : FuncId) (c : Prop) [Decidable c] (es : Array Event) : ∀ e ∈ seen P fn (if c then #[] else es), e ∈ es := by
 intro e he
 have h := seen_sub P fn _ e he
 split at h
 ·simp at h
 ·exact h
theorem tells_eq {es0 : Array Event} {s : GStep} {g' : Goroutine} {w' : World} : s.tells es0 g' w' ↔ ∃ es, s = .go g' w' es ∧ ∀ e ∈ es, e ∈ es0 := by
 cases s <;> simp [GStep.tells]
 constructor
 ·rintro ⟨h1, h2, h3⟩; exact ⟨_, ⟨h1, h2, rfl⟩, h3⟩
 ·rintro ⟨es, ⟨h1, h2, rfl⟩, h3⟩; exact ⟨h1, h2, h3⟩
def StepBy (P : Program) (fr : Frame) (cs : List Frame) {β : Type} (s : Sem β) (ok : β → Prop) (okp : Value → Prop) (nxt : β → Frame × List Frame) (pan : Value → Frame × List Frame) : Prop :=
 ∀ main w, (∀ a w', s.run P w = .ok a w' → ok a → (stepG P main (G fr cs) w).tells (s.events P w #[]) (G (nxt a).1 (nxt a).2) w') ∧
  (∀ v w', s.run P w = .halt (.panic v) w' → okp v → (stepG P main (G fr cs) w).tells (s.events P w #[]) (G (pan v).1 (pan v).2) w')
class Lvl where
 ph : Bool
 co : Option Nat
 ci : Option Nat
def gch (vs : List Value) : Obj := .chan 0 vs.toArray true 0 0 true
def gone : Obj := .chan 1 #[] true 0 0 true
theorem hun_assoc (a b c : AH) : hun (hun a b) c = hun a (hun b c) := by
 funext x
 simp only [hun]
 cases a x <;> rfl
theorem Fin.hun {h F : AH} (f : Fin h) (g : Fin F) : Fin (hun h F) := by
 obtain ⟨N, hN⟩ := f
 obtain ⟨M, hM⟩ := g
 refine ⟨max N M, fun b hb => ?_⟩
 simp [HL.hun, hN b (by omega), hM b (by omega)]
theorem Fin.left {h F : AH} (f : Fin (HL.hun h F)) : Fin h := f.imp fun _ hN b hb => (hun_none (hN b hb)).1
theorem Fin.rest {h F : AH} (d : Disj h F) (f : Fin (HL.hun h F)) : Fin F := f.imp fun _ hN b hb => (hun_none (hN b hb)).2
theorem Disj.hun {a b c : AH} (d : Disj a b) (e : Disj a c) : Disj a (HL.hun b c) := by
 intro x
 rcases d x with h1 | h1
 ·exact .inl h1
 ·rcases e x with h2 | h2
  ·exact .inl h2
  ·exact .inr (by simp [HL.hun, h1, h2])
theorem Disj.of_hun {a b c : AH} (d : Disj (HL.hun a b) c) : Disj a c ∧ Disj b c := by
 constructor
 ·intro x
  rcases d x with h1 | h1
  ·exact .inl (hun_none h1).1
  ·exact .inr h1
 ·intro x
  rcases d x with h1 | h1
  ·exact .inl (hun_none h1).2
  ·exact .inr h1
theorem Disj.hun_left {a b c : AH} (d : Disj a c) (e : Disj b c) : Disj (HL.hun a b) c := by
 intro x
 rcases d x with h1 | h1
 ·rcases e x with h2 | h2
  ·exact .inl (by simp [HL.hun, h1, h2])
  ·exact .inr h2
 ·exact .inr h1
def Far (P : Program) (X : Frame → List Frame → AH → Prop) (fr : Frame) (cs : List Frame) (h : AH) : Prop :=
 ∀ (F : AH) (gs : Array Goroutine) (w : World) (sl : Option (Nat × Nat)) (t : Trace) (q : Nat → Nat),
  gs[0]? = some (G fr cs) → absH w.heap = hun h F → Disj h F → Conc.Leavers P t gs q → Conc.Past (fun _ => False) w.heap.size t →
  ∃ (N : Nat) (gs' : Array Goroutine) (fr' : Frame) (cs' : List Frame) (h' : AH) (w' : World) (sl' : Option (Nat × Nat)) (t' : Trace) (q' : Nat → Nat),
   runNT P N (Conc.crowd gs w sl) t = (.next (Conc.crowd gs' w' sl'), t') ∧ gs'[0]? = some (G fr' cs') ∧ absH w'.heap = hun h' F ∧ Disj h' F ∧ Conc.Leavers P t' gs' q' ∧
    Conc.Past (fun _ => False) w'.heap.size t' ∧ SameEnv w w' ∧ X fr' cs' h'
theorem Far.mono {P : Program} {X Y : Frame → List Frame → AH → Prop} {fr : Frame} {cs : List Frame} {h : AH} (f : Far P X fr cs h) (hxy : ∀ fr cs h, X fr cs h → Y fr cs h) : Far P Y fr cs h := by
 intro F gs w sl t q h1 h2 h3 h4 h5
 obtain ⟨N, gs', fr', cs', h', w', sl', t', q', e1, e2, e3, e4, e5, e6, e7, x⟩ := f F gs w sl t q h1 h2 h3 h4 h5
 exact ⟨N, gs', fr', cs', h', w', sl', t', q', e1, e2, e3, e4, e5, e6, e7, hxy _ _ _ x⟩
theorem Far.frame {P : Program} {X : Frame → List Frame → AH → Prop} {fr : Frame} {cs : List Frame} {h : AH} (f : Far P X fr cs h) {F : AH} (d : Disj h F) :
  Far P (fun fr cs h2 => ∃ h1, h2 = hun h1 F ∧ Disj h1 F ∧ X fr cs h1) fr cs (hun h F) := by
 intro F2 gs w sl t q h1 h2 h3 h4 h5
 obtain ⟨N, gs', fr', cs', h', w', sl', t', q', e1, e2, e3, e4, e5, e6, e7, x⟩ := f (hun F F2) gs w sl t q h1 (by rw [h2, hun_assoc]) (d.hun h3.of_hun.1) h4 h5
 have d1 : Disj h' F := by
  intro b
  rcases e4 b with h6 | h6
  ·exact .inl h6
  ·exact .inr (hun_none h6).1
 have d2 : Disj h' F2 := by
  intro b
  rcases e4 b with h6 | h6
  ·exact .inl h6
  ·exact .inr (hun_none h6).2
 exact ⟨N, gs', fr', cs', hun h' F, w', sl', t', q', e1, e2, by rw [e3, hun_assoc], d2.hun_left h3.of_hun.2, e5, e6, e7, h', rfl, d1, x⟩
theorem Far.fin {P : Program} {X : Frame → List Frame → AH → Prop} {fr : Frame} {cs : List Frame} {h : AH} (f : Far P X fr cs h) : Far P (fun fr cs h => Fin h ∧ X fr cs h) fr cs h := by
 intro F gs w sl t q h1 h2 h3 h4 h5
 obtain ⟨N, gs', fr', cs', h', w', sl', t', q', e1, e2, e3, e4, e5, e6, e7, x⟩ := f F gs w sl t q h1 h2 h3 h4 h5
 exact ⟨N, gs', fr', cs', h', w', sl', t', q', e1, e2, e3, e4, e5, e6, e7, Fin.left (by rw [← e3]; exact Fin.abs _), x⟩
variable [Lvl]
inductive Rch (P : Program) (Q : Frame → List Frame → AH → Prop) : Frame → List Frame → AH → Prop
 | done {fr : Frame} {cs : List Frame} {h : AH} (hq : Q fr cs h) : Rch P Q fr cs h
 | sem {fr : Frame} {cs : List Frame} {h : AH} {β : Type} (s : Sem β) (ok : β → Prop) (okp : Value → Prop) (nxt : β → Frame × List Frame) (pan : Value → Frame × List Frame) (X : β → AH → Prop) (Y : Value → AH → Prop)
   (hs : StepBy P fr cs s ok okp nxt pan) (hd : dem P s h X Y) (hok : ∀ b h', X b h' → ok b) (hokp : ∀ v h', Y v h' → okp v) (hx : ∀ b h', X b h' → Rch P Q (nxt b).1 (nxt b).2 h') (hy : ∀ v h', Y v h' → Rch P Q (pan v).1 (pan v).2 h') : Rch P Q fr cs h
 | far {fr : Frame} {cs : List Frame} {h : AH} (hl : Lvl.ph = true) (X : Frame → List Frame → AH → Prop) (hf : Far P X fr cs h) (hs : ∀ F, Fin F → Disj h F → Fin h → ∃ fr cs h, Fin h ∧ Disj h F ∧ X fr cs h) (hx : ∀ fr cs h, X fr cs h → Rch P Q fr cs h) : Rch P Q fr cs h
 | send {fr : Frame} {cs : List Frame} {h : AH} {c : Nat} (hl : Lvl.co = Option.some c) {v z : Value} {vs : List Value} (hc : h c = some (gch (v :: vs))) (hs : ∀ w, stepG P false (G fr cs) w = .comm (G fr cs) #[Conc.scase c v z] true .send w)
   (hx : Rch P Q (fr.finish undef) cs (hupd h c (gch vs))) : Rch P Q fr cs h
 | recv {fr : Frame} {cs : List Frame} {h : AH} {c : Nat} (hl : Lvl.ci = Option.some c) {v z : Value} {vs : List Value} (hc : h c = some (gch (v :: vs))) (hs : ∀ w, stepG P true (G fr cs) w = .comm (G fr cs) #[Conc.rcase c z] true (.recv true) w)
   (hx : Rch P Q (fr.finish (.tuple #[v, .bool true])) cs (hupd h c (gch vs))) : Rch P Q fr cs h
 | last {fr : Frame} {cs : List Frame} {h : AH} {c : Nat} (hl : Lvl.ci = Option.some c) {z : Value} (hc : h c = some (gch [])) (hs : ∀ w, stepG P true (G fr cs) w = .comm (G fr cs) #[Conc.rcase c z] true (.recv true) w)
   (hx : Rch P Q (fr.finish (.tuple #[z, .bool false])) cs (hupd h c gone)) : Rch P Q fr cs h
theorem Rch.bind {P : Program} {Q R : Frame → List Frame → AH → Prop} {fr : Frame} {cs : List Frame} {h : AH} (r : Rch P Q fr cs h) (hq : ∀ fr cs h, Q fr cs h → Rch P R fr cs h) : Rch P R fr cs h := by
 induction r with
 | done q => exact hq _ _ _ q
 | sem s ok okp nxt pan X Y hs hd hok hokp _ _ ihx ihy => exact .sem s ok okp nxt pan X Y hs hd hok hokp ihx ihy
 | far hl X hf hs _ ih => exact .far hl X hf hs ih
 | send hl hc hs _ ih => exact .send hl hc hs ih
 | recv hl hc hs _ ih => exact .recv hl hc hs ih
 | last hl hc hs _ ih => exact .last hl hc hs ih
theorem Rch.mono {P : Program} {Q R : Frame → List Frame → AH → Prop} {fr : Frame} {cs : List Frame} {h : AH} (r : Rch P Q fr cs h) (hq : ∀ fr cs h, Q fr cs h → R fr cs h) : Rch P R fr cs h :=
 r.bind fun _ _ _ q => .done (hq _ _ _ q)
theorem Rch.frame {P : Program} {Q : Frame → List Frame → AH → Prop} {fr : Frame} {cs : List Frame} {h : AH} (r : Rch P Q fr cs h) {F : AH} (d : Disj h F) :
  Rch P (fun fr cs h2 => ∃ h1, h2 = hun h1 F ∧ Disj h1 F ∧ Q fr cs h1) fr cs (hun h F) := by
 induction r with
 | done q => exact .done ⟨_, rfl, d, q⟩
 | sem s ok okp nxt pan X Y hs hd hok hokp _ _ ihx ihy =>
  refine .sem s ok okp nxt pan _ _ hs (dem_frame d hd) ?_ ?_ ?_ ?_
  ·rintro b h' ⟨h1, rfl, d1, x⟩; exact hok b h1 x
  ·rintro b h' ⟨h1, rfl, d1, x⟩; exact hokp b h1 x
  ·rintro b h' ⟨h1, rfl, d1, x⟩; exact ihx b h1 x d1
  ·rintro v h' ⟨h1, rfl, d1, y⟩; exact ihy v h1 y d1
 | far hl X hf hs _ ih =>
  refine .far hl _ (hf.frame d) (fun F2 f2 d2 f => ?_) ?_
  ·obtain ⟨fr, cs, h1, f1, d1, x⟩ := hs (hun F F2) ((Fin.rest d f).hun f2) (d.hun d2.of_hun.1) f.left
   have e1 : Disj h1 F := by
    intro b
    rcases d1 b with h6 | h6
    ·exact .inl h6
    ·exact .inr (hun_none h6).1
   have e2 : Disj h1 F2 := by
    intro b
    rcases d1 b with h6 | h6
    ·exact .inl h6
    ·exact .inr (hun_none h6).2
   exact ⟨fr, cs, hun h1 F, f1.hun (Fin.rest d f), e2.hun_left d2.of_hun.2, h1, rfl, e1, x⟩
  ·rintro fr cs h2 ⟨h1, rfl, d1, x⟩; exact ih _ _ _ x d1
 | send hl hc hs _ ih =>
  refine .send hl (hun_left hc) hs ?_
  rw [← hun_hupd]
  exact ih (d.hupd (d.right hc))
 | recv hl hc hs _ ih =>
  refine .recv hl (hun_left hc) hs ?_
  rw [← hun_hupd]
  exact ih (d.hupd (d.right hc))
 | last hl hc hs _ ih =>
  refine .last hl (hun_left hc) hs ?_
  rw [← hun_hupd]
  exact ih (d.hupd (d.right hc))
theorem Rch.fin {P : Program} {Q : Frame → List Frame → AH → Prop} {fr : Frame} {cs : List Frame} {h : AH} (r : Rch P Q fr cs h) (f : Fin h) : Rch P (fun fr cs h => Fin h ∧ Q fr cs h) fr cs h := by
 induction r with
 | done q => exact .done ⟨f, q⟩
 | sem s ok okp nxt pan X Y hs hd hok hokp _ _ ihx ihy =>
  refine .sem s ok okp nxt pan _ _ hs (dem_fin f hd) (fun b h' x => hok b h' x.2) (fun b h' x => hokp b h' x.2) ?_ ?_
  ·intro b h' x; exact ihx b h' x.2 x.1
  ·intro b h' y; exact ihy b h' y.2 y.1
 | far hl X hf hs _ ih =>
  refine .far hl _ hf.fin (fun F f2 d f => ?_) (fun fr cs h x => ih fr cs h x.2 x.1)
  obtain ⟨fr, cs, h1, f1, d1, x⟩ := hs F f2 d f
  exact ⟨fr, cs, h1, f1, d1, f1, x⟩
 | send hl hc hs _ ih => exact .send hl hc hs (ih (f.hupd _ _))
 | recv hl hc hs _ ih => exact .recv hl hc hs (ih (f.hupd _ _))
 | last hl hc hs _ ih => exact .last hl hc hs (ih (f.hupd _ _))
theorem Rch.some {P : Program} {Q : Frame → List Frame → AH → Prop} {fr : Frame} {cs : List Frame} {h : AH} (r : Rch P Q fr cs h) (f : Fin h) : ∃ fr cs h, Fin h ∧ Q fr cs h := by
 induction r with
 | done q => exact ⟨_, _, _, f, q⟩
 | sem s ok okp nxt pan X Y hs hd hok hokp _ _ ihx ihy =>
  rcases dem_some f hd with ⟨a, h', f', x⟩ | ⟨v, h', f', y⟩
  ·exact ihx a h' x f'
  ·exact ihy v h' y f'
 | far hl X hf hs _ ih =>
  obtain ⟨fr, cs, h1, f1, _, x⟩ := hs (fun _ => none) ⟨0, fun _ _ => rfl⟩ (fun _ => .inr rfl) f
  exact ih fr cs h1 x f1
 | send hl hc hs _ ih => exact ih (f.hupd _ _)
 | recv hl hc hs _ ih => exact ih (f.hupd _ _)
 | last hl hc hs _ ih => exact ih (f.hupd _ _)
theorem Rch.ctl {P : Program} {Q : Frame → List Frame → AH → Prop} {fr fr' : Frame} {cs cs' : List Frame} {h : AH}
  (hs : ∀ main w, stepG P main (G fr cs) w = .go (G fr' cs') w) (r : Rch P Q fr' cs' h) : Rch P Q fr cs h := by
 refine .sem (Sem.pure ()) (fun _ => True) (fun _ => False) (fun _ => (fr', cs')) (fun _ => (fr', cs')) (fun _ h' => h' = h) (fun _ _ => False) ?_ rfl (fun _ _ _ => trivial) (fun _ _ y => y) ?_ ?_
 ·intro main w
  refine ⟨fun a w' e _ => ?_, fun v w' e _ => by simp [Sem.run] at e⟩
  simp only [Sem.run, Result.ok.injEq] at e
  rw [← e.2, hs main w]
  simp
 ·rintro _ _ rfl; exact r
 ·intro _ _ y; exact y.elim
theorem tells_bare {es0 : Array Event} {s : GStep} {g' : Goroutine} {w' : World} (h : s.tells es0 g' w') : s.bare = .go g' w' := by
 obtain ⟨es, rfl, _⟩ := tells_eq.1 h
 rfl
theorem Rch.lone {P : Program} {Q : Frame → List Frame → AH → Prop} {fr : Frame} {cs : List Frame} {h : AH} (hl : Lvl.ph = false) (hco : Lvl.co = none) (hci : Lvl.ci = none) (r : Rch P Q fr cs h) :
  ∀ w : World, absH w.heap = h → ∃ fr' cs' w', Steps P (lone fr cs w) (lone fr' cs' w') ∧ SameEnv w w' ∧ Q fr' cs' (absH w'.heap) := by
 induction r with
 | done q => intro w hw; exact ⟨_, _, w, .refl _ _, .refl w, by rw [hw]; exact q⟩
 | sem s ok okp nxt pan X Y hs hd hok hokp _ _ ihx ihy =>
  intro w hw
  rw [← hw] at hd
  rcases dem_run w hd with ⟨a, w1, e, se, x⟩ | ⟨v, w1, e, se, y⟩
  ·obtain ⟨fr', cs', w', st, se', q⟩ := ihx a _ x w1 rfl
   exact ⟨fr', cs', w', .head (step_lone_go (tells_bare ((hs true w).1 a w1 e (hok _ _ x)))) st, se.trans se', q⟩
  ·obtain ⟨fr', cs', w', st, se', q⟩ := ihy v _ y w1 rfl
   exact ⟨fr', cs', w', .head (step_lone_go (tells_bare ((hs true w).2 v w1 e (hokp _ _ y)))) st, se.trans se', q⟩
 | far hl' _ _ _ _ _ => rw [hl] at hl'; cases hl'
 | send hl' _ _ _ _ => rw [hco] at hl'; cases hl'
 | recv hl' _ _ _ _ => rw [hci] at hl'; cases hl'
 | last hl' _ _ _ _ => rw [hci] at hl'; cases hl'
end Go.HL
namespace Go.HL
open Go
variable [Lvl]
abbrev Sl := Nat → Value
abbrev Df := List Deferred
abbrev P0 := List (Nat × Obj)
abbrev Pv := List (Option (Nat × Obj))
def arr (n : Nat) (S : Sl) : Array Value := Array.ofFn (n := n) fun i => S i.val
def upd (S : Sl) (d : Nat) (v : Value) : Sl := fun i => if i = d then v else S i
def put (S : Sl) (d : Option Tmp) (v : Value) : Sl := match d with | some d => upd S d v | none => S
theorem arr_size (n : Nat) (S : Sl) : (arr n S).size = n := by simp [arr]
theorem arr_get? (n : Nat) (S : Sl) (t : Nat) : (arr n S)[t]? = if t < n then some (S t) else none := by
 simp only [arr, Array.getElem?_ofFn]
 by_cases h : t < n <;> simp [h]
theorem arr_set (n : Nat) (S : Sl) (d : Nat) (v : Value) : (arr n S).setIfInBounds d v = arr n (upd S d v) := by
 apply Array.ext_getElem?
 intro i
 rw [Array.getElem?_setIfInBounds, arr_get?, arr_get?, arr_size]
 by_cases h : d = i
 ·subst h; simp [upd]
 ·rw [if_neg h]; simp [upd, show i ≠ d from fun e => h e.symm]
theorem arr_getD (n : Nat) (S : Sl) (t : Nat) : (arr n S).getD t undef = if t < n then S t else undef := by
 rw [Array.getD_eq_getD_getElem?, arr_get?]
 by_cases h : t < n <;> simp [h]
def ev (n : Nat) (S : Sl) : Operand → Value
 | .tmp t => if t < n then S t else undef
 | .const v => v
 | .global g => .pointer (some ⟨g, 0, none⟩)
 | .func f => .func (.func f) #[] #[]
def mk (b : Frame) (n : Nat) (S : Sl) (D : Df) (todo : List Item) : Frame :=
 { fn := b.fn, tmps := arr n S, todo := todo, defers := D, mode := .run, kind := b.kind, roundOf := b.roundOf }
theorem mk_eval (b : Frame) (n : Nat) (S : Sl) (D : Df) (todo : List Item) : (mk b n S D todo).eval = ev n S := by
 funext x
 cases x with
 | tmp t => exact arr_getD n S t
 | const v => rfl
 | global g => rfl
 | func f => rfl
def wl0 (h : AH) (L : P0) : AH := fun b => match L.lookup b with | some o => some o | none => h b
structure Valid0 (h : AH) (L : P0) : Prop where
 nd : (L.map (·.1)).Nodup
 fresh : ∀ p ∈ L, h p.1 = none
 fin : Fin h
theorem valid0_nil {h : AH} (f : Fin h) : Valid0 h [] := ⟨List.nodup_nil, fun _ hp => (by cases hp), f⟩
theorem lookup_none_iff (L : P0) (b : Nat) : L.lookup b = none ↔ ∀ p ∈ L, p.1 ≠ b := by
 induction L with
 | nil => simp
 | cons p L ih =>
  obtain ⟨c, o⟩ := p
  by_cases hc : b = c
  ·subst hc; simp [List.lookup]
  ·have : (b == c) = false := by simpa using hc
   simp only [List.lookup, this, ih, List.mem_cons, forall_eq_or_imp]
   constructor
   ·intro h; exact ⟨fun e => hc e.symm, h⟩
   ·intro h; exact h.2
theorem lookup_of_get {L : P0} (nd : (L.map (·.1)).Nodup) {i : Nat} {b : Nat} {o : Obj} (hi : L[i]? = some (b, o)) : L.lookup b = some o := by
 induction L generalizing i with
 | nil => simp at hi
 | cons p L ih =>
  obtain ⟨c, o'⟩ := p
  rw [List.map_cons, List.nodup_cons] at nd
  cases i with
  | zero => simp at hi; obtain ⟨rfl, rfl⟩ := hi; simp [List.lookup]
  | succ i =>
   have hi' : L[i]? = some (b, o) := by simpa using hi
   have hm : b ∈ L.map (·.1) := List.mem_map.2 ⟨(b, o), List.mem_of_getElem? hi', rfl⟩
   have hne : (b == c) = false := by
    simp only [beq_eq_false_iff_ne]
    rintro rfl
    exact nd.1 hm
   simp only [List.lookup, hne]
   exact ih nd.2 hi'
theorem wl0_get {h : AH} {L : P0} (V : Valid0 h L) {i b : Nat} {o : Obj} (hi : L[i]? = some (b, o)) : wl0 h L b = some o := by
 simp [wl0, lookup_of_get V.nd hi]
theorem map_set_fst (L : P0) (i b : Nat) (o o' : Obj) (hi : L[i]? = some (b, o)) : (L.set i (b, o')).map (·.1) = L.map (·.1) := by
 rw [List.map_set]
 apply List.ext_getElem?
 intro j
 rw [List.getElem?_set]
 by_cases hj : i = j
 ·subst hj
  obtain ⟨hl, he⟩ := List.getElem?_eq_some_iff.1 hi
  simp [hl, he]
 ·simp [hj]
theorem wl0_set {h : AH} {L : P0} (V : Valid0 h L) {i b : Nat} {o o' : Obj} (hi : L[i]? = some (b, o)) : hupd (wl0 h L) b o' = wl0 h (L.set i (b, o')) := by
 have nd' : ((L.set i (b, o')).map (·.1)).Nodup := by rw [map_set_fst L i b o o' hi]; exact V.nd
 have hl : i < L.length := (List.getElem?_eq_some_iff.1 hi).1
 funext c
 by_cases hc : c = b
 ·subst hc
  have : (L.set i (c, o'))[i]? = some (c, o') := by simp [hl]
  simp [hupd, wl0, lookup_of_get nd' this]
 ·simp only [hupd, if_neg hc, wl0]
  have : (L.set i (b, o')).lookup c = L.lookup c := by
   clear V nd'
   induction L generalizing i with
   | nil => rfl
   | cons p L ih =>
    obtain ⟨d, o2⟩ := p
    cases i with
    | zero =>
     simp at hi
     obtain ⟨rfl, rfl⟩ := hi
     have : (c == d) = false := by simpa using hc
     simp [List.lookup, this]
    | succ i =>
     simp only [List.set_cons_succ, List.lookup]
     rw [ih (by simpa using hi) (by simpa using hl)]
  rw [this]
theorem valid0_set {h : AH} {L : P0} (V : Valid0 h L) {i b : Nat} {o o' : Obj} (hi : L[i]? = some (b, o)) : Valid0 h (L.set i (b, o')) := by
 refine ⟨by rw [map_set_fst L i b o o' hi]; exact V.nd, fun p hp => ?_, V.fin⟩
 rcases List.mem_or_eq_of_mem_set hp with h1 | rfl
 ·exact V.fresh p h1
 ·exact V.fresh (b, o) (List.mem_of_getElem? hi)
theorem wl0_new {h : AH} {L : P0} {b : Nat} (hb : wl0 h L b = none) (o : Obj) : hupd (wl0 h L) b o = wl0 h (L ++ [(b, o)]) := by
 have hn : L.lookup b = none := by
  cases e : L.lookup b with
  | none => rfl
  | some o => simp [wl0, e] at hb
 funext c
 by_cases hc : c = b
 ·subst hc
  have : (L ++ [(c, o)]).lookup c = some o := by rw [List.lookup_append, hn]; simp [List.lookup]
  simp [hupd, wl0, this]
 ·simp only [hupd, if_neg hc, wl0]
  have e : (L ++ [(b, o)]).lookup c = L.lookup c := by
   rw [List.lookup_append]
   have : (c == b) = false := by simpa using hc
   cases L.lookup c <;> simp [List.lookup, this]
  rw [e]
theorem wl0_none {h : AH} {L : P0} {b : Nat} (hb : wl0 h L b = none) : h b = none ∧ ∀ p ∈ L, p.1 ≠ b := by
 unfold wl0 at hb
 cases e : L.lookup b with
 | some o => simp [e] at hb
 | none => simp only [e] at hb; exact ⟨hb, (lookup_none_iff L b).1 e⟩
theorem valid0_new {h : AH} {L : P0} (V : Valid0 h L) {b : Nat} (hb : wl0 h L b = none) (o : Obj) : Valid0 h (L ++ [(b, o)]) := by
 obtain ⟨h1, h2⟩ := wl0_none hb
 refine ⟨?_, fun p hp => ?_, V.fin⟩
 ·rw [List.map_append, List.nodup_append]
  refine ⟨V.nd, by simp, ?_⟩
  intro x hx y hy
  simp at hy
  subst hy
  obtain ⟨p, hp, rfl⟩ := List.mem_map.1 hx
  exact h2 p hp
 ·rcases List.mem_append.1 hp with h3 | h3
  ·exact V.fresh p h3
  ·simp at h3; subst h3; exact h1
theorem wl0_pub {h : AH} {L : P0} (V : Valid0 h L) {i b : Nat} {o : Obj} (hi : L[i]? = some (b, o)) : wl0 h L = wl0 (hupd h b o) (L.eraseIdx i) := by
 have hb := lookup_of_get V.nd hi
 funext c
 by_cases hc : c = b
 ·subst hc
  have hn : (L.eraseIdx i).lookup c = none := by
   rw [lookup_none_iff]
   intro p hp e
   obtain ⟨j, hj, hji⟩ := List.mem_eraseIdx_iff_getElem?.1 hp
   have h1 : (L.map (·.1))[i]? = some c := by simp [hi]
   have h2 : (L.map (·.1))[j]? = some c := by simp [hji, e]
   exact hj ((List.getElem?_inj (List.getElem?_eq_some_iff.1 h2).1 V.nd).1 (h2.trans h1.symm))
  simp [wl0, hb, hn, hupd]
 ·simp only [wl0, hupd, if_neg hc]
  have : (L.eraseIdx i).lookup c = L.lookup c := by
   clear V hb
   induction L generalizing i with
   | nil => rfl
   | cons p L ih =>
    obtain ⟨d, o2⟩ := p
    cases i with
    | zero =>
     simp at hi
     obtain ⟨rfl, rfl⟩ := hi
     have : (c == d) = false := by simpa using hc
     simp [List.lookup, this]
    | succ i =>
     simp only [List.eraseIdx_cons_succ, List.lookup]
     rw [ih (by simpa using hi)]
  rw [this]
theorem valid0_pub {h : AH} {L : P0} (V : Valid0 h L) {i b : Nat} {o : Obj} (hi : L[i]? = some (b, o)) : Valid0 (hupd h b o) (L.eraseIdx i) := by
 refine ⟨?_, fun p hp => ?_, V.fin.hupd _ _⟩
 ·exact V.nd.sublist ((List.eraseIdx_sublist _ _).map _)
 ·obtain ⟨j, hj, hji⟩ := List.mem_eraseIdx_iff_getElem?.1 hp
  have hne : p.1 ≠ b := by
   intro e
   have h1 : (L.map (·.1))[i]? = some b := by simp [hi]
   have h2 : (L.map (·.1))[j]? = some b := by simp [hji, e]
   exact hj ((List.getElem?_inj (List.getElem?_eq_some_iff.1 h2).1 V.nd).1 (h2.trans h1.symm))
  simp only [hupd, if_neg hne]
  exact V.fresh p (List.mem_of_getElem? hji)
theorem fin_wl0 {h : AH} {L : P0} (V : Valid0 h L) : Fin (wl0 h L) := by
 obtain ⟨N, hN⟩ := V.fin
 have key : ∀ L : P0, ∃ M, ∀ b, M ≤ b → L.lookup b = none := by
  intro L
  induction L with
  | nil => exact ⟨0, fun _ _ => rfl⟩
  | cons p L ih =>
   obtain ⟨M, hM⟩ := ih
   refine ⟨max M (p.1 + 1), fun b hb => ?_⟩
   have : (b == p.1) = false := by simp; omega
   simp only [List.lookup, this]
   exact hM b (by omega)
 obtain ⟨M, hM⟩ := key L
 exact ⟨max N M, fun b hb => by simp only [wl0, hM b (by omega)]; exact hN b (by omega)⟩
def hnil : AH := fun _ => none
theorem wl0_hun {h : AH} {L : P0} (V : Valid0 h L) : wl0 h L = hun h (wl0 hnil L) := by
 funext c
 unfold hun wl0
 cases e : L.lookup c with
 | none => cases h c <;> simp [hnil]
 | some o =>
  have : h c = none := by
   cases e2 : h c with
   | none => rfl
   | some o2 =>
    have hm : ¬ ∀ p ∈ L, p.1 ≠ c := fun k => by rw [(lookup_none_iff L c).2 k] at e; cases e
    simp only [ne_eq, Classical.not_forall, Classical.not_not] at hm
    obtain ⟨p, hp, rfl⟩ := hm
    rw [V.fresh p hp] at e2; cases e2
  rw [this]
theorem disj_of_valid0 {h : AH} {L : P0} (V : Valid0 h L) : Disj h (wl0 hnil L) := by
 intro c
 cases e : L.lookup c with
 | none => right; simp [wl0, e, hnil]
 | some o =>
  left
  have hm : ¬ ∀ p ∈ L, p.1 ≠ c := fun k => by rw [(lookup_none_iff L c).2 k] at e; cases e
  simp only [ne_eq, Classical.not_forall, Classical.not_not] at hm
  obtain ⟨p, hp, rfl⟩ := hm
  exact V.fresh p hp
theorem valid0_of_disj {h : AH} {L : P0} (nd : (L.map (·.1)).Nodup) (f : Fin h) (d : Disj h (wl0 hnil L)) : Valid0 h L := by
 refine ⟨nd, fun p hp => ?_, f⟩
 rcases d p.1 with h1 | h1
 ·exact h1
 ·have := (wl0_none h1).2 p hp
  exact absurd rfl this
def cl (L : Pv) : P0 := L.filterMap id
def wl (h : AH) (L : Pv) : AH := wl0 h (cl L)
def Valid (h : AH) (L : Pv) : Prop := Valid0 h (cl L)
theorem Valid.fin {h : AH} {L : Pv} (V : Valid h L) : Fin h := Valid0.fin V
theorem wl_nil (h : AH) : wl h [] = h := rfl
theorem valid_nil {h : AH} (f : Fin h) : Valid h [] := valid0_nil f
theorem cl_at : ∀ (L : Pv) {i b : Nat} {o : Obj}, L[i]? = some (some (b, o)) → ∃ j, (cl L)[j]? = some (b, o) ∧ (∀ o', cl (L.set i (some (b, o'))) = (cl L).set j (b, o')) ∧ cl (L.set i none) = (cl L).eraseIdx j
 | [], i, b, o, h => by simp at h
 | none :: L, i, b, o, h => by
  cases i with
  | zero => simp at h
  | succ i =>
   obtain ⟨j, h1, h2, h3⟩ := cl_at L (by simpa using h)
   exact ⟨j, by simpa [cl] using h1, fun o' => by simpa [cl] using h2 o', by simpa [cl] using h3⟩
 | some p :: L, i, b, o, h => by
  cases i with
  | zero => simp at h; subst h; exact ⟨0, by simp [cl], fun o' => by simp [cl], by simp [cl]⟩
  | succ i =>
   obtain ⟨j, h1, h2, h3⟩ := cl_at L (by simpa using h)
   exact ⟨j + 1, by simpa [cl] using h1, fun o' => by simpa [cl] using h2 o', by simpa [cl] using h3⟩
theorem cl_append (L M : Pv) : cl (L ++ M) = cl L ++ cl M := List.filterMap_append
theorem wl_get {h : AH} {L : Pv} (V : Valid h L) {i b : Nat} {o : Obj} (hi : L[i]? = some (some (b, o))) : wl h L b = some o := by
 obtain ⟨j, h1, _⟩ := cl_at L hi
 exact wl0_get V h1
theorem wl_fresh {h : AH} {L : Pv} (V : Valid h L) {i b : Nat} {o : Obj} (hi : L[i]? = some (some (b, o))) : h b = none := by
 obtain ⟨j, h1, _⟩ := cl_at L hi
 exact V.fresh _ (List.mem_of_getElem? h1)
theorem wl_set {h : AH} {L : Pv} (V : Valid h L) {i b : Nat} {o o' : Obj} (hi : L[i]? = some (some (b, o))) : hupd (wl h L) b o' = wl h (L.set i (some (b, o'))) := by
 obtain ⟨j, h1, h2, _⟩ := cl_at L hi
 unfold wl
 rw [h2]
 exact wl0_set V h1
theorem valid_set {h : AH} {L : Pv} (V : Valid h L) {i b : Nat} {o o' : Obj} (hi : L[i]? = some (some (b, o))) : Valid h (L.set i (some (b, o'))) := by
 obtain ⟨j, h1, h2, _⟩ := cl_at L hi
 unfold Valid
 rw [h2]
 exact valid0_set V h1
theorem wl_new {h : AH} {L : Pv} {b : Nat} (hb : wl h L b = none) (o : Obj) : hupd (wl h L) b o = wl h (L ++ [some (b, o)]) := by
 unfold wl at hb ⊢
 rw [wl0_new hb, cl_append]
 rfl
theorem valid_new {h : AH} {L : Pv} (V : Valid h L) {b : Nat} (hb : wl h L b = none) (o : Obj) : Valid h (L ++ [some (b, o)]) := by
 unfold Valid
 rw [cl_append]
 exact valid0_new V hb o
theorem wl_pub {h : AH} {L : Pv} (V : Valid h L) {i b : Nat} {o : Obj} (hi : L[i]? = some (some (b, o))) : wl h L = wl (hupd h b o) (L.set i none) := by
 obtain ⟨j, h1, _, h3⟩ := cl_at L hi
 unfold wl
 rw [h3]
 exact wl0_pub V h1
theorem valid_pub {h : AH} {L : Pv} (V : Valid h L) {i b : Nat} {o : Obj} (hi : L[i]? = some (some (b, o))) : Valid (hupd h b o) (L.set i none) := by
 obtain ⟨j, h1, _, h3⟩ := cl_at L hi
 unfold Valid
 rw [h3]
 exact valid0_pub V h1
theorem fin_wl {h : AH} {L : Pv} (V : Valid h L) : Fin (wl h L) := fin_wl0 V
theorem cl_fill : ∀ (L : Pv) {i : Nat} (p : Nat × Obj), L[i]? = some none → (cl (L.set i (some p))).Perm (cl (L ++ [some p]))
 | [], i, p, h => by simp at h
 | x :: L, i, p, h => by
  cases i with
  | zero =>
   simp at h; subst h
   have : cl (none :: L ++ [some p]) = cl L ++ [p] := by simp [cl]
   rw [this]
   have : cl ((none :: L).set 0 (some p)) = p :: cl L := by simp [cl]
   rw [this]
   exact (List.perm_append_singleton p (cl L)).symm
  | succ i =>
   have ih := cl_fill L p (i := i) (by simpa using h)
   cases x with
   | none => simpa [cl] using ih
   | some q => simpa [cl] using ih
theorem lookup_perm {L M : P0} (hp : L.Perm M) (nd : (L.map (·.1)).Nodup) (b : Nat) : L.lookup b = M.lookup b := by
 have nd' : (M.map (·.1)).Nodup := (hp.map _).nodup_iff.1 nd
 cases hl : L.lookup b with
 | none =>
  have := (lookup_none_iff L b).1 hl
  exact ((lookup_none_iff M b).2 fun p hm => this p (hp.mem_iff.2 hm)).symm
 | some o =>
  have hm : (b, o) ∈ L := by
   clear hp nd nd'
   induction L with
   | nil => cases hl
   | cons p L ih =>
    obtain ⟨c, oc⟩ := p
    simp only [List.lookup] at hl
    split at hl
    ·rename_i hbc
     rw [beq_iff_eq] at hbc
     cases hl
     subst hbc
     exact List.mem_cons_self ..
    ·exact List.mem_cons_of_mem _ (ih hl)
  obtain ⟨i, hi⟩ := List.getElem?_of_mem (hp.mem_iff.1 hm)
  exact (lookup_of_get nd' hi).symm
theorem wl_fill {h : AH} {L : Pv} (V : Valid h L) {i b : Nat} (hi : L[i]? = some none) (hb : wl h L b = none) (o : Obj) : hupd (wl h L) b o = wl h (L.set i (some (b, o))) ∧ Valid h (L.set i (some (b, o))) := by
 have hp := cl_fill L (b, o) hi
 have V1 := valid_new V hb o
 have nd : ((cl (L.set i (some (b, o)))).map (·.1)).Nodup := (hp.map _).nodup_iff.2 V1.nd
 refine ⟨?_, nd, fun p hm => V1.fresh p (hp.mem_iff.1 hm), V.fin⟩
 rw [wl_new hb]
 funext c
 show (match (cl (L ++ [some (b, o)])).lookup c with | some o => some o | none => h c) = match (cl (L.set i (some (b, o)))).lookup c with | some o => some o | none => h c
 rw [lookup_perm hp nd c]
def Ext (h h' : AH) : Prop := ∀ b o, h b = some o → h' b = some o
theorem Ext.refl (h : AH) : Ext h h := fun _ _ e => e
theorem Ext.trans {a b c : AH} (h : Ext a b) (k : Ext b c) : Ext a c := fun x o e => k x o (h x o e)
theorem zP {a b c : AH} (x : Ext a b) (y : Ext b c) : Ext a c := x.trans y
theorem Ext.new {h0 h : AH} (e : Ext h0 h) {b : Nat} (hb : h b = none) (o : Obj) : Ext h0 (hupd h b o) := by
 intro c o' hc
 have h1 := e c o' hc
 have : c ≠ b := fun e => by subst e; rw [hb] at h1; cases h1
 simp [hupd, this, h1]
theorem Ext.own {h0 h : AH} (e : Ext h0 h) {b : Nat} (hb : h0 b = none) (o : Obj) : Ext h0 (hupd h b o) := by
 intro c o' hc
 have : c ≠ b := fun e => by subst e; rw [hb] at hc; cases hc
 simp [hupd, this, e c o' hc]
theorem wE {h : AH} {L : Pv} (V : Valid h L) : Ext h (wl h L) := by
 intro b o e
 unfold wl
 rw [wl0_hun V]
 exact hun_left e
theorem Ext.cell {h h' : AH} (e : Ext h h') {a : Addr} {v : Value} (c : cellA h a = some v) : cellA h' a = some v := by
 unfold cellA at c ⊢
 cases hb : h a.block with
 | none => rw [hb] at c; cases c
 | some o => rw [e _ _ hb]; rw [hb] at c; exact c
def EnterT (P : Program) (fr0 : Frame) (h : AH) (K : Value → AH → Prop) (E : Value → AH → Prop) : Prop :=
 Fin h → ∀ (c : Frame) (cs : List Frame), Rch P (fun fr cs' h' => cs' = cs ∧ ((∃ v, fr = c.finish v ∧ K v h') ∨ (∃ v, fr = c.raise [{ v := v, recovered := false }] ∧ E v h')))
  fr0 (c :: cs) h
def CallT (P : Program) (f : FuncId) (args : Array Value) (h : AH) (K : Value → AH → Prop) (E : Value → AH → Prop) : Prop := EnterT P (Frame.enter P f args .normal) h K E
def noE : Value → AH → Prop := fun _ _ => False
theorem EnterT.mono {P : Program} {fr0 : Frame} {h : AH} {K K' E E' : Value → AH → Prop} (r : EnterT P fr0 h K E)
  (hk : ∀ v h', K v h' → K' v h') (he : ∀ v h', E v h' → E' v h') : EnterT P fr0 h K' E' := by
 intro hfin c cs
 refine (r hfin c cs).mono ?_
 rintro fr cs' h' ⟨rfl, ⟨v, e, k⟩ | ⟨v, e, k⟩⟩
 ·exact ⟨rfl, .inl ⟨v, e, hk _ _ k⟩⟩
 ·exact ⟨rfl, .inr ⟨v, e, he _ _ k⟩⟩
theorem CallT.mono {P : Program} {f : FuncId} {args : Array Value} {h : AH} {K K' E E' : Value → AH → Prop} (r : CallT P f args h K E)
  (hk : ∀ v h', K v h' → K' v h') (he : ∀ v h', E v h' → E' v h') : CallT P f args h K' E' := EnterT.mono r hk he
theorem EnterT.fin {P : Program} {fr0 : Frame} {H : AH} {K E : Value → AH → Prop} (c : EnterT P fr0 H K E) : EnterT P fr0 H (fun v h => Fin h ∧ K v h) (fun v h => Fin h ∧ E v h) := by
 intro hf c0 cs
 refine ((c hf c0 cs).fin hf).mono ?_
 rintro fr cs' h' ⟨f', rfl, ⟨v, e, k⟩ | ⟨v, e, k⟩⟩
 ·exact ⟨rfl, .inl ⟨v, e, f', k⟩⟩
 ·exact ⟨rfl, .inr ⟨v, e, f', k⟩⟩
theorem CallT.fin {P : Program} {f : FuncId} {args : Array Value} {H : AH} {K E : Value → AH → Prop} (c : CallT P f args H K E) : CallT P f args H (fun v h => Fin h ∧ K v h) (fun v h => Fin h ∧ E v h) := EnterT.fin c
theorem fin_left {h F : AH} (f : Fin (hun h F)) : Fin h := by
 obtain ⟨N, hN⟩ := f
 exact ⟨N, fun b hb => (hun_none (hN b hb)).1⟩
theorem EnterT.frame {P : Program} {fr0 : Frame} {h F : AH} {K E : Value → AH → Prop} (r : EnterT P fr0 h K E) (d : Disj h F) :
  EnterT P fr0 (hun h F) (fun v h2 => ∃ h1, h2 = hun h1 F ∧ Disj h1 F ∧ Fin h1 ∧ K v h1) (fun v h2 => ∃ h1, h2 = hun h1 F ∧ Disj h1 F ∧ Fin h1 ∧ E v h1) := by
 intro hfin c cs
 refine (((r (fin_left hfin) c cs).fin (fin_left hfin)).frame d).mono ?_
 rintro fr cs' h' ⟨h1, rfl, d1, f1, rfl, ⟨v, e, k⟩ | ⟨v, e, k⟩⟩
 ·exact ⟨rfl, .inl ⟨v, e, h1, rfl, d1, f1, k⟩⟩
 ·exact ⟨rfl, .inr ⟨v, e, h1, rfl, d1, f1, k⟩⟩
theorem CallT.frame {P : Program} {f : FuncId} {args : Array Value} {h F : AH} {K E : Value → AH → Prop} (r : CallT P f args h K E) (d : Disj h F) :
  CallT P f args (hun h F) (fun v h2 => ∃ h1, h2 = hun h1 F ∧ Disj h1 F ∧ Fin h1 ∧ K v h1) (fun v h2 => ∃ h1, h2 = hun h1 F ∧ Disj h1 F ∧ Fin h1 ∧ E v h1) := EnterT.frame r d
theorem CallT.priv {P : Program} {f : FuncId} {args : Array Value} {h : AH} {L : Pv} {K E : Value → AH → Prop} (V : Valid h L) (r : CallT P f args h K E) :
  CallT P f args (wl h L) (fun v h2 => ∃ h1, h2 = wl h1 L ∧ Valid h1 L ∧ K v h1) (fun v h2 => ∃ h1, h2 = wl h1 L ∧ Valid h1 L ∧ E v h1) := by
 unfold wl
 rw [wl0_hun V]
 refine (r.frame (disj_of_valid0 V)).mono ?_ ?_ <;>
 ·rintro v h2 ⟨h1, rfl, d, f1, k⟩
  exact ⟨h1, (wl0_hun (valid0_of_disj V.nd f1 d)).symm, valid0_of_disj V.nd f1 d, k⟩
def upon (P : Program) (K : Value → AH → Prop) (E : Value → AH → Prop) : Next → AH → Prop
 | .value v, h => K v h
 | .skip, h => K undef h
 | .enter f args, h => CallT P f args h K E
 | .round l f tmps a c, h => EnterT P (Frame.round l f tmps a c .normal) h K E
 | _, _ => False
def opW (P : Program) (n : Nat) (o : Oper) (S : Sl) (h : AH) (K : Value → AH → Prop) (E : Value → AH → Prop) : Prop :=
 dem P (execOp (ev n S) o) h (upon P K E) E
theorem upon_mono {P : Program} {K K' E E' : Value → AH → Prop} (hk : ∀ v h', K v h' → K' v h') (he : ∀ v h', E v h' → E' v h') {x : Next} {h : AH} (u : upon P K E x h) : upon P K' E' x h := by
 cases x <;> first | exact hk _ _ u | exact EnterT.mono u hk he | exact u
theorem opW_mono {P : Program} {n : Nat} {o : Oper} {S : Sl} {h : AH} {K K' E E' : Value → AH → Prop} (hk : ∀ v h', K v h' → K' v h') (he : ∀ v h', E v h' → E' v h')
  (r : opW P n o S h K E) : opW P n o S h K' E' := dem_mono (fun _ _ u => upon_mono hk he u) he r
theorem upon_frame {P : Program} {K E : Value → AH → Prop} {x : Next} {H F : AH} (f : Fin H) (d : Disj H F) (u : upon P K E x H) :
  upon P (fun v H2 => ∃ H1, H2 = hun H1 F ∧ Disj H1 F ∧ Fin H1 ∧ K v H1) (fun v H2 => ∃ H1, H2 = hun H1 F ∧ Disj H1 F ∧ Fin H1 ∧ E v H1) x (hun H F) := by
 cases x with
 | value v => exact ⟨H, rfl, d, f, u⟩
 | skip => exact ⟨H, rfl, d, f, u⟩
 | enter g args => exact EnterT.frame u d
 | round l g tmps a c => exact EnterT.frame u d
 | _ => exact u.elim
theorem semN_frame {P : Program} {s : Sem Next} {H F : AH} {K E : Value → AH → Prop} (w : dem P s H (upon P K E) E) (f : Fin H) (d : Disj H F) :
  dem P s (hun H F) (upon P (fun v H2 => ∃ H1, H2 = hun H1 F ∧ Disj H1 F ∧ Fin H1 ∧ K v H1) (fun v H2 => ∃ H1, H2 = hun H1 F ∧ Disj H1 F ∧ Fin H1 ∧ E v H1)) (fun v H2 => ∃ H1, H2 = hun H1 F ∧ Disj H1 F ∧ Fin H1 ∧ E v H1) := by
 refine dem_mono ?_ ?_ (dem_frame d (dem_fin f w))
 ·rintro x H2 ⟨H1, rfl, d1, f1, u⟩; exact upon_frame f1 d1 u
 ·rintro v H2 ⟨H1, rfl, d1, f1, u⟩; exact ⟨H1, rfl, d1, f1, u⟩
theorem opW_frameE {P : Program} {n : Nat} {o : Oper} {S : Sl} {H F : AH} {K E : Value → AH → Prop} (w : opW P n o S H K E) (f : Fin H) (d : Disj H F) :
  opW P n o S (hun H F) (fun v H2 => ∃ H1, H2 = hun H1 F ∧ Disj H1 F ∧ Fin H1 ∧ K v H1) (fun v H2 => ∃ H1, H2 = hun H1 F ∧ Disj H1 F ∧ Fin H1 ∧ E v H1) := semN_frame w f d
def opL (P : Program) (n : Nat) (o : Oper) (S : Sl) (L : Pv) (h : AH) (K : Value → Pv → AH → Prop) (E : Value → Pv → AH → Prop) : Prop :=
 Valid h L → opW P n o S (wl h L) (fun v H => ∃ L' h', H = wl h' L' ∧ Valid h' L' ∧ K v L' h') (fun v H => ∃ L' h', H = wl h' L' ∧ Valid h' L' ∧ E v L' h')
inductive Ex where
 | normal
 | exit (id : Nat)
 | ret
 | panic (v : Value)
def AtX (b : Frame) (n : Nat) (k : List Item) (e : Ex) (S : Sl) (D : Df) (fr : Frame) : Prop :=
 match e with
 | .normal => fr = mk b n S D k
 | .exit id => (∀ k', exitTo id k = some k' → fr = mk b n S D k') ∧ (exitTo id k = none → ∃ x, exitTo id x = none ∧ fr = mk b n S D (.code (.exit id) :: x))
 | .ret => (b.roundOf = none → ∃ todo, fr = { mk b n S D todo with mode := .returning }) ∧ (b.roundOf ≠ none → ∃ x, fr = mk b n S D (.code .ret :: x))
 | .panic v => ∃ todo, fr = { mk b n S D todo with mode := .panicking [{ v := v, recovered := false }] }
def marksOf (D : Df) : List Nat := D.filterMap fun d => match d.target with | .collected b => some b | _ => none
def mkH (D : Df) : AH := fun b => if (marksOf D).elem b then some (.deferred (some [])) else none
theorem hun_nil (h : AH) : hun h hnil = h := by
 funext b
 unfold hun hnil
 cases h b <;> rfl
theorem disj_nil (h : AH) : Disj h hnil := fun _ => .inr rfl
theorem fin_hun {h F : AH} (f : Fin h) (g : Fin F) : Fin (hun h F) := by
 obtain ⟨N, hN⟩ := f
 obtain ⟨M, hM⟩ := g
 exact ⟨max N M, fun b hb => by unfold hun; rw [hN b (by omega)]; exact hM b (by omega)⟩
theorem mkH_fin (D : Df) : Fin (mkH D) := by
 have key : ∀ l : List Nat, ∃ N, ∀ b, N ≤ b → l.elem b = false := by
  intro l
  induction l with
  | nil => exact ⟨0, fun _ _ => rfl⟩
  | cons a l ih =>
   obtain ⟨N, hN⟩ := ih
   refine ⟨max N (a + 1), fun b hb => ?_⟩
   have : (b == a) = false := by simp; omega
   rw [List.elem_cons, this, hN b (by omega)]
 obtain ⟨N, hN⟩ := key (marksOf D)
 exact ⟨N, fun b hb => by unfold mkH; rw [hN b hb]; rfl⟩
structure Fits (h : AH) (L : Pv) (D : Df) (H : AH) : Prop where
 valid : Valid h L
 disj : Disj (wl h L) (mkH D)
 nd : (marksOf D).Nodup
 eq : H = hun (wl h L) (mkH D)
theorem Fits.nil {h : AH} {L : Pv} (V : Valid h L) : Fits h L [] (wl h L) := ⟨V, disj_nil _, List.nodup_nil, (hun_nil _).symm⟩
theorem Fits.fin {h : AH} {L : Pv} {D : Df} {H : AH} (f : Fits h L D H) : Fin H := by
 rw [f.eq]
 exact fin_hun (fin_wl f.valid) (mkH_fin D)
theorem Fits.turn {h h' : AH} {L L' : Pv} {D : Df} {H : AH} (f : Fits h L D H) (e : wl h L = wl h' L') (V : Valid h' L') : Fits h' L' D H := ⟨V, e ▸ f.disj, f.nd, e ▸ f.eq⟩
theorem Fits.step {h h' : AH} {L L' : Pv} {D : Df} {H H' : AH} (f : Fits h L D H) (V : Valid h' L') (d : Disj (wl h' L') (mkH D)) (e : H' = hun (wl h' L') (mkH D)) : Fits h' L' D H' := ⟨V, d, f.nd, e⟩
abbrev Post := Ex → Sl → Df → Pv → AH → Prop
end Go.HL
namespace Go.HL
open Go
variable [Lvl]
def Goes (P : Program) (n : Nat) (ro : Option Nat) (items : List Item) (K : Post) (S : Sl) (D : Df) (L : Pv) (h : AH) : Prop :=
 ∀ H, Fits h L D H → ∀ b : Frame, b.roundOf = ro → ∀ (k : List Item) (cs : List Frame),
  Rch P (fun fr cs' H' => cs' = cs ∧ ∃ e S' D' L' h', Fits h' L' D' H' ∧ K e S' D' L' h' ∧ AtX b n k e S' D' fr) (mk b n S D (items ++ k)) cs H
def xp (P : Program) (n : Nat) (ro : Option Nat) (c : Code) (K : Post) (S : Sl) (D : Df) (L : Pv) (h : AH) : Prop := Goes P n ro [.code c] K S D L h
section
variable {P : Program} {n : Nat} {ro : Option Nat} {K : Post} {S : Sl} {D : Df} {L : Pv} {h : AH}
theorem Goes.mono {items : List Item} {K' : Post} (g : Goes P n ro items K S D L h) (hk : ∀ e S D L h, K e S D L h → K' e S D L h) : Goes P n ro items K' S D L h := by
 intro H V b hb k cs
 refine (g H V b hb k cs).mono ?_
 rintro fr cs' H' ⟨rfl, e, S', D', L', h', V', kk, a⟩
 exact ⟨rfl, e, S', D', L', h', V', hk _ _ _ _ _ kk, a⟩
theorem xp_mono {c : Code} {K' : Post} (hk : ∀ e S D L h, K e S D L h → K' e S D L h) (g : xp P n ro c K S D L h) : xp P n ro c K' S D L h := Goes.mono g hk
theorem goes_nil (hk : K .normal S D L h) : Goes P n ro [] K S D L h := fun _ V _ _ _ _ =>
 .done ⟨rfl, .normal, S, D, L, h, V, hk, rfl⟩
theorem goes_step {items items' : List Item} (hs : ∀ (b : Frame), b.roundOf = ro → ∀ (k : List Item) (cs : List Frame) (main : Bool) (w : World), stepG P main (G (mk b n S D (items ++ k)) cs) w = .go (G (mk b n S D (items' ++ k)) cs) w)
  (g : Goes P n ro items' K S D L h) : Goes P n ro items K S D L h :=
 fun H V b hb k cs => .ctl (fun main w => hs b hb k cs main w) (g H V b hb k cs)
def thenK (next : Sl → Df → Pv → AH → Prop) (K : Post) : Post
 | .normal, S, D, L, h => next S D L h
 | e, S, D, L, h => K e S D L h
def passes : List Item → Prop
 | [] => True
 | .inBlock _ :: _ => False
 | .inScope _ :: _ => False
 | _ :: r => passes r
theorem exitTo_passes (id : Nat) : ∀ (l k : List Item), passes l → exitTo id (l ++ k) = exitTo id k
 | [], _, _ => rfl
 | .inBlock _ :: _, _, hp => hp.elim
 | .inScope _ :: _, _, hp => hp.elim
 | .code _ :: r, k, hp => exitTo_passes id r k hp
 | .inLoop _ :: r, k, hp => exitTo_passes id r k hp
 | .inRegion _ _ :: r, k, hp => exitTo_passes id r k hp
 | .inRangeFunc _ :: r, k, hp => exitTo_passes id r k hp
 | .endRangeFunc _ :: r, k, hp => exitTo_passes id r k hp
 | .beginRound :: r, k, hp => exitTo_passes id r k hp
 | .call _ _ _ _ :: r, k, hp => exitTo_passes id r k hp
 | .extern _ _ :: r, k, hp => exitTo_passes id r k hp
theorem AtX.pass {b : Frame} {k l : List Item} {e : Ex} {fr : Frame} (hl : passes l) (he : e ≠ .normal) (a : AtX b n (l ++ k) e S D fr) : AtX b n k e S D fr := by
 cases e with
 | normal => exact absurd rfl he
 | exit id => simp only [AtX] at a ⊢; rw [exitTo_passes id l k hl] at a; exact a
 | ret => exact a
 | panic v => exact a
theorem goes_append {x y : List Item} (hy : passes y) (g : Goes P n ro x (thenK (fun S D L h => Goes P n ro y K S D L h) K) S D L h) : Goes P n ro (x ++ y) K S D L h := by
 intro H V b hb k cs
 have g1 := g H V b hb (y ++ k) cs
 rw [← List.append_assoc] at g1
 refine g1.bind ?_
 rintro fr cs' H' ⟨rfl, e, S', D', L', h', V', kk, a⟩
 cases e with
 | normal =>
  have a' : fr = mk b n S' D' (y ++ k) := a
  subst a'
  exact kk H' V' b hb k cs'
 | exit id => exact .done ⟨rfl, .exit id, S', D', L', h', V', kk, AtX.pass hy (by simp) a⟩
 | ret => exact .done ⟨rfl, .ret, S', D', L', h', V', kk, AtX.pass hy (by simp) a⟩
 | panic v => exact .done ⟨rfl, .panic v, S', D', L', h', V', kk, AtX.pass hy (by simp) a⟩
theorem qT (hk : K .normal S D L h) : xp P n ro .skip K S D L h :=
 goes_step (items' := []) (fun b hb k cs main w => by simp [stepG, stepG.exec, mk]) (goes_nil hk)
theorem qF {x y : Code} (g : xp P n ro x (thenK (xp P n ro y K) K) S D L h) : xp P n ro (.seq x y) K S D L h :=
 goes_step (items' := [.code x] ++ [.code y]) (fun b hb k cs main w => by simp [stepG, stepG.exec, mk]) (goes_append (x := [.code x]) (y := [.code y]) trivial g)
theorem wA {c : Operand} {x y : Code} {t : Bool} (hc : ev n S c = .bool t) (h1 : t = true → xp P n ro x K S D L h) (h2 : t = false → xp P n ro y K S D L h) : xp P n ro (.cond c x y) K S D L h := by
 have hs : ∀ (b : Frame), b.roundOf = ro → ∀ (k : List Item) (cs : List Frame) (main : Bool) (w : World), stepG P main (G (mk b n S D ([.code (.cond c x y)] ++ k)) cs) w = .go (G (mk b n S D ([.code (if t then x else y)] ++ k)) cs) w := by
  intro b hb k cs main w
  have e := congrFun (mk_eval b n S D ([.code (.cond c x y)] ++ k)) c
  simp only [mk, List.cons_append, List.nil_append] at e
  simp [stepG, stepG.exec, mk, e, hc]
 refine goes_step hs ?_
 cases t
 ·exact h2 rfl
 ·exact h1 rfl
def blockK (id : Nat) (K : Post) : Post
 | .exit id', S, D, L, h => if id' = id then K .normal S D L h else K (.exit id') S D L h
 | e, S, D, L, h => K e S D L h
theorem qN {id : Nat} {c : Code} (g : xp P n ro c (blockK id K) S D L h) : xp P n ro (.block id c) K S D L h := by
 intro H V b hb k cs
 refine .ctl (fr' := mk b n S D ([.code c] ++ (.inBlock id :: k))) (cs' := cs) (fun main w => by simp [stepG, stepG.exec, mk]) ?_
 refine (g H V b hb (.inBlock id :: k) cs).bind ?_
 rintro fr cs' H' ⟨rfl, e, S', D', L', h', V', kk, a⟩
 cases e with
 | normal =>
  have a' : fr = mk b n S' D' (.inBlock id :: k) := a
  subst a'
  refine .ctl (fr' := mk b n S' D' k) (cs' := cs') (fun main w => by simp [stepG, stepG.exec, mk]) (.done ⟨rfl, .normal, S', D', L', h', V', kk, rfl⟩)
 | exit id' =>
  by_cases hid : id' = id
  ·subst hid
   simp only [blockK, if_true] at kk
   have a' := a.1 k (by simp [exitTo])
   exact .done ⟨rfl, .normal, S', D', L', h', V', kk, a'⟩
  ·simp only [blockK, if_neg hid] at kk
   refine .done ⟨rfl, .exit id', S', D', L', h', V', kk, ?_⟩
   have e : exitTo id' (.inBlock id :: k) = exitTo id' k := by
    have : (id == id') = false := by simp; exact fun h => hid h.symm
    simp [exitTo, this]
   simp only [AtX] at a ⊢
   rw [e] at a
   exact a
 | ret => exact .done ⟨rfl, .ret, S', D', L', h', V', kk, a⟩
 | panic v => exact .done ⟨rfl, .panic v, S', D', L', h', V', kk, a⟩
theorem wU {id : Nat} (hk : K (.exit id) S D L h) : xp P n ro (.exit id) K S D L h := by
 intro H V b hb k cs
 cases hx : exitTo id k with
 | some k' =>
  refine .ctl (fr' := mk b n S D k') (cs' := cs) (fun main w => by simp [stepG, stepG.exec, mk, hx]) (.done ⟨rfl, .exit id, S, D, L, h, V, hk, ?_, ?_⟩)
  ·intro k2 h2; rw [hx] at h2; cases h2; rfl
  ·intro h2; rw [hx] at h2; cases h2
 | none =>
  refine .done ⟨rfl, .exit id, S, D, L, h, V, hk, ?_, ?_⟩
  ·intro k2 h2; rw [hx] at h2; cases h2
  ·intro _; exact ⟨k, hx, rfl⟩
theorem wK (hk : K .ret S D L h) : xp P n ro .ret K S D L h := by
 intro H V b hb k cs
 cases hr : b.roundOf with
 | none =>
  refine .ctl (fr' := { mk b n S D ([.code .ret] ++ k) with mode := .returning }) (cs' := cs) (fun main w => by simp [stepG, stepG.exec, mk, hr]) (.done ⟨rfl, .ret, S, D, L, h, V, hk, ?_, ?_⟩)
  ·intro _; exact ⟨_, rfl⟩
  ·intro h2; exact absurd hr h2
 | some l =>
  refine .done ⟨rfl, .ret, S, D, L, h, V, hk, ?_, ?_⟩
  ·intro h2; rw [hr] at h2; cases h2
  ·intro _; exact ⟨k, rfl⟩
theorem goes_turn {items : List Item} {L' : Pv} {h' : AH} (e : Valid h L → wl h L = wl h' L' ∧ Valid h' L') (g : Goes P n ro items K S D L' h') : Goes P n ro items K S D L h :=
 fun H V => g H (V.turn (e V.valid).1 (e V.valid).2)
theorem zH {items : List Item} (i : Nat) {b : Nat} {o : Obj} (hi : L[i]? = some (some (b, o))) (g : ∀ h', Ext h h' → h' b = some o → Goes P n ro items K S D (L.set i none) h') : Goes P n ro items K S D L h := by
 intro H V
 exact g (hupd h b o) (Ext.new (Ext.refl h) (wl_fresh V.valid hi) o) (by simp [hupd]) H (V.turn (wl_pub V.valid hi) (valid_pub V.valid hi))
theorem goes_more {items : List Item} (g : Goes P n ro items K S D (L ++ [none]) h) : Goes P n ro items K S D L h := by
 have e : cl (L ++ [none]) = cl L := by simp [cl]
 refine goes_turn (fun V => ?_) g
 unfold wl Valid
 rw [e]
 exact ⟨rfl, V⟩
theorem goes_front {items : List Item} (g : Goes P n ro items K S D (none :: L) h) : Goes P n ro items K S D L h := by
 have e : cl (none :: L) = cl L := by simp [cl]
 refine goes_turn (fun V => ?_) g
 unfold wl Valid
 rw [e]
 exact ⟨rfl, V⟩
def mix (M : List Nat) (T S0 : Sl) : Sl := fun i => if M.elem i then T i else S0 i
def updL (S : Sl) : List (Nat × Value) → Sl
 | [] => S
 | (d, v) :: l => updL (upd S d v) l
def HasL (S : Sl) : List (Nat × Value) → Prop
 | [] => True
 | (d, v) :: l => S d = v ∧ HasL S l
def Off (M : List Nat) (S0 S : Sl) : Prop := ∀ i, M.elem i = false → S i = S0 i
theorem qU (M : List Nat) (T S0 : Sl) : Off M S0 (mix M T S0) := fun i hi => by simp only [mix, hi]; rfl
theorem zE (M : List Nat) (S0 : Sl) : Off M S0 S0 := fun _ _ => rfl
theorem wB {M : List Nat} {S0 S : Sl} {d : Nat} {v : Value} (hd : M.elem d = true) (g : Off M S0 S) : Off M S0 (upd S d v) := fun i hi => by
 have : i ≠ d := fun e => by subst e; rw [hd] at hi; cases hi
 simp [upd, this, g i hi]
theorem updL_self (M : List Nat) (S0 S : Sl) (g : Off M S0 S) : ∀ (l : List (Nat × Value)) (S1 : Sl), (∀ i, S1 i = S i) → HasL S l → updL S1 l = S
 | [], S1, h1, _ => funext h1
 | (d, v) :: l, S1, h1, hh => by
  refine updL_self M S0 S g l (upd S1 d v) (fun i => ?_) hh.2
  by_cases hi : i = d
  ·subst hi; simp [upd, hh.1]
  ·simp [upd, hi, h1 i]
theorem mix_self {M : List Nat} {S0 S : Sl} (g : Off M S0 S) : ∀ i, mix M S S0 i = S i := fun i => by
 unfold mix
 cases hm : M.elem i with
 | true => simp
 | false => simp [g i hm]
theorem wl_drop {h : AH} : ∀ (X L : Pv), Valid h (L ++ X) → ∃ h', Ext h h' ∧ wl h (L ++ X) = wl h' L ∧ Valid h' L
 | [], L, V => ⟨h, Ext.refl h, by rw [List.append_nil], by rw [List.append_nil] at V; exact V⟩
 | none :: X, L, V => by
  have e : cl (L ++ none :: X) = cl (L ++ X) := by simp [cl]
  have V1 : Valid h (L ++ X) := by unfold Valid at V ⊢; rw [e] at V; exact V
  obtain ⟨h', E, w2, V2⟩ := wl_drop X L V1
  exact ⟨h', E, by unfold wl at w2 ⊢; rw [e]; exact w2, V2⟩
 | some (b, o) :: X, L, V => by
  have hi : (L ++ some (b, o) :: X)[L.length]? = some (some (b, o)) := by simp
  have V1 := valid_pub V hi
  have w1 := wl_pub V hi
  have e0 : (L ++ some (b, o) :: X).set L.length none = L ++ none :: X := by simp
  rw [e0] at V1 w1
  have e : cl (L ++ none :: X) = cl (L ++ X) := by simp [cl]
  have V2 : Valid (hupd h b o) (L ++ X) := by unfold Valid at V1 ⊢; rw [e] at V1; exact V1
  have w2 : wl h (L ++ some (b, o) :: X) = wl (hupd h b o) (L ++ X) := by rw [w1]; unfold wl; rw [e]
  obtain ⟨h', E, w3, V3⟩ := wl_drop (h := hupd h b o) X L V2
  exact ⟨h', (Ext.new (Ext.refl h) (wl_fresh V hi) o).trans E, w2.trans w3, V3⟩
theorem goes_drop {items : List Item} (m : Nat) (g : ∀ h', Ext h h' → Goes P n ro items K S D (L.take m) h') : Goes P n ro items K S D L h := by
 intro H V
 have V0 := V.valid
 rw [← List.take_append_drop m L] at V0
 obtain ⟨h', E, w, V'⟩ := wl_drop (L.drop m) (L.take m) V0
 rw [List.take_append_drop] at w
 exact g h' E H (V.turn w V')
theorem xp_loopM {c : Code} (M : List Nat) (m : Nat) {α : Type} (V : α → List (Nat × Value)) (I : α → Df → Pv → AH → Prop) (μ : α → Nat) (a0 : α) (hV : HasL S (V a0)) (h0 : I a0 D L h)
  (round : ∀ (a : α) (T : Sl) (D' : Df) (L' : Pv) (h' : AH), I a D' L' h' → xp P n ro c (thenK (fun S2 D2 L2 h2 => ∃ a2, HasL S2 (V a2) ∧ (∀ h3, Ext h2 h3 → I a2 D2 (L2.take m) h3) ∧ μ a2 < μ a ∧ Off M S S2) K) (updL (mix M T S) (V a)) D' L' h') :
  xp P n ro (.loop c) K S D L h := by
 have key : ∀ u a D' L' h' T, μ a = u → I a D' L' h' → Goes P n ro ([.code c] ++ [.inLoop c]) K (updL (mix M T S) (V a)) D' L' h' := by
  intro u
  induction u using Nat.strongRecOn with
  | _ u ih =>
   intro a D' L' h' T hm hI
   refine goes_append trivial (Goes.mono (round a T D' L' h' hI) ?_)
   intro e S2 D2 L2 h2 kk
   cases e with
   | normal =>
    obtain ⟨a2, hv, i2, hlt, off⟩ := kk
    have e2 : updL (mix M S2 S) (V a2) = S2 := updL_self M S S2 off _ _ (mix_self off) hv
    refine goes_drop m fun h3 E3 => ?_
    have := ih (μ a2) (hm ▸ hlt) a2 D2 (L2.take m) h3 S2 rfl (i2 h3 E3)
    rw [e2] at this
    exact goes_step (items' := [.code c] ++ [.inLoop c]) (fun b hb k cs main w => by simp [stepG, stepG.exec, mk]) this
   | exit id => exact kk
   | ret => exact kk
   | panic v => exact kk
 have e0 : updL (mix M S S) (V a0) = S := updL_self M S S (zE M S) _ _ (mix_self (zE M S)) hV
 have := key _ a0 D L h S rfl h0
 rw [e0] at this
 exact goes_step (items' := [.code c] ++ [.inLoop c]) (fun b hb k cs main w => by simp [stepG, stepG.exec, mk]) this
end
end Go.HL
namespace Go.HL
open Go
variable [Lvl]
section
variable {P : Program} {n : Nat} {ro : Option Nat} {K : Post} {S : Sl} {D : Df} {L : Pv} {h : AH}
def Op.calm : Op → Prop
 | .defer _ => False
 | _ => True
theorem mk_finish (b : Frame) (S : Sl) (D : Df) (ops : Array Oper) (i : Nat) (rest : List Nat) (k : List Item) (o : Oper) (ho : ops[i]? = some o) (v : Value) :
  (mk b n S D (.inRegion ops (i :: rest) :: k)).finish v = mk b n (put S o.dst v) D (.inRegion ops rest :: k) := by
 cases hd : o.dst with
 | none => simp [Frame.finish, mk, ho, put, hd]
 | some d => simp [Frame.finish, mk, ho, put, hd, arr_set]
theorem stepG_mk_op (b : Frame) (S : Sl) (D : Df) (ops : Array Oper) (i : Nat) (rest : List Nat) (k : List Item) (cs : List Frame) (o : Oper) (ho : ops[i]? = some o) (hc : Op.calm o.op)
  (hw : Region.wanted o (yielded ops (arr n S)) = true) (main : Bool) (w : World) :
  stepG P main (G (mk b n S D (.inRegion ops (i :: rest) :: k)) cs) w = stepG.apply P true (mk b n S D (.inRegion ops (i :: rest) :: k)) cs none (execOp (ev n S) o) w := by
 have he := mk_eval b n S D (.inRegion ops (i :: rest) :: k)
 simp only [mk] at he
 simp only [stepG, stepG.exec, stepG.oper, Frame.oper?, mk, ho, he, Option.map_some, Option.getD_some, hw, if_true]
 cases hop : o.op <;> first | (rw [hop] at hc; exact hc.elim) | (cases b.roundOf <;> rfl)
theorem goes_op {ops : Array Oper} {i : Nat} {rest : List Nat} {o : Oper} (ho : ops[i]? = some o) (hc : Op.calm o.op) (hw : Region.wanted o (yielded ops (arr n S)) = true)
  (r : opL P n o S L h (fun v L' h' => Goes P n ro [.inRegion ops rest] K (put S o.dst v) D L' h') (fun v L' h' => K (.panic v) S D L' h')) :
  Goes P n ro [.inRegion ops (i :: rest)] K S D L h := by
 intro H V b hb k cs
 have r1 := opW_frameE (r V.valid) (fin_wl V.valid) V.disj
 rw [← V.eq] at r1
 refine .sem (execOp (ev n S) o) (fun x => match x with | .value _ => True | .skip => True | .enter _ _ => True | .round _ _ _ _ _ => True | _ => False) (fun _ => True)
  (fun x => match x with
   | .value v => (mk b n (put S o.dst v) D (.inRegion ops rest :: k), cs)
   | .skip => (mk b n (put S o.dst undef) D (.inRegion ops rest :: k), cs)
   | .enter f args => (Frame.enter P f args .normal, mk b n S D (.inRegion ops (i :: rest) :: k) :: cs)
   | .round l f tmps a c => (Frame.round l f tmps a c .normal, mk b n S D (.inRegion ops (i :: rest) :: k) :: cs)
   | _ => (b, cs))
  (fun v => ({ mk b n S D (.inRegion ops (i :: rest) :: k) with mode := .panicking [{ v := v, recovered := false }] }, cs)) _ _ ?_ (dem_fin V.fin r1) ?_ (fun _ _ _ => trivial) ?_ ?_
 ·intro main w
  have hg := stepG_mk_op (P := P) b S D ops i rest k cs o ho hc hw main w
  have hf := mk_finish (n := n) b S D ops i rest k o ho
  refine ⟨fun x w' hr hx => ?_, fun v w' hr _ => ?_⟩
  ·show GStep.tells _ _ _ (stepG P main (G (mk b n S D (.inRegion ops (i :: rest) :: k)) cs) w)
   rw [hg]
   cases x <;> first | exact hx.elim | (simp only [stepG.apply, Sem.runT_eq, hr, if_true, hf, tells_after, tells_go]; refine ⟨⟨?_, ?_, ?_⟩, ?_⟩ <;> first | trivial | rfl | exact seen_if _ _ _ _ | exact fun _ he => absurd he (by simp))
  ·show GStep.tells _ _ _ (stepG P main (G (mk b n S D (.inRegion ops (i :: rest) :: k)) cs) w)
   rw [hg]
   simp only [stepG.apply, Sem.runT_eq, hr, if_true, tells_after, tells_go]
   refine ⟨⟨?_, ?_, ?_⟩, ?_⟩ <;> first | trivial | rfl | exact seen_if _ _ _ _ | exact fun _ he => absurd he (by simp)
 ·rintro x h' ⟨_, hx⟩
  cases x <;> first | exact trivial | exact hx
 ·have call : ∀ (fr0 : Frame) (h' : AH), Fin h' → EnterT P fr0 h' (fun v H2 => ∃ H1, H2 = hun H1 (mkH D) ∧ Disj H1 (mkH D) ∧ Fin H1 ∧ ∃ L' h'', H1 = wl h'' L' ∧ Valid h'' L' ∧ Goes P n ro [.inRegion ops rest] K (put S o.dst v) D L' h'')
    (fun v H2 => ∃ H1, H2 = hun H1 (mkH D) ∧ Disj H1 (mkH D) ∧ Fin H1 ∧ ∃ L' h'', H1 = wl h'' L' ∧ Valid h'' L' ∧ K (.panic v) S D L' h'') →
    Rch P (fun fr cs' H' => cs' = cs ∧ ∃ e S' D' L' h', Fits h' L' D' H' ∧ K e S' D' L' h' ∧ AtX b n k e S' D' fr) fr0 (mk b n S D (.inRegion ops (i :: rest) :: k) :: cs) h' := by
   intro fr0 h' hfin hx
   refine (hx hfin (mk b n S D (.inRegion ops (i :: rest) :: k)) cs).bind ?_
   rintro fr cs' H' ⟨rfl, ⟨v, rfl, H1, e1, d1, f1, L', h1, rfl, V', g⟩ | ⟨v, rfl, H1, e1, d1, f1, L', h1, rfl, V', g⟩⟩
   ·rw [mk_finish b S D ops i rest k o ho]
    exact g H' (V.step V' d1 e1) b hb k cs'
   ·exact .done ⟨rfl, .panic v, S, D, L', h1, V.step V' d1 e1, g, _, rfl⟩
  rintro x h' ⟨hfin, hx⟩
  cases x with
  | value v =>
   obtain ⟨H1, e1, d1, f1, L', h1, rfl, V', g⟩ := hx
   exact g h' (V.step V' d1 e1) b hb k cs
  | skip =>
   obtain ⟨H1, e1, d1, f1, L', h1, rfl, V', g⟩ := hx
   exact g h' (V.step V' d1 e1) b hb k cs
  | enter f args => exact call _ h' hfin hx
  | round l f tmps a c => exact call _ h' hfin hx
  | _ => exact hx.elim
 ·rintro v h' ⟨_, H1, e1, d1, f1, L', h1, rfl, V', g⟩
  exact .done ⟨rfl, .panic v, S, D, L', h1, V.step V' d1 e1, g, _, rfl⟩
theorem goes_pass {ops : Array Oper} {i : Nat} {rest : List Nat} {o : Oper} (ho : ops[i]? = some o) (hw : Region.wanted o (yielded ops (arr n S)) = false)
  (g : Goes P n ro [.inRegion ops rest] K (put S o.dst undef) D L h) : Goes P n ro [.inRegion ops (i :: rest)] K S D L h := by
 intro H V b hb k cs
 refine .ctl (fr' := mk b n (put S o.dst undef) D (.inRegion ops rest :: k)) (cs' := cs) (fun main w => ?_) (g H V b hb k cs)
 have hf := mk_finish (n := n) b S D ops i rest k o ho undef
 rw [← hf]
 simp [stepG, stepG.exec, mk, ho, hw]
theorem goes_end {ops : Array Oper} (hk : K .normal S D L h) : Goes P n ro [.inRegion ops []] K S D L h :=
 goes_step (items' := []) (fun b hb k cs main w => by simp [stepG, stepG.exec, mk]) (goes_nil hk)
def gval : Value → Option Bool
 | .bool b => some b
 | _ => none
def wpL (P : Program) (n : Nat) (ops : Array Oper) : List Oper → (Sl → Pv → AH → Prop) → (Value → Sl → Pv → AH → Prop) → Sl → Pv → AH → Prop
 | [], K, _, S, L, h => K S L h
 | o :: os, K, E, S, L, h =>
  match o.guard with
  | none => opL P n o S L h (fun v L' h' => wpL P n ops os K E (put S o.dst v) L' h') (fun v L' h' => E v S L' h')
  | some (j, want) => ∃ t, gval (ev n S (.tmp (((ops[j]?).bind (·.dst)).getD n))) = t ∧
    (t = some want → opL P n o S L h (fun v L' h' => wpL P n ops os K E (put S o.dst v) L' h') (fun v L' h' => E v S L' h')) ∧ (t ≠ some want → wpL P n ops os K E (put S o.dst undef) L h)
theorem yielded_ev {ops : Array Oper} {j : Nat} {t : Option Bool} (he : gval (ev n S (.tmp (((ops[j]?).bind (·.dst)).getD n))) = t) : yielded ops (arr n S) j = t := by
 cases hd : (ops[j]?).bind (·.dst) with
 | none => rw [hd] at he; simpa [ev, undef, gval, yielded, hd] using he
 | some d =>
  rw [hd] at he
  simp only [Option.getD_some, ev] at he
  by_cases hl : d < n
  ·rw [if_pos hl] at he
   rw [← he]
   simp only [yielded, hd, Option.bind_some, arr_get?, hl, if_true]
   cases S d <;> rfl
  ·rw [if_neg hl] at he
   simpa [yielded, hd, arr_get?, hl, undef, gval] using he
theorem goes_list {ops : Array Oper} (l : List Oper) (hcalm : ∀ o ∈ l, Op.calm o.op) : ∀ (k : Nat) (S : Sl) (L : Pv) (h : AH), (∀ j, l[j]? = ops[k + j]?) →
  wpL P n ops l (fun S' L' h' => K .normal S' D L' h') (fun v S' L' h' => K (.panic v) S' D L' h') S L h → Goes P n ro [.inRegion ops (List.range' k l.length)] K S D L h := by
 induction l with
 | nil => intro k S L h _ w; exact goes_end w
 | cons o l ih =>
  intro k S L h hl w
  have h0 : ops[k]? = some o := by simpa using (hl 0).symm
  have hl' : ∀ j, l[j]? = ops[k + 1 + j]? := fun j => by have := hl (j + 1); simpa [Nat.add_assoc, Nat.add_comm 1 j] using this
  have ih' := ih (fun x hx => hcalm x (List.mem_cons_of_mem _ hx)) (k + 1)
  have hc := hcalm o (List.mem_cons_self ..)
  rw [List.length_cons, List.range'_succ]
  unfold wpL at w
  cases hg : o.guard with
  | none =>
   rw [hg] at w
   refine goes_op h0 hc (by simp [Region.wanted, hg]) (fun V => opW_mono ?_ ?_ (w V))
   ·rintro v H ⟨L', h', rfl, V', w'⟩; exact ⟨L', h', rfl, V', ih' _ _ _ hl' w'⟩
   ·rintro v H ⟨L', h', rfl, V', w'⟩; exact ⟨L', h', rfl, V', w'⟩
  | some jw =>
   obtain ⟨j, want⟩ := jw
   rw [hg] at w
   obtain ⟨t, he, w1, w2⟩ := w
   by_cases ht : t = some want
   ·refine goes_op h0 hc (by simp [Region.wanted, hg, yielded_ev he, ht]) (fun V => opW_mono ?_ ?_ (w1 ht V))
    ·rintro v H ⟨L', h', rfl, V', w'⟩; exact ⟨L', h', rfl, V', ih' _ _ _ hl' w'⟩
    ·rintro v H ⟨L', h', rfl, V', w'⟩; exact ⟨L', h', rfl, V', w'⟩
   ·exact goes_pass h0 (by simp [Region.wanted, hg, yielded_ev he, ht]) (ih' _ _ _ hl' (w2 ht))
def calmB : List Oper → Bool
 | [] => true
 | o :: l => (match o.op with | .defer _ => false | _ => true) && calmB l
theorem calm_of : ∀ (l : List Oper), calmB l = true → ∀ o ∈ l, Op.calm o.op
 | [], _, _, hm => by cases hm
 | o :: l, hb, x, hm => by
  simp only [calmB, Bool.and_eq_true] at hb
  cases hm with
  | head => unfold Op.calm; cases hop : o.op <;> first | trivial | (rw [hop] at hb; exact absurd hb.1 (by simp))
  | tail _ hm => exact calm_of l hb.2 x hm
theorem qC {id : Nat} {l : List Oper} (hc : calmB l = true) (w : wpL P n l.toArray l (fun S' L' h' => K .normal S' D L' h') (fun v S' L' h' => K (.panic v) S' D L' h') S L h) : xp P n ro (.region id l.toArray false) K S D L h := by
 refine goes_step (items' := [.inRegion l.toArray (List.range l.toArray.size)]) (fun b hb k cs main w => by simp [stepG, stepG.exec, mk]) ?_
 rw [List.range_eq_range']
 exact goes_list l (calm_of l hc) 0 S L h (by simp) w
end
end Go.HL
namespace Go.HL
open Go
variable [Lvl]
def pev (P : Program) {α : Type} : Sem α → Option α
 | .pure a => some a
 | .program k => pev P (k P)
 | .mark m k => if m.quiet then pev P k else none
 | _ => none
theorem dem_pev {P : Program} {α : Type} {K : α → AH → Prop} {E : Value → AH → Prop} {h : AH} : ∀ {s : Sem α} {a : α}, pev P s = some a → K a h → dem P s h K E := by
 intro s
 induction s with
 | pure x => intro a e k; simp only [pev, Option.some.injEq] at e; subst e; exact k
 | program k ih => intro a e kk; exact ih P e kk
 | mark m k ih =>
  intro a e kk
  simp only [pev] at e
  split at e
  ·rename_i hm; exact ⟨hm, ih e kk⟩
  ·cases e
 | _ => intro a e _; simp [pev] at e
theorem wH {P : Program} {α β : Type} {K : β → AH → Prop} {E : Value → AH → Prop} {h : AH} {s : Sem α} {f : α → Sem β} {a : α} (e : pev P s = some a) (k : dem P (f a) h K E) :
  dem P (s >>= f) h K E := wJ (dem_pev e k)
section entry
variable {P : Program} {K E : Value → AH → Prop}
def argS (args : Array Value) : Sl := fun i => args.getD i undef
theorem enter_tmps (n : Nat) (args : Array Value) (hn : args.size ≤ n) : args ++ Array.replicate (n - args.size) undef = arr n (argS args) := by
 apply Array.ext_getElem?
 intro i
 rw [arr_get?, Array.getElem?_append]
 by_cases h1 : i < args.size
 ·rw [if_pos h1, if_pos (by omega)]
  simp [argS, h1]
 ·rw [if_neg h1]
  by_cases h2 : i < n
  ·rw [if_pos h2]
   have : i - args.size < n - args.size := by omega
   simp [argS, h1, this]
  ·rw [if_neg h2]
   simp only [Array.getElem?_eq_none_iff, Array.size_replicate]
   omega
def allMarks (D : Df) : Bool := D.all fun d => match d.target with | .collected _ => true | _ => false
def RetOK (P : Program) (n : Nat) (fn : Func) (K : Value → AH → Prop) (S : Sl) (D : Df) (L : Pv) (h : AH) : Prop :=
 Valid h L → (D = [] ∧ dem P (results fn (arr n S)) (wl h L) K noE) ∨ (allMarks D = true ∧ ∀ h2, Ext h h2 → Valid h2 L → dem P (results fn (arr n S)) (wl h2 L) K noE)
def retK (P : Program) (n : Nat) (fn : Func) (K E : Value → AH → Prop) : Post
 | .normal, S, D, L, h => RetOK P n fn K S D L h
 | .ret, S, D, L, h => RetOK P n fn K S D L h
 | .panic v, _, D, L, h => Valid h L → D = [] ∧ E v (wl h L)
 | .exit _, _, _, _, _ => False
theorem RetOK.all {n : Nat} {fn : Func} {S : Sl} {D : Df} {L : Pv} {h : AH} (r : RetOK P n fn K S D L h) (V : Valid h L) : allMarks D = true ∧ ∀ h2, Ext h h2 → (D = [] → h2 = h) → Valid h2 L → dem P (results fn (arr n S)) (wl h2 L) K noE := by
 rcases r V with ⟨rfl, d⟩ | ⟨ha, d⟩
 ·exact ⟨rfl, fun h2 _ e _ => by rw [e rfl]; exact d⟩
 ·exact ⟨ha, fun h2 e _ V2 => d h2 e V2⟩
theorem Fits.take {h : AH} {L : Pv} {b : Nat} {as : Array Value} {D : Df} {H : AH} (f : Fits h L ({ target := .collected b, args := as } :: D) H) :
  H b = some (.deferred (some [])) ∧ Ext h (hupd h b (.deferred none)) ∧ Fits (hupd h b (.deferred none)) L D (hupd H b (.deferred none)) := by
 have hm : marksOf ({ target := .collected b, args := as } :: D) = b :: marksOf D := rfl
 have hnd := f.nd
 rw [hm, List.nodup_cons] at hnd
 have hmk : mkH ({ target := .collected b, args := as } :: D) b = some (.deferred (some [])) := by
  unfold mkH
  rw [hm]
  simp
 have hw : wl h L b = none := (f.disj b).resolve_right (by rw [hmk]; simp)
 have hb : H b = some (.deferred (some [])) := by
  rw [f.eq]
  unfold hun
  rw [hw]
  exact hmk
 obtain ⟨hh, hL⟩ := wl0_none hw
 have hlk : (cl L).lookup b = none := (lookup_none_iff _ _).2 hL
 have hwl : ∀ c, wl (hupd h b (.deferred none)) L c = if c = b then some (.deferred none) else wl h L c := by
  intro c
  unfold wl wl0
  by_cases hc : c = b
  ·subst hc; simp [hlk, hupd]
  ·rw [if_neg hc]; simp [hupd, hc]
 have hmk' : ∀ c, mkH D c = if c = b then none else mkH ({ target := .collected b, args := as } :: D) c := by
  intro c
  unfold mkH
  rw [hm]
  by_cases hc : c = b
  ·subst hc
   have : (marksOf D).elem c = false := by simpa using hnd.1
   simp [hnd.1]
  ·rw [if_neg hc]; simp [hc]
 refine ⟨hb, Ext.new (Ext.refl h) hh _, ⟨⟨f.valid.nd, fun p hp => ?_, f.valid.fin.hupd _ _⟩, ?_, hnd.2, ?_⟩⟩
 ·have := hL p hp
  simp [hupd, this, f.valid.fresh p hp]
 ·intro c
  rw [hwl, hmk']
  by_cases hc : c = b
  ·right; simp [hc]
  ·simp only [if_neg hc]; exact f.disj c
 ·funext c
  rw [f.eq]
  unfold hupd hun
  rw [hmk' c, show wl (fun d => if d = b then some (Obj.deferred none) else h d) L c = if c = b then some (.deferred none) else wl h L c from hwl c]
  by_cases hc : c = b
  ·simp [hc]
  ·simp [hc]
theorem dem_takeDeferred {b : Nat} {H : AH} {X : List Deferred → AH → Prop} {Y : Value → AH → Prop} (hb : H b = some (.deferred (some []))) (k : X [] (hupd H b (.deferred none))) : dem P (Instr.takeDeferred b) H X Y := by
 unfold Instr.takeDeferred
 refine wJ ?_
 refine ⟨_, hb, trivial, ?_⟩
 refine wJ ?_
 exact ⟨_, hb, trivial, k⟩
theorem ret_run {f : FuncId} {fn : Func} {n : Nat} (hf : P.funcs[f]? = some fn) (c0 : Frame) (cs : List Frame) (b : Frame) (hbf : b.fn = f) (hbk : b.kind = .normal) (S : Sl) (L : Pv) (todo : List Item) :
  ∀ (D : Df) (h H : AH), Fits h L D H → allMarks D = true → (∀ h2, Ext h h2 → (D = [] → h2 = h) → Valid h2 L → dem P (results fn (arr n S)) (wl h2 L) K noE) →
   Rch P (fun fr cs' h' => cs' = cs ∧ ((∃ v, fr = c0.finish v ∧ K v h') ∨ (∃ v, fr = c0.raise [{ v := v, recovered := false }] ∧ E v h'))) { mk b n S D todo with mode := .returning } (c0 :: cs) H
 | [], h, H, V, _, d => by
  have hH : H = wl h L := by rw [V.eq]; exact hun_nil _
  subst hH
  refine .sem (results fn (arr n S)) (fun _ => True) (fun _ => False) (fun v => (c0.finish v, cs)) (fun v => (c0.finish v, cs)) K noE ?_ (d h (Ext.refl h) (fun _ => rfl) V.valid) (fun _ _ _ => trivial) (fun _ _ y => y) ?_ (fun _ _ y => y.elim)
  ·intro main w
   refine ⟨fun a w' hr _ => ?_, fun v w' hr y => y.elim⟩
   subst hbf
   simp [stepG, unwind, mk, hf, hr, doReturn, hbk]
  ·intro v h2 kk
   exact .done ⟨rfl, .inl ⟨v, rfl, kk⟩⟩
 | ⟨t, as⟩ :: D, h, H, V, ha, d => by
  simp only [allMarks, List.all_cons, Bool.and_eq_true] at ha
  cases t with
  | collected bl =>
   obtain ⟨hb, E1, V1⟩ := V.take
   refine .sem (Instr.takeDeferred bl) (fun a => a = []) (fun _ => False) (fun a => ({ mk b n S D todo with mode := .returning, defers := a ++ D }, c0 :: cs)) (fun _ => (b, cs)) (fun a h' => a = [] ∧ h' = hupd H bl (.deferred none)) noE ?_ (dem_takeDeferred hb ⟨rfl, rfl⟩) (fun _ _ e => e.1) (fun _ _ y => y) ?_ (fun _ _ y => y.elim)
   ·intro main w
    refine ⟨fun a w' hr _ => ?_, fun v w' hr y => y.elim⟩
    simp [stepG, unwind, mk, hr]
   ·rintro a h' ⟨rfl, rfl⟩
    exact ret_run hf c0 cs b hbf hbk S L todo D _ _ V1 ha.2 (fun h2 e2 _ V2 => d h2 (E1.trans e2) (fun e => by cases e) V2)
  | _ => exact absurd ha.1 (by simp)
theorem wL {f : FuncId} {fn : Func} {c : Code} {args : Array Value} {h : AH} {n : Nat} (hf : P.funcs[f]? = some fn) (hb : fn.body = some c) (hn : fn.ntmps = n) (ha : Nat.ble args.size n = true)
  (w : xp P n none c (retK P n fn K E) (argS args) [] [] h) : CallT P f args h K E := by
 intro hfin c0 cs
 have he : Frame.enter P f args .normal = mk { (default : Frame) with fn := f, kind := .normal, roundOf := none } n (argS args) [] [.code c] := by
  simp [Frame.enter, mk, hf, hb, hn, enter_tmps n args (Nat.le_of_ble_eq_true ha)]
 rw [he]
 have w1 := w h (by have := Fits.nil (valid_nil hfin); rw [wl_nil] at this; exact this) { (default : Frame) with fn := f, kind := .normal, roundOf := none } rfl [] (c0 :: cs)
 refine w1.bind ?_
 rintro fr cs' H ⟨rfl, e, S', D', L', h', V', kk, a⟩
 cases e with
 | normal =>
  have a' : fr = mk { (default : Frame) with fn := f, kind := .normal, roundOf := none } n S' D' [] := a
  obtain ⟨ha, d⟩ := RetOK.all kk V'.valid
  subst a'
  refine .ctl (fr' := { mk { (default : Frame) with fn := f, kind := .normal, roundOf := none } n S' D' [] with mode := .returning }) (cs' := c0 :: cs) (fun main w => by simp [stepG, stepG.exec, mk]) (ret_run hf c0 cs _ rfl rfl S' L' [] D' h' H V' ha d)
 | ret =>
  obtain ⟨ha, d⟩ := RetOK.all kk V'.valid
  obtain ⟨todo, rfl⟩ := a.1 rfl
  exact ret_run hf c0 cs _ rfl rfl S' L' todo D' h' H V' ha d
 | panic v =>
  obtain ⟨rfl, d⟩ := kk V'.valid
  obtain ⟨todo, rfl⟩ := a
  have hH : H = wl h' L' := by rw [V'.eq]; exact hun_nil _
  subst hH
  refine .ctl (fr' := c0.raise [{ v := v, recovered := false }]) (cs' := cs) (fun main w => by simp [stepG, unwind, mk, Frame.catches, hf]) (.done ⟨rfl, .inr ⟨v, rfl, d⟩⟩)
 | exit id => exact kk.elim
end entry
end Go.HL
namespace Go.HL
open Go
variable [Lvl]
theorem add_none (g off m : Nat) : (⟨g, off, none⟩ : Addr).add m = ⟨g, off + m, none⟩ := by
 unfold Addr.add
 by_cases hm : m = 0
 ·subst hm; simp
 ·simp [hm]
def Cells (h : AH) (g off : Nat) (cs : List Value) : Prop := ∀ j u, cs[j]? = some u → cellA h ⟨g, off + j, none⟩ = some u
def Rd (h : AH) (A : Option Addr) (cs : List Value) : Prop := cs ≠ [] → ∃ g off, A = some ⟨g, off, none⟩ ∧ Cells h g off cs
theorem Cells.ext {h h' : AH} {g off : Nat} {cs : List Value} (c : Cells h g off cs) (e : Ext h h') : Cells h' g off cs := fun j u hu => e.cell (c j u hu)
theorem Rd.ext {h h' : AH} {A : Option Addr} {cs : List Value} (r : Rd h A cs) (e : Ext h h') : Rd h' A cs := fun hn => by
 obtain ⟨g, off, ha, c⟩ := r hn
 exact ⟨g, off, ha, c.ext e⟩
theorem Rd.nil (h : AH) (A : Option Addr) : Rd h A [] := fun hn => absurd rfl hn
theorem Cells.part {h : AH} {g off : Nat} {cs : List Value} (c : Cells h g off cs) (i m : Nat) : Cells h g (off + i) ((cs.drop i).take m) := by
 intro j u hu
 rw [List.getElem?_take] at hu
 split at hu
 ·rw [List.getElem?_drop] at hu
  have := c (i + j) u hu
  rw [show off + i + j = off + (i + j) from by omega]
  exact this
 ·cases hu
theorem dem_loadFrom {P : Program} {h : AH} {K : Array Value → AH → Prop} {E : Value → AH → Prop} {g : Nat} : ∀ (cs : List Value) (off i : Nat) (acc : Array Value), Cells h g (off + i) cs → K (acc ++ cs.toArray) h →
  dem P (loadCellsFrom ⟨g, off, none⟩ i cs.length acc) h K E
 | [], off, i, acc, _, k => by
  show K acc h
  simpa using k
 | v :: cs, off, i, acc, c, k => by
  refine wJ ?_
  refine ⟨v, ?_, ?_⟩
  ·rw [add_none]; have := c 0 v rfl; simpa using this
  ·refine dem_loadFrom cs off (i + 1) (acc.push v) ?_ (by simpa using k)
   intro j u hu
   have := c (j + 1) u (by simpa using hu)
   rw [show off + (i + 1) + j = off + i + (j + 1) from by omega]
   exact this
theorem dem_loadCells {P : Program} {h : AH} {K : Array Value → AH → Prop} {E : Value → AH → Prop} {g off m : Nat} {cs : List Value} (hm : cs.length = m) (c : Cells h g off cs) (k : K cs.toArray h) :
  dem P (loadCells ⟨g, off, none⟩ m) h K E := by
 subst hm
 exact dem_loadFrom cs off 0 #[] (by simpa using c) (by simpa using k)
def wr (c : Array Value) (off : Nat) : List Value → Array Value
 | [] => c
 | v :: vs => wr (c.setIfInBounds off v) (off + 1) vs
def wrL (c : List Value) (off : Nat) : List Value → List Value
 | [] => c
 | v :: vs => wrL (c.set off v) (off + 1) vs
theorem wr_list (c : List Value) (off : Nat) (vs : List Value) : wr c.toArray off vs = (wrL c off vs).toArray := by
 induction vs generalizing c off with
 | nil => rfl
 | cons v vs ih => simp only [wr, wrL]; rw [← ih]; simp
def plainB : Value → Bool
 | .agg _ => false
 | .tuple _ => false
 | _ => true
theorem plain_of {v : Value} (h : plainB v = true) : plainV v := by cases v <;> first | trivial | cases h
theorem dem_storeFrom {P : Program} {K : Unit → AH → Prop} {E : Value → AH → Prop} {g : Nat} {e : TypeId} : ∀ (vs : List Value) (h : AH) (c : Array Value) (off i : Nat), h g = some (.cells c e (0, 0)) → off + i + vs.length ≤ c.size →
  vs.all plainB = true → K () (hupd h g (.cells (wr c (off + i) vs) e (0, 0))) → dem P (storeCells ⟨g, off, none⟩ vs i) h K E
 | [], h, c, off, i, hg, _, _, k => by
  have : hupd h g (.cells c e (0, 0)) = h := by
   funext b
   by_cases hb : b = g
   ·subst hb; simp [hupd, hg]
   ·simp [hupd, hb]
  rw [wr, this] at k
  exact k
 | v :: vs, h, c, off, i, hg, hb, hp, k => by
  rw [List.length_cons] at hb
  rw [List.all_cons, Bool.and_eq_true] at hp
  refine wJ ?_
  have hlt : off + i < c.size := by omega
  refine ⟨plain_of hp.1, .cells c e (0, 0), c[off + i], by rw [add_none]; exact hg, ?_, by simp [frozenO], ?_⟩
  ·rw [add_none]; simp [cellA, hg, hlt]
  ·have e1 : setO (.cells c e (0, 0)) ((⟨g, off, none⟩ : Addr).add i) v = .cells (c.setIfInBounds (off + i) v) e (0, 0) := by rw [add_none]; rfl
   rw [e1, add_none]
   refine dem_storeFrom vs _ (c.setIfInBounds (off + i) v) off (i + 1) (by simp only [hupd, if_true]; rfl) (by simp; omega) hp.2 ?_
   have e2 : hupd (hupd h g (.cells (c.setIfInBounds (off + i) v) e (0, 0))) g (.cells (wr (c.setIfInBounds (off + i) v) (off + (i + 1)) vs) e (0, 0)) = hupd h g (.cells (wr c (off + i) (v :: vs)) e (0, 0)) := by
    funext b
    by_cases hb : b = g <;> simp [hupd, hb, wr, Nat.add_assoc]
   rw [e2]
   exact k
section ops
variable {P : Program} {n : Nat} {ops : Array Oper} {d : Option Tmp} {op : Op} {ty : TypeId} {ps : String} {af : Array Edge} {os : List Oper} {K : Sl → Pv → AH → Prop} {E : Value → Sl → Pv → AH → Prop} {S : Sl} {L : Pv} {h : AH}
theorem op_of (k : opL P n ⟨d, op, ty, ps, af, none⟩ S L h (fun v L' h' => wpL P n ops os K E (put S d v) L' h') (fun v L' h' => E v S L' h')) : wpL P n ops (⟨d, op, ty, ps, af, none⟩ :: os) K E S L h := k
theorem qA {v : Value} (hv : pev P (execOp (ev n S) ⟨d, op, ty, ps, af, none⟩) = some (.value v)) (k : wpL P n ops os K E (put S d v) L h) : wpL P n ops (⟨d, op, ty, ps, af, none⟩ :: os) K E S L h :=
 op_of fun V => dem_pev hv ⟨L, h, rfl, V, k⟩
theorem qQ {j : Nat} {want t : Bool} (ht : ev n S (.tmp (((ops[j]?).bind (·.dst)).getD n)) = .bool t) (hb : t = want) (k : wpL P n ops (⟨d, op, ty, ps, af, none⟩ :: os) K E S L h) : wpL P n ops (⟨d, op, ty, ps, af, some (j, want)⟩ :: os) K E S L h :=
 ⟨some t, by rw [ht]; rfl, fun _ => k, fun hn => absurd (congrArg some hb) hn⟩
theorem wQ {j : Nat} {want t : Bool} (ht : ev n S (.tmp (((ops[j]?).bind (·.dst)).getD n)) = .bool t) (hb : t = !want) (k : wpL P n ops os K E (put S d undef) L h) : wpL P n ops (⟨d, op, ty, ps, af, some (j, want)⟩ :: os) K E S L h :=
 ⟨some t, by rw [ht]; rfl, fun (hy : some t = some want) => (by rw [hb] at hy; cases want <;> cases hy), fun _ => k⟩
theorem guard_un {j : Nat} {want : Bool} (ht : ev n S (.tmp (((ops[j]?).bind (·.dst)).getD n)) = undef) (k : wpL P n ops os K E (put S d undef) L h) : wpL P n ops (⟨d, op, ty, ps, af, some (j, want)⟩ :: os) K E S L h :=
 ⟨none, by rw [ht]; rfl, fun hy => (by cases hy), fun _ => k⟩
theorem op_val {v v' : Value} (e : v = v') (hv : pev P (execOp (ev n S) ⟨d, op, ty, ps, af, none⟩) = some (.value v)) (k : wpL P n ops os K E (put S d v') L h) : wpL P n ops (⟨d, op, ty, ps, af, none⟩ :: os) K E S L h := by
 subst e
 exact qA hv k
theorem exec_builtin {ρ : Operand → Value} {b : Builtin} {xs : List Operand} {ats : Array TypeId} {vs : List Value} (hx : xs.map ρ = vs) :
  execOp ρ ⟨d, .call ⟨.builtin b, xs.toArray, ats⟩, ty, ps, af, none⟩ = builtin b ats ty (xs.toArray.map fun | .const _ => true | _ => false) vs.toArray := by
 subst hx
 simp only [execOp, resolve, List.map_toArray]
 rfl
theorem exec_call {ρ : Operand → Value} {x : Operand} {xs : List Operand} {ats : Array TypeId} {g : FuncId} {caps : List Value} {vs : List Value} (hf : ρ x = .func (.func g) #[] caps.toArray) (hx : xs.map ρ ++ caps = vs) :
  execOp ρ ⟨d, .call ⟨.value x, xs.toArray, ats⟩, ty, ps, af, none⟩ = callFunc g vs.toArray := by
 subst hx
 simp only [execOp, resolve, List.map_toArray, hf, Deferred.ofValue]
 show callFunc g ((#[] ++ (List.map ρ xs).toArray) ++ caps.toArray) = _
 simp
def callable (P : Program) (g : FuncId) : Bool := match P.funcs[g]? with | some fn => fn.name != "runtime.NumGoroutine" && fn.body.isSome | none => false
theorem dem_callFunc {g : FuncId} {args : Array Value} {K : Next → AH → Prop} {E : Value → AH → Prop} (hc : callable P g = true) (k : K (.enter g args) h) : dem P (callFunc g args) h K E := by
 unfold callable at hc
 cases hf : P.funcs[g]? with
 | none => rw [hf] at hc; cases hc
 | some fn =>
  rw [hf] at hc
  simp only [bne_iff_ne, ne_eq, Bool.and_eq_true] at hc
  have e : pev P (callFunc g args) = some (.enter g args) := by
   show pev P (match P.funcs[g]? with | none => _ | some fn => _) = _
   rw [hf]
   simp only [beq_iff_eq]
   rw [if_neg hc.1]
   have : fn.body.isNone = false := by cases hb : fn.body with | none => rw [hb] at hc; exact absurd hc.2 (by simp) | some c => rfl
   rw [this]
   rfl
  exact dem_pev e k
theorem op_call {x : Operand} {xs : List Operand} {ats : Array TypeId} {g : FuncId} {caps vs : List Value} (hf : ev n S x = .func (.func g) #[] caps.toArray) (hc : callable P g = true) (hx : xs.map (ev n S) ++ caps = vs)
  (c : CallT P g vs.toArray h (fun v h' => wpL P n ops os K E (put S d v) L h') (fun v h' => E v S L h')) :
  wpL P n ops (⟨d, .call ⟨.value x, xs.toArray, ats⟩, ty, ps, af, none⟩ :: os) K E S L h := by
 refine op_of fun V => ?_
 unfold opW
 rw [exec_call hf hx]
 refine dem_callFunc hc ?_
 refine (c.priv V).mono ?_ ?_
 ·rintro v h2 ⟨h1, rfl, V1, k⟩; exact ⟨L, h1, rfl, V1, k⟩
 ·rintro v h2 ⟨h1, rfl, V1, k⟩; exact ⟨L, h1, rfl, V1, k⟩
def FnT (P : Program) (f : FuncId) (args : Array Value) (h : AH) (R : Value → AH → Prop) : Prop := CallT P f args h (fun v h' => Ext h h' ∧ R v h') noE
theorem wP {x : Operand} {xs : List Operand} {ats : Array TypeId} {g : FuncId} {caps vs : List Value} {R : Value → AH → Prop} (hf : ev n S x = .func (.func g) #[] caps.toArray) (hc : callable P g = true) (hx : xs.map (ev n S) ++ caps = vs) (c : FnT P g vs.toArray h R)
  (k : ∀ v h', Ext h h' → R v h' → wpL P n ops os K E (put S d v) L h') : wpL P n ops (⟨d, .call ⟨.value x, xs.toArray, ats⟩, ty, ps, af, none⟩ :: os) K E S L h :=
 op_call hf hc hx (CallT.mono c (fun v h' r => k v h' r.1 r.2) (fun _ _ y => y.elim))
theorem wO {t : TypeId} {z : Value} {cs : List Value} (hz : pev P (zeroValue t) = some z) (hcs : z.cells = cs.toArray)
  (k : ∀ b, wl h L b = none → wpL P n ops os K E (put S d (.pointer (some ⟨b, 0, none⟩))) (L ++ [some (b, .cells cs.toArray t (0, 0))]) h) : wpL P n ops (⟨d, .alloc t, ty, ps, af, none⟩ :: os) K E S L h := by
 refine op_of fun V => ?_
 unfold opW
 simp only [execOp]
 refine wJ (wJ (dem_pev hz ?_))
 refine wJ (wJ ?_)
 intro b hb
 rw [hcs]
 exact ⟨_, h, wl_new hb _, valid_new V hb _, k b hb⟩
theorem zF {t : TypeId} {x : Operand} {v : Value} {cs : List Value} (hx : ev n S x = v) (hcs : v.cells = cs.toArray)
  (k : ∀ b, wl h L b = none → wpL P n ops os K E (put S d (.pointer (some ⟨b, 0, none⟩))) (L ++ [some (b, .cells cs.toArray t (0, 0))]) h) : wpL P n ops (⟨d, .box t x, ty, ps, af, none⟩ :: os) K E S L h := by
 refine op_of fun V => ?_
 unfold opW
 simp only [execOp, hx]
 refine wJ (wJ (wJ ?_))
 intro b hb
 rw [hcs]
 exact ⟨_, h, wl_new hb _, valid_new V hb _, k b hb⟩
theorem qI (i : Nat) {t e : TypeId} {x : Operand} {b off : Nat} {c : Array Value} {f : Nat × Nat} {v : Value} (hx : ev n S x = .pointer (some ⟨b, off, none⟩))
  (hi : L[i]? = some (some (b, .cells c e f))) (ha : pev P (isAgg t) = some false) (hv : c[off]? = some v) (k : wpL P n ops os K E (put S d v) L h) : wpL P n ops (⟨d, .load t x, ty, ps, af, none⟩ :: os) K E S L h := by
 refine op_of fun V => ?_
 unfold opW
 simp only [execOp, hx, Instr.loadAt, Instr.sureAddr]
 refine wJ (wH (a := ⟨b, off, none⟩) rfl (wH ha ?_))
 exact ⟨v, by simp [cellA, wl_get V hi, hv], L, h, rfl, V, k⟩
def rd (c : Array Value) (off m : Nat) : Option (List Value) := if off + m ≤ c.size then some ((c.toList.drop off).take m) else none
theorem qX (i : Nat) {t e : TypeId} {x : Operand} {b off m : Nat} {c : Array Value} {f : Nat × Nat} {vs : List Value} (hx : ev n S x = .pointer (some ⟨b, off, none⟩))
  (hi : L[i]? = some (some (b, .cells c e f))) (ha : pev P (isAgg t) = some true) (hs : pev P (sizeOf t) = some m) (hv : rd c off m = some vs) (k : wpL P n ops os K E (put S d (.agg vs.toArray)) L h) : wpL P n ops (⟨d, .load t x, ty, ps, af, none⟩ :: os) K E S L h := by
 refine op_of fun V => ?_
 unfold opW
 simp only [execOp, hx, Instr.loadAt, Instr.sureAddr]
 unfold rd at hv
 split at hv
 ·rename_i hle
  simp only [Option.some.injEq] at hv
  refine wJ (wH (a := ⟨b, off, none⟩) rfl (wH ha ?_))
  refine wH hs (wJ (dem_loadCells (cs := vs) ?_ ?_ ?_))
  ·rw [← hv]; simp; omega
  ·intro j u hu
   rw [← hv, List.getElem?_take] at hu
   split at hu
   ·rw [List.getElem?_drop] at hu
    simp [cellA, wl_get V hi]
    simpa using hu
   ·cases hu
  ·exact ⟨L, h, rfl, V, k⟩
 ·cases hv
theorem qJ (i : Nat) {t e : TypeId} {x y : Operand} {b off m : Nat} {c : List Value} {v : Value} {vs : List Value} {c' : List Value} (hx : ev n S x = .pointer (some ⟨b, off, none⟩)) (hy : ev n S y = v)
  (hi : L[i]? = some (some (b, .cells c.toArray e (0, 0)))) (hs : pev P (sizeOf t) = some m) (hc : v.cells = vs.toArray) (hm : vs.length = m) (hb : Nat.ble (off + m) c.length = true) (hp : vs.all plainB = true) (hw : wrL c off vs = c')
  (k : wpL P n ops os K E (put S d undef) (L.set i (some (b, .cells c'.toArray e (0, 0)))) h) : wpL P n ops (⟨d, .store t x y, ty, ps, af, none⟩ :: os) K E S L h := by
 refine op_of fun V => ?_
 unfold opW
 simp only [execOp, hx, hy, Instr.storeAt, Instr.sureAddr, storeVar]
 have hsz : v.cells.size = m := by rw [hc, ← hm]; simp
 refine wJ (wH (a := ⟨b, off, none⟩) rfl (wH hs ?_))
 rw [if_neg (by simpa using hsz)]
 rw [hc]
 have hb' := Nat.le_of_ble_eq_true hb
 refine dem_storeFrom vs _ c.toArray off 0 (wl_get V hi) (by simp; omega) hp ?_
 rw [wl_set V hi, Nat.add_zero, wr_list, hw]
 exact ⟨_, h, rfl, valid_set V hi, k⟩
theorem qV {t : TypeId} {x : Operand} {a : Addr} {v : Value} (hx : ev n S x = .pointer (some a)) (ha : pev P (isAgg t) = some false) (hc : cellA h a = some v)
  (k : wpL P n ops os K E (put S d v) L h) : wpL P n ops (⟨d, .load t x, ty, ps, af, none⟩ :: os) K E S L h := by
 refine op_of fun V => ?_
 unfold opW
 simp only [execOp, hx, Instr.loadAt, Instr.sureAddr]
 refine wJ (wH (a := a) rfl (wH ha ?_))
 exact ⟨v, (wE V).cell hc, L, h, rfl, V, k⟩
theorem op_loadA {t : TypeId} {x : Operand} {g off m : Nat} {cs : List Value} (hx : ev n S x = .pointer (some ⟨g, off, none⟩)) (ha : pev P (isAgg t) = some true) (hs : pev P (sizeOf t) = some m)
  (hm : cs.length = m) (hc : Cells h g off cs) (k : wpL P n ops os K E (put S d (.agg cs.toArray)) L h) : wpL P n ops (⟨d, .load t x, ty, ps, af, none⟩ :: os) K E S L h := by
 refine op_of fun V => ?_
 unfold opW
 simp only [execOp, hx, Instr.loadAt, Instr.sureAddr]
 refine wJ (wH (a := ⟨g, off, none⟩) rfl (wH ha ?_))
 exact wH hs (wJ (dem_loadCells hm (hc.ext (wE V)) ⟨L, h, rfl, V, k⟩))
end ops
section result
variable {P : Program} {n : Nat} {fn : Func} {S : Sl} {L : Pv} {h : AH} {K E : Value → AH → Prop}
end result
end Go.HL
namespace Go.HL
open Go
variable [Lvl]
section ops
variable {P : Program} {n : Nat} {ops : Array Oper} {d : Option Tmp} {op : Op} {ty : TypeId} {ps : String} {af : Array Edge} {os : List Oper} {K : Sl → Pv → AH → Prop} {E : Value → Sl → Pv → AH → Prop} {S : Sl} {L : Pv} {h : AH}
theorem u64_nat (a : Nat) (ha : a < 2 ^ 64) : IntKind.wrap .u64 (a : Int) = a := IntWalk.u64_in _ (by omega)
theorem bv_nat (a : Nat) (ha : a < 2 ^ 64) : (BitVec.ofInt 64 (a : Int)).toNat = a := by
 rw [BitVec.toNat_ofInt]
 omega
theorem u64_and (a b : Nat) (ha : a < 2 ^ 64) (hb : b < 2 ^ 64) : Value.int .u64 (IntKind.wrap .u64 ((BitVec.ofInt 64 (a : Int) &&& BitVec.ofInt 64 (b : Int)).toNat : Int)) = .int .u64 ((a &&& b : Nat) : Int) := by
 rw [BitVec.toNat_and, bv_nat a ha, bv_nat b hb, u64_nat _ (Nat.and_lt_two_pow _ hb)]
theorem u64_or (a b : Nat) (ha : a < 2 ^ 64) (hb : b < 2 ^ 64) : Value.int .u64 (IntKind.wrap .u64 ((BitVec.ofInt 64 (a : Int) ||| BitVec.ofInt 64 (b : Int)).toNat : Int)) = .int .u64 ((a ||| b : Nat) : Int) := by
 rw [BitVec.toNat_or, bv_nat a ha, bv_nat b hb, u64_nat _ (Nat.or_lt_two_pow ha hb)]
theorem u64_andNot (a b : Nat) (ha : a < 2 ^ 64) (hb : b < 2 ^ 64) : Value.int .u64 (IntKind.wrap .u64 ((BitVec.ofInt 64 (a : Int) &&& ~~~ BitVec.ofInt 64 (b : Int)).toNat : Int)) = .int .u64 ((a &&& (2 ^ 64 - 1 - b) : Nat) : Int) := by
 rw [BitVec.toNat_and, BitVec.toNat_not, bv_nat a ha, bv_nat b hb, u64_nat _ (Nat.and_lt_two_pow _ (by omega))]
theorem u64_sub (a b : Nat) (ha : a < 2 ^ 64) (hb : b ≤ a) : Value.int .u64 (IntKind.wrap .u64 ((a : Int) - (b : Int))) = .int .u64 ((a - b : Nat) : Int) := by
 rw [show (a : Int) - (b : Int) = ((a - b : Nat) : Int) from by omega, u64_nat _ (by omega)]
theorem op_shl {t u : TypeId} {x y : Operand} {q : IntKind} (a k : Nat) {a' y' : Int} (hx : ev n S x = .int .u64 a') (hy : ev n S y = .int q y') (ea : a' = a) (ek : y' = k) (hk : k < 64) (hb : a * 2 ^ k < 2 ^ 64)
  (kk : wpL P n ops os K E (put S d (.int .u64 ((a * 2 ^ k : Nat) : Int))) L h) : wpL P n ops (⟨d, .binOp .shl t x y u, ty, ps, af, none⟩ :: os) K E S L h := by
 subst ea ek
 refine qA ?_ kk
 have e : IntKind.wrap .u64 ((a : Int) * 2 ^ (min ((k : Int).toNat) (IntKind.bits .u64))) = ((a * 2 ^ k : Nat) : Int) := by
  rw [show min ((k : Int).toNat) (IntKind.bits .u64) = k from by simp [IntKind.bits]; omega]
  rw [show (a : Int) * 2 ^ k = ((a * 2 ^ k : Nat) : Int) from by push_cast; rfl, u64_nat _ hb]
 have hn : ¬ (k : Int) < 0 := by omega
 simp only [execOp, hx, hy, binOp, Op.shift, if_neg hn, e]
 rfl
end ops
end Go.HL
namespace Go.HL
open Go
variable [Lvl]
def opTmps (o : Op) : List Nat := o.operands.toList.filterMap fun | .tmp t => some t | _ => none
def guardT (ops : Array Oper) (o : Oper) : List Nat := match o.guard with | none => [] | some (j, _) => ((ops[j]?).bind (·.dst)).toList
def reads (ops : Array Oper) (o : Oper) : List Nat := opTmps o.op ++ guardT ops o
def el (k : Nat) : List Nat → Bool
 | [] => false
 | a :: l => (k == a) || el k l
theorem el_cons (k a : Nat) (l : List Nat) : el k (a :: l) = ((k == a) || el k l) := rfl
theorem el_mem (k : Nat) (l : List Nat) : el k l = true ↔ k ∈ l := by
 induction l with
 | nil => simp [el]
 | cons a l ih => simp [el, ih]
theorem el_not (k : Nat) (l : List Nat) : el k l = false ↔ k ∉ l := by
 rw [← el_mem]; simp
theorem ev_agree {n : Nat} {S S' : Sl} {xs : List Operand} (h : ∀ t ∈ xs.filterMap (fun | .tmp t => some t | _ => none), S t = S' t) : ∀ x ∈ xs, ev n S x = ev n S' x := by
 intro x hx
 cases x with
 | tmp t => simp only [ev]; rw [h t (List.mem_filterMap.2 ⟨_, hx, rfl⟩)]
 | const v => rfl
 | global g => rfl
 | func f => rfl
theorem map_agree {ρ ρ' : Operand → Value} {xs : Array Operand} (h : ∀ x ∈ xs.toList, ρ x = ρ' x) : xs.map ρ = xs.map ρ' := by
 apply Array.map_congr_left
 intro x hx
 exact h x (Array.mem_toList_iff.2 hx)
theorem resolve_agree {ρ ρ' : Operand → Value} {c : Call} {ty : TypeId} (h : ∀ x ∈ c.operands.toList, ρ x = ρ' x) : resolve ρ c ty = resolve ρ' c ty := by
 obtain ⟨cal, args, ats⟩ := c
 have ha : ∀ x ∈ args.toList, ρ x = ρ' x := fun x hx => h x (by simp [Call.operands]; exact .inr (Array.mem_toList_iff.1 hx))
 simp only [resolve, map_agree ha]
 cases cal with
 | value f => simp only; rw [h f (by simp [Call.operands])]
 | invoke r m => simp only; rw [h r (by simp [Call.operands])]
 | builtin b => rfl
theorem exec_agree {ρ ρ' : Operand → Value} {o : Oper} (h : ∀ x ∈ o.op.operands.toList, ρ x = ρ' x) : execOp ρ o = execOp ρ' o := by
 obtain ⟨d, op, ty, ps, af, gd⟩ := o
 cases op with
 | call c => simp only [execOp]; rw [resolve_agree h]
 | go c => simp only [execOp]; rw [resolve_agree h]
 | defer c => simp only [execOp]; rw [resolve_agree h]
 | build t p =>
  simp only [execOp]
  rw [show (p.map fun q => (q.1, ρ q.2)) = p.map fun q => (q.1, ρ' q.2) from Array.map_congr_left fun q hq => by
   rw [h q.2 (by simp [Op.operands]; exact ⟨q.1, hq⟩)]]
 | buildSlice t l p =>
  simp only [execOp]
  rw [show (p.map fun q => (q.1, ρ q.2)) = p.map fun q => (q.1, ρ' q.2) from Array.map_congr_left fun q hq => by
   rw [h q.2 (by simp [Op.operands]; exact ⟨q.1, hq⟩)]]
 | makeFunc fn f c =>
  simp only [execOp]
  rw [map_agree (xs := f) fun x hx => h x (by simp [Op.operands]; exact .inl (Array.mem_toList_iff.1 hx)), map_agree (xs := c) fun x hx => h x (by simp [Op.operands]; exact .inr (Array.mem_toList_iff.1 hx))]
 | makeMap t r =>
  cases r with
  | none => rfl
  | some x => simp only [execOp, Option.map_some]; rw [h x (by simp [Op.operands])]
 | slice t x l hi m =>
  have hx := h x (by simp [Op.operands])
  have hl : l.map ρ = l.map ρ' := by cases l with | none => rfl | some y => simp [h y (by simp [Op.operands])]
  have hh : hi.map ρ = hi.map ρ' := by cases hi with | none => rfl | some y => simp [h y (by simp [Op.operands])]
  have hm : m.map ρ = m.map ρ' := by cases m with | none => rfl | some y => simp [h y (by simp [Op.operands])]
  simp only [execOp, hx, hl, hh, hm]
 | select cs b =>
  simp only [execOp]
  congr 1
  have : ∀ s ∈ cs, ρ s.chan = ρ' s.chan ∧ s.send.map ρ = s.send.map ρ' := by
   intro s hs
   refine ⟨h _ (by simp [Op.operands, Array.mem_flatMap]; exact ⟨s, hs, .inl rfl⟩), ?_⟩
   cases hq : s.send with
   | none => rfl
   | some y => simp [h y (by simp [Op.operands, Array.mem_flatMap]; exact ⟨s, hs, .inr (by simp [hq])⟩)]
  obtain ⟨l⟩ := cs
  rw [List.mapM_toArray, List.mapM_toArray]
  congr 1
  have hl : ∀ s ∈ l, ρ s.chan = ρ' s.chan ∧ s.send.map ρ = s.send.map ρ' := fun s hs => this s (by simpa using hs)
  clear this h
  induction l with
  | nil => rfl
  | cons a l ih =>
   rw [List.mapM_cons, List.mapM_cons, ih (fun s hs => hl s (List.mem_cons_of_mem _ hs)), (hl a (List.mem_cons_self ..)).1, (hl a (List.mem_cons_self ..)).2]
 | _ => first | rfl | (simp only [Op.operands, List.mem_cons, List.not_mem_nil, or_false, forall_eq_or_imp, forall_eq] at h; simp [execOp, h])
section draw
variable (P : Program) (n : Nat) (ops : Array Oper)
def T1 (o : Oper) (X : Sl → AH → Prop) (S : Sl) (H : AH) : Prop :=
 match o.guard with
 | none => opW P n o S H (fun v H' => X (put S o.dst v) H') noE
 | some (j, w) => ∃ t, gval (ev n S (.tmp (((ops[j]?).bind (·.dst)).getD n))) = t ∧ (t = some w → opW P n o S H (fun v H' => X (put S o.dst v) H') noE) ∧ (t ≠ some w → X (put S o.dst undef) H)
def ready (dn : List Nat) (i : Nat) : Bool := match ops[i]? with | some o => !(el i dn) && o.after.toList.all (fun e => !Region.binds .any e || (el e.on dn)) | none => false
def WA : Nat → List Nat → (Sl → AH → Prop) → Sl → AH → Prop
 | 0, _, X, S, H => X S H
 | m + 1, dn, X, S, H => ∀ i o, ops[i]? = some o → ready ops dn i = true → T1 P n ops o (WA m (i :: dn) X) S H
variable {P n ops}
theorem T1_mono {o : Oper} {X Y : Sl → AH → Prop} {S : Sl} {H : AH} (hxy : ∀ S H, X S H → Y S H) (t : T1 P n ops o X S H) : T1 P n ops o Y S H := by
 unfold T1 at t ⊢
 split at t
 ·exact opW_mono (fun v H' x => hxy _ _ x) (fun _ _ y => y) t
 ·obtain ⟨b, h1, h2, h3⟩ := t
  exact ⟨b, h1, fun e => opW_mono (fun v H' x => hxy _ _ x) (fun _ _ y => y) (h2 e), fun e => hxy _ _ (h3 e)⟩
theorem ready_perm {dn dn' : List Nat} (h : ∀ k, (el k dn) = (el k dn')) (i : Nat) : ready ops dn i = ready ops dn' i := by
 unfold ready
 cases ops[i]? with
 | none => rfl
 | some o => simp only [h]
def apart (a b : Oper) : Bool :=
 (match a.dst with | some d => !(el d (reads ops b)) && (match b.dst with | some d' => d != d' | none => true) | none => true) &&
 (match b.dst with | some d => !(el d (reads ops a)) | none => true)
theorem put_comm {S : Sl} {d d' : Option Tmp} {v v' : Value} (h : ∀ a b, d = some a → d' = some b → a ≠ b) : put (put S d v) d' v' = put (put S d' v') d v := by
 cases d with
 | none => rfl
 | some a =>
  cases d' with
  | none => rfl
  | some b =>
   have hab := h a b rfl rfl
   funext i
   simp only [put, upd]
   by_cases h1 : i = a
   ·subst h1; simp [hab]
   ·simp [h1]
theorem agree_put {o : Oper} {S : Sl} {d : Option Tmp} {v : Value} (h : ∀ a, d = some a → (el a (reads ops o)) = false) : ∀ t ∈ reads ops o, put S d v t = S t := by
 intro t ht
 cases d with
 | none => rfl
 | some a =>
  have : t ≠ a := fun e => by
   subst e
   have h1 := h t rfl
   exact (el_not _ _).1 h1 ht
  simp [put, upd, this]
theorem T1_agree {o : Oper} {S S' : Sl} {H : AH} {X X' : Sl → AH → Prop} (ha : ∀ t ∈ reads ops o, S t = S' t) (hx : ∀ v H', X (put S o.dst v) H' → X' (put S' o.dst v) H') (t : T1 P n ops o X S H) : T1 P n ops o X' S' H := by
 have he : execOp (ev n S) o = execOp (ev n S') o := exec_agree (ev_agree fun t ht => ha t (List.mem_append_left _ ht))
 have hop : ∀ {K K' : Value → AH → Prop}, (∀ v H', K v H' → K' v H') → opW P n o S H K noE → opW P n o S' H K' noE := by
  intro K K' hk w
  unfold opW at w ⊢
  rw [← he]
  exact dem_mono (fun _ _ u => upon_mono hk (fun _ _ y => y) u) (fun _ _ y => y) w
 unfold T1 at t ⊢
 cases hg : o.guard with
 | none => rw [hg] at t; exact hop (fun v H' x => hx v H' x) t
 | some jw =>
  obtain ⟨j, w⟩ := jw
  rw [hg] at t
  obtain ⟨b, h1, h2, h3⟩ := t
  refine ⟨b, ?_, fun e => hop (fun v H' x => hx v H' x) (h2 e), fun e => hx _ _ (h3 e)⟩
  rw [← h1]
  cases hd : (ops[j]?).bind (·.dst) with
  | none => simp [ev]
  | some d =>
   simp only [Option.getD_some, ev]
   rw [ha d (List.mem_append_right _ (by simp [guardT, hg, hd]))]
theorem swap_val {oi oj : Oper} {S : Sl} {H : AH} {v : Value} {Y : Sl → AH → Prop} (hap : apart (ops := ops) oi oj = true)
  (t : T1 P n ops oj Y (put S oi.dst v) H) : T1 P n ops oj (fun S' H' => ∀ Z : Sl → AH → Prop, (∀ S2 H2, Y S2 H2 → Z S2 H2) → Z (put S' oi.dst v) H') S H := by
 simp only [apart, Bool.and_eq_true] at hap
 have hr : ∀ a, oi.dst = some a → (el a (reads ops oj)) = false := by
  intro a ha
  have := hap.1
  rw [ha] at this
  simp only [Bool.and_eq_true, Bool.not_eq_true'] at this
  exact this.1
 have hd : ∀ a b, oj.dst = some a → oi.dst = some b → a ≠ b := by
  intro a b ha hb e
  have := hap.1
  rw [hb, ha] at this
  simp only [Bool.and_eq_true, bne_iff_ne] at this
  exact this.2 e.symm
 refine T1_agree (agree_put hr) ?_ t
 intro u H' y Z hz
 have : put (put S oi.dst v) oj.dst u = put (put S oj.dst u) oi.dst v := put_comm (fun a b ha hb => fun e => hd b a hb ha e.symm)
 rw [this] at y
 exact hz _ _ y
def HF (P : Program) {α : Type} : Sem α → Prop
 | .pure _ => True
 | .program k => HF P (k P)
 | .mark _ k => HF P k
 | .halt _ => True
 | _ => False
theorem HF_bind {α β : Type} {s : Sem α} {f : α → Sem β} (h : HF P s) (hf : ∀ a, HF P (f a)) : HF P (s.bind f) := by
 induction s with
 | pure a => exact hf a
 | program k ih => exact ih P h
 | mark m k ih => exact ih h
 | halt x => trivial
 | _ => exact h.elim
theorem HF_typeInfo (t : TypeId) : HF P (typeInfo t) := by
 show HF P (match P.info? t with | some i => pure i | none => stuck "no such type")
 cases P.info? t <;> trivial
theorem HF_underlying (t : TypeId) : HF P (underlying t) := by
 show HF P (match P.underlying t with | some i => pure i | none => stuck "no such type")
 cases P.underlying t <;> trivial
theorem HF_sizeOf (t : TypeId) : HF P (sizeOf t) := HF_bind (HF_typeInfo t) fun _ => trivial
theorem HF_zeroValue (t : TypeId) : HF P (zeroValue t) := by
 refine HF_bind (HF_typeInfo t) fun i => ?_
 cases hz : i.zero <;> simp only <;> trivial
def RO (P : Program) {α : Type} : Sem α → Prop
 | .pure _ => True
 | .program k => RO P (k P)
 | .mark _ k => RO P k
 | .halt _ => True
 | .load _ _ k => ∀ v, RO P (k v)
 | _ => False
theorem RO_bind {α β : Type} {s : Sem α} {f : α → Sem β} (h : RO P s) (hf : ∀ a, RO P (f a)) : RO P (s.bind f) := by
 induction s with
 | pure a => exact hf a
 | program k ih => exact ih P h
 | mark m k ih => exact ih h
 | halt x => trivial
 | load m a k ih => exact fun v => ih v (h v)
 | _ => exact h.elim
theorem RO_of_HF {α : Type} {s : Sem α} (h : HF P s) : RO P s := by
 induction s with
 | pure a => trivial
 | program k ih => exact ih P h
 | mark m k ih => exact ih h
 | halt x => trivial
 | _ => exact h.elim
theorem dem_ro {α : Type} {s : Sem α} : RO P s → ∀ {H : AH} {K : α → AH → Prop}, dem P s H K noE →
  ∃ (B : List (Nat × Obj)) (a : α), (∀ p ∈ B, H p.1 = some p.2) ∧ K a H ∧ ∀ H', (∀ p ∈ B, H' p.1 = some p.2) → ∀ K' : α → AH → Prop, K' a H' → dem P s H' K' noE := by
 induction s with
 | pure a => intro _ H K d; exact ⟨[], a, fun p hp => (by cases hp), d, fun H' _ K' k => k⟩
 | program k ih => intro h H K d; exact ih P h d
 | mark m k ih =>
  intro h H K d
  obtain ⟨B, r, h1, h2, h3⟩ := ih h d.2
  exact ⟨B, r, h1, h2, fun H' hp K' kk => ⟨d.1, h3 H' hp K' kk⟩⟩
 | halt x => intro _ H K d; cases x <;> exact d.elim
 | load m a k ih =>
  rintro h H K ⟨v, hc, d⟩
  obtain ⟨B, r, h1, h2, h3⟩ := ih v (h v) d
  cases hb : H a.block with
  | none => simp [cellA, hb] at hc
  | some o =>
   refine ⟨(a.block, o) :: B, r, ?_, h2, ?_⟩
   ·intro p hp
    rcases List.mem_cons.1 hp with rfl | hp
    ·exact hb
    ·exact h1 p hp
   ·intro H' hp K' kk
    refine ⟨v, ?_, h3 H' (fun p hp' => hp p (List.mem_cons_of_mem _ hp')) K' kk⟩
    have := hp (a.block, o) (List.mem_cons_self ..)
    unfold cellA at hc ⊢
    rw [hb] at hc
    rw [this]
    exact hc
 | _ => intro h; exact h.elim
theorem RO_loadFrom (a : Addr) : ∀ (n i : Nat) (acc : Array Value), RO P (loadCellsFrom a i n acc)
 | 0, _, _ => trivial
 | n + 1, i, acc => RO_bind (s := load (a.add i)) (fun _ => trivial) fun v => RO_loadFrom a n (i + 1) (acc.push v)
theorem RO_load (t : TypeId) (x : Value) : RO P (Instr.loadAt t x) := by
 unfold Instr.loadAt
 refine RO_bind ?_ fun a => ?_
 ·unfold Instr.sureAddr
  split <;> trivial
 ·unfold loadVar
  refine RO_bind (RO_of_HF (HF_bind (HF_underlying t) fun u => ?_)) fun b => ?_
  ·cases u <;> trivial
  ·split
   ·exact RO_bind (RO_of_HF (HF_sizeOf t)) fun m => RO_bind (RO_loadFrom a m 0 #[]) fun _ => trivial
   ·exact fun _ => trivial
def AD (P : Program) {α : Type} : Sem α → Prop
 | .program k => AD P (k P)
 | .mark _ k => AD P k
 | .halt _ => True
 | .choose _ k => ∀ t, AD P (k t)
 | _ => False
theorem dem_ad {α : Type} {s : Sem α} (h : AD P s) (H : AH) (K : α → AH → Prop) : ¬ dem P s H K noE := by
 induction s with
 | program k ih => exact ih P h
 | mark m k ih => exact fun d => ih h d.2
 | halt x => intro d; cases x <;> exact d.elim
 | choose q k ih =>
  intro d
  simp only [dem] at d
  split at d
  ·exact ih 0 (h 0) d
  ·exact ih _ (h _) (d 0)
 | _ => exact h.elim
theorem AD_bind {α β : Type} {s : Sem α} {f : α → Sem β} (h : AD P s) : AD P (s.bind f) := by
 induction s with
 | program k ih => exact ih P h
 | mark m k ih => exact ih h
 | halt x => trivial
 | choose q k ih => exact fun t => ih t (h t)
 | _ => exact h.elim
def AF (P : Program) : Sem Next → Prop
 | .program k => AF P (k P)
 | .mark _ k => AF P k
 | .halt _ => True
 | .choose _ k => ∀ t, AD P (k t)
 | .new _ k => ∀ b, ∃ v, k b = .pure (.value v)
 | _ => False
theorem AF_bind {α : Type} {s : Sem α} {f : α → Sem Next} (h : HF P s) (hf : ∀ a, AF P (f a)) : AF P (s.bind f) := by
 induction s with
 | pure a => exact hf a
 | program k ih => exact ih P h
 | mark m k ih => exact ih h
 | halt x => trivial
 | _ => exact h.elim
theorem dem_af {s : Sem Next} (h : AF P s) : (∃ (val : Nat → Value) (obj : Obj), ∀ (H : AH) (K : Next → AH → Prop), dem P s H K noE ↔ ∀ b, H b = none → K (.value (val b)) (hupd H b obj)) ∨ (∀ (H : AH) (K : Next → AH → Prop), ¬ dem P s H K noE) := by
 induction s with
 | program k ih => exact ih P h
 | mark m k ih =>
  cases hm : m.quiet with
  | false =>
   right
   intro H K d
   have := d.1
   rw [hm] at this
   cases this
  | true =>
   rcases ih h with ⟨val, obj, e⟩ | e
   ·exact .inl ⟨val, obj, fun H K => ⟨fun d => (e H K).1 d.2, fun d => ⟨hm, (e H K).2 d⟩⟩⟩
   ·exact .inr fun H K d => e H K d.2
 | halt x => right; intro H K d; cases x <;> exact d.elim
 | choose q k ih =>
  right
  intro H K d
  simp only [dem] at d
  split at d
  ·exact dem_ad (h 0) H K d
  ·exact dem_ad (h _) H K (d 0)
 | new o k ih =>
  left
  refine ⟨fun b => Classical.choose (h b), o, fun H K => ?_⟩
  constructor
  ·intro d b hb
   have := d b hb
   rw [Classical.choose_spec (h b)] at this
   exact this
  ·intro d b hb
   rw [Classical.choose_spec (h b)]
   exact d b hb
 | _ => exact h.elim
theorem sem_assoc {α β γ : Type} {s : Sem α} {f : α → Sem β} {g : β → Sem γ} : (s.bind f).bind g = s.bind fun z => (f z).bind g := by
 induction s with
 | pure a => rfl
 | load m a k ih => simp only [Sem.bind]; congr; funext v; exact ih v
 | store m a v k ih => simp only [Sem.bind]; congr
 | new o k ih => simp only [Sem.bind]; congr; funext v; exact ih v
 | shape r k ih => simp only [Sem.bind]; congr; funext v; exact ih v
 | freeze a n k ih => simp only [Sem.bind]; congr
 | frozen a k ih => simp only [Sem.bind]; congr; funext v; exact ih v
 | getObj r k ih => simp only [Sem.bind]; congr; funext v; exact ih v
 | setObj r o k ih => simp only [Sem.bind]; congr
 | choose q k ih => simp only [Sem.bind]; congr; funext v; exact ih v
 | sys c k ih => simp only [Sem.bind]; congr; funext v; exact ih v
 | program k ih => simp only [Sem.bind]; congr; funext v; exact ih v
 | mark m k ih => simp only [Sem.bind]; congr
 | halt x => rfl
def AV (P : Program) : Sem Value → Prop
 | .program k => AV P (k P)
 | .mark _ k => AV P k
 | .halt _ => True
 | .choose _ k => ∀ t, AD P (k t)
 | .new _ k => ∀ b, ∃ v, k b = .pure v
 | _ => False
theorem AV_bind {α : Type} {s : Sem α} {f : α → Sem Value} (h : HF P s) (hf : ∀ a, AV P (f a)) : AV P (s.bind f) := by
 induction s with
 | pure a => exact hf a
 | program k ih => exact ih P h
 | mark m k ih => exact ih h
 | halt x => trivial
 | _ => exact h.elim
theorem AF_of_AV {s : Sem Value} (h : AV P s) : AF P (s.bind fun v => Sem.pure (.value v)) := by
 induction s with
 | program k ih => exact ih P h
 | mark m k ih => exact ih h
 | halt x => trivial
 | choose q k ih => exact fun t => AD_bind (h t)
 | new o k ih =>
  intro b
  obtain ⟨v, hv⟩ := h b
  exact ⟨v, by show (k b).bind _ = _; rw [hv]; rfl⟩
 | _ => exact h.elim
theorem AV_buildSlice (t : TypeId) (len : Nat) (parts : Array (Nat × Value)) : AV P (Instr.buildSlice t len parts) := by
 unfold Instr.buildSlice
 refine AV_bind (HF_underlying t) fun d => ?_
 cases d <;> simp only <;> first | trivial | skip
 rename_i elem
 refine AV_bind (HF_sizeOf elem) fun size => ?_
 split
 ·trivial
 ·have fin : ∀ zero : Array Value, AV P (match Instr.fill (fun i => some (i * size, size)) (Array.map (fun x => zero[x % zero.size]!) (Array.range (len * size))) parts.toList with
    | some cells => do
     let a ← newRow elem cells
     pure (Value.slice (some a) len len)
    | _ => stuck "buildSlice: a part of the wrong size") := by
   intro zero
   cases Instr.fill (fun i => some (i * size, size)) (Array.map (fun x => zero[x % zero.size]!) (Array.range (len * size))) parts.toList with
   | none => trivial
   | some cells => intro b; exact ⟨_, rfl⟩
  split
  ·exact fin #[]
  ·exact AV_bind (HF_zeroValue elem) fun z => fin z.cells
theorem HF_asInt (x : Value) : HF P (asInt x) := by
 unfold asInt
 refine HF_bind ?_ fun _ => trivial
 unfold asIntOf
 split <;> trivial
theorem AV_makeSlice (t : TypeId) (x y : Value) : AV P (Instr.makeSlice t x y) := by
 unfold Instr.makeSlice
 refine AV_bind (HF_underlying t) fun d => ?_
 cases d <;> simp only <;> first | trivial | skip
 rename_i elem
 refine AV_bind (HF_asInt x) fun len => ?_
 refine AV_bind (HF_asInt y) fun cap => ?_
 refine AV_bind (HF_typeInfo elem) fun inf => ?_
 split
 ·split
  ·trivial
  ·split
   ·trivial
   ·intro t; trivial
 ·refine AV_bind (s := askRoom _) (by unfold askRoom; split <;> trivial) fun _ => ?_
  refine AV_bind (HF_sizeOf elem) fun size => ?_
  split
  ·intro b; exact ⟨_, rfl⟩
  ·refine AV_bind (HF_zeroValue elem) fun z => ?_
   intro b; exact ⟨_, rfl⟩
def freeOp : Op → Bool
 | .alloc _ | .box _ _ | .buildSlice _ _ _ | .makeSlice _ _ _ | .move _ | .assign _ | .makeFunc _ _ _ => true
 | _ => false
inductive FreeK (P : Program) (n : Nat) (o : Oper) (S : Sl) : Prop
 | val (v : Value) (h : ∀ (H : AH) (K : Value → AH → Prop), opW P n o S H K noE ↔ K v H)
 | new (val : Nat → Value) (obj : Obj) (h : ∀ (H : AH) (K : Value → AH → Prop), opW P n o S H K noE ↔ ∀ b, H b = none → K (val b) (hupd H b obj))
 | dead (h : ∀ (H : AH) (K : Value → AH → Prop), ¬ opW P n o S H K noE)
theorem freeK {o : Oper} (hf : freeOp o.op = true) (S : Sl) : FreeK P n o S := by
 obtain ⟨d, op, ty, ps, af, gd⟩ := o
 have fin : AF P (execOp (ev n S) ⟨d, op, ty, ps, af, gd⟩) → FreeK P n ⟨d, op, ty, ps, af, gd⟩ S := by
  intro a
  rcases dem_af a with ⟨val, obj, h⟩ | h
  ·exact .new val obj fun H K => h H (upon P K noE)
  ·exact .dead fun H K => h H (upon P K noE)
 cases op with
 | move x => exact .val (ev n S x) fun H K => Iff.rfl
 | assign x => exact .val (ev n S x) fun H K => Iff.rfl
 | makeFunc fn f c => exact .val (.func fn (f.map (ev n S)) (c.map (ev n S))) fun H K => Iff.rfl
 | alloc t =>
  refine fin ?_
  show AF P ((Sem.bind (zeroValue t) _).bind _)
  rw [sem_assoc]
  exact AF_bind (HF_zeroValue t) fun z => fun b => ⟨_, rfl⟩
 | box t x => exact fin fun b => ⟨_, rfl⟩
 | buildSlice t l p => exact fin (AF_of_AV (AV_buildSlice t l _))
 | makeSlice t x y => exact fin (AF_of_AV (AV_makeSlice t _ _))
 | _ => simp [freeOp] at hf
theorem opW_some {o : Oper} {S : Sl} {H : AH} {K : Value → AH → Prop} (w : opW P n o S H K noE) (f : Fin H) : ∃ v H', Fin H' ∧ K v H' := by
 rcases dem_some f w with ⟨x, H', f', u⟩ | ⟨v, H', f', y⟩
 ·cases x with
  | value v => exact ⟨v, H', f', u⟩
  | skip => exact ⟨undef, H', f', u⟩
  | enter g args =>
   obtain ⟨fr, cs, h1, f1, _, ⟨v, _, k⟩ | ⟨v, _, y⟩⟩ := (u f' default []).some f'
   ·exact ⟨v, h1, f1, k⟩
   ·exact y.elim
  | round l g tmps a c =>
   obtain ⟨fr, cs, h1, f1, _, ⟨v, _, k⟩ | ⟨v, _, y⟩⟩ := (u f' default []).some f'
   ·exact ⟨v, h1, f1, k⟩
   ·exact y.elim
  | _ => exact u.elim
 ·exact y.elim
theorem T1_some {o : Oper} {S : Sl} {H : AH} {X : Sl → AH → Prop} (w : T1 P n ops o X S H) (f : Fin H) : ∃ v H', Fin H' ∧ X (put S o.dst v) H' := by
 unfold T1 at w
 split at w
 ·exact opW_some w f
 ·obtain ⟨t, h1, h2, h3⟩ := w
  rename_i j want _
  by_cases ht : t = some want
  ·exact opW_some (h2 ht) f
  ·exact ⟨undef, H, f, h3 ht⟩
def one (b : Nat) (o : Obj) : AH := hupd hnil b o
theorem hun_one {H : AH} {b : Nat} {o : Obj} (hb : H b = none) : hun H (one b o) = hupd H b o := by
 funext c
 by_cases hc : c = b
 ·subst hc; simp [hun, hb, one, hupd]
 ·simp only [hun, one, hupd, if_neg hc, hnil]
  cases H c <;> rfl
theorem disj_one {H : AH} {b : Nat} {o : Obj} (hb : H b = none) : Disj H (one b o) := by
 intro c
 by_cases hc : c = b
 ·subst hc; exact .inl hb
 ·right; simp [one, hupd, hc, hnil]
theorem disj_one' {H : AH} {b : Nat} {o : Obj} (d : Disj H (one b o)) : H b = none := (d b).resolve_right (by simp [one, hupd])
theorem opW_frame {o : Oper} {S : Sl} {H F : AH} {K : Value → AH → Prop} (w : opW P n o S H K noE) (d : Disj H F) :
  opW P n o S (hun H F) (fun v H2 => ∃ H1, H2 = hun H1 F ∧ Disj H1 F ∧ K v H1) noE := by
 unfold opW at w ⊢
 refine dem_mono ?_ ?_ (dem_frame d w)
 ·rintro x H2 ⟨H1, rfl, d1, u⟩
  cases x with
  | value v => exact ⟨H1, rfl, d1, u⟩
  | skip => exact ⟨H1, rfl, d1, u⟩
  | enter g args =>
   refine (CallT.frame u d1).mono ?_ ?_
   ·rintro v h2 ⟨h1, rfl, d2, _, k⟩; exact ⟨h1, rfl, d2, k⟩
   ·rintro v h2 ⟨h1, rfl, d2, _, k⟩; exact k
  | round l g tmps a c =>
   refine (EnterT.frame u d1).mono ?_ ?_
   ·rintro v h2 ⟨h1, rfl, d2, _, k⟩; exact ⟨h1, rfl, d2, k⟩
   ·rintro v h2 ⟨h1, rfl, d2, _, k⟩; exact k
  | _ => exact u.elim
 ·rintro v H2 ⟨H1, rfl, d1, y⟩; exact y.elim
theorem T1_frame {o : Oper} {S : Sl} {H F : AH} {X : Sl → AH → Prop} (w : T1 P n ops o X S H) (d : Disj H F) :
  T1 P n ops o (fun S' H2 => ∃ H1, H2 = hun H1 F ∧ Disj H1 F ∧ X S' H1) S (hun H F) := by
 unfold T1 at w ⊢
 split at w
 ·exact opW_frame w d
 ·obtain ⟨t, h1, h2, h3⟩ := w
  exact ⟨t, h1, fun e => opW_frame (h2 e) d, fun e => ⟨H, rfl, d, h3 e⟩⟩
theorem T1_mono' {o : Oper} {X Y : Sl → AH → Prop} {S : Sl} {H : AH} (hxy : ∀ v H, X (put S o.dst v) H → Y (put S o.dst v) H) (t : T1 P n ops o X S H) : T1 P n ops o Y S H := by
 unfold T1 at t ⊢
 split at t
 ·exact opW_mono (fun v H' x => hxy _ _ x) (fun _ _ y => y) t
 ·obtain ⟨b, h1, h2, h3⟩ := t
  exact ⟨b, h1, fun e => opW_mono (fun v H' x => hxy _ _ x) (fun _ _ y => y) (h2 e), fun e => hxy _ _ (h3 e)⟩
theorem apart_symm {a b : Oper} (h : apart (ops := ops) a b = true) : apart (ops := ops) b a = true := by
 simp only [apart, Bool.and_eq_true] at h ⊢
 obtain ⟨h1, h2⟩ := h
 constructor
 ·cases hb : b.dst with
  | none => rfl
  | some d' =>
   rw [hb] at h2
   simp only [Bool.and_eq_true]
   refine ⟨h2, ?_⟩
   cases ha : a.dst with
   | none => rfl
   | some d =>
    rw [ha, hb] at h1
    simp only [Bool.and_eq_true, bne_iff_ne] at h1 ⊢
    exact fun e => h1.2 e.symm
 ·cases ha : a.dst with
  | none => rfl
  | some d =>
   rw [ha] at h1
   simp only [Bool.and_eq_true] at h1
   exact h1.1
theorem put_agree {oi oj : Oper} (hap : apart (ops := ops) oi oj = true) (S : Sl) (v : Value) : ∀ t ∈ reads ops oj, put S oi.dst v t = S t := by
 simp only [apart, Bool.and_eq_true] at hap
 refine agree_put ?_
 intro a ha
 have := hap.1
 rw [ha] at this
 simp only [Bool.and_eq_true, Bool.not_eq_true'] at this
 exact this.1
theorem put_swap {oi oj : Oper} (hap : apart (ops := ops) oi oj = true) (S : Sl) (v u : Value) : put (put S oi.dst v) oj.dst u = put (put S oj.dst u) oi.dst v := by
 simp only [apart, Bool.and_eq_true] at hap
 refine put_comm ?_
 intro a b ha hb e
 have := hap.1
 rw [ha, hb] at this
 simp only [Bool.and_eq_true, bne_iff_ne] at this
 exact this.2 e
theorem freeK_agree {o : Oper} {S S' : Sl} (ha : ∀ t ∈ reads ops o, S t = S' t) {H : AH} {K : Value → AH → Prop} : opW P n o S H K noE ↔ opW P n o S' H K noE := by
 have he : execOp (ev n S) o = execOp (ev n S') o := exec_agree (ev_agree fun t ht => ha t (List.mem_append_left _ ht))
 unfold opW
 rw [he]
theorem swap_free {oi oj : Oper} {S : Sl} {H : AH} {Y : Sl → AH → Prop} (hf : freeOp oj.op = true) (hg : oj.guard = none) (hap : apart (ops := ops) oi oj = true) (fH : Fin H)
  (t : T1 P n ops oi (fun S' H' => T1 P n ops oj Y S' H') S H) : T1 P n ops oj (fun S' H' => Ext H H' ∧ T1 P n ops oi Y S' H') S H := by
 have hinner : ∀ (v : Value) (H' : AH), T1 P n ops oj Y (put S oi.dst v) H' → opW P n oj S H' (fun u H2 => Y (put (put S oi.dst v) oj.dst u) H2) noE := by
  intro v H' w
  unfold T1 at w
  rw [hg] at w
  exact (freeK_agree (ops := ops) (put_agree hap S v)).1 w
 have hout : ∀ {Z : Sl → AH → Prop}, opW P n oj S H (fun u H2 => Z (put S oj.dst u) H2) noE → T1 P n ops oj Z S H := by
  intro Z w
  unfold T1
  rw [hg]
  exact w
 cases freeK (P := P) (n := n) hf S with
 | val u h =>
  refine hout ((h H _).2 ⟨Ext.refl H, ?_⟩)
  have t2 : T1 P n ops oi (fun S' H' => Y (put S' oj.dst u) H') S H := T1_mono' (fun v H' w => (h H' _).1 (hinner v H' w)) t
  refine T1_agree (X := fun S' H' => Y (put S' oj.dst u) H') (fun x hx => (put_agree (apart_symm hap) S u x hx).symm) ?_ t2
  intro v H' y
  rw [put_swap hap S v u] at y
  exact y
 | new val obj h =>
  refine hout ((h H _).2 fun b hb => ⟨Ext.new (Ext.refl H) hb obj, ?_⟩)
  have t2 : T1 P n ops oi (fun S' H' => ∀ b, H' b = none → Y (put S' oj.dst (val b)) (hupd H' b obj)) S H := T1_mono' (fun v H' w => (h H' _).1 (hinner v H' w)) t
  have t3 := T1_frame t2 (disj_one (o := obj) hb)
  rw [hun_one hb] at t3
  refine T1_agree (fun x hx => (put_agree (apart_symm hap) S (val b) x hx).symm) ?_ t3
  rintro v H' ⟨H1, rfl, d1, y⟩
  have hb1 := disj_one' d1
  have := y b hb1
  rw [put_swap hap S v (val b)] at this
  rw [hun_one hb1]
  exact this
 | dead h =>
  obtain ⟨v, H', _, w⟩ := T1_some t fH
  exact absurd (hinner v H' w) (h H' _)
def blkStep (ops : Array Oper) (i : Nat) (acc : List Nat) (k : Nat) : List Nat :=
 match ops[k]? with
 | some o => if o.after.toList.any (fun e => Region.binds .any e && (e.on == i || (el e.on acc))) then k :: acc else acc
 | none => acc
def blk (ops : Array Oper) (i : Nat) : List Nat := (List.range ops.size).foldl (blkStep ops i) []
theorem blk_prop (i k : Nat) (hk : (el k (blk ops i)) = true) : ∃ o e, ops[k]? = some o ∧ e ∈ o.after.toList ∧ Region.binds .any e = true ∧ (e.on = i ∨ (el e.on (blk ops i)) = true) := by
 have key : ∀ (l : List Nat) (acc : List Nat), (∀ x, (el x acc) = true → (el x (l.foldl (blkStep ops i) acc)) = true) ∧
   ((∀ x, (el x acc) = true → ∃ o e, ops[x]? = some o ∧ e ∈ o.after.toList ∧ Region.binds .any e = true ∧ (e.on = i ∨ (el e.on acc) = true)) →
    ∀ x, (el x (l.foldl (blkStep ops i) acc)) = true → ∃ o e, ops[x]? = some o ∧ e ∈ o.after.toList ∧ Region.binds .any e = true ∧ (e.on = i ∨ (el e.on (l.foldl (blkStep ops i) acc)) = true)) := by
  intro l
  induction l with
  | nil => intro acc; exact ⟨fun x h => h, fun h x hx => h x hx⟩
  | cons a l ih =>
   intro acc
   have hsub : ∀ x, (el x acc) = true → (el x (blkStep ops i acc a)) = true := by
    intro x hx
    unfold blkStep
    split
    ·split
     ·simp only [el_cons, hx, Bool.or_true]
     ·exact hx
    ·exact hx
   obtain ⟨ih1, ih2⟩ := ih (blkStep ops i acc a)
   refine ⟨fun x hx => ih1 x (hsub x hx), fun h x hx => ih2 ?_ x hx⟩
   intro y hy
   by_cases hya : (el y acc) = true
   ·obtain ⟨o, e, h1, h2, h3, h4⟩ := h y hya
    exact ⟨o, e, h1, h2, h3, h4.imp id (hsub _)⟩
   ·unfold blkStep at hy
    split at hy
    ·rename_i o ho
     split at hy
     ·rename_i hany
      simp only [el_cons, Bool.or_eq_true, beq_iff_eq] at hy
      rcases hy with rfl | hy
      ·obtain ⟨e, he, hb⟩ := List.any_eq_true.1 hany
       simp only [Bool.and_eq_true, Bool.or_eq_true, beq_iff_eq] at hb
       exact ⟨o, e, ho, he, hb.1, hb.2.imp id (hsub _)⟩
      ·exact absurd hy hya
     ·exact absurd hy hya
    ·exact absurd hy hya
 exact (key (List.range ops.size) []).2 (fun x hx => by cases hx) k hk
theorem not_blk {i j : Nat} {dn : List Nat} (hr : ready ops dn j = true) (hi : (el i dn) = false) (hb : ∀ k, (el k (blk ops i)) = true → (el k dn) = false) : (el j (blk ops i)) = false := by
 cases hj : (el j (blk ops i)) with
 | false => rfl
 | true =>
  exfalso
  obtain ⟨o, e, ho, he, hbi, hon⟩ := blk_prop i j hj
  unfold ready at hr
  rw [ho] at hr
  simp only [Bool.and_eq_true] at hr
  have := List.all_eq_true.1 hr.2 e he
  rw [hbi] at this
  simp only [Bool.not_true, Bool.false_or] at this
  rcases hon with h | h
  ·rw [h, hi] at this; cases this
  ·rw [hb _ h] at this; cases this
abbrev Gh := List (Nat × (AH → Prop))
def alive (ops : Array Oper) (ac : List Nat) (i : Nat) : Prop := ∀ k, el k (blk ops i) = true → el k ac = false
def GT (ops : Array Oper) (ac : List Nat) (G : Gh) (H : AH) : Prop := ∀ g ∈ G, alive ops ac g.1 → g.2 H
def WG (P : Program) (n : Nat) (ops : Array Oper) : Nat → List Nat → List Nat → Gh → (Sl → AH → Prop) → Sl → AH → Prop
 | 0, _, _, _, X, S, H => X S H
 | m + 1, dn, ac, G, X, S, H => ∀ j o, ops[j]? = some o → ready ops dn j = true → T1 P n ops o (fun S' H' => GT ops (j :: ac) G H' ∧ WG P n ops m (j :: dn) (j :: ac) G X S' H') S H
theorem alive_less {ac ac' : List Nat} (h : ∀ k, el k ac' = true → el k ac = true) {i : Nat} (a : alive ops ac i) : alive ops ac' i := fun k hk => by
 cases hc : el k ac' with
 | false => rfl
 | true => have h1 := h k hc; rw [a k hk] at h1; cases h1
theorem GT_more {ac ac' : List Nat} (h : ∀ k, el k ac = true → el k ac' = true) {G : Gh} {H : AH} (g : GT ops ac G H) : GT ops ac' G H := fun x hx a => g x hx (alive_less h a)
theorem WG_perm {X : Sl → AH → Prop} {G : Gh} : ∀ (m : Nat) (dn dn' ac ac' : List Nat), (∀ k, el k dn = el k dn') → (∀ k, el k ac = true → el k ac' = true) → ∀ S H, WG P n ops m dn ac G X S H → WG P n ops m dn' ac' G X S H
 | 0, _, _, _, _, _, _, _, _, w => w
 | m + 1, dn, dn', ac, ac', he, ha, S, H, w => fun i o ho hr => by
  have he' : ∀ k, el k (i :: dn) = el k (i :: dn') := fun k => by simp only [el_cons, he]
  have ha' : ∀ k, el k (i :: ac) = true → el k (i :: ac') = true := fun k => by
   simp only [el_cons, Bool.or_eq_true]
   exact fun h => h.imp id (ha k)
  refine T1_mono (fun S H w' => ⟨GT_more ha' w'.1, ?_⟩) (w i o ho (by rw [ready_perm he]; exact hr))
  exact WG_perm m (i :: dn) (i :: dn') (i :: ac) (i :: ac') he' ha' S H w'.2
theorem WG_less {X : Sl → AH → Prop} {G G' : Gh} (hg : ∀ x ∈ G, x ∈ G') : ∀ (m : Nat) (dn ac : List Nat) S H, WG P n ops m dn ac G' X S H → WG P n ops m dn ac G X S H
 | 0, _, _, _, _, w => w
 | m + 1, dn, ac, S, H, w => fun i o ho hr => T1_mono (fun S H w' => ⟨fun x hx a => w'.1 x (hg x hx) a, WG_less hg m (i :: dn) (i :: ac) S H w'.2⟩) (w i o ho hr)
theorem WG_WA {X : Sl → AH → Prop} {G : Gh} : ∀ (m : Nat) (dn ac : List Nat) S H, WG P n ops m dn ac G X S H → WA P n ops m dn X S H
 | 0, _, _, _, _, w => w
 | m + 1, dn, ac, S, H, w => fun i o ho hr => T1_mono (fun S H w' => WG_WA m (i :: dn) (i :: ac) S H w'.2) (w i o ho hr)
def left (ops : Array Oper) (dn : List Nat) : List Nat := (List.range ops.size).filter fun k => !el k dn
theorem left_cons {dn : List Nat} {i : Nat} (hi : i < ops.size) (hd : el i dn = false) {m : Nat} (hl : (left ops dn).length = m + 1) : (left ops (i :: dn)).length = m := by
 have e : left ops (i :: dn) = (left ops dn).filter fun k => k != i := by
  unfold left
  rw [List.filter_filter]
  congr 1
  funext k
  simp only [el_cons, Bool.not_or]
  rfl
 have hm : i ∈ left ops dn := by unfold left; simp [hi, hd]
 have nd : (left ops dn).Nodup := List.nodup_range.filter _
 rw [e]
 have : (left ops dn).filter (fun k => k != i) = (left ops dn).erase i := by rw [nd.erase_eq_filter]
 rw [this, List.length_erase_of_mem hm, hl]
 rfl
theorem left_two {dn : List Nat} {i j : Nat} (hi : i < ops.size) (hj : j < ops.size) (hdi : el i dn = false) (hdj : el j dn = false) (hij : j ≠ i) (hl : (left ops dn).length = 1) : False := by
 have h1 := left_cons hi hdi hl
 have : j ∈ left ops (i :: dn) := by
  unfold left
  have : el j (i :: dn) = false := by simp only [el_cons, hdj, Bool.or_false]; simpa using hij
  rw [List.mem_filter, this]
  exact ⟨by simpa using hj, rfl⟩
 rw [List.eq_nil_of_length_eq_zero h1] at this
 cases this
theorem ready_lt {dn : List Nat} {i : Nat} (h : ready ops dn i = true) : i < ops.size ∧ el i dn = false := by
 unfold ready at h
 cases ho : ops[i]? with
 | none => rw [ho] at h; cases h
 | some o =>
  rw [ho] at h
  simp only [Bool.and_eq_true, Bool.not_eq_true'] at h
  exact ⟨(Array.getElem?_eq_some_iff.1 ho).1, h.1⟩
theorem ready_more {dn : List Nat} {i j : Nat} (h : ready ops dn j = true) (hij : j ≠ i) : ready ops (i :: dn) j = true := by
 unfold ready at h ⊢
 cases ho : ops[j]? with
 | none => rw [ho] at h; cases h
 | some o =>
  rw [ho] at h
  simp only [Bool.and_eq_true, Bool.not_eq_true'] at h ⊢
  refine ⟨?_, List.all_eq_true.2 fun e he => ?_⟩
  ·simp only [el_cons, h.1, Bool.or_false]; simpa using hij
  ·have := List.all_eq_true.1 h.2 e he
   simp only [el_cons, Bool.or_eq_true] at this ⊢
   exact this.imp id .inr
theorem take_stab {X : Sl → AH → Prop} {i : Nat} {oi : Oper} (hoi : ops[i]? = some oi) {v : Value} {Φ : AH → Prop} :
  ∀ (m : Nat) (dn ac : List Nat) (G : Gh) (S : Sl) (H : AH), (left ops dn).length = m + 1 → ready ops dn i = true → (∀ k, el k (blk ops i) = true → el k dn = false) → (∀ k, el k ac = true → el k dn = true) → GT ops ac G H →
   (∀ S2, (∀ t ∈ reads ops oi, S2 t = S t) → ∀ H2, Φ H2 → ∀ Z : Sl → AH → Prop, Z (put S2 oi.dst v) H2 → T1 P n ops oi Z S2 H2) →
   Φ H → (∀ j oj, ops[j]? = some oj → j ≠ i → el j dn = false → el j (blk ops i) = false → apart (ops := ops) oi oj = true) → WG P n ops m (i :: dn) ac ((i, Φ) :: G) X (put S oi.dst v) H → WG P n ops (m + 1) dn ac G X S H := by
 intro m
 induction m with
 | zero =>
  intro dn ac G S H hl hr hal hac hgt hst hΦ _ w j oj hoj hrj
  obtain ⟨hi, hdi⟩ := ready_lt hr
  obtain ⟨hj, hdj⟩ := ready_lt hrj
  by_cases hji : j = i
  ·subst hji
   rw [hoi] at hoj
   obtain rfl := Option.some.inj hoj
   exact hst S (fun _ _ => rfl) H hΦ _ ⟨GT_more (fun k hk => by simp [el_cons, hk]) hgt, w⟩
  ·exact (left_two hi hj hdi hdj hji hl).elim
 | succ m ih =>
  intro dn ac G S H hl hr hal hac hgt hst hΦ hap w j oj hoj hrj
  obtain ⟨hi, hdi⟩ := ready_lt hr
  obtain ⟨hj, hdj⟩ := ready_lt hrj
  by_cases hji : j = i
  ·subst hji
   rw [hoi] at hoj
   obtain rfl := Option.some.inj hoj
   exact hst S (fun _ _ => rfl) H hΦ _ ⟨GT_more (fun k hk => by simp [el_cons, hk]) hgt, WG_perm _ _ _ _ _ (fun _ => rfl) (fun k hk => by simp [el_cons, hk]) _ _ (WG_less (fun x hx => List.mem_cons_of_mem _ hx) _ _ _ _ _ w)⟩
  ·have hnb := not_blk hrj hdi hal
   have hapj := hap j oj hoj hji hdj hnb
   have w1 := w j oj hoj (ready_more hrj hji)
   have w2 := swap_val hapj w1
   refine T1_mono' ?_ w2
   intro u H' y
   have y1 := y (fun S2 H2 => GT ops (j :: ac) ((i, Φ) :: G) H2 ∧ WG P n ops m (j :: i :: dn) (j :: ac) ((i, Φ) :: G) X S2 H2) (fun _ _ h => h)
   have hpm : ∀ k, el k (j :: i :: dn) = el k (i :: j :: dn) := fun k => by simp only [el_cons]; cases (k == j) <;> cases (k == i) <;> rfl
   have hal' : ∀ k, el k (blk ops i) = true → el k (j :: dn) = false := fun k hk => by
    simp only [el_cons, hal k hk, Bool.or_false]
    cases hkj : (k == j) with
    | false => rfl
    | true => rw [beq_iff_eq] at hkj; subst hkj; rw [hk] at hnb; cases hnb
   have hac' : ∀ k, el k (j :: ac) = true → el k (j :: dn) = true := fun k => by
    simp only [el_cons, Bool.or_eq_true]
    exact fun h => h.imp id (hac k)
   have hali : alive ops (j :: ac) i := fun k hk => by
    cases hc : el k (j :: ac) with
    | false => rfl
    | true => have := hac' k hc; rw [hal' k hk] at this; cases this
   have hgt' : GT ops (j :: ac) G H' := fun g hg a => y1.1 g (List.mem_cons_of_mem _ hg) a
   refine ⟨hgt', ?_⟩
   refine ih (j :: dn) (j :: ac) G (put S oj.dst u) H' (left_cons hj hdj hl) (ready_more hr (fun e => hji e.symm)) hal' hac' hgt' ?_ (y1.1 (i, Φ) (List.mem_cons_self ..) hali) ?_ (WG_perm m _ _ _ _ hpm (fun _ h => h) _ _ y1.2)
   ·intro S2 h2 H2 hp Z hz
    exact hst S2 (fun t ht => (h2 t ht).trans (put_agree (apart_symm hapj) S u t ht)) H2 hp Z hz
   ·intro k ok hok hki hdk hbk
    exact hap k ok hok hki (by simp only [el_cons, Bool.or_eq_false_iff] at hdk; exact hdk.2) hbk
theorem take_any {X : Sl → AH → Prop} {i : Nat} {oi : Oper} (hoi : ops[i]? = some oi) :
  ∀ (m : Nat) (dn ac : List Nat) (G : Gh) (S : Sl) (H : AH), Fin H → (left ops dn).length = m + 1 → ready ops dn i = true → (∀ k, el k (blk ops i) = true → el k dn = false) → GT ops ac G H →
   (∀ g ∈ G, ∀ H1 H2, Ext H1 H2 → g.2 H1 → g.2 H2) →
   (∀ j oj, ops[j]? = some oj → j ≠ i → el j dn = false → el j (blk ops i) = false → freeOp oj.op = true ∧ oj.guard = none ∧ apart (ops := ops) oi oj = true) →
   T1 P n ops oi (fun S' H' => GT ops (i :: ac) G H' ∧ WG P n ops m (i :: dn) (i :: ac) G X S' H') S H → WG P n ops (m + 1) dn ac G X S H := by
 intro m
 induction m with
 | zero =>
  intro dn ac G S H fH hl hr hal hgt hmo _ w j oj hoj hrj
  obtain ⟨hi, hdi⟩ := ready_lt hr
  obtain ⟨hj, hdj⟩ := ready_lt hrj
  by_cases hji : j = i
  ·subst hji
   rw [hoi] at hoj
   obtain rfl := Option.some.inj hoj
   exact w
  ·exact (left_two hi hj hdi hdj hji hl).elim
 | succ m ih =>
  intro dn ac G S H fH hl hr hal hgt hmo hfr w j oj hoj hrj
  obtain ⟨hi, hdi⟩ := ready_lt hr
  obtain ⟨hj, hdj⟩ := ready_lt hrj
  by_cases hji : j = i
  ·subst hji
   rw [hoi] at hoj
   obtain rfl := Option.some.inj hoj
   exact w
  ·have hnb := not_blk hrj hdi hal
   obtain ⟨hf, hg, hap⟩ := hfr j oj hoj hji hdj hnb
   have w1 : T1 P n ops oi (fun S' H' => T1 P n ops oj (fun S2 H2 => GT ops (j :: i :: ac) G H2 ∧ WG P n ops m (j :: i :: dn) (j :: i :: ac) G X S2 H2) S' H') S H :=
    T1_mono (fun S' H' y => y.2 j oj hoj (ready_more hrj hji)) w
   have w2 := swap_free hf hg hap fH w1
   have w3 : T1 P n ops oj (fun S' H' => Fin H' ∧ Ext H H' ∧ T1 P n ops oi (fun S2 H2 => GT ops (j :: i :: ac) G H2 ∧ WG P n ops m (j :: i :: dn) (j :: i :: ac) G X S2 H2) S' H') S H := by
    unfold T1 at w2 ⊢
    rw [hg] at w2 ⊢
    cases freeK (P := P) (n := n) hf S with
    | val u h => exact (h H _).2 ⟨fH, (h H _).1 w2⟩
    | new val obj h => exact (h H _).2 fun b hb => ⟨fH.hupd _ _, (h H _).1 w2 b hb⟩
    | dead h => exact absurd w2 (h H _)
   refine T1_mono ?_ w3
   rintro S' H' ⟨f', hE, y⟩
   have hpd : ∀ k, el k (j :: i :: dn) = el k (i :: j :: dn) := fun k => by simp only [el_cons]; cases (k == j) <;> cases (k == i) <;> rfl
   have hpa : ∀ k, el k (j :: i :: ac) = true → el k (i :: j :: ac) = true := fun k => by
    simp only [el_cons, Bool.or_eq_true]
    rintro (h | h | h)
    ·exact .inr (.inl h)
    ·exact .inl h
    ·exact .inr (.inr h)
   have hal' : ∀ k, el k (blk ops i) = true → el k (j :: dn) = false := fun k hk => by
    simp only [el_cons, hal k hk, Bool.or_false]
    cases hkj : (k == j) with
    | false => rfl
    | true => rw [beq_iff_eq] at hkj; subst hkj; rw [hk] at hnb; cases hnb
   have hgt' : GT ops (j :: ac) G H' := fun g hg2 a => hmo g hg2 H H' hE (hgt g hg2 (alive_less (fun k hk => by simp [el_cons, hk]) a))
   refine ⟨hgt', ?_⟩
   refine ih (j :: dn) (j :: ac) G S' H' f' (left_cons hj hdj hl) (ready_more hr (fun e => hji e.symm)) hal' hgt' hmo ?_ (T1_mono (fun S2 H2 z => ⟨GT_more hpa z.1, WG_perm m _ _ _ _ hpd hpa _ _ z.2⟩) y)
   intro k ok hok hki hdk hbk
   exact hfr k ok hok hki (by simp only [el_cons, Bool.or_eq_false_iff] at hdk; exact hdk.2) hbk
end draw
end Go.HL
namespace Go.HL
open Go
variable [Lvl]
section
variable {P : Program} {n : Nat} {ops : Array Oper} {ro : Option Nat} {K : Post} {S : Sl} {D : Df} {L : Pv} {h : AH}
theorem opW_fin {o : Oper} {S : Sl} {H : AH} {K : Value → AH → Prop} (w : opW P n o S H K noE) (f : Fin H) : opW P n o S H (fun v H' => Fin H' ∧ K v H') noE := by
 unfold opW at w ⊢
 refine dem_mono ?_ (fun _ _ y => y.2) (dem_fin f w)
 rintro x H' ⟨f', u⟩
 cases x with
 | value v => exact ⟨f', u⟩
 | skip => exact ⟨f', u⟩
 | enter g args => exact EnterT.mono (EnterT.fin u) (fun _ _ k => k) (fun _ _ y => y.2)
 | round l g tmps a c => exact EnterT.mono (EnterT.fin u) (fun _ _ k => k) (fun _ _ y => y.2)
 | _ => exact u.elim
def TL (P : Program) (n : Nat) (ops : Array Oper) : List Nat → (Sl → AH → Prop) → Sl → AH → Prop
 | [], X, S, H => X S H
 | i :: r, X, S, H => ∃ o, ops[i]? = some o ∧ T1 P n ops o (TL P n ops r X) S H
theorem goes_wl {items : List Item} {L' : Pv} {h' H : AH} (e : H = wl h' L') (V : Valid h' L') (g : Goes P n ro items K S D L' h') : Goes P n ro items K S D [] H := by
 refine goes_turn (fun _ => ⟨?_, V⟩) g
 rw [wl_nil, e]
theorem TL_goes {X : Sl → AH → Prop} (hcalm : ∀ (i : Nat) (o : Oper), ops[i]? = some o → Op.calm o.op) (hx : ∀ S' H', Fin H' → X S' H' → Goes P n ro [.inRegion ops []] K S' D [] H') :
  ∀ (l : List Nat) (S : Sl) (H : AH), Fin H → TL P n ops l X S H → Goes P n ro [.inRegion ops l] K S D [] H
 | [], S, H, f, w => hx S H f w
 | i :: r, S, H, f, ⟨o, ho, w⟩ => by
  have ih := TL_goes hcalm hx r
  have op : ∀ (w : opW P n o S H (fun v H' => TL P n ops r X (put S o.dst v) H') noE), opL P n o S [] H (fun v L' h' => Goes P n ro [.inRegion ops r] K (put S o.dst v) D L' h') (fun v L' h' => K (.panic v) S D L' h') := by
   intro w V
   refine opW_mono ?_ (fun _ _ y => y.elim) (opW_fin w f)
   rintro v H' ⟨f', t⟩
   exact ⟨[], H', rfl, valid_nil f', ih _ _ f' t⟩
  unfold T1 at w
  cases hg : o.guard with
  | none =>
   rw [hg] at w
   exact goes_op ho (hcalm i o ho) (by simp [Region.wanted, hg]) (op w)
  | some jw =>
   obtain ⟨j, want⟩ := jw
   rw [hg] at w
   obtain ⟨t, he, w1, w2⟩ := w
   by_cases ht : t = some want
   ·exact goes_op ho (hcalm i o ho) (by simp [Region.wanted, hg, yielded_ev he, ht]) (op (w1 ht))
   ·exact goes_pass ho (by simp [Region.wanted, hg, yielded_ev he, ht]) (ih _ _ f (w2 ht))
def backB (ops : Array Oper) : Bool := (List.range ops.size).all fun k => match ops[k]? with | some o => o.after.toList.all fun e => !Region.binds .any e || Nat.blt e.on k | none => true
theorem some_ready (hb : backB ops = true) {dn : List Nat} {m : Nat} (hl : (left ops dn).length = m + 1) : ∃ i, ready ops dn i = true := by
 have hne : left ops dn ≠ [] := fun e => by rw [e] at hl; cases hl
 obtain ⟨k0, hk0⟩ := List.exists_mem_of_ne_nil _ hne
 have key : ∀ k, k ∈ left ops dn → ∃ i, ready ops dn i = true := by
  intro k
  induction k using Nat.strongRecOn with
  | _ k ih =>
   intro hk
   unfold left at hk
   rw [List.mem_filter] at hk
   have hlt : k < ops.size := by simpa using hk.1
   have ho : ops[k]? = some ops[k] := Array.getElem?_eq_getElem hlt
   by_cases hr : ready ops dn k = true
   ·exact ⟨k, hr⟩
   ·unfold ready at hr
    rw [ho] at hr
    simp only [hk.2, Bool.true_and] at hr
    have hr' : ¬ ∀ e ∈ ops[k].after.toList, (!Region.binds .any e || el e.on dn) = true := fun hall => hr (List.all_eq_true.2 hall)
    simp only [Classical.not_forall] at hr'
    obtain ⟨e, he, hn⟩ := hr'
    have hbk := List.all_eq_true.1 hb k (by simpa using hlt)
    rw [ho] at hbk
    have hbe := List.all_eq_true.1 hbk e he
    cases hbi : Region.binds .any e with
    | false => rw [hbi] at hn; exact absurd rfl hn
    | true =>
     rw [hbi] at hn hbe
     simp only [Bool.not_true, Bool.false_or] at hn hbe
     have hek : e.on < k := by have := Nat.le_of_ble_eq_true hbe; omega
     refine ih e.on hek ?_
     unfold left
     rw [List.mem_filter]
     refine ⟨by simp; omega, ?_⟩
     simpa using hn
 exact key k0 hk0
theorem lin_go (hb : backB ops = true) {X : Sl → AH → Prop} : ∀ (m t : Nat) (listed : Array Bool) (dn acc : List Nat), listed.size = ops.size → (∀ k, listed.getD k false = el k dn) → (left ops dn).length = m →
  ∃ l, Region.linearise.go .any ops m t listed acc = acc.reverse ++ l ∧ ∀ S H, WA P n ops m dn X S H → TL P n ops l X S H
 | 0, t, listed, dn, acc, _, _, _ => ⟨[], by simp [Region.linearise.go], fun S H w => w⟩
 | m + 1, t, listed, dn, acc, hs, hd, hl => by
  unfold Region.linearise.go
  simp only
  have hrs : ((List.range ops.size).filter fun i => !listed.getD i true && ((ops[i]?).map (·.after.all fun e => !Region.binds .any e || listed.getD e.on false)).getD false) = (List.range ops.size).filter fun i => ready ops dn i := by
   apply List.filter_congr
   intro i hi
   have hlt : i < ops.size := by simpa using hi
   have ho : ops[i]? = some ops[i] := Array.getElem?_eq_getElem hlt
   have h1 : listed.getD i true = el i dn := by rw [← hd i]; simp [Array.getD, hs, hlt]
   unfold ready
   rw [ho, h1]
   simp only [Option.map_some, Option.getD_some]
   congr 1
   rw [← Array.all_toList]
   congr 1
   funext e
   rw [hd]
  rw [hrs]
  generalize hR : (List.range ops.size).filter (fun i => ready ops dn i) = rs
  obtain ⟨i0, hi0⟩ := some_ready hb hl
  have hpos : 0 < rs.length := by
   rw [← hR]
   refine List.length_pos_of_mem (a := i0) ?_
   rw [List.mem_filter]
   exact ⟨by simpa using (ready_lt hi0).1, hi0⟩
  have hlt : t % rs.length < rs.length := Nat.mod_lt _ hpos
  rw [List.getElem?_eq_getElem hlt]
  simp only
  generalize hi : rs[t % rs.length] = i
  have hr : ready ops dn i = true := by
   have : i ∈ rs := hi ▸ List.getElem_mem hlt
   rw [← hR, List.mem_filter] at this
   exact this.2
  obtain ⟨hil, hid⟩ := ready_lt hr
  obtain ⟨l, e, w⟩ := lin_go hb (X := X) m (t / rs.length) (listed.setIfInBounds i true) (i :: dn) (i :: acc) (by simp [hs]) (fun k => by
   rw [el_cons]
   by_cases hk : k = i
   ·subst hk; simp [Array.getD, hs, hil]
   ·have h1 : (k == i) = false := by simpa using hk
    rw [h1, Bool.false_or, ← hd k]
    simp only [Array.getD_eq_getD_getElem?, Array.getElem?_setIfInBounds]
    rw [if_neg (fun e => hk e.symm)]) (left_cons hil hid hl)
  refine ⟨i :: l, by rw [e]; simp, fun S H ww => ?_⟩
  have ho : ops[i]? = some ops[i] := Array.getElem?_eq_getElem hil
  exact ⟨ops[i], ho, T1_mono (fun S H w' => w S H w') (ww i ops[i] ho hr)⟩
theorem xp_draw {id : Nat} {l : List Oper} (hmx : P.follows .mixedOrders = true) (hc : calmB l = true) (hb : backB l.toArray = true)
  (w : Valid h L → WA P n l.toArray l.length [] (fun S' H' => ∃ L' h', H' = wl h' L' ∧ Valid h' L' ∧ K .normal S' D L' h') S (wl h L)) : xp P n ro (.region id l.toArray true) K S D L h := by
 intro H0 V0 b hb0 k cs
 have V := V0.valid
 refine .sem (choose (.order b.fn id)) (fun _ => True) (fun _ => False) (fun t => (mk b n S D (.inRegion l.toArray (Region.schedule (P.follows .mixedOrders) l.toArray t) :: k), cs)) (fun _ => (b, cs)) (fun _ H' => H' = H0) (fun _ _ => False) ?_ ?_ (fun _ _ _ => trivial) (fun _ _ y => y) ?_ (fun _ _ y => y.elim)
 ·intro main ww
  refine ⟨fun t w' e _ => ?_, fun v w' e y => y.elim⟩
  show GStep.tells _ _ _ (stepG P main (G (mk b n S D ([.code (.region id l.toArray true)] ++ k)) cs) ww)
  simp only [stepG, stepG.exec, mk, List.cons_append, List.nil_append, e]
  exact ⟨rfl, rfl, fun _ he => absurd he (by simp)⟩
 ·show dem P (.choose (.order b.fn id) .pure) H0 _ _
  unfold dem
  exact fun t => rfl
 ·rintro t H' rfl
  have hlen : (left l.toArray []).length = l.length := by
   have : left l.toArray [] = List.range l.length := by unfold left; rw [List.size_toArray]; exact List.filter_eq_self.2 (fun _ _ => rfl)
   rw [this, List.length_range]
  obtain ⟨lst, e, tl⟩ := lin_go (P := P) (n := n) hb (X := fun S' H' => ∃ L' h', H' = wl h' L' ∧ Valid h' L' ∧ K .normal S' D L' h') l.length t (Array.replicate l.toArray.size false) [] [] (by simp) (fun k => by simp [el, Array.getD_eq_getD_getElem?, Array.getElem?_replicate]; split <;> rfl) hlen
  have hsch : Region.schedule (P.follows .mixedOrders) l.toArray t = lst := by
   unfold Region.schedule
   rw [hmx]
   simp only [Bool.true_or, if_true]
   unfold Region.linearise
   rw [List.size_toArray]
   have e' := e
   rw [List.size_toArray] at e'
   rw [e']; rfl
  simp only [hsch]
  have hcalm : ∀ (i : Nat) (o : Oper), l.toArray[i]? = some o → Op.calm o.op := fun i o ho => calm_of l hc o (by rw [List.getElem?_toArray] at ho; exact List.mem_of_getElem? ho)
  have g := TL_goes (ro := ro) (K := K) (D := D) hcalm (X := fun S' H' => ∃ L' h', H' = wl h' L' ∧ Valid h' L' ∧ K .normal S' D L' h') (fun S' H' f ⟨L', h', e1, V', kk⟩ => goes_wl e1 V' (goes_end kk)) lst S (wl h L) (fin_wl V) (tl S (wl h L) (w V))
  exact g H' (V0.turn (wl_nil _).symm (valid_nil (fin_wl V))) b hb0 k cs
def rmM : List Bool → Pv → Pv
 | true :: m, _ :: L => none :: rmM m L
 | false :: m, p :: L => p :: rmM m L
 | _, L => L
theorem rm_sub : ∀ (m : List Bool) (L : Pv), (cl (rmM m L)).Sublist (cl L)
 | [], L => by unfold rmM; exact List.Sublist.refl _
 | true :: m, [] => by simp [rmM]
 | true :: m, none :: L => by simpa [rmM, cl] using rm_sub m L
 | true :: m, some p :: L => by have := (rm_sub m L).cons p; simpa [rmM, cl] using this
 | false :: m, [] => by simp [rmM]
 | false :: m, none :: L => by simpa [rmM, cl] using rm_sub m L
 | false :: m, some p :: L => by have := (rm_sub m L).cons_cons p; simpa [rmM, cl] using this
theorem valid_rm {m : List Bool} (V : Valid h L) : Valid h (rmM m L) := ⟨V.nd.sublist ((rm_sub m L).map _), fun p hp => V.fresh p ((rm_sub m L).subset hp), V.fin⟩
theorem ext_rm {m : List Bool} (V : Valid h L) : Ext (wl h (rmM m L)) (wl h L) := by
 intro b o e
 unfold wl wl0 at e
 cases hl : (cl (rmM m L)).lookup b with
 | none =>
  rw [hl] at e
  exact wE V b o e
 | some o2 =>
  rw [hl] at e
  have e2 : o2 = o := by injection e
  rw [e2] at hl
  have hm : (b, o) ∈ cl (rmM m L) := by
   generalize cl (rmM m L) = R at hl
   induction R with
   | nil => cases hl
   | cons p R ih =>
    obtain ⟨c, oc⟩ := p
    simp only [List.lookup] at hl
    split at hl
    ·rename_i hbc
     rw [beq_iff_eq] at hbc
     cases hl
     subst hbc
     exact List.mem_cons_self ..
    ·exact List.mem_cons_of_mem _ (ih hl)
  obtain ⟨i, hi⟩ := List.getElem?_of_mem ((rm_sub m L).subset hm)
  exact wl0_get V hi
def isLd (ops : Array Oper) (i : Nat) : Bool := match ops[i]? with | some o => (match o.op with | .load _ _ => true | _ => false) | none => false
def Dw (P : Program) (n : Nat) (ops : Array Oper) (mask : List Bool) (X : Sl → AH → Prop) (dn ac : List Nat) (S : Sl) (L : Pv) (h : AH) : Prop :=
 Valid h L → ∀ G : Gh, (∀ g ∈ G, ((∀ H, g.2 H) ∨ (isLd ops g.1 = true ∧ el g.1 dn = true)) ∧ (∀ H1 H2, Ext H1 H2 → g.2 H1 → g.2 H2) ∧ g.2 (wl h (rmM mask L))) →
  WG P n ops (left ops dn).length dn ac G X S (wl h L)
def okS (ops : Array Oper) (dn ac : List Nat) (i : Nat) : Bool :=
 ready ops dn i && (blk ops i).all (fun k => !el k dn) && ac.all (fun k => el k dn) &&
 match ops[i]? with
 | some oi => (List.range ops.size).all fun j => j == i || el j dn || el j (blk ops i) || (match ops[j]? with | some oj => apart (ops := ops) oi oj | none => true)
 | none => false
def okE (ops : Array Oper) (dn : List Nat) (i : Nat) : Bool :=
 ready ops dn i && (blk ops i).all (fun k => !el k dn) &&
 match ops[i]? with
 | some oi => (List.range ops.size).all fun j => j == i || el j dn || el j (blk ops i) || (match ops[j]? with | some oj => freeOp oj.op && oj.guard.isNone && apart (ops := ops) oi oj | none => true)
 | none => false
variable {mask : List Bool} {X : Sl → AH → Prop} {dn ac : List Nat}
theorem left_pos {i : Nat} (h : ready ops dn i = true) : ∃ m, (left ops dn).length = m + 1 := by
 obtain ⟨h1, h2⟩ := ready_lt h
 have : i ∈ left ops dn := by unfold left; simp [h1, h2]
 have := List.length_pos_of_mem this
 exact ⟨(left ops dn).length - 1, by omega⟩
theorem dw_stab {i : Nat} {oi : Oper} (hoi : ops[i]? = some oi) (hok : okS ops dn ac i = true) {v : Value} {Φ : AH → Prop} (hld : (∀ H, Φ H) ∨ isLd ops i = true)
  (hmo : ∀ H1 H2, Ext H1 H2 → Φ H1 → Φ H2) (hΦ : Valid h L → Φ (wl h (rmM mask L)))
  (hst : ∀ S2, (∀ t ∈ reads ops oi, S2 t = S t) → ∀ H2, Φ H2 → ∀ Z : Sl → AH → Prop, Z (put S2 oi.dst v) H2 → T1 P n ops oi Z S2 H2)
  (k : Dw P n ops mask X (i :: dn) ac (put S oi.dst v) L h) : Dw P n ops mask X dn ac S L h := by
 intro V G hG
 unfold okS at hok
 rw [hoi] at hok
 simp only [Bool.and_eq_true] at hok
 obtain ⟨⟨⟨hr, hbl⟩, hac⟩, hap⟩ := hok
 obtain ⟨m, hm⟩ := left_pos hr
 obtain ⟨hi, hdi⟩ := ready_lt hr
 rw [hm]
 refine take_stab hoi (Φ := Φ) m dn ac G S (wl h L) hm hr ?_ ?_ ?_ hst (hmo _ _ (ext_rm V) (hΦ V)) ?_ ?_
 ·intro x hx
  have := List.all_eq_true.1 hbl x ((el_mem _ _).1 hx)
  simpa using this
 ·intro x hx
  exact List.all_eq_true.1 hac x ((el_mem _ _).1 hx)
 ·intro g hg _
  exact (hG g hg).2.1 _ _ (ext_rm V) (hG g hg).2.2
 ·intro j oj hoj hji hdj hbj
  have hjl : j < ops.size := (Array.getElem?_eq_some_iff.1 hoj).1
  have := List.all_eq_true.1 hap j (by simpa using hjl)
  rw [hoj, hdj, hbj] at this
  simp only [Bool.or_false, Bool.or_eq_true, beq_iff_eq] at this
  exact this.resolve_left hji
 ·have := k V ((i, Φ) :: G) ?_
  ·rw [left_cons hi hdi hm] at this
   exact this
  ·intro g hg
   rcases List.mem_cons.1 hg with rfl | hg
   ·exact ⟨hld.imp id (fun e => ⟨e, by simp [el_cons]⟩), hmo, hΦ V⟩
   ·obtain ⟨h1, h2, h3⟩ := hG g hg
    exact ⟨h1.imp id (fun e => ⟨e.1, by simp [el_cons, e.2]⟩), h2, h3⟩
section rules
variable {i : Nat} {d : Option Tmp} {op : Op} {ty : TypeId} {ps : String} {af : Array Edge}
theorem qD {v : Value} (hoi : ops[i]? = some ⟨d, op, ty, ps, af, none⟩) (hok : okS ops dn ac i = true) (hv : pev P (execOp (ev n S) ⟨d, op, ty, ps, af, none⟩) = some (.value v))
  (k : Dw P n ops mask X (i :: dn) ac (put S d v) L h) : Dw P n ops mask X dn ac S L h := by
 refine dw_stab hoi hok (v := v) (Φ := fun _ => True) (.inl fun _ => trivial) (fun _ _ _ _ => trivial) (fun _ => trivial) ?_ k
 intro S2 ha H2 _ Z hz
 have he : execOp (ev n S2) ⟨d, op, ty, ps, af, none⟩ = execOp (ev n S) ⟨d, op, ty, ps, af, none⟩ := exec_agree (ev_agree fun t ht => ha t (List.mem_append_left _ ht))
 show opW P n _ S2 H2 _ noE
 unfold opW
 rw [he]
 exact dem_pev hv hz
theorem qY {v : Value} {j : Nat} {want t : Bool} (hoi : ops[i]? = some ⟨d, op, ty, ps, af, some (j, want)⟩) (hok : okS ops dn ac i = true) (ht : ev n S (.tmp (((ops[j]?).bind (·.dst)).getD n)) = .bool t) (hb : t = want) (hv : pev P (execOp (ev n S) ⟨d, op, ty, ps, af, none⟩) = some (.value v))
  (k : Dw P n ops mask X (i :: dn) ac (put S d v) L h) : Dw P n ops mask X dn ac S L h := by
 refine dw_stab hoi hok (v := v) (Φ := fun _ => True) (.inl fun _ => trivial) (fun _ _ _ _ => trivial) (fun _ => trivial) ?_ k
 intro S2 ha H2 _ Z hz
 have he : execOp (ev n S2) ⟨d, op, ty, ps, af, some (j, want)⟩ = execOp (ev n S) ⟨d, op, ty, ps, af, some (j, want)⟩ := exec_agree (ev_agree fun t ht => ha t (List.mem_append_left _ ht))
 refine ⟨some t, ?_, fun _ => ?_, fun hn => absurd (congrArg some hb) hn⟩
 ·rw [show some t = gval (.bool t) from rfl, ← ht]; congr 1
  cases hd : (ops[j]?).bind (·.dst) with
  | none => simp [ev]
  | some d0 => simp only [Option.getD_some, ev]; rw [ha d0 (List.mem_append_right _ (by simp [guardT, hd]))]
 ·unfold opW
  rw [he]
  exact dem_pev (s := execOp (ev n S) ⟨d, op, ty, ps, af, some (j, want)⟩) hv hz
theorem wD {j : Nat} {want t : Bool} (hoi : ops[i]? = some ⟨d, op, ty, ps, af, some (j, want)⟩) (hok : okS ops dn ac i = true) (ht : ev n S (.tmp (((ops[j]?).bind (·.dst)).getD n)) = .bool t) (hb : t = !want)
  (k : Dw P n ops mask X (i :: dn) ac (put S d undef) L h) : Dw P n ops mask X dn ac S L h := by
 refine dw_stab hoi hok (v := undef) (Φ := fun _ => True) (.inl fun _ => trivial) (fun _ _ _ _ => trivial) (fun _ => trivial) ?_ k
 intro S2 ha H2 _ Z hz
 refine ⟨some t, ?_, fun (hy : some t = some want) => (by rw [hb] at hy; cases want <;> cases hy), fun _ => hz⟩
 rw [show some t = gval (.bool t) from rfl, ← ht]; congr 1
 cases hd : (ops[j]?).bind (·.dst) with
 | none => simp [ev]
 | some d0 => simp only [Option.getD_some, ev]; rw [ha d0 (List.mem_append_right _ (by simp [guardT, hd]))]
theorem dw_un {j : Nat} {want : Bool} (hoi : ops[i]? = some ⟨d, op, ty, ps, af, some (j, want)⟩) (hok : okS ops dn ac i = true) (ht : ev n S (.tmp (((ops[j]?).bind (·.dst)).getD n)) = undef)
  (k : Dw P n ops mask X (i :: dn) ac (put S d undef) L h) : Dw P n ops mask X dn ac S L h := by
 refine dw_stab hoi hok (v := undef) (Φ := fun _ => True) (.inl fun _ => trivial) (fun _ _ _ _ => trivial) (fun _ => trivial) ?_ k
 intro S2 ha H2 _ Z hz
 refine ⟨none, ?_, fun hy => (by cases hy), fun _ => hz⟩
 rw [show none = gval undef from rfl, ← ht]; congr 1
 cases hd : (ops[j]?).bind (·.dst) with
 | none => simp [ev]
 | some d0 => simp only [Option.getD_some, ev]; rw [ha d0 (List.mem_append_right _ (by simp [guardT, hd]))]
theorem load_ro {t : TypeId} {x : Operand} {Z : Value → Prop} (w : opL P n ⟨d, .load t x, ty, ps, af, none⟩ S (rmM mask L) h (fun v _ _ => Z v) (fun _ _ _ => False)) (V : Valid h L) :
  ∃ (B : List (Nat × Obj)) (v : Value), (∀ p ∈ B, wl h (rmM mask L) p.1 = some p.2) ∧ Z v ∧ ∀ (g : Option (Nat × Bool)) (S2 : Sl), (∀ y ∈ [x], ev n S2 y = ev n S y) → ∀ H', (∀ p ∈ B, H' p.1 = some p.2) → ∀ K' : Value → AH → Prop, K' v H' → opW P n ⟨d, .load t x, ty, ps, af, g⟩ S2 H' K' noE := by
 have w1 := w (valid_rm V)
 unfold opW at w1
 have w2 : dem P (Instr.loadAt t (ev n S x)) (wl h (rmM mask L)) (fun v _ => Z v) noE := by
  refine dem_mono ?_ ?_ (dem_unbind w1)
  ·rintro v H ⟨_, _, _, _, z⟩; exact z
  ·rintro v H ⟨_, _, _, _, y⟩; exact y
 obtain ⟨B, v, h1, h2, h3⟩ := dem_ro (RO_load t (ev n S x)) w2
 refine ⟨B, v, h1, h2, fun g S2 ha H' hb K' kk => ?_⟩
 unfold opW
 show dem P ((Instr.loadAt t (ev n S2 x)).bind _) H' _ noE
 rw [ha x (List.mem_cons_self ..)]
 exact wJ (h3 H' hb _ kk)
theorem qL {t : TypeId} {x : Operand} (hoi : ops[i]? = some ⟨d, .load t x, ty, ps, af, none⟩) (hok : okS ops dn ac i = true)
  (w : wpL P n ops [⟨d, .load t x, ty, ps, af, none⟩] (fun S' _ _ => Dw P n ops mask X (i :: dn) ac S' L h) (fun _ _ _ _ => False) S (rmM mask L) h) : Dw P n ops mask X dn ac S L h := by
 intro V G hG
 obtain ⟨B, v, h1, h2, h3⟩ := load_ro (mask := mask) (Z := fun v => Dw P n ops mask X (i :: dn) ac (put S d v) L h) w V
 refine dw_stab hoi hok (v := v) (Φ := fun H => ∀ p ∈ B, H p.1 = some p.2) (.inr (by simp [isLd, hoi])) (fun H1 H2 e hb p hp => e _ _ (hb p hp)) (fun _ => h1) ?_ h2 V G hG
 intro S2 ha H2 hb Z hz
 refine h3 none S2 (fun y hy => ?_) H2 hb _ hz
 exact ev_agree (xs := [x]) (fun t ht => ha t (List.mem_append_left _ ht)) y hy
theorem zM {t : TypeId} {x : Operand} {j : Nat} {want b : Bool} (hoi : ops[i]? = some ⟨d, .load t x, ty, ps, af, some (j, want)⟩) (hok : okS ops dn ac i = true) (ht : ev n S (.tmp (((ops[j]?).bind (·.dst)).getD n)) = .bool b) (hb : b = want)
  (w : wpL P n ops [⟨d, .load t x, ty, ps, af, none⟩] (fun S' _ _ => Dw P n ops mask X (i :: dn) ac S' L h) (fun _ _ _ _ => False) S (rmM mask L) h) : Dw P n ops mask X dn ac S L h := by
 intro V G hG
 obtain ⟨B, v, h1, h2, h3⟩ := load_ro (mask := mask) (Z := fun v => Dw P n ops mask X (i :: dn) ac (put S d v) L h) w V
 refine dw_stab hoi hok (v := v) (Φ := fun H => ∀ p ∈ B, H p.1 = some p.2) (.inr (by simp [isLd, hoi])) (fun H1 H2 e hb p hp => e _ _ (hb p hp)) (fun _ => h1) ?_ h2 V G hG
 intro S2 ha H2 hB Z hz
 refine ⟨some b, ?_, fun _ => ?_, fun hn => absurd (congrArg some hb) hn⟩
 ·rw [show some b = gval (.bool b) from rfl, ← ht]; congr 1
  cases hd : (ops[j]?).bind (·.dst) with
  | none => simp [ev]
  | some d0 => simp only [Option.getD_some, ev]; rw [ha d0 (List.mem_append_right _ (by simp [guardT, hd]))]
 ·refine h3 _ S2 (fun y hy => ?_) H2 hB _ hz
  exact ev_agree (xs := [x]) (fun t ht => ha t (List.mem_append_left _ ht)) y hy
theorem zD (hoi : ops[i]? = some ⟨d, op, ty, ps, af, none⟩) (hok : okE ops dn i = true)
  (w : wpL P n ops [⟨d, op, ty, ps, af, none⟩] (fun S' L' h' => Ext (wl h (rmM mask L)) (wl h' (rmM mask L')) ∧ Dw P n ops mask X (i :: dn) (i :: ac) S' L' h') (fun _ _ _ _ => False) S L h) : Dw P n ops mask X dn ac S L h := by
 intro V G hG
 unfold okE at hok
 rw [hoi] at hok
 simp only [Bool.and_eq_true] at hok
 obtain ⟨⟨hr, hbl⟩, hap⟩ := hok
 obtain ⟨m, hm⟩ := left_pos hr
 obtain ⟨hi, hdi⟩ := ready_lt hr
 rw [hm]
 refine take_any hoi m dn ac G S (wl h L) (fin_wl V) hm hr ?_ ?_ (fun g hg => (hG g hg).2.1) ?_ ?_
 ·intro x hx
  have := List.all_eq_true.1 hbl x ((el_mem _ _).1 hx)
  simpa using this
 ·intro g hg _
  exact (hG g hg).2.1 _ _ (ext_rm V) (hG g hg).2.2
 ·intro j oj hoj hji hdj hbj
  have hjl : j < ops.size := (Array.getElem?_eq_some_iff.1 hoj).1
  have := List.all_eq_true.1 hap j (by simpa using hjl)
  rw [hoj, hdj, hbj] at this
  simp only [Bool.or_false, Bool.or_eq_true, beq_iff_eq, Bool.and_eq_true, Option.isNone_iff_eq_none] at this
  obtain ⟨⟨h1, h2⟩, h3⟩ := this.resolve_left hji
  exact ⟨h1, h2, h3⟩
 ·show opW P n _ S (wl h L) _ noE
  refine opW_mono ?_ ?_ (w V)
  ·rintro v H ⟨L', h', rfl, V', hE, hD⟩
   have hG' : ∀ g ∈ G, ((∀ H, g.2 H) ∨ (isLd ops g.1 = true ∧ el g.1 (i :: dn) = true)) ∧ (∀ H1 H2, Ext H1 H2 → g.2 H1 → g.2 H2) ∧ g.2 (wl h' (rmM mask L')) := by
    intro g hg
    obtain ⟨h1, h2, h3⟩ := hG g hg
    exact ⟨h1.imp id (fun e => ⟨e.1, by simp [el_cons, e.2]⟩), h2, h2 _ _ hE h3⟩
   refine ⟨fun g hg _ => (hG' g hg).2.1 _ _ (ext_rm V') (hG' g hg).2.2, ?_⟩
   have := hD V' G hG'
   rw [left_cons hi hdi hm] at this
   exact this
  ·rintro v H ⟨L', h', rfl, V', y⟩; exact y
def okL (ops : Array Oper) (dn : List Nat) (i : Nat) : Bool := dn.all fun k => !isLd ops k || el i (blk ops k)
theorem wI (hoi : ops[i]? = some ⟨d, op, ty, ps, af, none⟩) (hok : okE ops dn i = true) (hl : okL ops dn i = true)
  (w : wpL P n ops [⟨d, op, ty, ps, af, none⟩] (fun S' L' h' => Dw P n ops mask X (i :: dn) (i :: ac) S' L' h') (fun _ _ _ _ => False) S L h) : Dw P n ops mask X dn ac S L h := by
 intro V G hG
 unfold okE at hok
 rw [hoi] at hok
 simp only [Bool.and_eq_true] at hok
 obtain ⟨⟨hr, hbl⟩, hap⟩ := hok
 obtain ⟨m, hm⟩ := left_pos hr
 obtain ⟨hi, hdi⟩ := ready_lt hr
 rw [hm]
 refine take_any hoi m dn ac G S (wl h L) (fin_wl V) hm hr ?_ ?_ (fun g hg => (hG g hg).2.1) ?_ ?_
 ·intro x hx
  have := List.all_eq_true.1 hbl x ((el_mem _ _).1 hx)
  simpa using this
 ·intro g hg _
  exact (hG g hg).2.1 _ _ (ext_rm V) (hG g hg).2.2
 ·intro j oj hoj hji hdj hbj
  have hjl : j < ops.size := (Array.getElem?_eq_some_iff.1 hoj).1
  have := List.all_eq_true.1 hap j (by simpa using hjl)
  rw [hoj, hdj, hbj] at this
  simp only [Bool.or_false, Bool.or_eq_true, beq_iff_eq, Bool.and_eq_true, Option.isNone_iff_eq_none] at this
  obtain ⟨⟨h1, h2⟩, h3⟩ := this.resolve_left hji
  exact ⟨h1, h2, h3⟩
 ·show opW P n _ S (wl h L) _ noE
  refine opW_mono ?_ ?_ (w V)
  ·rintro v H ⟨L', h', rfl, V', hD⟩
   -- the facts that are still asked hold everywhere
   have hdead : ∀ g ∈ G, (∀ H, g.2 H) ∨ ¬ alive ops (i :: ac) g.1 := by
    intro g hg
    rcases (hG g hg).1 with h1 | ⟨h1, h2⟩
    ·exact .inl h1
    ·right
     intro a
     have := List.all_eq_true.1 hl g.1 ((el_mem _ _).1 h2)
     rw [h1] at this
     simp only [Bool.not_true, Bool.false_or] at this
     have := a i this
     simp [el_cons] at this
   refine ⟨fun g hg a => ((hdead g hg).resolve_right (fun n => n a)) _, ?_⟩
   have hall : ∀ (m : Nat) (dn' ac' : List Nat) (S' : Sl) (H' : AH), (∀ k, el k (i :: ac) = true → el k ac' = true) → WG P n ops m dn' ac' [] X S' H' → WG P n ops m dn' ac' G X S' H' := by
    intro m
    induction m with
    | zero => intro dn' ac' S' H' _ w; exact w
    | succ m ih =>
     intro dn' ac' S' H' hsub w j oj hoj hrj
     refine T1_mono (fun S2 H2 y => ⟨fun g hg a => ?_, ih _ _ _ _ (fun k hk => by simp [el_cons, hsub k hk]) y.2⟩) (w j oj hoj hrj)
     exact ((hdead g hg).resolve_right (fun n => n (alive_less (fun k hk => by simp [el_cons, hsub k hk]) a))) _
   have := hD V' [] (fun g hg => by cases hg)
   rw [left_cons hi hdi hm] at this
   exact hall m _ _ _ _ (fun _ h => h) this
  ·rintro v H ⟨L', h', rfl, V', y⟩; exact y
end rules
theorem zB {id : Nat} {l : List Oper} (mask : List Bool) (hmx : P.follows .mixedOrders = true) (hc : calmB l = true) (hb : backB l.toArray = true)
  (w : Dw P n l.toArray mask (fun S' H' => ∃ L' h', H' = wl h' L' ∧ Valid h' L' ∧ K .normal S' D L' h') [] [] S L h) : xp P n ro (.region id l.toArray true) K S D L h := by
 refine xp_draw hmx hc hb fun V => ?_
 have := WG_WA _ _ _ _ _ (w V [] (fun g hg => by cases hg))
 have hlen : (left l.toArray []).length = l.length := by
  have : left l.toArray [] = List.range l.length := by unfold left; rw [List.size_toArray]; exact List.filter_eq_self.2 (fun _ _ => rfl)
  rw [this, List.length_range]
 rw [hlen] at this
 exact this
theorem wW (hl : (left ops dn).length = 0) (k : K .normal S D L h) : Dw P n ops mask (fun S' H' => ∃ L' h', H' = wl h' L' ∧ Valid h' L' ∧ K .normal S' D L' h') dn ac S L h := by
 intro V G _
 rw [hl]
 exact ⟨L, h, rfl, V, k⟩
end
end Go.HL
namespace Go.HL
open Go
variable [Lvl]
section pv
variable {P : Program} {n : Nat} {d : Option Tmp} {op : Op} {ty : TypeId} {ps : String} {af : Array Edge} {S : Sl}
theorem zC {α β : Type} {s : Sem α} {f : α → Sem β} {a : α} (h : pev P s = some a) : pev P (s.bind f) = pev P (f a) := by
 induction s with
 | pure x => simp only [pev, Option.some.injEq] at h; subst h; rfl
 | program k ih => exact ih P h
 | mark m k ih =>
  simp only [pev] at h
  split at h
  ·rename_i hm
   show (if m.quiet then pev P (k.bind f) else none) = _
   rw [if_pos hm]
   exact ih h
  ·cases h
 | _ => simp [pev] at h
theorem qK {v : Value} (h : pev P (execOp (ev n S) ⟨d, op, ty, ps, af, none⟩) = some (.value v)) : pev P (execOp (ev n S) ⟨d, op, ty, ps, af, none⟩) = some (.value v) := h
theorem qB {x : Operand} {v : Value} (hv : ev n S x = v) : pev P (execOp (ev n S) ⟨d, .move x, ty, ps, af, none⟩) = some (.value v) := by subst hv; rfl
theorem qE {x : Operand} {v : Value} (hv : ev n S x = v) : pev P (execOp (ev n S) ⟨d, .assign x, ty, ps, af, none⟩) = some (.value v) := by subst hv; rfl
theorem wX {c a b : Operand} {t : Bool} (hc : ev n S c = .bool t) (hb : t = true) {v : Value} (hv : ev n S a = v) : pev P (execOp (ev n S) ⟨d, .pick c a b, ty, ps, af, none⟩) = some (.value v) := by
 simp only [execOp, hc, hb, asBool, hv]
 rfl
theorem wY {c a b : Operand} {t : Bool} (hc : ev n S c = .bool t) (hb : t = false) {v : Value} (hv : ev n S b = v) : pev P (execOp (ev n S) ⟨d, .pick c a b, ty, ps, af, none⟩) = some (.value v) := by
 simp only [execOp, hc, hb, asBool, hv]
 rfl
theorem qO {r : Int} (hv : pev P (execOp (ev n S) ⟨d, op, ty, ps, af, none⟩) = some (.value (.int .i64 (IntKind.wrap .i64 r)))) (hr : -9223372036854775808 ≤ r ∧ r ≤ 9223372036854775807) : pev P (execOp (ev n S) ⟨d, op, ty, ps, af, none⟩) = some (.value (.int .i64 r)) := by
 rw [IntWalk.i64_in r hr] at hv
 exact hv
theorem pv_val {v v' : Value} (e : v = v') (hv : pev P (execOp (ev n S) ⟨d, op, ty, ps, af, none⟩) = some (.value v)) : pev P (execOp (ev n S) ⟨d, op, ty, ps, af, none⟩) = some (.value v') := by subst e; exact hv
theorem wV {x : Operand} {t e : TypeId} {A : Option Addr} {len cap : Nat} (hx : ev n S x = .slice A len cap) (ht : pev P (underlying t) = some (.slice e)) : pev P (execOp (ev n S) ⟨d, .call ⟨.builtin .len, #[x], #[t]⟩, ty, ps, af, none⟩) = some (.value (.int .i64 len)) := by
 rw [exec_builtin (xs := [x]) (vs := [.slice A len cap]) (by simp [hx])]
 refine (zC (a := .int .i64 len) ?_).trans rfl
 exact (zC ht).trans rfl
theorem pv_min {x y : Operand} {ats : Array TypeId} {q q' : IntKind} {a b : Int} (hx : ev n S x = .int q a) (hy : ev n S y = .int q' b) : pev P (execOp (ev n S) ⟨d, .call ⟨.builtin .min, #[x, y], ats⟩, ty, ps, af, none⟩) = some (.value (.int q (min a b))) := by
 rw [exec_builtin (xs := [x, y]) (vs := [.int q a, .int q' b]) (by simp [hx, hy]), show min a b = if b < a then b else a from by split <;> omega]
 rfl
theorem pv_max {x y : Operand} {ats : Array TypeId} {q q' : IntKind} {a b : Int} (hx : ev n S x = .int q a) (hy : ev n S y = .int q' b) : pev P (execOp (ev n S) ⟨d, .call ⟨.builtin .max, #[x, y], ats⟩, ty, ps, af, none⟩) = some (.value (.int q (max a b))) := by
 rw [exec_builtin (xs := [x, y]) (vs := [.int q a, .int q' b]) (by simp [hx, hy]), show max a b = if b > a then b else a from by split <;> omega]
 rfl
theorem qM {t e : TypeId} {x y : Operand} {g off len cap m : Nat} {q : IntKind} {i : Int} (hx : ev n S x = .slice (some ⟨g, off, none⟩) len cap) (hy : ev n S y = .int q i)
  (ht : pev P (underlying t) = some (.slice e)) (hs : pev P (sizeOf e) = some m) (h0 : 0 ≤ i) (h1 : i < len) : pev P (execOp (ev n S) ⟨d, .indexAddr t x y, ty, ps, af, none⟩) = some (.value (.pointer (some ⟨g, off + i.toNat * m, none⟩))) := by
 simp only [execOp, hx, hy, Instr.indexAt]
 refine (zC (a := .pointer (some ⟨g, off + i.toNat * m, none⟩)) ?_).trans rfl
 refine (zC (a := (q, i)) rfl).trans ?_
 refine (zC ht).trans ?_
 refine (zC (a := (some ⟨g, off, none⟩, len, e)) rfl).trans ?_
 refine (zC ht).trans ?_
 simp only
 rw [if_pos ⟨h0, h1⟩]
 refine (zC hs).trans ?_
 rw [add_none]
 rfl
theorem pv_indexA {t e : TypeId} {x y : Operand} {g off len m : Nat} {q : IntKind} {i : Int} (hx : ev n S x = .pointer (some ⟨g, off, none⟩)) (hy : ev n S y = .int q i)
  (ht : pev P (underlying t) = some (.array len e)) (hs : pev P (sizeOf e) = some m) (h0 : 0 ≤ i) (h1 : i < len) : pev P (execOp (ev n S) ⟨d, .indexAddr t x y, ty, ps, af, none⟩) = some (.value (.pointer (some ⟨g, off + i.toNat * m, none⟩))) := by
 simp only [execOp, hx, hy, Instr.indexAt]
 refine (zC (a := .pointer (some ⟨g, off + i.toNat * m, none⟩)) ?_).trans rfl
 refine (zC (a := (q, i)) rfl).trans ?_
 refine (zC ht).trans ?_
 refine (zC (a := ⟨g, off, none⟩) rfl).trans ?_
 refine (zC (a := (some ⟨g, off, none⟩, len, e)) rfl).trans ?_
 refine (zC ht).trans ?_
 simp only
 rw [if_pos ⟨h0, h1⟩]
 refine (zC hs).trans ?_
 rw [add_none]
 rfl
theorem qG {t : TypeId} {x : Operand} {f m : Nat} {g off : Nat} {fs : Array Field} {fl : Field} (hx : ev n S x = .pointer (some ⟨g, off, none⟩)) (ht : pev P (underlying t) = some (.struct fs)) (hf : fs[f]? = some fl) (hs : pev P (sizeOf fl.type) = some (m + 1))
  (r : Nat) (hr : off + fl.offset = r) : pev P (execOp (ev n S) ⟨d, .fieldAddr t x f, ty, ps, af, none⟩) = some (.value (.pointer (some ⟨g, r, none⟩))) := by
 subst hr
 simp only [execOp, hx, Instr.fieldAt]
 refine (zC (a := .pointer (some ⟨g, off + fl.offset, none⟩)) ?_).trans rfl
 refine (zC ht).trans ?_
 simp only [hf]
 refine (zC (a := ⟨g, off, none⟩) rfl).trans ?_
 refine (zC (a := ⟨g, off + fl.offset, none⟩) ?_).trans rfl
 unfold fieldPlace
 refine (zC hs).trans ?_
 rw [if_neg (by omega), add_none]
 rfl
theorem pv_makeFunc {fn : Fn} {xs ys : List Operand} {vs ws : List Value} (hx : xs.map (ev n S) = vs) (hy : ys.map (ev n S) = ws) : pev P (execOp (ev n S) ⟨d, .makeFunc fn xs.toArray ys.toArray, ty, ps, af, none⟩) = some (.value (.func fn vs.toArray ws.toArray)) := by
 simp only [execOp, List.map_toArray, hx, hy]
 rfl
def fillL (place : Nat → Option (Nat × Nat)) (cells : List Value) : List (Nat × Value) → Option (List Value)
 | [] => some cells
 | (i, v) :: rest =>
  match place i with
  | none => none
  | some (off, size) => if v.cells.size == size && Nat.ble (off + size) cells.length then fillL place (wrL cells off v.cells.toList) rest else none
theorem zip_fold (off : Nat) : ∀ (vs : List Value) (k : Nat) (c : List Value), ((vs.zipIdx k).foldl (fun (cs : Array Value) (p : Value × Nat) => cs.setIfInBounds (off + p.2) p.1) c.toArray) = (wrL c (off + k) vs).toArray
 | [], k, c => rfl
 | v :: vs, k, c => by
  simp only [List.zipIdx_cons, List.foldl_cons, wrL]
  have : c.toArray.setIfInBounds (off + k) v = (c.set (off + k) v).toArray := by simp
  rw [this, zip_fold off vs (k + 1)]
  rfl
theorem fill_eq (place : Nat → Option (Nat × Nat)) : ∀ (l : List (Nat × Value)) (c cs : List Value), fillL place c l = some cs → Instr.fill place c.toArray l = some cs.toArray
 | [], c, cs, h => by simp only [fillL, Option.some.injEq] at h; subst h; rfl
 | (i, v) :: l, c, cs, h => by
  unfold fillL at h
  unfold Instr.fill
  cases hp : place i with
  | none => rw [hp] at h; cases h
  | some q =>
   obtain ⟨off, size⟩ := q
   rw [hp] at h
   simp only at h ⊢
   split at h
   ·rename_i hc
    simp only [Bool.and_eq_true, beq_iff_eq] at hc
    have h2 := Nat.le_of_ble_eq_true hc.2
    have : (decide (v.cells.size ≠ size) || decide (off + v.cells.size > c.toArray.size)) = false := by
     simp; omega
    rw [this]
    simp only [Bool.false_eq_true, if_false]
    have e : (v.cells.zipIdx.foldl (fun (cs : Array Value) (x : Value × Nat) => cs.setIfInBounds (off + x.2) x.1) c.toArray) = (wrL c off v.cells.toList).toArray := by
     obtain ⟨l⟩ : ∃ l : List Value, v.cells = l.toArray := ⟨v.cells.toList, by simp⟩
     rename_i hl
     rw [hl, ← Array.foldl_toList]
     have := zip_fold off l 0 c
     simpa using this
    rw [e]
    exact fill_eq place l _ cs h
   ·cases h
theorem pv_build {t : TypeId} {fs : List Field} {pl : List (Nat × Nat)} {z : Value} {zc : List Value} {pts : List (Nat × Operand)} {vs : List (Nat × Value)} {cs : List Value} (hz : pev P (zeroValue t) = some z) (hzc : z.cells = zc.toArray) (ht : pev P (underlying t) = some (.struct fs.toArray))
  (hp : pev P (fs.mapM fun f => do pure (f.offset, ← sizeOf f.type)) = some pl) (hv : pts.map (fun q => (q.1, ev n S q.2)) = vs) (hf : fillL (fun i => pl[i]?) zc vs = some cs) :
  pev P (execOp (ev n S) ⟨d, .build t pts.toArray, ty, ps, af, none⟩) = some (.value (.agg cs.toArray)) := by
 simp only [execOp, Instr.build, List.map_toArray, hv]
 refine (zC (a := .agg cs.toArray) ?_).trans rfl
 refine (zC hz).trans ?_
 refine (zC ht).trans ?_
 simp only
 rw [List.mapM_toArray]
 have hm : pev P (List.toArray <$> fs.mapM fun f => do pure (f.offset, ← sizeOf f.type)) = some pl.toArray := (zC hp).trans rfl
 refine (zC hm).trans ?_
 have : (fun (x : Nat) => pl.toArray[x]?) = fun (i : Nat) => pl[i]? := by funext i; simp
 rw [this, hzc, fill_eq _ vs zc cs hf]
 rfl
end pv
end Go.HL
namespace Go.HL
open Go
variable [Lvl]
theorem ext_wlm {h h' : AH} (e : Ext h h') (M : Pv) : Ext (wl h M) (wl h' M) := by
 intro b o
 unfold wl wl0
 cases (cl M).lookup b with
 | none => exact e b o
 | some o2 => exact id
theorem ext_new {h : AH} {L : Pv} {b : Nat} (hb : wl h L b = none) (o : Obj) : Ext (wl h L) (wl h (L ++ [some (b, o)])) := by
 rw [← wl_new hb]
 exact (Ext.refl _).new hb o
theorem wl_own {h : AH} {L : Pv} {b : Nat} {o : Obj} (hb : h b = none) (V : Valid (hupd h b o) L) : wl (hupd h b o) L = wl h (L ++ [some (b, o)]) ∧ Valid h (L ++ [some (b, o)]) := by
 have hnb : ∀ p ∈ cl L, p.1 ≠ b := by
  intro p hp e
  have := V.fresh p hp
  rw [e] at this
  simp [hupd] at this
 have hf : ∀ p ∈ cl L, h p.1 = none := by
  intro p hp
  have := V.fresh p hp
  simpa [hupd, hnb p hp] using this
 have fin : Fin h := by
  obtain ⟨N, hN⟩ := V.fin
  refine ⟨max N (b + 1), fun c hc => ?_⟩
  have := hN c (by omega)
  simpa [hupd, show c ≠ b from by omega] using this
 have V0 : Valid h L := ⟨V.nd, hf, fin⟩
 have hw : wl h L b = none := by
  unfold wl wl0
  rw [(lookup_none_iff _ _).2 hnb]
  exact hb
 refine ⟨?_, valid_new V0 hw o⟩
 rw [← wl_new hw]
 funext c
 by_cases hc : c = b
 ·subst hc
  simp [wl, wl0, hupd, (lookup_none_iff _ _).2 hnb]
 ·simp [wl, wl0, hupd, hc]
section ops
variable {P : Program} {n : Nat} {ops : Array Oper} {d : Option Tmp} {op : Op} {ty : TypeId} {ps : String} {af : Array Edge} {os : List Oper} {K : Sl → Pv → AH → Prop} {E : Value → Sl → Pv → AH → Prop} {S : Sl} {L : Pv} {h : AH}
def FnO (P : Program) (f : FuncId) (args : Array Value) (h : AH) (R : Value → Nat → Obj → AH → Prop) : Prop := CallT P f args h (fun v H => ∃ h1 b o, H = hupd h1 b o ∧ h1 b = none ∧ Ext h h1 ∧ R v b o h1) noE
theorem op_fnO {x : Operand} {xs : List Operand} {ats : Array TypeId} {g : FuncId} {caps vs : List Value} {R : Value → Nat → Obj → AH → Prop} (hf : ev n S x = .func (.func g) #[] caps.toArray) (hc : callable P g = true) (hx : xs.map (ev n S) ++ caps = vs) (c : FnO P g vs.toArray h R)
  (k : ∀ v h' b o, Ext h h' → R v b o h' → wpL P n ops os K E (put S d v) (L ++ [some (b, o)]) h') : wpL P n ops (⟨d, .call ⟨.value x, xs.toArray, ats⟩, ty, ps, af, none⟩ :: os) K E S L h := by
 refine op_of fun V => ?_
 unfold opW
 rw [exec_call hf hx]
 refine dem_callFunc hc ?_
 refine CallT.mono (CallT.priv V c) ?_ ?_
 ·rintro v h2 ⟨H, rfl, V1, h1, b, o, rfl, hb, E1, r⟩
  obtain ⟨e1, V2⟩ := wl_own hb V1
  rw [e1]
  exact ⟨_, h1, rfl, V2, k v h1 b o E1 r⟩
 ·rintro v h2 ⟨h1, rfl, V1, y⟩; exact y.elim
theorem range_map (zc : List Value) (k : Nat) : (Array.range k).map (fun i => zc.toArray[i % zc.toArray.size]!) = ((List.range k).map fun i => zc[i % zc.length]!).toArray := by
 apply Array.ext'
 simp
theorem wG {t e : TypeId} {m len : Nat} {z : Value} {zc : List Value} {pts : List (Nat × Operand)} {vs : List (Nat × Value)} {cs : List Value} (ht : pev P (underlying t) = some (.slice e)) (hs : pev P (sizeOf e) = some m)
  (hz : pev P (zeroValue e) = some z) (hzc : z.cells = zc.toArray) (hl : Nat.ble (len * m) 16777216 = true) (hv : pts.map (fun q => (q.1, ev n S q.2)) = vs) (hf : fillL (fun i => some (i * m, m)) ((List.range (len * m)).map fun i => zc[i % zc.length]!) vs = some cs)
  (k : ∀ b, wl h L b = none → wpL P n ops os K E (put S d (.slice (some ⟨b, 0, none⟩) len len)) (L ++ [some (b, .cells cs.toArray e (0, 0))]) h) : wpL P n ops (⟨d, .buildSlice t len pts.toArray, ty, ps, af, none⟩ :: os) K E S L h := by
 refine op_of fun V => ?_
 unfold opW
 simp only [execOp, Instr.buildSlice, List.map_toArray, hv]
 have hl' := Nat.le_of_ble_eq_true hl
 refine wJ (wH ht (wH hs ?_))
 rw [if_neg (by omega)]
 by_cases h0 : len * m = 0
 ·rw [if_pos h0]
  refine wH (a := #[]) rfl ?_
  rw [h0] at hf ⊢
  have e0 : (Array.range 0).map (fun i => (#[] : Array Value)[i % (#[] : Array Value).size]!) = ([] : List Value).toArray := by simp
  rw [e0, fill_eq _ vs [] cs (by simpa using hf)]
  refine wJ (wJ ?_)
  intro b hb
  exact ⟨_, h, wl_new hb _, valid_new V hb _, k b hb⟩
 ·rw [if_neg h0]
  refine wH hz (wH (a := zc.toArray) (by rw [hzc]; rfl) ?_)
  rw [range_map zc, fill_eq _ vs _ cs hf]
  refine wJ (wJ ?_)
  intro b hb
  exact ⟨_, h, wl_new hb _, valid_new V hb _, k b hb⟩
theorem op_makeSlice {t e : TypeId} {x y : Operand} {m : Nat} {len cap : Nat} {len' cap' : Int} {q q' : IntKind} {z : Value} {zc : List Value} {inf : TypeInfo} (hx : ev n S x = .int q len') (hy : ev n S y = .int q' cap') (el : len' = len) (ec : cap' = cap) (ht : pev P (underlying t) = some (.slice e)) (hi : pev P (typeInfo e) = some inf) (hs : pev P (sizeOf e) = some m)
  (hz : pev P (zeroValue e) = some z) (hzc : z.cells = zc.toArray) (hlc : len ≤ cap) (hcap : cap < 2 ^ 30) (hby : Nat.ble inf.bytes 1024 = true)
  (k : ∀ b, wl h L b = none → wpL P n ops os K E (put S d (.slice (some ⟨b, 0, none⟩) len cap)) (L ++ [some (b, .cells ((List.range (cap * m)).map fun i => zc[i % zc.length]!).toArray e (0, 0))]) h) : wpL P n ops (⟨d, .makeSlice t x y, ty, ps, af, none⟩ :: os) K E S L h := by
 subst el ec
 refine op_of fun V => ?_
 have hby' := Nat.le_of_ble_eq_true hby
 have hmul : inf.bytes * cap ≤ 1024 * 2 ^ 30 := Nat.mul_le_mul hby' (by omega)
 unfold opW
 simp only [execOp, Instr.makeSlice, hx, hy]
 refine wJ (wH ht (wH (a := (len : Int)) rfl (wH (a := (cap : Int)) rfl (wH hi ?_))))
 have e1 : IntKind.wrap .i64 (len : Int) = len := IntWalk.i64_in _ (by omega)
 have e2 : IntKind.wrap .i64 (cap : Int) = cap := IntWalk.i64_in _ (by omega)
 simp only [e1, e2]
 have hno : ((decide ((cap : Int) < 0) || decide ((inf.bytes : Int) * (cap : Int) > 2 ^ 48)) || decide ((len : Int) < 0) || decide ((len : Int) > (cap : Int))) = false := by
  have : (inf.bytes : Int) * (cap : Int) = ((inf.bytes * cap : Nat) : Int) := by push_cast; rfl
  rw [this, decide_eq_false (by omega), decide_eq_false (by omega), decide_eq_false (by omega), decide_eq_false (by omega)]
  rfl
 rw [hno]
 simp only [Bool.false_eq_true, if_false]
 have hroom : askRoom ((cap : Int).toNat * inf.bytes) = pure () := by
  unfold askRoom roomBytes
  rw [if_neg (by rw [Int.toNat_natCast, Nat.mul_comm]; omega)]
 rw [hroom]
 refine wH (a := ()) rfl (wH hs ?_)
 rw [Int.toNat_natCast, Int.toNat_natCast]
 by_cases h0 : cap * m = 0
 ·rw [if_pos h0]
  refine wH (a := #[]) rfl ?_
  rw [h0] at k ⊢
  have e0 : (Array.range 0).map (fun i => (#[] : Array Value)[i % (#[] : Array Value).size]!) = ((List.range 0).map fun i => zc[i % zc.length]!).toArray := by simp
  rw [e0]
  refine wJ (wJ ?_)
  intro b hb
  exact ⟨_, h, wl_new hb _, valid_new V hb _, k b hb⟩
 ·rw [if_neg h0]
  refine wH hz (wH (a := zc.toArray) (by rw [hzc]; rfl) ?_)
  rw [range_map zc]
  refine wJ (wJ ?_)
  intro b hb
  exact ⟨_, h, wl_new hb _, valid_new V hb _, k b hb⟩
def AccP (e : TypeId) (m : Nat) (cs : List Value) (p : Option (Nat × Obj)) (v : Value) : Prop :=
 (p = none ∧ cs = [] ∧ ∃ A, v = .slice A 0 0) ∨ ∃ b len cap junk, cs.length = len * m ∧ v = .slice (some ⟨b, 0, none⟩) len cap ∧ p = some (b, .cells (cs ++ junk).toArray e (0, 0)) ∧ (cs ++ junk).length = cap * m
theorem rd_cells {H : AH} {A : Option Addr} {cs : List Value} {l c m k : Nat} (r : Rd H A cs) (hl : cs.length = k * m) {K : Array Value → AH → Prop} {E : Value → AH → Prop} (kk : K cs.toArray H) : dem P (Builtin.firstCells m k (.slice A l c)) H K E := by
 cases cs with
 | nil =>
  have hk : k * m = 0 := by simpa using hl.symm
  cases A with
  | none => exact kk
  | some a =>
   show dem P (loadCells a (k * m)) H K E
   rw [hk]
   exact kk
 | cons u us =>
  obtain ⟨g, off, rfl, hc⟩ := r (by simp)
  exact dem_loadCells hl hc kk
theorem zeroCells_list (zc : List Value) (k : Nat) : ∃ j : List Value, Builtin.zeroCells zc.toArray k = j.toArray ∧ j.length = k * zc.length := by
 refine ⟨(Builtin.zeroCells zc.toArray k).toList, by simp, ?_⟩
 simp [Builtin.zeroCells]
theorem op_append (i : Nat) {sT xT e : TypeId} {x y : Operand} {m : Nat} {v : Value} {A : Option Addr} {lx cx : Nat} {cs xs : List Value} {z : Value} {zc : List Value} {inf : TypeInfo} {p : Option (Nat × Obj)}
  (hx : ev n S x = v) (hi : L[i]? = some p) (ha : AccP e m cs p v) (hy : ev n S y = .slice A lx cx) (hr : Valid h L → Rd (wl h L) A xs) (hl : xs.length = lx * m) (hp : xs.all plainB = true)
  (ht : pev P (underlying sT) = some (.slice e)) {e' : TypeId} (hu : pev P (underlying xT) = some (.slice e')) (hi' : pev P (typeInfo e) = some inf) (hs : pev P (sizeOf e) = some m)
  (hz : pev P (zeroValue e) = some z) (hzc : z.cells = zc.toArray) (hzl : zc.length = m) (hm : 0 < m) (hby : Nat.ble inf.bytes 1024 = true) (hsmall : cs.length + xs.length < 2 ^ 30)
  (k : ∀ p' v' h', Ext h h' → AccP e m (cs ++ xs) p' v' → wpL P n ops os K E (put S d v') (L.set i p') h') : wpL P n ops (⟨d, .call ⟨.builtin .append, #[x, y], #[sT, xT]⟩, ty, ps, af, none⟩ :: os) K E S L h := by
 refine op_of fun V => ?_
 have hby' := Nat.le_of_ble_eq_true hby
 have hil : i < L.length := (List.getElem?_eq_some_iff.1 hi).1
 unfold opW
 rw [exec_builtin (xs := [x, y]) (vs := [v, .slice A lx cx]) (by simp [hx, hy])]
 have hlx : lx ≤ xs.length := by rw [hl]; exact Nat.le_mul_of_pos_right _ hm
 have main : ∀ (base : Option Addr) (len cap : Nat), v = .slice base len cap → cs.length = len * m → Rd (wl h L) base cs →
   (len + lx ≤ cap → dem P (do if let some a := base then storeCells (a.add (len * m)) xs) (wl h L) (fun _ H => ∃ L' h', H = wl h' L' ∧ Valid h' L' ∧ wpL P n ops os K E (put S d (.slice base (len + lx) cap)) L' h') noE) →
   (cap < len + lx → ∀ (b : Nat) (cap' : Nat) (junk : List Value), wl h L b = none → (cs ++ xs ++ junk).length = cap' * m → ∃ L' h', hupd (wl h L) b (.cells (cs ++ xs ++ junk).toArray e (0, 0)) = wl h' L' ∧ Valid h' L' ∧ wpL P n ops os K E (put S d (.slice (some ⟨b, 0, none⟩) (len + lx) cap')) L' h') →
   dem P (builtin .append #[sT, xT] ty (#[x, y].map fun | .const _ => true | _ => false) #[v, .slice A lx cx]) (wl h L)
    (upon P (fun v H => ∃ L' h', H = wl h' L' ∧ Valid h' L' ∧ wpL P n ops os K E (put S d v) L' h') (fun v H => ∃ L' h', H = wl h' L' ∧ Valid h' L' ∧ E v S L' h')) (fun v H => ∃ L' h', H = wl h' L' ∧ Valid h' L' ∧ E v S L' h') := by
  intro base len cap hv hcl hrb hin hgrow
  subst hv
  have hlen : len ≤ cs.length := by rw [hcl]; exact Nat.le_mul_of_pos_right _ hm
  refine wJ ?_
  show dem P (Builtin.append_ #[sT, xT] ty #[.slice base len cap, .slice A lx cx]) _ _ _
  unfold Builtin.append_
  refine wH ht (wH hs ?_)
  refine wH hu (wH (a := false) rfl ?_)
  simp only [Bool.false_eq_true, if_false, Bool.not_false, if_true]
  refine wH (a := lx) rfl ?_
  by_cases hc : len + lx ≤ cap
  ·rw [if_pos hc]
   refine wJ (rd_cells (hr V) hl ?_)
   have := hin hc
   cases base with
   | none => exact this
   | some a => exact wJ (dem_mono (fun _ _ k => k) (fun _ _ y => y.elim) this)
  ·rw [if_neg hc]
   have hneed : (len + lx : Nat) < 2 ^ 30 := by omega
   have hcapb : Builtin.nextslicecap (len + lx) cap * inf.bytes ≤ 2 * 2 ^ 30 * 1024 := Nat.mul_le_mul (Nat.le_trans (nextslicecap_le (by omega)) (by omega)) hby'
   refine wH hi' ?_
   have hmx : ¬ ((len + lx : Nat) : Int) > IntKind.i64.max := by
    show ¬ ((len + lx : Nat) : Int) > 9223372036854775807
    omega
   rw [if_neg (fun y => hmx y.1)]
   refine wH hi' ?_
   rw [if_neg (by omega)]
   refine wJ ?_
   intro t
   show dem P _ _ _ _
   refine wH hi' ?_
   refine wJ ?_
   have hroom : ∀ (q : Nat) {K' : Unit → AH → Prop} {E' : Value → AH → Prop} {H : AH}, K' () H → dem P (askRoom q) H K' E' := by
    intro q K' E' H kk
    unfold askRoom
    split
    ·exact ⟨rfl, kk⟩
    ·exact kk
   refine hroom _ ?_
   refine wJ (rd_cells hrb hcl ?_)
   refine wJ (rd_cells (hr V) hl ?_)
   refine wH hz ?_
   rw [hzc]
   obtain ⟨j, hj, hjl⟩ := zeroCells_list zc ((Question.appendCap (len + lx) cap e).cut t - (len + lx))
   rw [hj]
   refine wJ (wJ ?_)
   intro b hb
   have hg := hgrow (by omega) b ((Question.appendCap (len + lx) cap e).cut t) j hb (by
    have hge : len + lx ≤ (Question.appendCap (len + lx) cap e).cut t := Nat.le_add_right _ _
    rw [List.length_append, List.length_append, hjl, hcl, hl, hzl, ← Nat.add_mul, ← Nat.add_mul]
    congr 1
    omega)
   have ea : cs.toArray ++ xs.toArray ++ j.toArray = (cs ++ xs ++ j).toArray := by simp
   rw [ea]
   exact hg
 have hset : ∀ q : Option (Nat × Obj), (L.set i none).set i q = L.set i q := fun q => List.set_set ..
 rcases ha with ⟨rfl, rfl, B, rfl⟩ | ⟨b0, len, cap, junk0, hcl, rfl, rfl, hcap⟩
 ·refine main B 0 0 rfl (by simp) (Rd.nil _ _) ?_ ?_
  ·intro hle
   have h0 : lx = 0 := by omega
   subst h0
   have hx0 : xs = [] := List.eq_nil_of_length_eq_zero (by simpa using hl)
   subst hx0
   have kk := k none (.slice B 0 0) h (Ext.refl h) (.inl ⟨rfl, rfl, B, rfl⟩)
   have e1 : L.set i none = L := by
    obtain ⟨_, hget⟩ := List.getElem?_eq_some_iff.1 hi
    rw [← hget]
    exact List.set_getElem_self hil
   rw [e1] at kk
   cases B with
   | none => exact ⟨L, h, rfl, V, kk⟩
   | some a => exact ⟨L, h, rfl, V, kk⟩
  ·intro _ b cap' junk hb hlen
   obtain ⟨e1, V1⟩ := wl_fill V hi hb (.cells ([] ++ xs ++ junk).toArray e (0, 0))
   refine ⟨_, h, e1, V1, k _ _ h (Ext.refl h) (.inr ⟨b, 0 + lx, cap', junk, by simpa using hl, rfl, rfl, hlen⟩)⟩
 ·have hrb : Rd (wl h L) (some ⟨b0, 0, none⟩) cs := by
   intro _
   refine ⟨b0, 0, rfl, fun j u hu => ?_⟩
   have hj : (cs ++ junk0)[j]? = some u := by rw [List.getElem?_append_left (List.getElem?_eq_some_iff.1 hu).1]; exact hu
   simp only [cellA, wl_get V hi, Nat.zero_add]
   simpa using hj
  refine main (some ⟨b0, 0, none⟩) len cap rfl hcl hrb ?_ ?_
  ·intro hle
   have hlen : len * m + xs.length ≤ (cs ++ junk0).length := by rw [hcap, hl, ← Nat.add_mul]; exact Nat.mul_le_mul_right _ hle
   show dem P (storeCells ((⟨b0, 0, none⟩ : Addr).add (len * m)) xs) _ _ _
   rw [add_none]
   refine dem_storeFrom xs _ (cs ++ junk0).toArray (0 + len * m) 0 (wl_get V hi) (by simp only [List.size_toArray]; omega) hp ?_
   have ew : wr (cs ++ junk0).toArray (0 + len * m + 0) xs = (cs ++ xs ++ junk0.drop xs.length).toArray := by
    rw [wr_list, Nat.zero_add, Nat.add_zero, ← hcl]
    congr 1
    rw [List.length_append] at hlen
    have key : ∀ (xs cs junk : List Value), xs.length ≤ junk.length → wrL (cs ++ junk) cs.length xs = cs ++ xs ++ junk.drop xs.length := by
     intro xs
     induction xs with
     | nil => intro cs junk _; simp [wrL]
     | cons a xs ih =>
      intro cs junk hj
      cases junk with
      | nil => simp at hj
      | cons c junk =>
       simp only [wrL]
       have : (cs ++ c :: junk).set cs.length a = (cs ++ [a]) ++ junk := by simp
       rw [this]
       have e2 := ih (cs ++ [a]) junk (by simpa using hj)
       simp only [List.length_append, List.length_cons, List.length_nil, Nat.zero_add] at e2
       rw [e2]
       simp
    exact key xs cs junk0 (by omega)
   rw [ew, wl_set V hi]
   refine ⟨_, h, rfl, valid_set V hi, k _ _ h (Ext.refl h) (.inr ⟨b0, len + lx, cap, junk0.drop xs.length, ?_, rfl, rfl, ?_⟩)⟩
   ·rw [List.length_append, hcl, hl, ← Nat.add_mul]
   ·simp only [List.length_append, List.length_drop] at hcap hlen ⊢
    omega
  ·intro _ b cap' junk hb hlen
   have V1 := valid_pub V hi
   have e1 := wl_pub V hi
   have hi1 : (L.set i none)[i]? = some none := by simp [hil]
   rw [e1] at hb ⊢
   obtain ⟨e2, V2⟩ := wl_fill V1 hi1 hb (.cells (cs ++ xs ++ junk).toArray e (0, 0))
   rw [hset] at e2 V2
   refine ⟨_, _, e2, V2, k _ _ _ ((Ext.refl h).new (wl_fresh V hi) _) (.inr ⟨b, len + lx, cap', junk, ?_, rfl, rfl, hlen⟩)⟩
   rw [List.length_append, hcl, hl, ← Nat.add_mul]
end ops
section result
variable {P : Program} {n : Nat} {fn : Func} {S : Sl} {L : Pv} {h : AH} {K E : Value → AH → Prop}
def ResV (P : Program) (n : Nat) (S : Sl) (L : Pv) (_h : AH) : ResultVar → Value → Prop
 | .tmp t, v => Nat.blt t n = true ∧ S t = v
 | .cell a t, v => Nat.blt a n = true ∧ ∃ ad, S a = .pointer (some ad) ∧ (∀ h, Valid h L → ∀ (K : Value → AH → Prop) (E : Value → AH → Prop), K v (wl h L) → dem P (loadVar t ad) (wl h L) K E)
def ResL (P : Program) (n : Nat) (S : Sl) (L : Pv) (h : AH) : List ResultVar → List Value → Prop
 | [], [] => True
 | r :: rs, v :: vs => ResV P n S L h r v ∧ ResL P n S L h rs vs
 | _, _ => False
theorem qR {t : Nat} {v : Value} (ht : Nat.blt t n = true) (hv : S t = v) : ResV P n S L h (.tmp t) v := ⟨ht, hv⟩
theorem resV_agg (i : Nat) {t ty e m b off : Nat} {c : Array Value} {f : Nat × Nat} {vs : List Value} (ht : Nat.blt t n = true) (hs : S t = .pointer (some ⟨b, off, none⟩)) (hi : L[i]? = some (some (b, .cells c e f)))
  (ha : pev P (isAgg ty) = some true) (hm : pev P (sizeOf ty) = some m) (hv : rd c off m = some vs) : ResV P n S L h (.cell t ty) (.agg vs.toArray) := by
 refine ⟨ht, _, hs, fun h V K E k => ?_⟩
 unfold rd at hv
 split at hv
 ·rename_i hle
  simp only [Option.some.injEq] at hv
  refine wH ha ?_
  refine wH hm (wJ (dem_loadCells (cs := vs) ?_ ?_ k))
  ·rw [← hv]; simp; omega
  ·intro j u hu
   rw [← hv, List.getElem?_take] at hu
   split at hu
   ·rw [List.getElem?_drop] at hu
    simp [cellA, wl_get V hi]
    simpa using hu
   ·cases hu
 ·cases hv
def tupV : List Value → Value
 | [v] => v
 | vs => .tuple vs.toArray
theorem res_core {rs : List ResultVar} {vs : List Value} (hr : fn.results = rs.toArray) (hv : ResL P n S L h rs vs) {h2 : AH} (V : Valid h2 L) (kk : K (tupV vs) (wl h2 L)) : dem P (results fn (arr n S)) (wl h2 L) K noE := by
 unfold results
 rw [hr, List.mapM_toArray]
 have key : ∀ (rs : List ResultVar) (vs : List Value), ResL P n S L h rs vs → ∀ (K : List Value → AH → Prop) (E : Value → AH → Prop), K vs (wl h2 L) →
   dem P (rs.mapM fun | .tmp t => pure ((arr n S).getD t undef) | .cell a t => do loadVar t (← asAddr ((arr n S).getD a undef))) (wl h2 L) K E := by
  intro rs
  induction rs with
  | nil => intro vs hv K E k; cases vs with | nil => exact k | cons _ _ => exact hv.elim
  | cons r rs ih =>
   intro vs hv K E k
   cases vs with
   | nil => exact hv.elim
   | cons v vs =>
    rw [List.mapM_cons]
    cases r with
    | tmp t =>
     obtain ⟨⟨ht, hv1⟩, hv2⟩ := hv
     refine wH (a := v) ?_ ?_
     ·show some ((arr n S).getD t undef) = some v
      rw [arr_getD, if_pos (Nat.lt_of_lt_of_le (Nat.lt_succ_self t) (Nat.le_of_ble_eq_true ht)), hv1]
     ·exact wJ (ih vs hv2 _ _ k)
    | cell a t =>
     obtain ⟨⟨ht, ad, hv1, hv3⟩, hv2⟩ := hv
     refine wJ ?_
     have e1 : (arr n S).getD a undef = .pointer (some ad) := by rw [arr_getD, if_pos (Nat.lt_of_lt_of_le (Nat.lt_succ_self a) (Nat.le_of_ble_eq_true ht)), hv1]
     show dem P (do loadVar t (← asAddr ((arr n S).getD a undef))) _ _ _
     rw [e1]
     refine wH (a := ad) rfl ?_
     exact hv3 h2 V _ _ (wJ (ih vs hv2 _ _ k))
 refine wJ (wJ (key rs vs hv _ _ ?_))
 show K _ _
 match vs, kk with
 | [v], kk => exact kk
 | [], kk => exact kk
 | _ :: _ :: _, kk => simpa [tupV] using kk
theorem qW {rs : List ResultVar} {vs : List Value} (hr : fn.results = rs.toArray) (hv : ResL P n S L h rs vs) (k : Valid h L → K (tupV vs) (wl h L)) : RetOK P n fn K S [] L h := fun V => .inl ⟨rfl, res_core hr hv V (k V)⟩
theorem res_listM {rs : List ResultVar} {vs : List Value} {D : Df} (hD : allMarks D = true) (hr : fn.results = rs.toArray) (hv : ResL P n S L h rs vs) (k : ∀ h2, Ext h h2 → Valid h2 L → K (tupV vs) (wl h2 L)) : RetOK P n fn K S D L h := fun _ => .inr ⟨hD, fun h2 E V => res_core hr hv V (k h2 E V)⟩
end result
end Go.HL
namespace Go.HL
open Go
variable [Lvl]
section pv
variable {P : Program} {n : Nat} {d : Option Tmp} {op : Op} {ty : TypeId} {ps : String} {af : Array Edge} {S : Sl}
theorem pv_cap {x : Operand} {t e : TypeId} {A : Option Addr} {len cap : Nat} (hx : ev n S x = .slice A len cap) (ht : pev P (underlying t) = some (.slice e)) : pev P (execOp (ev n S) ⟨d, .call ⟨.builtin .cap, #[x], #[t]⟩, ty, ps, af, none⟩) = some (.value (.int .i64 cap)) := by
 rw [exec_builtin (xs := [x]) (vs := [.slice A len cap]) (by simp [hx])]
 refine (zC (a := .int .i64 cap) ?_).trans rfl
 exact (zC ht).trans rfl
theorem pv_front {x y : Operand} {t e : TypeId} {A : Option Addr} {len cap k m : Nat} {q : IntKind} {k' : Int} (hx : ev n S x = .slice A len cap) (hy : ev n S y = .int q k') (ek : k' = k) (hk : k ≤ cap) (ht : pev P (underlying t) = some (.slice e)) (hs : pev P (sizeOf e) = some m) :
  pev P (execOp (ev n S) ⟨d, .slice t x none (some y) none, ty, ps, af, none⟩) = some (.value (.slice A k cap)) := by
 subst ek
 simp only [execOp, Option.map, hx, hy]
 refine (zC (a := .slice A k cap) ?_).trans rfl
 unfold Instr.sliceAt
 refine (zC ht).trans ?_
 show pev P (Instr.slice t (.slice A len cap) none (some (.int q k)) none) = _
 unfold Instr.slice
 refine (zC ht).trans ?_
 simp only
 refine (zC (a := (0, k, cap)) ?_).trans ?_
 ·unfold Instr.sliceBounds
  simp only
  refine (zC (a := cap) rfl).trans ?_
  refine (zC (a := k) ?_).trans rfl
  unfold Instr.sliceBound
  refine (zC (a := (q, (k : Int))) rfl).trans ?_
  simp only
  rw [if_pos ⟨by omega, by omega⟩]
  rfl
 ·refine (zC hs).trans ?_
  have : (if cap = 0 then A else A.map (·.add (0 * m))) = A := by
   split
   ·rfl
   ·cases A with
    | none => rfl
    | some a => simp [Addr.add]
  simp only [this]
  rfl
end pv
section ops
variable {P : Program} {n : Nat} {ops : Array Oper} {d : Option Tmp} {op : Op} {ty : TypeId} {ps : String} {af : Array Edge} {os : List Oper} {K : Sl → Pv → AH → Prop} {E : Value → Sl → Pv → AH → Prop} {S : Sl} {L : Pv} {h : AH}
theorem op_appendZ {sT xT e : TypeId} {x y : Operand} {m : Nat} {A : Option Addr} {k : Nat} {k' : Int} {q q' : IntKind} {z : Value} {zc : List Value} {inf : TypeInfo}
  (hx : ev n S x = .slice A 0 0) (hy : ev n S y = .int q k') (ek : k' = k) (hk : 0 < k) (hk2 : k < 2 ^ 30)
  (ht : pev P (underlying sT) = some (.slice e)) (hu : pev P (underlying xT) = some (.int q')) (hi' : pev P (typeInfo e) = some inf) (hs : pev P (sizeOf e) = some m)
  (hz : pev P (zeroValue e) = some z) (hzc : z.cells = zc.toArray) (hzl : zc.length = m) (hm : 0 < m) (hby : Nat.ble inf.bytes 1024 = true)
  (kk : ∀ (b cap : Nat) (junk : List Value), wl h L b = none → junk.length = cap * m → k ≤ cap → wpL P n ops os K E (put S d (.slice (some ⟨b, 0, none⟩) k cap)) (L ++ [some (b, .cells junk.toArray e (0, 0))]) h) : wpL P n ops (⟨d, .call ⟨.builtin .append, #[x, y], #[sT, xT]⟩, ty, ps, af, none⟩ :: os) K E S L h := by
 subst ek
 refine op_of fun V => ?_
 have hby' := Nat.le_of_ble_eq_true hby
 unfold opW
 rw [exec_builtin (xs := [x, y]) (vs := [.slice A 0 0, .int q k]) (by simp [hx, hy])]
 refine wJ ?_
 show dem P (Builtin.append_ #[sT, xT] ty #[.slice A 0 0, .int q k]) _ _ _
 unfold Builtin.append_
 refine wH ht (wH hs ?_)
 refine wH hu (wH (a := true) rfl ?_)
 have e1 : IntKind.wrap .i64 (k : Int) = k := IntWalk.i64_in _ (by omega)
 have hbk : (k : Int) * (inf.bytes : Int) ≤ 2 ^ 40 := by
  have h1 : k * inf.bytes ≤ 2 ^ 30 * 1024 := Nat.mul_le_mul (by omega) hby'
  have h2 : (k : Int) * (inf.bytes : Int) = ((k * inf.bytes : Nat) : Int) := by push_cast; rfl
  rw [h2]
  omega
 simp only [if_true, Bool.not_true, Bool.false_eq_true, if_false]
 refine wJ (dem_pev (a := (k : Int)) rfl ?_)
 rw [e1, if_neg (by omega)]
 refine wH hi' ?_
 rw [if_neg (by omega)]
 refine wH (a := k) (by rw [Int.toNat_natCast]; rfl) ?_
 rw [if_neg (by omega)]
 refine wH hi' ?_
 have hmx : ¬ ((0 + k : Nat) : Int) > IntKind.i64.max := by
  show ¬ ((0 + k : Nat) : Int) > 9223372036854775807
  omega
 rw [if_neg (fun y => hmx y.1)]
 refine wH hi' ?_
 have hcapb : Builtin.nextslicecap (0 + k) 0 * inf.bytes ≤ 2 * 2 ^ 30 * 1024 := Nat.mul_le_mul (Nat.le_trans (nextslicecap_le (by omega)) (by omega)) hby'
 rw [if_neg (by omega)]
 refine wJ ?_
 intro t
 show dem P _ _ _ _
 refine wH hi' ?_
 refine wJ ?_
 have hroom : ∀ (q : Nat) {K' : Unit → AH → Prop} {E' : Value → AH → Prop} {H : AH}, K' () H → dem P (askRoom q) H K' E' := by
  intro q K' E' H kk
  unfold askRoom
  split
  ·exact ⟨rfl, kk⟩
  ·exact kk
 refine hroom _ ?_
 refine wJ (rd_cells (cs := []) (Rd.nil _ _) (by simp) ?_)
 have hkm : ¬ k * m = 0 := by
  have := Nat.mul_pos hk hm
  omega
 rw [if_neg hkm]
 refine wH (a := Builtin.zeroCells zc.toArray k) ((zC hz).trans (by rw [hzc]; rfl)) ?_
 refine wH hz ?_
 rw [hzc]
 obtain ⟨j1, hj1, hjl1⟩ := zeroCells_list zc k
 obtain ⟨j, hj, hjl⟩ := zeroCells_list zc ((Question.appendCap (0 + k) 0 e).cut t - (0 + k))
 rw [hj, hj1]
 refine wJ (wJ ?_)
 intro b hb
 have hge : 0 + k ≤ (Question.appendCap (0 + k) 0 e).cut t := Nat.le_add_right _ _
 have ea : ([] : List Value).toArray ++ j1.toArray ++ j.toArray = (j1 ++ j).toArray := by simp
 have ke := kk b ((Question.appendCap (0 + k) 0 e).cut t) (j1 ++ j) hb (by
  rw [List.length_append, hjl, hjl1, hzl, ← Nat.add_mul]
  congr 1
  omega) (by omega)
 rw [ea, Nat.zero_add]
 rw [Nat.zero_add] at ke
 exact ⟨_, h, wl_new hb _, valid_new V hb _, ke⟩
end ops
end Go.HL
namespace Go.Wx
open Go Go.HL
variable [Lvl]
structure Rg where
 mn : Int
 mx : Int
 deriving DecidableEq, Repr, Inhabited
structure Joint where
 kind : Int
 high : Rg
 low : Rg
 weeks : Rg
 life : Rg
 deriving DecidableEq, Repr, Inhabited
structure Seen where
 joint : Int
 week : Int
 failed : Bool
 deriving DecidableEq, Repr, Inhabited
structure Season where
 heats : List Rg
 damps : List Rg
 joints : List Joint
 reports : List Seen
 deriving DecidableEq, Repr, Inhabited
def rgC (r : Rg) : List Value := [.int .i64 r.mn, .int .i64 r.mx]
def jointC (j : Joint) : List Value := [.int .i64 j.kind, .int .i64 j.high.mn, .int .i64 j.high.mx, .int .i64 j.low.mn, .int .i64 j.low.mx, .int .i64 j.weeks.mn, .int .i64 j.weeks.mx, .int .i64 j.life.mn, .int .i64 j.life.mx]
def seenC (r : Seen) : List Value := [.int .i64 r.joint, .int .i64 r.week, .bool r.failed]
def intC (i : Int) : List Value := [.int .i64 i]
def rgV (r : Rg) : Value := .agg #[.int .i64 r.mn, .int .i64 r.mx]
def Row {α : Type} (h : AH) (m : Nat) (enc : α → List Value) (A : Option Addr) (l : List α) : Prop := (∀ x ∈ l, (enc x).length = m) ∧ Rd h A (l.flatMap enc)
theorem Row.ext {α : Type} {h h' : AH} {m : Nat} {enc : α → List Value} {A : Option Addr} {l : List α} (r : Row h m enc A l) (e : Ext h h') : Row h' m enc A l := ⟨r.1, r.2.ext e⟩
theorem flat_get {α : Type} (enc : α → List Value) (m : Nat) : ∀ (l : List α) (_ : ∀ x ∈ l, (enc x).length = m) (i : Nat) (x : α), l[i]? = some x → ∀ j u, (enc x)[j]? = some u → (l.flatMap enc)[i * m + j]? = some u
 | [], _, i, x, hx, _, _, _ => by simp at hx
 | y :: l, hl, i, x, hx, j, u, hu => by
  have hy : (enc y).length = m := hl y (List.mem_cons_self ..)
  have hjm : j < (enc x).length := (List.getElem?_eq_some_iff.1 hu).1
  rw [List.flatMap_cons]
  cases i with
  | zero =>
   simp at hx; subst hx
   rw [List.getElem?_append_left (by omega)]
   simpa using hu
  | succ i =>
   rw [List.getElem?_append_right (by rw [hy, Nat.succ_mul]; omega)]
   have := flat_get enc m l (fun z hz => hl z (List.mem_cons_of_mem _ hz)) i x (by simpa using hx) j u hu
   rw [hy, show (i + 1) * m + j - m = i * m + j from by rw [Nat.succ_mul]; omega]
   exact this
theorem Row.at {α : Type} {h : AH} {m : Nat} {enc : α → List Value} {A : Option Addr} {l : List α} (r : Row h m enc A l) (hm : 0 < m) {i : Nat} (hi : i < l.length) :
  ∃ g off, A = some ⟨g, off, none⟩ ∧ Cells h g (off + i * m) (enc l[i]) := by
 have hx : l[i]? = some l[i] := List.getElem?_eq_getElem hi
 have hne : l.flatMap enc ≠ [] := by
  intro e
  have hl := r.1 l[i] (List.getElem_mem hi)
  have h0 : (enc l[i])[0]? = some ((enc l[i])[0]'(by omega)) := List.getElem?_eq_getElem (by omega)
  have := flat_get enc m l r.1 i l[i] hx 0 _ h0
  rw [e] at this
  simp at this
 obtain ⟨g, off, ha, c⟩ := r.2 hne
 refine ⟨g, off, ha, fun j u hu => ?_⟩
 have := c _ u (flat_get enc m l r.1 i l[i] hx j u hu)
 rw [show off + i * m + j = off + (i * m + j) from by omega]
 exact this
def SlR {α : Type} (h : AH) (m : Nat) (enc : α → List Value) (l : List α) (v : Value) : Prop := ∃ A c, v = .slice A l.length c ∧ Row h m enc A l
theorem SlR.ext {α : Type} {h h' : AH} {m : Nat} {enc : α → List Value} {l : List α} {v : Value} (r : SlR h m enc l v) (e : Ext h h') : SlR h' m enc l v := by
 obtain ⟨A, c, hv, R⟩ := r
 exact ⟨A, c, hv, R.ext e⟩
theorem wS {α : Type} {m : Nat} {enc : α → List Value} : ∀ {l : List α}, (∀ x ∈ l, (enc x).length = m) → (l.flatMap enc).length = l.length * m
 | [], _ => by simp
 | x :: l, h => by
  rw [List.flatMap_cons, List.length_append, h x (List.mem_cons_self ..), wS fun y hy => h y (List.mem_cons_of_mem _ hy), List.length_cons, Nat.succ_mul]
  omega
theorem Row.none_nil {α : Type} {h : AH} {m : Nat} {enc : α → List Value} {l : List α} (r : Row h m enc none l) (hm : 0 < m) : l = [] := by
 cases l with
 | nil => rfl
 | cons x l =>
  obtain ⟨g, off, e, _⟩ := r.at hm (i := 0) (by simp)
  cases e
theorem AccP.row {α : Type} {e : TypeId} {m : Nat} {enc : α → List Value} {l : List α} {p : Option (Nat × Obj)} {v : Value} (a : AccP e m (l.flatMap enc) p v) (hm : 0 < m) (hl : ∀ x ∈ l, (enc x).length = m) {L : Pv} {h : AH} (V : Valid h L) {i : Nat} (hi : L[i]? = some p) : SlR (wl h L) m enc l v := by
 rcases a with ⟨rfl, hn, A, rfl⟩ | ⟨b, len, cap, junk, hlen, rfl, rfl, _⟩
 ·have : l = [] := by
   cases l with
   | nil => rfl
   | cons x l => have h1 := wS hl; rw [hn] at h1; rw [List.length_cons, Nat.succ_mul] at h1; simp at h1; omega
  subst this
  exact ⟨A, 0, rfl, hl, Rd.nil _ _⟩
 ·rw [wS hl] at hlen
  have : l.length = len := Nat.eq_of_mul_eq_mul_right hm hlen
  subst this
  refine ⟨_, cap, rfl, hl, fun _ => ⟨b, 0, rfl, fun j u hu => ?_⟩⟩
  have hj : (l.flatMap enc ++ junk)[j]? = some u := by rw [List.getElem?_append_left (List.getElem?_eq_some_iff.1 hu).1]; exact hu
  simp only [cellA, wl_get V hi, Nat.zero_add]
  simpa using hj
theorem AccP.slice {e : TypeId} {m : Nat} {cs : List Value} {p : Option (Nat × Obj)} {v : Value} (a : AccP e m cs p v) : ∃ A n c, v = .slice A n c := by
 rcases a with ⟨_, _, A2, e⟩ | ⟨b, n2, c2, _, _, e, _⟩
 ·exact ⟨A2, 0, 0, e⟩
 ·exact ⟨_, n2, c2, e⟩
theorem accp_new {e : TypeId} {m : Nat} {b : Nat} : AccP e m [] (some (b, .cells ([] : List Value).toArray e (0, 0))) (.slice (some ⟨b, 0, none⟩) 0 0) := .inr ⟨b, 0, 0, [], by simp, rfl, rfl, by simp⟩
theorem flat_plain {α : Type} {enc : α → List Value} (he : ∀ x, (enc x).all plainB = true) : ∀ l : List α, (l.flatMap enc).all plainB = true
 | [] => rfl
 | x :: l => by rw [List.flatMap_cons, List.all_append, he x, flat_plain he l]; rfl
theorem rgP (x : Rg) : (rgC x).all plainB = true := rfl
theorem jointP (x : Joint) : (jointC x).all plainB = true := rfl
theorem seenP (x : Seen) : (seenC x).all plainB = true := rfl
theorem intP (x : Int) : (intC x).all plainB = true := rfl
def seasonV (A0 A1 A2 A3 : Option Addr) (c0 c1 c2 c3 : Nat) (s : Season) : Value :=
 .agg #[.slice A0 s.heats.length c0, .slice A1 s.damps.length c1, .slice A2 s.joints.length c2, .slice A3 s.reports.length c3]
structure SeasonR (h : AH) (A0 A1 A2 A3 : Option Addr) (s : Season) : Prop where
 heats : Row h 2 rgC A0 s.heats
 damps : Row h 2 rgC A1 s.damps
 joints : Row h 9 jointC A2 s.joints
 reports : Row h 3 seenC A3 s.reports
theorem SeasonR.ext {h h' : AH} {A0 A1 A2 A3 : Option Addr} {s : Season} (r : SeasonR h A0 A1 A2 A3 s) (e : Ext h h') : SeasonR h' A0 A1 A2 A3 s :=
 ⟨r.heats.ext e, r.damps.ext e, r.joints.ext e, r.reports.ext e⟩
def SeasonS (h : AH) (s : Season) (v : Value) : Prop := ∃ A0 A1 A2 A3 c0 c1 c2 c3, v = seasonV A0 A1 A2 A3 c0 c1 c2 c3 s ∧ SeasonR h A0 A1 A2 A3 s
theorem SeasonS.ext {h h' : AH} {s : Season} {v : Value} (r : SeasonS h s v) (e : Ext h h') : SeasonS h' s v := by
 obtain ⟨A0, A1, A2, A3, c0, c1, c2, c3, hv, R⟩ := r
 exact ⟨A0, A1, A2, A3, c0, c1, c2, c3, hv, R.ext e⟩
def uptoM (m k : Nat) : Nat := m &&& (2 ^ (k + 1) - 1)
theorem uptoM_lt {m k : Nat} (hm : m < 2 ^ 64) : uptoM m k < 2 ^ 64 := Nat.lt_of_le_of_lt Nat.and_le_left hm
def toldStep (j : Int) (m : Nat) (r : Seen) : Nat := if r.joint ≠ j then m else if r.failed then uptoM m r.week.toNat else m &&& (2 ^ 64 - 1 - uptoM m r.week.toNat)
theorem toldStep_lt {j : Int} {m : Nat} {r : Seen} (hm : m < 2 ^ 64) : toldStep j m r < 2 ^ 64 := by
 unfold toldStep
 split
 ·exact hm
 ·split
  ·exact uptoM_lt hm
  ·exact Nat.lt_of_le_of_lt Nat.and_le_left hm
def toldM (s : Season) (j : Int) (k : Nat) : Nat := (s.reports.take k).foldl (toldStep j) (2 ^ (s.heats.length + 1) - 1)
theorem toldM_succ (s : Season) (j : Int) (k : Nat) (hk : k < s.reports.length) : toldM s j (k + 1) = toldStep j (toldM s j k) s.reports[k] := by
 unfold toldM
 rw [List.take_succ_eq_append_getElem hk, List.foldl_append]
 rfl
theorem toldM_lt (s : Season) (j : Int) (k : Nat) (hs : s.heats.length ≤ 6) : toldM s j k < 2 ^ 64 := by
 unfold toldM
 have : ∀ (l : List Seen) (m : Nat), m < 2 ^ 64 → l.foldl (toldStep j) m < 2 ^ 64 := by
  intro l
  induction l with
  | nil => intro m hm; exact hm
  | cons r l ih => intro m hm; exact ih _ (toldStep_lt hm)
 refine this _ _ ?_
 have : 2 ^ (s.heats.length + 1) ≤ 2 ^ 7 := Nat.pow_le_pow_right (by omega) (by omega)
 omega
end Go.Wx
