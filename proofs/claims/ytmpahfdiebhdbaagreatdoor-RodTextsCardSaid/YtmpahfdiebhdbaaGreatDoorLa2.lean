/- An own logic over the model, its walks and its plain laws, joined of parts GA GB GC GD GE GF GG N O Q R T V X AA GH GI. Conditions: as each theorem states. -/
import Derived.Test.YtmpahfdiebhdbaaGreatDoorLa1
import Derived.Conc.CrowdComm
import Derived.Conc.EventLaws
set_option linter.all false
namespace Go.HL
open Go Go.Conc Go.ConcN
def zO : Obj → Obj
 | .cells c e f => .cells c e (0, max (c.size + 1) f.2)
 | o => o
def zf (R : AH) : AH := fun b => (R b).map zO
theorem zf_none {R : AH} {b : Nat} : zf R b = none ↔ R b = none := by simp [zf]
def OnlyRows (R : AH) : Prop := ∀ b o, R b = some o → ∃ c e f, o = .cells c e f
structure Lent (Z R : AH) : Prop where
 none : ∀ b, Z b = none ↔ R b = none
 some : ∀ b o, Z b = some o → (∃ c e f, R b = some (.cells c e f) ∧ o = .cells c e (0, max (c.size + 1) f.2)) ∨ (¬ Obj.noCells o ∧ (∀ c e f, o ≠ .cells c e f) ∧ ∃ k bf cl s r t, R b = some (.chan k bf cl s r t))
theorem lent_zf {R : AH} (hR : OnlyRows R) : Lent (zf R) R := by
 refine ⟨fun b => zf_none, fun b o h => ?_⟩
 cases hr : R b with
 | none => simp [zf, hr] at h
 | some o' =>
  obtain ⟨c, e, f, rfl⟩ := hR _ _ hr
  simp only [zf, hr, Option.map_some, zO, Option.some.injEq] at h
  exact .inl ⟨c, e, f, rfl, h.symm⟩
def EvOK (X R : AH) (e : Event) : Prop :=
 (∃ a, e.loc = .cell a ∧ (X a.block ≠ none ∨ (R a.block ≠ none ∧ e.write = false))) ∨ (∃ r, e.loc = .obj r ∧ X r ≠ none) ∨ (∃ m, e.loc = .mark m ∧ m.quiet = true)
theorem EvOK.mono {X X' R : AH} {e : Event} (h : EvOK X R e) (m : ∀ b, X b ≠ none → X' b ≠ none) : EvOK X' R e := by
 rcases h with ⟨a, h1, h2 | h2⟩ | ⟨r, h1, h2⟩ | h
 ·exact .inl ⟨a, h1, .inl (m _ h2)⟩
 ·exact .inl ⟨a, h1, .inr h2⟩
 ·exact .inr (.inl ⟨r, h1, m _ h2⟩)
 ·exact .inr (.inr h)
theorem hunR {X R : AH} {b : Nat} (h : X b = none) : hun X R b = R b := by simp [hun, h]
theorem cellA_z {X Z R : AH} (hR : Lent Z R) {a : Addr} {v : Value} (h : cellA (hun X Z) a = some v) : cellA (hun X R) a = some v := by
 unfold cellA at h ⊢
 cases hx : X a.block with
 | some o => rw [hun_left hx] at h ⊢; exact h
 | none =>
  rw [hunR hx] at h ⊢
  cases hz : Z a.block with
  | none => rw [hz] at h; cases h
  | some o =>
   rcases hR.some _ _ hz with ⟨c, e, f, hr, rfl⟩ | ⟨_, hn, _⟩
   ·rw [hz] at h; rw [hr]; exact h
   ·rw [hz] at h
    cases o <;> first | exact absurd rfl (hn _ _ _) | cases h
theorem cellA_some {H : AH} {a : Addr} {v : Value} (h : cellA H a = some v) : H a.block ≠ none := by
 intro e
 simp [cellA, e] at h
theorem z_own {X Z R : AH} {a : Addr} {o : Obj} {v : Value} (hR : Lent Z R) (h : hun X Z a.block = some o) (hc : cellA (hun X Z) a = some v) (hf : frozenO o a.off = false) : X a.block = some o := by
 cases hx : X a.block with
 | some o' => rw [hun_left hx] at h; exact h
 | none =>
  have e1 : hun X Z a.block = Z a.block := hunR hx
  rw [e1] at h
  rcases hR.some _ _ h with ⟨c, e, f, hr, rfl⟩ | ⟨_, hn, _⟩
  ·simp only [cellA, e1, h] at hc
   split at hc
   ·cases hc
   ·have := (Array.getElem?_eq_some_iff.1 hc).1
    simp [frozenO] at hf
    omega
  ·simp only [cellA, e1, h] at hc
   cases o <;> first | exact absurd rfl (hn _ _ _) | cases hc
theorem z_obj {X Z R : AH} {r : Nat} {o : Obj} (hR : Lent Z R) (h : hun X Z r = some o) (hn : Obj.noCells o) : X r = some o := by
 cases hx : X r with
 | some o' => rw [hun_left hx] at h; exact h
 | none =>
  rw [hunR hx] at h
  rcases hR.some _ _ h with ⟨c, e, f, hr, rfl⟩ | ⟨h1, _⟩
  ·exact hn.elim
  ·exact absurd hn h1
theorem shape_z {X Z R : AH} (hR : Lent Z R) {r : Nat} {o : Obj} (h : hun X Z r = some o) : ∃ o', hun X R r = some o' ∧ shapeO o' = shapeO o := by
 cases hx : X r with
 | some o' =>
  rw [hun_left hx] at h
  exact ⟨o', hun_left hx, by cases h; rfl⟩
 | none =>
  rw [hunR hx] at h ⊢
  rcases hR.some _ _ h with ⟨c, e, f, hr, rfl⟩ | ⟨_, hn, k, bf, cl, s, r, t, hr⟩
  ·exact ⟨_, hr, rfl⟩
  ·exact ⟨_, hr, by cases o <;> first | exact absurd rfl (hn _ _ _) | rfl⟩
structure RunZ (R F X : AH) (w : World) (X' : AH) (w' : World) : Prop where
 env : SameEnv w w'
 heap : absH w'.heap = hun (hun X' R) F
 disj : Disj X' R
 disjF : Disj (hun X' R) F
 size : w.heap.size ≤ w'.heap.size
 grow : ∀ b, X b ≠ none → X' b ≠ none
 new : ∀ b, X' b ≠ none → X b ≠ none ∨ w.heap.size ≤ b
theorem RunZ.trans {R F X X1 X2 : AH} {w w1 w2 : World} (h : RunZ R F X w X1 w1) (k : RunZ R F X1 w1 X2 w2) : RunZ R F X w X2 w2 :=
 ⟨h.env.trans k.env, k.heap, k.disj, k.disjF, Nat.le_trans h.size k.size, fun b hb => k.grow b (h.grow b hb), fun b hb => (k.new b hb).elim (h.new b) fun h1 => .inr (Nat.le_trans h.size h1)⟩
theorem absH_lt {w : World} {H : AH} (e : absH w.heap = H) {b : Nat} (h : H b ≠ none) : b < w.heap.size := by
 subst e
 rcases Nat.lt_or_ge b w.heap.size with h1 | h1
 ·exact h1
 ·exact absurd (by simp [absH, h1]) h
theorem hupd_ne_none {X : AH} {b c : Nat} {o : Obj} (h : X c ≠ none) : hupd X b o c ≠ none := by
 unfold hupd; split
 ·simp
 ·exact h
def AfterZ (P : Program) (Z R F X : AH) {α : Type} (s : Sem α) (w : World) (K : α → AH → Prop) (E : Value → AH → Prop) : Prop :=
 ∃ X' w', RunZ R F X w X' w' ∧ (∀ es, ∀ e ∈ (s.runT P w es).2, e ∈ es ∨ EvOK X' R e) ∧ ((∃ a, s.run P w = .ok a w' ∧ K a (hun X' (Z))) ∨ (∃ v, s.run P w = .halt (.panic v) w' ∧ E v (hun X' (Z))))
theorem AfterZ.step {P : Program} {Z R F X X1 : AH} {α : Type} {s s1 : Sem α} {w w1 : World} {K : α → AH → Prop} {E : Value → AH → Prop} {l : List Event} (z : RunZ R F X w X1 w1) (a : AfterZ P Z R F X1 s1 w1 K E)
  (hr : s.run P w = s1.run P w1) (ht : ∀ es, (s.runT P w es).2 = (s1.runT P w1 (es ++ l.toArray)).2) (hl : ∀ e ∈ l, EvOK X1 R e) : AfterZ P Z R F X s w K E := by
 obtain ⟨X', w', z', he, ho⟩ := a
 refine ⟨X', w', z.trans z', fun es e hm => ?_, by rw [hr]; exact ho⟩
 rw [ht] at hm
 rcases he _ e hm with h1 | h1
 ·rcases Array.mem_append.1 h1 with h2 | h2
  ·exact .inl h2
  ·exact .inr ((hl e (by simpa using h2)).mono z'.grow)
 ·exact .inr h1
theorem RunZ.refl {R F X : AH} {w : World} (h : absH w.heap = hun (hun X R) F) (d : Disj X R) (dF : Disj (hun X R) F) : RunZ R F X w X w := ⟨.refl w, h, d, dF, Nat.le_refl _, fun _ h => h, fun _ h => .inl h⟩
theorem dem_runZ {P : Program} {Z R F : AH} (hR : Lent Z R) {α : Type} {s : Sem α} {K : α → AH → Prop} {E : Value → AH → Prop} :
  ∀ (X : AH) (w : World), absH w.heap = hun (hun X R) F → Disj X R → Disj (hun X R) F → dem P s (hun X (Z)) K E → AfterZ P Z R F X s w K E := by
 induction s with
 | pure a =>
  intro X w h d dF k
  exact ⟨X, w, .refl h d dF, fun es e he => .inl he, .inl ⟨a, rfl, k⟩⟩
 | load m a k ih =>
  intro X w h d dF ⟨v, h1, h2⟩
  have hc : w.cell? a = some v := by
   rw [cell_abs, h]
   exact cellA_hun (cellA_z hR h1)
  refine AfterZ.step (l := [⟨.cell a, false, m == .atomic⟩]) (.refl h d dF) (ih v X w h d dF h2) (by simp only [Sem.run, hc]) (fun es => by simp [-Sem.runT_eq, Sem.runT, hc]) ?_
  intro e he
  simp only [List.mem_singleton] at he
  subst he
  refine .inl ⟨a, rfl, ?_⟩
  have := cellA_some (cellA_z hR h1)
  cases hx : X a.block with
  | some o => exact .inl (by simp)
  | none => exact .inr ⟨by simpa [hun, hx] using this, rfl⟩
 | store m a v k ih =>
  intro X w h d dF ⟨h0, o, u, h1, h2, h3, h4⟩
  have hx := z_own hR h1 h2 h3
  have hc : w.cell? a = some u := by
   rw [cell_abs, h]
   exact cellA_hun (cellA_z hR h2)
  have ho : absH w.heap a.block = some o := by rw [h]; exact hun_left (hun_left hx)
  have hfz : w.frozen? a = false := by
   have h1' : w.heap[a.block]? = some o := ho
   simp only [World.frozen?, h1']
   cases o <;> first | rfl | exact h3
  have hrb : R a.block = none := d.right hx
  have z : RunZ R F X w (hupd X a.block (setO o a v)) (w.setCell a v) := by
   refine ⟨⟨rfl, rfl, rfl⟩, ?_, d.hupd hrb, ?_, ?_, fun b hb => hupd_ne_none hb, fun b hb => ?_⟩
   ·rw [absH_setCell w a v o ho, h, ← hun_hupd, ← hun_hupd]
   ·rw [hun_hupd]; exact dF.hupd (dF.right (hun_left hx))
   ·simp [World.setCell]
   ·by_cases hb2 : b = a.block
    ·subst hb2; exact .inl (by simp [hx])
    ·simp only [hupd, if_neg hb2] at hb; exact .inl hb
  rw [← hun_hupd] at h4
  refine AfterZ.step (l := [⟨.cell a, true, m == .atomic⟩]) z (ih (hupd X a.block (setO o a v)) (w.setCell a v) z.heap z.disj z.disjF h4) ?_ (fun es => ?_) ?_
  ·cases v <;> first | exact h0.elim | simp [Sem.run, hc, hfz]
  ·cases v <;> first | exact h0.elim | simp [-Sem.runT_eq, Sem.runT, hc, hfz]
  ·intro e he
   simp only [List.mem_singleton] at he
   subst he
   exact .inl ⟨a, rfl, .inl (by simp [hupd])⟩
 | new o k ih =>
  intro X w h d dF h1
  have hf := absH_fresh w.heap
  rw [h] at hf
  obtain ⟨hf1, hF⟩ := hun_none hf
  obtain ⟨hX, hRn⟩ := hun_none hf1
  have z : RunZ R F X w (hupd X w.heap.size o) { w with heap := w.heap.push o } := by
   refine ⟨⟨rfl, rfl, rfl⟩, ?_, d.hupd hRn, ?_, by simp, fun b hb => hupd_ne_none hb, fun b hb => ?_⟩
   ·rw [absH_push, h, ← hun_hupd, ← hun_hupd]
   ·rw [hun_hupd]; exact dF.hupd hF
   ·by_cases hb2 : b = w.heap.size
    ·exact .inr (by omega)
    ·simp only [hupd, if_neg hb2] at hb; exact .inl hb
  have h2 := h1 w.heap.size (by simp [hun, hX, (hR.none _).2 hRn])
  rw [← hun_hupd] at h2
  exact AfterZ.step (l := []) z (ih _ _ { w with heap := w.heap.push o } z.heap z.disj z.disjF h2) rfl (fun es => by simp [-Sem.runT_eq, Sem.runT]) (by simp)
 | shape r k ih =>
  intro X w h d dF ⟨o, h1, h2⟩
  obtain ⟨o', ho, hs⟩ := shape_z hR h1
  have e : w.shape? r = shapeO o := by
   rw [← hs]
   have h1' : w.heap[r]? = some o' := by
    show absH w.heap r = some o'
    rw [h]; exact hun_left ho
   simp only [World.shape?, h1']
   cases o' <;> rfl
  exact AfterZ.step (l := []) (.refl h d dF) (ih _ X w h d dF h2) (by simp only [Sem.run, e]) (fun es => by simp [-Sem.runT_eq, Sem.runT, e]) (by simp)
 | freeze a n k ih =>
  intro X w h d dF ⟨hn, c, e, h1, h2⟩
  have hx : X a.block = some (.cells c e (0, 0)) := by
   cases hx : X a.block with
   | some o' => rw [hun_left hx] at h1; exact h1
   | none =>
    rw [hunR hx] at h1
    rcases hR.some _ _ h1 with ⟨c', e', f, _, heq⟩ | ⟨_, hn2, _⟩
    ·injection heq with _ _ h3
     have := congrArg Prod.snd h3
     simp only at this
     have := Nat.le_max_left (c'.size + 1) f.2
     omega
    ·exact absurd rfl (hn2 _ _ _)
  have ho : absH w.heap a.block = some (.cells c e (0, 0)) := by rw [h]; exact hun_left (hun_left hx)
  have z : RunZ R F X w (hupd X a.block (.cells c e (a.off, a.off + n))) (w.freeze a n) := by
   refine ⟨freeze_env w a hn, ?_, d.hupd (d.right hx), ?_, ?_, fun b hb => hupd_ne_none hb, fun b hb => ?_⟩
   ·rw [absH_freeze w a hn ho, h, ← hun_hupd, ← hun_hupd]
   ·rw [hun_hupd]; exact dF.hupd (dF.right (hun_left hx))
   ·unfold World.freeze; rw [if_neg hn]; simp
   ·by_cases hb2 : b = a.block
    ·subst hb2; exact .inl (by simp [hx])
    ·simp only [hupd, if_neg hb2] at hb; exact .inl hb
  rw [← hun_hupd] at h2
  exact AfterZ.step (l := []) z (ih _ (w.freeze a n) z.heap z.disj z.disjF h2) rfl (fun es => by simp [-Sem.runT_eq, Sem.runT]) (by simp)
 | frozen a k ih =>
  intro X w h d dF ⟨o, h1, h2⟩
  have hfr : w.frozen? a = true → frozenO o a.off = true := by
   intro hw
   cases hx : X a.block with
   | some o' =>
    have hz : o = o' := by rw [hun_left hx] at h1; exact (Option.some.inj h1).symm
    subst hz
    have h1' : w.heap[a.block]? = some o := by
     show absH w.heap a.block = some o
     rw [h]; exact hun_left (hun_left hx)
    simp only [World.frozen?, h1'] at hw
    cases o <;> first | exact hw | cases hw
   | none =>
    have hz : Z a.block = some o := by rw [hunR hx] at h1; exact h1
    rcases hR.some _ _ hz with ⟨c, e, f, hr, rfl⟩ | ⟨_, _, k0, bf, cl0, s0, r0, t0, hr⟩
    ·have h1' : w.heap[a.block]? = some (.cells c e f) := by
      show absH w.heap a.block = some _
      rw [h]; exact hun_left (by rw [hunR hx]; exact hr)
     simp only [World.frozen?, h1'] at hw
     simp only [frozenO, Bool.and_eq_true, decide_eq_true_eq] at hw ⊢
     exact ⟨Nat.zero_le _, Nat.lt_of_lt_of_le hw.2 (Nat.le_max_right _ _)⟩
    ·have h1' : w.heap[a.block]? = some (.chan k0 bf cl0 s0 r0 t0) := by
      show absH w.heap a.block = some _
      rw [h]; exact hun_left (by rw [hunR hx]; exact hr)
     simp [World.frozen?, h1'] at hw
  exact AfterZ.step (l := []) (.refl h d dF) (ih _ X w h d dF (h2 (w.frozen? a) hfr)) rfl (fun es => by simp [-Sem.runT_eq, Sem.runT]) (by simp)
 | getObj r k ih =>
  intro X w h d dF ⟨o, h1, h2, h3⟩
  have hx := z_obj hR h1 h2
  have h1' : w.heap[r]? = some o := by
   show absH w.heap r = some o
   rw [h]; exact hun_left (hun_left hx)
  refine AfterZ.step (l := [⟨.obj r, false, o.isChan⟩]) (.refl h d dF) (ih o X w h d dF h3) ?_ (fun es => ?_) ?_
  ·simp only [Sem.run, h1']
   cases o <;> first | exact h2.elim | rfl
  ·simp only [Sem.runT, h1']
   cases o <;> first | exact h2.elim | simp
  ·intro e he
   simp only [List.mem_singleton] at he
   subst he
   exact .inr (.inl ⟨r, rfl, by simp [hx]⟩)
 | setObj r o k ih =>
  intro X w h d dF ⟨o', h1, h2, h3⟩
  have hx := z_obj hR h1 h2
  have ho : absH w.heap r = some o' := by rw [h]; exact hun_left (hun_left hx)
  have h1' : w.heap[r]? = some o' := ho
  have z : RunZ R F X w (hupd X r o) { w with heap := w.heap.setIfInBounds r o } := by
   refine ⟨⟨rfl, rfl, rfl⟩, ?_, d.hupd (d.right hx), ?_, by simp, fun b hb => hupd_ne_none hb, fun b hb => ?_⟩
   ·show absH (w.heap.setIfInBounds r o) = _
    rw [absH_set w.heap r o o' ho, h, ← hun_hupd, ← hun_hupd]
   ·rw [hun_hupd]; exact dF.hupd (dF.right (hun_left hx))
   ·by_cases hb2 : b = r
    ·subst hb2; exact .inl (by simp [hx])
    ·simp only [hupd, if_neg hb2] at hb; exact .inl hb
  rw [← hun_hupd] at h3
  refine AfterZ.step (l := [⟨.obj r, true, o.isChan⟩]) z (ih _ { w with heap := w.heap.setIfInBounds r o } z.heap z.disj z.disjF h3) ?_ (fun es => ?_) ?_
  ·simp only [Sem.run, h1']
   cases o' <;> first | exact h2.elim | rfl
  ·simp only [Sem.runT, h1']
   cases o' <;> first | exact h2.elim | simp
  ·intro e he
   simp only [List.mem_singleton] at he
   subst he
   exact .inr (.inl ⟨r, rfl, by simp [hupd]⟩)
 | choose q k ih =>
  intro X w h d dF h1
  unfold dem at h1
  by_cases hq : q.forced = true
  ·rw [if_pos hq] at h1
   exact AfterZ.step (l := []) (.refl h d dF) (ih 0 X w h d dF h1) (by simp [Sem.run, hq]) (fun es => by simp [-Sem.runT_eq, Sem.runT, hq]) (by simp)
  ·rw [if_neg hq] at h1
   have z : RunZ R F X w X { w with drawn := w.drawn + 1 } := ⟨⟨rfl, rfl, rfl⟩, h, d, dF, Nat.le_refl _, fun _ h => h, fun _ h => .inl h⟩
   exact AfterZ.step (l := []) z (ih _ X { w with drawn := w.drawn + 1 } h d dF (h1 (w.tape w.drawn q))) (by simp [Sem.run, hq]) (fun es => by simp [-Sem.runT_eq, Sem.runT, hq]) (by simp)
 | sys c k ih => intro X w _ _ _ h; exact h.elim
 | program k ih =>
  intro X w h d dF h1
  exact AfterZ.step (l := []) (.refl h d dF) (ih P X w h d dF h1) rfl (fun es => by simp [-Sem.runT_eq, Sem.runT]) (by simp)
 | mark m k ih =>
  intro X w h d dF h1
  refine AfterZ.step (l := [⟨.mark m, false, true⟩]) (.refl h d dF) (ih X w h d dF h1.2) rfl (fun es => by simp [-Sem.runT_eq, Sem.runT]) ?_
  intro e he
  simp only [List.mem_singleton] at he
  subst he
  exact .inr (.inr ⟨m, rfl, h1.1⟩)
 | halt x =>
  intro X w h d dF k
  cases x <;> first | exact k.elim | exact ⟨X, w, .refl h d dF, fun es e he => .inl he, .inr ⟨_, rfl, k⟩⟩
end Go.HL
namespace Go.HL
open Go Go.Conc Go.ConcN
def Must (P : Program) (Goal : Machine → Trace → Prop) (m : Machine) (t : Trace) : Prop := ∃ N m' t', runNT P N m t = (.next m', t') ∧ Goal m' t'
theorem runNT_seq {P : Program} : ∀ {N N' : Nat} {m m1 m2 : Machine} {t t1 t2 : Trace}, runNT P N m t = (.next m1, t1) → runNT P N' m1 t1 = (.next m2, t2) → runNT P (N + N') m t = (.next m2, t2)
 | 0, N', m, m1, m2, t, t1, t2, h, k => by
  simp only [runNT, Prod.mk.injEq, Stepped.next.injEq] at h
  obtain ⟨rfl, rfl⟩ := h
  rw [Nat.zero_add]; exact k
 | N + 1, N', m, m1, m2, t, t1, t2, h, k => by
  rw [show N + 1 + N' = (N + N') + 1 by omega]
  cases hs : stepT P m with
  | mk r ops =>
   cases r with
   | next m' =>
    simp only [runNT, hs] at h ⊢
    exact runNT_seq h k
   | _ => simp [runNT, hs] at h
theorem Must.done {P : Program} {Goal : Machine → Trace → Prop} {m : Machine} {t : Trace} (h : Goal m t) : Must P Goal m t := ⟨0, m, t, rfl, h⟩
theorem Must.step {P : Program} {Goal : Machine → Trace → Prop} {m m' : Machine} {t : Trace} {ops : Array MemOp} (hs : stepT P m = (.next m', ops)) (h : Must P Goal m' (t ++ ops)) : Must P Goal m t := by
 obtain ⟨N, m2, t2, e, g⟩ := h
 exact ⟨N + 1, m2, t2, by simp only [runNT, hs]; exact e, g⟩
theorem Must.bind {P : Program} {Goal Goal' : Machine → Trace → Prop} {m : Machine} {t : Trace} (h : Must P Goal m t) (k : ∀ m t, Goal m t → Must P Goal' m t) : Must P Goal' m t := by
 obtain ⟨N, m1, t1, e1, g1⟩ := h
 obtain ⟨N2, m2, t2, e2, g2⟩ := k _ _ g1
 exact ⟨N + N2, m2, t2, runNT_seq e1 e2, g2⟩
theorem Deaf_ne (t : Trace) (g : Nat) (u : Trace) (hu : ∀ op ∈ u, op.g ≠ g) : Deaf (t ++ u) g = Deaf t g := by
 obtain ⟨l⟩ := u
 rw [Deaf_append]
 have : ∀ (l : List MemOp) (d : Nat), (∀ op ∈ l, op.g ≠ g) → l.foldl (deafStep g) d = d := by
  intro l
  induction l with
  | nil => intro d _; rfl
  | cons a l ih =>
   intro d h
   have ha : deafStep g d a = d := by
    have := h a (by simp)
    unfold deafStep
    split <;> simp_all
   simp only [List.foldl_cons, ha]
   exact ih d fun op hop => h op (by simp [hop])
 exact this l _ fun op hop => hu op (by simpa using hop)
structure Crew (P : Program) (Sp : Nat → Prop) (t : Trace) (gs : Array Goroutine) (q : Nat → Nat) : Prop where
 old : ∀ i g, ¬ Sp i → gs[i]? = some g → QuitsD P (q i) (Deaf t i) g
 above : ∀ j, gs.size ≤ j → Deaf t j = 0
theorem Crew.of {P : Program} {t : Trace} {gs : Array Goroutine} {q : Nat → Nat} (h : Leavers P t gs q) : Crew P (· = 0) t gs q := ⟨fun i g hi hg => h.old i g (by omega) hg, h.above⟩
theorem Crew.to {P : Program} {t : Trace} {gs : Array Goroutine} {q : Nat → Nat} (h : Crew P (· = 0) t gs q) : Leavers P t gs q := ⟨fun i g hi hg => h.old i g (by omega) hg, h.above⟩
theorem Crew.app {P : Program} {Sp : Nat → Prop} {t : Trace} {gs gs' : Array Goroutine} {q : Nat → Nat} (h : Crew P Sp t gs q) (u : Trace) (hu : ∀ op ∈ u, Sp op.g ∧ op.g < gs.size) (hs : gs'.size = gs.size)
  (hg : ∀ i g, ¬ Sp i → gs[i]? = some g → gs'[i]? = some g) : Crew P Sp (t ++ u) gs' q := by
 refine ⟨fun i g hi hgi => ?_, fun j hj => ?_⟩
 ·rw [Deaf_ne t i u fun op hop e => hi (e ▸ (hu op hop).1)]
  have hlt : i < gs.size := by rw [← hs]; exact (Array.getElem?_eq_some_iff.1 hgi).1
  have h1 := hg i gs[i] hi (Array.getElem?_eq_getElem hlt)
  rw [h1] at hgi
  cases hgi
  exact h.old i _ hi (Array.getElem?_eq_getElem hlt)
 ·rw [Deaf_ne t j u fun op hop e => by have := (hu op hop).2; omega]
  exact h.above j (by omega)
theorem g_ofEvents {g : Nat} {fn : FuncId} {pos : String} {es : Array Event} : ∀ op ∈ MemOp.ofEvents g fn pos es, op.g = g := by
 intro op hop
 obtain ⟨e, _, rfl⟩ := Go.Conc.mem_ofEvents hop
 rfl
def Ready (P : Program) (Sp : Nat → Prop) (J : Trace → Prop) (gs : Array Goroutine) (w : World) (m : Machine) (t : Trace) : Prop :=
 ∃ (gs' : Array Goroutine) (d : Nat) (sl : Option (Nat × Nat)) (q : Nat → Nat) (i : Nat) (g : Goroutine) (d' : Nat) (sl' : Option (Nat × Nat)), m = crowd gs' (w.at d) sl ∧ gs'.size = gs.size ∧ (∀ i, Sp i → gs'[i]? = gs[i]?) ∧ Crew P Sp t gs' q ∧ J t ∧
  Sp i ∧ gs'[i]? = some g ∧ g.status = .running ∧ stepT P m = runT P (crowd gs' (w.at d') sl') i
theorem slip {P : Program} {Sp : Nat → Prop} {J : Trace → Prop} (hs0 : Sp 0) (hJ : ∀ t i fn pos (es : Array Event), ¬ Sp i → J t → (∀ e ∈ es, Event.mute e = true) → J (t ++ MemOp.ofEvents i fn pos es)) :
  ∀ (M : Nat) (gs : Array Goroutine) (w : World) (sl : Option (Nat × Nat)) (t : Trace) (q : Nat → Nat), sumTo gs.size q ≤ M → Crew P Sp t gs q →
   (∀ i g, Sp i → gs[i]? = some g → awake g ∧ ∀ d, g.again (w.at d) = g) → (∃ i g, Sp i ∧ gs[i]? = some g ∧ g.status = .running) → J t → Must P (Ready P Sp J gs w) (crowd gs w sl) t := by
 intro M
 induction M with
 | zero =>
  intro gs w sl t q hM hC hS hr hj
  have haw : ∀ g ∈ gs, awake g := by
   intro g hg
   obtain ⟨i, hi, rfl⟩ := Array.mem_iff_getElem.1 hg
   by_cases hsp : Sp i
   ·exact (hS i _ hsp (Array.getElem?_eq_getElem hi)).1
   ·exact awake_of ((hC.old i _ hsp (Array.getElem?_eq_getElem hi)).status.elim .inl fun x => .inr (.inr x))
  obtain ⟨i0, g0, hsp0, hg0, hr0⟩ := hr
  obtain ⟨i, g, d, sl', hi, hg, hst⟩ := crowd_pick (P := P) (w := w) (sl := sl) haw ⟨i0, g0, hg0, hr0⟩
  by_cases hsp : Sp i
  ·exact .done ⟨gs, w.drawn, sl, q, i, g, d, sl', rfl, rfl, fun _ _ => rfl, hC, hj, hsp, hi, hg, hst⟩
  ·have hq := hC.old i g hsp hi
   have hlt : i < gs.size := (Array.getElem?_eq_some_iff.1 hi).1
   have := le_sumTo (f := q) hlt
   rw [show q i = 0 by omega] at hq
   rw [hq.1] at hg; cases hg
 | succ M ih =>
  intro gs w sl t q hM hC hS hr hj
  have haw : ∀ g ∈ gs, awake g := by
   intro g hg
   obtain ⟨i, hi, rfl⟩ := Array.mem_iff_getElem.1 hg
   by_cases hsp : Sp i
   ·exact (hS i _ hsp (Array.getElem?_eq_getElem hi)).1
   ·exact awake_of ((hC.old i _ hsp (Array.getElem?_eq_getElem hi)).status.elim .inl fun x => .inr (.inr x))
  obtain ⟨i0, g0, hsp0, hg0, hr0⟩ := hr
  obtain ⟨i, g, d, sl', hi, hg, hst⟩ := crowd_pick (P := P) (w := w) (sl := sl) haw ⟨i0, g0, hg0, hr0⟩
  by_cases hsp : Sp i
  ·exact .done ⟨gs, w.drawn, sl, q, i, g, d, sl', rfl, rfl, fun _ _ => rfl, hC, hj, hsp, hi, hg, hst⟩
  ·have hq := hC.old i g hsp hi
   have hlt : i < gs.size := (Array.getElem?_eq_some_iff.1 hi).1
   cases hqi : q i with
   | zero => rw [hqi] at hq; rw [hq.1] at hg; cases hg
   | succ k =>
    rw [hqi] at hq
    rcases hq with ⟨hf, _⟩ | ⟨_, g', es, hm, hstp, hq'⟩
    ·rw [hf] at hg; cases hg
    have hne : i ≠ 0 := fun e => hsp (e ▸ hs0)
    have hi0 : (i == 0) = false := by simp [hne]
    have hrunT := runT_crowd_go (P := P) (sl := sl') (i := i) hi (by rw [hi0]; exact hstp (w.at d))
    have hsz : ((gs.map (woken P g g' (w.at d))).setIfInBounds i g').size = gs.size := by simp
    have hsum : sumTo gs.size (Go.ConcN.upd q i k) + (k + 1) = sumTo gs.size q + k := by
     have := sumTo_upd q k id hlt
     simpa [hqi] using this
    have keep : ∀ j, Sp j → ((gs.map (woken P g g' (w.at d))).setIfInBounds i g')[j]? = gs[j]? := by
     intro j hj
     have hij : i ≠ j := fun e => hsp (e ▸ hj)
     rw [Array.getElem?_setIfInBounds_ne hij, Array.getElem?_map]
     cases hgj : gs[j]? with
     | none => rfl
     | some x =>
      have := (hS j x hj hgj).2 d
      simp only [Option.map_some, woken]
      split
      ·rw [this]
      ·rfl
    have hC' : Crew P Sp (t ++ MemOp.ofEvents i g.frame.fn g.frame.place es) ((gs.map (woken P g g' (w.at d))).setIfInBounds i g') (Go.ConcN.upd q i k) := by
     refine ⟨fun j x hj hx => ?_, fun j hj => ?_⟩
     ·by_cases hji : i = j
      ·subst hji
       rw [Array.getElem?_setIfInBounds_self_of_lt (by simpa using hlt)] at hx
       obtain rfl := Option.some.inj hx
       rw [upd_same, Deaf_own]
       exact hq'
      ·rw [Array.getElem?_setIfInBounds_ne hji, Array.getElem?_map] at hx
       obtain ⟨y, hy, rfl⟩ := Option.map_eq_some_iff.1 hx
       have hqj := hC.old j y hj hy
       rw [woken_quitsD hqj, upd_ne q k (Ne.symm hji), Deaf_ne t j _ (fun op hop => by rw [g_ofEvents op hop]; exact hji)]
       exact hqj
     ·rw [Deaf_ne t j _ (fun op hop => by rw [g_ofEvents op hop]; rw [hsz] at hj; omega)]
      exact hC.above j (by rw [hsz] at hj; exact hj)
    have := ih ((gs.map (woken P g g' (w.at d))).setIfInBounds i g') (w.at d) sl' (t ++ MemOp.ofEvents i g.frame.fn g.frame.place es) (Go.ConcN.upd q i k) (by rw [hsz]; omega) hC'
     (fun j x hj hx => by rw [keep j hj] at hx; exact ⟨(hS j x hj hx).1, (hS j x hj hx).2⟩)
     ⟨i0, g0, hsp0, by rw [keep i0 hsp0]; exact hg0, hr0⟩ (hJ t i _ _ es hsp hj hm)
    refine .step (hst.trans hrunT) (this.bind fun m t h => .done ?_)
    obtain ⟨gs', d1, sl1, q1, i1, g1, d1', sl1', e1, e2, e3, e4, e5, e6, e7, e8, e9⟩ := h
    exact ⟨gs', d1, sl1, q1, i1, g1, d1', sl1', e1, e2.trans hsz, fun j hj => (e3 j hj).trans (keep j hj), e4, e5, e6, e7, e8, e9⟩
theorem hun_emp (h : AH) : hun h (fun _ => none) = h := by
 funext b
 simp only [hun]
 cases h b <;> rfl
theorem disj_emp (h : AH) : Disj h (fun _ => none) := fun _ => .inr rfl
theorem zf_emp : zf (fun _ => none) = fun _ => none := rfl
theorem cells_emp : OnlyRows (fun _ => none) := fun _ _ h => by cases h
theorem EvOK.low {X R : AH} {B : Nat} {e : Event} (h : EvOK X R e) (hX : ∀ b, X b ≠ none → b < B) (hR : ∀ b, R b ≠ none → b < B) : EvL (fun _ => False) B e := by
 obtain ⟨loc, wr, sy⟩ := e
 refine ⟨fun _ _ hs => hs.elim, ?_, ?_, ?_⟩
 ·rcases h with ⟨a, h1, _⟩ | ⟨r, h1, _⟩ | ⟨m, h1, h2⟩
  ·simp only at h1; rw [h1]; simp
  ·simp only at h1; rw [h1]; simp
  ·simp only at h1; rw [h1]; intro e; cases e; cases h2
 ·rcases h with ⟨a, h1, _⟩ | ⟨r, h1, _⟩ | ⟨m, h1, h2⟩
  ·simp only at h1; rw [h1]; simp
  ·simp only at h1; rw [h1]; simp
  ·simp only at h1; rw [h1]; intro e; cases e; cases h2
 ·rcases h with ⟨a, h1, h2 | h2⟩ | ⟨r, h1, h2⟩ | ⟨m, h1, h2⟩
  ·simp only at h1; subst h1; exact hX _ h2
  ·simp only at h1; subst h1; exact hR _ h2.1
  ·simp only at h1; subst h1
   cases wr <;> cases sy <;> exact hX _ h2
  ·simp only at h1; subst h1
   cases m <;> first | exact trivial | cases h2
theorem sem_far {P : Program} {fr : Frame} {cs : List Frame} {h : AH} {β : Type} {s : Sem β} {ok : β → Prop} {okp : Value → Prop} {nxt : β → Frame × List Frame} {pan : Value → Frame × List Frame} {X : β → AH → Prop} {Y : Value → AH → Prop}
  {Q : Frame → List Frame → AH → Prop}
  (hs : StepBy P fr cs s ok okp nxt pan) (hd : dem P s h X Y) (hok : ∀ b h', X b h' → ok b) (hokp : ∀ v h', Y v h' → okp v) (hx : ∀ b h', X b h' → Far P Q (nxt b).1 (nxt b).2 h') (hy : ∀ v h', Y v h' → Far P Q (pan v).1 (pan v).2 h') : Far P Q fr cs h := by
 intro F gs w sl t q h0 hh d hL hP
 have rd := slip (P := P) (Sp := (· = 0)) (J := Past (fun _ => False) w.heap.size) rfl (fun t i fn pos es hi hj hm => hj.mute hi hm) _ gs w sl t q (Nat.le_refl _) (Crew.of hL)
  (fun i g hi hg => by
   subst hi
   rw [h0] at hg
   cases hg
   exact ⟨awake_of (.inl rfl), fun d => again_running _ (.inl rfl)⟩) ⟨0, _, rfl, h0, rfl⟩ hP
 obtain ⟨N1, m1, t1, e1, gs1, d1, sl1, q1, i, g, d1', sl1', rfl, hsz, hkeep, hC1, hP1, hi, hg, hrun, hst⟩ := rd
 subst hi
 rw [hkeep 0 rfl, h0] at hg
 cases hg
 have hg0 : gs1[0]? = some (G fr cs) := by rw [hkeep 0 rfl]; exact h0
 have az := dem_runZ (P := P) (Z := zf fun _ => none) (R := fun _ => none) (F := F) (lent_zf cells_emp) h (w.at d1') (by rw [hun_emp]; exact hh) (disj_emp h) (by rw [hun_emp]; exact d) (by rw [zf_emp, hun_emp]; exact hd)
 obtain ⟨X', w', z, hev, ho⟩ := az
 have zh := z.heap
 have zd := z.disjF
 rw [hun_emp] at zh zd
 have hX : ∀ b, X' b ≠ none → b < w'.heap.size := fun b hb => absH_lt zh (fun e => hb (hun_none e).1)
 have go : ∀ (fr' : Frame) (cs' : List Frame), (stepG P true (G fr cs) (w.at d1')).tells (s.events P (w.at d1') #[]) (G fr' cs') w' → Far P Q fr' cs' X' →
   ∃ (N : Nat) (gs' : Array Goroutine) (fr' : Frame) (cs' : List Frame) (h' : AH) (w' : World) (sl' : Option (Nat × Nat)) (t' : Trace) (q' : Nat → Nat),
    runNT P N (crowd gs w sl) t = (.next (crowd gs' w' sl'), t') ∧ gs'[0]? = some (G fr' cs') ∧ absH w'.heap = hun h' F ∧ Disj h' F ∧ Leavers P t' gs' q' ∧
     Past (fun _ => False) w'.heap.size t' ∧ SameEnv w w' ∧ Q fr' cs' h' := by
  intro fr' cs' ht far
  obtain ⟨es, hgo, hes⟩ := tells_eq.1 ht
  have hrunT := runT_crowd_go (P := P) (sl := sl1') (i := 0) hg0 (show stepG P (0 == 0) (G fr cs) (w.at d1') = _ from hgo)
  have hlt : 0 < gs1.size := (Array.getElem?_eq_some_iff.1 hg0).1
  have hL' := (hC1.app (gs' := (gs1.map (woken P (G fr cs) (G fr' cs') w')).setIfInBounds 0 (G fr' cs')) (MemOp.ofEvents 0 (G fr cs).frame.fn (G fr cs).frame.place es) (fun op hop => by rw [g_ofEvents op hop]; exact ⟨rfl, hlt⟩) (by simp)
   (fun j x hj hx => by
    rw [Array.getElem?_setIfInBounds_ne (fun e => hj e.symm), Array.getElem?_map, hx]
    simp only [Option.map_some]
    rw [woken_quitsD (hC1.old j x hj hx)])).to
  have hP' : Past (fun _ => False) w'.heap.size (t1 ++ MemOp.ofEvents 0 (G fr cs).frame.fn (G fr cs).frame.place es) := by
   refine (hP1.mono z.size).own fun e he => ?_
   have := hev #[] e (hes e he)
   rcases this with h1 | h1
   ·simp at h1
   ·exact h1.low hX (fun b hb => absurd rfl hb)
  obtain ⟨N2, gs2, fr2, cs2, h2, w2, sl2, t2, q2, e2, r2, r3, r4, r5, r6, r7, r8⟩ := far F _ w' sl1' _ q1 (by simp [hlt]) zh zd hL' hP'
  have z0 : SameEnv w (w.at d1') := ⟨rfl, rfl, rfl⟩
  refine ⟨N1 + (N2 + 1), gs2, fr2, cs2, h2, w2, sl2, t2, q2, runNT_seq e1 ?_, r2, r3, r4, r5, r6, (z0.trans z.env).trans r7, r8⟩
  simp only [runNT, hst.trans hrunT]
  exact e2
 rcases ho with ⟨a, ho, hk⟩ | ⟨v, ho, hk⟩
 ·rw [zf_emp, hun_emp] at hk
  exact go _ _ ((hs true (w.at d1')).1 a w' ho (hok _ _ hk)) (hx _ _ hk)
 ·rw [zf_emp, hun_emp] at hk
  exact go _ _ ((hs true (w.at d1')).2 v w' ho (hokp _ _ hk)) (hy _ _ hk)
theorem Far.bind {P : Program} {X Q : Frame → List Frame → AH → Prop} {fr : Frame} {cs : List Frame} {h : AH} (f : Far P X fr cs h) (k : ∀ fr cs h, X fr cs h → Far P Q fr cs h) : Far P Q fr cs h := by
 intro F gs w sl t q h1 h2 h3 h4 h5
 obtain ⟨N, gs', fr', cs', h', w', sl', t', q', e1, e2, e3, e4, e5, e6, e7, x⟩ := f F gs w sl t q h1 h2 h3 h4 h5
 obtain ⟨N2, gs2, fr2, cs2, h2', w2, sl2, t2, q2, r1, r2, r3, r4, r5, r6, r7, r8⟩ := k _ _ _ x F gs' w' sl' t' q' e2 e3 e4 e5 e6
 exact ⟨N + N2, gs2, fr2, cs2, h2', w2, sl2, t2, q2, runNT_seq e1 r1, r2, r3, r4, r5, r6, e7.trans r7, r8⟩
theorem Rch.beside [Lvl] (hco : Lvl.co = none) (hci : Lvl.ci = none) {P : Program} {Q : Frame → List Frame → AH → Prop} {fr : Frame} {cs : List Frame} {h : AH} (r : Rch P Q fr cs h) : Far P Q fr cs h := by
 induction r with
 | done q => intro F gs w sl t qq h1 h2 h3 h4 h5; exact ⟨0, gs, _, _, _, w, sl, t, qq, rfl, h1, h2, h3, h4, h5, .refl w, q⟩
 | sem s ok okp nxt pan X Y hs hd hok hokp _ _ ihx ihy => exact sem_far hs hd hok hokp ihx ihy
 | far hl X hf hs _ ih => exact hf.bind ih
 | send hl' _ _ _ _ => rw [hco] at hl'; cases hl'
 | recv hl' _ _ _ _ => rw [hci] at hl'; cases hl'
 | last hl' _ _ _ _ => rw [hci] at hl'; cases hl'
theorem runN_of_runNT {P : Program} : ∀ {N : Nat} {m m' : Machine} {t t' : Trace}, runNT P N m t = (.next m', t') → runN P N m = .next m'
 | 0, m, m', t, t', h => by
  simp only [runNT, Prod.mk.injEq] at h
  simp only [runN, h.1]
 | N + 1, m, m', t, t', h => by
  cases hs : stepT P m with
  | mk r ops =>
   cases r with
   | next m1 =>
    simp only [runNT, hs] at h
    simp only [runN, step, hs]
    exact runN_of_runNT h
   | _ => simp [runNT, hs] at h
theorem runN_seq {P : Program} : ∀ {N N' : Nat} {m m1 m2 : Machine}, runN P N m = .next m1 → runN P N' m1 = .next m2 → runN P (N + N') m = .next m2
 | 0, N', m, m1, m2, h, k => by
  simp only [runN, Stepped.next.injEq] at h
  subst h
  rw [Nat.zero_add]; exact k
 | N + 1, N', m, m1, m2, h, k => by
  rw [show N + 1 + N' = (N + N') + 1 by omega]
  cases hs : step P m with
  | next m' =>
   simp only [runN, hs] at h ⊢
   exact runN_seq h k
  | _ => simp [runN, hs] at h
theorem runNT_seqE {P : Program} {o : Outcome} {w : World} : ∀ {N N' : Nat} {m m1 : Machine} {t t1 t2 : Trace}, runNT P N m t = (.next m1, t1) → runNT P N' m1 t1 = (.ended o w, t2) → runNT P (N + N') m t = (.ended o w, t2)
 | 0, N', m, m1, t, t1, t2, h, k => by
  simp only [runNT, Prod.mk.injEq, Stepped.next.injEq] at h
  obtain ⟨rfl, rfl⟩ := h
  rw [Nat.zero_add]; exact k
 | N + 1, N', m, m1, t, t1, t2, h, k => by
  rw [show N + 1 + N' = (N + N') + 1 by omega]
  cases hs : stepT P m with
  | mk r ops =>
   cases r with
   | next m' =>
    simp only [runNT, hs] at h ⊢
    exact runNT_seqE h k
   | _ => simp [runNT, hs] at h
theorem Rch.ends [Lvl] (hco : Lvl.co = none) (hci : Lvl.ci = none) {P : Program} {Q : Frame → List Frame → AH → Prop} {Post : Value → World → Prop} {fr : Frame} {cs : List Frame} {W : World} (r : Rch P Q fr cs (absH W.heap))
  (hq : ∀ fr cs h w, Q fr cs h → SameEnv W w → absH w.heap = h → AtEnd P (fun _ => False) w.heap.size Post (G fr cs) w) :
  ∃ M last o w' t', runNT P (M + 1) (solo (G fr cs) W) #[] = (.ended o w', t') ∧ runN P M (solo (G fr cs) W) = .next last ∧ step P last = .ended o w' ∧ Good P Post last o w' t' := by
 obtain ⟨N, gs, fr', cs', h', w', sl', t', q', e1, e2, e3, _, e5, e6, e7, x⟩ := r.beside hco hci (fun _ => none) #[G fr cs] W none #[] (fun _ => 0) rfl (hun_emp _).symm (disj_emp _) (leavers_one P _) (past_nil.mono (Nat.zero_le _))
 rw [hun_emp] at e3
 obtain ⟨N2, last, o, w2, t2, r1, r2, r3, r4⟩ := beside_ends (P := P) (Shun := fun _ => False) (B := w'.heap.size) (D := fun _ _ _ => False) (Post := Post) (n := 0) (fun _ _ _ h => h.elim) (sl := sl') e2 e5 e6
  (fun w1 hw1 => by
   obtain ⟨d, rfl⟩ := hw1
   have z0 : SameEnv w' (w'.at d) := ⟨rfl, rfl, rfl⟩
   exact hq _ _ _ (w'.at d) x (e7.trans z0) e3)
 have e0 : crowd #[G fr cs] W none = solo (G fr cs) W := rfl
 rw [e0] at e1
 have a1 := runNT_seqE (N := N) (N' := N2 + 1) e1 r1
 have a2 := runN_seq (runN_of_runNT e1) r2
 exact ⟨N + N2, last, o, w2, t2, a1, a2, r3, r4⟩
end Go.HL
namespace Go.HL
open Go Go.Conc Go.ConcN
def blkOf : Loc → Option Nat
 | .cell a => some a.block
 | .obj r => some r
 | _ => none
theorem blk_mem {l : Loc} (h : l.isMemory = true) : ∃ b, blkOf l = some b := by
 cases l <;> first | exact ⟨_, rfl⟩ | cases h
theorem mem_blk {l : Loc} {b : Nat} (h : blkOf l = some b) : l.isMemory = true := by
 cases l <;> first | rfl | cases h
theorem low_touch {B : Nat} {x : MemAct} {a : Touch} {b : Nat} (hl : x.low B) (h : x.touch? = some a) (hb : blkOf a.loc = some b) : b < B := by
 cases x with
 | access e =>
  simp only [MemAct.touch?, Option.some.injEq] at h
  subst h
  obtain ⟨loc, wr, sy⟩ := e
  cases loc <;> simp only [blkOf, Option.some.injEq, reduceCtorEq] at hb <;> subst hb <;> exact hl
 | mark m =>
  cases m <;> simp only [MemAct.touch?, Option.some.injEq, reduceCtorEq] at h <;> subst h <;> simp only [blkOf, Option.some.injEq] at hb <;> subst hb <;> exact hl
 | _ => simp [MemAct.touch?] at h
structure Duo (k B : Nat) (W S : Nat → Prop) (t : Trace) : Prop where
 clean : ∀ said, ¬ Race said t
 both : ∀ i a, touchAt t i = some a → a.loc.isMemory = true → Knows t 0 i ∨ Knows t k i
 main : ∀ i a b, touchAt t i = some a → blkOf a.loc = some b → ¬ W b → (S b → a.write = true) → Knows t 0 i
 work : ∀ i a b, touchAt t i = some a → blkOf a.loc = some b → (W b ∨ (S b ∧ a.write = true)) → Knows t k i
 over : ∀ i g, t.g? i = some g → g ≠ 0 → g ≠ k → t.counts i → ∃ j, t.g? j = some 0 ∧ HappensBefore t i j
 hears : Deaf t 0 = 0
 heark : Deaf t k = 0
 seen : ∀ op ∈ t, op.act.low B
section
variable {k B : Nat} {W S : Nat → Prop} {t u : Trace}
theorem seen_blk (h : ∀ op ∈ t, op.act.low B) {i : Nat} {a : Touch} {b : Nat} (ht : touchAt t i = some a) (hb : blkOf a.loc = some b) : b < B := by
 obtain ⟨x, hx, hxa⟩ := touch_of ht
 exact low_touch (h x (Array.mem_of_getElem? hx)) hxa hb
theorem Duo.grow {B' : Nat} {W' : Nat → Prop} (h : Duo k B W S t) (hB : B ≤ B') (hW : ∀ b, b < B → (W' b ↔ W b)) : Duo k B' W' S t := by
 refine ⟨h.clean, h.both, fun i a b ht hb hw hs => ?_, fun i a b ht hb hw => ?_, h.over, h.hears, h.heark, fun op hop => MemAct.low_mono hB (h.seen op hop)⟩
 ·have := seen_blk h.seen ht hb
  exact h.main i a b ht hb (fun e => hw ((hW b this).2 e)) hs
 ·have := seen_blk h.seen ht hb
  exact h.work i a b ht hb (hw.imp (hW b this).1 id)
theorem g?_app {i : Nat} (hi : i < t.size) : (t ++ u).g? i = t.g? i := by simp [Trace.g?, getElem?_append_old hi]
theorem over_app {k : Nat} (h : ∀ i g, t.g? i = some g → g ≠ 0 → g ≠ k → t.counts i → ∃ j, t.g? j = some 0 ∧ HappensBefore t i j) (hu : ∀ op ∈ u, op.g = 0 ∨ op.g = k ∨ op.act.touch? = none) :
  ∀ i g, (t ++ u).g? i = some g → g ≠ 0 → g ≠ k → (t ++ u).counts i → ∃ j, (t ++ u).g? j = some 0 ∧ HappensBefore (t ++ u) i j := by
 intro i g hg hne hnk hc
 obtain ⟨x, hx, hx2⟩ := hc
 obtain ⟨op, hop, hox⟩ := touch_of hx
 rcases getElem?_append_cases hop with ⟨hi, hop'⟩ | ⟨_, hopu⟩
 ·obtain ⟨j, hj, hb⟩ := h i g (by simpa [Trace.g?, getElem?_append_old hi] using hg) hne hnk ((counts_old hi).1 ⟨x, hx, hx2⟩)
  refine ⟨j, ?_, hb_app u hb⟩
  obtain ⟨y, hy, hyg⟩ := Option.map_eq_some_iff.1 hj
  exact Option.map_eq_some_iff.2 ⟨y, by rw [getElem?_append_old (lt_size_of_getElem? hy)]; exact hy, hyg⟩
 ·have hgo : op.g = g := by simpa [Trace.g?, hop] using hg
  rcases hu op hopu with h0 | h0 | h0
  ·exact absurd (hgo.symm.trans h0) hne
  ·exact absurd (hgo.symm.trans h0) hnk
  ·rw [h0] at hox; cases hox
theorem Deaf_q {g : Nat} (hu : ∀ op ∈ u, op.g ≠ g ∨ (op.act ≠ .mark .disable ∧ op.act ≠ .mark .enable)) : Deaf (t ++ u) g = Deaf t g := by
 obtain ⟨l⟩ := u
 rw [Deaf_append]
 have : ∀ (l : List MemOp) (d : Nat), (∀ op ∈ l, op.g ≠ g ∨ (op.act ≠ .mark .disable ∧ op.act ≠ .mark .enable)) → l.foldl (deafStep g) d = d := by
  intro l
  induction l with
  | nil => intro d _; rfl
  | cons a l ih =>
   intro d h
   have ha : deafStep g d a = d := by
    unfold deafStep
    rcases h a (by simp) with h1 | ⟨h1, h2⟩
    ·split <;> simp_all
    ·split <;> simp_all
   simp only [List.foldl_cons, ha]
   exact ih d fun op hop => h op (by simp [hop])
 exact this l _ fun op hop => hu op (by simpa using hop)
theorem Duo.app0 (h : Duo k B W S t) (hk : k ≠ 0) (hu : ∀ op ∈ u, op.g = 0) (hm : ∀ op ∈ u, op.act ≠ .mark .disable ∧ op.act ≠ .mark .enable) (hl : ∀ op ∈ u, op.act.low B)
  (ht : ∀ op ∈ u, ∀ a, op.act.touch? = some a → ∀ b, blkOf a.loc = some b → ¬ W b ∧ (S b → a.write = false)) : Duo k B W S (t ++ u) := by
 have split : ∀ {i : Nat} {a : Touch}, touchAt (t ++ u) i = some a → (touchAt t i = some a) ∨ (∃ op, (t ++ u)[i]? = some op ∧ op ∈ u ∧ op.act.touch? = some a) := by
  intro i a ha
  obtain ⟨x, hx, hxa⟩ := touch_of ha
  rcases getElem?_append_cases hx with ⟨_, hx'⟩ | ⟨_, hxu⟩
  ·exact .inl (by rw [touchAt_of hx']; exact hxa)
  ·exact .inr ⟨x, hx, hxu, hxa⟩
 refine ⟨fun said => noRace_append (h.clean said) hu fun i a ha op hop b hb hc => ?_, fun i a ha hmem => ?_, fun i a b ha hb hw hs => ?_, fun i a b ha hb hw => ?_, over_app h.over fun op hop => .inl (hu op hop), ?_, ?_, seen_app h.seen hl⟩
 ·obtain ⟨x, hx⟩ := blk_mem hc.2.1
  obtain ⟨h1, h2⟩ := ht op hop b hb x (by rw [← hc.1]; exact hx)
  refine h.main i a x ha hx h1 fun hs => ?_
  rcases hc.2.2.1 with h3 | h3
  ·exact h3
  ·rw [h2 hs] at h3; cases h3
 ·rcases split ha with h1 | ⟨op, h1, h2, h3⟩
  ·exact (h.both i a h1 hmem).imp (·.app u) (·.app u)
  ·have := knows_own h1
   rw [hu op h2] at this
   exact .inl this
 ·rcases split ha with h1 | ⟨op, h1, h2, h3⟩
  ·exact (h.main i a b h1 hb hw hs).app u
  ·have := knows_own h1
   rw [hu op h2] at this
   exact this
 ·rcases split ha with h1 | ⟨op, h1, h2, h3⟩
  ·exact (h.work i a b h1 hb hw).app u
  ·obtain ⟨h4, h5⟩ := ht op h2 a h3 b hb
   rcases hw with hw | ⟨hs, hw⟩
   ·exact absurd hw h4
   ·rw [h5 hs] at hw; cases hw
 ·rw [Deaf_q fun op hop => .inr (hm op hop)]; exact h.hears
 ·rw [Deaf_q fun op hop => .inr (hm op hop)]; exact h.heark
theorem Duo.appk (h : Duo k B W S t) (hu : ∀ op ∈ u, op.g = k) (hm : ∀ op ∈ u, op.act ≠ .mark .disable ∧ op.act ≠ .mark .enable) (hl : ∀ op ∈ u, op.act.low B)
  (ht : ∀ op ∈ u, ∀ a, op.act.touch? = some a → ∀ b, blkOf a.loc = some b → W b ∨ (S b ∧ a.write = false)) : Duo k B W S (t ++ u) := by
 have split : ∀ {i : Nat} {a : Touch}, touchAt (t ++ u) i = some a → (touchAt t i = some a) ∨ (∃ op, (t ++ u)[i]? = some op ∧ op ∈ u ∧ op.act.touch? = some a) := by
  intro i a ha
  obtain ⟨x, hx, hxa⟩ := touch_of ha
  rcases getElem?_append_cases hx with ⟨_, hx'⟩ | ⟨_, hxu⟩
  ·exact .inl (by rw [touchAt_of hx']; exact hxa)
  ·exact .inr ⟨x, hx, hxu, hxa⟩
 refine ⟨fun said => noRace_append (h.clean said) hu fun i a ha op hop b hb hc => ?_, fun i a ha hmem => ?_, fun i a b ha hb hw hs => ?_, fun i a b ha hb hw => ?_, over_app h.over fun op hop => .inr (.inl (hu op hop)), ?_, ?_, seen_app h.seen hl⟩
 ·obtain ⟨x, hx⟩ := blk_mem hc.2.1
  refine h.work i a x ha hx ?_
  rcases ht op hop b hb x (by rw [← hc.1]; exact hx) with h1 | ⟨h1, h2⟩
  ·exact .inl h1
  ·refine .inr ⟨h1, ?_⟩
   rcases hc.2.2.1 with h3 | h3
   ·exact h3
   ·rw [h2] at h3; cases h3
 ·rcases split ha with h1 | ⟨op, h1, h2, h3⟩
  ·exact (h.both i a h1 hmem).imp (·.app u) (·.app u)
  ·have := knows_own h1
   rw [hu op h2] at this
   exact .inr this
 ·rcases split ha with h1 | ⟨op, h1, h2, h3⟩
  ·exact (h.main i a b h1 hb hw hs).app u
  ·rcases ht op h2 a h3 b hb with h4 | ⟨h4, h5⟩
   ·exact absurd h4 hw
   ·rw [hs h4] at h5; cases h5
 ·rcases split ha with h1 | ⟨op, h1, h2, h3⟩
  ·exact (h.work i a b h1 hb hw).app u
  ·have := knows_own h1
   rw [hu op h2] at this
   exact this
 ·rw [Deaf_q fun op hop => .inr (hm op hop)]; exact h.hears
 ·rw [Deaf_q fun op hop => .inr (hm op hop)]; exact h.heark
theorem Duo.mute (h : Duo k B W S t) (hl : ∀ op ∈ u, op.act.low B) (hn : ∀ op ∈ u, op.act.touch? = none) (hm : ∀ op ∈ u, (op.g ≠ 0 ∧ op.g ≠ k) ∨ (op.act ≠ .mark .disable ∧ op.act ≠ .mark .enable)) : Duo k B W S (t ++ u) := by
 have split : ∀ {i : Nat} {a : Touch}, touchAt (t ++ u) i = some a → (touchAt t i = some a ∧ i < t.size) := by
  intro i a ha
  obtain ⟨x, hx, hxa⟩ := touch_of ha
  rcases getElem?_append_cases hx with ⟨hi, hx'⟩ | ⟨_, hxu⟩
  ·exact ⟨by rw [touchAt_of hx']; exact hxa, hi⟩
  ·rw [hn x hxu] at hxa; cases hxa
 refine ⟨?_, fun i a ha hmem => (h.both i a (split ha).1 hmem).imp (·.app u) (·.app u), fun i a b ha hb hw hs => (h.main i a b (split ha).1 hb hw hs).app u, fun i a b ha hb hw => (h.work i a b (split ha).1 hb hw).app u,
  over_app h.over fun op hop => .inr (.inr (hn op hop)), ?_, ?_, seen_app h.seen hl⟩
 ·rintro said ⟨i, j, hij, ⟨a, b, ha, hb, hc⟩, n1, n2⟩
  exact h.clean said ⟨i, j, hij, ⟨a, b, (split ha).1, (split hb).1, hc⟩, fun e => n1 (hb_app u e), fun e => n2 (hb_app u e)⟩
 ·rw [Deaf_q fun op hop => (hm op hop).imp (·.1) id]; exact h.hears
 ·rw [Deaf_q fun op hop => (hm op hop).imp (·.2) id]; exact h.heark
theorem g0_act {x : MemOp} {t : Trace} {i : Nat} (h : t[i]? = some x) : t.act? i = some x.act ∧ t.g? i = some x.g := by simp [Trace.act?, Trace.g?, h]
theorem Duo.spawn (h : Past (fun _ => False) B t) (hk : k ≠ 0) (hd : Deaf t k = 0) {x y : MemOp} (hx : x.g = 0) (hxa : x.act = .go k) (hy : y.g = k) (hya : y.act = .start) : Duo k B W S (t ++ #[x, y]) := by
 have ex : (t ++ #[x, y])[t.size]? = some x := by simp
 have ey : (t ++ #[x, y])[t.size + 1]? = some y := by simp
 have hu : ∀ op ∈ (#[x, y] : Array MemOp), op = x ∨ op = y := by simp
 have nt : ∀ op ∈ (#[x, y] : Array MemOp), op.act.touch? = none := by
  intro op hop
  rcases hu op hop with rfl | rfl
  ·rw [hxa]; rfl
  ·rw [hya]; rfl
 have nm : ∀ op ∈ (#[x, y] : Array MemOp), op.act ≠ .mark .disable ∧ op.act ≠ .mark .enable := by
  intro op hop
  rcases hu op hop with rfl | rfl
  ·rw [hxa]; exact ⟨by simp, by simp⟩
  ·rw [hya]; exact ⟨by simp, by simp⟩
 have split : ∀ {i : Nat} {a : Touch}, touchAt (t ++ #[x, y]) i = some a → touchAt t i = some a := by
  intro i a ha
  obtain ⟨z, hz, hza⟩ := touch_of ha
  rcases getElem?_append_cases hz with ⟨hi, hz'⟩ | ⟨_, hzu⟩
  ·rw [touchAt_of hz']; exact hza
  ·rw [nt z hzu] at hza; cases hza
 have k0 : ∀ i a, touchAt t i = some a → a.loc.isMemory = true → Knows t 0 i := fun i a ha hm => (h.known i a ha hm).resolve_right fun e => e.1
 have heardx : (t ++ #[x, y]).heard t.size := ⟨0, by rw [(g0_act ex).2, hx], by rw [deaf_old (Nat.le_refl _)]; exact h.hears⟩
 have heardy : (t ++ #[x, y]).heard (t.size + 1) := by
  refine ⟨k, by rw [(g0_act ey).2, hy], ?_⟩
  rw [deaf_succ ex, deaf_old (Nat.le_refl _)]
  have : deafStep k (t.deaf k t.size) x = t.deaf k t.size := by unfold deafStep; rw [hxa]
  rw [this]; exact hd
 have edge : HappensBefore (t ++ #[x, y]) t.size (t.size + 1) := .single (.inr ⟨.spawn (child := k) (by rw [(g0_act ex).1, hxa]) (by rw [(g0_act ey).1, hya]) (by rw [(g0_act ey).2, hy]), heardx, heardy⟩)
 have kk : ∀ i, Knows t 0 i → Knows (t ++ #[x, y]) k i := by
  intro i hi
  have h1 := hi.hb_new (Nat.le_refl _) ex hx
  exact ⟨t.size + 1, y, ey, hy, .inr (h1.trans edge)⟩
 refine ⟨?_, fun i a ha hm => .inl ((k0 i a (split ha) hm).app _), fun i a b ha hb _ _ => (k0 i a (split ha) (mem_blk hb)).app _, fun i a b ha hb _ => kk i (k0 i a (split ha) (mem_blk hb)), ?_, ?_, ?_, seen_app h.seen ?_⟩
 ·rintro said ⟨i, j, hij, ⟨a, b, ha, hb, hc⟩, n1, n2⟩
  exact h.clean said ⟨i, j, hij, ⟨a, b, split ha, split hb, hc⟩, fun e => n1 (hb_app _ e), fun e => n2 (hb_app _ e)⟩
 ·exact over_app (fun i g hg h0 _ hc => h.over i g hg h0 hc) fun op hop => .inr (.inr (nt op hop))
 ·rw [Deaf_q fun op hop => .inr (nm op hop)]; exact h.hears
 ·rw [Deaf_q fun op hop => .inr (nm op hop)]; exact hd
 ·intro op hop
  rcases hu op hop with rfl | rfl
  ·rw [hxa]; exact trivial
  ·rw [hya]; exact trivial
structure Shut (c B : Nat) (W S : Nat → Prop) (pc : Nat) (t : Trace) : Prop where
 clean : ∀ said, ¬ Race said t
 both : ∀ i a, touchAt t i = some a → a.loc.isMemory = true → Knows t 0 i ∨ HappensBefore t i pc
 main : ∀ i a b, touchAt t i = some a → blkOf a.loc = some b → ¬ W b → (S b → a.write = true) → Knows t 0 i
 over : ∀ i g, t.g? i = some g → g ≠ 0 → t.counts i → (∃ j, t.g? j = some 0 ∧ HappensBefore t i j) ∨ HappensBefore t i pc
 hears : Deaf t 0 = 0
 close : t.act? pc = some (.close c) ∧ t.heard pc ∧ pc < t.size
 seen : ∀ op ∈ t, op.act.low B
theorem Shut.mono {c pc B' : Nat} (h : Shut c B W S pc t) (hB : B ≤ B') : Shut c B' W S pc t := ⟨h.clean, h.both, h.main, h.over, h.hears, h.close, fun op hop => MemAct.low_mono hB (h.seen op hop)⟩
theorem heard_app {i : Nat} (h : t.heard i) (hi : i < t.size) : (t ++ u).heard i := by
 obtain ⟨g, hg, hd⟩ := h
 exact ⟨g, by rw [g?_app hi]; exact hg, by rw [deaf_old (Nat.le_of_lt hi)]; exact hd⟩
theorem Shut.of {c : Nat} (h : Duo k B W S t) {y : MemOp} (hy : y.g = k) (hya : y.act = .close c) (hc : c < B) : Shut c B W S t.size (t ++ #[y]) := by
 have ey : (t ++ #[y])[t.size]? = some y := by simp
 have hu : ∀ op ∈ (#[y] : Array MemOp), op = y := by simp
 have nt : ∀ op ∈ (#[y] : Array MemOp), op.act.touch? = none := by
  intro op hop
  rw [hu op hop, hya]; rfl
 have nm : ∀ op ∈ (#[y] : Array MemOp), op.act ≠ .mark .disable ∧ op.act ≠ .mark .enable := by
  intro op hop
  rw [hu op hop, hya]; exact ⟨by simp, by simp⟩
 have D := h.mute (u := #[y]) (fun op hop => by rw [hu op hop, hya]; exact hc) nt fun op hop => .inr (nm op hop)
 have split : ∀ {i : Nat} {a : Touch}, touchAt (t ++ #[y]) i = some a → touchAt t i = some a ∧ i < t.size := by
  intro i a ha
  obtain ⟨z, hz, hza⟩ := touch_of ha
  rcases getElem?_append_cases hz with ⟨hi, hz'⟩ | ⟨_, hzu⟩
  ·exact ⟨by rw [touchAt_of hz']; exact hza, hi⟩
  ·rw [nt z hzu] at hza; cases hza
 refine ⟨D.clean, fun i a ha hm => ?_, D.main, fun i g hg h0 hc => ?_, D.hears, ⟨by rw [(g0_act ey).1, hya], ⟨k, by rw [(g0_act ey).2, hy], by rw [deaf_old (Nat.le_refl _)]; exact h.heark⟩, by simp⟩, D.seen⟩
 ·rcases h.both i a (split ha).1 hm with h1 | h1
  ·exact .inl (h1.app _)
  ·exact .inr (h1.hb_new (Nat.le_refl _) ey hy)
 ·by_cases hgk : g = k
  ·subst hgk
   obtain ⟨x, hx, _⟩ := hc
   obtain ⟨_, hi⟩ := split hx
   right
   obtain ⟨z, hz, hzg⟩ := Option.map_eq_some_iff.1 hg
   exact hb_po hi hz ey (hzg.trans hy.symm)
  ·exact .inl (D.over i g hg h0 hgk hc)
theorem over_app2 {pc : Nat} (h : ∀ i g, t.g? i = some g → g ≠ 0 → t.counts i → (∃ j, t.g? j = some 0 ∧ HappensBefore t i j) ∨ HappensBefore t i pc) (hu : ∀ op ∈ u, op.g = 0 ∨ op.act.touch? = none) :
  ∀ i g, (t ++ u).g? i = some g → g ≠ 0 → (t ++ u).counts i → (∃ j, (t ++ u).g? j = some 0 ∧ HappensBefore (t ++ u) i j) ∨ HappensBefore (t ++ u) i pc := by
 intro i g hg hne hc
 obtain ⟨x, hx, hx2⟩ := hc
 obtain ⟨op, hop, hox⟩ := touch_of hx
 rcases getElem?_append_cases hop with ⟨hi, hop'⟩ | ⟨_, hopu⟩
 ·rcases h i g (by simpa [Trace.g?, getElem?_append_old hi] using hg) hne ((counts_old hi).1 ⟨x, hx, hx2⟩) with ⟨j, hj, hb⟩ | hb
  ·refine .inl ⟨j, ?_, hb_app u hb⟩
   obtain ⟨y, hy, hyg⟩ := Option.map_eq_some_iff.1 hj
   exact Option.map_eq_some_iff.2 ⟨y, by rw [getElem?_append_old (lt_size_of_getElem? hy)]; exact hy, hyg⟩
  ·exact .inr (hb_app u hb)
 ·have hgo : op.g = g := by simpa [Trace.g?, hop] using hg
  rcases hu op hopu with h0 | h0
  ·exact absurd (hgo.symm.trans h0) hne
  ·rw [h0] at hox; cases hox
theorem act?_app {i : Nat} (hi : i < t.size) : (t ++ u).act? i = t.act? i := by simp [Trace.act?, getElem?_append_old hi]
theorem Shut.app0 {c pc : Nat} (h : Shut c B W S pc t) (hu : ∀ op ∈ u, op.g = 0) (hm : ∀ op ∈ u, op.act ≠ .mark .disable ∧ op.act ≠ .mark .enable) (hl : ∀ op ∈ u, op.act.low B)
  (ht : ∀ op ∈ u, ∀ a, op.act.touch? = some a → ∀ b, blkOf a.loc = some b → ¬ W b ∧ (S b → a.write = false)) : Shut c B W S pc (t ++ u) := by
 have split : ∀ {i : Nat} {a : Touch}, touchAt (t ++ u) i = some a → (touchAt t i = some a) ∨ (∃ op, (t ++ u)[i]? = some op ∧ op ∈ u ∧ op.act.touch? = some a) := by
  intro i a ha
  obtain ⟨x, hx, hxa⟩ := touch_of ha
  rcases getElem?_append_cases hx with ⟨_, hx'⟩ | ⟨_, hxu⟩
  ·exact .inl (by rw [touchAt_of hx']; exact hxa)
  ·exact .inr ⟨x, hx, hxu, hxa⟩
 refine ⟨fun said => noRace_append (h.clean said) hu fun i a ha op hop b hb hc => ?_, fun i a ha hmem => ?_, fun i a b ha hb hw hs => ?_, over_app2 h.over fun op hop => .inl (hu op hop), ?_, ⟨by rw [act?_app h.close.2.2]; exact h.close.1, heard_app h.close.2.1 h.close.2.2, by have := h.close.2.2; simp; omega⟩, seen_app h.seen hl⟩
 ·obtain ⟨x, hx⟩ := blk_mem hc.2.1
  obtain ⟨h1, h2⟩ := ht op hop b hb x (by rw [← hc.1]; exact hx)
  refine h.main i a x ha hx h1 fun hs => ?_
  rcases hc.2.2.1 with h3 | h3
  ·exact h3
  ·rw [h2 hs] at h3; cases h3
 ·rcases split ha with h1 | ⟨op, h1, h2, h3⟩
  ·exact (h.both i a h1 hmem).imp (·.app u) (hb_app u)
  ·have := knows_own h1
   rw [hu op h2] at this
   exact .inl this
 ·rcases split ha with h1 | ⟨op, h1, h2, h3⟩
  ·exact (h.main i a b h1 hb hw hs).app u
  ·have := knows_own h1
   rw [hu op h2] at this
   exact this
 ·rw [Deaf_q fun op hop => .inr (hm op hop)]; exact h.hears
theorem Shut.mute {c pc : Nat} (h : Shut c B W S pc t) (hl : ∀ op ∈ u, op.act.low B) (hn : ∀ op ∈ u, op.act.touch? = none) (hm : ∀ op ∈ u, op.g ≠ 0) : Shut c B W S pc (t ++ u) := by
 have split : ∀ {i : Nat} {a : Touch}, touchAt (t ++ u) i = some a → touchAt t i = some a := by
  intro i a ha
  obtain ⟨x, hx, hxa⟩ := touch_of ha
  rcases getElem?_append_cases hx with ⟨_, hx'⟩ | ⟨_, hxu⟩
  ·rw [touchAt_of hx']; exact hxa
  ·rw [hn x hxu] at hxa; cases hxa
 refine ⟨?_, fun i a ha hmem => (h.both i a (split ha) hmem).imp (·.app u) (hb_app u), fun i a b ha hb hw hs => (h.main i a b (split ha) hb hw hs).app u, over_app2 h.over fun op hop => .inr (hn op hop), ?_,
  ⟨by rw [act?_app h.close.2.2]; exact h.close.1, heard_app h.close.2.1 h.close.2.2, by have := h.close.2.2; simp; omega⟩, seen_app h.seen hl⟩
 ·rintro said ⟨i, j, hij, ⟨a, b, ha, hb, hc⟩, n1, n2⟩
  exact h.clean said ⟨i, j, hij, ⟨a, b, split ha, split hb, hc⟩, fun e => n1 (hb_app u e), fun e => n2 (hb_app u e)⟩
 ·rw [Deaf_q fun op hop => .inl (hm op hop)]; exact h.hears
theorem Shut.past {c pc : Nat} (h : Shut c B W S pc t) (hc : c < B) {y : MemOp} (hy : y.g = 0) (hya : y.act = .recvClosed c) : Past (fun _ => False) B (t ++ #[y]) := by
 have ey : (t ++ #[y])[t.size]? = some y := by simp
 have hu : ∀ op ∈ (#[y] : Array MemOp), op = y := by simp
 have nt : ∀ op ∈ (#[y] : Array MemOp), op.act.touch? = none := by
  intro op hop
  rw [hu op hop, hya]; rfl
 have split : ∀ {i : Nat} {a : Touch}, touchAt (t ++ #[y]) i = some a → touchAt t i = some a := by
  intro i a ha
  obtain ⟨x, hx, hxa⟩ := touch_of ha
  rcases getElem?_append_cases hx with ⟨_, hx'⟩ | ⟨_, hxu⟩
  ·rw [touchAt_of hx']; exact hxa
  ·rw [nt x hxu] at hxa; cases hxa
 have edge : HappensBefore (t ++ #[y]) pc t.size := .single (.inr ⟨.closed (c := c) (by rw [act?_app h.close.2.2]; exact h.close.1) (by rw [(g0_act ey).1, hya]), heard_app h.close.2.1 h.close.2.2,
  ⟨0, by rw [(g0_act ey).2, hy], by rw [deaf_old (Nat.le_refl _)]; exact h.hears⟩⟩)
 refine ⟨?_, fun i a ha hm => .inl ?_, fun i g hg h0 hcn => ?_, ?_, seen_app h.seen fun op hop => by rw [hu op hop, hya]; exact hc⟩
 ·rintro said ⟨i, j, hij, ⟨a, b, ha, hb, hcf⟩, n1, n2⟩
  exact h.clean said ⟨i, j, hij, ⟨a, b, split ha, split hb, hcf⟩, fun e => n1 (hb_app _ e), fun e => n2 (hb_app _ e)⟩
 ·rcases h.both i a (split ha) hm with h1 | h1
  ·exact h1.app _
  ·exact ⟨t.size, y, ey, hy, .inr ((hb_app _ h1).trans edge)⟩
 ·rcases over_app2 (u := #[y]) h.over (fun op hop => .inr (nt op hop)) i g hg h0 hcn with h1 | h1
  ·exact h1
  ·exact ⟨t.size, by rw [(g0_act ey).2, hy], h1.trans edge⟩
 ·rw [Deaf_q fun op hop => .inr (by rw [hu op hop, hya]; exact ⟨by simp, by simp⟩)]; exact h.hears
end
end Go.HL
namespace Go.HL
open Go Go.Conc Go.ConcN
theorem Disj.symm {a b : AH} (d : Disj a b) : Disj b a := fun x => (d x).symm
theorem hun_comm {a b : AH} (d : Disj a b) : hun a b = hun b a := by
 funext x
 rcases d x with h1 | h1
 ·simp only [hun, h1]; cases b x <;> rfl
 ·simp only [hun, h1]; cases a x <;> rfl
theorem hun_swap {a b c : AH} (d : Disj a b) : hun a (hun b c) = hun b (hun a c) := by rw [← hun_assoc, hun_comm d, hun_assoc]
theorem Disj.of_hun_right {a b c : AH} (d : Disj a (HL.hun b c)) : Disj a b ∧ Disj a c := ⟨(d.symm.of_hun).1.symm, (d.symm.of_hun).2.symm⟩
def oneC (c : Nat) (o : Obj) : AH := hupd (fun _ => none) c o
theorem wZ (c : Nat) (o : Obj) : oneC c o c = some o := by simp [oneC, hupd]
theorem oneC_ne {c b : Nat} {o : Obj} (h : b ≠ c) : oneC c o b = none := by simp [oneC, hupd, h]
theorem disj_oneC {X : AH} {c : Nat} {o o' : Obj} (d : Disj X (oneC c o)) : Disj X (oneC c o') := by
 intro b
 rcases d b with h | h
 ·exact .inl h
 ·by_cases hb : b = c
  ·subst hb; rw [wZ] at h; cases h
  ·exact .inr (oneC_ne hb)
theorem ev_touch {X R : AH} {e : Event} (h : EvOK X R e) {a : Touch} {b : Nat} (ht : (MemAct.ofEvent e).touch? = some a) (hb : blkOf a.loc = some b) : X b ≠ none ∨ (R b ≠ none ∧ a.write = false) := by
 obtain ⟨loc, wr, sy⟩ := e
 rcases h with ⟨ad, h1, h2⟩ | ⟨r, h1, h2⟩ | ⟨m, h1, h2⟩
 ·simp only at h1; subst h1
  have : MemAct.ofEvent ⟨.cell ad, wr, sy⟩ = .access ⟨.cell ad, wr, sy⟩ := by cases wr <;> cases sy <;> rfl
  rw [this] at ht
  simp only [MemAct.touch?, Option.some.injEq] at ht
  subst ht
  simp only [blkOf, Option.some.injEq] at hb
  subst hb
  exact h2
 ·simp only at h1; subst h1
  cases wr <;> cases sy <;> simp only [MemAct.ofEvent, MemAct.touch?, Option.some.injEq, reduceCtorEq] at ht <;> subst ht <;> simp only [blkOf, Option.some.injEq] at hb <;> subst hb <;> exact .inl h2
 ·simp only at h1; subst h1
  have : MemAct.ofEvent ⟨.mark m, wr, sy⟩ = .mark m := by cases wr <;> cases sy <;> rfl
  rw [this] at ht
  cases m <;> first | (cases h2; done) | (cases ht; done)
theorem ev_mark {X R : AH} {e : Event} (h : EvOK X R e) : MemAct.ofEvent e ≠ .mark .disable ∧ MemAct.ofEvent e ≠ .mark .enable := by
 obtain ⟨loc, wr, sy⟩ := e
 rcases h with ⟨ad, h1, h2⟩ | ⟨r, h1, h2⟩ | ⟨m, h1, h2⟩
 ·simp only at h1; subst h1; cases wr <;> cases sy <;> simp [MemAct.ofEvent]
 ·simp only at h1; subst h1; cases wr <;> cases sy <;> simp [MemAct.ofEvent]
 ·simp only at h1; subst h1; cases m <;> first | (cases h2; done) | (cases wr <;> cases sy <;> simp [MemAct.ofEvent])
structure St (P : Program) (R F : AH) (c k : Nat) (tm : Bool) (w0 : World) (gs : Array Goroutine) (w : World) (t : Trace) (q : Nat → Nat) (hm hw : AH) (s r : Nat) (a b : Goroutine) : Prop where
 g0 : gs[0]? = some a
 gk : gs[k]? = some b
 k0 : k ≠ 0
 heap : absH w.heap = hun hm (hun hw (hun R (hun (oneC c (.chan 0 #[] false s r tm)) F)))
 mw : Disj hm hw
 mR : Disj hm R
 wR : Disj hw R
 mC : Disj hm (oneC c (.chan 0 #[] false s r tm))
 wC : Disj hw (oneC c (.chan 0 #[] false s r tm))
 rC : Disj R (oneC c (.chan 0 #[] false s r tm))
 mF : Disj hm F
 wF : Disj hw F
 rF : Disj R F
 cF : F c = none
 crew : Crew P (fun i => i = 0 ∨ i = k) t gs q
 duo : Duo k w.heap.size (fun b => hw b ≠ none) (fun b => R b ≠ none ∨ b = c) t
 env : SameEnv w0 w
def Stay (w : World) (g : Goroutine) : Prop := awake g ∧ ∀ d, g.again (w.at d) = g
theorem stay_run {w : World} {g : Goroutine} (h : g.status = .running) : Stay w g := ⟨awake_of (.inl h), fun _ => again_running _ (.inl h)⟩
section
variable {P : Program} {R F : AH} {c k : Nat} {tm : Bool} {w0 : World} {gs : Array Goroutine} {w : World} {t : Trace} {q : Nat → Nat} {hm hw : AH} {s r : Nat} {a b : Goroutine}
theorem St.chan (st : St P R F c k tm w0 gs w t q hm hw s r a b) : absH w.heap c = some (.chan 0 #[] false s r tm) := by
 have e0 := wZ c (.chan 0 #[] false s r tm)
 have e1 : hm c = none := (st.mC c).resolve_right (by rw [e0]; simp)
 have e2 : hw c = none := (st.wC c).resolve_right (by rw [e0]; simp)
 have e3 : R c = none := (st.rC c).resolve_right (by rw [e0]; simp)
 rw [st.heap]
 simp [hun, e1, e2, e3, e0]
theorem St.open (st : St P R F c k tm w0 gs w t q hm hw s r a b) : w.heap[c]? = some (.chan 0 #[] false s r tm) := st.chan
theorem St.clt (st : St P R F c k tm w0 gs w t q hm hw s r a b) : c < w.heap.size := absH_lt rfl (by rw [st.chan]; simp)
theorem St.pick {Goal : Machine → Trace → Prop} (st : St P R F c k tm w0 gs w t q hm hw s r a b) (sl : Option (Nat × Nat)) (ha : Stay w a) (hb : Stay w b) (hr : a.status = .running ∨ b.status = .running)
  (h0 : a.status = .running → ∀ gs w sl t q, St P R F c k tm w0 gs w t q hm hw s r a b → ∃ m ops, runT P (crowd gs w sl) 0 = (.next m, ops) ∧ Must P Goal m (t ++ ops))
  (hk : b.status = .running → ∀ gs w sl t q, St P R F c k tm w0 gs w t q hm hw s r a b → ∃ m ops, runT P (crowd gs w sl) k = (.next m, ops) ∧ Must P Goal m (t ++ ops)) :
  Must P Goal (crowd gs w sl) t := by
 have rd := slip (P := P) (Sp := fun i => i = 0 ∨ i = k) (J := Duo k w.heap.size (fun b => hw b ≠ none) (fun b => R b ≠ none ∨ b = c)) (.inl rfl)
  (fun t i fn pos es hi hj hme => hj.mute (fun op hop => by obtain ⟨e, he, rfl⟩ := Go.Conc.mem_ofEvents hop; exact low_mute (hme e he) _) (fun op hop => by obtain ⟨e, he, rfl⟩ := Go.Conc.mem_ofEvents hop; exact touch_mute (hme e he))
   (fun op hop => .inl (by rw [g_ofEvents op hop]; exact ⟨fun e => hi (.inl e), fun e => hi (.inr e)⟩))) _ gs w sl t q (Nat.le_refl _) st.crew
  (fun i g hi hg => by
   rcases hi with rfl | rfl
   ·rw [st.g0] at hg; cases hg; exact ha
   ·rw [st.gk] at hg; cases hg; exact hb) (by
   rcases hr with hr | hr
   ·exact ⟨0, a, .inl rfl, st.g0, hr⟩
   ·exact ⟨k, b, .inr rfl, st.gk, hr⟩) st.duo
 refine rd.bind ?_
 rintro m t1 ⟨gs1, d1, sl1, q1, i, g, d1', sl1', rfl, hsz, hkeep, hC1, hD1, hi, hg, hrun, hst⟩
 have st1 : St P R F c k tm w0 gs1 (w.at d1') t1 q1 hm hw s r a b := ⟨by rw [hkeep 0 (.inl rfl)]; exact st.g0, by rw [hkeep k (.inr rfl)]; exact st.gk, st.k0, st.heap, st.mw, st.mR, st.wR, st.mC, st.wC, st.rC, st.mF, st.wF, st.rF, st.cF, hC1, hD1,
  st.env.trans ⟨rfl, rfl, rfl⟩⟩
 rcases hi with rfl | rfl
 ·have : g = a := by rw [hkeep 0 (.inl rfl), st.g0] at hg; exact (Option.some.inj hg).symm
  subst this
  obtain ⟨m, ops, e, k⟩ := h0 hrun _ _ sl1' _ _ st1
  exact .step (hst.trans e) k
 ·have : g = b := by rw [hkeep i (.inr rfl), st.gk] at hg; exact (Option.some.inj hg).symm
  subst this
  obtain ⟨m, ops, e, k⟩ := hk hrun _ _ sl1' _ _ st1
  exact .step (hst.trans e) k
theorem crew_keep {Sp : Nat → Prop} {gs : Array Goroutine} {t : Trace} {q : Nat → Nat} (hC : Crew P Sp t gs q) {i : Nat} (hi : Sp i) (g g' : Goroutine) (w' : World) : ∀ j x, ¬ Sp j → gs[j]? = some x → ((gs.map (woken P g g' w')).setIfInBounds i g')[j]? = some x := by
 intro j x hj hx
 rw [Array.getElem?_setIfInBounds_ne (by intro e; subst e; exact hj hi), Array.getElem?_map, hx]
 simp only [Option.map_some]
 rw [woken_quitsD (hC.old j x hj hx)]
theorem woken_stay {g g' o : Goroutine} {w : World} (h : o.again w = o) : woken P g g' w o = o := by
 unfold woken
 split
 ·exact h
 ·rfl
theorem lt_of_get {gs : Array Goroutine} {i : Nat} {g : Goroutine} (h : gs[i]? = some g) : i < gs.size := (Array.getElem?_eq_some_iff.1 h).1
theorem St.step0 {a' : Goroutine} {w' : World} {hm' : AH} {es : Array Event} (st : St P R F c k tm w0 gs w t q hm hw s r a b) (sl : Option (Nat × Nat)) (hgo : stepG P true a w = .go a' w' es) (z : RunZ (hun (oneC c (.chan 0 #[] false s r tm)) R) (hun hw F) hm w hm' w')
  (hev : ∀ e ∈ es, EvOK hm' (hun (oneC c (.chan 0 #[] false s r tm)) R) e) (hb : b.again w' = b) :
  ∃ gs' ops, runT P (crowd gs w sl) 0 = (.next (crowd gs' w' sl), ops) ∧ St P R F c k tm w0 gs' w' (t ++ ops) q hm' hw s r a' b := by
 have e := runT_crowd_go (P := P) (sl := sl) (i := 0) st.g0 (show stepG P (0 == 0) a w = _ from hgo)
 have hlt := lt_of_get st.g0
 have hltk := lt_of_get st.gk
 obtain ⟨dO, dR⟩ := z.disj.of_hun_right
 obtain ⟨d1, d2⟩ := z.disjF.of_hun
 obtain ⟨d3, d6⟩ := d1.of_hun_right
 have hX : ∀ b, hm' b ≠ none → b < w'.heap.size := fun b hb => absH_lt z.heap (fun e => hb (hun_none (hun_none e).1).1)
 have hRl : ∀ b, hun (oneC c (.chan 0 #[] false s r tm)) R b ≠ none → b < w'.heap.size := fun b hb => absH_lt z.heap (fun e => hb (hun_none (hun_none e).1).2)
 refine ⟨_, _, e, ⟨by simp [hlt], ?_, st.k0, ?_, d3, dR, st.wR, dO, st.wC, st.rC, d6, st.wF, st.rF, st.cF, ?_, ?_, st.env.trans z.env⟩⟩
 ·rw [Array.getElem?_setIfInBounds_ne (fun e => st.k0 e.symm), Array.getElem?_map, st.gk]
  simp only [Option.map_some]
  rw [woken_stay hb]
 ·rw [z.heap, hun_assoc, hun_assoc, hun_swap st.wR.symm, hun_swap st.wC.symm, hun_swap (b := R) st.rC.symm]
 ·exact st.crew.app _ (fun op hop => by rw [g_ofEvents op hop]; exact ⟨.inl rfl, hlt⟩) (by simp) (crew_keep st.crew (.inl rfl) _ _ _)
 ·refine (st.duo.grow z.size (W' := fun b => hw b ≠ none) (fun _ _ => Iff.rfl)).app0 st.k0 g_ofEvents ?_ ?_ ?_
  ·intro op hop
   obtain ⟨e, he, rfl⟩ := Go.Conc.mem_ofEvents hop
   exact ev_mark (hev e he)
  ·intro op hop
   obtain ⟨e, he, rfl⟩ := Go.Conc.mem_ofEvents hop
   exact ((hev e he).low hX hRl).2.2.2
  ·intro op hop x hx y hy
   obtain ⟨e, he, rfl⟩ := Go.Conc.mem_ofEvents hop
   rcases ev_touch (hev e he) hx hy with h1 | ⟨h1, h2⟩
   ·refine ⟨fun h2 => h2 ((d3 y).resolve_left h1), fun h2 => ?_⟩
    rcases h2 with h2 | h2
    ·exact absurd ((dR y).resolve_left h1) h2
    ·subst h2
     have := (dO y).resolve_left h1
     rw [wZ] at this
     cases this
   ·refine ⟨fun h3 => h1 ?_, fun _ => h2⟩
    have hyc : y ≠ c := by
     rintro rfl
     have := (st.wC y).resolve_left h3
     rw [wZ] at this
     cases this
    have := (st.wR y).resolve_left h3
    simp [hun, oneC_ne hyc, this]
theorem St.stepk {b' : Goroutine} {w' : World} {hw' : AH} {es : Array Event} (st : St P R F c k tm w0 gs w t q hm hw s r a b) (sl : Option (Nat × Nat)) (hgo : stepG P false b w = .go b' w' es)
  (z : RunZ (hun (oneC c (.chan 0 #[] false s r tm)) R) (hun hm F) hw w hw' w')
  (hev : ∀ e ∈ es, EvOK hw' (hun (oneC c (.chan 0 #[] false s r tm)) R) e) (ha : a.again w' = a) :
  ∃ gs' ops, runT P (crowd gs w sl) k = (.next (crowd gs' w' sl), ops) ∧ St P R F c k tm w0 gs' w' (t ++ ops) q hm hw' s r a b' := by
 have hk0 : (k == 0) = false := by simp [st.k0]
 have e := runT_crowd_go (P := P) (sl := sl) (i := k) st.gk (by rw [hk0]; exact hgo)
 have hlt := lt_of_get st.g0
 have hltk := lt_of_get st.gk
 obtain ⟨dO, dR⟩ := z.disj.of_hun_right
 obtain ⟨d1, d2⟩ := z.disjF.of_hun
 obtain ⟨d3, d6⟩ := d1.of_hun_right
 have hX : ∀ b, hw' b ≠ none → b < w'.heap.size := fun b hb => absH_lt z.heap (fun e => hb (hun_none (hun_none e).1).1)
 have hRl : ∀ b, hun (oneC c (.chan 0 #[] false s r tm)) R b ≠ none → b < w'.heap.size := fun b hb => absH_lt z.heap (fun e => hb (hun_none (hun_none e).1).2)
 refine ⟨_, _, e, ⟨?_, by simp [hltk], st.k0, ?_, d3.symm, st.mR, dR, st.mC, dO, st.rC, st.mF, d6, st.rF, st.cF, ?_, ?_, st.env.trans z.env⟩⟩
 ·rw [Array.getElem?_setIfInBounds_ne st.k0, Array.getElem?_map, st.g0]
  simp only [Option.map_some]
  rw [woken_stay ha]
 ·rw [z.heap, hun_assoc, hun_assoc, hun_swap st.mR.symm, hun_swap st.mC.symm, hun_swap d3, hun_swap (b := R) st.rC.symm]
 ·exact st.crew.app _ (fun op hop => by rw [g_ofEvents op hop]; exact ⟨.inr rfl, hltk⟩) (by simp) (crew_keep st.crew (.inr rfl) _ _ _)
 ·refine (st.duo.grow z.size (W' := fun b => hw' b ≠ none) (fun x hx => ⟨fun h => (z.new x h).resolve_right (by omega), fun h => z.grow x h⟩)).appk g_ofEvents ?_ ?_ ?_
  ·intro op hop
   obtain ⟨e, he, rfl⟩ := Go.Conc.mem_ofEvents hop
   exact ev_mark (hev e he)
  ·intro op hop
   obtain ⟨e, he, rfl⟩ := Go.Conc.mem_ofEvents hop
   exact ((hev e he).low hX hRl).2.2.2
  ·intro op hop x hx y hy
   obtain ⟨e, he, rfl⟩ := Go.Conc.mem_ofEvents hop
   rcases ev_touch (hev e he) hx hy with h1 | ⟨h1, h2⟩
   ·exact .inl h1
   ·refine .inr ⟨?_, h2⟩
    by_cases hyc : y = c
    ·exact .inr hyc
    ·refine .inl fun e => h1 ?_
     simp [hun, oneC_ne hyc, e]
def zw (R : AH) (c : Nat) (vs : List Value) : AH := hun (oneC c (gch vs)) (zf R)
theorem lent_g {R : AH} {c : Nat} {g o : Obj} (hR : OnlyRows R) (hRc : R c = none) (h1 : ¬ Obj.noCells g) (h2 : ∀ x e f, g ≠ .cells x e f) (h3 : ∃ k bf cl s r t, o = .chan k bf cl s r t) : Lent (hun (oneC c g) (zf R)) (hun (oneC c o) R) := by
 refine ⟨fun b => ?_, fun b o' h => ?_⟩
 ·by_cases hb : b = c
  ·subst hb; simp [hun, wZ]
  ·simp [hun, oneC_ne hb, zf_none]
 ·by_cases hb : b = c
  ·subst hb
   have e : hun (oneC b g) (zf R) b = some g := by simp [hun, wZ]
   rw [e] at h
   cases h
   obtain ⟨k, bf, cl, s, r, t, rfl⟩ := h3
   exact .inr ⟨h1, h2, k, bf, cl, s, r, t, by simp [hun, wZ]⟩
  ·have e : hun (oneC c g) (zf R) b = zf R b := by simp [hun, oneC_ne hb]
   rw [e] at h
   have e2 : hun (oneC c o) R b = R b := by simp [hun, oneC_ne hb]
   rw [e2]
   exact (lent_zf hR).some b o' h
theorem lent_zw (hR : OnlyRows R) (hRc : R c = none) (vs : List Value) {cl : Bool} (s r : Nat) : Lent (zw R c vs) (hun (oneC c (.chan 0 #[] cl s r tm)) R) :=
 lent_g hR hRc (fun h => h) (fun _ _ _ h => nomatch h) ⟨_, _, _, _, _, _, rfl⟩
def zx (R : AH) (c : Nat) : AH := hun (oneC c gone) (zf R)
theorem lent_zx (hR : OnlyRows R) (hRc : R c = none) {cl : Bool} (s r : Nat) : Lent (zx R c) (hun (oneC c (.chan 0 #[] cl s r tm)) R) :=
 lent_g hR hRc (fun h => h) (fun _ _ _ h => nomatch h) ⟨_, _, _, _, _, _, rfl⟩
theorem St.run0 {α : Type} {x : Sem α} {K : α → AH → Prop} {E : Value → AH → Prop} (hR : OnlyRows R) (vs : List Value) (st : St P R F c k tm w0 gs w t q hm hw s r a b) (hd : dem P x (hun hm (zw R c vs)) K E) :
  AfterZ P (zw R c vs) (hun (oneC c (.chan 0 #[] false s r tm)) R) (hun hw F) hm x w K E := by
 have hRc : R c = none := (st.rC c).resolve_right (by rw [wZ]; simp)
 have cF : Disj (oneC c (.chan 0 #[] false s r tm)) F := by
  intro b
  by_cases hb : b = c
  ·subst hb; exact .inr st.cF
  ·exact .inl (oneC_ne hb)
 refine dem_runZ (lent_zw hR hRc vs s r) hm w ?_ (st.mC.hun st.mR) (Disj.hun_left (st.mw.hun st.mF) (Disj.hun_left (st.wC.symm.hun cF) (st.wR.symm.hun st.rF))) hd
 rw [st.heap, hun_assoc, hun_assoc, hun_swap st.wR, hun_swap st.wC, hun_swap st.rC]
theorem St.runk {α : Type} {x : Sem α} {K : α → AH → Prop} {E : Value → AH → Prop} (hR : OnlyRows R) (vs : List Value) (st : St P R F c k tm w0 gs w t q hm hw s r a b) (hd : dem P x (hun hw (zw R c vs)) K E) :
  AfterZ P (zw R c vs) (hun (oneC c (.chan 0 #[] false s r tm)) R) (hun hm F) hw x w K E := by
 have hRc : R c = none := (st.rC c).resolve_right (by rw [wZ]; simp)
 have cF : Disj (oneC c (.chan 0 #[] false s r tm)) F := by
  intro b
  by_cases hb : b = c
  ·subst hb; exact .inr st.cF
  ·exact .inl (oneC_ne hb)
 refine dem_runZ (lent_zw hR hRc vs s r) hw w ?_ (st.wC.hun st.wR) (Disj.hun_left (st.mw.symm.hun st.wF) (Disj.hun_left (st.mC.symm.hun cF) (st.mR.symm.hun st.rF))) hd
 rw [st.heap, hun_assoc, hun_assoc, hun_swap st.mw, hun_swap st.mR, hun_swap st.mC, hun_swap st.rC]
end
end Go.HL
namespace Go.HL
open Go Go.Conc Go.ConcN
abbrev RM (P : Program) (c : Nat) := @Rch ⟨false, none, some c⟩ P
abbrev RW (P : Program) (c : Nat) := @Rch ⟨false, some c, none⟩ P
def QW (R : AH) (c : Nat) (cw : List Frame) (WorkEnd : Frame → AH → Prop) : Frame → List Frame → AH → Prop := fun fr cs h => cs = cw ∧ ∃ hw, h = hun hw (zw R c []) ∧ hw c = none ∧ Disj hw R ∧ WorkEnd fr hw
def MW (P : Program) (R : AH) (c : Nat) (Q : Frame → List Frame → AH → Prop) (z : Value) (vs : List Value) (fr : Frame) (cs : List Frame) (hm : AH) : Prop :=
 (∀ w, stepG P true (G fr cs) w = .comm (G fr cs) #[rcase c z] true (.recv true) w) ∧
  match vs with
  | v :: us => RM P c Q (fr.finish (.tuple #[v, .bool true])) cs (hun hm (zw R c us))
  | [] => RM P c Q (fr.finish (.tuple #[z, .bool false])) cs (hun hm (zx R c))
structure Cert (P : Program) (R : AH) (c : Nat) (tm : Bool) (cw : List Frame) (Q : Frame → List Frame → AH → Prop) (WorkEnd : Frame → AH → Prop) : Prop where
 rows : OnlyRows R
 seen : ∀ fr cs h, Q fr cs h → h c = some gone
 close : ∀ fr hw, WorkEnd fr hw → mayWake P (G fr cw) = true ∧ ∃ (g2 : Goroutine) (es : Array Event) (n : Nat), (∀ (w : World) s r, w.heap[c]? = some (.chan 0 #[] false s r tm) → stepG P false (G fr cw) w = .go g2 (w.shut c s r tm) (es.push ⟨.obj c, true, true⟩)) ∧
  (∀ e ∈ es, e = ⟨.obj c, false, true⟩) ∧ QuitsD P n 0 g2
theorem hun_inj {X Y R : AH} (e : hun X (zf R) = hun Y (zf R)) (d : Disj X R) (d2 : Disj Y R) : X = Y := by
 funext b
 have e1 := congrFun e b
 simp only [hun] at e1
 cases hx : X b with
 | some o =>
  have hr : R b = none := d.right hx
  rw [hx] at e1
  simp only [zf, hr, Option.map_none] at e1
  cases hy : Y b with
  | some o' => rw [hy] at e1; exact e1
  | none => rw [hy] at e1; cases e1
 | none =>
  cases hy : Y b with
  | none => rfl
  | some o' =>
   have hr : R b = none := d2.right hy
   rw [hx, hy] at e1
   simp only [zf, hr, Option.map_none] at e1
   cases e1
theorem zw_c {X R : AH} {c : Nat} {vs : List Value} (h : X c = none) : hun X (zw R c vs) c = some (gch vs) := by simp [hun, h, zw, wZ]
theorem gch_inj {vs us : List Value} (e : gch vs = gch us) : vs = us := by
 unfold gch at e
 injection e with _ e1
 simpa using e1
theorem hunc_inj {X Y R : AH} {c : Nat} {vs us : List Value} (e : hun X (zw R c vs) = hun Y (zw R c us)) (h1 : X c = none) (h2 : Y c = none) (d : Disj X R) (d2 : Disj Y R) : X = Y ∧ vs = us := by
 have e0 := congrFun e c
 rw [zw_c h1, zw_c h2] at e0
 refine ⟨hun_inj ?_ d d2, gch_inj (Option.some.inj e0)⟩
 funext b
 have e1 := congrFun e b
 by_cases hb : b = c
 ·subst hb
  simp [hun, h1, h2]
 ·have hz : ∀ us : List Value, zw R c us b = zf R b := fun us => by simp [zw, hun, oneC_ne hb]
  simp only [hun, hz] at e1 ⊢
  exact e1
theorem zx_c {X R : AH} {c : Nat} (h : X c = none) : hun X (zx R c) c = some gone := by simp [hun, h, zx, wZ]
theorem zw_last {X R : AH} {c : Nat} {vs : List Value} (h : X c = none) : hupd (hun X (zw R c vs)) c gone = hun X (zx R c) := by
 funext b
 by_cases hb : b = c
 ·subst hb
  simp [hupd, hun, h, zx, wZ]
 ·simp [hupd, hun, hb, zw, zx, oneC_ne hb]
theorem gch_gone {vs : List Value} : gch vs ≠ gone := by unfold gch gone; intro e; injection e with e1; cases e1
theorem zw_next {X R : AH} {c : Nat} {v : Value} {vs : List Value} (h : X c = none) : hupd (hun X (zw R c (v :: vs))) c (gch vs) = hun X (zw R c vs) := by
 funext b
 by_cases hb : b = c
 ·subst hb
  simp [hupd, hun, h, zw, wZ]
 ·simp [hupd, hun, hb, zw, oneC_ne hb]
def Firm (c : Nat) (tm : Bool) (g : Goroutine) : Prop := awake g ∧ ∀ (w : World) s r, w.heap[c]? = some (.chan 0 #[] false s r tm) → g.again w = g
theorem firm_run {c : Nat} {tm : Bool} {g : Goroutine} (h : g.status = .running) : Firm c tm g := ⟨awake_of (.inl h), fun _ _ _ _ => again_running _ (.inl h)⟩
theorem firm_parked {c : Nat} {tm : Bool} {g : Goroutine} {x : CommCase} {sh : CommShape} (hk : x.chan = .chan (some c)) : Firm c tm (parked g #[x] sh) := ⟨awake_of (.inr (.inl rfl)), fun _ _ _ hc => again_parked_open hk hc⟩
section
variable {P : Program} {R F : AH} {c k : Nat} {tm : Bool} {w0 : World} {gs : Array Goroutine} {w : World} {t : Trace} {q : Nat → Nat} {hm hw : AH} {s r : Nat} {a b : Goroutine} {cw : List Frame}
theorem one_at {X R : AH} {c : Nat} {o : Obj} (d : Disj X (hun (oneC c o) R)) : X c = none := by
 rcases d c with h | h
 ·exact h
 ·simp [hun, wZ] at h
theorem St.stay (st : St P R F c k tm w0 gs w t q hm hw s r a b) {g : Goroutine} (h : Firm c tm g) : Stay w g := ⟨h.1, fun d => h.2 (w.at d) s r st.open⟩
theorem St.sem0 {Goal : Machine → Trace → Prop} {fr : Frame} {cs : List Frame} {β : Type} {x : Sem β} {ok : β → Prop} {okp : Value → Prop} {nxt : β → Frame × List Frame} {pan : Value → Frame × List Frame} {X : β → AH → Prop} {Y : Value → AH → Prop} {vs : List Value}
  (hR : OnlyRows R) (hs : StepBy P fr cs x ok okp nxt pan) (hd : dem P x (hun hm (zw R c vs)) X Y) (hok : ∀ b h', X b h' → ok b) (hokp : ∀ v h', Y v h' → okp v) (fb : Firm c tm b)
  (hx : ∀ v hm' gs w sl t q, X v (hun hm' (zw R c vs)) → St P R F c k tm w0 gs w t q hm' hw s r (G (nxt v).1 (nxt v).2) b → Must P Goal (crowd gs w sl) t)
  (hy : ∀ v hm' gs w sl t q, Y v (hun hm' (zw R c vs)) → St P R F c k tm w0 gs w t q hm' hw s r (G (pan v).1 (pan v).2) b → Must P Goal (crowd gs w sl) t)
  (gs : Array Goroutine) (w : World) (sl : Option (Nat × Nat)) (t : Trace) (q : Nat → Nat) (st : St P R F c k tm w0 gs w t q hm hw s r (G fr cs) b) : ∃ m ops, runT P (crowd gs w sl) 0 = (.next m, ops) ∧ Must P Goal m (t ++ ops) := by
 obtain ⟨hm', w', z, hev, ho⟩ := st.run0 hR vs hd
 have hop : w'.heap[c]? = some (.chan 0 #[] false s r tm) := by
  have e0 := one_at (o := .chan 0 #[] false s r tm) z.disj
  show absH w'.heap c = _
  rw [z.heap]
  simp [hun, e0, wZ]
 have ha : b.again w' = b := fb.2 w' s r hop
 rcases ho with ⟨v, e, kk⟩ | ⟨v, e, kk⟩
 ·obtain ⟨es, hgo, hes⟩ := tells_eq.1 ((hs true w).1 v w' e (hok _ _ kk))
  obtain ⟨gs', ops, e1, st'⟩ := st.step0 sl hgo z (fun e he => (hev #[] e (hes e he)).resolve_left (by simp)) ha
  exact ⟨_, ops, e1, hx v hm' gs' w' sl _ q kk st'⟩
 ·obtain ⟨es, hgo, hes⟩ := tells_eq.1 ((hs true w).2 v w' e (hokp _ _ kk))
  obtain ⟨gs', ops, e1, st'⟩ := st.step0 sl hgo z (fun e he => (hev #[] e (hes e he)).resolve_left (by simp)) ha
  exact ⟨_, ops, e1, hy v hm' gs' w' sl _ q kk st'⟩
theorem St.semk {Goal : Machine → Trace → Prop} {fr : Frame} {cs : List Frame} {β : Type} {x : Sem β} {ok : β → Prop} {okp : Value → Prop} {nxt : β → Frame × List Frame} {pan : Value → Frame × List Frame} {X : β → AH → Prop} {Y : Value → AH → Prop} {vs : List Value}
  (hR : OnlyRows R) (hs : StepBy P fr cs x ok okp nxt pan) (hd : dem P x (hun hw (zw R c vs)) X Y) (hok : ∀ b h', X b h' → ok b) (hokp : ∀ v h', Y v h' → okp v) (fa : Firm c tm a)
  (hx : ∀ v hw' gs w sl t q, X v (hun hw' (zw R c vs)) → St P R F c k tm w0 gs w t q hm hw' s r a (G (nxt v).1 (nxt v).2) → Must P Goal (crowd gs w sl) t)
  (hy : ∀ v hw' gs w sl t q, Y v (hun hw' (zw R c vs)) → St P R F c k tm w0 gs w t q hm hw' s r a (G (pan v).1 (pan v).2) → Must P Goal (crowd gs w sl) t)
  (gs : Array Goroutine) (w : World) (sl : Option (Nat × Nat)) (t : Trace) (q : Nat → Nat) (st : St P R F c k tm w0 gs w t q hm hw s r a (G fr cs)) : ∃ m ops, runT P (crowd gs w sl) k = (.next m, ops) ∧ Must P Goal m (t ++ ops) := by
 obtain ⟨hw', w', z, hev, ho⟩ := st.runk hR vs hd
 have hop : w'.heap[c]? = some (.chan 0 #[] false s r tm) := by
  have e0 := one_at (o := .chan 0 #[] false s r tm) z.disj
  show absH w'.heap c = _
  rw [z.heap]
  simp [hun, e0, wZ]
 have ha : a.again w' = a := fa.2 w' s r hop
 rcases ho with ⟨v, e, kk⟩ | ⟨v, e, kk⟩
 ·obtain ⟨es, hgo, hes⟩ := tells_eq.1 ((hs false w).1 v w' e (hok _ _ kk))
  obtain ⟨gs', ops, e1, st'⟩ := st.stepk sl hgo z (fun e he => (hev #[] e (hes e he)).resolve_left (by simp)) ha
  exact ⟨_, ops, e1, hx v hw' gs' w' sl _ q kk st'⟩
 ·obtain ⟨es, hgo, hes⟩ := tells_eq.1 ((hs false w).2 v w' e (hokp _ _ kk))
  obtain ⟨gs', ops, e1, st'⟩ := st.stepk sl hgo z (fun e he => (hev #[] e (hes e he)).resolve_left (by simp)) ha
  exact ⟨_, ops, e1, hy v hw' gs' w' sl _ q kk st'⟩
theorem St.leaver (st : St P R F c k tm w0 gs w t q hm hw s r a b) {j : Nat} {g : Goroutine} (hj : j ≠ 0) (hk : j ≠ k) (hg : gs[j]? = some g) : g.status ≠ .blocked := by
 have := (st.crew.old j g (by simp [hj, hk]) hg).status
 rcases this with h | h <;> rw [h] <;> simp
theorem St.relay {gs' : Array Goroutine} {w' : World} {u : Trace} {a' b' : Goroutine} {s' r' : Nat} (st : St P R F c k tm w0 gs w t q hm hw s r a b) (hs : gs'.size = gs.size) (h0 : gs'[0]? = some a') (hk : gs'[k]? = some b')
  (hg : ∀ j x, ¬ (j = 0 ∨ j = k) → gs[j]? = some x → gs'[j]? = some x) (he : SameEnv w w') (hh : absH w'.heap = hupd (absH w.heap) c (.chan 0 #[] false s' r' tm)) (hz : w'.heap.size = w.heap.size)
  (hu : ∀ op ∈ u, (op.g = 0 ∨ op.g = k) ∧ op.act.touch? = none ∧ (op.act ≠ .mark .disable ∧ op.act ≠ .mark .enable) ∧ op.act.low w.heap.size) : St P R F c k tm w0 gs' w' (t ++ u) q hm hw s' r' a' b' := by
 have e0 := wZ c (.chan 0 #[] false s r tm)
 have hlt := lt_of_get st.g0
 have hltk := lt_of_get st.gk
 have e1 : hm c = none := (st.mC c).resolve_right (by rw [e0]; simp)
 have e2 : hw c = none := (st.wC c).resolve_right (by rw [e0]; simp)
 have e3 : R c = none := (st.rC c).resolve_right (by rw [e0]; simp)
 refine ⟨h0, hk, st.k0, ?_, st.mw, st.mR, st.wR, disj_oneC st.mC, disj_oneC st.wC, disj_oneC st.rC, st.mF, st.wF, st.rF, st.cF, ?_, ?_, st.env.trans he⟩
 ·rw [hh, st.heap]
  funext x
  by_cases hx : x = c
  ·subst hx
   simp [hupd, hun, e1, e2, e3, wZ]
  ·simp [hupd, hun, hx, oneC_ne hx]
 ·refine st.crew.app _ (fun op hop => ⟨(hu op hop).1, ?_⟩) hs hg
  rcases (hu op hop).1 with h | h <;> rw [h]
  ·exact hlt
  ·exact hltk
 ·rw [hz]
  exact st.duo.mute (fun op hop => (hu op hop).2.2.2) (fun op hop => (hu op hop).2.1) fun op hop => .inr (hu op hop).2.2.1
theorem hupd_self {H : AH} {b : Nat} {o : Obj} (h : H b = some o) : hupd H b o = H := by
 funext x
 by_cases hx : x = b
 ·subst hx; simp [hupd, h]
 ·simp [hupd, hx]
theorem ofEvents_nil {g : Nat} {fn : FuncId} {pos : String} : MemOp.ofEvents g fn pos #[] = #[] := rfl
theorem St.recvWaits {z : Value} {fr : Frame} {cs0 : List Frame} (hst : ∀ w, stepG P true (G fr cs0) w = .comm (G fr cs0) #[rcase c z] true (.recv true) w) (hb : b.status = .running) (sl : Option (Nat × Nat))
  (st : St P R F c k tm w0 gs w t q hm hw s r (G fr cs0) b) : ∃ gs', runT P (crowd gs w sl) 0 = (.next (crowd gs' w sl), #[]) ∧ St P R F c k tm w0 gs' w (t ++ #[]) q hm hw s r (parked (G fr cs0) #[rcase c z] (.recv true)) b := by
 have hlt := lt_of_get st.g0
 have np : partners (gs.setIfInBounds 0 ph) c true = [] := by
  refine partners_nil fun j g hj => ?_
  rcases getElem?_stand gs 0 j g hj with ⟨_, rfl⟩ | ⟨hj0, hj1⟩
  ·rfl
  ·refine offersAt_of_not_blocked ?_ _ _
   by_cases hjk : j = k
   ·subst hjk; rw [st.gk] at hj1; cases hj1; rw [hb]; simp
   ·exact st.leaver hj0 hjk hj1
 have nw : ∀ cc ∈ #[rcase c z], NoWays w (gs.setIfInBounds 0 ph) cc := by
  intro cc hcc
  simp only [List.mem_toArray, List.mem_singleton] at hcc
  subst hcc
  refine ⟨made_recv z st.open, ?_⟩
  simp [ways, rcase, st.open, np]
 refine ⟨_, crowd_waits st.g0 (show stepG P (0 == 0) (G fr cs0) w = _ from hst w) nw, st.relay (by simp) (by simp [hlt]) (by rw [Array.getElem?_setIfInBounds_ne (fun e => st.k0 e.symm)]; exact st.gk) (fun j x hj hx => by rw [Array.getElem?_setIfInBounds_ne (fun e => hj (.inl e.symm))]; exact hx) (.refl w) (hupd_self st.chan).symm rfl (by simp)⟩
theorem St.sendWaits {v z : Value} {fr : Frame} {cw : List Frame} (hst : ∀ w, stepG P false (G fr cw) w = .comm (G fr cw) #[scase c v z] true .send w) (ha : a.status = .running) (sl : Option (Nat × Nat))
  (st : St P R F c k tm w0 gs w t q hm hw s r a (G fr cw)) : ∃ gs', runT P (crowd gs w sl) k = (.next (crowd gs' w sl), #[]) ∧ St P R F c k tm w0 gs' w (t ++ #[]) q hm hw s r a (parked (G fr cw) #[scase c v z] .send) := by
 have hk0 : (k == 0) = false := by simp [st.k0]
 have hltk := lt_of_get st.gk
 have np : partners (gs.setIfInBounds k ph) c false = [] := by
  refine partners_nil fun j g hj => ?_
  rcases getElem?_stand gs k j g hj with ⟨_, rfl⟩ | ⟨hjk, hj1⟩
  ·rfl
  ·refine offersAt_of_not_blocked ?_ _ _
   by_cases hj0 : j = 0
   ·subst hj0; rw [st.g0] at hj1; cases hj1; rw [ha]; simp
   ·exact st.leaver hj0 hjk hj1
 have nw : ∀ cc ∈ #[scase c v z], NoWays w (gs.setIfInBounds k ph) cc := by
  intro cc hcc
  simp only [List.mem_toArray, List.mem_singleton] at hcc
  subst hcc
  refine ⟨made_send v z st.open, ?_⟩
  simp [ways, scase, st.open, np]
 refine ⟨_, crowd_waits st.gk (show stepG P (k == 0) (G fr cw) w = _ by rw [hk0]; exact hst w) nw, st.relay (by simp) (by rw [Array.getElem?_setIfInBounds_ne st.k0]; exact st.g0) (by simp [hltk]) (fun j x hj hx => by rw [Array.getElem?_setIfInBounds_ne (fun e => hj (.inr e.symm))]; exact hx) (.refl w) (hupd_self st.chan).symm rfl (by simp)⟩
theorem St.sendMeets {v z z0 : Value} {fr frm : Frame} {cs0 : List Frame} (hst : ∀ w, stepG P false (G fr cw) w = .comm (G fr cw) #[scase c v z] true .send w) (sl : Option (Nat × Nat))
  (st : St P R F c k tm w0 gs w t q hm hw s r (parked (G frm cs0) #[rcase c z0] (.recv true)) (G fr cw)) :
  ∃ gs' w' ops, runT P (crowd gs w sl) k = (.next (crowd gs' w' sl), ops) ∧ St P R F c k tm w0 gs' w' (t ++ ops) q hm hw (s + 1) (r + 1) (G (frm.finish (.tuple #[v, .bool true])) cs0) (G (fr.finish undef) cw) := by
 have hk0 : (k == 0) = false := by simp [st.k0]
 have hltk := lt_of_get st.gk
 have hlt := lt_of_get st.g0
 have np : partners (gs.setIfInBounds k ph) c false = [(0, 0)] := by
  have h0 : (gs.setIfInBounds k ph)[0]? = some (parked (G frm cs0) #[rcase c z0] (.recv true)) := by rw [Array.getElem?_setIfInBounds_ne st.k0]; exact st.g0
  rw [partners_one h0 fun j x hj hx => ?_]
  ·rw [offersAt_parked_recv]; simp
  ·rcases getElem?_stand gs k j x hx with ⟨_, rfl⟩ | ⟨hjk, hj1⟩
   ·rfl
   ·exact offersAt_of_not_blocked (st.leaver hj hjk hj1) _ _
 have e := crowd_send_meets (sl := sl) st.gk (show stepG P (k == 0) (G fr cw) w = _ by rw [hk0]; exact hst w) st.open (fun e => st.k0 e.symm) st.g0 np
 refine ⟨_, _, _, e, st.relay (by simp) ?_ ?_ ?_ ⟨rfl, rfl, rfl⟩ ?_ (by simp [World.setChan]) ?_⟩
 ·rw [Array.getElem?_setIfInBounds_ne st.k0, finishComm_recv]
  simp only [hlt, Array.getElem?_setIfInBounds_self_of_lt]
  rfl
 ·rw [finishComm_send]
  simp [hltk]
  rfl
 ·intro j x hj hx
  rw [Array.getElem?_setIfInBounds_ne (fun e => hj (.inr e.symm)), Array.getElem?_setIfInBounds_ne (fun e => hj (.inl e.symm))]
  exact hx
 ·exact absH_set _ _ _ _ st.chan
 ·have := st.clt
  intro op hop
  simp only [ofEvents_nil, Array.empty_append, List.mem_toArray, List.mem_cons, List.not_mem_nil, or_false] at hop
  rcases hop with rfl | rfl | rfl | rfl <;> simp [MemAct.touch?, MemAct.low, this]
theorem St.recvMeets {v z z0 : Value} {fr frm : Frame} {cs0 : List Frame} (hst : ∀ w, stepG P true (G frm cs0) w = .comm (G frm cs0) #[rcase c z0] true (.recv true) w) (sl : Option (Nat × Nat))
  (st : St P R F c k tm w0 gs w t q hm hw s r (G frm cs0) (parked (G fr cw) #[scase c v z] .send)) :
  ∃ gs' w' ops, runT P (crowd gs w sl) 0 = (.next (crowd gs' w' sl), ops) ∧ St P R F c k tm w0 gs' w' (t ++ ops) q hm hw (s + 1) (r + 1) (G (frm.finish (.tuple #[v, .bool true])) cs0) (G (fr.finish undef) cw) := by
 have hltk := lt_of_get st.gk
 have hlt := lt_of_get st.g0
 have np : partners (gs.setIfInBounds 0 ph) c true = [(k, 0)] := by
  have h0 : (gs.setIfInBounds 0 ph)[k]? = some (parked (G fr cw) #[scase c v z] .send) := by rw [Array.getElem?_setIfInBounds_ne (fun e => st.k0 e.symm)]; exact st.gk
  rw [partners_one h0 fun j x hj hx => ?_]
  ·rw [offersAt_parked_send]; simp
  ·rcases getElem?_stand gs 0 j x hx with ⟨_, rfl⟩ | ⟨hjk, hj1⟩
   ·rfl
   ·exact offersAt_of_not_blocked (st.leaver hjk hj hj1) _ _
 have e := crowd_recv_meets (sl := sl) st.g0 (show stepG P (0 == 0) (G frm cs0) w = _ from hst w) st.open st.k0 st.gk np
 refine ⟨_, _, _, e, st.relay (by simp) ?_ ?_ ?_ ⟨rfl, rfl, rfl⟩ ?_ (by simp [World.setChan]) ?_⟩
 ·rw [finishComm_recv]
  simp [hlt]
  rfl
 ·rw [Array.getElem?_setIfInBounds_ne (fun e => st.k0 e.symm), finishComm_send]
  simp only [hltk, Array.getElem?_setIfInBounds_self_of_lt]
  rfl
 ·intro j x hj hx
  rw [Array.getElem?_setIfInBounds_ne (fun e => hj (.inl e.symm)), Array.getElem?_setIfInBounds_ne (fun e => hj (.inr e.symm))]
  exact hx
 ·exact absH_set _ _ _ _ st.chan
 ·have := st.clt
  intro op hop
  simp only [ofEvents_nil, Array.empty_append, List.mem_toArray, List.mem_cons, List.not_mem_nil, or_false] at hop
  rcases hop with rfl | rfl | rfl | rfl <;> simp [MemAct.touch?, MemAct.low, this]
end
end Go.HL
namespace Go.HL
open Go Go.Conc Go.ConcN
structure Sh (P : Program) (R F : AH) (c : Nat) (tm : Bool) (w0 : World) (gs : Array Goroutine) (w : World) (t : Trace) (q : Nat → Nat) (hm hw : AH) (s r : Nat) (a : Goroutine) (pc : Nat) : Prop where
 g0 : gs[0]? = some a
 heap : absH w.heap = hun hm (hun hw (hun R (hun (oneC c (.chan 0 #[] true s r tm)) F)))
 mw : Disj hm hw
 mR : Disj hm R
 wR : Disj hw R
 mC : Disj hm (oneC c (.chan 0 #[] true s r tm))
 wC : Disj hw (oneC c (.chan 0 #[] true s r tm))
 rC : Disj R (oneC c (.chan 0 #[] true s r tm))
 mF : Disj hm F
 wF : Disj hw F
 rF : Disj R F
 cF : F c = none
 crew : Crew P (· = 0) t gs q
 shut : Shut c w.heap.size (fun b => hw b ≠ none) (fun b => R b ≠ none ∨ b = c) pc t
 env : SameEnv w0 w
def Aim (P : Program) (F : AH) (w0 : World) (X : Frame → List Frame → AH → Prop) (m : Machine) (t : Trace) : Prop :=
 ∃ (gs' : Array Goroutine) (fr' : Frame) (cs' : List Frame) (h' : AH) (w' : World) (sl' : Option (Nat × Nat)) (q' : Nat → Nat),
  m = crowd gs' w' sl' ∧ gs'[0]? = some (G fr' cs') ∧ absH w'.heap = hun h' F ∧ Disj h' F ∧ Leavers P t gs' q' ∧ Past (fun _ => False) w'.heap.size t ∧ SameEnv w0 w' ∧ X fr' cs' h'
section
variable {P : Program} {R F : AH} {c k : Nat} {tm : Bool} {w0 : World} {cw : List Frame} {Q : Frame → List Frame → AH → Prop} {WorkEnd : Frame → AH → Prop} {X : Frame → List Frame → AH → Prop}
def Ends (R : AH) (c : Nat) (tm : Bool) (Q : Frame → List Frame → AH → Prop) (WorkEnd : Frame → AH → Prop) (X : Frame → List Frame → AH → Prop) : Prop :=
 ∀ fr cs hm fr' hw s r, Q fr cs (hun hm (zx R c)) → WorkEnd fr' hw → Disj hm hw → Disj hm R → Disj hw R → hm c = none → hw c = none → R c = none →
  X fr cs (hun hm (hun hw (hun R (oneC c (.chan 0 #[] true s r tm)))))
theorem Sh.pick {Goal : Machine → Trace → Prop} {gs : Array Goroutine} {w : World} {t : Trace} {q : Nat → Nat} {hm hw : AH} {s r pc : Nat} {a : Goroutine} (sh : Sh P R F c tm w0 gs w t q hm hw s r a pc) (sl : Option (Nat × Nat)) (hr : a.status = .running)
  (h0 : ∀ gs w sl t q, Sh P R F c tm w0 gs w t q hm hw s r a pc → ∃ m ops, runT P (crowd gs w sl) 0 = (.next m, ops) ∧ Must P Goal m (t ++ ops)) : Must P Goal (crowd gs w sl) t := by
 have rd := slip (P := P) (Sp := (· = 0)) (J := Shut c w.heap.size (fun b => hw b ≠ none) (fun b => R b ≠ none ∨ b = c) pc) rfl
  (fun t i fn pos es hi hj hme => hj.mute (fun op hop => by obtain ⟨e, he, rfl⟩ := Go.Conc.mem_ofEvents hop; exact low_mute (hme e he) _) (fun op hop => by obtain ⟨e, he, rfl⟩ := Go.Conc.mem_ofEvents hop; exact touch_mute (hme e he))
   (fun op hop => by rw [g_ofEvents op hop]; exact hi)) _ gs w sl t q (Nat.le_refl _) sh.crew
  (fun i g hi hg => by subst hi; rw [sh.g0] at hg; cases hg; exact stay_run hr) ⟨0, a, rfl, sh.g0, hr⟩ sh.shut
 refine rd.bind ?_
 rintro m t1 ⟨gs1, d1, sl1, q1, i, g, d1', sl1', rfl, hsz, hkeep, hC1, hD1, rfl, hg, hrun, hst⟩
 have sh1 : Sh P R F c tm w0 gs1 (w.at d1') t1 q1 hm hw s r a pc := ⟨by rw [hkeep 0 rfl]; exact sh.g0, sh.heap, sh.mw, sh.mR, sh.wR, sh.mC, sh.wC, sh.rC, sh.mF, sh.wF, sh.rF, sh.cF, hC1, hD1, sh.env.trans ⟨rfl, rfl, rfl⟩⟩
 obtain ⟨m, ops, e, k⟩ := h0 _ _ sl1' _ _ sh1
 exact .step (hst.trans e) k
theorem tail (C : Cert P R c tm cw Q WorkEnd) (hX : Ends R c tm Q WorkEnd X) {fr : Frame} {cs : List Frame} {h : AH} (rM : RM P c Q fr cs h) :
  ∀ {hw : AH} {fr' : Frame} {s r : Nat}, WorkEnd fr' hw → Disj hw R → hw c = none → R c = none → Disj hw F → Disj R F → F c = none →
   ∀ (hm : AH) gs w sl t q, h = hun hm (zx R c) → gs[0]? = some (G fr cs) → absH w.heap = hun hm (hun hw (hun R (hun (oneC c (.chan 0 #[] true s r tm)) F))) → Disj hm hw → Disj hm R → hm c = none → Disj hm F → Leavers P t gs q → Past (fun _ => False) w.heap.size t → SameEnv w0 w →
    Must P (Aim P F w0 X) (crowd gs w sl) t := by
 have oneD : ∀ {A : AH} {o : Obj}, A c = none → Disj A (oneC c o) := by
  intro A o hA b
  by_cases hb : b = c
  ·subst hb; exact .inl hA
  ·exact .inr (oneC_ne hb)
 induction rM with
 | far hl _ _ _ _ _ => cases hl
 | send hl _ _ _ _ => cases hl
 | recv hl hc _ _ _ =>
  intro hw fr' s r hW wR wc rc wF rF cF hm gs w sl t q e g0 hh mw mR mc mF hL hP env
  cases Option.some.inj hl
  rw [e, zx_c mc] at hc
  exact absurd (Option.some.inj hc).symm gch_gone
 | last hl hc _ _ _ =>
  intro hw fr' s r hW wR wc rc wF rF cF hm gs w sl t q e g0 hh mw mR mc mF hL hP env
  cases Option.some.inj hl
  rw [e, zx_c mc] at hc
  exact absurd (Option.some.inj hc).symm gch_gone
 | @done fr1 cs1 h1 qm =>
  intro hw fr' s r hW wR wc rc wF rF cF hm gs w sl t q e g0 hh mw mR mc mF hL hP env
  subst e
  refine .done ⟨gs, fr1, cs1, hun hm (hun hw (hun R (oneC c (.chan 0 #[] true s r tm)))), w, sl, q, rfl, g0, ?_, ?_, hL, hP, env, hX _ _ _ _ _ _ _ qm hW mw mR wR mc wc rc⟩
  ·rw [hh]; simp only [hun_assoc]
  ·exact Disj.hun_left mF (Disj.hun_left wF (Disj.hun_left rF ((oneD cF).symm)))
 | @sem fr1 cs1 h1 β x ok okp nxt pan X' Y' hs hd hok hokp _ _ ihx ihy =>
  intro hw fr' s r hW wR wc rc wF rF cF hm gs w sl t q e g0 hh mw mR mc mF hL hP env
  subst e
  have rd := slip (P := P) (Sp := (· = 0)) (J := Past (fun _ => False) w.heap.size) rfl (fun t i fn pos es hi hj hm => hj.mute hi hm) _ gs w sl t q (Nat.le_refl _) (Crew.of hL)
   (fun i g hi hg => by subst hi; rw [g0] at hg; cases hg; exact stay_run rfl) ⟨0, _, rfl, g0, rfl⟩ hP
  refine rd.bind ?_
  rintro m t1 ⟨gs1, d1, sl1, q1, i, g, d1', sl1', rfl, hsz, hkeep, hC1, hP1, hi, hg, hrun, hst⟩
  subst hi
  rw [hkeep 0 rfl, g0] at hg
  cases hg
  have hg0 : gs1[0]? = some (G fr1 cs1) := by rw [hkeep 0 rfl]; exact g0
  have hlt := lt_of_get hg0
  obtain ⟨hm', w', zz, hev, ho⟩ := dem_runZ (lent_zx (tm := tm) C.rows rc (cl := true) s r) (F := hun hw F) hm (w.at d1')
   (by show absH w.heap = _; rw [hh, hun_assoc, hun_assoc, hun_swap wR, hun_swap (oneD wc), hun_swap (oneD rc)]) ((oneD mc).hun mR)
   (Disj.hun_left (mw.hun mF) (Disj.hun_left ((oneD wc).symm.hun (oneD cF).symm) (wR.symm.hun rF))) hd
  obtain ⟨dO, dR⟩ := zz.disj.of_hun_right
  obtain ⟨da, _⟩ := zz.disjF.of_hun
  obtain ⟨d3, d6⟩ := da.of_hun_right
  have mc' : hm' c = none := (dO c).resolve_right (by rw [wZ]; simp)
  have hXl : ∀ b, hm' b ≠ none → b < w'.heap.size := fun b hb => absH_lt zz.heap (fun e => hb (hun_none (hun_none e).1).1)
  have hRl : ∀ b, hun (oneC c (.chan 0 #[] true s r tm)) R b ≠ none → b < w'.heap.size := fun b hb => absH_lt zz.heap (fun e => hb (hun_none (hun_none e).1).2)
  have go : ∀ (fr2 : Frame) (cs2 : List Frame), (stepG P true (G fr1 cs1) (w.at d1')).tells (x.events P (w.at d1') #[]) (G fr2 cs2) w' →
    (∀ gs sl t q, gs[0]? = some (G fr2 cs2) → Leavers P t gs q → Past (fun _ => False) w'.heap.size t → Must P (Aim P F w0 X) (crowd gs w' sl) t) → Must P (Aim P F w0 X) (crowd gs1 (w.at d1) sl1) t1 := by
   intro fr2 cs2 ht kk
   obtain ⟨es, hgo, hes⟩ := tells_eq.1 ht
   have hev' : ∀ e ∈ es, EvOK hm' (hun (oneC c (.chan 0 #[] true s r tm)) R) e := fun e he => (hev #[] e (hes e he)).resolve_left (by simp)
   have e := runT_crowd_go (P := P) (sl := sl1') (i := 0) hg0 (show stepG P (0 == 0) (G fr1 cs1) (w.at d1') = _ from hgo)
   refine .step (hst.trans e) (kk _ sl1' _ q1 (by simp [hlt]) ?_ ?_)
   ·exact (hC1.app _ (fun op hop => by rw [g_ofEvents op hop]; exact ⟨rfl, hlt⟩) (by simp) (crew_keep hC1 rfl _ _ _)).to
   ·exact (hP1.mono zz.size).own fun e he => (hev' e he).low hXl hRl
  have hh' : absH w'.heap = hun hm' (hun hw (hun R (hun (oneC c (.chan 0 #[] true s r tm)) F))) := by
   rw [zz.heap, hun_assoc, hun_assoc, hun_swap wR.symm, hun_swap (oneD wc).symm, hun_swap (b := R) (oneD rc).symm]
  have z0 : SameEnv w (w.at d1') := ⟨rfl, rfl, rfl⟩
  rcases ho with ⟨v, e, kk⟩ | ⟨v, e, kk⟩
  ·exact go _ _ ((hs true (w.at d1')).1 v w' e (hok _ _ kk)) fun gs sl t q a1 a2 a3 => ihx v _ kk hW wR wc rc wF rF cF hm' gs w' sl t q rfl a1 hh' d3 dR mc' d6 a2 a3 ((env.trans z0).trans zz.env)
  ·exact go _ _ ((hs true (w.at d1')).2 v w' e (hokp _ _ kk)) fun gs sl t q a1 a2 a3 => ihy v _ kk hW wR wc rc wF rF cF hm' gs w' sl t q rfl a1 hh' d3 dR mc' d6 a2 a3 ((env.trans z0).trans zz.env)
theorem Sh.recv (C : Cert P R c tm cw Q WorkEnd) (hX : Ends R c tm Q WorkEnd X) {z : Value} {gs : Array Goroutine} {w : World} {t : Trace} {q : Nat → Nat} {hm hw : AH} {s r pc : Nat} {a : Goroutine} {fr fr' : Frame} {cs0 : List Frame} (sl : Option (Nat × Nat)) (hr : a.status = .running)
  (hst : ∀ w, stepG P true a w = .comm (G fr cs0) #[rcase c z] true (.recv true) w) (hM : RM P c Q (fr.finish (.tuple #[z, .bool false])) cs0 (hun hm (zx R c))) (hW : WorkEnd fr' hw) (sh : Sh P R F c tm w0 gs w t q hm hw s r a pc) : Must P (Aim P F w0 X) (crowd gs w sl) t := by
 refine sh.pick sl hr fun gs w sl t q sh => ?_
 have hlt := lt_of_get sh.g0
 have e0 := wZ c (.chan 0 #[] true s r tm)
 have e1 : hm c = none := (sh.mC c).resolve_right (by rw [e0]; simp)
 have e2 : hw c = none := (sh.wC c).resolve_right (by rw [e0]; simp)
 have e3 : R c = none := (sh.rC c).resolve_right (by rw [e0]; simp)
 have hc : w.heap[c]? = some (.chan 0 #[] true s r tm) := by
  show absH w.heap c = _
  rw [sh.heap]
  simp [hun, e1, e2, e3, e0]
 have hcl : c < w.heap.size := absH_lt rfl (show absH w.heap c ≠ none by show w.heap[c]? ≠ none; rw [hc]; simp)
 have np : partners (gs.setIfInBounds 0 ph) c true = [] := by
  refine partners_nil fun j g hj => ?_
  rcases getElem?_stand gs 0 j g hj with ⟨_, rfl⟩ | ⟨hj0, hj1⟩
  ·rfl
  ·refine offersAt_of_not_blocked ?_ _ _
   have := (sh.crew.old j g hj0 hj1).status
   rcases this with h | h <;> rw [h] <;> simp
 have e := crowd_recv_closed (sl := sl) sh.g0 (show stepG P (0 == 0) a w = _ from hst w) hc np
 refine ⟨_, _, e, tail C hX hM hW sh.wR e2 e3 sh.wF sh.rF sh.cF hm _ w sl _ q rfl ?_ sh.heap sh.mw sh.mR e1 sh.mF ?_ ?_ sh.env⟩
 ·rw [finishComm_recv]
  simp [hlt]
  rfl
 ·refine (sh.crew.app _ (fun op hop => ?_) (by simp) (fun j x hj hx => by rw [Array.getElem?_setIfInBounds_ne (fun e => hj e.symm)]; exact hx)).to
  simp only [ofEvents_nil, Array.empty_append, List.mem_toArray, List.mem_cons, List.not_mem_nil, or_false] at hop
  subst hop
  exact ⟨rfl, hlt⟩
 ·rw [ofEvents_nil, Array.empty_append]
  exact sh.shut.past hcl rfl rfl
theorem Sh.must (C : Cert P R c tm cw Q WorkEnd) (hX : Ends R c tm Q WorkEnd X) {fr : Frame} {cs : List Frame} {h : AH} (rM : RM P c Q fr cs h) :
  ∀ {hw : AH} {fr' : Frame}, WorkEnd fr' hw → ∀ (hm : AH) gs w sl t q s r pc, h = hun hm (zw R c []) → Sh P R F c tm w0 gs w t q hm hw s r (G fr cs) pc → Must P (Aim P F w0 X) (crowd gs w sl) t := by
 have cc : ∀ {hm hw : AH} {gs : Array Goroutine} {w : World} {t : Trace} {q : Nat → Nat} {s r pc : Nat} {a : Goroutine}, Sh P R F c tm w0 gs w t q hm hw s r a pc → hm c = none ∧ hw c = none ∧ R c = none := fun sh =>
  ⟨(sh.mC c).resolve_right (by rw [wZ]; simp), (sh.wC c).resolve_right (by rw [wZ]; simp), (sh.rC c).resolve_right (by rw [wZ]; simp)⟩
 induction rM with
 | far hl _ _ _ _ _ => cases hl
 | send hl _ _ _ _ => cases hl
 | done qm =>
  intro hw fr' hW hm gs w sl t q s r pc e sh
  have h1 := C.seen _ _ _ qm
  rw [e, zw_c (cc sh).1] at h1
  exact absurd (Option.some.inj h1) gch_gone
 | recv hl hc _ _ _ =>
  intro hw fr' hW hm gs w sl t q s r pc e sh
  cases Option.some.inj hl
  rw [e, zw_c (cc sh).1] at hc
  cases gch_inj (Option.some.inj hc)
 | last hl hc hs hx _ =>
  intro hw fr' hW hm gs w sl t q s r pc e sh
  cases Option.some.inj hl
  subst e
  rw [zw_last (cc sh).1] at hx
  exact sh.recv C hX sl rfl hs hx hW
 | @sem fr1 cs1 h1 β x ok okp nxt pan X' Y' hs hd hok hokp _ _ ihx ihy =>
  intro hw fr' hW hm gs w sl t q s r pc e sh
  subst e
  refine sh.pick sl rfl fun gs w sl t q sh => ?_
  have hlt := lt_of_get sh.g0
  have cF : Disj (oneC c (.chan 0 #[] true s r tm)) F := by
   intro b
   by_cases hb : b = c
   ·subst hb; exact .inr sh.cF
   ·exact .inl (oneC_ne hb)
  obtain ⟨hm', w', zz, hev, ho⟩ := dem_runZ (lent_zw (tm := tm) C.rows (cc sh).2.2 [] (cl := true) s r) (F := hun hw F) hm w
   (by rw [sh.heap, hun_assoc, hun_assoc, hun_swap sh.wR, hun_swap sh.wC, hun_swap sh.rC]) (sh.mC.hun sh.mR)
   (Disj.hun_left (sh.mw.hun sh.mF) (Disj.hun_left (sh.wC.symm.hun cF) (sh.wR.symm.hun sh.rF))) hd
  obtain ⟨dO, dR⟩ := zz.disj.of_hun_right
  obtain ⟨da, _⟩ := zz.disjF.of_hun
  obtain ⟨d3, d6⟩ := da.of_hun_right
  have hXl : ∀ b, hm' b ≠ none → b < w'.heap.size := fun b hb => absH_lt zz.heap (fun e => hb (hun_none (hun_none e).1).1)
  have hRl : ∀ b, hun (oneC c (.chan 0 #[] true s r tm)) R b ≠ none → b < w'.heap.size := fun b hb => absH_lt zz.heap (fun e => hb (hun_none (hun_none e).1).2)
  have go : ∀ (fr2 : Frame) (cs2 : List Frame), (stepG P true (G fr1 cs1) w).tells (x.events P w #[]) (G fr2 cs2) w' →
    (∀ gs w sl t q, Sh P R F c tm w0 gs w t q hm' hw s r (G fr2 cs2) pc → Must P (Aim P F w0 X) (crowd gs w sl) t) → ∃ m ops, runT P (crowd gs w sl) 0 = (.next m, ops) ∧ Must P (Aim P F w0 X) m (t ++ ops) := by
   intro fr2 cs2 ht kk
   obtain ⟨es, hgo, hes⟩ := tells_eq.1 ht
   have hev' : ∀ e ∈ es, EvOK hm' (hun (oneC c (.chan 0 #[] true s r tm)) R) e := fun e he => (hev #[] e (hes e he)).resolve_left (by simp)
   have e := runT_crowd_go (P := P) (sl := sl) (i := 0) sh.g0 (show stepG P (0 == 0) (G fr1 cs1) w = _ from hgo)
   refine ⟨_, _, e, kk _ _ _ _ q ⟨by simp [hlt], ?_, d3, dR, sh.wR, dO, sh.wC, sh.rC, d6, sh.wF, sh.rF, sh.cF, ?_, ?_, sh.env.trans zz.env⟩⟩
   ·rw [zz.heap, hun_assoc, hun_assoc, hun_swap sh.wR.symm, hun_swap sh.wC.symm, hun_swap (b := R) sh.rC.symm]
   ·exact sh.crew.app _ (fun op hop => by rw [g_ofEvents op hop]; exact ⟨rfl, hlt⟩) (by simp) (crew_keep sh.crew rfl _ _ _)
   ·refine (sh.shut.mono zz.size).app0 g_ofEvents ?_ ?_ ?_
    ·intro op hop
     obtain ⟨e, he, rfl⟩ := Go.Conc.mem_ofEvents hop
     exact ev_mark (hev' e he)
    ·intro op hop
     obtain ⟨e, he, rfl⟩ := Go.Conc.mem_ofEvents hop
     exact ((hev' e he).low hXl hRl).2.2.2
    ·intro op hop x hx y hy
     obtain ⟨e, he, rfl⟩ := Go.Conc.mem_ofEvents hop
     rcases ev_touch (hev' e he) hx hy with h1 | ⟨h1, h2⟩
     ·refine ⟨fun h2 => h2 ((d3 y).resolve_left h1), fun h2 => ?_⟩
      rcases h2 with h2 | h2
      ·exact absurd ((dR y).resolve_left h1) h2
      ·subst h2
       have := (dO y).resolve_left h1
       rw [wZ] at this
       cases this
     ·refine ⟨fun h3 => h1 ?_, fun _ => h2⟩
      have hyc : y ≠ c := by
       rintro rfl
       exact h3 (cc sh).2.1
      have := (sh.wR y).resolve_left h3
      simp [hun, oneC_ne hyc, this]
  rcases ho with ⟨v, e, kk⟩ | ⟨v, e, kk⟩
  ·exact go _ _ ((hs true w).1 v w' e (hok _ _ kk)) fun gs w sl t q sh => ihx v _ kk hW hm' gs w sl t q s r pc rfl sh
  ·exact go _ _ ((hs true w).2 v w' e (hokp _ _ kk)) fun gs w sl t q sh => ihy v _ kk hW hm' gs w sl t q s r pc rfl sh
end
end Go.HL
namespace Go.HL
open Go Go.Conc Go.ConcN
section
variable {P : Program} {R F : AH} {c k : Nat} {tm : Bool} {w0 : World} {cw : List Frame} {Q : Frame → List Frame → AH → Prop} {WorkEnd : Frame → AH → Prop} {X : Frame → List Frame → AH → Prop}
theorem St.close {Goal : Machine → Trace → Prop} (C : Cert P R c tm cw Q WorkEnd) {hm hw : AH} {s r : Nat} {a : Goroutine} {fr : Frame} (hW : WorkEnd fr hw)
  (kk : ∀ gs w sl t q pc s r, Sh P R F c tm w0 gs w t q hm hw s r (a.again w) pc → w.heap[c]? = some (.chan 0 #[] true s r tm) → Must P Goal (crowd gs w sl) t)
  (gs : Array Goroutine) (w : World) (sl : Option (Nat × Nat)) (t : Trace) (q : Nat → Nat) (st : St P R F c k tm w0 gs w t q hm hw s r a (G fr cw)) : ∃ m ops, runT P (crowd gs w sl) k = (.next m, ops) ∧ Must P Goal m (t ++ ops) := by
 obtain ⟨hwake, g2, es, n, hgo, hes, hq⟩ := C.close _ _ hW
 have hk0 : (k == 0) = false := by simp [st.k0]
 have hlt := lt_of_get st.g0
 have hltk := lt_of_get st.gk
 have e := runT_crowd_go (P := P) (sl := sl) (i := k) st.gk (by rw [hk0]; exact hgo w s r st.open)
 have e0 := wZ c (.chan 0 #[] false s r tm)
 have e1 : hm c = none := (st.mC c).resolve_right (by rw [e0]; simp)
 have e2 : hw c = none := (st.wC c).resolve_right (by rw [e0]; simp)
 have e3 : R c = none := (st.rC c).resolve_right (by rw [e0]; simp)
 have hheap : absH (w.shut c s r tm).heap = hun hm (hun hw (hun R (hun (oneC c (.chan 0 #[] true s r tm)) F))) := by
  show absH (w.heap.setIfInBounds c _) = _
  rw [absH_set _ _ _ _ st.chan, st.heap]
  funext x
  by_cases hx : x = c
  ·subst hx
   simp [hupd, hun, e1, e2, e3, wZ]
  ·simp [hupd, hun, hx, oneC_ne hx]
 have hop2 : (w.shut c s r tm).heap[c]? = some (.chan 0 #[] true s r tm) := by
  show absH (w.shut c s r tm).heap c = _
  rw [hheap]
  simp [hun, e1, e2, e3, wZ]
 have hwk : ∀ o, woken P (G fr cw) g2 (w.shut c s r tm) o = o.again (w.shut c s r tm) := by
  intro o
  unfold woken
  rcases hq.status with h | h <;> simp [hwake, h]
 have hsz : (w.shut c s r tm).heap.size = w.heap.size := by simp [World.shut]
 have hop : ∀ op ∈ MemOp.ofEvents k (G fr cw).frame.fn (G fr cw).frame.place es, op.act = .access ⟨.obj c, false, true⟩ := by
  intro op hop
  obtain ⟨e, he, rfl⟩ := Go.Conc.mem_ofEvents hop
  rw [hes e he]
  rfl
 have D := st.duo.appk (u := MemOp.ofEvents k (G fr cw).frame.fn (G fr cw).frame.place es) g_ofEvents (fun op h => by rw [hop op h]; simp) (fun op h => by rw [hop op h]; exact st.clt) (fun op h x hx y hy => by
  rw [hop op h] at hx
  simp only [MemAct.touch?, Option.some.injEq] at hx
  subst hx
  simp only [blkOf, Option.some.injEq] at hy
  exact .inr ⟨.inr hy.symm, rfl⟩)
 have hS := Shut.of (k := k) (y := { g := k, fn := (G fr cw).frame.fn, pos := (G fr cw).frame.place, act := .close c }) D rfl rfl st.clt
 have ht : t ++ MemOp.ofEvents k (G fr cw).frame.fn (G fr cw).frame.place (es.push ⟨.obj c, true, true⟩) = t ++ MemOp.ofEvents k (G fr cw).frame.fn (G fr cw).frame.place es ++ #[{ g := k, fn := (G fr cw).frame.fn, pos := (G fr cw).frame.place, act := .close c }] := by
  rw [ofEvents_push]
  simp [MemAct.ofEvent]
 refine ⟨_, _, e, ?_⟩
 rw [ht]
 refine kk _ _ sl _ (Go.ConcN.upd q k n) _ s r ⟨?_, hheap, st.mw, st.mR, st.wR, disj_oneC st.mC, disj_oneC st.wC, disj_oneC st.rC, st.mF, st.wF, st.rF, st.cF, ⟨fun j x hj hx => ?_, fun j hj => ?_⟩, by rw [hsz]; exact hS, st.env.trans ⟨rfl, rfl, rfl⟩⟩ hop2
 ·rw [Array.getElem?_setIfInBounds_ne st.k0, Array.getElem?_map, st.g0]
  simp only [Option.map_some]
  rw [hwk]
 ·by_cases hjk : k = j
  ·subst hjk
   rw [Array.getElem?_setIfInBounds_self_of_lt (by simpa using hltk)] at hx
   obtain rfl := Option.some.inj hx
   have hd : Deaf (t ++ MemOp.ofEvents k (G fr cw).frame.fn (G fr cw).frame.place es ++ #[{ g := k, fn := (G fr cw).frame.fn, pos := (G fr cw).frame.place, act := .close c }]) k = 0 := by
    rw [Deaf_q fun op h => .inr (by
     simp only [List.mem_toArray, List.mem_cons, List.not_mem_nil, or_false] at h
     subst h
     simp)]
    exact D.heark
   rw [upd_same, hd]
   exact hq
  ·rw [Array.getElem?_setIfInBounds_ne hjk, Array.getElem?_map] at hx
   obtain ⟨y, hy, rfl⟩ := Option.map_eq_some_iff.1 hx
   have hqj := st.crew.old j y (by simp; exact ⟨hj, fun e => hjk e.symm⟩) hy
   rw [woken_quitsD hqj, upd_ne q n (Ne.symm hjk), Deaf_ne _ j _ (fun op h => ?_), Deaf_ne t j _ (fun op h => by rw [g_ofEvents op h]; exact hjk)]
   ·exact hqj
   ·simp only [List.mem_toArray, List.mem_cons, List.not_mem_nil, or_false] at h
    subst h
    exact hjk
 ·have hj' : gs.size ≤ j := by simpa using hj
  rw [Deaf_ne _ j _ (fun op h => ?_), Deaf_ne t j _ (fun op h => by rw [g_ofEvents op h]; omega)]
  ·exact st.crew.above j hj'
  ·simp only [List.mem_toArray, List.mem_cons, List.not_mem_nil, or_false] at h
   subst h
   show k ≠ j
   omega
theorem close_wait (C : Cert P R c tm cw Q WorkEnd) (hX : Ends R c tm Q WorkEnd X) {z : Value} {hm hw : AH} {s r : Nat} {fr frm : Frame} {cs0 : List Frame} (hW : WorkEnd fr hw) (hM : MW P R c Q z [] frm cs0 hm)
  (gs : Array Goroutine) (w : World) (sl : Option (Nat × Nat)) (t : Trace) (q : Nat → Nat) (st : St P R F c k tm w0 gs w t q hm hw s r (parked (G frm cs0) #[rcase c z] (.recv true)) (G fr cw)) :
  ∃ m ops, runT P (crowd gs w sl) k = (.next m, ops) ∧ Must P (Aim P F w0 X) m (t ++ ops) := by
 refine st.close C hW (fun gs w sl t q pc s r sh hc => ?_) gs w sl t q
 rw [again_parked_shut rfl hc] at sh
 exact sh.recv C hX sl rfl (fun w => by rw [stepG_tries]; exact hM.1 w) hM.2 hW
theorem close_run (C : Cert P R c tm cw Q WorkEnd) (hX : Ends R c tm Q WorkEnd X) {hm hw : AH} {s r : Nat} {fr frm : Frame} {csm : List Frame} (hW : WorkEnd fr hw) (rM : RM P c Q frm csm (hun hm (zw R c [])))
  (gs : Array Goroutine) (w : World) (sl : Option (Nat × Nat)) (t : Trace) (q : Nat → Nat) (st : St P R F c k tm w0 gs w t q hm hw s r (G frm csm) (G fr cw)) :
  ∃ m ops, runT P (crowd gs w sl) k = (.next m, ops) ∧ Must P (Aim P F w0 X) m (t ++ ops) := by
 refine st.close C hW (fun gs w sl t q pc s r sh hc => ?_) gs w sl t q
 rw [again_running _ (.inl rfl)] at sh
 exact Sh.must C hX rM hW hm gs w sl t q s r pc rfl sh
theorem St.noc {gs : Array Goroutine} {w : World} {t : Trace} {q : Nat → Nat} {hm hw : AH} {s r : Nat} {a b : Goroutine} (st : St P R F c k tm w0 gs w t q hm hw s r a b) : hm c = none ∧ hw c = none :=
 ⟨(st.mC c).resolve_right (by rw [wZ]; simp), (st.wC c).resolve_right (by rw [wZ]; simp)⟩
theorem waitk (C : Cert P R c tm cw Q WorkEnd) {v : Value} {vs : List Value} {frw : Frame} {csw : List Frame} {hw : AH}
  (nx : ∀ hm gs w sl t q s r frm csm, RM P c Q frm csm (hun hm (zw R c vs)) → St P R F c k tm w0 gs w t q hm hw s r (G frm csm) (G (frw.finish undef) csw) → Must P (Aim P F w0 X) (crowd gs w sl) t)
  {fr : Frame} {cs : List Frame} {h : AH} (rM : RM P c Q fr cs h) :
  ∀ {z' : Value} (hm : AH) gs w sl t q s r, h = hun hm (zw R c (v :: vs)) → St P R F c k tm w0 gs w t q hm hw s r (G fr cs) (parked (G frw csw) #[scase c v z'] .send) → Must P (Aim P F w0 X) (crowd gs w sl) t := by
 induction rM with
 | far hl _ _ _ _ _ => cases hl
 | send hl _ _ _ _ => cases hl
 | @sem fr1 cs1 h1 β x ok okp nxt pan X' Y' hs hd hok hokp _ _ ihx ihy =>
  intro z' hm gs w sl t q s r e st
  subst e
  refine st.pick sl (stay_run rfl) (st.stay (firm_parked rfl)) (.inl rfl) (fun _ gs w sl t q st => ?_) (fun h => by cases h)
  exact st.sem0 C.rows hs hd hok hokp (firm_parked rfl) (fun v hm' gs w sl t q kk st => ihx v _ kk hm' gs w sl t q s r rfl st) (fun v hm' gs w sl t q kk st => ihy v _ kk hm' gs w sl t q s r rfl st) gs w sl t q
 | done qm =>
  intro z' hm gs w sl t q s r e st
  have h1 := C.seen _ _ _ qm
  rw [e, zw_c st.noc.1] at h1
  exact absurd (Option.some.inj h1) gch_gone
 | last hl hc _ _ _ =>
  intro z' hm gs w sl t q s r e st
  cases Option.some.inj hl
  rw [e, zw_c st.noc.1] at hc
  cases gch_inj (Option.some.inj hc)
 | recv hl hc hs hx _ =>
  intro z' hm gs w sl t q s r e st
  cases Option.some.inj hl
  subst e
  rw [zw_c st.noc.1] at hc
  cases gch_inj (Option.some.inj hc)
  rw [zw_next st.noc.1] at hx
  refine st.pick sl (stay_run rfl) (st.stay (firm_parked rfl)) (.inl rfl) (fun _ gs w sl t q st => ?_) (fun h => by cases h)
  obtain ⟨gs', w', ops, e2, st'⟩ := st.recvMeets hs sl
  exact ⟨_, ops, e2, nx hm gs' w' sl _ q _ _ _ _ hx st'⟩
theorem run0 (C : Cert P R c tm cw Q WorkEnd) {vs : List Value} {frw : Frame} {csw : List Frame} {hw : AH}
  (A : ∀ {z : Value} {frm : Frame} {csm : List Frame} {hm : AH}, MW P R c Q z vs frm csm hm → ∀ gs w sl t q s r, St P R F c k tm w0 gs w t q hm hw s r (parked (G frm csm) #[rcase c z] (.recv true)) (G frw csw) → Must P (Aim P F w0 X) (crowd gs w sl) t)
  (W : ∀ {frm : Frame} {csm : List Frame} (hm : AH), RM P c Q frm csm (hun hm (zw R c vs)) → ∀ s r gs w sl t q, St P R F c k tm w0 gs w t q hm hw s r (G frm csm) (G frw csw) → ∃ m ops, runT P (crowd gs w sl) k = (.next m, ops) ∧ Must P (Aim P F w0 X) m (t ++ ops))
  {frm : Frame} {csm : List Frame} {h : AH} (rM : RM P c Q frm csm h) :
  ∀ (hm : AH) gs w sl t q s r, h = hun hm (zw R c vs) → St P R F c k tm w0 gs w t q hm hw s r (G frm csm) (G frw csw) → Must P (Aim P F w0 X) (crowd gs w sl) t := by
 letI : Lvl := ⟨false, none, some c⟩
 induction rM with
 | far hl _ _ _ _ _ => cases hl
 | send hl _ _ _ _ => cases hl
 | @sem fr1 cs1 h1 β x ok okp nxt pan X' Y' hs hd hok hokp hxr hyr ihx ihy =>
  intro hm gs w sl t q s r e st
  subst e
  refine st.pick sl (stay_run rfl) (stay_run rfl) (.inl rfl) (fun _ gs w sl t q st => ?_) (fun _ gs w sl t q st => ?_)
  ·exact st.sem0 C.rows hs hd hok hokp (firm_run rfl) (fun v hm' gs w sl t q kk st => ihx v _ kk hm' gs w sl t q s r rfl st) (fun v hm' gs w sl t q kk st => ihy v _ kk hm' gs w sl t q s r rfl st) gs w sl t q
  ·exact W hm (.sem x ok okp nxt pan X' Y' hs hd hok hokp hxr hyr) s r gs w sl t q st
 | done qm =>
  intro hm gs w sl t q s r e st
  have h1 := C.seen _ _ _ qm
  rw [e, zw_c st.noc.1] at h1
  exact absurd (Option.some.inj h1) gch_gone
 | @recv fr1 cs1 h1 c1 hl v z us hc hs hx _ =>
  intro hm gs w sl t q s r e st
  have ec : c = c1 := Option.some.inj hl
  subst ec
  subst e
  have hc0 := hc
  rw [zw_c st.noc.1] at hc0
  have ev : vs = v :: us := gch_inj (Option.some.inj hc0)
  subst ev
  have hx1 := hx
  rw [zw_next st.noc.1] at hx1
  refine st.pick sl (stay_run rfl) (stay_run rfl) (.inl rfl) (fun _ gs w sl t q st => ?_) (fun _ gs w sl t q st => ?_)
  ·obtain ⟨gs', e4, st'⟩ := st.recvWaits hs rfl sl
   exact ⟨_, _, e4, A ⟨hs, hx1⟩ gs' w sl _ q s r st'⟩
  ·exact W hm (.recv hl hc hs hx) s r gs w sl t q st
 | @last fr1 cs1 h1 c1 hl z hc hs hx _ =>
  intro hm gs w sl t q s r e st
  have ec : c = c1 := Option.some.inj hl
  subst ec
  subst e
  have hc0 := hc
  rw [zw_c st.noc.1] at hc0
  have ev : vs = [] := gch_inj (Option.some.inj hc0)
  subst ev
  have hx1 := hx
  rw [zw_last st.noc.1] at hx1
  refine st.pick sl (stay_run rfl) (stay_run rfl) (.inl rfl) (fun _ gs w sl t q st => ?_) (fun _ gs w sl t q st => ?_)
  ·obtain ⟨gs', e4, st'⟩ := st.recvWaits hs rfl sl
   exact ⟨_, _, e4, A ⟨hs, hx1⟩ gs' w sl _ q s r st'⟩
  ·exact W hm (.last hl hc hs hx) s r gs w sl t q st
theorem worker (C : Cert P R c tm cw Q WorkEnd) (hX : Ends R c tm Q WorkEnd X) {fr : Frame} {cs : List Frame} {h : AH} (rW : RW P c (QW R c cw WorkEnd) fr cs h) :
  ∀ (vs : List Value) (hw : AH), h = hun hw (zw R c vs) → hw c = none →
   (∀ {z : Value} {frm : Frame} {csm : List Frame} {hm : AH}, MW P R c Q z vs frm csm hm → ∀ gs w sl t q s r, St P R F c k tm w0 gs w t q hm hw s r (parked (G frm csm) #[rcase c z] (.recv true)) (G fr cs) → Must P (Aim P F w0 X) (crowd gs w sl) t) ∧
   (∀ {frm : Frame} {csm : List Frame} (hm : AH), RM P c Q frm csm (hun hm (zw R c vs)) → ∀ gs w sl t q s r, St P R F c k tm w0 gs w t q hm hw s r (G frm csm) (G fr cs) → Must P (Aim P F w0 X) (crowd gs w sl) t) := by
 induction rW with
 | far hl _ _ _ _ _ => cases hl
 | recv hl _ _ _ _ => cases hl
 | last hl _ _ _ _ => cases hl
 | @sem fr1 cs1 h1 β x ok okp nxt pan X' Y' hs hd hok hokp hxr hyr ihx ihy =>
  intro vs hw e hwc
  subst e
  have A : ∀ {z : Value} {frm : Frame} {csm : List Frame} {hm : AH}, MW P R c Q z vs frm csm hm → ∀ gs w sl t q s r, St P R F c k tm w0 gs w t q hm hw s r (parked (G frm csm) #[rcase c z] (.recv true)) (G fr1 cs1) → Must P (Aim P F w0 X) (crowd gs w sl) t := by
   intro z frm csm hm hM gs w sl t q s r st
   refine st.pick sl (st.stay (firm_parked rfl)) (stay_run rfl) (.inr rfl) (fun h => by cases h) fun _ gs w sl t q st => ?_
   exact st.semk C.rows hs hd hok hokp (firm_parked rfl) (fun v hw' gs w sl t q kk st => (ihx v _ kk vs hw' rfl st.noc.2).1 hM gs w sl t q s r st) (fun v hw' gs w sl t q kk st => (ihy v _ kk vs hw' rfl st.noc.2).1 hM gs w sl t q s r st) gs w sl t q
  refine ⟨A, fun hm rM gs w sl t q s r st => run0 C A (fun hm rM s r gs w sl t q st => ?_) rM hm gs w sl t q s r rfl st⟩
  exact st.semk C.rows hs hd hok hokp (firm_run rfl) (fun v hw' gs w sl t q kk st => (ihx v _ kk vs hw' rfl st.noc.2).2 hm rM gs w sl t q s r st) (fun v hw' gs w sl t q kk st => (ihy v _ kk vs hw' rfl st.noc.2).2 hm rM gs w sl t q s r st) gs w sl t q
 | @done fr1 cs1 h1 qw =>
  intro vs hw e hwc
  obtain ⟨rfl, hw1, e1, hc1, d1, hW⟩ := qw
  have key : ∀ {gs : Array Goroutine} {w : World} {t : Trace} {q : Nat → Nat} {hm : AH} {s r : Nat} {a b : Goroutine}, St P R F c k tm w0 gs w t q hm hw s r a b → hw = hw1 ∧ vs = [] := fun st => hunc_inj (e.symm.trans e1) hwc hc1 st.wR d1
  have A : ∀ {z : Value} {frm : Frame} {csm : List Frame} {hm : AH}, MW P R c Q z vs frm csm hm → ∀ gs w sl t q s r, St P R F c k tm w0 gs w t q hm hw s r (parked (G frm csm) #[rcase c z] (.recv true)) (G fr1 cs1) → Must P (Aim P F w0 X) (crowd gs w sl) t := by
   intro z frm csm hm hM gs w sl t q s r st
   obtain ⟨e2, e3⟩ := key st
   subst e2
   subst e3
   refine st.pick sl (st.stay (firm_parked rfl)) (stay_run rfl) (.inr rfl) (fun h => by cases h) fun _ gs w sl t q st => ?_
   exact close_wait C hX hW hM gs w sl t q st
  refine ⟨A, fun hm rM gs w sl t q s r st => run0 C A (fun hm rM s r gs w sl t q st => ?_) rM hm gs w sl t q s r rfl st⟩
  obtain ⟨e2, e3⟩ := key st
  subst e2
  subst e3
  exact close_run C hX hW rM gs w sl t q st
 | @send fr1 cs1 h1 c1 hl v z' us hc hs hx ih =>
  have ec : c = c1 := Option.some.inj hl
  subst ec
  intro vs hw e hwc
  subst e
  have ev : vs = v :: us := by
   rw [zw_c hwc] at hc
   exact gch_inj (Option.some.inj hc)
  subst ev
  have I := ih us hw (zw_next hwc) hwc
  have A : ∀ {z : Value} {frm : Frame} {csm : List Frame} {hm : AH}, MW P R c Q z (v :: us) frm csm hm → ∀ gs w sl t q s r, St P R F c k tm w0 gs w t q hm hw s r (parked (G frm csm) #[rcase c z] (.recv true)) (G fr1 cs1) → Must P (Aim P F w0 X) (crowd gs w sl) t := by
   intro z frm csm hm hM gs w sl t q s r st
   refine st.pick sl (st.stay (firm_parked rfl)) (stay_run rfl) (.inr rfl) (fun h => by cases h) fun _ gs w sl t q st => ?_
   obtain ⟨gs', w', ops, e2, st'⟩ := st.sendMeets hs sl
   exact ⟨_, ops, e2, I.2 hm hM.2 gs' w' sl _ q _ _ st'⟩
  refine ⟨A, fun hm rM gs w sl t q s r st => run0 C A (fun hm rM s r gs w sl t q st => ?_) rM hm gs w sl t q s r rfl st⟩
  obtain ⟨gs', e4, st'⟩ := st.sendWaits hs rfl sl
  exact ⟨_, _, e4, waitk C (fun hm gs w sl t q s r frm csm rM st => I.2 hm rM gs w sl t q s r st) rM hm gs' w sl _ q s r rfl st'⟩
theorem far_phase {fr f1 fw : Frame} {cs : List Frame} {hm hw : AH} {s r : Nat} {vs : List Value} (C : Cert P R c tm cw Q WorkEnd) (hX : Ends R c tm Q WorkEnd X)
  (hgo : ∀ w, stepG P true (G fr cs) w = .spawn (G f1 cs) (G fw []) w) (rM : RM P c Q f1 cs (hun hm (zw R c vs))) (rW : RW P c (QW R c cw WorkEnd) fw [] (hun hw (zw R c vs)))
  (mw : Disj hm hw) (mR : Disj hm R) (wR : Disj hw R) (hmc : hm c = none) (hwc : hw c = none) (hRc : R c = none) :
  Far P X fr cs (hun hm (hun hw (hun R (oneC c (.chan 0 #[] false s r tm))))) := by
 intro F gs w sl t q h0 hh d hL hP
 have dc : ∀ {A : AH}, A c = none → Disj A (oneC c (.chan 0 #[] false s r tm)) := by
  intro A hA b
  by_cases hb : b = c
  ·subst hb; exact .inl hA
  ·exact .inr (oneC_ne hb)
 obtain ⟨dm, d1⟩ := d.of_hun
 obtain ⟨dw, d2⟩ := d1.of_hun
 obtain ⟨dR, dC⟩ := d2.of_hun
 have cF : F c = none := (dC c).resolve_left (by rw [wZ]; simp)
 have rd := slip (P := P) (Sp := (· = 0)) (J := Past (fun _ => False) w.heap.size) rfl (fun t i fn pos es hi hj hm => hj.mute hi hm) _ gs w sl t q (Nat.le_refl _) (Crew.of hL)
  (fun i g hi hg => by subst hi; rw [h0] at hg; cases hg; exact stay_run rfl) ⟨0, _, rfl, h0, rfl⟩ hP
 have main : Must P (Aim P F w X) (crowd gs w sl) t := by
  refine rd.bind ?_
  rintro m t1 ⟨gs1, d1, sl1, q1, i, g, d1', sl1', rfl, hsz, hkeep, hC1, hP1, hi, hg, hrun, hst⟩
  subst hi
  rw [hkeep 0 rfl, h0] at hg
  cases hg
  have hg0 : gs1[0]? = some (G fr cs) := by rw [hkeep 0 rfl]; exact h0
  have hlt := lt_of_get hg0
  have e := runT_crowd_spawn (P := P) (sl := sl1') (i := 0) hg0 (show stepG P (0 == 0) (G fr cs) (w.at d1') = _ from hgo _)
  refine .step (hst.trans e) ?_
  have ek0 : gs1.size ≠ 0 := by omega
  have eops : ((MemOp.ofEvents 0 (G fr cs).frame.fn (G fr cs).frame.place #[]).push { g := 0, fn := (G fr cs).frame.fn, pos := (G fr cs).frame.place, act := .go gs1.size } |>.push { g := gs1.size, fn := (G fw []).frame.fn, pos := (G fr cs).frame.place, act := .start }) =
    #[{ g := 0, fn := (G fr cs).frame.fn, pos := (G fr cs).frame.place, act := .go gs1.size }, { g := gs1.size, fn := (G fw []).frame.fn, pos := (G fr cs).frame.place, act := .start }] := rfl
  rw [eops]
  refine (worker C hX (k := gs1.size) rW vs hw rfl hwc).2 hm rM _ (w.at d1') sl1' _ q1 s r ⟨?_, ?_, ek0, ?_, mw, mR, wR, dc hmc, dc hwc, dc hRc, dm, dw, dR, cF, ⟨fun j x hj hx => ?_, fun j hj => ?_⟩, ?_, ⟨rfl, rfl, rfl⟩⟩
  ·rw [Array.getElem?_push]
   simp [hlt]
   omega
  ·rw [Array.getElem?_push]
   simp
  ·show absH w.heap = _
   rw [hh]
   simp only [hun_assoc]
  ·simp only [not_or] at hj
   have hjs : j < gs1.size := by
    have := lt_of_get hx
    simp at this
    omega
   have hx' : gs1[j]? = some x := by
    rw [Array.getElem?_push] at hx
    rw [if_neg (by simp; omega), Array.getElem?_setIfInBounds_ne (fun e => hj.1 e.symm)] at hx
    exact hx
   rw [Deaf_ne t1 j _ fun op h => ?_]
   ·exact hC1.old j x hj.1 hx'
   ·simp only [List.mem_toArray, List.mem_cons, List.not_mem_nil, or_false] at h
    rcases h with rfl | rfl
    ·exact fun e => hj.1 e.symm
    ·exact fun e => hj.2 e.symm
  ·have hj' : gs1.size + 1 ≤ j := by simpa using hj
   rw [Deaf_ne t1 j _ fun op h => ?_]
   ·exact hC1.above j (by omega)
   ·simp only [List.mem_toArray, List.mem_cons, List.not_mem_nil, or_false] at h
    rcases h with rfl | rfl
    ·show 0 ≠ j; omega
    ·show gs1.size ≠ j; omega
  ·exact Duo.spawn (k := gs1.size) hP1 ek0 (hC1.above _ (Nat.le_refl _)) rfl rfl rfl rfl
 obtain ⟨N, m, t', e, gs', fr', cs', h', w', sl', q', rfl, a1, a2, a3, a4, a5, a6, a7⟩ := main
 exact ⟨N, gs', fr', cs', h', w', sl', t', q', e, a1, a2, a3, a4, a5, a6, a7⟩
end
end Go.HL
namespace Go.HL
open Go
variable [Lvl]
def CallV (P : Program) (y : Value) (args : List Value) (H : AH) (K E : Value → AH → Prop) : Prop :=
 dem P (do let d ← Deferred.ofValue y args.toArray; invoke d.target d.args) H (upon P K E) E
theorem CallV.mono {P : Program} {y : Value} {args : List Value} {H : AH} {K K' E E' : Value → AH → Prop} (c : CallV P y args H K E) (hk : ∀ v h', K v h' → K' v h') (he : ∀ v h', E v h' → E' v h') : CallV P y args H K' E' :=
 dem_mono (fun _ _ u => upon_mono hk he u) he c
theorem CallV.frame {P : Program} {y : Value} {args : List Value} {H F : AH} {K E : Value → AH → Prop} (c : CallV P y args H K E) (f : Fin H) (d : Disj H F) :
  CallV P y args (hun H F) (fun v H2 => ∃ H1, H2 = hun H1 F ∧ Disj H1 F ∧ Fin H1 ∧ K v H1) (fun v H2 => ∃ H1, H2 = hun H1 F ∧ Disj H1 F ∧ Fin H1 ∧ E v H1) := semN_frame c f d
theorem callV_fn {P : Program} {g : FuncId} {caps args : List Value} {H : AH} {K E : Value → AH → Prop} (hc : callable P g = true) (c : CallT P g (args ++ caps).toArray H K E) : CallV P (.func (.func g) #[] caps.toArray) args H K E := by
 unfold CallV
 refine wM ?_
 show dem P (callFunc g ((#[] ++ args.toArray) ++ caps.toArray)) H _ _
 refine dem_callFunc hc ?_
 have e : (#[] ++ args.toArray) ++ caps.toArray = (args ++ caps).toArray := by simp
 rw [e]
 exact c
def obL (r : Loop) (st : LoopState) (pd : Option Code) : Obj := .loop { r with state := st, pending := pd }
def setPs (S : Sl) : List (Nat × Value) → Sl
 | [] => S
 | (d, v) :: l => setPs (upd S d v) l
theorem fold_setPs (n : Nat) : ∀ (l : List (Nat × Value)) (S : Sl), l.foldl (fun (tmps : Array Value) (p : Nat × Value) => tmps.setIfInBounds p.1 p.2) (arr n S) = arr n (setPs S l)
 | [], S => rfl
 | (d, v) :: l, S => by
  rw [List.foldl_cons, arr_set]
  exact fold_setPs n l (upd S d v)
theorem dem_getLoop {P : Program} {H : AH} {l : Nat} {r : Loop} {K : Loop → AH → Prop} {E : Value → AH → Prop} (hl : H l = some (.loop r)) (k : K r H) : dem P (Instr.getLoop l) H K E := by
 unfold Instr.getLoop
 refine wM ?_
 exact ⟨_, hl, trivial, k⟩
theorem callV_yield {P : Program} {n : Nat} {S : Sl} {H : AH} {l : Nat} {r : Loop} {st : LoopState} {pd : Option Code} {args : List Value} {ps : List Nat} {K E : Value → AH → Prop}
  {assign body : Code} (hl : H l = some (obL r st pd)) (hp : r.params = ps.toArray) (ha : args.length = ps.length) (ht : r.tmps = arr n S) (has : r.assign = assign) (hbd : r.body = body)
  (c : EnterT P (Frame.round l r.fn (arr n (setPs S (ps.zip args))) assign body .normal) H K E) : CallV P (.func (.yield l) #[] #[]) args H K E := by
 subst has hbd
 unfold CallV
 refine wM ?_
 show dem P (Instr.yield l (#[] ++ args.toArray)) H _ _
 unfold Instr.yield
 refine wM (dem_getLoop hl ?_)
 have e1 : ¬ (#[] ++ args.toArray).size ≠ r.params.size := by rw [hp]; simp [ha]
 have e2 : Array.foldl (fun (tmps : Array Value) (x : Tmp × Value) => tmps.setIfInBounds x.1 x.2) r.tmps (r.params.zip (#[] ++ args.toArray)) = arr n (setPs S (ps.zip args)) := by
  rw [← fold_setPs, hp, ht]
  simp
 show dem P (if (#[] ++ args.toArray).size ≠ r.params.size then _ else _) H _ _
 rw [if_neg e1]
 show EnterT P (Frame.round l r.fn _ r.assign r.body .normal) H K E
 rw [← e2] at c
 exact c
section
variable {P : Program} {n : Nat}
theorem dem_endRound {H : AH} {l : Nat} {r : Loop} {st : LoopState} {pd jump : Option Code} {K : Value → AH → Prop} {E : Value → AH → Prop} (hl : H l = some (obL r st pd))
  (k : K (.bool jump.isNone) (hupd H l (obL r (if jump.isNone then .ready else .done) jump))) : dem P (Instr.endRound l jump) H K E := by
 unfold Instr.endRound
 refine wM (dem_getLoop hl ?_)
 refine wM ?_
 exact ⟨_, hl, trivial, k⟩
def roundK (l i : Nat) (r : Loop) (K : Value → AH → Prop) : Post
 | .normal, _, D, L, h => Valid h L → D = [] ∧ (∃ st pd, L[i]? = some (some (l, obL r st pd))) ∧ K (.bool true) (wl h (L.set i (some (l, obL r .ready none))))
 | .exit id, _, D, L, h => Valid h L → D = [] ∧ (∃ st pd, L[i]? = some (some (l, obL r st pd))) ∧ K (.bool false) (wl h (L.set i (some (l, obL r .done (some (.exit id))))))
 | .ret, _, D, L, h => Valid h L → D = [] ∧ (∃ st pd, L[i]? = some (some (l, obL r st pd))) ∧ K (.bool false) (wl h (L.set i (some (l, obL r .done (some .ret)))))
 | .panic _, _, _, _, _ => False
def noK : Post := fun _ _ _ _ _ => False
theorem round_enter {l i f : Nat} {S1 : Sl} {assign body : Code} {r : Loop} {M : Pv} {h : AH} {K E : Value → AH → Prop}
  (w : xp P n (some l) assign (thenK (fun S2 D2 L2 h2 => D2 = [] ∧ ∃ pd, L2[i]? = some (some (l, obL r .ready pd)) ∧ xp P n (some l) body (roundK l i r K) S2 [] (L2.set i (some (l, obL r .busy pd))) h2) noK) S1 [] M h) (V : Valid h M) :
  EnterT P (Frame.round l f (arr n S1) assign body .normal) (wl h M) K E := by
 intro hfin c0 cs
 have he : Frame.round l f (arr n S1) assign body .normal = mk { (default : Frame) with fn := f, kind := .normal, roundOf := some l } n S1 [] ([.code assign] ++ [.beginRound, .code body]) := rfl
 rw [he]
 refine (w (wl h M) (Fits.nil V) { (default : Frame) with fn := f, kind := .normal, roundOf := some l } rfl [.beginRound, .code body] (c0 :: cs)).bind ?_
 rintro fr cs' H ⟨rfl, e, S', D', L', h', V', kk, a⟩
 cases e with
 | normal =>
  obtain ⟨rfl, pd, hi, wb⟩ := kk
  have a' : fr = mk { (default : Frame) with fn := f, kind := .normal, roundOf := some l } n S' [] [.beginRound, .code body] := a
  subst a'
  have hH : H = wl h' L' := by rw [V'.eq]; exact hun_nil _
  subst hH
  refine .sem (do Instr.beginRound l; pure Next.skip) (fun x => x = .skip) (fun _ => False) (fun _ => (mk { (default : Frame) with fn := f, kind := .normal, roundOf := some l } n S' [] [.code body], c0 :: cs)) (fun _ => (c0, cs)) (fun x H' => x = Next.skip ∧ H' = wl h' (L'.set i (some (l, obL r .busy pd)))) noE ?_ ?_ (fun _ _ e => e.1) (fun _ _ y => y) ?_ (fun _ _ y => y.elim)
  ·intro main w
   refine ⟨fun x w' hr hx => ?_, fun v w' hr y => y.elim⟩
   subst hx
   have hr' : (do Instr.beginRound l; pure Next.skip : Sem Next).run P w = .ok .skip w' := hr
   simp only [stepG, stepG.exec, mk, stepG.apply, Sem.runT_eq, Option.elim, hr', if_true, tells_after, tells_go]
   refine ⟨⟨?_, ?_, ?_⟩, ?_⟩ <;> first | trivial | rfl | exact seen_if _ _ _ _ | exact fun _ he => absurd he (by simp)
  ·refine wM ?_
   unfold Instr.beginRound
   refine wM (dem_getLoop (zK V'.valid hi) ?_)
   refine wM ?_
   refine ⟨_, zK V'.valid hi, trivial, ?_⟩
   refine ⟨rfl, ?_⟩
   rw [← wl_set V'.valid hi]
   rfl
  ·rintro x H' ⟨rfl, rfl⟩
   have Vb := valid_set (o' := obL r .busy pd) V'.valid hi
   refine (wb _ (Fits.nil Vb) { (default : Frame) with fn := f, kind := .normal, roundOf := some l } rfl [] (c0 :: cs)).bind ?_
   have last : ∀ (fr : Frame) (jump : Option Code) (L2 : Pv) (h2 : AH) (st : LoopState) (pd2 : Option Code), Valid h2 L2 → L2[i]? = some (some (l, obL r st pd2)) → K (.bool jump.isNone) (wl h2 (L2.set i (some (l, obL r (if jump.isNone then .ready else .done) jump)))) →
     (∀ main w a w', (Instr.endRound l jump).run P w = .ok a w' → (stepG P main (G fr (c0 :: cs)) w).tells ((Instr.endRound l jump).events P w #[]) (G (c0.finish a) cs) w') →
     Rch P (fun fr cs' h' => cs' = cs ∧ ((∃ v, fr = c0.finish v ∧ K v h') ∨ (∃ v, fr = c0.raise [{ v := v, recovered := false }] ∧ E v h'))) fr (c0 :: cs) (wl h2 L2) := by
    intro fr jump L2 h2 st pd2 V2 hi2 kk hs
    refine .sem (Instr.endRound l jump) (fun _ => True) (fun _ => False) (fun v => (c0.finish v, cs)) (fun v => (c0.finish v, cs)) (fun v H' => v = .bool jump.isNone ∧ H' = wl h2 (L2.set i (some (l, obL r (if jump.isNone then .ready else .done) jump)))) noE ?_ ?_ (fun _ _ _ => trivial) (fun _ _ y => y) ?_ (fun _ _ y => y.elim)
    ·intro main w
     exact ⟨fun a w' hr _ => hs main w a w' hr, fun v w' hr y => y.elim⟩
    ·refine dem_endRound (zK V2 hi2) ⟨rfl, ?_⟩
     rw [← wl_set V2 hi2]
    ·rintro v H' ⟨rfl, rfl⟩
     exact .done ⟨rfl, .inl ⟨_, rfl, kk⟩⟩
   rintro fr cs' H ⟨rfl, e, S2, D2, L2, h2, V2, kk, a⟩
   cases e with
   | normal =>
    obtain ⟨rfl, ⟨st, pd2, hi2⟩, kk⟩ := kk V2.valid
    have hH : H = wl h2 L2 := by rw [V2.eq]; exact hun_nil _
    subst hH
    have a' : fr = mk { (default : Frame) with fn := f, kind := .normal, roundOf := some l } n S2 [] [] := a
    subst a'
    refine last _ none L2 h2 st pd2 V2.valid hi2 kk ?_
    intro main w v w' hr
    simp [stepG, stepG.exec, mk, hr, doReturn]
   | exit id =>
    obtain ⟨rfl, ⟨st, pd2, hi2⟩, kk⟩ := kk V2.valid
    have hH : H = wl h2 L2 := by rw [V2.eq]; exact hun_nil _
    subst hH
    obtain ⟨x, hx, rfl⟩ := a.2 rfl
    refine last _ (some (.exit id)) L2 h2 st pd2 V2.valid hi2 kk ?_
    intro main w v w' hr
    simp [stepG, stepG.exec, mk, hr, doReturn, hx]
   | ret =>
    obtain ⟨rfl, ⟨st, pd2, hi2⟩, kk⟩ := kk V2.valid
    have hH : H = wl h2 L2 := by rw [V2.eq]; exact hun_nil _
    subst hH
    obtain ⟨x, rfl⟩ := a.2 (by simp)
    refine last _ (some .ret) L2 h2 st pd2 V2.valid hi2 kk ?_
    intro main w v w' hr
    simp [stepG, stepG.exec, mk, hr, doReturn]
   | panic v => exact kk.elim
 | _ => exact kk.elim
theorem events_map {α β : Type} (g : α → β) : ∀ (s : Sem α) (w : World) (es : Array Event), ((s.bind fun x => .pure (g x)).runT P w es).2 = (s.runT P w es).2 := by
 intro s
 induction s with
 | pure a => intro w es; rfl
 | load m a k ih =>
  intro w es
  simp only [Sem.bind, Sem.runT]
  cases w.cell? a with
  | some v => exact ih v w _
  | none =>
   cases w.farLoad P a (m == .atomic) with
   | ok p => exact ih p.1 w _
   | error h => rfl
 | store m a v k ih =>
  intro w es
  have key : ∀ v : Value, plainV v → (((Sem.store m a v k).bind fun x => .pure (g x)).runT P w es).2 = ((Sem.store m a v k).runT P w es).2 := by
   intro v hv
   have e1 : (Sem.store m a v (k.bind fun x => .pure (g x))).runT P w es = (match w.cell? a with
     | some _ => if w.frozen? a then (.halt (.unsupported (.unsafePointer "a write to bytes that a string shares")) w, es) else (k.bind fun x => .pure (g x)).runT P (w.setCell a v) (es.push ⟨.cell a, true, m == .atomic⟩)
     | none => match w.farStore P a v (m == .atomic) with
      | .ok (w, touched) => (k.bind fun x => .pure (g x)).runT P w (es ++ touched.toArray.map (⟨.cell ·, true, m == .atomic⟩))
      | .error h => (.halt h w, es)) := by cases v <;> first | exact hv.elim | rfl
   have e2 : (Sem.store m a v k).runT P w es = (match w.cell? a with
     | some _ => if w.frozen? a then (.halt (.unsupported (.unsafePointer "a write to bytes that a string shares")) w, es) else k.runT P (w.setCell a v) (es.push ⟨.cell a, true, m == .atomic⟩)
     | none => match w.farStore P a v (m == .atomic) with
      | .ok (w, touched) => k.runT P w (es ++ touched.toArray.map (⟨.cell ·, true, m == .atomic⟩))
      | .error h => (.halt h w, es)) := by cases v <;> first | exact hv.elim | rfl
   show ((Sem.store m a v (k.bind fun x => .pure (g x))).runT P w es).2 = _
   rw [e1, e2]
   cases w.cell? a with
   | some _ =>
    cases w.frozen? a with
    | true => rfl
    | false => exact ih _ _
   | none =>
    cases w.farStore P a v (m == .atomic) with
    | ok p => exact ih p.1 _
    | error h => rfl
  cases v <;> first | exact key _ trivial | rfl
 | new o k ih => intro w es; exact ih _ _ _
 | shape r k ih => intro w es; exact ih _ _ _
 | freeze a n k ih => intro w es; exact ih _ _
 | frozen a k ih => intro w es; exact ih _ _ _
 | getObj r k ih =>
  intro w es
  simp only [Sem.bind, Sem.runT]
  cases w.heap[r]? with
  | none => rfl
  | some o => cases o <;> first | rfl | exact ih _ w _
 | setObj r o k ih =>
  intro w es
  simp only [Sem.bind, Sem.runT]
  cases w.heap[r]? with
  | none => rfl
  | some o => cases o <;> first | rfl | exact ih _ _
 | choose q k ih =>
  intro w es
  simp only [Sem.bind, Sem.runT]
  split
  ·exact ih _ _ _
  ·exact ih _ _ _
 | sys c k ih => intro w es; exact ih _ _ _
 | program k ih => intro w es; exact ih _ _ _
 | mark m k ih => intro w es; exact ih _ _
 | halt x => intro w es; rfl
theorem run_map {α β : Type} (g : α → β) : ∀ (s : Sem α) (w : World), (s.bind fun x => .pure (g x)).run P w = (match s.run P w with | .ok a w' => .ok (g a) w' | .halt x w' => .halt x w') := by
 intro s
 induction s with
 | pure a => intro w; rfl
 | load m a k ih =>
  intro w
  simp only [Sem.bind, Sem.run]
  cases w.cell? a with
  | some v => exact ih v w
  | none =>
   cases w.farLoad P a (m == .atomic) with
   | ok p => exact ih p.1 w
   | error h => rfl
 | store m a v k ih =>
  intro w
  have key : ∀ v : Value, plainV v → ((Sem.store m a v k).bind fun x => .pure (g x)).run P w = (match (Sem.store m a v k).run P w with | .ok a w' => .ok (g a) w' | .halt x w' => .halt x w') := by
   intro v hv
   have e1 : (Sem.store m a v (k.bind fun x => .pure (g x))).run P w = (match w.cell? a with
     | some _ => if w.frozen? a then .halt (.unsupported (.unsafePointer "a write to bytes that a string shares")) w else (k.bind fun x => .pure (g x)).run P (w.setCell a v)
     | none => match w.farStore P a v (m == .atomic) with
      | .ok (w, _) => (k.bind fun x => .pure (g x)).run P w
      | .error h => .halt h w) := by cases v <;> first | exact hv.elim | rfl
   have e2 : (Sem.store m a v k).run P w = (match w.cell? a with
     | some _ => if w.frozen? a then .halt (.unsupported (.unsafePointer "a write to bytes that a string shares")) w else k.run P (w.setCell a v)
     | none => match w.farStore P a v (m == .atomic) with
      | .ok (w, _) => k.run P w
      | .error h => .halt h w) := by cases v <;> first | exact hv.elim | rfl
   show (Sem.store m a v (k.bind fun x => .pure (g x))).run P w = _
   rw [e1, e2]
   cases w.cell? a with
   | some _ =>
    cases w.frozen? a with
    | true => rfl
    | false => exact ih _
   | none =>
    cases w.farStore P a v (m == .atomic) with
    | ok p => exact ih p.1
    | error h => rfl
  cases v <;> first | exact key _ trivial | rfl
 | new o k ih => intro w; exact ih _ _
 | shape r k ih => intro w; exact ih _ _
 | freeze a n k ih => intro w; exact ih _
 | frozen a k ih => intro w; exact ih _ _
 | getObj r k ih =>
  intro w
  simp only [Sem.bind, Sem.run]
  cases w.heap[r]? with
  | none => rfl
  | some o => cases o <;> first | rfl | exact ih _ w
 | setObj r o k ih =>
  intro w
  simp only [Sem.bind, Sem.run]
  cases w.heap[r]? with
  | none => rfl
  | some o => cases o <;> first | rfl | exact ih _
 | choose q k ih =>
  intro w
  simp only [Sem.bind, Sem.run]
  cases q.forced with
  | true => exact ih _ w
  | false => exact ih _ _
 | sys c k ih => intro w; exact ih _ _
 | program k ih => intro w; exact ih P w
 | mark m k ih => intro w; exact ih w
 | halt x => intro w; rfl
theorem run_map_ok {α β : Type} {g : α → β} {s : Sem α} {w w' : World} {b : β} (e : (s.bind fun x => .pure (g x)).run P w = .ok b w') : ∃ a, s.run P w = .ok a w' ∧ g a = b := by
 rw [run_map] at e
 cases hs : s.run P w with
 | ok a w1 => rw [hs] at e; cases e; exact ⟨a, rfl, rfl⟩
 | halt x w1 => rw [hs] at e; cases e
variable {ro : Option Nat} {K : Post} {S : Sl} {D : Df} {L : Pv} {h : AH}
def markD (r : Nat) : Deferred := { target := .collected r, args := #[] }
def rfSem (fn : FuncId) (tm : Array Value) (ps : Array Nat) (assign body : Code) (y : Value) : Sem ((Nat × Nat) × Next) :=
 .new (.deferred (some [])) fun r => .new (.loop { state := .ready, pending := none, fn := fn, tmps := tm, params := ps, assign := assign, body := body, defers := r }) fun l =>
  (do let d ← Deferred.ofValue y #[.func (.yield l) #[] #[]]; invoke d.target d.args : Sem Next).bind fun x => .pure ((r, l), x)
theorem Fits.addMark {H : AH} (f : Fits h L D H) {r : Nat} (hr : H r = none) : Fits h L (markD r :: D) (hupd H r (.deferred (some []))) := by
 rw [f.eq] at hr
 obtain ⟨h1, h2⟩ := hun_none hr
 have hnm : (marksOf D).elem r = false := by
  unfold mkH at h2
  cases he : (marksOf D).elem r with
  | false => rfl
  | true => rw [he] at h2; cases h2
 have hm : marksOf (markD r :: D) = r :: marksOf D := rfl
 have hmk : ∀ c, mkH (markD r :: D) c = if c = r then some (.deferred (some [])) else mkH D c := by
  intro c
  unfold mkH
  rw [hm]
  by_cases hc : c = r
  ·simp [hc]
  ·simp [hc]
 refine ⟨f.valid, ?_, ?_, ?_⟩
 ·intro c
  rw [hmk]
  by_cases hc : c = r
  ·left; rw [hc]; exact h1
  ·rw [if_neg hc]; exact f.disj c
 ·rw [hm, List.nodup_cons]
  exact ⟨by simpa using hnm, f.nd⟩
 ·funext c
  rw [f.eq]
  unfold hupd hun
  rw [hmk]
  by_cases hc : c = r
  ·simp [hc, h1]
  ·simp [hc]
theorem Fits.new {H : AH} (f : Fits h L D H) {l : Nat} (hl : H l = none) (o : Obj) : Fits h (L ++ [some (l, o)]) D (hupd H l o) ∧ wl h L l = none := by
 rw [f.eq] at hl
 obtain ⟨h1, h2⟩ := hun_none hl
 refine ⟨⟨valid_new f.valid h1 o, ?_, f.nd, ?_⟩, h1⟩
 ·rw [← wl_new h1]
  exact f.disj.hupd h2
 ·rw [← wl_new h1, f.eq, hun_hupd]
def LoopT (P : Program) (n : Nat) (K : Post) (S : Sl) (D : Df) (L : Pv) (h : AH) (y : Value) (ps : List Nat) (assign body : Code) : Prop :=
 ∀ (r l : Nat) (lp : Loop), lp.tmps = arr n S → lp.params = ps.toArray → lp.assign = assign → lp.body = body → Valid h (L ++ [some (l, obL lp .ready none)]) →
  CallV P y [.func (.yield l) #[] #[]] (wl h (L ++ [some (l, obL lp .ready none)]))
   (fun _ H' => ∃ h' L' st pd, H' = wl h' (L' ++ [some (l, obL lp st pd)]) ∧ Valid h' (L' ++ [some (l, obL lp st pd)]) ∧ st ≠ .busy ∧
    ∀ h'', Ext h' h'' → match pd with | none => K .normal S (markD r :: D) L' h'' | some c => xp P n none c K S (markD r :: D) L' h'') noE
theorem xp_rangeFunc {f : Operand} {y : Value} {ps : List Nat} {assign body : Code} (hy : ev n S f = y) (g : LoopT P n K S D L h y ps assign body) : xp P n none (.rangeFunc f ps.toArray assign body) K S D L h := by
 subst hy
 intro H V b hb k cs
 have endR : ∀ (r l : Nat) (lp : Loop) (H2 : AH) (h' : AH) (L' : Pv) (st : LoopState) (pd : Option Code), Fits h' (L' ++ [some (l, obL lp st pd)]) (markD r :: D) H2 → st ≠ .busy →
   (∀ h'', Ext h' h'' → match pd with | none => K .normal S (markD r :: D) L' h'' | some c => xp P n none c K S (markD r :: D) L' h'') →
   Rch P (fun fr cs' H' => cs' = cs ∧ ∃ e S' D' L' h', Fits h' L' D' H' ∧ K e S' D' L' h' ∧ AtX b n k e S' D' fr) (mk b n S (markD r :: D) (.endRangeFunc l :: k)) cs H2 := by
  intro r l lp H2 h' L' st pd V2 hst kk
  have hi : (L' ++ [some (l, obL lp st pd)])[L'.length]? = some (some (l, obL lp st pd)) := by simp
  have hl : H2 l = some (obL lp st pd) := by rw [V2.eq]; exact hun_left (zK V2.valid hi)
  have e0 : (L' ++ [some (l, obL lp st pd)]).set L'.length none = L' ++ [none] := by simp
  refine .sem (Instr.endLoop l) (fun _ => True) (fun _ => False) (fun j => (mk b n S (markD r :: D) ((j.map Item.code).toList ++ k), cs)) (fun _ => (b, cs)) (fun j H' => j = pd ∧ ∃ h'', Ext h' h'' ∧ Fits h'' L' (markD r :: D) H') noE ?_ ?_ (fun _ _ _ => trivial) (fun _ _ y => y) ?_ (fun _ _ y => y.elim)
  ·intro main w
   refine ⟨fun a w' hr _ => ?_, fun v w' hr y => y.elim⟩
   simp [stepG, stepG.exec, mk, hr]
  ·unfold Instr.endLoop
   refine wM (dem_getLoop hl ?_)
   have hb2 : ((obL lp st pd = .loop { lp with state := st, pending := pd }) ∧ (st == LoopState.busy) = false) := ⟨rfl, by cases st <;> first | rfl | exact absurd rfl hst⟩
   simp only [hb2.2, Bool.false_eq_true, if_false]
   refine wM ?_
   refine ⟨_, hl, trivial, ?_⟩
   refine ⟨rfl, hupd h' l (.loop { lp with state := .exhausted, pending := pd }), ?_, ?_⟩
   ·exact Ext.new (Ext.refl h') (wl_fresh V2.valid hi) _
   ·have hs := wl_set (o' := .loop { lp with state := .exhausted, pending := pd }) V2.valid hi
    have Vs := valid_set (o' := .loop { lp with state := .exhausted, pending := pd }) V2.valid hi
    have e1 : (L' ++ [some (l, obL lp st pd)]).set L'.length (some (l, .loop { lp with state := .exhausted, pending := pd })) = L' ++ [some (l, .loop { lp with state := .exhausted, pending := pd })] := by simp
    rw [e1] at hs Vs
    have hi1 : (L' ++ [some (l, Obj.loop { lp with state := .exhausted, pending := pd })])[L'.length]? = some (some (l, .loop { lp with state := .exhausted, pending := pd })) := by simp
    have hp := wl_pub Vs hi1
    have Vp := valid_pub Vs hi1
    have e2 : (L' ++ [some (l, Obj.loop { lp with state := .exhausted, pending := pd })]).set L'.length none = L' ++ [none] := by simp
    have e3 : cl (L' ++ [none]) = cl L' := by simp [cl]
    rw [e2] at hp Vp
    have hp' : wl h' (L' ++ [some (l, Obj.loop { lp with state := .exhausted, pending := pd })]) = wl (hupd h' l (.loop { lp with state := .exhausted, pending := pd })) L' := by
     rw [hp]; unfold wl; rw [e3]
    have Vp' : Valid (hupd h' l (.loop { lp with state := .exhausted, pending := pd })) L' := by unfold Valid at Vp ⊢; rw [e3] at Vp; exact Vp
    have hF : Fits h' (L' ++ [some (l, Obj.loop { lp with state := .exhausted, pending := pd })]) (markD r :: D) (hupd H2 l (.loop { lp with state := .exhausted, pending := pd })) := by
     refine ⟨Vs, ?_, V2.nd, ?_⟩
     ·rw [← hs]
      exact V2.disj.hupd (V2.disj.right (zK V2.valid hi))
     ·rw [← hs, V2.eq, hun_hupd]
    exact hF.turn hp' Vp'
  ·rintro j H' ⟨rfl, h'', E, V3⟩
   have := kk h'' E
   cases j with
   | none => exact .done ⟨rfl, .normal, S, _, L', h'', V3, this, rfl⟩
   | some c => exact this H' V3 b hb k cs
 refine .sem (rfSem b.fn (arr n S) ps.toArray assign body (ev n S f)) (fun p => match p.2 with | .value _ => True | .skip => True | .enter _ _ => True | .round _ _ _ _ _ => True | _ => False) (fun _ => False)
  (fun p => match p.2 with
   | .value _ => (mk b n S (markD p.1.1 :: D) (.endRangeFunc p.1.2 :: k), cs)
   | .skip => (mk b n S (markD p.1.1 :: D) (.endRangeFunc p.1.2 :: k), cs)
   | .enter f args => (Frame.enter P f args .normal, mk b n S (markD p.1.1 :: D) (.inRangeFunc p.1.2 :: k) :: cs)
   | .round l f tmps a c => (Frame.round l f tmps a c .normal, mk b n S (markD p.1.1 :: D) (.inRangeFunc p.1.2 :: k) :: cs)
   | _ => (b, cs)) (fun _ => (b, cs)) _ _ ?_ (dem_fin V.fin (?_ : dem P (rfSem b.fn (arr n S) ps.toArray assign body (ev n S f)) H (fun p H' => upon P (fun _ H2 => ∃ h' L' lp st pd, Fits h' (L' ++ [some (p.1.2, obL lp st pd)]) (markD p.1.1 :: D) H2 ∧ st ≠ .busy ∧ ∀ h'', Ext h' h'' → match pd with | none => K .normal S (markD p.1.1 :: D) L' h'' | some c => xp P n none c K S (markD p.1.1 :: D) L' h'') noE p.2 H') noE)) ?_ (fun _ _ y => y.2) ?_ (fun _ _ y => y.2.elim)
 ·intro main w
  refine ⟨fun p w' hr hx => ?_, fun v w' hr y => y.elim⟩
  obtain ⟨⟨r, l⟩, x⟩ := p
  have hes : (rfSem b.fn (arr n S) ps.toArray assign body (ev n S f)).events P w #[] = Sem.events P (do let d ← Deferred.ofValue (ev n S f) #[Value.func (Fn.yield (w.heap.push (Obj.deferred (some []))).size) #[] #[]]; invoke d.target d.args)
    { heap := (w.heap.push (Obj.deferred (some []))).push (Obj.loop { state := LoopState.ready, pending := none, fn := b.fn, tmps := arr n S, params := ps.toArray, assign := assign, body := body, defers := w.heap.size }), tape := w.tape, drawn := w.drawn, os := w.os, output := w.output } #[] := by
   unfold rfSem Sem.events
   exact events_map _ _ _ _
  unfold rfSem at hr
  simp only [Sem.run] at hr
  obtain ⟨x', hr1, hx'⟩ := run_map_ok hr
  simp only [Prod.mk.injEq] at hx'
  obtain ⟨⟨hr0, hl0⟩, rfl⟩ := hx'
  subst hr0
  subst hl0
  have hee := congrFun (mk_eval b n S (markD w.heap.size :: D) (.inRangeFunc (w.heap.push (Obj.deferred (some []))).size :: k)) f
  have hstep : stepG P main (G (mk b n S D ([.code (.rangeFunc f ps.toArray assign body)] ++ k)) cs) w = GStep.after #[] (stepG.apply P true (mk b n S (markD w.heap.size :: D) (.inRangeFunc (w.heap.push (Obj.deferred (some []))).size :: k)) cs none (do let d ← resolve (mk b n S (markD w.heap.size :: D) (.inRangeFunc (w.heap.push (Obj.deferred (some []))).size :: k)).eval { callee := .value f, args := #[.const (.func (.yield (w.heap.push (Obj.deferred (some []))).size) #[] #[])], argTypes := #[] } 0; invoke d.target d.args)
    { heap := (w.heap.push (Obj.deferred (some []))).push (Obj.loop { state := LoopState.ready, pending := none, fn := b.fn, tmps := arr n S, params := ps.toArray, assign := assign, body := body, defers := w.heap.size }), tape := w.tape, drawn := w.drawn, os := w.os, output := w.output }) := by
   simp only [stepG, stepG.exec, mk, List.cons_append, List.nil_append, hb, Instr.enterLoop, Sem.runT_eq]
   rfl
  have hres : resolve (mk b n S (markD w.heap.size :: D) (.inRangeFunc (w.heap.push (Obj.deferred (some []))).size :: k)).eval { callee := .value f, args := #[.const (.func (.yield (w.heap.push (Obj.deferred (some []))).size) #[] #[])], argTypes := #[] } 0 = Deferred.ofValue (ev n S f) #[Value.func (Fn.yield (w.heap.push (Obj.deferred (some []))).size) #[] #[]] := by
   simp only [resolve, hee]
   simp [Frame.eval]
  rw [hres] at hstep
  rw [hstep]
  cases x' <;> first | exact hx.elim | (simp only [stepG.apply, Sem.runT_eq, hr1, if_true, tells_after, tells_go, hes]; refine ⟨⟨⟨?_, ?_, ?_⟩, ?_⟩, ?_⟩ <;> first | trivial | rfl | exact seen_if _ _ _ _ | exact fun _ he => absurd he (by simp))
 ·unfold rfSem
  intro r hr
  have V1 := V.addMark hr
  intro l hl
  obtain ⟨V2, hlw⟩ := V1.new hl (.loop { state := .ready, pending := none, fn := b.fn, tmps := arr n S, params := ps.toArray, assign := assign, body := body, defers := r })
  refine wM ?_
  have c := g r l { state := .ready, pending := none, fn := b.fn, tmps := arr n S, params := ps.toArray, assign := assign, body := body, defers := r } rfl rfl rfl rfl V2.valid
  have c1 := CallV.frame c (fin_wl V2.valid) V2.disj
  have eH : hun (wl h (L ++ [some (l, obL { state := .ready, pending := none, fn := b.fn, tmps := arr n S, params := ps.toArray, assign := assign, body := body, defers := r } .ready none)])) (mkH (markD r :: D)) = hupd (hupd H r (.deferred (some []))) l (.loop { state := .ready, pending := none, fn := b.fn, tmps := arr n S, params := ps.toArray, assign := assign, body := body, defers := r }) := V2.eq.symm
  rw [eH] at c1
  refine dem_mono ?_ ?_ c1
  ·intro x H' u
   refine upon_mono ?_ ?_ u
   ·rintro v H2 ⟨H1, e1, d1, f1, h', L', st, pd, rfl, V', hst, kk⟩
    exact ⟨h', L', _, st, pd, ⟨V', d1, V1.nd, e1⟩, hst, kk⟩
   ·rintro v H2 ⟨H1, e1, d1, f1, y⟩; exact y
  ·rintro v H2 ⟨H1, e1, d1, f1, y⟩; exact y
 ·rintro ⟨⟨r, l⟩, x⟩ H' ⟨_, u⟩
  cases x <;> first | exact trivial | exact u
 ·rintro ⟨⟨r, l⟩, x⟩ H' ⟨hfin, u⟩
  have call : ∀ fr0 : Frame, EnterT P fr0 H' (fun _ H2 => ∃ h' L' lp st pd, Fits h' (L' ++ [some (l, obL lp st pd)]) (markD r :: D) H2 ∧ st ≠ .busy ∧ ∀ h'', Ext h' h'' → match pd with | none => K .normal S (markD r :: D) L' h'' | some c => xp P n none c K S (markD r :: D) L' h'') noE →
    Rch P (fun fr cs' H' => cs' = cs ∧ ∃ e S' D' L' h', Fits h' L' D' H' ∧ K e S' D' L' h' ∧ AtX b n k e S' D' fr) fr0 (mk b n S (markD r :: D) (.inRangeFunc l :: k) :: cs) H' := by
   intro fr0 c
   refine (c hfin (mk b n S (markD r :: D) (.inRangeFunc l :: k)) cs).bind ?_
   rintro fr cs' H2 ⟨rfl, ⟨v, rfl, h', L', lp, st, pd, V', hst, kk⟩ | ⟨v, rfl, y⟩⟩
   ·have ef : (mk b n S (markD r :: D) (.inRangeFunc l :: k)).finish v = mk b n S (markD r :: D) (.endRangeFunc l :: k) := rfl
    rw [ef]
    exact endR r l lp H2 h' L' st pd V' hst kk
   ·exact y.elim
  cases x with
  | value v =>
   obtain ⟨h', L', lp, st, pd, V', hst, kk⟩ := u
   exact endR r l lp H' h' L' st pd V' hst kk
  | skip =>
   obtain ⟨h', L', lp, st, pd, V', hst, kk⟩ := u
   exact endR r l lp H' h' L' st pd V' hst kk
  | enter f args => exact call _ u
  | round l' f tmps a c => exact call _ u
  | _ => exact u.elim
end
end Go.HL
namespace Go.HL
open Go
variable [Lvl]
theorem wl_app {h : AH} {pre M : Pv} (V : Valid h (pre ++ M)) : wl h (pre ++ M) = hun (wl h M) (wl0 hnil (cl pre)) ∧ Disj (wl h M) (wl0 hnil (cl pre)) ∧ Valid h M := by
 have V0 : Valid0 h (cl pre ++ cl M) := by unfold Valid at V; rw [cl_append] at V; exact V
 have VM : Valid h M := ⟨(by have := V0.nd; rw [List.map_append, List.nodup_append] at this; exact this.2.1), fun p hp => V0.fresh p (List.mem_append_right _ hp), V0.fin⟩
 have hp : ∀ b o, (cl pre).lookup b = some o → wl h M b = none := by
  intro b o hl
  have hm : ¬ ∀ p ∈ cl pre, p.1 ≠ b := fun k => by rw [(lookup_none_iff _ b).2 k] at hl; cases hl
  simp only [ne_eq, Classical.not_forall, Classical.not_not] at hm
  obtain ⟨p, hp, rfl⟩ := hm
  have h1 := V0.fresh p (List.mem_append_left _ hp)
  have h2 : (cl M).lookup p.1 = none := by
   rw [lookup_none_iff]
   intro q hq e
   have := V0.nd
   rw [List.map_append, List.nodup_append] at this
   exact this.2.2 p.1 (List.mem_map.2 ⟨p, hp, rfl⟩) q.1 (List.mem_map.2 ⟨q, hq, rfl⟩) e.symm
  unfold wl wl0
  rw [h2]
  exact h1
 refine ⟨?_, ?_, VM⟩
 ·funext b
  unfold hun
  show wl0 h (cl (pre ++ M)) b = _
  rw [cl_append]
  unfold wl0
  rw [List.lookup_append]
  cases hl : (cl pre).lookup b with
  | some o =>
   have := hp b o hl
   unfold wl wl0 at this
   simp only [Option.some_or, hl]
   unfold wl wl0
   rw [this]
  | none =>
   simp only [Option.none_or, hl, hnil]
   unfold wl wl0
   cases (cl M).lookup b with
   | some o => rfl
   | none => cases h b <;> rfl
 ·intro b
  cases hl : (cl pre).lookup b with
  | some o => left; exact hp b o hl
  | none => right; unfold wl0; rw [hl]; rfl
theorem wl_join {h : AH} {pre M : Pv} (nd : ((cl pre).map (·.1)).Nodup) (V : Valid h M) (d : Disj (wl h M) (wl0 hnil (cl pre))) : hun (wl h M) (wl0 hnil (cl pre)) = wl h (pre ++ M) ∧ Valid h (pre ++ M) := by
 have hk : ∀ p ∈ cl pre, wl h M p.1 = none := by
  intro p hp
  refine (d p.1).resolve_right ?_
  unfold wl0
  cases hl : (cl pre).lookup p.1 with
  | some o => simp
  | none => exact absurd rfl ((lookup_none_iff _ _).1 hl p hp)
 have Vn : Valid h (pre ++ M) := by
  unfold Valid
  rw [cl_append]
  refine ⟨?_, fun p hp => ?_, V.fin⟩
  ·rw [List.map_append, List.nodup_append]
   refine ⟨nd, V.nd, ?_⟩
   intro a ha b hb e
   obtain ⟨p, hp, rfl⟩ := List.mem_map.1 ha
   obtain ⟨q, hq, rfl⟩ := List.mem_map.1 hb
   exact (wl0_none (hk p hp)).2 q hq e.symm
  ·rcases List.mem_append.1 hp with h1 | h1
   ·exact (wl0_none (hk p h1)).1
   ·exact V.fresh p h1
 exact ⟨((wl_app Vn).1).symm, Vn⟩
theorem wl_shed {h : AH} : ∀ (pre M : Pv), Valid h (pre ++ M) → ∃ h', Ext h h' ∧ wl h (pre ++ M) = wl h' M ∧ Valid h' M
 | [], M, V => ⟨h, Ext.refl h, rfl, V⟩
 | none :: pre, M, V => by
  have e : cl (none :: pre ++ M) = cl (pre ++ M) := by simp [cl]
  have V1 : Valid h (pre ++ M) := by unfold Valid at V ⊢; rw [e] at V; exact V
  obtain ⟨h', E, w, V'⟩ := wl_shed pre M V1
  exact ⟨h', E, by unfold wl at w ⊢; rw [e]; exact w, V'⟩
 | some (b, o) :: pre, M, V => by
  have hi : (some (b, o) :: pre ++ M)[0]? = some (some (b, o)) := rfl
  have V1 := valid_pub V hi
  have w1 := wl_pub V hi
  have e : cl ((some (b, o) :: pre ++ M).set 0 none) = cl (pre ++ M) := by simp [cl]
  have V2 : Valid (hupd h b o) (pre ++ M) := by unfold Valid at V1 ⊢; rw [e] at V1; exact V1
  have w2 : wl h (some (b, o) :: pre ++ M) = wl (hupd h b o) (pre ++ M) := by rw [w1]; unfold wl; rw [e]
  obtain ⟨h', E, w3, V3⟩ := wl_shed pre M V2
  exact ⟨h', (Ext.new (Ext.refl h) (wl_fresh V hi) o).trans E, w2.trans w3, V3⟩
theorem CallV.fin {P : Program} {y : Value} {args : List Value} {H : AH} {K E : Value → AH → Prop} (c : CallV P y args H K E) (f : Fin H) : CallV P y args H (fun v h => Fin h ∧ K v h) (fun v h => Fin h ∧ E v h) := by
 have c1 := CallV.frame c f (disj_nil H)
 rw [hun_nil] at c1
 refine CallV.mono c1 ?_ ?_
 ·rintro v H2 ⟨H1, rfl, _, f1, k⟩; rw [hun_nil]; exact ⟨f1, k⟩
 ·rintro v H2 ⟨H1, rfl, _, f1, k⟩; rw [hun_nil]; exact ⟨f1, k⟩
def FnM (P : Program) (y : Value) (args : List Value) (h : AH) (M : Pv) (R : Value → AH → Pv → Prop) : Prop :=
 Valid h M → CallV P y args (wl h M) (fun v H => ∃ h' M', H = wl h' M' ∧ Valid h' M' ∧ Ext h h' ∧ R v h' M') noE
theorem FnM.mono {P : Program} {y : Value} {args : List Value} {h : AH} {M : Pv} {R R' : Value → AH → Pv → Prop} (c : FnM P y args h M R) (hr : ∀ v h' M', Ext h h' → R v h' M' → R' v h' M') : FnM P y args h M R' := by
 intro V
 refine CallV.mono (c V) ?_ (fun _ _ y => y)
 rintro v H ⟨h', M', e, V', E, r⟩
 exact ⟨h', M', e, V', E, hr v h' M' E r⟩
section
variable {P : Program} {n : Nat} {ops : Array Oper} {d : Option Tmp} {op : Op} {ty : TypeId} {ps : String} {af : Array Edge} {os : List Oper} {K : Sl → Pv → AH → Prop} {E : Value → Sl → Pv → AH → Prop} {S : Sl} {L : Pv} {h : AH}
theorem exec_callV {ρ : Operand → Value} {x : Operand} {xs : List Operand} {ats : Array TypeId} {y : Value} {vs : List Value} (hf : ρ x = y) (hx : xs.map ρ = vs) :
  execOp ρ ⟨d, .call ⟨.value x, xs.toArray, ats⟩, ty, ps, af, none⟩ = (do let d ← Deferred.ofValue y vs.toArray; invoke d.target d.args) := by
 subst hf hx
 simp only [execOp, resolve, List.map_toArray]
theorem op_fnM (pre M : Pv) {x : Operand} {xs : List Operand} {ats : Array TypeId} {y : Value} {vs : List Value} {R : Value → AH → Pv → Prop} (hf : ev n S x = y) (hx : xs.map (ev n S) = vs) (hL : L = pre ++ M) (c : FnM P y vs h M R)
  (k : ∀ v h' M', Ext h h' → R v h' M' → wpL P n ops os K E (put S d v) (pre ++ M') h') : wpL P n ops (⟨d, .call ⟨.value x, xs.toArray, ats⟩, ty, ps, af, none⟩ :: os) K E S L h := by
 subst hL
 refine op_of fun V => ?_
 unfold opW
 rw [exec_callV hf hx]
 obtain ⟨e1, d1, VM⟩ := wl_app V
 rw [e1]
 have ndp : ((cl pre).map (·.1)).Nodup := by
  have := V.nd
  rw [cl_append, List.map_append, List.nodup_append] at this
  exact this.1
 refine CallV.mono (CallV.frame (c VM) (fin_wl VM) d1) ?_ ?_
 ·rintro v H2 ⟨H1, rfl, d2, f2, h', M', rfl, V', E', r⟩
  obtain ⟨e2, V2⟩ := wl_join ndp V' d2
  exact ⟨pre ++ M', h', e2, V2, k v h' M' E' r⟩
 ·rintro v H2 ⟨H1, rfl, d2, f2, y⟩; exact y.elim
end
theorem fnM_body {P : Program} {f : FuncId} {fn : Func} {c : Code} {args caps vs : List Value} {h : AH} {M : Pv} {n : Nat} {R : Value → AH → Pv → Prop} (hca : callable P f = true) (hvs : args ++ caps = vs) (hf : P.funcs[f]? = some fn) (hb : fn.body = some c) (hn : fn.ntmps = n) (ha : Nat.ble vs.length n = true)
  (w : xp P n none c (retK P n fn (fun v H => ∃ h' M', H = wl h' M' ∧ Valid h' M' ∧ Ext h h' ∧ R v h' M') noE) (argS vs.toArray) [] M h) : FnM P (.func (.func f) #[] caps.toArray) args h M R := by
 intro V
 refine callV_fn hca ?_
 rw [hvs]
 refine wH hf hb hn (by simpa using ha) ?_
 exact goes_turn (fun _ => ⟨wl_nil _, V⟩) w
end Go.HL
namespace Go.HL
open Go
variable [Lvl]
section
variable {P : Program}
theorem wK {α β : Type} {s : Sem α} {f : α → Sem β} {a : α} (h : pev P s = some a) : pev P (s >>= f) = pev P (f a) := wY h
theorem eq_int {t : TypeId} {q q' : IntKind} {d : Nat} (ht : pev P (underlying t) = some (.int q')) (a b : Int) : pev P (Op.equalIn (d+1) t (.int q a) (.int q b)) = some (a == b) := by
 unfold Op.equalIn
 rw [wK ht]
 simp
 rfl
theorem pev_forIn {α : Type} {g : α → Sem (ForInStep (Option Bool × Unit))} : ∀ (l : List α) (rs : List Bool), l.length = rs.length → (∀ (i : Nat) (a : α) (r : Bool), l[i]? = some a → rs[i]? = some r → pev P (g a) = some (if r then .yield (none, ()) else .done (some false, ()))) →
  pev P (forIn l (none, ()) fun a _ => g a) = some (if rs.all id then (none, ()) else (some false, ()))
 | [], [], _, _ => rfl
 | [], _ :: _, hl, _ => by cases hl
 | _ :: _, [], hl, _ => by cases hl
 | a :: l, r :: rs, hl, h => by
  rw [List.forIn_cons, wK (h 0 a r rfl rfl)]
  cases r with
  | true =>
   simp only [if_true, List.all_cons, id, Bool.true_and]
   exact pev_forIn l rs (by simpa using hl) fun i a r h1 h2 => h (i + 1) a r (by simpa using h1) (by simpa using h2)
  | false => rfl
theorem eq_struct {t : TypeId} {d : Nat} {fs : List Field} {xs ys : Array Value} {rs : List Bool} (ht : pev P (underlying t) = some (.struct fs.toArray)) (hs : P.stoodInHeld t = false) (hl : fs.length = rs.length)
  (h : ∀ (i : Nat) (f : Field) (r : Bool), fs[i]? = some f → rs[i]? = some r → f.name ≠ "_" ∧ ∃ x y, pev P (part f.type xs f.offset) = some x ∧ pev P (part f.type ys f.offset) = some y ∧ pev P (Op.equalIn d f.type x y) = some r) :
  pev P (Op.equalIn (d+1) t (.agg xs) (.agg ys)) = some (rs.all id) := by
 unfold Op.equalIn
 rw [wK ht]
 simp only
 rw [wK (a := P) rfl]
 rw [hs]
 simp only [Bool.false_eq_true, if_false, List.forIn_toArray]
 rw [wK (pev_forIn fs rs hl ?_)]
 ·cases rs.all id <;> rfl
 ·intro i f r h1 h2
  obtain ⟨hn, x, y, hx, hy, he⟩ := h i f r h1 h2
  rw [if_pos hn, wK hx, wK hy, wK he]
  cases r <;> rfl
theorem eq_array {t e : TypeId} {d len m : Nat} {xs ys : Array Value} {rs : List Bool} (ht : pev P (underlying t) = some (.array len e)) (hm : pev P (sizeOf e) = some m) (hl : len = rs.length)
  (h : ∀ (i : Nat) (r : Bool), rs[i]? = some r → ∃ x y, pev P (part e xs (i * m)) = some x ∧ pev P (part e ys (i * m)) = some y ∧ pev P (Op.equalIn d e x y) = some r) :
  pev P (Op.equalIn (d+1) t (.agg xs) (.agg ys)) = some (rs.all id) := by
 unfold Op.equalIn
 rw [wK ht]
 simp only
 rw [wK hm]
 simp only [Std.Legacy.Range.forIn_eq_forIn_range']
 rw [wK (pev_forIn _ rs ?_ ?_)]
 ·cases rs.all id <;> rfl
 ·simp [Std.Legacy.Range.size, hl]
 ·intro i k r h1 h2
  obtain ⟨x, y, hx, hy, he⟩ := h i r h2
  have hk : k = i := by
   have h3 := (List.getElem?_eq_some_iff.1 h1).2
   rw [List.getElem_range'] at h3
   omega
  subst hk
  rw [wK hx, wK hy, wK he]
  cases r <;> rfl
def mapEs (l : List (Value × Value)) (k : Nat) : List MapEntry := (l.zipIdx k).map fun p => { key := p.1.1, val := p.1.2, born := p.2 }
def mapO (l : List (Value × Value)) : Obj := .map (mapEs l 0).toArray l.length
structure KeyT {α : Type} (P : Program) (kt : TypeId) (enc : α → Value) [DecidableEq α] : Prop where
 chk : ∀ e a, pev P (Instr.checkKey e 10000 kt (enc a)) = some ()
 eq : ∀ a b, pev P (Op.equal kt (enc a) (enc b)) = some (decide (a = b))
 now : ∀ (td : TypeDesc), pev P (underlying kt) = some td → ∀ a b, Instr.sameNow td (enc a) (enc b) = none ∨ Instr.sameNow td (enc a) (enc b) = some (decide (a = b))
 und : ∃ td, pev P (underlying kt) = some td
 bits : ∀ a, Instr.sameBits 10000 (enc a) (enc a) = true
variable {α : Type} [DecidableEq α] {kt : TypeId} {enc : α → Value}
def findL (a : α) : List (α × Value) → Nat → Option (Nat × Value)
 | [], _ => none
 | (b, v) :: l, i => if a = b then some (i, v) else findL a l (i + 1)
def encs (enc : α → Value) (l : List (α × Value)) : List (Value × Value) := l.map fun p => (enc p.1, p.2)
theorem mapEs_cons (p : Value × Value) (l : List (Value × Value)) (k : Nat) : mapEs (p :: l) k = { key := p.1, val := p.2, born := k } :: mapEs l (k + 1) := rfl
theorem findAsking_ok (h : KeyT P kt enc) (a : α) : ∀ (l : List (α × Value)) (k i : Nat), pev P (Instr.findAsking kt (enc a) (mapEs (encs enc l) k) i) = some (findL a l i)
 | [], _, _ => rfl
 | (b, v) :: l, k, i => by
  show pev P (Instr.findAsking kt (enc a) ({ key := enc b, val := v, born := k } :: mapEs (encs enc l) (k + 1)) i) = _
  unfold Instr.findAsking
  rw [wK (h.eq a b)]
  by_cases hab : a = b
  ·simp [hab, findL]; rfl
  ·simp only [hab, decide_false, Bool.false_eq_true, if_false, findL]
   exact findAsking_ok h a l (k + 1) (i + 1)
theorem findNow_ok (h : KeyT P kt enc) {td : TypeDesc} (ht : pev P (underlying kt) = some td) (a : α) : ∀ (l : List (α × Value)) (k i : Nat), Instr.findNow td (enc a) (mapEs (encs enc l) k) i = none ∨ Instr.findNow td (enc a) (mapEs (encs enc l) k) i = some (findL a l i)
 | [], _, _ => .inr rfl
 | (b, v) :: l, k, i => by
  show Instr.findNow td (enc a) ({ key := enc b, val := v, born := k } :: mapEs (encs enc l) (k + 1)) i = none ∨ Instr.findNow td (enc a) ({ key := enc b, val := v, born := k } :: mapEs (encs enc l) (k + 1)) i = _
  unfold Instr.findNow
  rcases h.now td ht a b with e | e
  ·left; simp only [e]
  ·by_cases hab : a = b
   ·subst hab; right; rw [show Instr.sameNow td (enc a) (enc a) = some true from by rw [e]; simp]; simp [findL]
   ·simp only [e, hab, decide_false, findL, if_false]
    exact findNow_ok h ht a l (k + 1) (i + 1)
theorem findKey_ok (h : KeyT P kt enc) (a : α) (l : List (α × Value)) : pev P (Instr.findKey kt (enc a) (mapEs (encs enc l) 0)) = some (findL a l 0) := by
 obtain ⟨td, ht⟩ := h.und
 unfold Instr.findKey
 rw [wK ht]
 rcases findNow_ok h ht a l 0 0 with e | e
 ·rw [e]; exact findAsking_ok h a l 0 0
 ·rw [e]; rfl
def putL (a : α) (v : Value) : List (α × Value) → List (α × Value)
 | [] => [(a, v)]
 | (b, u) :: l => if a = b then (b, v) :: l else (b, u) :: putL a v l
theorem putL_some (a : α) (v : Value) : ∀ (l : List (α × Value)) (k i j : Nat) (u : Value), findL a l i = some (j, u) → i ≤ j ∧ j - i < l.length ∧ (mapEs (encs enc l) k)[j - i]? = some { key := enc a, val := u, born := k + (j - i) } ∧
  (mapEs (encs enc l) k).modify (j - i) (fun e => { e with key := enc a, val := v }) = mapEs (encs enc (putL a v l)) k ∧ (putL a v l).length = l.length
 | [], _, _, _, _, h => by cases h
 | (b, w) :: l, k, i, j, u, h => by
  unfold findL at h
  by_cases hab : a = b
  ·rw [if_pos hab] at h
   simp only [Option.some.injEq, Prod.mk.injEq] at h
   obtain ⟨rfl, rfl⟩ := h
   subst hab
   refine ⟨Nat.le_refl _, by simp, by simp [encs, mapEs_cons], ?_, by simp [putL]⟩
   simp [encs, mapEs_cons, putL]
  ·rw [if_neg hab] at h
   obtain ⟨h1, h2, h3, h4, h5⟩ := putL_some a v l (k + 1) (i + 1) j u h
   have e : j - i = (j - (i + 1)) + 1 := by omega
   refine ⟨by omega, by simp; omega, ?_, ?_, by simp [putL, hab, h5]⟩
   ·rw [e]
    show (mapEs (encs enc l) (k + 1))[j - (i + 1)]? = _
    rw [h3]
    simp; omega
   ·rw [e]
    simp only [encs, List.map_cons, mapEs_cons, putL, if_neg hab]
    rw [List.modify_succ_cons]
    congr 1
theorem putL_none (a : α) (v : Value) : ∀ (l : List (α × Value)) (k i : Nat), findL a l i = none → mapEs (encs enc l) k ++ [{ key := enc a, val := v, born := k + l.length }] = mapEs (encs enc (putL a v l)) k ∧ (putL a v l).length = l.length + 1
 | [], _, _, _ => by simp [encs, mapEs, putL]
 | (b, w) :: l, k, i, h => by
  unfold findL at h
  by_cases hab : a = b
  ·rw [if_pos hab] at h; cases h
  ·rw [if_neg hab] at h
   obtain ⟨h1, h2⟩ := putL_none a v l (k + 1) (i + 1) h
   refine ⟨?_, by simp [putL, hab, h2]⟩
   simp only [encs, List.map_cons, mapEs_cons, putL, if_neg hab, List.cons_append, List.length_cons]
   congr 1
   have : k + (l.length + 1) = k + 1 + l.length := by omega
   rw [this]
   exact h1
section ops
variable {n : Nat} {ops : Array Oper} {d : Option Tmp} {op : Op} {ty : TypeId} {ps : String} {af : Array Edge} {os : List Oper} {K : Sl → Pv → AH → Prop} {E : Value → Sl → Pv → AH → Prop} {S : Sl} {L : Pv} {h : AH}
theorem op_makeMap {t : TypeId} (k : ∀ b, wl h L b = none → wpL P n ops os K E (put S d (.map (some b))) (L ++ [some (b, mapO [])]) h) : wpL P n ops (⟨d, .makeMap t none, ty, ps, af, none⟩ :: os) K E S L h := by
 refine op_of fun V => ?_
 unfold opW
 simp only [execOp, Option.map]
 refine wM ?_
 unfold Instr.makeMap
 refine wM ?_
 intro b hb
 exact ⟨_, h, wl_new hb _, valid_new V hb _, k b hb⟩
theorem op_mapUpdate (i : Nat) {t et : TypeId} {x y z : Operand} {m : Nat} {a : α} {v : Value} {l : List (α × Value)} (hk : KeyT P kt enc) (ht : pev P (underlying t) = some (.map kt et)) (hx : ev n S x = .map (some m)) (hy : ev n S y = enc a) (hz : ev n S z = v) (hi : L[i]? = some (some (m, mapO (encs enc l))))
  (k : wpL P n ops os K E (put S d undef) (L.set i (some (m, mapO (encs enc (putL a v l))))) h) : wpL P n ops (⟨d, .mapUpdate t x y z, ty, ps, af, none⟩ :: os) K E S L h := by
 refine op_of fun V => ?_
 unfold opW
 simp only [execOp, hx, hy, hz]
 refine wM ?_
 unfold Instr.mapUpdate
 refine wG ht ?_
 simp only
 refine wM ?_
 refine ⟨_, zK V hi, trivial, ?_⟩
 show dem P (Instr.checkKey false 10000 kt (enc a) >>= _) _ _ _
 refine wG (hk.chk false a) ?_
 have hf : pev P (Instr.findKey kt (enc a) (mapEs (encs enc l) 0).toArray.toList) = some (findL a l 0) := findKey_ok hk a l
 refine wG hf ?_
 cases hfl : findL a l 0 with
 | none =>
  obtain ⟨h1, h2⟩ := putL_none (enc := enc) a v l 0 0 hfl
  have eo : Obj.map ((mapEs (encs enc l) 0).toArray.push { key := enc a, val := v, born := (encs enc l).length }) ((encs enc l).length + 1) = mapO (encs enc (putL a v l)) := by
   unfold mapO
   rw [← h1]
   simp [encs, h2]
  refine ⟨_, zK V hi, trivial, ?_⟩
  show dem P (.pure ()) (hupd (wl h L) m (Obj.map ((mapEs (encs enc l) 0).toArray.push { key := enc a, val := v, born := (encs enc l).length }) ((encs enc l).length + 1))) _ _
  rw [eo, wl_set V hi]
  exact ⟨_, h, rfl, valid_set V hi, k⟩
 | some p =>
  obtain ⟨j, u⟩ := p
  obtain ⟨h1, h2, h3, h4, h5⟩ := putL_some (enc := enc) a v l 0 0 j u hfl
  simp only [Nat.sub_zero] at h3 h4
  have hkey : (((mapEs (encs enc l) 0).toArray[j]?).map (·.key)).getD (enc a) = enc a := by
   rw [List.getElem?_toArray, h3]; rfl
  have hst : pev P (Instr.keyThatStays ((((mapEs (encs enc l) 0).toArray[j]?).map (·.key)).getD (enc a)) (enc a)) = some (enc a) := by
   rw [hkey]
   unfold Instr.keyThatStays
   rw [hk.bits a]
   rfl
  show dem P (Instr.keyThatStays ((((mapEs (encs enc l) 0).toArray[j]?).map (·.key)).getD (enc a)) (enc a) >>= _) _ _ _
  refine wG hst ?_
  have eo : Obj.map ((mapEs (encs enc l) 0).toArray.modify j fun e => { e with key := enc a, val := v }) (encs enc l).length = mapO (encs enc (putL a v l)) := by
   unfold mapO
   rw [List.modify_toArray, h4]
   simp [encs, h5]
  refine ⟨_, zK V hi, trivial, ?_⟩
  show dem P (.pure ()) (hupd (wl h L) m (Obj.map ((mapEs (encs enc l) 0).toArray.modify j fun e => { e with key := enc a, val := v }) (encs enc l).length)) _ _
  rw [eo, wl_set V hi]
  exact ⟨_, h, rfl, valid_set V hi, k⟩
end ops
end
end Go.HL
namespace Go.HL
open Go
variable [Lvl]
section
variable {P : Program} {n : Nat} {ops : Array Oper} {d : Option Tmp} {op : Op} {ty : TypeId} {ps : String} {af : Array Edge} {os : List Oper} {K : Sl → Pv → AH → Prop} {E : Value → Sl → Pv → AH → Prop} {S : Sl} {L : Pv} {h : AH}
end
end Go.HL
namespace Go.HL
open Go
variable [Lvl]
section
variable {P : Program} {n : Nat} {ro : Option Nat} {K : Post} {S : Sl} {D : Df} {L : Pv} {h : AH}
def Again (P : Program) (n : Nat) (ro : Option Nat) (c : Code) (K : Post) (S : Sl) (D : Df) (L : Pv) (h : AH) : Prop := Goes P n ro [.inLoop c] K S D L h
theorem xp_unroll {c : Code} (g : xp P n ro c (thenK (Again P n ro c K) K) S D L h) : xp P n ro (.loop c) K S D L h :=
 goes_step (items' := [.code c] ++ [.inLoop c]) (fun b hb k cs w => by simp [stepG, stepG.exec, mk]) (goes_append (x := [.code c]) (y := [.inLoop c]) trivial g)
theorem wW {c : Operand} {x y : Code} {t : Bool} (hc : ev n S c = .bool t) (ht : t = true) (g : xp P n ro x K S D L h) : xp P n ro (.cond c x y) K S D L h :=
 qP hc (fun _ => g) (fun hf => by rw [ht] at hf; cases hf)
theorem wT {c : Operand} {x y : Code} {t : Bool} (hc : ev n S c = .bool t) (ht : t = false) (g : xp P n ro y K S D L h) : xp P n ro (.cond c x y) K S D L h :=
 qP hc (fun hf => by rw [ht] at hf; cases hf) (fun _ => g)
theorem zH {c : Code} (M : List Nat) (m : Nat) {α : Type} (V : α → List (Nat × Value)) (Lf : α → Pv) (J : α → AH → Prop) (μ : α → Nat) (a0 : α) (hV : HasL S (V a0)) (hL : Lf a0 = L) (h0 : J a0 h)
  (round : ∀ (a : α) (T : Sl) (h' : AH), Ext h h' → J a h' → xp P n ro c (thenK (fun S2 D2 L2 h2 => ∃ a2, HasL S2 (V a2) ∧ D2 = D ∧ L2.take m = Lf a2 ∧ Ext h h2 ∧ (∀ h3, Ext h2 h3 → J a2 h3) ∧ μ a2 < μ a ∧ Off M S S2) K) (updL (mix M T S) (V a)) D (Lf a) h') :
  xp P n ro (.loop c) K S D L h := by
 refine xp_loopM M m V (fun a D' L' h' => D' = D ∧ L' = Lf a ∧ Ext h h' ∧ J a h') μ a0 hV ⟨rfl, hL.symm, Ext.refl h, h0⟩ ?_
 rintro a T D' L' h' ⟨rfl, rfl, E, hJ⟩
 refine xp_mono ?_ (round a T h' E hJ)
 intro e S2 D2 L2 h2 kk
 cases e with
 | normal =>
  obtain ⟨a2, hv, hD, hL2, E2, hJ2, hlt, off⟩ := kk
  exact ⟨a2, hv, fun h3 E3 => ⟨hD, hL2, E2.trans E3, hJ2 h3 E3⟩, hlt, off⟩
 | exit id => exact kk
 | ret => exact kk
 | panic v => exact kk
end
section pv
variable {P : Program} {n : Nat} {d : Option Tmp} {op : Op} {ty : TypeId} {ps : String} {af : Array Edge} {S : Sl}
theorem wD {t e : TypeId} {x y : Operand} {A : Option Addr} {g off len cap m : Nat} {q : IntKind} {i : Int} (hx : ev n S x = .slice A len cap) (hA : A = some ⟨g, off, none⟩) (hy : ev n S y = .int q i)
  (ht : pev P (underlying t) = some (.slice e)) (hs : pev P (sizeOf e) = some m) (h0 : 0 ≤ i) (h1 : i < len) : pev P (execOp (ev n S) ⟨d, .indexAddr t x y, ty, ps, af, none⟩) = some (.value (.pointer (some ⟨g, off + i.toNat * m, none⟩))) := by
 subst hA
 exact pv_index hx hy ht hs h0 h1
theorem pv_indexV {x y : Operand} {t e : TypeId} {len : Nat} {cs : List Value} {q : IntKind} {i : Int} {v : Value} (hx : ev n S x = .agg cs.toArray) (hy : ev n S y = .int q i) (ht : pev P (underlying t) = some (.array len e)) (ha : pev P (isAgg e) = some false) (hs : pev P (sizeOf e) = some 1) (h0 : 0 ≤ i) (h1 : i < len) (hv : cs[i.toNat]? = some v) :
  pev P (execOp (ev n S) ⟨d, .index t x y, ty, ps, af, none⟩) = some (.value v) := by
 simp only [execOp, hx, hy]
 refine (wY (a := v) ?_).trans rfl
 unfold Instr.index
 refine (wK (a := (q, i)) rfl).trans ?_
 refine (wK ht).trans ?_
 simp only
 rw [if_pos ⟨h0, h1⟩]
 refine (wK hs).trans ?_
 unfold part
 refine (wK ha).trans ?_
 simp only [Bool.false_eq_true, if_false, Nat.mul_one, List.getElem?_toArray, hv]
 rfl
theorem i64_nat (a : Nat) (ha : a < 2 ^ 63) : IntKind.wrap .i64 (a : Int) = a := IntWalk.i64_in _ (by omega)
theorem i64_or (a b : Nat) (ha : a < 2 ^ 62) (hb : b < 2 ^ 62) : Value.int .i64 (IntKind.wrap .i64 ((BitVec.ofInt 64 (a : Int) ||| BitVec.ofInt 64 (b : Int)).toNat : Int)) = .int .i64 ((a ||| b : Nat) : Int) := by
 rw [BitVec.toNat_or, bv_nat a (by omega), bv_nat b (by omega), i64_nat _ (Nat.lt_of_lt_of_le (Nat.or_lt_two_pow ha hb) (by omega))]
theorem i64_and (a b : Nat) (ha : a < 2 ^ 62) (hb : b < 2 ^ 62) : Value.int .i64 (IntKind.wrap .i64 ((BitVec.ofInt 64 (a : Int) &&& BitVec.ofInt 64 (b : Int)).toNat : Int)) = .int .i64 ((a &&& b : Nat) : Int) := by
 rw [BitVec.toNat_and, bv_nat a (by omega), bv_nat b (by omega), i64_nat _ (Nat.lt_of_lt_of_le (Nat.and_lt_two_pow _ hb) (by omega))]
theorem i64_andNot (a b : Nat) (ha : a < 2 ^ 62) (hb : b < 2 ^ 62) : Value.int .i64 (IntKind.wrap .i64 ((BitVec.ofInt 64 (a : Int) &&& ~~~ BitVec.ofInt 64 (b : Int)).toNat : Int)) = .int .i64 ((a &&& (2 ^ 64 - 1 - b) : Nat) : Int) := by
 rw [BitVec.toNat_and, BitVec.toNat_not, bv_nat a (by omega), bv_nat b (by omega), i64_nat _ (Nat.lt_of_le_of_lt Nat.and_le_left (by omega))]
theorem pv_shl {q q' : IntKind} {x y : Operand} {t u : TypeId} (a k : Nat) {a' y' : Int} (hq : q = .i64 ∨ q = .u64) (hx : ev n S x = .int q a') (hy : ev n S y = .int q' y') (ea : a' = a) (ek : y' = k) (hk : k < 64) (hb : a * 2 ^ k < 2 ^ 63) :
  pev P (execOp (ev n S) ⟨d, .binOp .shl t x y u, ty, ps, af, none⟩) = some (.value (.int q ((a * 2 ^ k : Nat) : Int))) := by
 subst ea ek
 have e : IntKind.wrap q ((a : Int) * 2 ^ (min ((k : Int).toNat) (IntKind.bits q))) = ((a * 2 ^ k : Nat) : Int) := by
  rw [show min ((k : Int).toNat) (IntKind.bits q) = k from by rcases hq with rfl | rfl <;> (simp [IntKind.bits]; omega)]
  rw [show (a : Int) * 2 ^ k = ((a * 2 ^ k : Nat) : Int) from by push_cast; rfl]
  rcases hq with rfl | rfl
  ·exact i64_nat _ hb
  ·exact u64_nat _ (by omega)
 have hn : ¬ (k : Int) < 0 := by omega
 simp only [execOp, hx, hy, binOp, Op.shift, if_neg hn, e]
 rfl
theorem pv_shr {q q' : IntKind} {x y : Operand} {t u : TypeId} (a k : Nat) {a' y' : Int} (hq : q = .i64 ∨ q = .u64) (hx : ev n S x = .int q a') (hy : ev n S y = .int q' y') (ea : a' = a) (ek : y' = k) (hk : k < 64) :
  pev P (execOp (ev n S) ⟨d, .binOp .shr t x y u, ty, ps, af, none⟩) = some (.value (.int q ((a / 2 ^ k : Nat) : Int))) := by
 subst ea ek
 have e : (a : Int).fdiv (2 ^ (min ((k : Int).toNat) (IntKind.bits q))) = ((a / 2 ^ k : Nat) : Int) := by
  rw [show min ((k : Int).toNat) (IntKind.bits q) = k from by rcases hq with rfl | rfl <;> (simp [IntKind.bits]; omega)]
  rw [Int.fdiv_eq_ediv_of_nonneg _ (by exact_mod_cast Nat.zero_le (2 ^ k))]
  push_cast; rfl
 have hn : ¬ (k : Int) < 0 := by omega
 simp only [execOp, hx, hy, binOp, Op.shift, if_neg hn, e]
 rfl
theorem pv_eqA {x y : Operand} {t u : TypeId} {xs ys : List Value} {r : Bool} (hx : ev n S x = .agg xs.toArray) (hy : ev n S y = .agg ys.toArray) (hg : P.eqGuardType P.depth t = false) (he : pev P (Op.equalIn Op.maxDepth t (.agg xs.toArray) (.agg ys.toArray)) = some r) :
  pev P (execOp (ev n S) ⟨d, .binOp .eql t x y u, ty, ps, af, none⟩) = some (.value (.bool r)) := by
 simp only [execOp, hx, hy]
 refine (wY (a := .bool r) ?_).trans rfl
 refine (wK (a := ()) ?_).trans ?_
 ·unfold eqGuard
  simp only [Bool.not_true, Bool.false_eq_true, if_false]
  refine (wK (a := P) rfl).trans ((wK (a := P) rfl).trans ?_)
  rw [hg]
  rfl
 ·exact (wK he).trans rfl
end pv
section ops
variable {P : Program} {n : Nat} {ops : Array Oper} {d : Option Tmp} {op : Op} {ty : TypeId} {ps : String} {af : Array Edge} {os : List Oper} {K : Sl → Pv → AH → Prop} {E : Value → Sl → Pv → AH → Prop} {S : Sl} {L : Pv} {h : AH}
theorem wp_pub (i : Nat) {o : Oper} {b : Nat} {ob : Obj} (hg : o.guard = none) (hi : L[i]? = some (some (b, ob))) (g : ∀ h', Ext h h' → h' b = some ob → wpL P n ops (o :: os) K E S (L.set i none) h') : wpL P n ops (o :: os) K E S L h := by
 have hb : h b = none ∨ ∃ o', h b = some o' := by cases h b <;> simp
 rcases hb with hb | ⟨o', hb⟩
 ·have g1 := g (hupd h b ob) (Ext.new (Ext.refl h) hb ob) (by simp [hupd])
  unfold wpL at g1 ⊢
  rw [hg] at g1 ⊢
  intro V
  have := g1 (valid_pub V hi)
  rw [← wl_pub V hi] at this
  exact this
 ·unfold wpL
  rw [hg]
  intro V
  have := wl_fresh V hi
  rw [hb] at this
  cases this
end ops
end Go.HL
namespace Go.HL
open Go
variable [Lvl]
theorem ltI {k n : Nat} (h : decide ((k : Int) < (n : Int)) = true) : k < n := by have := of_decide_eq_true h; omega
theorem geI {k n : Nat} (h : decide ((k : Int) < (n : Int)) = false) : n ≤ k := by have := of_decide_eq_false h; omega
theorem wB {M M2 : List Nat} {S0 S T : Sl} (hs : M2.all (fun i => M.elem i) = true) (g : Off M S0 S) : Off M S0 (mix M2 T S) := by
 intro i hi
 unfold mix
 cases h2 : M2.elem i with
 | true =>
  have := List.all_eq_true.1 hs i (List.elem_iff.1 h2)
  rw [hi] at this
  cases this
 | false => exact g i hi
theorem qV {M : List Nat} {S0 : Sl} : ∀ {l : List (Nat × Value)} {S : Sl}, (l.all fun p => M.elem p.1) = true → Off M S0 S → Off M S0 (updL S l)
 | [], _, _, g => g
 | (d, v) :: l, S, hs, g => by
  rw [List.all_cons, Bool.and_eq_true] at hs
  exact qV (l := l) hs.2 (wA hs.1 g)
theorem xp_loopL {P : Program} {n : Nat} {ro : Option Nat} {K : Post} {S : Sl} {D : Df} {L : Pv} {h : AH} {c : Code} (M : List Nat) (m : Nat) {α : Type} (V : α → List (Nat × Value)) (Lg : α → Pv → Pv) (J : α → AH → Prop) (μ : α → Nat) (a0 : α) (hV : HasL S (V a0)) (hL : Lg a0 L = L) (h0 : J a0 h)
  (round : ∀ (a : α) (T : Sl) (h' : AH), Ext h h' → J a h' → xp P n ro c (thenK (fun S2 D2 L2 h2 => ∃ a2, HasL S2 (V a2) ∧ D2 = D ∧ L2.take m = Lg a2 L ∧ Ext h h2 ∧ (∀ h3, Ext h2 h3 → J a2 h3) ∧ μ a2 < μ a ∧ Off M S S2) K) (updL (mix M T S) (V a)) D (Lg a L) h') :
  xp P n ro (.loop c) K S D L h := zH M m V (fun a => Lg a L) J μ a0 hV hL h0 round
theorem xp_cutB {P : Program} {n : Nat} {ro : Option Nat} {K : Post} {S : Sl} {D : Df} {L : Pv} {h : AH} {x y : Code} (M : List Nat) (m : Nat) {α : Type} (V : α → List (Nat × Value)) (Lf : α → Pv → Pv) (J : α → AH → Prop)
  (h1 : xp P n ro x (thenK (fun S2 D2 L2 h2 => ∃ a2, HasL S2 (V a2) ∧ D2 = D ∧ L2.take m = Lf a2 L ∧ Ext h h2 ∧ (∀ h3, Ext h2 h3 → J a2 h3) ∧ Off M S S2) K) S D L h)
  (h2 : ∀ (a : α) (T : Sl) (h' : AH), Ext h h' → J a h' → xp P n ro y K (updL (mix M T S) (V a)) D (Lf a L) h') : xp P n ro (.seq x y) K S D L h := by
 refine qE (xp_mono ?_ h1)
 intro e S2 D2 L2 h3 kk
 cases e with
 | normal =>
  obtain ⟨a2, hv, hD, hL2, E2, hJ2, off⟩ := kk
  subst hD
  have e2 : updL (mix M S2 S) (V a2) = S2 := updL_self M S S2 off _ _ (mix_self off) hv
  refine goes_drop m fun h4 E4 => ?_
  have := h2 a2 S2 h4 (E2.trans E4) (hJ2 h4 E4)
  rw [e2, ← hL2] at this
  exact this
 | exit id => exact kk
 | ret => exact kk
 | panic v => exact kk
theorem qN {P : Program} {n : Nat} {ops : Array Oper} {os : List Oper} {K : Sl → Pv → AH → Prop} {E : Value → Sl → Pv → AH → Prop} {S : Sl} {L : Pv} {h : AH} (L' : Pv) (hL : L = L') (k : wpL P n ops os K E S L' h) : wpL P n ops os K E S L h := by subst hL; exact k
theorem wN {P : Program} {n : Nat} {ops : Array Oper} {mask : List Bool} {X : Sl → AH → Prop} {dn ac : List Nat} {S : Sl} {L : Pv} {h : AH} (L' : Pv) (hL : L = L') (k : Dw P n ops mask X dn ac S L' h) : Dw P n ops mask X dn ac S L h := by subst hL; exact k
theorem qU {P : Program} {n : Nat} {ro : Option Nat} {c : Code} {K : Post} {S : Sl} {D : Df} {L : Pv} {h : AH} (L' : Pv) (hL : L = L') (k : xp P n ro c K S D L' h) : xp P n ro c K S D L h := by subst hL; exact k
structure Acc where
 p : Option (Nat × Obj)
 A : Option Addr
 n : Nat
 c : Nat
abbrev Acc.v (a : Acc) : Value := .slice a.A a.n a.c
abbrev acc0 : Acc := ⟨none, none, 0, 0⟩
def AccR (e : TypeId) (m : Nat) (cs : List Value) (a : Acc) : Prop := AccP e m cs a.p (.slice a.A a.n a.c)
theorem accR0 {e : TypeId} {m : Nat} : AccR e m [] acc0 := .inl ⟨rfl, rfl, _, rfl⟩
theorem AccR.len {e : TypeId} {m : Nat} {cs : List Value} {a : Acc} (r : AccR e m cs a) : cs.length = a.n * m := by
 rcases r with ⟨_, rfl, A, ev⟩ | ⟨b, len, cap, junk, hl, ev, _, _⟩
 ·injection ev with _ h2 _; rw [h2]; simp
 ·injection ev with _ h2 _; rw [h2]; exact hl
theorem rdP {h : AH} {L : Pv} {i b : Nat} {cs : List Value} {e : TypeId} {f : Nat × Nat} (V : Valid h L) (hi : L[i]? = some (some (b, .cells cs.toArray e f))) : Rd (wl h L) (some ⟨b, 0, none⟩) cs := by
 intro _
 refine ⟨b, 0, rfl, fun j u hu => ?_⟩
 simp only [cellA, zK V hi, Nat.zero_add]
 simpa using hu
section
variable {P : Program} {n : Nat} {ops : Array Oper} {d : Option Tmp} {op : Op} {ty : TypeId} {ps : String} {af : Array Edge} {os : List Oper} {K : Sl → Pv → AH → Prop} {E : Value → Sl → Pv → AH → Prop} {S : Sl} {L : Pv} {h : AH}
theorem zA (i : Nat) {sT xT e : TypeId} {x y : Operand} {m : Nat} {a : Acc} {A : Option Addr} {lx cx : Nat} {cs xs : List Value} {z : Value} {zc : List Value} {inf : TypeInfo}
  (ha : AccR e m cs a) (hx : ev n S x = .slice a.A a.n a.c) (hi : L[i]? = some a.p) (hy : ev n S y = .slice A lx cx) (hr : Valid h L → Rd (wl h L) A xs) (hl : xs.length = lx * m) (hp : xs.all plainB = true)
  (ht : pev P (underlying sT) = some (.slice e)) {e' : TypeId} (hu : pev P (underlying xT) = some (.slice e')) (hi' : pev P (typeInfo e) = some inf) (hs : pev P (sizeOf e) = some m)
  (hz : pev P (zeroValue e) = some z) (hzc : z.cells = zc.toArray) (hzl : zc.length = m) (hm : 0 < m) (hby : Nat.ble inf.bytes 1024 = true) (hsmall : cs.length + xs.length < 2 ^ 30)
  (k : ∀ (a' : Acc) h', Ext h h' → AccR e m (cs ++ xs) a' → wpL P n ops os K E (put S d (.slice a'.A a'.n a'.c)) (L.set i a'.p) h') : wpL P n ops (⟨d, .call ⟨.builtin .append, #[x, y], #[sT, xT]⟩, ty, ps, af, none⟩ :: os) K E S L h := by
 refine op_append i hx hi ha hy hr hl hp ht hu hi' hs hz hzc hzl hm hby hsmall ?_
 intro p' v' h' E' ha'
 rcases ha' with ⟨h1, h2, A', h3⟩ | ⟨b, len, cap, junk, h1, h2, h3, h4⟩
 ·subst h3
  exact k ⟨p', A', 0, 0⟩ h' E' (.inl ⟨h1, h2, A', rfl⟩)
 ·subst h2
  exact k ⟨p', some ⟨b, 0, none⟩, len, cap⟩ h' E' (.inr ⟨b, len, cap, junk, h1, rfl, h3, h4⟩)
end
theorem goes_pubO {P : Program} {n : Nat} {ro : Option Nat} {K : Post} {S : Sl} {D : Df} {L : Pv} {h : AH} {items : List Item} (i : Nat) {p : Option (Nat × Obj)} (hi : L[i]? = some p) (g : ∀ h', Ext h h' → (∀ b o, p = some (b, o) → h' b = some o) → Goes P n ro items K S D (L.set i none) h') : Goes P n ro items K S D L h := by
 cases p with
 | none =>
  have e : L.set i none = L := by
   apply List.ext_getElem?
   intro j
   rw [List.getElem?_set]
   by_cases hj : i = j
   ·subst hj
    have hl := (List.getElem?_eq_some_iff.1 hi).1
    simp [hl]
    exact ((List.getElem?_eq_some_iff.1 hi).2).symm
   ·simp [hj]
  have := g h (Ext.refl h) (fun _ _ e => by cases e)
  rw [e] at this
  exact this
 | some q =>
  obtain ⟨b, o⟩ := q
  exact goes_pub i hi fun h' E hb => g h' E (fun b' o' e => by cases e; exact hb)
theorem AccR.rd {e : TypeId} {m : Nat} {cs : List Value} {a : Acc} {h : AH} (r : AccR e m cs a) (hp : ∀ b o, a.p = some (b, o) → h b = some o) : Rd h a.A cs := by
 rcases r with ⟨_, rfl, A, ev⟩ | ⟨b, len, cap, junk, hl, ev, hpp, _⟩
 ·exact Rd.nil _ _
 ·intro _
  injection ev with h1 _ _
  refine ⟨b, 0, h1, fun j u hu => ?_⟩
  have hj : (cs ++ junk)[j]? = some u := by rw [List.getElem?_append_left (List.getElem?_eq_some_iff.1 hu).1]; exact hu
  simp only [cellA, hp b _ hpp, Nat.zero_add]
  simpa using hj
section pv
variable {P : Program} {n : Nat} {d : Option Tmp} {op : Op} {ty : TypeId} {ps : String} {af : Array Edge} {S : Sl}
end pv
section keys
variable {P : Program}
theorem chk_int {t : TypeId} {q q' : IntKind} {d : Nat} {e : Bool} {a : Int} (ht : pev P (underlying t) = some (.int q')) : pev P (Instr.checkKey e (d+1) t (.int q a)) = some () := by
 unfold Instr.checkKey
 rw [wK ht]
 rfl
end keys
end Go.HL
namespace Go.HL
open Go
variable [Lvl]
section
variable {P : Program} {n : Nat} {ops : Array Oper} {d : Option Tmp} {op : Op} {ty : TypeId} {ps : String} {af : Array Edge} {os : List Oper} {K : Sl → Pv → AH → Prop} {E : Value → Sl → Pv → AH → Prop} {S : Sl} {L : Pv} {h : AH}
theorem op_allocF (i : Nat) {t : TypeId} {z : Value} {cs : List Value} (hi : L[i]? = some none) (hz : pev P (zeroValue t) = some z) (hcs : z.cells = cs.toArray)
  (k : ∀ b, wl h L b = none → wpL P n ops os K E (put S d (.pointer (some ⟨b, 0, none⟩))) (L.set i (some (b, .cells cs.toArray t (0, 0)))) h) : wpL P n ops (⟨d, .alloc t, ty, ps, af, none⟩ :: os) K E S L h := by
 refine op_of fun V => ?_
 unfold opW
 simp only [execOp]
 refine wM (wM (dem_pev hz ?_))
 refine wM (wM ?_)
 intro b hb
 rw [hcs]
 obtain ⟨e, V'⟩ := wl_fill V hi hb (.cells cs.toArray t (0, 0))
 exact ⟨_, h, e, V', k b hb⟩
theorem op_boxF (i : Nat) {t : TypeId} {x : Operand} {v : Value} {cs : List Value} (hi : L[i]? = some none) (hx : ev n S x = v) (hcs : v.cells = cs.toArray)
  (k : ∀ b, wl h L b = none → wpL P n ops os K E (put S d (.pointer (some ⟨b, 0, none⟩))) (L.set i (some (b, .cells cs.toArray t (0, 0)))) h) : wpL P n ops (⟨d, .box t x, ty, ps, af, none⟩ :: os) K E S L h := by
 refine op_of fun V => ?_
 unfold opW
 simp only [execOp, hx]
 refine wM (wM (wM ?_))
 intro b hb
 rw [hcs]
 obtain ⟨e, V'⟩ := wl_fill V hi hb (.cells cs.toArray t (0, 0))
 exact ⟨_, h, e, V', k b hb⟩
end
section
variable {P : Program} {n : Nat} {ro : Option Nat} {K : Post} {S : Sl} {D : Df} {L : Pv} {h : AH}
theorem xp_loopN {c : Code} (M : List Nat) {α : Type} (V : α → List (Nat × Value)) (Lf : α → Pv) (J : α → AH → Prop) (μ : α → Nat) (a0 : α) (hV : HasL S (V a0)) (hL : Lf a0 = L) (h0 : J a0 h)
  (round : ∀ (a : α) (T : Sl) (h' : AH), Ext h h' → J a h' → xp P n ro c (thenK (fun S2 D2 L2 h2 => ∃ a2, HasL S2 (V a2) ∧ D2 = D ∧ L2 = Lf a2 ∧ Ext h h2 ∧ J a2 h2 ∧ μ a2 < μ a ∧ Off M S S2) K) (updL (mix M T S) (V a)) D (Lf a) h') :
  xp P n ro (.loop c) K S D L h := by
 have key : ∀ u a h' T, μ a = u → Ext h h' → J a h' → Goes P n ro ([.code c] ++ [.inLoop c]) K (updL (mix M T S) (V a)) D (Lf a) h' := by
  intro u
  induction u using Nat.strongRecOn with
  | _ u ih =>
   intro a h' T hm hE hJ
   refine goes_append trivial (Goes.mono (round a T h' hE hJ) ?_)
   intro e S2 D2 L2 h2 kk
   cases e with
   | normal =>
    obtain ⟨a2, hv, hD, hL2, E2, hJ2, hlt, off⟩ := kk
    subst hD hL2
    have e2 : updL (mix M S2 S) (V a2) = S2 := updL_self M S S2 off _ _ (mix_self off) hv
    have := ih (μ a2) (hm ▸ hlt) a2 h2 S2 rfl E2 hJ2
    rw [e2] at this
    exact goes_step (items' := [.code c] ++ [.inLoop c]) (fun b hb k cs w => by simp [stepG, stepG.exec, mk]) this
   | exit id => exact kk
   | ret => exact kk
   | panic v => exact kk
 have e0 : updL (mix M S S) (V a0) = S := updL_self M S S (wQ M S) _ _ (mix_self (wQ M S)) hV
 have := key _ a0 h S rfl (Ext.refl h) h0
 rw [e0, hL] at this
 exact goes_step (items' := [.code c] ++ [.inLoop c]) (fun b hb k cs w => by simp [stepG, stepG.exec, mk]) this
end
theorem dw_pub {P : Program} {n : Nat} {ops : Array Oper} {X : Sl → AH → Prop} {dn ac : List Nat} {S : Sl} {L : Pv} {h : AH} (i : Nat) {b : Nat} {o : Obj} (hi : L[i]? = some (some (b, o))) (k : ∀ h', Ext h h' → h' b = some o → Dw P n ops [] X dn ac S (L.set i none) h') : Dw P n ops [] X dn ac S L h := by
 intro V G hG
 have k1 := k (hupd h b o) (Ext.new (Ext.refl h) (wl_fresh V hi) o) (by simp [hupd]) (valid_pub V hi) G (by
  intro g hg
  obtain ⟨h1, h2, h3⟩ := hG g hg
  refine ⟨h1, h2, ?_⟩
  have e : wl (hupd h b o) (rmM [] (L.set i none)) = wl h (rmM [] L) := (wl_pub V hi).symm
  rw [e]
  exact h3)
 rw [← wl_pub V hi] at k1
 exact k1
def Yields {α : Type} (P : Program) (y : Value) (all : List α) (enc : α → Value) (I : Nat → AH → Pv → Prop) : Prop :=
 ∀ (k : Nat) (x : α) (h : AH) (M : Pv), all[k]? = some x → I k h M → FnM P y [enc x] h M (fun v h' M' => v = .bool true ∧ I (k + 1) h' M')
def Iter {α : Type} (P : Program) (f : Value) (h0 : AH) (all : List α) (enc : α → Value) : Prop :=
 ∀ (fn : Fn) (fs cs : Array Value) (I : Nat → AH → Pv → Prop), (∀ k h h' M, Ext h h' → I k h M → I k h' M) → Yields P (.func fn fs cs) all enc I → ∀ h M, Ext h0 h → I 0 h M → FnM P f [.func fn fs cs] h M (fun _ h' M' => I all.length h' M')
theorem Iter.ext {α : Type} {P : Program} {f : Value} {h h' : AH} {all : List α} {enc : α → Value} (i : Iter P f h all enc) (E : Ext h h') : Iter P f h' all enc :=
 fun fn fs cs I hI Y h1 M E1 => i fn fs cs I hI Y h1 M (E.trans E1)
end Go.HL
namespace Go.HL
open Go
variable [Lvl]
theorem lookup_mem : ∀ {l : P0}, (l.map (·.1)).Nodup → ∀ {b : Nat} {o : Obj}, l.lookup b = some o ↔ (b, o) ∈ l
 | [], _, b, o => by simp
 | (c, q) :: l, nd, b, o => by
  rw [List.map_cons, List.nodup_cons] at nd
  rw [List.lookup_cons]
  by_cases hb : b = c
  ·subst hb
   simp only [beq_self_eq_true, if_true, Option.some.injEq, List.mem_cons, Prod.mk.injEq, true_and]
   constructor
   ·rintro rfl; exact .inl rfl
   ·rintro (h | h)
    ·exact h.symm
    ·exact absurd (List.mem_map.2 ⟨_, h, rfl⟩) nd.1
  ·have : (b == c) = false := by simpa using hb
   simp only [this, Bool.false_eq_true, if_false, List.mem_cons, Prod.mk.injEq, hb, false_and, false_or]
   exact lookup_mem nd.2
theorem wl_perm {h : AH} {L L' : Pv} (p : (cl L).Perm (cl L')) (V : Valid h L) : wl h L = wl h L' ∧ Valid h L' := by
 have nd' : ((cl L').map (·.1)).Nodup := (p.map _).nodup_iff.1 V.nd
 refine ⟨?_, ⟨nd', fun q hq => V.fresh q (p.mem_iff.2 hq), V.fin⟩⟩
 have e : ∀ b, (cl L).lookup b = (cl L').lookup b := by
  intro b
  apply Option.ext
  intro o
  show (cl L).lookup b = some o ↔ (cl L').lookup b = some o
  rw [lookup_mem V.nd, lookup_mem nd', p.mem_iff]
 funext b
 unfold wl wl0
 rw [e b]
theorem mid_perm (pre M post : Pv) : (cl (pre ++ M ++ post)).Perm (cl (pre ++ post ++ M)) := by
 simp only [cl_append, List.append_assoc]
 exact List.Perm.append_left _ List.perm_append_comm
section
variable {P : Program} {n : Nat} {ops : Array Oper} {d : Option Tmp} {op : Op} {ty : TypeId} {ps : String} {af : Array Edge} {os : List Oper} {K : Sl → Pv → AH → Prop} {E : Value → Sl → Pv → AH → Prop} {S : Sl} {L : Pv} {h : AH}
theorem op_fnMM (pre M post : Pv) {x : Operand} {xs : List Operand} {ats : Array TypeId} {y : Value} {vs : List Value} {R : Value → AH → Pv → Prop} (hf : ev n S x = y) (hx : xs.map (ev n S) = vs) (hL : L = pre ++ M ++ post) (c : FnM P y vs h M R)
  (k : ∀ v h' M', Ext h h' → R v h' M' → wpL P n ops os K E (put S d v) (pre ++ M' ++ post) h') : wpL P n ops (⟨d, .call ⟨.value x, xs.toArray, ats⟩, ty, ps, af, none⟩ :: os) K E S L h := by
 subst hL
 refine op_of fun V => ?_
 obtain ⟨e, V'⟩ := wl_perm (mid_perm pre M post) V
 have w : wpL P n ops [⟨d, .call ⟨.value x, xs.toArray, ats⟩, ty, ps, af, none⟩] (fun S' L' h' => ∃ M', L' = pre ++ post ++ M' ∧ wpL P n ops os K E S' (pre ++ M' ++ post) h') (fun _ _ _ _ => False) S (pre ++ post ++ M) h :=
  op_fnM (pre ++ post) M hf hx rfl c fun v h' M' E' r => ⟨M', rfl, k v h' M' E' r⟩
 have w' := w V'
 rw [e]
 refine opW_mono ?_ ?_ w'
 ·rintro v H ⟨L', h', rfl, V1, M', rfl, w2⟩
  obtain ⟨e1, V2⟩ := wl_perm (mid_perm pre M' post).symm V1
  exact ⟨_, h', e1, V2, w2⟩
 ·rintro v H ⟨L', h', _, _, y⟩; exact y.elim
end
theorem rm_set : ∀ (m : List Bool) (L : Pv) (i : Nat), rmM m (L.set i none) = (rmM m L).set i none
 | [], L, i => by simp [rmM]
 | true :: m, [], i => by simp [rmM]
 | false :: m, [], i => by simp [rmM]
 | true :: m, p :: L, 0 => by simp [rmM]
 | false :: m, p :: L, 0 => by simp [rmM]
 | true :: m, p :: L, i + 1 => by simp [rmM, rm_set m L i]
 | false :: m, p :: L, i + 1 => by simp [rmM, rm_set m L i]
theorem rm_at : ∀ (m : List Bool) (L : Pv) (i : Nat) (p : Option (Nat × Obj)), L[i]? = some p → (rmM m L)[i]? = some p ∨ (rmM m L)[i]? = some none
 | [], L, i, p, h => by left; simpa [rmM] using h
 | _ :: m, [], i, p, h => by simp at h
 | true :: m, q :: L, 0, p, h => by right; simp [rmM]
 | false :: m, q :: L, 0, p, h => by left; simpa [rmM] using h
 | true :: m, q :: L, i + 1, p, h => by have := rm_at m L i p (by simpa using h); simpa [rmM] using this
 | false :: m, q :: L, i + 1, p, h => by have := rm_at m L i p (by simpa using h); simpa [rmM] using this
theorem set_same {L : Pv} {i : Nat} (h : L[i]? = some none) : L.set i none = L := by
 apply List.ext_getElem?
 intro j
 rw [List.getElem?_set]
 by_cases hj : i = j
 ·subst hj
  have hl := (List.getElem?_eq_some_iff.1 h).1
  simp [hl]
  exact ((List.getElem?_eq_some_iff.1 h).2).symm
 ·simp [hj]
theorem dw_pubM {P : Program} {n : Nat} {ops : Array Oper} {mask : List Bool} {X : Sl → AH → Prop} {dn ac : List Nat} {S : Sl} {L : Pv} {h : AH} (i : Nat) {b : Nat} {o : Obj} (hi : L[i]? = some (some (b, o))) (k : ∀ h', Ext h h' → h' b = some o → Dw P n ops mask X dn ac S (L.set i none) h') : Dw P n ops mask X dn ac S L h := by
 intro V G hG
 have e : wl (hupd h b o) (L.set i none) = wl h L := (wl_pub V hi).symm
 have k1 := k (hupd h b o) (Ext.new (Ext.refl h) (wl_fresh V hi) o) (by simp [hupd]) (valid_pub V hi) G (by
  intro g hg
  obtain ⟨h1, h2, h3⟩ := hG g hg
  refine ⟨h1, h2, h2 _ _ ?_ h3⟩
  rw [rm_set]
  rcases rm_at mask L i _ hi with hr | hr
  ·rw [← wl_pub (valid_rm V) hr]; exact Ext.refl _
  ·rw [set_same hr]; exact ext_wlm (Ext.new (Ext.refl h) (wl_fresh V hi) o) _)
 rw [e] at k1
 exact k1
theorem rm_app : ∀ (m : List Bool) (L : Pv) (q : Option (Nat × Obj)), rmM m (L ++ [q]) = rmM m L ++ [q] ∨ rmM m (L ++ [q]) = rmM m L ++ [none]
 | [], L, q => by left; simp [rmM]
 | true :: m, [], q => by right; cases m with | nil => rfl | cons b m => cases b <;> rfl
 | false :: m, [], q => by left; cases m with | nil => rfl | cons b m => cases b <;> rfl
 | true :: m, p :: L, q => by rcases rm_app m L q with h | h <;> simp [rmM, h]
 | false :: m, p :: L, q => by rcases rm_app m L q with h | h <;> simp [rmM, h]
theorem ext_newM {m : List Bool} {h : AH} {L : Pv} {b : Nat} (hb : wl h L b = none) (o : Obj) : Ext (wl h (rmM m L)) (wl h (rmM m (L ++ [some (b, o)]))) := by
 have h1 := wl0_none hb
 have h2 : wl h (rmM m L) b = none := by
  unfold wl wl0
  rw [(lookup_none_iff _ _).2 fun p hp => h1.2 p ((rm_sub m L).subset hp)]
  exact h1.1
 rcases rm_app m L (some (b, o)) with e | e
 ·rw [e]; exact ext_new h2 o
 ·rw [e]
  have : wl h (rmM m L ++ [none]) = wl h (rmM m L) := by unfold wl; rw [cl_append]; simp [cl]
  rw [this]; exact Ext.refl _
theorem AccR.some {e : TypeId} {m : Nat} {cs : List Value} {a : Acc} (r : AccR e m cs a) (hc : cs ≠ []) : ∃ b len cap junk, cs.length = len * m ∧ a = ⟨some (b, .cells (cs ++ junk).toArray e (0, 0)), some ⟨b, 0, none⟩, len, cap⟩ := by
 obtain ⟨p, A, n, c⟩ := a
 rcases r with ⟨_, h, _⟩ | ⟨b, len, cap, junk, hl, ev, hpp, _⟩
 ·exact absurd h hc
 ·injection ev with h1 h2 h3
  dsimp only at h1 h2 h3 hpp
  exact ⟨b, len, cap, junk, hl, by rw [h1, h2, h3, hpp]⟩
end Go.HL
namespace Go.HL
open Go Go.Conc
variable [Lvl]
section
variable {P : Program} {n : Nat} {ro : Option Nat} {S : Sl} {D : Df} {L : Pv} {h : AH} {ops : Array Oper} {i : Nat} {rest : List Nat} {o : Oper} {b : Frame} {k : List Item} {cs : List Frame} {w : World} {main : Bool}
theorem rch_op {K E : Value → Pv → AH → Prop} (ho : ops[i]? = some o) (hc : Op.calm o.op) (hw : Region.wanted o (yielded ops (arr n S)) = true) (r : opL P n o S L h K E) {H : AH} (V : Fits h L D H) (b : Frame) (k : List Item) (cs : List Frame) :
  Rch P (fun fr cs' H' => cs' = cs ∧ ((∃ v L' h', fr = mk b n (put S o.dst v) D (.inRegion ops rest :: k) ∧ Fits h' L' D H' ∧ K v L' h') ∨
   (∃ v L' h', fr = { mk b n S D (.inRegion ops (i :: rest) :: k) with mode := .panicking [{ v := v, recovered := false }] } ∧ Fits h' L' D H' ∧ E v L' h'))) (mk b n S D (.inRegion ops (i :: rest) :: k)) cs H := by
 have r1 := opW_frameE (r V.valid) (fin_wl V.valid) V.disj
 rw [← V.eq] at r1
 refine .sem (execOp (ev n S) o) (fun x => match x with | .value _ => True | .skip => True | .enter _ _ => True | .round _ _ _ _ _ => True | _ => False) (fun _ => True)
  (fun x => match x with
   | .value v => (mk b n (put S o.dst v) D (.inRegion ops rest :: k), cs)
   | .skip => (mk b n (put S o.dst undef) D (.inRegion ops rest :: k), cs)
   | .enter f args => (Frame.enter P f args .normal, mk b n S D (.inRegion ops (i :: rest) :: k) :: cs)
   | .round l f tmps a c => (Frame.round l f tmps a c .normal, mk b n S D (.inRegion ops (i :: rest) :: k) :: cs)
   | _ => (b, cs))
  (fun v => ({ mk b n S D (.inRegion ops (i :: rest) :: k) with mode := .panicking [{ v := v, recovered := false }] }, cs)) _ _ ?_ (dem_fin V.fin r1) ?_ (fun _ _ _ => trivial) ?_ ?_
 ·intro main w
  have hg := stepG_mk_op (P := P) b S D ops i rest k cs o ho hc hw main w
  have hf := mk_finish (n := n) b S D ops i rest k o ho
  refine ⟨fun x w' hr hx => ?_, fun v w' hr _ => ?_⟩
  ·rw [hg]
   cases x <;> first | exact hx.elim | (simp only [stepG.apply, Sem.runT_eq, hr, if_true, hf, tells_after, tells_go]; refine ⟨⟨?_, ?_, ?_⟩, ?_⟩ <;> first | trivial | rfl | exact seen_if _ _ _ _ | exact fun _ he => absurd he (by simp))
  ·rw [hg]
   simp only [stepG.apply, Sem.runT_eq, hr, if_true, tells_after, tells_go]
   refine ⟨⟨?_, ?_, ?_⟩, ?_⟩ <;> first | trivial | rfl | exact seen_if _ _ _ _ | exact fun _ he => absurd he (by simp)
 ·rintro x h' ⟨_, hx⟩
  cases x <;> first | exact trivial | exact hx
 ·have call : ∀ (fr0 : Frame) (h' : AH), Fin h' → EnterT P fr0 h' (fun v H2 => ∃ H1, H2 = hun H1 (mkH D) ∧ Disj H1 (mkH D) ∧ Fin H1 ∧ ∃ L' h'', H1 = wl h'' L' ∧ Valid h'' L' ∧ K v L' h'')
    (fun v H2 => ∃ H1, H2 = hun H1 (mkH D) ∧ Disj H1 (mkH D) ∧ Fin H1 ∧ ∃ L' h'', H1 = wl h'' L' ∧ Valid h'' L' ∧ E v L' h'') →
    Rch P (fun fr cs' H' => cs' = cs ∧ ((∃ v L' h', fr = mk b n (put S o.dst v) D (.inRegion ops rest :: k) ∧ Fits h' L' D H' ∧ K v L' h') ∨
     (∃ v L' h', fr = { mk b n S D (.inRegion ops (i :: rest) :: k) with mode := .panicking [{ v := v, recovered := false }] } ∧ Fits h' L' D H' ∧ E v L' h'))) fr0 (mk b n S D (.inRegion ops (i :: rest) :: k) :: cs) h' := by
   intro fr0 h' hfin hx
   refine (hx hfin (mk b n S D (.inRegion ops (i :: rest) :: k)) cs).bind ?_
   rintro fr cs' H' ⟨rfl, ⟨v, rfl, H1, e1, d1, f1, L', h1, rfl, V', g⟩ | ⟨v, rfl, H1, e1, d1, f1, L', h1, rfl, V', g⟩⟩
   ·rw [mk_finish b S D ops i rest k o ho]
    exact .done ⟨rfl, .inl ⟨v, L', h1, rfl, V.step V' d1 e1, g⟩⟩
   ·exact .done ⟨rfl, .inr ⟨v, L', h1, rfl, V.step V' d1 e1, g⟩⟩
  rintro x h' ⟨hfin, hx⟩
  cases x with
  | value v =>
   obtain ⟨H1, e1, d1, f1, L', h1, rfl, V', g⟩ := hx
   exact .done ⟨rfl, .inl ⟨v, L', h1, rfl, V.step V' d1 e1, g⟩⟩
  | skip =>
   obtain ⟨H1, e1, d1, f1, L', h1, rfl, V', g⟩ := hx
   exact .done ⟨rfl, .inl ⟨undef, L', h1, rfl, V.step V' d1 e1, g⟩⟩
  | enter f args => exact call _ h' hfin hx
  | round l f tmps a c => exact call _ h' hfin hx
  | _ => exact hx.elim
 ·rintro v h' ⟨_, H1, e1, d1, f1, L', h1, rfl, V', g⟩
  exact .done ⟨rfl, .inr ⟨v, L', h1, rfl, V.step V' d1 e1, g⟩⟩
def baseG (P : Program) (ds : List Deferred) : Frame := { (default : Frame) with fn := P.funcs.size, defers := ds, mode := .panicking [goexitEntry] }
theorem seen_nil (fn : FuncId) : seen P fn #[] = #[] := rfl
theorem after_nil (s : GStep) : GStep.after #[] s = s := by cases s <;> simp [GStep.after]
theorem step_go {x : Operand} {f : FuncId} {fs cap : Array Value} (ho : ops[i]? = some o) (hw : Region.wanted o (yielded ops (arr n S)) = true) (hop : o.op = .go { callee := .value x, args := #[], argTypes := #[] }) (hx : ev n S x = .func (.func f) fs cap) :
  stepG P main (G (mk b n S D (.inRegion ops (i :: rest) :: k)) cs) w =
   .spawn (G (mk b n (put S o.dst undef) D (.inRegion ops rest :: k)) cs) (G (baseG P [{ target := .fn (.func f) cap, args := fs }]) []) w := by
 rw [stepG_mk_op b S D ops i rest k cs o ho (by rw [hop]; trivial) hw main w]
 have hr : (execOp (ev n S) o).runT P w #[] = (.ok (.spawn { target := .fn (.func f) cap, args := fs }) w, #[]) := by
  unfold execOp
  simp only [hop, resolve, Deferred.ofValue, hx]
  simp [bind, pure, Sem.bind, Sem.runT, -Sem.runT_eq]
 have hf := mk_finish (n := n) b S D ops i rest k o ho undef
 unfold stepG.apply
 simp only [hr, if_true]
 rw [hf]
 split <;> simp_all [seen_nil, after_nil, baseG]
theorem step_base {f : FuncId} {fn : Func} {c : Code} {args cap : Array Value} (hf : P.funcs[f]? = some fn) (hname : (fn.name == "runtime.NumGoroutine") = false) (hb : fn.body = some c) (ds : List Deferred) :
  stepG P main (G (baseG P ({ target := .fn (.func f) cap, args := args } :: ds)) cs) w = .go (G (Frame.enter P f (args ++ cap) .deferred) (baseG P ds :: cs)) w := by
 have h1 : ¬ fn.name = "runtime.NumGoroutine" := by simpa using hname
 simp [stepG, unwind, callDeferred, baseG, invoke, callFunc, hf, h1, hb, GStep.after, seen_none]
def pev0 (P : Program) {α : Type} : Sem α → Option α
 | .pure a => some a
 | .program k => pev0 P (k P)
 | _ => none
omit [Lvl] in
theorem runT_pev0 {α : Type} {s : Sem α} {a : α} (h : pev0 P s = some a) (w : World) (es : Array Event) : s.runT P w es = (.ok a w, es) := by
 induction s with
 | pure x => simp only [pev0, Option.some.injEq] at h; subst h; rfl
 | program k ih => exact ih P h
 | _ => simp [pev0] at h
omit [Lvl] in
theorem pev0_bind {α β : Type} {s : Sem α} {f : α → Sem β} {a : α} (h : pev0 P s = some a) : pev0 P (s.bind f) = pev0 P (f a) := by
 induction s with
 | pure x => simp only [pev0, Option.some.injEq] at h; subst h; rfl
 | program k ih => exact ih P h
 | _ => simp [pev0] at h
theorem step_comm {cases : Array CommCase} {sh : CommShape} (ho : ops[i]? = some o) (hw : Region.wanted o (yielded ops (arr n S)) = true) (hc : Op.calm o.op) (hr : pev0 P (execOp (ev n S) o) = some (.comm cases true sh)) :
  stepG P main (G (mk b n S D (.inRegion ops (i :: rest) :: k)) cs) w = .comm (G (mk b n S D (.inRegion ops (i :: rest) :: k)) cs) cases true sh w := by
 rw [stepG_mk_op b S D ops i rest k cs o ho hc hw main w]
 unfold stepG.apply
 simp only [runT_pev0 hr, if_true]
 split <;> simp_all [seen_nil, after_nil]
omit [Lvl] in
theorem exec_recv {t : TypeId} {x : Operand} {c : Nat} {dr : ChanDir} {e : TypeId} {z : Value} (hop : o.op = .recv t x true) (hx : ev n S x = .chan (some c)) (ht : pev0 P (underlying t) = some (.chan dr e)) (hz : pev0 P (zeroValue e) = some z) :
  pev0 P (execOp (ev n S) o) = some (.comm #[rcase c z] true (.recv true)) := by
 unfold execOp
 simp only [hop, hx]
 refine (pev0_bind ht).trans ?_
 refine (pev0_bind hz).trans ?_
 rfl
omit [Lvl] in
theorem exec_send {x y : Operand} {c : Nat} {v : Value} (hop : o.op = .send x y) (hx : ev n S x = .chan (some c)) (hy : ev n S y = v) : pev0 P (execOp (ev n S) o) = some (.comm #[scase c v (.tuple #[])] true .send) := by
 unfold execOp
 simp only [hop, hx, hy]
 rfl
def laterB (bi : Builtin) (ats : Array TypeId) (ty : TypeId) (v : Value) : Deferred := { target := .builtin bi ats ty #[false], args := #[v] }
theorem step_defer {bi : Builtin} {ats : Array TypeId} {x : Tmp} {v : Value} (ho : ops[i]? = some o) (hw : Region.wanted o (yielded ops (arr n S)) = true) (hop : o.op = .defer { callee := .builtin bi, args := #[.tmp x], argTypes := ats }) (hx : ev n S (.tmp x) = v) (hro : b.roundOf = none) :
  stepG P main (G (mk b n S D (.inRegion ops (i :: rest) :: k)) cs) w = .go (G (mk b n (put S o.dst undef) (laterB bi ats o.type v :: D) (.inRegion ops rest :: k)) cs) w := by
 have he := mk_eval b n S D (.inRegion ops (i :: rest) :: k)
 simp only [mk, hro] at he
 have hr : (execOp (ev n S) o).runT P w #[] = (.ok (.defer (laterB bi ats o.type v)) w, #[]) := by
  unfold execOp
  simp only [hop, resolve, hx]
  simp [bind, pure, Sem.bind, Sem.runT, -Sem.runT_eq, laterB, hx]
 have hf := mk_finish (n := n) b S (laterB bi ats o.type v :: D) ops i rest k o ho undef
 have e1 : stepG P main (G (mk b n S D (.inRegion ops (i :: rest) :: k)) cs) w = stepG.apply P true (mk b n S D (.inRegion ops (i :: rest) :: k)) cs none (execOp (ev n S) o) w := by
  simp only [stepG, stepG.exec, stepG.oper, Frame.oper?, mk, ho, he, Option.map_some, Option.getD_some, hw, if_true, hro]
 rw [e1]
 unfold stepG.apply
 simp only [hr, if_true]
 have hf2 : Frame.finish { mk b n S D (.inRegion ops (i :: rest) :: k) with defers := laterB bi ats o.type v :: (mk b n S D (.inRegion ops (i :: rest) :: k)).defers } undef = mk b n (put S o.dst undef) (laterB bi ats o.type v :: D) (.inRegion ops rest :: k) := hf
 rw [hf2]
 split <;> simp_all [seen_nil, after_nil]
theorem step_close {ats : Array TypeId} {ty : TypeId} {c s r : Nat} {tm : Bool} {todo : List Item} (hc : w.heap[c]? = some (.chan 0 #[] false s r tm)) :
  stepG P main (G { mk b n S (laterB .close ats ty (.chan (some c)) :: D) todo with mode := .returning } cs) w = .go (G { mk b n S D todo with mode := .returning } cs) (w.shut c s r tm) (#[⟨.obj c, false, true⟩].push ⟨.obj c, true, true⟩) := by
 have hr : (invoke (.builtin .close ats ty #[false]) #[.chan (some c)]).runT P w #[] = (.ok (.value (.tuple #[])) (w.shut c s r tm), #[⟨.obj c, false, true⟩, ⟨.obj c, true, true⟩]) := by
  have h1 : (invoke (.builtin .close ats ty #[false]) #[.chan (some c)] : Sem Next) = (Builtin.close_ ats ty #[.chan (some c)]).bind fun v => .pure (.value v) := rfl
  rw [h1]
  refine Prod.ext ?_ ?_
  ·rw [Sem.runT_fst, run_map (fun v => Next.value v), run_close_open ats ty hc]
   rfl
  ·rw [events_map (fun v => Next.value v)]
   have := events_close_open (P := P) (es := #[]) ats ty hc
   simpa [Sem.events, -Sem.runT_eq] using this
 have hs : seen P b.fn #[⟨.obj c, false, true⟩, ⟨.obj c, true, true⟩] = #[⟨.obj c, false, true⟩, ⟨.obj c, true, true⟩] := by
  simp [seen]
 simp only [stepG, unwind, callDeferred, laterB, mk, hr]
 simp [hs, GStep.after]
theorem quits {f : FuncId} {fn : Func} {todo : List Item} (hf : P.funcs[f]? = some fn) (hres : fn.results = #[]) (hbf : b.fn = f) (hbk : b.kind = .deferred) : QuitsD P 2 0 (G { mk b n S [] todo with mode := .returning } [baseG P []]) := by
 subst hbf
 have hr : ∀ w, (results fn (arr n S)).runT P w #[] = (.ok (.tuple #[]) w, #[]) := fun w => by
  exact Prod.ext ((Sem.runT_fst _ _ _ _).trans (results_none hres _ P w)) (events_results_none hres _ _)
 refine .ctl (g' := G (baseG P []) []) rfl (fun w => ?_) (.ctl (g' := { G (baseG P []) [] with status := .finished }) rfl (fun w => ?_) ⟨rfl, rfl⟩)
 ·simp only [stepG, unwind, mk, hf, hr w, doReturn, hbk, baseG]
  simp [goexitEntry, seen_nil, after_nil]
 ·simp [stepG, unwind, baseG, Frame.catches, goexitEntry]
  rfl
theorem wakes {todo : List Item} {d : Deferred} : mayWake P (G { mk b n S (d :: D) todo with mode := .returning } cs) = true := rfl
end
end Go.HL
namespace Go.HL
open Go Go.Conc
variable [Lvl]
section
variable {P : Program} {n : Nat} {ro : Option Nat} {K : Post} {S : Sl} {D : Df} {L : Pv} {h : AH} {ops : Array Oper} {i : Nat} {rest : List Nat} {o : Oper}
theorem goes_send {x y : Operand} {c j : Nat} {v : Value} {vs : List Value} (hl : Lvl.co = some c) (ho : ops[i]? = some o) (hw : Region.wanted o (yielded ops (arr n S)) = true) (hop : o.op = .send x y) (hx : ev n S x = .chan (some c)) (hy : ev n S y = v)
  (hj : L[j]? = some (some (c, gch (v :: vs)))) (g : Goes P n ro [.inRegion ops rest] K (put S o.dst undef) D (L.set j (some (c, gch vs))) h) : Goes P n ro [.inRegion ops (i :: rest)] K S D L h := by
 intro H V b hb k cs
 have hc : H c = some (gch (v :: vs)) := by rw [V.eq]; exact hun_left (zK V.valid hj)
 refine .send (z := .tuple #[]) hl hc (fun w => step_comm (b := b) (k := k) (cs := cs) (w := w) (main := false) ho hw (by rw [hop]; trivial) (exec_send hop hx hy)) ?_
 have e1 : (mk b n S D ([.inRegion ops (i :: rest)] ++ k)).finish undef = mk b n (put S o.dst undef) D (.inRegion ops rest :: k) := mk_finish b S D ops i rest k o ho undef
 rw [e1]
 have hs := wl_set (o' := gch vs) V.valid hj
 refine g _ ⟨valid_set V.valid hj, ?_, V.nd, ?_⟩ b hb k cs
 ·rw [← hs]
  exact V.disj.hupd (V.disj.right (zK V.valid hj))
 ·rw [← hs, V.eq, hun_hupd]
theorem goes_recv {t : TypeId} {x : Operand} {c j : Nat} {v z : Value} {vs : List Value} {dr : ChanDir} {el : TypeId} (hl : Lvl.ci = some c) (ho : ops[i]? = some o) (hw : Region.wanted o (yielded ops (arr n S)) = true) (hop : o.op = .recv t x true) (hx : ev n S x = .chan (some c))
  (ht : pev0 P (underlying t) = some (.chan dr el)) (hz : pev0 P (zeroValue el) = some z)
  (hj : L[j]? = some (some (c, gch (v :: vs)))) (g : Goes P n ro [.inRegion ops rest] K (put S o.dst (.tuple #[v, .bool true])) D (L.set j (some (c, gch vs))) h) : Goes P n ro [.inRegion ops (i :: rest)] K S D L h := by
 intro H V b hb k cs
 have hc : H c = some (gch (v :: vs)) := by rw [V.eq]; exact hun_left (zK V.valid hj)
 refine .recv (z := z) hl hc (fun w => step_comm (b := b) (k := k) (cs := cs) (w := w) (main := true) ho hw (by rw [hop]; trivial) (exec_recv hop hx ht hz)) ?_
 have e1 : (mk b n S D ([.inRegion ops (i :: rest)] ++ k)).finish (.tuple #[v, .bool true]) = mk b n (put S o.dst (.tuple #[v, .bool true])) D (.inRegion ops rest :: k) := mk_finish b S D ops i rest k o ho _
 rw [e1]
 have hs := wl_set (o' := gch vs) V.valid hj
 refine g _ ⟨valid_set V.valid hj, ?_, V.nd, ?_⟩ b hb k cs
 ·rw [← hs]
  exact V.disj.hupd (V.disj.right (zK V.valid hj))
 ·rw [← hs, V.eq, hun_hupd]
theorem goes_last {t : TypeId} {x : Operand} {c j : Nat} {z : Value} {dr : ChanDir} {el : TypeId} (hl : Lvl.ci = some c) (ho : ops[i]? = some o) (hw : Region.wanted o (yielded ops (arr n S)) = true) (hop : o.op = .recv t x true) (hx : ev n S x = .chan (some c))
  (ht : pev0 P (underlying t) = some (.chan dr el)) (hz : pev0 P (zeroValue el) = some z)
  (hj : L[j]? = some (some (c, gch []))) (g : Goes P n ro [.inRegion ops rest] K (put S o.dst (.tuple #[z, .bool false])) D (L.set j (some (c, gone))) h) : Goes P n ro [.inRegion ops (i :: rest)] K S D L h := by
 intro H V b hb k cs
 have hc : H c = some (gch []) := by rw [V.eq]; exact hun_left (zK V.valid hj)
 refine .last (z := z) hl hc (fun w => step_comm (b := b) (k := k) (cs := cs) (w := w) (main := true) ho hw (by rw [hop]; trivial) (exec_recv hop hx ht hz)) ?_
 have e1 : (mk b n S D ([.inRegion ops (i :: rest)] ++ k)).finish (.tuple #[z, .bool false]) = mk b n (put S o.dst (.tuple #[z, .bool false])) D (.inRegion ops rest :: k) := mk_finish b S D ops i rest k o ho _
 rw [e1]
 have hs := wl_set (o' := gone) V.valid hj
 refine g _ ⟨valid_set V.valid hj, ?_, V.nd, ?_⟩ b hb k cs
 ·rw [← hs]
  exact V.disj.hupd (V.disj.right (zK V.valid hj))
 ·rw [← hs, V.eq, hun_hupd]
theorem goes_defer {bi : Builtin} {ats : Array TypeId} {x : Tmp} {v : Value} (ho : ops[i]? = some o) (hw : Region.wanted o (yielded ops (arr n S)) = true) (hop : o.op = .defer { callee := .builtin bi, args := #[.tmp x], argTypes := ats }) (hx : ev n S (.tmp x) = v)
  (g : Goes P n none [.inRegion ops rest] K (put S o.dst undef) (laterB bi ats o.type v :: D) L h) : Goes P n none [.inRegion ops (i :: rest)] K S D L h := by
 intro H V b hb k cs
 refine .ctl (fr' := mk b n (put S o.dst undef) (laterB bi ats o.type v :: D) ([.inRegion ops rest] ++ k)) (cs' := cs) (fun main w => step_defer ho hw hop hx hb) ?_
 have V' : Fits h L (laterB bi ats o.type v :: D) H := ⟨V.valid, V.disj, V.nd, V.eq⟩
 refine (g H V' b hb k cs).mono ?_
 rintro fr cs' H' ⟨e0, e, S', D', L', h', V2, kk, a⟩
 refine ⟨e0, e, S', D', L', h', V2, kk, ?_⟩
 cases e <;> exact a
def own (R h : AH) : AH := fun b => match R b with | some _ => none | none => h b
theorem own_disj (R h : AH) : Disj (own R h) R := by
 intro b
 cases hr : R b with
 | none => exact .inr rfl
 | some o => exact .inl (by simp [own, hr])
theorem own_hun {R h : AH} (e : Ext (zf R) h) : hun (own R h) (zf R) = h := by
 funext b
 cases hr : R b with
 | none =>
  have : zf R b = none := zf_none.2 hr
  simp only [hun, own, hr, this]
  cases h b <;> rfl
 | some o =>
  have : zf R b = some (zO o) := by simp [zf, hr]
  simp only [hun, own, hr]
  rw [this, e b _ this]
theorem own_ext {X R h : AH} (d : Disj X R) (e : Ext (hun X (zf R)) h) : Ext X (own R h) := by
 intro b o hb
 have hr : R b = none := d.right hb
 simp only [own, hr]
 exact e b o (hun_left hb)
theorem ext_right {X Z : AH} (d : Disj X Z) : Ext Z (hun X Z) := by
 intro b o hb
 rcases d b with h | h
 ·simp [hun, h, hb]
 ·rw [h] at hb; cases hb
end
def wrkK (c : Nat) (ats : Array TypeId) (ty : TypeId) (h0 : AH) : Post
 | .ret, _, D, L, h => D = [laterB .close ats ty (.chan (some c))] ∧ (Valid h L → ∃ h', wl h L = wl h' [some (c, gch [])] ∧ Valid h' [some (c, gch [])] ∧ Ext h0 h')
 | _, _, _, _, _ => False
def WEnd (f n c : Nat) (ats : Array TypeId) (ty : TypeId) (hw0 : AH) (fr : Frame) (hw : AH) : Prop :=
 Ext hw0 hw ∧ ∃ (S : Sl) (todo : List Item), fr = { mk { (default : Frame) with fn := f, kind := .deferred, roundOf := none } n S [laterB .close ats ty (.chan (some c))] todo with mode := .returning }
theorem worker_body {P : Program} {f : FuncId} {fn : Func} {body : Code} {args cap : Array Value} {n c : Nat} {ats : Array TypeId} {ty : TypeId} {hw R : AH} {vs : List Value} (hf : P.funcs[f]? = some fn) (hname : (fn.name == "runtime.NumGoroutine") = false) (hb : fn.body = some body) (hn : fn.ntmps = n) (ha : Nat.ble (args ++ cap).size n = true)
  (fin : Fin (hun hw (zf R))) (d : Disj hw R) (hwc : hw c = none) (hRc : R c = none)
  (x : @xp ⟨false, some c, none⟩ P n none body (wrkK c ats ty (hun hw (zf R))) (argS (args ++ cap)) [] [some (c, gch vs)] (hun hw (zf R))) :
  RW P c (QW R c [baseG P []] (WEnd f n c ats ty hw)) (baseG P [{ target := .fn (.func f) cap, args := args }]) [] (hun hw (zw R c vs)) := by
 letI : Lvl := ⟨false, some c, none⟩
 have he : Frame.enter P f (args ++ cap) .deferred = mk { (default : Frame) with fn := f, kind := .deferred, roundOf := none } n (argS (args ++ cap)) [] [.code body] := by
  have e := enter_tmps n (args ++ cap) (Nat.le_of_ble_eq_true ha)
  generalize args ++ cap = ars at e
  simp [Frame.enter, mk, hf, hb, hn, e]
 refine .ctl (fr' := Frame.enter P f (args ++ cap) .deferred) (cs' := [baseG P []]) (fun main w => step_base hf hname hb []) ?_
 rw [he]
 have hcn : hun hw (zf R) c = none := by simp [hun, hwc, zf_none.2 hRc]
 have hH : ∀ (h : AH) (us : List Value), h c = none → wl h [some (c, gch us)] = hupd h c (gch us) := fun h us hn0 => by
  have := wl_new (h := h) (L := []) (b := c) (by rw [wl_nil]; exact hn0) (gch us)
  rw [wl_nil] at this
  exact this.symm
 have hz : ∀ (Y : AH) (us : List Value), Y c = none → hupd (hun Y (zf R)) c (gch us) = hun Y (zw R c us) := fun Y us hY => by
  funext b
  by_cases hbc : b = c
  ·subst hbc; simp [hupd, hun, hY, zw, wZ]
  ·simp [hupd, hun, hbc, zw, oneC_ne hbc]
 have V : Valid (hun hw (zf R)) [some (c, gch vs)] := valid_new (L := []) (valid_nil fin) (by rw [wl_nil]; exact hcn) _
 have F0 : Fits (hun hw (zf R)) [some (c, gch vs)] [] (hun hw (zw R c vs)) := by
  rw [← hz hw vs hwc, ← hH _ vs hcn]
  exact Fits.nil V
 refine (x _ F0 { (default : Frame) with fn := f, kind := .deferred, roundOf := none } rfl [] [baseG P []]).mono ?_
 rintro fr cs' H ⟨rfl, e, S', D', L', h', V', kk, a⟩
 cases e with
 | ret =>
  obtain ⟨rfl, kk⟩ := kk
  obtain ⟨h2, e0, V2, ex⟩ := kk V'.valid
  obtain ⟨todo, rfl⟩ := a.1 rfl
  have e1 := V'.eq
  rw [e0] at e1
  clear e0 kk V'
  generalize h2 = h' at *
  have hc' : h' c = none := wl_fresh V2 (i := 0) rfl
  have ez : Ext (zf R) h' := (ext_right (fun b => (d b).imp id zf_none.2)).trans ex
  have oc : own R h' c = none := by simp [own, hRc, hc']
  refine ⟨rfl, own R h', ?_, oc, own_disj R h', own_ext d ex, S', todo, rfl⟩
  have e2 : mkH [laterB .close ats ty (.chan (some c))] = hnil := rfl
  rw [e2, hun_nil, hH _ [] hc'] at e1
  rw [e1, ← hz _ [] oc, own_hun ez]
 | _ => exact kk.elim
theorem wl_of {h : AH} {L : Pv} {D : Df} {H : AH} (f : Fits h L D H) (e : D = []) : H = wl h L := by
 subst e
 rw [f.eq]
 exact hun_nil _
theorem goes_phase {P : Program} {n : Nat} {ro : Option Nat} {K : Post} {S : Sl} {L : Pv} {h : AH} {ops : Array Oper} {i : Nat} {o : Oper} {c3 : Code} {x : Operand} {f : FuncId} {fs cap : Array Value} {c : Nat} {tm : Bool} {hm hw R : AH} {vs : List Value} {cw : List Frame} {WorkEnd : Frame → AH → Prop} {L1 : Pv} {h1 : AH} {K1 : Ex → Sl → AH → Prop} {s0 r0 : Nat}
  (hl : Lvl.ph = true) (ho : ops[i]? = some o) (hwt : Region.wanted o (yielded ops (arr n S)) = true) (hop : o.op = .go { callee := .value x, args := #[], argTypes := #[] }) (hx : ev n S x = .func (.func f) fs cap)
  (rows : OnlyRows R) (mw : Disj hm hw) (mR : Disj hm R) (wR : Disj hw R) (hmc : hm c = none) (hwc : hw c = none) (hRc : R c = none)
  (split : Valid h L → wl h L = hun hm (hun hw (hun R (oneC c (.chan 0 #[] false s0 r0 tm)))))
  (V1 : Valid h1 L1) (e1 : wl h1 L1 = hun hm (zw R c vs))
  (gm : @Goes ⟨false, none, some c⟩ P n ro ([.inRegion ops []] ++ [.code c3]) (fun e S' D' L' h' => D' = [] ∧ (Valid h' L' → ∃ hm', wl h' L' = hun hm' (zx R c) ∧ hm' c = none ∧ Disj hm' R ∧ K1 e S' hm')) (put S o.dst undef) [] L1 h1)
  (close : ∀ fr hw', WorkEnd fr hw' → mayWake P (G fr cw) = true ∧ ∃ (g2 : Goroutine) (es : Array Event) (n : Nat), (∀ (w : World) s r, w.heap[c]? = some (.chan 0 #[] false s r tm) → stepG P false (G fr cw) w = .go g2 (w.shut c s r tm) (es.push ⟨.obj c, true, true⟩)) ∧ (∀ e ∈ es, e = ⟨.obj c, false, true⟩) ∧ QuitsD P n 0 g2)
  (rW : RW P c (QW R c cw WorkEnd) (baseG P [{ target := .fn (.func f) cap, args := fs }]) [] (hun hw (zw R c vs)))
  (join : ∀ e S' hm' fr' hw' s r, K1 e S' hm' → WorkEnd fr' hw' → Disj hm' hw' → Disj hm' R → Disj hw' R → hm' c = none → hw' c = none → K e S' [] [] (hun hm' (hun hw' (hun R (oneC c (.chan 0 #[] true s r tm)))))) :
  Goes P n ro ([.inRegion ops [i]] ++ [.code c3]) K S [] L h := by
 intro H V b hb k cs
 have hH := wl_of V rfl
 rw [split V.valid] at hH
 have rM := gm (wl h1 L1) (Fits.nil V1) b hb k cs
 rw [e1] at rM
 have ffz : ∀ {A B : AH}, Fin (hun A B) → Disj A B → Fin A ∧ Fin B := fun f d => ⟨f.left, Fin.rest d f⟩
 -- what main comes to
 have cert : Cert P R c tm cw (fun fr cs' H' => cs' = cs ∧ ∃ e S' D' L' h', Fits h' L' D' H' ∧ (D' = [] ∧ (Valid h' L' → ∃ hm', wl h' L' = hun hm' (zx R c) ∧ hm' c = none ∧ Disj hm' R ∧ K1 e S' hm')) ∧ AtX b n k e S' D' fr) WorkEnd := by
  refine ⟨rows, ?_, close⟩
  rintro fr cs' H' ⟨_, e, S', D', L', h', F', ⟨rfl, kk⟩, _⟩
  obtain ⟨hm', e2, e3, _⟩ := kk F'.valid
  rw [wl_of F' rfl, e2]
  exact zx_c e3
 have toX : ∀ {fr' : Frame} {hw' : AH} {s r : Nat} {fr : Frame} {cs' : List Frame} {hm' : AH}, (cs' = cs ∧ ∃ e S' D' L' h', Fits h' L' D' (hun hm' (zx R c)) ∧ (D' = [] ∧ (Valid h' L' → ∃ hm'', wl h' L' = hun hm'' (zx R c) ∧ hm'' c = none ∧ Disj hm'' R ∧ K1 e S' hm'')) ∧ AtX b n k e S' D' fr) → WorkEnd fr' hw' → Disj hm' hw' → Disj hm' R → Disj hw' R → hm' c = none → hw' c = none →
   Fin (hun hm' (hun hw' (hun R (oneC c (.chan 0 #[] true s r tm))))) → cs' = cs ∧ ∃ e S' D' L' h', Fits h' L' D' (hun hm' (hun hw' (hun R (oneC c (.chan 0 #[] true s r tm))))) ∧ K e S' D' L' h' ∧ AtX b n k e S' D' fr := by
  rintro fr' hw' s r fr cs' hm' ⟨rfl, e, S', D', L', h', F', ⟨rfl, kk⟩, a⟩ hW d1 d2 d3 n1 n2 fin
  obtain ⟨hm'', e2, e3, d4, kk⟩ := kk F'.valid
  have e5 : hm' = hm'' := by
   have e4 := (wl_of F' rfl).trans e2
   have : hun hm' (zf R) = hun hm'' (zf R) := by
    funext y
    have e6 := congrFun e4 y
    by_cases hy : y = c
    ·subst hy; simp [hun, n1, e3]
    ·have hz : zx R c y = zf R y := by simp [zx, hun, oneC_ne hy]
     simp only [hun, hz] at e6 ⊢
     exact e6
   exact hun_inj this d2 d4
  subst e5
  refine ⟨rfl, e, S', [], [], hun hm' (hun hw' (hun R (oneC c (.chan 0 #[] true s r tm)))), ?_, join _ _ _ _ _ _ _ kk hW d1 d2 d3 n1 n2, a⟩
  have := Fits.nil (valid_nil fin)
  rw [wl_nil] at this
  exact this
 refine .far hl (fun fr cs' H' => cs' = cs ∧ ∃ e S' D' L' h', Fits h' L' D' H' ∧ K e S' D' L' h' ∧ AtX b n k e S' D' fr)
  (Far.mono (X := fun fr cs' H' => Fin H' ∧ (Fin H' → cs' = cs ∧ ∃ e S' D' L' h', Fits h' L' D' H' ∧ K e S' D' L' h' ∧ AtX b n k e S' D' fr)) (Far.fin ?_) (fun _ _ _ q => q.2 q.1)) ?_ (fun _ _ _ q => .done q)
 ·rw [hH]
  refine far_phase (cw := cw) (vs := vs) cert ?_ (fun w => ?_) rM rW mw mR wR hmc hwc hRc
  ·intro fr cs' hm' fr' hw' s r q hW d1 d2 d3 n1 n2 _ fin
   exact toX q hW d1 d2 d3 n1 n2 fin
  ·exact step_go ho hwt hop hx
 ·intro F fF dF fH
  rw [hH] at dF fH
  have oneD : ∀ {A : AH} {g : Obj}, A c = none → Disj A (oneC c g) := by
   intro A g hA y
   by_cases hy : y = c
   ·subst hy; exact .inl hA
   ·exact .inr (oneC_ne hy)
  have zfD : ∀ {A : AH}, Disj A R → Disj A (zf R) := fun d y => (d y).imp id zf_none.2
  have fone : ∀ g, Fin (oneC c g) := fun g => Fin.hupd ⟨0, fun _ _ => rfl⟩ _ _
  obtain ⟨dm, d1⟩ := dF.of_hun
  obtain ⟨dw, d2⟩ := d1.of_hun
  obtain ⟨dR, dC⟩ := d2.of_hun
  have cF : F c = none := (dC c).resolve_left (by rw [wZ]; simp)
  have fm : Fin hm := fH.left
  have fr0 := Fin.rest (mw.hun (mR.hun (oneD hmc))) fH
  have fw : Fin hw := fr0.left
  have fR : Fin R := (Fin.rest (wR.hun (oneD hwc)) fr0).left
  have fzf : Fin (zf R) := fR.imp fun _ hN y hy => zf_none.2 (hN y hy)
  have fz : ∀ g, Fin (hun (oneC c g) (zf R)) := fun g => (fone g).hun fzf
  have zD : ∀ {A : AH} {g : Obj}, Disj A R → A c = none → Disj A (hun (oneC c g) (zf R)) := fun d hA => (oneD hA).hun (zfD d)
  have W1 : ∃ fr cs h, Fin h ∧ ∃ h1, h = hun h1 (hun hm F) ∧ Disj h1 (hun hm F) ∧ QW R c cw WorkEnd fr cs h1 := by
   letI : Lvl := ⟨false, some c, none⟩
   exact (rW.frame (F := hun hm F) ((Disj.hun_left (mw.symm.hun dw) ((zD mR hmc).symm.hun (zD dR.symm cF).symm)))).some ((fw.hun (fz _)).hun (fm.hun fF))
  obtain ⟨fr1, cs1, h2, f2, h1', rfl, d3, rfl, hw', rfl, n2, wR', hW⟩ := W1
  obtain ⟨d4, _⟩ := d3.of_hun
  obtain ⟨d5, d6⟩ := d4.of_hun_right
  have fw' : Fin hw' := f2.left.left
  have dd : Disj (hun hm (zw R c vs)) (hun hw' F) := (Disj.hun_left (d5.symm.hun dm) ((zD wR' n2).symm.hun (zD dR.symm cF).symm))
  have M1 := @Rch.some ⟨false, none, some c⟩ P _ _ _ _ (@Rch.frame ⟨false, none, some c⟩ P _ _ _ _ rM (hun hw' F) dd) ((fm.hun (fz _)).hun (fw'.hun fF))
  obtain ⟨fr2, cs2, h4, f4, h3, rfl, d7, q⟩ := M1
  have q0 := q
  obtain ⟨_, e, S', D', L', h', F', ⟨rfl, kk⟩, _⟩ := q0
  obtain ⟨hm', e2, e3, d8, _⟩ := kk F'.valid
  have e4 := (wl_of F' rfl).trans e2
  subst e4
  obtain ⟨d9, _⟩ := d7.of_hun
  obtain ⟨d10, d11⟩ := d9.of_hun_right
  have fm' : Fin hm' := f4.left.left
  have fin : Fin (hun hm' (hun hw' (hun R (oneC c (.chan 0 #[] true 0 0 tm))))) := fm'.hun (fw'.hun (fR.hun (fone _)))
  exact ⟨_, _, _, fin, Disj.hun_left d11 (Disj.hun_left d6 (Disj.hun_left dR ((oneD cF).symm))), toX q hW d10 d8 wR' e3 n2 fin⟩
end Go.HL
