/- An own logic over the model, its walks and its plain laws, joined of parts R70 Ud R71 R72 R73 R53 R39 Rt R40 R41 R42 Ru R54 R74 R75 R55 R57 R22 R56. Conditions: as each theorem states. -/
import Derived.Test.YthphpbdmbmiaiaaLa5
import Derived.Test.YthphpbdmbmiaiaaLa3
import Derived.Test.YthphpbdmbmiaiaaRows
import Derived.Deep.Slices
import Derived.ProofKit
import Derived.Test.YthphpbdmbmiaiaaLa2
set_option linter.all false
namespace Go.Proofs.Ythphpbdmbmiaiaa
open Go Go.HL Go.Proofs Go.Wx Go.Rd
section
variable [Lvl]
set_option maxRecDepth 100000
theorem ins_ok (l : List Int) (z : Int) (i : Nat) (a : Acc) (b : Nat) (h : AH) (ha : AccR 3 1 (l.flatMap intC) a) (hi : i ≤ l.length) (hl : l.length < 2 ^ 20) :
  FnM Try.prog (.func (.func 131) #[] ([] : List Value).toArray) [.slice a.A a.n a.c, .int .i64 (i : Int), .slice (some ⟨b, 0, none⟩) 1 1] h [a.p, some (b, .cells [Value.int .i64 z].toArray 3 (0, 0))] (fun v h' M' => M' = [] ∧ SlR h' 1 intC (l.take i ++ z :: l.drop i) v) := by
 by_cases he : i = l.length
 ·subst he
  rw [List.take_length, List.drop_length]
  exact insE_ok l z a b h ha hl
 ·rcases ha with ⟨h1, h2, _⟩ | ⟨b0, len, cap, junk, h1, h2, h3, h4⟩
  ·exfalso
   have := congrArg List.length h2
   rw [flatI] at this
   simp at this
   subst this
   simp at hi he
   exact he hi
  ·obtain ⟨ap, aA, an, ac⟩ := a
   simp only [Value.slice.injEq] at h2
   obtain ⟨rfl, rfl, rfl⟩ := h2
   simp only at h3
   subst h3
   rw [flatI] at h1
   rw [List.length_append, flatI] at h4
   have e : l.flatMap intC = (l.take i).flatMap intC ++ (l.drop i).flatMap intC := by rw [← List.flatMap_append, List.take_append_drop]
   have hti : (l.take i).length = i := by rw [List.length_take]; omega
   have := insM_ok (l.take i) (l.drop i) z b0 b an ac junk h (by rw [hti, List.length_drop]; omega) (by omega) (List.length_pos_iff.1 (by rw [List.length_drop]; omega)) (by omega)
   rw [hti, ← e] at this
   exact this
theorem delA_ok (l : List Int) (i : Nat) (a : Acc) (h : AH) (ha : AccR 3 1 (l.flatMap intC) a) (hi : i < l.length) (hl : l.length < 2 ^ 20) :
  FnM Try.prog (.func (.func 132) #[] ([] : List Value).toArray) [.slice a.A a.n a.c, .int .i64 (i : Int), .int .i64 ((i : Int) + 1)] h [a.p] (fun v h' M' => M' = [] ∧ SlR h' 1 intC (l.take i ++ l.drop (i + 1)) v) := by
 rcases ha with ⟨h1, h2, _⟩ | ⟨b0, len, cap, junk, h1, h2, h3, h4⟩
 ·exfalso
  have := congrArg List.length h2
  rw [flatI] at this
  simp at this
  subst this
  simp at hi
 ·obtain ⟨ap, aA, an, ac⟩ := a
  simp only [Value.slice.injEq] at h2
  obtain ⟨rfl, rfl, rfl⟩ := h2
  simp only at h3
  subst h3
  rw [flatI] at h1
  rw [List.length_append, flatI] at h4
  have e : l.flatMap intC = (l.take i).flatMap intC ++ [Value.int .i64 l[i]] ++ (l.drop (i + 1)).flatMap intC := by
   have e1 : l = l.take i ++ ([l[i]] ++ l.drop (i + 1)) := by simp
   have e2 : [Value.int .i64 l[i]] = [l[i]].flatMap intC := rfl
   rw [e2, List.append_assoc, ← List.flatMap_append, ← List.flatMap_append, ← e1]
  have hti : (l.take i).length = i := by rw [List.length_take]; omega
  have := del_ok (l.take i) (l.drop (i + 1)) l[i] b0 an ac junk h (by rw [hti, List.length_drop]; omega) (by omega) (by omega)
  rw [hti, ← e] at this
  exact this
theorem cloneIntM (l : List Int) (A : Option Addr) (c : Nat) (h : AH) (R : Row h 1 intC A l) (hl : l.length < 2 ^ 20) :
  FnM Try.prog (.func (.func 119) #[] ([] : List Value).toArray) [.slice A l.length c] h [] (fun v h' M' => ∃ a : Acc, M' = [a.p] ∧ v = .slice a.A a.n a.c ∧ AccR 3 1 (l.flatMap intC) a) :=
 (cloneIntF l A c h R hl).mono (fun v h' M' _ ⟨p, e, a, e1, e2, e3⟩ => ⟨a, by rw [e, e1], e2, e3⟩)
def putE (l : List Int) (n below : Int) (inn : Bool) : Int := if inM n 0 (below - 1) = false then 3 else if inn = true ∧ n ∈ l then 4 else if inn = false ∧ n ∉ l then 11 else 0
def putL (l : List Int) (n : Int) (inn : Bool) : List Int := if inn = true then (l.filter fun x => decide (x < n)) ++ [n] ++ l.filter (fun x => decide (x > n)) else l.filter fun x => x != n
theorem filt_at {l : List Int} {n : Int} {i : Nat} (a : AtP l n i) : l.take i = l.filter (fun x => decide (x < n)) := by
 have e : l.filter (fun x => decide (x < n)) = (l.take i).filter (fun x => decide (x < n)) ++ (l.drop i).filter (fun x => decide (x < n)) := by rw [← List.filter_append, List.take_append_drop]
 have h1 : (l.take i).filter (fun x => decide (x < n)) = l.take i := List.filter_eq_self.2 fun x hx => by
  obtain ⟨k, hk, rfl⟩ := List.getElem_of_mem hx
  rw [List.length_take] at hk
  rw [List.getElem_take]
  exact decide_eq_true (a.2.1 k (by omega) (by omega))
 have h2 : (l.drop i).filter (fun x => decide (x < n)) = [] := List.filter_eq_nil_iff.2 fun x hx => by
  obtain ⟨k, hk, rfl⟩ := List.getElem_of_mem hx
  rw [List.length_drop] at hk
  rw [List.getElem_drop]
  have := a.2.2 (i + k) (by omega) (by omega)
  simp; omega
 rw [e, h1, h2, List.append_nil]
theorem filt_gt {l : List Int} {n : Int} {i : Nat} (a : AtP l n i) (hn : n ∉ l) : l.drop i = l.filter (fun x => decide (x > n)) := by
 have e : l.filter (fun x => decide (x > n)) = (l.take i).filter (fun x => decide (x > n)) ++ (l.drop i).filter (fun x => decide (x > n)) := by rw [← List.filter_append, List.take_append_drop]
 have h1 : (l.drop i).filter (fun x => decide (x > n)) = l.drop i := List.filter_eq_self.2 fun x hx => by
  have hm : x ∈ l := List.mem_of_mem_drop hx
  obtain ⟨k, hk, rfl⟩ := List.getElem_of_mem hx
  rw [List.length_drop] at hk
  rw [List.getElem_drop] at hm ⊢
  have := a.2.2 (i + k) (by omega) (by omega)
  have hne : ¬ l[i + k] = n := fun e => hn (e ▸ hm)
  simp; omega
 have h2 : (l.take i).filter (fun x => decide (x > n)) = [] := List.filter_eq_nil_iff.2 fun x hx => by
  obtain ⟨k, hk, rfl⟩ := List.getElem_of_mem hx
  rw [List.length_take] at hk
  rw [List.getElem_take]
  have := a.2.1 k (by omega) (by omega)
  simp; omega
 rw [e, h1, h2, List.nil_append]
theorem filt_ne {l : List Int} {n : Int} {i : Nat} (p : l.Pairwise (· < ·)) (a : AtP l n i) (hn : n ∈ l) : i < l.length ∧ l.take i ++ l.drop (i + 1) = l.filter (fun x => x != n) := by
 have hi : i < l.length := by
  obtain ⟨k, hk, e⟩ := List.getElem_of_mem hn
  have := a.1
  rcases Nat.lt_or_ge i l.length with h | h
  ·exact h
  ·have := a.2.1 k hk (by omega); omega
 refine ⟨hi, ?_⟩
 have hat : l[i] = n := ((a.mem hi).resolve_right (fun y => y p)).1 hn
 have e1 : l = l.take i ++ (l[i] :: l.drop (i + 1)) := by simp
 have e : l.filter (fun x => x != n) = (l.take i).filter (fun x => x != n) ++ (l[i] :: l.drop (i + 1)).filter (fun x => x != n) := by rw [← List.filter_append, ← e1]
 have h1 : (l.take i).filter (fun x => x != n) = l.take i := List.filter_eq_self.2 fun x hx => by
  obtain ⟨k, hk, rfl⟩ := List.getElem_of_mem hx
  rw [List.length_take] at hk
  rw [List.getElem_take]
  have := a.2.1 k (by omega) (by omega)
  simp; omega
 have h2 : (l.drop (i + 1)).filter (fun x => x != n) = l.drop (i + 1) := List.filter_eq_self.2 fun x hx => by
  obtain ⟨k, hk, rfl⟩ := List.getElem_of_mem hx
  rw [List.length_drop] at hk
  rw [List.getElem_drop]
  have := List.pairwise_iff_getElem.1 p i (i + 1 + k) hi (by omega) (by omega)
  simp; omega
 rw [e, h1, List.filter_cons_of_neg (by simp [hat]), h2]
theorem put_ok (l : List Int) (n below : Int) (inn : Bool) (A : Option Addr) (c : Nat) (h : AH) (R : Row h 1 intC A l) (hl : l.length < 2 ^ 20) (p : l.Pairwise (· < ·)) (hb : 0 ≤ below ∧ below < 2 ^ 20) :
  FnE Try.prog 111 #[.slice A l.length c, .int .i64 n, .int .i64 below, .bool inn] h (fun v h' => putE l n below inn = 0 ∧ SlR h' 1 intC (putL l n inn) v) (fun v _ => putE l n below inn ≠ 0 ∧ v = .iface 145 (.agg #[.int .i64 (putE l n below inn)])) := by
 refine wM Try.func111 rfl Try.ntmps111 rfl ?_
 refine qD ?_
 refine qB rfl ?_
 refine qA (qE (v := .slice _ _ _) rfl) ?_
 refine qD ?_
 refine qD ?_
 refine qB rfl ?_
 refine qA (qC (v := .int .i64 _) rfl) ?_
 refine qA (qC (v := .int .i64 _) rfl) ?_
 refine qA (qT rfl (by omega)) ?_
 refine wK (caps := []) (vs := [.int .i64 _, .int .i64 _, .int .i64 _]) rfl rfl rfl (within_ok n 0 (below - 1) h) ?_
 rintro _ h1 E1 rfl
 refine qA (qL (v := .bool _) rfl) ?_
 refine qR rfl (fun hw => ?_) (fun hw => ?_)
 ·skip
  have hw' : inM n 0 (below - 1) = false := by simpa using hw
  have hE : putE l n below inn = 3 := if_pos hw'
  refine qB rfl ?_
  refine qA (pv_build (zc := [_]) (vs := [(0, .int .i64 _)]) (cs := [_]) rfl rfl rfl rfl rfl rfl) ?_
  refine qA (qL (v := _) rfl) ?_
  refine op_panic rfl ?_
  exact fun V => ⟨rfl, (zM E1 (qQ V)), by rw [hE]; decide, by rw [hE]; rfl⟩
 ·skip
  have hw' : inM n 0 (below - 1) = true := by simpa using hw
  have hw2 : ¬ inM n 0 (below - 1) = false := by rw [hw']; decide
  refine qO ?_
  refine qD ?_
  refine qB rfl ?_
  refine qA (qC (v := .slice _ _ _) rfl) ?_
  refine qA (qC (v := .int .i64 _) rfl) ?_
  refine wK (caps := []) (vs := [.slice _ _ _, .int .i64 _]) rfl rfl rfl (search_ok l n A c h1 (R.ext E1) hl p) ?_
  rintro _ h2 E2 ⟨i, rfl, AT⟩
  refine qA (qC (v := .tuple #[.int .i64 _, .bool _]) rfl) ?_
  refine qA (qL (v := .int .i64 _) rfl) ?_
  refine qA (qL (v := .bool _) rfl) ?_
  refine qA (qE (v := .int .i64 _) rfl) ?_
  refine qA (qE (v := .bool _) rfl) ?_
  by_cases hm : n ∈ l
  ·have hd := decide_eq_true hm
   cases inn
   ·obtain ⟨hil, hfi⟩ := filt_ne p AT hm
    have hE : putE l n below false = 0 := by unfold putE; rw [if_neg hw2, if_neg (by simp), if_neg (by simp [hm])]
    refine qD ?_
    refine qP ?_
    refine qD ?_
    refine qB rfl ?_
    refine qA (qC (v := .bool _) rfl) ?_
    refine qA (qC (v := .bool _) rfl) ?_
    refine qJ rfl rfl ?_
    refine qA (wN rfl rfl (v := .bool _) rfl) ?_
    refine qA (qE (v := .bool _) rfl) ?_
    refine zC rfl (rfl) ?_
    refine qD ?_
    refine qB rfl ?_
    refine qA (qC (v := .bool _) rfl) ?_
    refine qA (qL (v := .bool _) rfl) ?_
    refine qA (qC (v := .bool _) rfl) ?_
    refine qG rfl rfl ?_
    refine qA (qC (v := .bool _) rfl) ?_
    refine qG rfl rfl ?_
    refine qA (qL (v := .bool _) rfl) ?_
    refine qA (wI rfl rfl (v := .bool _) rfl) ?_
    refine qA (qE (v := .bool _) rfl) ?_
    refine zC rfl ((by rw [hd]; rfl)) ?_
    refine qD ?_
    refine qB rfl ?_
    refine qA (qC (v := .bool _) rfl) ?_
    refine qA (qE (v := .bool _) rfl) ?_
    refine zC rfl (rfl) ?_
    refine qO ?_
    refine qD ?_
    refine qB rfl ?_
    refine qA (qC (v := .slice _ _ _) rfl) ?_
    refine op_fnMM [] [] [] rfl rfl rfl (cloneIntM l A c h2 (R.ext (zM E1 E2)) hl) ?_
    rintro _ h3 M3 E3 ⟨a, rfl, rfl, ha⟩
    refine qK [_] rfl ?_
    refine qA (qC (v := .int .i64 _) rfl) ?_
    refine qA (qC (v := .int .i64 _) rfl) ?_
    refine qA (qT rfl (by omega)) ?_
    refine op_fnMM [] [_] [] (vs := [.slice _ _ _, .int .i64 _, .int .i64 _]) rfl rfl rfl (delA_ok l i a h3 ha hil hl) ?_
    rintro _ h4 M4 E4 ⟨rfl, A4, c4, rfl, R4⟩
    refine qK [] rfl ?_
    refine qA (qE (v := .slice _ _ _) rfl) ?_
    refine qV ?_
    refine qN (vs := [_]) Try.results111 ⟨qM rfl rfl, trivial⟩ fun V => ?_
    exact ⟨(zM (zM (zM (zM E1 E2) E3) E4) (qQ V)), hE, by show SlR _ 1 intC (l.filter fun x => x != n) _; rw [← hfi]; exact ⟨A4, c4, rfl, R4⟩⟩
   ·skip
    have hE : putE l n below true = 4 := by unfold putE; rw [if_neg hw2, if_pos ⟨rfl, hm⟩]
    refine qD ?_
    refine qP ?_
    refine qD ?_
    refine qB rfl ?_
    refine qA (qC (v := .bool _) rfl) ?_
    refine qA (qC (v := .bool _) rfl) ?_
    refine qG rfl rfl ?_
    refine qA (qC (v := .bool _) rfl) ?_
    refine qA (wI rfl rfl (v := .bool _) rfl) ?_
    refine qA (qE (v := .bool _) rfl) ?_
    refine xp_condT rfl (hd) ?_
    refine qB rfl ?_
    refine qA (pv_build (zc := [_]) (vs := [(0, .int .i64 _)]) (cs := [_]) rfl rfl rfl rfl rfl rfl) ?_
    refine qA (qL (v := _) rfl) ?_
    refine op_panic rfl ?_
    exact fun V => ⟨rfl, (zM (zM E1 E2) (qQ V)), by rw [hE]; decide, by rw [hE]; rfl⟩
  ·have hd := decide_eq_false hm
   cases inn
   ·skip
    have hE : putE l n below false = 11 := by unfold putE; rw [if_neg hw2, if_neg (by simp), if_pos ⟨rfl, hm⟩]
    refine qD ?_
    refine qP ?_
    refine qD ?_
    refine qB rfl ?_
    refine qA (qC (v := .bool _) rfl) ?_
    refine qA (qC (v := .bool _) rfl) ?_
    refine qJ rfl rfl ?_
    refine qA (wN rfl rfl (v := .bool _) rfl) ?_
    refine qA (qE (v := .bool _) rfl) ?_
    refine zC rfl (rfl) ?_
    refine qD ?_
    refine qB rfl ?_
    refine qA (qC (v := .bool _) rfl) ?_
    refine qA (qL (v := .bool _) rfl) ?_
    refine qA (qC (v := .bool _) rfl) ?_
    refine qG rfl rfl ?_
    refine qA (qC (v := .bool _) rfl) ?_
    refine qG rfl rfl ?_
    refine qA (qL (v := .bool _) rfl) ?_
    refine qA (wI rfl rfl (v := .bool _) rfl) ?_
    refine qA (qE (v := .bool _) rfl) ?_
    refine xp_condT rfl ((by rw [hd]; rfl)) ?_
    refine qB rfl ?_
    refine qA (pv_build (zc := [_]) (vs := [(0, .int .i64 _)]) (cs := [_]) rfl rfl rfl rfl rfl rfl) ?_
    refine qA (qL (v := _) rfl) ?_
    refine op_panic rfl ?_
    exact fun V => ⟨rfl, (zM (zM E1 E2) (qQ V)), by rw [hE]; decide, by rw [hE]; rfl⟩
   ·skip
    have hE : putE l n below true = 0 := by unfold putE; rw [if_neg hw2, if_neg (by simp [hm]), if_neg (by simp)]
    refine qD ?_
    refine qP ?_
    refine qD ?_
    refine qB rfl ?_
    refine qA (qC (v := .bool _) rfl) ?_
    refine qA (qC (v := .bool _) rfl) ?_
    refine qG rfl rfl ?_
    refine qA (qC (v := .bool _) rfl) ?_
    refine qA (wI rfl rfl (v := .bool _) rfl) ?_
    refine qA (qE (v := .bool _) rfl) ?_
    refine zC rfl (hd) ?_
    refine qD ?_
    refine qB rfl ?_
    refine qA (qC (v := .bool _) rfl) ?_
    refine qA (qL (v := .bool _) rfl) ?_
    refine qA (qC (v := .bool _) rfl) ?_
    refine qJ rfl rfl ?_
    refine qJ rfl rfl ?_
    refine qA (wN rfl rfl (v := .bool _) rfl) ?_
    refine qA (qE (v := .bool _) rfl) ?_
    refine zC rfl (rfl) ?_
    refine qD ?_
    refine qB rfl ?_
    refine qA (qC (v := .bool _) rfl) ?_
    refine qA (qE (v := .bool _) rfl) ?_
    refine xp_condT rfl (rfl) ?_
    refine qD ?_
    refine qB rfl ?_
    refine qA (qC (v := .slice _ _ _) rfl) ?_
    refine op_fnMM [] [] [] rfl rfl rfl (cloneIntM l A c h2 (R.ext (zM E1 E2)) hl) ?_
    rintro _ h3 M3 E3 ⟨a, rfl, rfl, ha⟩
    refine qK [_] rfl ?_
    refine qA (qC (v := .int .i64 _) rfl) ?_
    refine qA (qC (v := .int .i64 _) rfl) ?_
    refine wD (zc := [_]) (vs := [(0, .int .i64 _)]) (cs := [_]) rfl rfl rfl rfl rfl rfl rfl fun b46 hb46 => ?_
    refine qK [_, _] rfl ?_
    refine op_fnMM [] [_, _] [] (vs := [.slice _ _ _, .int .i64 _, .slice _ _ _]) rfl rfl rfl (ins_ok l n i a b46 h3 ha AT.1 hl) ?_
    rintro _ h4 M4 E4 ⟨rfl, A4, c4, rfl, R4⟩
    refine qK [] rfl ?_
    refine qA (qE (v := .slice _ _ _) rfl) ?_
    refine qV ?_
    refine qN (vs := [_]) Try.results111 ⟨qM rfl rfl, trivial⟩ fun V => ?_
    exact ⟨(zM (zM (zM (zM E1 E2) E3) E4) (qQ V)), hE, by show SlR _ 1 intC ((l.filter fun x => decide (x < n)) ++ [n] ++ l.filter (fun x => decide (x > n))) _; rw [← filt_at AT, ← filt_gt AT hm, List.append_assoc]; exact ⟨A4, c4, rfl, R4⟩⟩
end
end Go.Proofs.Ythphpbdmbmiaiaa
namespace Go.HL
open Go Go.Wx Go.RowKit Go.ChangeShapes Go.WideShapes
variable [Lvl]
section
variable {H : Type} {enc : TypeId × Value → H} {P : Program} {w : World} {base : Nat} {spare : Nat → Bool} {held : Bool}
theorem row_sliceC {α : Type} (en : α → List Value) {t e : TypeId} {m fuel : Nat} {cs : List Value} {x : DataW H × List MemPlace} (ht : P.underlying t = some (.slice e)) (hc : P.cellsOf e = m) (hm : 0 < m) (he : ∀ a, (en a).length = m)
  (leaf : ∀ n cs x, DataW.trod enc P w base spare held n e cs = some x → ∃ a, cs = en a) (h : DataW.trod enc P w base spare held fuel t cs = some x) :
  ∃ (A : Option Addr) (len cap : Nat) (l : List α), cs = [.slice A len cap] ∧ l.length = len ∧ Row (absH w.heap) m en A l ∧ len ≤ cap ∧ cap ≤ maxLen := by
 rcases Go.Deep.open_slice ht h with ⟨rfl, _⟩ | ⟨a, len, cap, mm, n, D, Pl, rfl, hb, hl, hmx, hmm, _, hel⟩
 ·exact ⟨none, 0, 0, [], rfl, rfl, ⟨fun _ h => (by cases h), Rd.nil _ _⟩, Nat.le_refl _, Nat.zero_le _⟩
 ·have hlm : len ≤ mm := by rw [hmm]; split <;> omega
  have key : ∀ i : _root_.Fin len, ∃ v : α, w.cells? base (a.add (i.val * m)) m = some (en v) := by
   intro i
   obtain ⟨cs', h1, h2⟩ := hel i.val (by have := i.isLt; omega)
   obtain ⟨v, rfl⟩ := leaf _ _ _ h2
   rw [hc] at h1
   exact ⟨v, h1⟩
  let l := List.ofFn fun i : _root_.Fin len => Classical.choose (key i)
  have hll : l.length = len := by simp [l]
  have hat : ∀ (i : Nat) (hi : i < l.length), w.cells? base (a.add (i * m)) m = some (en l[i]) := by
   intro i hi
   have := Classical.choose_spec (key ⟨i, by omega⟩)
   simpa [l] using this
  refine ⟨some a, len, cap, l, rfl, hll, ⟨fun x _ => he x, fun hne => ?_⟩, hl, hmx⟩
  have hpos : 0 < l.length := by
   rcases Nat.eq_zero_or_pos l.length with h0 | h0
   ·rw [List.eq_nil_of_length_eq_zero h0] at hne; simp at hne
   ·exact h0
  obtain ⟨g, off, sp⟩ := a
  have h0 := hat 0 hpos
  obtain ⟨_, _, hcell⟩ := World.cells?_some h0
  have h00 := hcell 0 hm
  rw [Go.Deep.add_add, Nat.zero_mul, Nat.add_zero, List.getElem?_eq_getElem (by rw [he]; exact hm)] at h00
  have hsp : sp = none := by
   cases sp with
   | none => rfl
   | some s =>
    exfalso
    have : w.cell? ((⟨g, off, some s⟩ : Addr).add 0) = none := by
     simp only [Addr.add]
     rw [cell_abs]
     unfold cellA
     split <;> simp
    rw [this] at h00
    cases h00
  subst hsp
  refine ⟨g, off, rfl, fun j u hu => ?_⟩
  have hj : j < l.length * m := by
   have := (List.getElem?_eq_some_iff.1 hu).1
   rwa [wU (fun x _ => he x)] at this
  have hi : j / m < l.length := Nat.div_lt_of_lt_mul (by rw [Nat.mul_comm]; exact hj)
  have hr : j % m < m := Nat.mod_lt _ hm
  have hjm : j / m * m + j % m = j := by rw [Nat.mul_comm]; exact Nat.div_add_mod j m
  obtain ⟨_, _, hcl⟩ := World.cells?_some (hat (j / m) hi)
  have h1 := hcl (j % m) hr
  have h2 : (en l[j / m])[j % m]? = some ((en l[j / m])[j % m]'(by rw [he]; exact hr)) := List.getElem?_eq_getElem _
  have h3 := flat_get en m l (fun x _ => he x) (j / m) _ (List.getElem?_eq_getElem hi) (j % m) _ h2
  rw [hjm, hu] at h3
  rw [h2, ← h3, Go.Deep.add_add, hjm, cell_abs, add_none] at h1
  exact h1
end
end Go.HL
namespace Go.Rd
structure EvP where
 kind : Int
 which : Int
def evC (e : EvP) : List Go.Value := [.int .i64 e.kind, .int .i64 e.which]
end Go.Rd
namespace Go.Proofs.Ythphpbdmbmiaiaa
open Go Go.HL Go.Wx Go.Rd Go.RowKit Go.ChangeShapes Go.WideShapes
variable [Lvl]
set_option maxRecDepth 100000
theorem cellsT_int : Try.prog.cellsOf 3 = 1 := by kernel_rfl
theorem cellsT_ints : Try.prog.cellsOf 22 = 1 := by kernel_rfl
theorem cellsT_pins : Try.prog.cellsOf 25 = 1 := by kernel_rfl
theorem cellsT_links : Try.prog.cellsOf 26 = 1 := by kernel_rfl
theorem cellsT_pin : Try.prog.cellsOf 36 = 3 := by kernel_rfl
theorem cellsT_link : Try.prog.cellsOf 39 = 4 := by kernel_rfl
theorem cellsT_mach : Try.prog.cellsOf 28 = 9 := by kernel_rfl
theorem cellsT_ev : Try.prog.cellsOf 90 = 2 := by kernel_rfl
section
variable {H : Type} {enc : TypeId × Value → H} {w : World} {base : Nat} {spare : Nat → Bool} {held : Bool}
theorem ud_at {α : Type} {xs : List α} {n i : Nat} (h : xs.length = n) (hi : i < n) : ∃ y, xs[i]? = some y := ⟨_, List.getElem?_eq_getElem (by omega)⟩
theorem leaf_int {n : Nat} {cs : List Value} {x : DataW H × List MemPlace} (h : DataW.trod enc Try.prog w base spare held n 3 cs = some x) : ∃ z : Int, cs = [.int .i64 z] := by
 obtain ⟨z, e, _⟩ := DataW.trod_int Try.underlying3 h
 exact ⟨z, e⟩
theorem leaf_pin {n : Nat} {cs : List Value} {x : DataW H × List MemPlace} (h : DataW.trod enc Try.prog w base spare held n 36 cs = some x) : ∃ p : PinP, cs = pinC p := by
 obtain ⟨xs, m, _, _, hl, hx, hf⟩ := DataW.trod_struct Try.underlying36 h
 rw [cellsT_pin] at hl
 obtain ⟨y0, e0⟩ := ud_at (i := 0) hx (by decide)
 obtain ⟨a0, h0⟩ := leaf_int ((show DataW.trod enc Try.prog w base spare held m 3 ((cs.drop 0).take (Try.prog.cellsOf 3)) = xs[0]? from hf 0 _ rfl).trans e0)
 obtain ⟨y1, e1⟩ := ud_at (i := 1) hx (by decide)
 obtain ⟨a1, h1⟩ := leaf_int ((show DataW.trod enc Try.prog w base spare held m 3 ((cs.drop 1).take (Try.prog.cellsOf 3)) = xs[1]? from hf 1 _ rfl).trans e1)
 obtain ⟨y2, e2⟩ := ud_at (i := 2) hx (by decide)
 obtain ⟨a2, h2⟩ := leaf_int ((show DataW.trod enc Try.prog w base spare held m 3 ((cs.drop 2).take (Try.prog.cellsOf 3)) = xs[2]? from hf 2 _ rfl).trans e2)
 rw [cellsT_int] at h0 h1 h2
 match cs, hl with
 | [u0, u1, u2], _ =>
  simp at h0 h1 h2
  exact ⟨⟨a0, a1, a2⟩, by rw [h0, h1, h2]; rfl⟩
theorem leaf_link {n : Nat} {cs : List Value} {x : DataW H × List MemPlace} (h : DataW.trod enc Try.prog w base spare held n 39 cs = some x) : ∃ p : LinkP, cs = linkC p := by
 obtain ⟨xs, m, _, _, hl, hx, hf⟩ := DataW.trod_struct Try.underlying39 h
 rw [cellsT_link] at hl
 obtain ⟨y0, e0⟩ := ud_at (i := 0) hx (by decide)
 obtain ⟨a0, h0⟩ := leaf_int ((show DataW.trod enc Try.prog w base spare held m 3 ((cs.drop 0).take (Try.prog.cellsOf 3)) = xs[0]? from hf 0 _ rfl).trans e0)
 obtain ⟨y1, e1⟩ := ud_at (i := 1) hx (by decide)
 obtain ⟨a1, h1⟩ := leaf_int ((show DataW.trod enc Try.prog w base spare held m 3 ((cs.drop 1).take (Try.prog.cellsOf 3)) = xs[1]? from hf 1 _ rfl).trans e1)
 obtain ⟨y2, e2⟩ := ud_at (i := 2) hx (by decide)
 obtain ⟨a2, h2⟩ := leaf_int ((show DataW.trod enc Try.prog w base spare held m 3 ((cs.drop 2).take (Try.prog.cellsOf 3)) = xs[2]? from hf 2 _ rfl).trans e2)
 obtain ⟨y3, e3⟩ := ud_at (i := 3) hx (by decide)
 obtain ⟨a3, h3⟩ := leaf_int ((show DataW.trod enc Try.prog w base spare held m 3 ((cs.drop 3).take (Try.prog.cellsOf 3)) = xs[3]? from hf 3 _ rfl).trans e3)
 rw [cellsT_int] at h0 h1 h2 h3
 match cs, hl with
 | [u0, u1, u2, u3], _ =>
  simp at h0 h1 h2 h3
  exact ⟨⟨a0, a1, a2, a3⟩, by rw [h0, h1, h2, h3]; rfl⟩
theorem leaf_ev {n : Nat} {cs : List Value} {x : DataW H × List MemPlace} (h : DataW.trod enc Try.prog w base spare held n 90 cs = some x) : ∃ p : EvP, cs = evC p := by
 obtain ⟨xs, m, _, _, hl, hx, hf⟩ := DataW.trod_struct Try.underlying90 h
 rw [cellsT_ev] at hl
 obtain ⟨y0, e0⟩ := ud_at (i := 0) hx (by decide)
 obtain ⟨a0, h0⟩ := leaf_int ((show DataW.trod enc Try.prog w base spare held m 3 ((cs.drop 0).take (Try.prog.cellsOf 3)) = xs[0]? from hf 0 _ rfl).trans e0)
 obtain ⟨y1, e1⟩ := ud_at (i := 1) hx (by decide)
 obtain ⟨a1, h1⟩ := leaf_int ((show DataW.trod enc Try.prog w base spare held m 3 ((cs.drop 1).take (Try.prog.cellsOf 3)) = xs[1]? from hf 1 _ rfl).trans e1)
 rw [cellsT_int] at h0 h1
 match cs, hl with
 | [u0, u1], _ =>
  simp at h0 h1
  exact ⟨⟨a0, a1⟩, by rw [h0, h1]; rfl⟩
theorem mach_in {r : Reach} {b0 : Nat} {v : Value} {d : DataW H} {p : List MemPlace} (hv : Value.okWide Try.prog w r b0 28 v) (h : DataW.Trod enc Try.prog w base spare held 28 v d p) :
  ∃ (m : MachP) (AB AQ AL AW : Option Addr) (cB cQ cL cW : Nat), v = machV AB AQ AL AW cB cQ cL cW m ∧ MachR (absH w.heap) AB AQ AL AW m ∧ m.pins.length ≤ cQ ∧ m.links.length ≤ cL := by
 obtain ⟨⟨cs⟩, rfl, hs⟩ := okWide_struct Try.underlying28 hv
 obtain ⟨fuel, hf0⟩ := h
 have hcs : (Value.agg ⟨cs⟩).cells.toList = cs := rfl
 rw [hcs] at hf0
 obtain ⟨xs, m, _, _, hl, hx, hf⟩ := DataW.trod_struct Try.underlying28 hf0
 rw [cellsT_mach] at hl
 obtain ⟨y0, e0⟩ := ud_at (i := 0) hx (by decide)
 obtain ⟨y1, e1⟩ := ud_at (i := 1) hx (by decide)
 obtain ⟨y2, e2⟩ := ud_at (i := 2) hx (by decide)
 obtain ⟨y3, e3⟩ := ud_at (i := 3) hx (by decide)
 obtain ⟨y4, e4⟩ := ud_at (i := 4) hx (by decide)
 obtain ⟨y5, e5⟩ := ud_at (i := 5) hx (by decide)
 obtain ⟨y6, e6⟩ := ud_at (i := 6) hx (by decide)
 obtain ⟨y7, e7⟩ := ud_at (i := 7) hx (by decide)
 obtain ⟨y8, e8⟩ := ud_at (i := 8) hx (by decide)
 obtain ⟨a0, h0⟩ := leaf_int ((show DataW.trod enc Try.prog w base spare held m 3 ((cs.drop 0).take (Try.prog.cellsOf 3)) = xs[0]? from hf 0 _ rfl).trans e0)
 obtain ⟨a1, h1⟩ := leaf_int ((show DataW.trod enc Try.prog w base spare held m 3 ((cs.drop 1).take (Try.prog.cellsOf 3)) = xs[1]? from hf 1 _ rfl).trans e1)
 obtain ⟨a2, h2⟩ := leaf_int ((show DataW.trod enc Try.prog w base spare held m 3 ((cs.drop 2).take (Try.prog.cellsOf 3)) = xs[2]? from hf 2 _ rfl).trans e2)
 obtain ⟨a3, h3⟩ := leaf_int ((show DataW.trod enc Try.prog w base spare held m 3 ((cs.drop 3).take (Try.prog.cellsOf 3)) = xs[3]? from hf 3 _ rfl).trans e3)
 obtain ⟨a4, h4⟩ := leaf_int ((show DataW.trod enc Try.prog w base spare held m 3 ((cs.drop 4).take (Try.prog.cellsOf 3)) = xs[4]? from hf 4 _ rfl).trans e4)
 obtain ⟨A5, n5, c5, l5, h5, k5, R5, hc5, _⟩ := row_sliceC intC Try.underlying22 cellsT_int (by omega) (fun _ => rfl) (fun _ _ _ => leaf_int) ((show DataW.trod enc Try.prog w base spare held m 22 ((cs.drop 5).take (Try.prog.cellsOf 22)) = xs[5]? from hf 5 _ rfl).trans e5)
 obtain ⟨A6, n6, c6, l6, h6, k6, R6, hc6, _⟩ := row_sliceC pinC Try.underlying25 cellsT_pin (by omega) (fun _ => rfl) (fun _ _ _ => leaf_pin) ((show DataW.trod enc Try.prog w base spare held m 25 ((cs.drop 6).take (Try.prog.cellsOf 25)) = xs[6]? from hf 6 _ rfl).trans e6)
 obtain ⟨A7, n7, c7, l7, h7, k7, R7, hc7, _⟩ := row_sliceC linkC Try.underlying26 cellsT_link (by omega) (fun _ => rfl) (fun _ _ _ => leaf_link) ((show DataW.trod enc Try.prog w base spare held m 26 ((cs.drop 7).take (Try.prog.cellsOf 26)) = xs[7]? from hf 7 _ rfl).trans e7)
 obtain ⟨A8, n8, c8, l8, h8, k8, R8, hc8, _⟩ := row_sliceC intC Try.underlying22 cellsT_int (by omega) (fun _ => rfl) (fun _ _ _ => leaf_int) ((show DataW.trod enc Try.prog w base spare held m 22 ((cs.drop 8).take (Try.prog.cellsOf 22)) = xs[8]? from hf 8 _ rfl).trans e8)
 rw [cellsT_int] at h0 h1 h2 h3 h4
 rw [cellsT_ints] at h5 h8
 rw [cellsT_pins] at h6
 rw [cellsT_links] at h7
 match cs, hl with
 | [u0, u1, u2, u3, u4, u5, u6, u7, u8], _ =>
  simp at h0 h1 h2 h3 h4 h5 h6 h7 h8
  refine ⟨⟨a0, a1, a2, a3, a4, l5, l6, l7, l8⟩, A5, A6, A7, A8, c5, c6, c7, c8, ?_, ⟨R5, R6, R7, R8⟩, by show l6.length ≤ c6; omega, by show l7.length ≤ c7; omega⟩
  rw [h0, h1, h2, h3, h4, h5, h6, h7, h8, ← k5, ← k6, ← k7, ← k8]
theorem ev_in {r : Reach} {b0 : Nat} {v : Value} {d : DataW H} {p : List MemPlace} (hv : Value.okWide Try.prog w r b0 90 v) (h : DataW.Trod enc Try.prog w base spare held 90 v d p) :
  ∃ q : EvP, v = .agg (evC q).toArray := by
 obtain ⟨cs, rfl, hs⟩ := okWide_struct Try.underlying90 hv
 obtain ⟨fuel, hf0⟩ := h
 obtain ⟨q, e⟩ := leaf_ev hf0
 have hcs : (Value.agg cs).cells.toList = cs.toList := rfl
 rw [hcs] at e
 exact ⟨q, by rw [← e]⟩
theorem ints_in {r : Reach} {b0 : Nat} {v : Value} {d : DataW H} {p : List MemPlace} (hv : Value.okWide Try.prog w r b0 22 v) (h : DataW.Trod enc Try.prog w base spare held 22 v d p) :
  ∃ (l : List Int) (A : Option Addr) (c : Nat), v = .slice A l.length c ∧ Row (absH w.heap) 1 intC A l ∧ l.length ≤ maxLen := by
 obtain ⟨a0, len0, cap0, rfl⟩ := okWide_slice Try.underlying22 hv
 obtain ⟨fuel, hf⟩ := h
 obtain ⟨A, n, c, l, e, k, R, h1, h2⟩ := row_sliceC intC Try.underlying22 cellsT_int (by omega) (fun _ => rfl) (fun _ _ _ => leaf_int) hf
 have hcs : (Value.slice a0 len0 cap0).cells.toList = [.slice a0 len0 cap0] := rfl
 rw [hcs] at e
 simp at e
 obtain ⟨rfl, rfl, rfl⟩ := e
 subst k
 exact ⟨l, _, _, rfl, R, Nat.le_trans h1 h2⟩
theorem evs_in {r : Reach} {b0 : Nat} {v : Value} {d : DataW H} {p : List MemPlace} (hv : Value.okWide Try.prog w r b0 89 v) (h : DataW.Trod enc Try.prog w base spare held 89 v d p) :
  ∃ (l : List EvP) (A : Option Addr) (c : Nat), v = .slice A l.length c ∧ Row (absH w.heap) 2 evC A l ∧ l.length ≤ maxLen := by
 obtain ⟨a0, len0, cap0, rfl⟩ := okWide_slice Try.underlying89 hv
 obtain ⟨fuel, hf⟩ := h
 obtain ⟨A, n, c, l, e, k, R, h1, h2⟩ := row_sliceC evC Try.underlying89 cellsT_ev (by omega) (fun _ => rfl) (fun _ _ _ => leaf_ev) hf
 have hcs : (Value.slice a0 len0 cap0).cells.toList = [.slice a0 len0 cap0] := rfl
 rw [hcs] at e
 simp at e
 obtain ⟨rfl, rfl, rfl⟩ := e
 subst k
 exact ⟨l, _, _, rfl, R, Nat.le_trans h1 h2⟩
end
end Go.Proofs.Ythphpbdmbmiaiaa
namespace Go.Proofs.Ythphpbdmbmiaiaa
open Go Go.HL Go.Proofs Go.Wx Go.Rd
section
variable [Lvl]
set_option maxRecDepth 100000
def stepE (m : MachP) (a : HandP) (x : EvP) : Int := if x.kind = 1 ∨ x.kind = 2 then putE a.buttons x.which m.buttons.length (x.kind == 1) else if x.kind = 3 ∨ x.kind = 4 then putE a.on x.which m.regs (x.kind == 3) else 8
def stepH (a : HandP) (x : EvP) : HandP := if x.kind = 1 ∨ x.kind = 2 then ⟨putL a.buttons x.which (x.kind == 1), a.on⟩ else ⟨a.buttons, putL a.on x.which (x.kind == 3)⟩
structure PlP where
 e : Int
 a : HandP
 out : List (List Int)
def playS (m : MachP) (s : PlP) (x : EvP) : PlP := if s.e ≠ 0 then s else if stepE m s.a x ≠ 0 then ⟨stepE m s.a x, s.a, []⟩ else ⟨0, stepH s.a x, s.out ++ [listN (soundsM m (stepH s.a x) m.travel) 6]⟩
def goM (m : MachP) (l : List EvP) : PlP := l.foldl (playS m) ⟨0, ⟨[], []⟩, []⟩
def playM (m : MachP) (l : List EvP) : Int × List (List Int) := if chkM m ≠ 0 then (chkM m, []) else if (l.length : Int) > 12 then (6, []) else ((goM m l).e, (goM m l).out)
theorem goM_snoc (m : MachP) {l : List EvP} {k : Nat} (hk : k < l.length) : goM m (l.take (k + 1)) = playS m (goM m (l.take k)) l[k] := by
 rw [goM, take_snoc hk, List.foldl_append]; rfl
theorem playS_stop {m : MachP} {s : PlP} (h : s.e ≠ 0) : ∀ l : List EvP, l.foldl (playS m) s = s
 | [] => rfl
 | x :: l => by rw [List.foldl_cons, playS, if_pos h, playS_stop h l]
theorem goM_bad (m : MachP) {l : List EvP} {k : Nat} (hk : k < l.length) (h0 : (goM m (l.take k)).e = 0) (h : stepE m (goM m (l.take k)).a l[k] ≠ 0) : goM m l = ⟨stepE m (goM m (l.take k)).a l[k], (goM m (l.take k)).a, []⟩ := by
 have e : goM m (l.take (k + 1)) = ⟨stepE m (goM m (l.take k)).a l[k], (goM m (l.take k)).a, []⟩ := by rw [goM_snoc m hk, playS, if_neg (by simp [h0]), if_pos h]
 have e2 : goM m l = (l.drop (k + 1)).foldl (playS m) (goM m (l.take (k + 1))) := by
  unfold goM
  rw [← List.foldl_append, List.take_append_drop]
 rw [e2, playS_stop (by rw [e]; exact h), e]
theorem goM_good (m : MachP) {l : List EvP} {k : Nat} (hk : k < l.length) (h0 : (goM m (l.take k)).e = 0) (h : stepE m (goM m (l.take k)).a l[k] = 0) : goM m (l.take (k + 1)) = ⟨0, stepH (goM m (l.take k)).a l[k], (goM m (l.take k)).out ++ [listN (soundsM m (stepH (goM m (l.take k)).a l[k]) m.travel) 6]⟩ := by
 rw [goM_snoc m hk, playS, if_neg (by simp [h0]), if_neg (by simp [h])]
theorem putL_ok {l : List Int} {n below : Int} {inn : Bool} (s : SetOK l below) (h : putE l n below inn = 0) : SetOK (putL l n inn) below := by
 unfold putE at h
 by_cases h1 : inM n 0 (below - 1) = false
 ·rw [if_pos h1] at h; cases h
 ·rw [if_neg h1] at h
  have h1' : inM n 0 (below - 1) = true := by simpa using h1
  rw [inM_iff] at h1'
  unfold putL
  by_cases hi : inn = true
  ·rw [if_pos hi]
   refine ⟨fun x hx => ?_, ?_⟩
   ·rw [List.mem_append, List.mem_append, List.mem_singleton] at hx
    rcases hx with (hx | rfl) | hx
    ·exact s.mem x (List.mem_filter.1 hx).1
    ·omega
    ·exact s.mem x (List.mem_filter.1 hx).1
   ·rw [List.append_assoc, List.pairwise_append]
    refine ⟨s.asc.filter _, ?_, ?_⟩
    ·rw [List.singleton_append, List.pairwise_cons]
     exact ⟨fun x hx => of_decide_eq_true (List.mem_filter.1 hx).2, s.asc.filter _⟩
    ·intro x hx y hy
     have hxn := of_decide_eq_true (List.mem_filter.1 hx).2
     rw [List.singleton_append, List.mem_cons] at hy
     rcases hy with rfl | hy
     ·exact hxn
     ·have := of_decide_eq_true (List.mem_filter.1 hy).2
      omega
  ·rw [if_neg hi]
   exact ⟨fun x hx => s.mem x (List.mem_filter.1 hx).1, s.asc.filter _⟩
theorem stepH_ok {m : MachP} {a : HandP} {x : EvP} (H : HOK m a) (h : stepE m a x = 0) : HOK m (stepH a x) := by
 unfold stepE at h
 unfold stepH
 by_cases h1 : x.kind = 1 ∨ x.kind = 2
 ·rw [if_pos h1] at h ⊢; exact ⟨putL_ok H.b h, H.o⟩
 ·rw [if_neg h1] at h ⊢
  by_cases h2 : x.kind = 3 ∨ x.kind = 4
  ·rw [if_pos h2] at h; exact ⟨H.b, putL_ok H.o h⟩
  ·rw [if_neg h2] at h; cases h
theorem hok0 (m : MachP) : HOK m ⟨[], []⟩ := ⟨⟨fun _ h => absurd h List.not_mem_nil, List.Pairwise.nil⟩, ⟨fun _ h => absurd h List.not_mem_nil, List.Pairwise.nil⟩⟩
theorem goM_len (m : MachP) (l : List EvP) : (goM m l).out.length ≤ l.length := by
 have : ∀ (l : List EvP) (s : PlP), (l.foldl (playS m) s).out.length ≤ s.out.length + l.length := by
  intro l
  induction l with
  | nil => intro s; exact Nat.le_refl _
  | cons x l ih =>
   intro s
   rw [List.foldl_cons]
   refine Nat.le_trans (ih _) ?_
   unfold playS
   split
   ·simp
   ·split
    ·simp; omega
    ·simp; omega
 have := this l ⟨0, ⟨[], []⟩, []⟩
 simpa [goM] using this
theorem playClo_nil (b4 b5 : Nat) (L : Pv) (h : AH) (Q : Pv → AH → Prop) (q : Q L h) : Clo Try.prog 18 (bodyOps Try.f110) (bodyRest Try.f110) 5 .nilIface #[.pointer (some ⟨b4, 0, none⟩), .pointer (some ⟨b5, 0, none⟩)] L h Q := by
 refine ⟨rfl, ?_⟩
 refine clo_run rfl rfl rfl ?_
 refine qA (qE (v := _) rfl) ?_
 refine qD ?_
 refine qB rfl ?_
 refine qA (qC (v := _) rfl) ?_
 refine qA (qL (v := .bool _) rfl) ?_
 refine zC rfl (rfl) ?_
 refine qO ?_
 exact ⟨.inl rfl, rfl, q⟩
theorem playClo_pan (b4 b5 : Nat) (e : Int) (p0 p3 p4 p5 : Option (Nat × Obj)) (v4 v5 : Value) (h : AH) (Q : Pv → AH → Prop)
  (q : ∀ b3 o3, Q [p0, some (b4, .cells #[.slice none 0 0] 60 (0, 0)), some (b5, .cells #[.int .i64 e] 42 (0, 0)), p3, p4, p5, some (b3, o3)] h) :
  Clo Try.prog 18 (bodyOps Try.f110) (bodyRest Try.f110) 5 (.iface 145 (.agg #[.int .i64 e])) #[.pointer (some ⟨b4, 0, none⟩), .pointer (some ⟨b5, 0, none⟩)] [p0, some (b4, .cells #[v4] 60 (0, 0)), some (b5, .cells #[v5] 42 (0, 0)), p3, p4, p5] h Q := by
 refine ⟨rfl, ?_⟩
 obtain ⟨K, hK⟩ : ∃ K : Post, K = (fun e (_ : Sl) D L' h' => (e = .normal ∨ e = .ret) ∧ D = [] ∧ Q L' h') := ⟨_, rfl⟩
 rw [← hK]
 refine clo_run rfl rfl rfl ?_
 refine qA (qE (v := _) rfl) ?_
 refine qD ?_
 refine qB rfl ?_
 refine qA (qC (v := _) rfl) ?_
 refine qA (qL (v := .bool _) rfl) ?_
 refine xp_condT rfl (rfl) ?_
 refine qD ?_
 refine qB rfl ?_
 refine qA (qC (v := _) rfl) ?_
 refine qA (pv_assert (v := .agg #[.int .i64 _]) rfl rfl rfl) ?_
 refine qA (qC (v := .tuple #[.agg #[.int .i64 _], .bool _]) rfl) ?_
 refine qA (qL (v := .agg #[.int .i64 _]) rfl) ?_
 refine qA (qL (v := .bool _) rfl) ?_
 refine zA (cs := [_]) rfl rfl fun b3 hb3 => ?_
 refine qK [_, _, _, _, _, _, _] rfl ?_
 refine qW 6 (v := .agg #[.int .i64 _]) (vs := [_]) (c' := [_]) rfl rfl rfl rfl rfl rfl rfl rfl rfl ?_
 refine qK [_, _, _, _, _, _, _] rfl ?_
 refine qA (qE (v := .bool _) rfl) ?_
 refine qD ?_
 refine qD ?_
 refine qB rfl ?_
 refine qA (qC (v := .bool _) rfl) ?_
 refine qA (qL (v := .bool _) rfl) ?_
 refine zC rfl (rfl) ?_
 refine qO ?_
 refine xp_dw [false, true, true, false, false, false, false] rfl rfl rfl ?_
 refine qI (i := 0) rfl (by decide +kernel) (qF rfl rfl rfl rfl 0 rfl) ?_
 refine qZ (i := 1) rfl (by decide +kernel) ?_
 refine qH 6 (v := .int .i64 _) rfl rfl rfl rfl ?_
 refine dw_eff (i := 2) rfl (by decide +kernel) ?_
 refine qW 1 (v := .slice _ _ _) (vs := [_]) (c' := [_]) rfl rfl rfl rfl rfl rfl rfl rfl rfl ?_
 refine ⟨Ext.refl _, ?_⟩
 refine wS [_, _, _, _, _, _, _] rfl ?_
 refine zF (i := 3) rfl (by decide +kernel) (by decide +kernel) ?_
 refine qW 2 (v := .int .i64 _) (vs := [_]) (c' := [_]) rfl rfl rfl rfl rfl rfl rfl rfl rfl ?_
 refine wS [_, _, _, _, _, _, _] rfl ?_
 refine zI rfl ?_
 rw [hK]
 exact ⟨.inl rfl, rfl, q _ _⟩
end
end Go.Proofs.Ythphpbdmbmiaiaa
namespace Go.Proofs.Ythphpbdmbmiaiaa
open Go Go.HL Go.Proofs Go.Wx Go.Rd
section
variable [Lvl]
set_option maxRecDepth 100000
set_option maxHeartbeats 1000000 in
theorem Play_ok (hph : Lvl.ph = true) (m : MachP) (l : List EvP) (AB AQ AL AW EA : Option Addr) (cB cQ cL cW cE : Nat) (h : AH) (RM : MachR h AB AQ AL AW m) (RE : Row h 2 evC EA l) (h0 : m.weights.length < 2 ^ 40) (hl : l.length < 2 ^ 40) :
  FnT Try.prog 72 #[machV AB AQ AL AW cB cQ cL cW m, .slice EA l.length cE] h (fun v h' => ∃ V, v = .tuple #[V, .int .i64 (playM m l).1] ∧ SlX h' 1 TL (playM m l).2 V) := by
 refine call_defer Try.func72 rfl Try.ntmps72 rfl (ops0 := bodyOps Try.f110) (c2 := bodyRest Try.f110) (m := 18) (t := 5) Try.func110 (by kernel_rfl) rfl Try.ntmps110 rfl rfl rfl rfl rfl rfl ?_
 refine qD ?_
 refine qB rfl ?_
 refine zE (v := .agg #[.int .i64 _, .int .i64 _, .int .i64 _, .int .i64 _, .int .i64 _, .slice _ _ _, .slice _ _ _, .slice _ _ _, .slice _ _ _]) (cs := [_, _, _, _, _, _, _, _, _]) rfl rfl fun b2 hb2 => ?_
 refine qK [_] rfl ?_
 refine zA (cs := [_]) rfl rfl fun b4 hb4 => ?_
 refine qK [_, _] rfl ?_
 refine zA (cs := [_]) rfl rfl fun b5 hb5 => ?_
 refine qK [_, _, _] rfl ?_
 refine qD ?_
 refine qD ?_
 refine qB rfl ?_
 refine wE 0 (vs := [.int .i64 _, .int .i64 _, .int .i64 _, .int .i64 _, .int .i64 _, .slice _ _ _, .slice _ _ _, .slice _ _ _, .slice _ _ _]) rfl rfl rfl rfl rfl ?_
 refine wK (caps := []) (vs := [.agg #[.int .i64 _, .int .i64 _, .int .i64 _, .int .i64 _, .int .i64 _, .slice _ _ _, .slice _ _ _, .slice _ _ _, .slice _ _ _]]) rfl rfl rfl (Check_ok m AB AQ AL AW cB cQ cL cW h (RM.ext (Ext.refl _)) h0) ?_
 rintro _ h1 E1 rfl
 refine qA (qE (v := .int .i64 _) rfl) ?_
 refine qD ?_
 refine qB rfl ?_
 refine qA (qC (v := .int .i64 _) rfl) ?_
 refine qA (qL (v := .bool _) rfl) ?_
 refine qR rfl (fun hc => ?_) (fun hc => ?_)
 ·skip
  have hc' : chkM m ≠ 0 := by simpa using hc
  refine qD ?_
  refine qB rfl ?_
  refine qA (qC (v := .int .i64 _) rfl) ?_
  refine qW 1 (v := .slice _ _ _) (vs := [_]) (c' := [_]) rfl rfl rfl rfl rfl rfl rfl rfl rfl ?_
  refine qK [_, _, _] rfl ?_
  refine qW 2 (v := .int .i64 _) (vs := [_]) (c' := [_]) rfl rfl rfl rfl rfl rfl rfl rfl rfl ?_
  refine qK [_, _, _] rfl ?_
  refine qV ?_
  exact .inl ⟨rfl, doneK_list (vs := [_, _]) Try.results72 ⟨resV_one 1 rfl rfl rfl rfl (v := .slice _ _ _) rfl, resV_one 2 rfl rfl rfl rfl (v := .int .i64 _) rfl, trivial⟩ (fun V => ⟨(zM E1 (qQ V)), _, by rw [playM, if_pos hc']; rfl, by rw [playM, if_pos hc']; exact SlX.nil _ _ _ _ _⟩)⟩
 ·skip
  have hc' : ¬ chkM m ≠ 0 := by simpa using hc
  refine qO ?_
  refine qD ?_
  refine qD ?_
  refine qB rfl ?_
  refine qA (qC (v := .slice _ _ _) rfl) ?_
  refine qA (wP rfl rfl) ?_
  refine qA (qL (v := .bool _) rfl) ?_
  refine qR rfl (fun hm => ?_) (fun hm => ?_)
  ·skip
   have hm' : (l.length : Int) > 12 := of_decide_eq_true hm
   refine qD ?_
   refine qB rfl ?_
   refine qW 1 (v := .slice _ _ _) (vs := [_]) (c' := [_]) rfl rfl rfl rfl rfl rfl rfl rfl rfl ?_
   refine qK [_, _, _] rfl ?_
   refine qW 2 (v := .int .i64 _) (vs := [_]) (c' := [_]) rfl rfl rfl rfl rfl rfl rfl rfl rfl ?_
   refine qK [_, _, _] rfl ?_
   refine qV ?_
   exact .inl ⟨rfl, doneK_list (vs := [_, _]) Try.results72 ⟨resV_one 1 rfl rfl rfl rfl (v := .slice _ _ _) rfl, resV_one 2 rfl rfl rfl rfl (v := .int .i64 _) rfl, trivial⟩ (fun V => ⟨(zM E1 (qQ V)), _, by rw [playM, if_neg hc', if_pos hm']; rfl, by rw [playM, if_neg hc', if_pos hm']; exact SlX.nil _ _ _ _ _⟩)⟩
  ·skip
   have hm' : ¬ (l.length : Int) > 12 := of_decide_eq_false hm
   refine qO ?_
   refine qD ?_
   refine xp_regionD rfl rfl ?_
   refine qA (pv_makeFunc (vs := []) (ws := [_, _]) rfl rfl) ?_
   refine goes_deferF rfl rfl rfl rfl ?_
   refine goes_end ?_
   refine qS [_, _, _] rfl ?_
   have M := check_ok (by simpa using hc' : chkM m = 0)
   have tr := M.travel
   have hbl := M.bl
   have hrg := M.regs
   refine goes_more ?_
   refine qS [_, _, _, _] rfl ?_
   refine qD ?_
   refine qB rfl ?_
   refine wE 0 (vs := [.int .i64 _, .int .i64 _, .int .i64 _, .int .i64 _, .int .i64 _, .slice _ _ _, .slice _ _ _, .slice _ _ _, .slice _ _ _]) rfl rfl rfl rfl rfl ?_
   refine wK (caps := []) (vs := [.agg #[.int .i64 _, .int .i64 _, .int .i64 _, .int .i64 _, .int .i64 _, .slice _ _ _, .slice _ _ _, .slice _ _ _, .slice _ _ _]]) rfl rfl rfl (sounding_ok m AB AQ AL AW cB cQ cL cW h1 (RM.ext E1)) ?_
   rintro _ h2 E2 ⟨bs, AB1, AQ1, AL1, AW1, cB1, cQ1, cL1, cW1, rfl, CM, RM1⟩
   refine qA (qE (v := _) rfl) ?_
   refine qD ?_
   refine qB rfl ?_
   refine zA (cs := [_, _]) rfl rfl fun b8 hb8 => ?_
   refine qK [_, _, _, _, _] rfl ?_
   refine qD ?_
   refine qD ?_
   refine qB rfl ?_
   refine qA (qC (v := .slice _ _ _) rfl) ?_
   refine qA (wP rfl rfl) ?_
   refine qA (qC (v := .int .i64 _) rfl) ?_
   refine qP ?_
   refine xp_loopL [10, 24, 25, 26, 27, 28, 29, 30, 31, 32, 33, 34, 35, 36, 37, 38, 39, 40, 41, 42, 43, 44, 45, 46, 47, 48, 49, 50, 51, 52, 53, 54, 55, 56, 57, 58, 59, 60, 61, 62, 63, 64, 65, 66, 67, 68, 69, 70] 5 (α := Nat × Acc × List (List Value) × HandP × Option Addr × Nat × Option Addr × Nat) (fun ⟨k, a, gs, hd, HA, cH, OA, cO⟩ => [(24, .int .i64 k)]) (fun ⟨k, a, gs, hd, HA, cH, OA, cO⟩ L => ((L.set 1 (some (b4, .cells #[.slice a.A a.n a.c] 60 (0, 0)))).set 3 (a.p)).set 4 (some (b8, .cells #[.slice HA hd.buttons.length cH, .slice OA hd.on.length cO] 31 (0, 0)))) (fun ⟨k, a, gs, hd, HA, cH, OA, cO⟩ h_k => k ≤ l.length ∧ (goM m (l.take k)).e = 0 ∧ (goM m (l.take k)).a = hd ∧ HOK m hd ∧ HandR h_k HA OA hd ∧ AccR 22 1 (gs.flatMap id) a ∧ Els h_k TL (goM m (l.take k)).out gs ∧ ∀ x ∈ gs, x.length = 1) (fun ⟨k, a, gs, hd, HA, cH, OA, cO⟩ => l.length - k) ((0, acc0, [], ⟨[], []⟩, none, 0, none, 0)) ⟨rfl, trivial⟩ (rfl) (⟨Nat.zero_le _, rfl, rfl, hok0 m, ⟨⟨fun _ _ => rfl, Rd.nil _ _⟩, ⟨fun _ _ => rfl, Rd.nil _ _⟩⟩, accR0, Els.nil _ _, fun _ hx => absurd hx List.not_mem_nil⟩) ?_
   rintro ⟨k, a, gs, hd, HA, cH, OA, cO⟩ T1 h_k E_k J_k
   refine qS [_, _, _, _, _] rfl ?_
   obtain ⟨K1, K2, K3, K4, K5, K6, K7, K8⟩ := J_k
   refine qD ?_
   refine qB rfl ?_
   refine qA (qL (v := .bool _) rfl) ?_
   refine qD ?_
   refine qR rfl (fun hk => ?_) (fun hk => ?_)
   ·skip
    have hkl : k < l.length := ltI hk
    obtain ⟨g, off, hA, hcE⟩ := (RE.ext (zM (zM E1 E2) E_k)).at (by omega) hkl
    have hb1 := set_len K4.b
    have ho1 : hd.on.length ≤ m.regs.toNat := set_len (below := m.regs.toNat) (by have := K4.o; rwa [← Int.toNat_of_nonneg hrg.1] at this)
    refine qO ?_
    refine qD ?_
    refine qP ?_
    refine qD ?_
    refine qB rfl ?_
    refine qA (wO rfl hA rfl rfl rfl (by omega) (by omega)) ?_
    refine op_loadA rfl rfl rfl rfl (hcE) ?_
    refine zA (cs := [_, _]) rfl rfl fun b10 hb10 => ?_
    refine qK [_, _, _, _, _, _] rfl ?_
    refine qW 5 (v := .agg #[.int .i64 _, .int .i64 _]) (vs := [_, _]) (c' := [_, _]) rfl rfl rfl rfl rfl rfl rfl rfl rfl ?_
    refine qK [_, _, _, _, _, _] rfl ?_
    refine xp_cutB [28, 29, 30, 31, 32, 33, 34, 35, 36, 37, 38, 39, 40, 41, 42, 43, 44, 45, 46, 47, 48, 49, 50, 51, 52, 53, 54, 55, 56, 57, 58, 59, 60] 6 (α := Option Addr × Nat × Option Addr × Nat) (fun ⟨H9, c9, O9, d9⟩ => []) (fun ⟨H9, c9, O9, d9⟩ L => L.set 4 (some (b8, .cells #[.slice H9 (stepH hd l[k]).buttons.length c9, .slice O9 (stepH hd l[k]).on.length d9] 31 (0, 0)))) (fun ⟨H9, c9, O9, d9⟩ h_H9 => stepE m hd l[k] = 0 ∧ HandR h_H9 H9 O9 (stepH hd l[k])) ?_ ?_
    ·skip
     refine qD ?_
     refine qB rfl ?_
     refine qA (qF rfl rfl rfl rfl 0 rfl) ?_
     refine qH 5 (v := .int .i64 _) rfl rfl rfl rfl ?_
     refine qP ?_
     refine xp_cutB [32, 33, 34] 6 (α := Unit) (fun u => [(32, .bool (decide (l[k].kind = 1 ∨ l[k].kind = 2)))]) (fun u L => L) (fun u h_u => True) ?_ ?_
     ·skip
      refine qD ?_
      refine qB rfl ?_
      refine qA (qL (v := .bool _) rfl) ?_
      refine qA (qE (v := .bool _) rfl) ?_
      refine qR rfl (fun q1 => ?_) (fun q1 => ?_)
      ·skip
       have q1' : l[k].kind = 1 := by simpa using q1
       refine qO ?_
       refine ⟨(), ⟨(by show Value.bool _ = _; rw [q1, decide_eq_true (.inl q1')]), trivial⟩, rfl, rfl, (Ext.refl _), fun h3 E3 => by first | trivial | omega | (refine ⟨?_, ?_⟩ <;> omega), ?_⟩
       repeat (first | exact wY _ _ | exact qY _ _ _ | refine wG (by decide) ?_ | refine qX rfl ?_ | refine wH rfl ?_)
      ·skip
       have q1' : ¬ l[k].kind = 1 := by simpa using q1
       refine qB rfl ?_
       refine qA (qL (v := .bool _) rfl) ?_
       refine qA (qE (v := .bool _) rfl) ?_
       refine ⟨(), ⟨(by show Value.bool _ = _; congr 1; by_cases q2 : l[k].kind = 2 <;> simp [q1', q2]), trivial⟩, rfl, rfl, (Ext.refl _), fun h3 E3 => by first | trivial | omega | (refine ⟨?_, ?_⟩ <;> omega), ?_⟩
       repeat (first | exact wY _ _ | exact qY _ _ _ | refine wG (by decide) ?_ | refine qX rfl ?_ | refine wH rfl ?_)
     ·rintro u T3 h_u E_u J_u
      refine qS [_, _, _, _, _, _] rfl ?_
      refine qR rfl (fun hb => ?_) (fun hb => ?_)
      ·skip
       have hb' : l[k].kind = 1 ∨ l[k].kind = 2 := of_decide_eq_true hb
       have hstep : stepE m hd l[k] = putE hd.buttons l[k].which m.buttons.length (l[k].kind == 1) := by unfold stepE; rw [if_pos hb']
       have hsh : stepH hd l[k] = ⟨putL hd.buttons l[k].which (l[k].kind == 1), hd.on⟩ := by unfold stepH; rw [if_pos hb']
       refine qB rfl ?_
       refine qA (qF rfl rfl rfl rfl 0 rfl) ?_
       refine qH 4 (v := .slice _ _ _) rfl rfl rfl rfl ?_
       refine qA (qF rfl rfl rfl rfl 1 rfl) ?_
       refine qH 5 (v := .int .i64 _) rfl rfl rfl rfl ?_
       refine qA (qF rfl rfl rfl rfl 5 rfl) ?_
       refine qH 0 (v := .slice _ _ _) rfl rfl rfl rfl ?_
       refine qA (wP rfl rfl) ?_
       refine qA (qF rfl rfl rfl rfl 0 rfl) ?_
       refine qH 5 (v := .int .i64 _) rfl rfl rfl rfl ?_
       refine qA (qL (v := .bool _) rfl) ?_
       refine op_fnE (caps := []) (vs := [.slice _ _ _, .int .i64 _, .int .i64 _, .bool _]) rfl rfl rfl (put_ok hd.buttons l[k].which m.buttons.length (l[k].kind == 1) HA cH h_u (K5.ext E_u).b (by omega) K4.b.asc (by omega)) (fun v h9 E9 q => ?_) ?_
       ·obtain ⟨hne, rfl⟩ := q
        exact Exists.intro _ ⟨rfl, playClo_pan _ _ _ _ _ _ _ _ _ _ _ (fun b3 o3 => doneK_list (vs := [_, _]) Try.results72 ⟨resV_one 1 rfl rfl rfl rfl (v := .slice _ _ _) rfl, resV_one 2 rfl rfl rfl rfl (v := .int .i64 _) rfl, trivial⟩ (fun V => ⟨zM (zM (zM (zM (zM E1 E2) E_k) E_u) E9) (qQ V), _, by rw [playM, if_neg hc', if_neg hm', goM_bad m hkl K2 (by rw [K3, hstep]; exact hne)]; show _ = Value.tuple #[_, .int .i64 (stepE m (goM m (l.take k)).a l[k])]; rw [K3, hstep]; rfl, by rw [playM, if_neg hc', if_neg hm', goM_bad m hkl K2 (by rw [K3, hstep]; exact hne)]; exact SlX.nil _ _ _ _ _⟩))⟩
       rintro _ h9 E9 ⟨he, A9, c9, rfl, R9⟩
       refine qA (qF rfl rfl rfl rfl 0 rfl) ?_
       refine qW 4 (v := .slice _ _ _) (vs := [_]) (c' := [_, _]) rfl rfl rfl rfl rfl rfl rfl rfl rfl ?_
       refine qK [_, _, _, _, _, _] rfl ?_
       refine ⟨(A9, c9, OA, cO), trivial, rfl, by rw [hsh]; rfl, (zM E_u E9), fun h3 E3 => ⟨by rw [hstep, he], by rw [hsh]; exact ⟨R9.ext E3, K5.o.ext (zM (zM E_u E9) E3)⟩⟩, ?_⟩
       repeat (first | exact wY _ _ | exact qY _ _ _ | refine wG (by decide) ?_ | refine qX rfl ?_ | refine wH rfl ?_)
      ·skip
       have hb' : ¬ (l[k].kind = 1 ∨ l[k].kind = 2) := of_decide_eq_false hb
       refine xp_cutB [47, 48, 49] 6 (α := Unit) (fun u2 => [(47, .bool (decide (l[k].kind = 3 ∨ l[k].kind = 4)))]) (fun u2 L => L) (fun u2 h_u2 => True) ?_ ?_
       ·skip
        refine qD ?_
        refine qB rfl ?_
        refine qA (qL (v := .bool _) rfl) ?_
        refine qA (qE (v := .bool _) rfl) ?_
        refine qR rfl (fun q1 => ?_) (fun q1 => ?_)
        ·skip
         have q1' : l[k].kind = 3 := by simpa using q1
         refine qO ?_
         refine ⟨(), ⟨(by show Value.bool _ = _; rw [q1, decide_eq_true (.inl q1')]), trivial⟩, rfl, rfl, (Ext.refl _), fun h3 E3 => by first | trivial | omega | (refine ⟨?_, ?_⟩ <;> omega), ?_⟩
         repeat (first | exact wY _ _ | exact qY _ _ _ | refine wG (by decide) ?_ | refine qX rfl ?_ | refine wH rfl ?_)
        ·skip
         have q1' : ¬ l[k].kind = 3 := by simpa using q1
         refine qB rfl ?_
         refine qA (qL (v := .bool _) rfl) ?_
         refine qA (qE (v := .bool _) rfl) ?_
         refine ⟨(), ⟨(by show Value.bool _ = _; congr 1; by_cases q2 : l[k].kind = 4 <;> simp [q1', q2]), trivial⟩, rfl, rfl, (Ext.refl _), fun h3 E3 => by first | trivial | omega | (refine ⟨?_, ?_⟩ <;> omega), ?_⟩
         repeat (first | exact wY _ _ | exact qY _ _ _ | refine wG (by decide) ?_ | refine qX rfl ?_ | refine wH rfl ?_)
       ·rintro u2 T4 h_u2 E_u2 J_u2
        refine qS [_, _, _, _, _, _] rfl ?_
        refine qR rfl (fun hb2 => ?_) (fun hb2 => ?_)
        ·skip
         have hb2' : l[k].kind = 3 ∨ l[k].kind = 4 := of_decide_eq_true hb2
         have hstep : stepE m hd l[k] = putE hd.on l[k].which m.regs (l[k].kind == 3) := by unfold stepE; rw [if_neg hb', if_pos hb2']
         have hsh : stepH hd l[k] = ⟨hd.buttons, putL hd.on l[k].which (l[k].kind == 3)⟩ := by unfold stepH; rw [if_neg hb']
         refine qB rfl ?_
         refine qA (qF rfl rfl rfl rfl 1 rfl) ?_
         refine qH 4 (v := .slice _ _ _) rfl rfl rfl rfl ?_
         refine qA (qF rfl rfl rfl rfl 1 rfl) ?_
         refine qH 5 (v := .int .i64 _) rfl rfl rfl rfl ?_
         refine qA (qF rfl rfl rfl rfl 2 rfl) ?_
         refine qH 0 (v := .int .i64 _) rfl rfl rfl rfl ?_
         refine qA (qF rfl rfl rfl rfl 0 rfl) ?_
         refine qH 5 (v := .int .i64 _) rfl rfl rfl rfl ?_
         refine qA (qL (v := .bool _) rfl) ?_
         refine op_fnE (caps := []) (vs := [.slice _ _ _, .int .i64 _, .int .i64 _, .bool _]) rfl rfl rfl (put_ok hd.on l[k].which m.regs (l[k].kind == 3) OA cO h_u2 (K5.ext (zM E_u E_u2)).o (by omega) K4.o.asc (by omega)) (fun v h9 E9 q => ?_) ?_
         ·obtain ⟨hne, rfl⟩ := q
          exact Exists.intro _ ⟨rfl, playClo_pan _ _ _ _ _ _ _ _ _ _ _ (fun b3 o3 => doneK_list (vs := [_, _]) Try.results72 ⟨resV_one 1 rfl rfl rfl rfl (v := .slice _ _ _) rfl, resV_one 2 rfl rfl rfl rfl (v := .int .i64 _) rfl, trivial⟩ (fun V => ⟨zM (zM (zM (zM (zM (zM E1 E2) E_k) E_u) E_u2) E9) (qQ V), _, by rw [playM, if_neg hc', if_neg hm', goM_bad m hkl K2 (by rw [K3, hstep]; exact hne)]; show _ = Value.tuple #[_, .int .i64 (stepE m (goM m (l.take k)).a l[k])]; rw [K3, hstep]; rfl, by rw [playM, if_neg hc', if_neg hm', goM_bad m hkl K2 (by rw [K3, hstep]; exact hne)]; exact SlX.nil _ _ _ _ _⟩))⟩
         rintro _ h9 E9 ⟨he, A9, c9, rfl, R9⟩
         refine qA (qF rfl rfl rfl rfl 1 rfl) ?_
         refine qW 4 (v := .slice _ _ _) (vs := [_]) (c' := [_, _]) rfl rfl rfl rfl rfl rfl rfl rfl rfl ?_
         refine qK [_, _, _, _, _, _] rfl ?_
         refine ⟨(HA, cH, A9, c9), trivial, rfl, by rw [hsh]; rfl, (zM (zM E_u E_u2) E9), fun h3 E3 => ⟨by rw [hstep, he], by rw [hsh]; exact ⟨K5.b.ext (zM (zM (zM E_u E_u2) E9) E3), R9.ext E3⟩⟩, ?_⟩
         repeat (first | exact wY _ _ | exact qY _ _ _ | refine wG (by decide) ?_ | refine qX rfl ?_ | refine wH rfl ?_)
        ·skip
         have hb2' : ¬ (l[k].kind = 3 ∨ l[k].kind = 4) := of_decide_eq_false hb2
         have hstep : stepE m hd l[k] = 8 := by unfold stepE; rw [if_neg hb', if_neg hb2']
         have hne : (8 : Int) ≠ 0 := by decide
         refine qB rfl ?_
         refine qA (pv_build (zc := [_]) (vs := [(0, .int .i64 _)]) (cs := [_]) rfl rfl rfl rfl rfl rfl) ?_
         refine qA (qL (v := _) rfl) ?_
         refine op_panic rfl ?_
         exact Exists.intro _ ⟨rfl, playClo_pan _ _ _ _ _ _ _ _ _ _ _ (fun b3 o3 => doneK_list (vs := [_, _]) Try.results72 ⟨resV_one 1 rfl rfl rfl rfl (v := .slice _ _ _) rfl, resV_one 2 rfl rfl rfl rfl (v := .int .i64 _) rfl, trivial⟩ (fun V => ⟨(zM (zM (zM (zM (zM E1 E2) E_k) E_u) E_u2) (qQ V)), _, by rw [playM, if_neg hc', if_neg hm', goM_bad m hkl K2 (by rw [K3, hstep]; exact hne)]; show _ = Value.tuple #[_, .int .i64 (stepE m (goM m (l.take k)).a l[k])]; rw [K3, hstep]; rfl, by rw [playM, if_neg hc', if_neg hm', goM_bad m hkl K2 (by rw [K3, hstep]; exact hne)]; exact SlX.nil _ _ _ _ _⟩))⟩
    ·rintro ⟨H9, c9, O9, d9⟩ T2 h_H9 E_H9 J_H9
     refine qS [_, _, _, _, _, _] rfl ?_
     obtain ⟨S0, RH9⟩ := J_H9
     have H9' := stepH_ok K4 S0
     have hgo := goM_good m hkl K2 (by rw [K3]; exact S0)
     rw [K3] at hgo
     have hgl : (gs.flatMap id).length = gs.length := by rw [wU (enc := id) (m := 1) K8, Nat.mul_one]
     have hgk : gs.length ≤ k := by rw [K7.1]; have := goM_len m (l.take k); rw [List.length_take] at this; omega
     refine xp_dw [false, false, false, true, false, false] rfl rfl rfl ?_
     refine qZ (i := 0) rfl (by decide +kernel) ?_
     refine qH 1 (v := .slice _ _ _) rfl rfl rfl rfl ?_
     refine qI (i := 1) rfl (by decide +kernel) (qC (v := _) rfl) ?_
     refine qZ (i := 2) rfl (by decide +kernel) ?_
     refine wE 4 (vs := [.slice _ _ _, .slice _ _ _]) rfl rfl rfl rfl rfl ?_
     refine qI (i := 3) rfl (by decide +kernel) (qF rfl rfl rfl rfl 3 rfl) ?_
     refine qZ (i := 4) rfl (by decide +kernel) ?_
     refine qH 0 (v := .int .i64 _) rfl rfl rfl rfl ?_
     refine dw_eff (i := 5) rfl (by decide +kernel) ?_
     refine wK  (vs := _) rfl rfl rfl (snd_ok hph m (stepH hd l[k]) (fit_of M H9') (pfit_of M) m.travel (by omega) tr.2 bs AB1 AQ1 AL1 AW1 H9 O9 cB1 cQ1 cL1 cW1 c9 d9 h_H9 (CM.ext (zM E_k E_H9)) (RM1.ext (zM E_k E_H9)) (RH9.ext (Ext.refl _))) ?_
     rintro _ h5 E5 rfl
     refine ⟨ext_wlm E5 _, ?_⟩
     refine dw_eff (i := 6) rfl (by decide +kernel) ?_
     refine wK (caps := []) (vs := [.int .i64 _]) rfl rfl rfl (list_ok (soundsM m (stepH hd l[k]) m.travel) (sounds_small (pfit_of M) _ _) h5) ?_
     rintro _ h6 E6 ⟨Al, cl, rfl, Rl⟩
     refine ⟨ext_wlm E6 _, ?_⟩
     refine dw_eff (i := 7) rfl (by decide +kernel) ?_
     refine wD (zc := [_]) (vs := [(0, .slice _ _ _)]) (cs := [_]) rfl rfl rfl rfl rfl rfl rfl fun b68 hb68 => ?_
     refine ⟨ext_newM hb68 _, ?_⟩
     refine wS [_, _, _, _, _, _, _] rfl ?_
     refine zF (i := 8) rfl (by decide +kernel) (by decide +kernel) ?_
     refine wZ 3 K6 rfl rfl rfl (fun V => rdP V (i := 6) rfl) rfl rfl rfl rfl rfl rfl rfl rfl rfl (by omega) rfl (by rw [hgl]; simp only [List.length_cons, List.length_nil]; omega) fun a2 h5a E5a ha2 => ?_
     refine wS [_, _, _, _, _, _, _] rfl ?_
     refine zF (i := 9) rfl (by decide +kernel) (by decide +kernel) ?_
     refine qW 1 (v := .slice _ _ _) (vs := [_]) (c' := [_]) rfl rfl rfl rfl rfl rfl rfl rfl rfl ?_
     refine wS [_, _, _, _, _, _, _] rfl ?_
     refine zI rfl ?_
     refine qB rfl ?_
     refine qA (qT rfl (by omega)) ?_
     refine qA (qC (v := .int .i64 _) rfl) ?_
     refine ⟨(k + 1, a2, gs ++ [[.slice Al (listN (soundsM m (stepH hd l[k]) m.travel) 6).length cl]], stepH hd l[k], H9, c9, O9, d9), ⟨rfl, trivial⟩, rfl, rfl, (zM (zM (zM (zM E_k E_H9) E5) E6) E5a), fun h3 E3 => ⟨hkl, by rw [hgo], by rw [hgo], H9', RH9.ext (zM (zM (zM E5 E6) E5a) E3), by rw [List.flatMap_append]; exact ha2, by rw [hgo]; exact (Els.snoc (K7.ext TL.mono (zM (zM (zM E_H9 E5) E6) E5a)) ⟨_, rfl, Al, cl, rfl, Rl.ext E5a⟩).ext TL.mono E3, one_len K8 rfl⟩, by first | omega | (dsimp only; omega), ?_⟩
     repeat (first | exact qY _ _ _ | refine wG (by decide) ?_ | refine qX rfl ?_ | refine wH rfl ?_)
   ·skip
    have hke : k = l.length := by have := geI hk; omega
    subst hke
    rw [List.take_length] at K2 K3 K7
    refine wV ?_
    refine qD ?_
    refine qB rfl ?_
    refine qH 1 (v := .slice _ _ _) rfl rfl rfl rfl ?_
    refine qW 1 (v := .slice _ _ _) (vs := [_]) (c' := [_]) rfl rfl rfl rfl rfl rfl rfl rfl rfl ?_
    refine qK [_, _, _, _, _] rfl ?_
    refine qW 2 (v := .int .i64 _) (vs := [_]) (c' := [_]) rfl rfl rfl rfl rfl rfl rfl rfl rfl ?_
    refine qK [_, _, _, _, _] rfl ?_
    refine qV ?_
    refine .inr (Exists.intro _ ⟨rfl, playClo_nil _ _ _ _ _ (doneK_list (vs := [_, _]) Try.results72 ⟨resV_one 1 rfl rfl rfl rfl (v := .slice _ _ _) rfl, resV_one 2 rfl rfl rfl rfl (v := .int .i64 _) rfl, trivial⟩ (fun V => ?_))⟩)
    obtain ⟨A9, c9, e9, R9⟩ := AccP.row (m := 1) (enc := id) (i := 3) (l := gs) K6 (by omega) K8 V rfl
    refine ⟨(zM (zM (zM E1 E2) E_k) (qQ V)), _, by rw [playM, if_neg hc', if_neg hm', K2]; rfl, ?_⟩
    rw [playM, if_neg hc', if_neg hm']
    have X := SlX.of (T := TL) (l := (goM m l).out) (cap := c9) R9 (K7.ext TL.mono (qQ V)) K7.1.symm
    rw [← e9] at X
    exact X
end
end Go.Proofs.Ythphpbdmbmiaiaa
namespace Go.Proofs.Ythphpbdmbmiaiaa
open Go Go.HL Go.Proofs Go.Wx Go.Rd
section
variable [Lvl]
set_option maxRecDepth 100000
def StepV (h : AH) (m : MachP) (a : HandP) (x : EvP) (v : Value) : Prop := ∃ (HA OA : Option Addr) (cH cO : Nat) (b : HandP), v = .tuple #[handV HA OA cH cO b, .int .i64 (stepE m a x)] ∧ (stepE m a x = 0 → b = stepH a x) ∧ HandR h HA OA b
theorem putE3 {l : List Int} {n below : Int} {i : Bool} (h : inM n 0 (below - 1) = false) : putE l n below i = 3 := if_pos h
theorem putE4 {l : List Int} {n below : Int} (h : ¬ inM n 0 (below - 1) = false) (hm : l.contains n = true) : putE l n below true = 4 := by
 rw [putE, if_neg h, if_pos ⟨rfl, by simpa using hm⟩]
theorem putE11 {l : List Int} {n below : Int} (h : ¬ inM n 0 (below - 1) = false) (hm : ¬ l.contains n = true) : putE l n below false = 11 := by
 rw [putE, if_neg h, if_neg (by simp), if_pos ⟨rfl, by simpa using hm⟩]
theorem putE0t {l : List Int} {n below : Int} (h : ¬ inM n 0 (below - 1) = false) (hm : ¬ l.contains n = true) : putE l n below true = 0 := by
 rw [putE, if_neg h, if_neg (by simpa using hm), if_neg (by simp)]
theorem putE0f {l : List Int} {n below : Int} (h : ¬ inM n 0 (below - 1) = false) (hm : l.contains n = true) : putE l n below false = 0 := by
 rw [putE, if_neg h, if_neg (by simp), if_neg (by simpa using hm)]
theorem step1R_ok (m : MachP) (a : HandP) (w : Int) (AB AQ AL AW HA OA : Option Addr) (cB cQ cL cW cH cO : Nat) (h : AH) (RM : MachR h AB AQ AL AW m) (RH : HandR h HA OA a) (hb : m.buttons.length < 2 ^ 40) (hr : m.regs ≤ 2 ^ 40 ∧ 0 ≤ m.regs) (h1 : a.buttons.length < 2 ^ 20) (h2 : a.on.length < 2 ^ 20) :
  FnT Try.prog 112 #[machV AB AQ AL AW cB cQ cL cW m, handV HA OA cH cO a, .agg #[.int .i64 1, .int .i64 w]] h (fun v h' => StepV h' m a ⟨1, w⟩ v) := by
 have hE : stepE m a ⟨1, w⟩ = putE a.buttons w m.buttons.length true := if_pos (.inl rfl)
 have hS : stepH a ⟨1, w⟩ = ⟨putL a.buttons w true, a.on⟩ := if_pos (.inl rfl)
 refine wM Try.func112 rfl Try.ntmps112 rfl ?_
 refine qD ?_
 refine qB rfl ?_
 refine zE (v := .agg #[.int .i64 _, .int .i64 _, .int .i64 _, .int .i64 _, .int .i64 _, .slice _ _ _, .slice _ _ _, .slice _ _ _, .slice _ _ _]) (cs := [_, _, _, _, _, _, _, _, _]) rfl rfl fun b3 hb3 => ?_
 refine qK [_] rfl ?_
 refine zE (v := .agg #[.slice _ _ _, .slice _ _ _]) (cs := [_, _]) rfl rfl fun b4 hb4 => ?_
 refine qK [_, _] rfl ?_
 refine zE (v := .agg #[.int .i64 _, .int .i64 _]) (cs := [_, _]) rfl rfl fun b5 hb5 => ?_
 refine qK [_, _, _] rfl ?_
 refine zA (cs := [_, _]) rfl rfl fun b6 hb6 => ?_
 refine qK [_, _, _, _] rfl ?_
 refine qA (qE (v := .int .i64 _) rfl) ?_
 refine qD ?_
 refine qD ?_
 refine qB rfl ?_
 refine qA (qF rfl rfl rfl rfl 0 rfl) ?_
 refine qH 2 (v := .int .i64 _) rfl rfl rfl rfl ?_
 refine wK (caps := []) (vs := [.int .i64 _, .int .i64 _, .int .i64 _]) rfl rfl rfl (among_ok 1 1 4 h) ?_
 rintro _ g1 G1 rfl
 refine qA (qL (v := .bool _) rfl) ?_
 refine zC rfl ((by decide)) ?_
 refine qO ?_
 refine qD ?_
 refine xp_dw [] rfl rfl rfl ?_
 refine qI (i := 0) rfl (by decide +kernel) (qF rfl rfl rfl rfl 0 rfl) ?_
 refine qZ (i := 1) rfl (by decide +kernel) ?_
 refine qH 1 (v := .slice _ _ _) rfl rfl rfl rfl ?_
 refine qI (i := 2) rfl (by decide +kernel) (qF rfl rfl rfl rfl 5 rfl) ?_
 refine qZ (i := 3) rfl (by decide +kernel) ?_
 refine qH 0 (v := .slice _ _ _) rfl rfl rfl rfl ?_
 refine qI (i := 4) rfl (by decide +kernel) (wP rfl rfl) ?_
 refine qI (i := 5) rfl (by decide +kernel) (qF rfl rfl rfl rfl 0 rfl) ?_
 refine qZ (i := 6) rfl (by decide +kernel) ?_
 refine qH 2 (v := .int .i64 _) rfl rfl rfl rfl ?_
 refine qI (i := 7) rfl (by decide +kernel) (qL (v := .bool _) rfl) ?_
 refine qI (i := 8) rfl (by decide +kernel) (qC (v := .bool _) rfl) ?_
 refine dw_skip (i := 9) rfl (by decide +kernel) rfl rfl ?_
 refine dw_skip (i := 10) rfl (by decide +kernel) rfl rfl ?_
 refine dw_skip (i := 11) rfl (by decide +kernel) rfl rfl ?_
 refine qI (i := 12) rfl (by decide +kernel) (wI rfl rfl (v := .bool _) rfl) ?_
 refine qI (i := 13) rfl (by decide +kernel) (qE (v := .slice _ _ _) rfl) ?_
 refine qI (i := 14) rfl (by decide +kernel) (qE (v := .int .i64 _) rfl) ?_
 refine qI (i := 15) rfl (by decide +kernel) (qE (v := .bool _) rfl) ?_
 refine zI rfl ?_
 refine qD ?_
 refine qD ?_
 refine qB rfl ?_
 refine qA (qF rfl rfl rfl rfl 0 rfl) ?_
 refine qH 2 (v := .int .i64 _) rfl rfl rfl rfl ?_
 refine qA (qL (v := .bool _) rfl) ?_
 refine qA (qC (v := .bool _) rfl) ?_
 refine qG rfl rfl ?_
 refine qA (qF rfl rfl rfl rfl 0 rfl) ?_
 refine qG rfl rfl ?_
 refine qH 2 (v := .int .i64 _) rfl rfl rfl rfl ?_
 refine qG rfl rfl ?_
 refine qA (qL (v := .bool _) rfl) ?_
 refine qA (wN rfl rfl (v := .bool _) rfl) ?_
 refine zC rfl (rfl) ?_
 refine qO ?_
 refine qD ?_
 refine qD ?_
 refine qB rfl ?_
 refine qA (qF rfl rfl rfl rfl 1 rfl) ?_
 refine qH 2 (v := .int .i64 _) rfl rfl rfl rfl ?_
 refine qA (qC (v := .int .i64 _) rfl) ?_
 refine qA (qT rfl (by omega)) ?_
 refine wK (caps := []) (vs := [.int .i64 _, .int .i64 _, .int .i64 _]) rfl rfl rfl (among_ok w 0 (m.buttons.length - 1) g1) ?_
 rintro _ g2 G2 rfl
 refine qA (qL (v := .bool _) rfl) ?_
 refine qR rfl (fun hw => ?_) (fun hw => ?_)
 ·skip
  have hw' : inM w 0 (m.buttons.length - 1) = false := by simpa using hw
  refine qD ?_
  refine qB rfl ?_
  refine wE 1 (vs := [.slice _ _ _, .slice _ _ _]) rfl rfl rfl rfl rfl ?_
  refine qW 3 (v := .agg #[.slice _ _ _, .slice _ _ _]) (vs := [_, _]) (c' := [_, _]) rfl rfl rfl rfl rfl rfl rfl rfl rfl ?_
  refine qK [_, _, _, _] rfl ?_
  refine qA (qE (v := .int .i64 _) rfl) ?_
  refine qV ?_
  refine qN (vs := [_, _]) Try.results112 ⟨resV_agg 3 rfl rfl rfl rfl rfl (vs := [.slice _ _ _, .slice _ _ _]) rfl, qM rfl rfl, trivial⟩ fun V => ?_
  exact ⟨(zM (zM G1 G2) (qQ V)), HA, OA, cH, cO, a, (by show Value.tuple #[_, .int .i64 _] = _; rw [hE, putE3 hw']; try rfl), fun y => absurd (hE.symm.trans y) (by rw [putE3 hw']; decide), RH.ext (zM (zM G1 G2) (qQ V))⟩
 ·skip
  have hw' : ¬ inM w 0 (m.buttons.length - 1) = false := by simpa using hw
  refine qO ?_
  refine qD ?_
  refine qD ?_
  refine qB rfl ?_
  refine qA (qC (v := .bool _) rfl) ?_
  refine qA (qC (v := .bool _) rfl) ?_
  refine qG rfl rfl ?_
  refine qA (qC (v := .slice _ _ _) rfl) ?_
  refine qG rfl rfl ?_
  refine qA (qF rfl rfl rfl rfl 1 rfl) ?_
  refine qG rfl rfl ?_
  refine qH 2 (v := .int .i64 _) rfl rfl rfl rfl ?_
  refine qG rfl rfl ?_
  refine wK (caps := []) (vs := [.slice _ _ _, .int .i64 _]) rfl rfl rfl (hasR_ok a.buttons w HA cH g2 (RH.b.ext (zM G1 G2)) (by omega)) ?_
  rintro _ g3 G3 rfl
  refine qA (wI rfl rfl (v := .bool _) rfl) ?_
  refine qR rfl (fun hh => ?_) (fun hh => ?_)
  ·skip
   have hh' : a.buttons.contains w = true := by simpa using hh
   refine qD ?_
   refine qB rfl ?_
   refine wE 1 (vs := [.slice _ _ _, .slice _ _ _]) rfl rfl rfl rfl rfl ?_
   refine qW 3 (v := .agg #[.slice _ _ _, .slice _ _ _]) (vs := [_, _]) (c' := [_, _]) rfl rfl rfl rfl rfl rfl rfl rfl rfl ?_
   refine qK [_, _, _, _] rfl ?_
   refine qA (qE (v := .int .i64 _) rfl) ?_
   refine qV ?_
   refine qN (vs := [_, _]) Try.results112 ⟨resV_agg 3 rfl rfl rfl rfl rfl (vs := [.slice _ _ _, .slice _ _ _]) rfl, qM rfl rfl, trivial⟩ fun V => ?_
   exact ⟨(zM (zM (zM G1 G2) G3) (qQ V)), HA, OA, cH, cO, a, (by show Value.tuple #[_, .int .i64 _] = _; rw [hE, putE4 hw' hh']; try rfl), fun y => absurd (hE.symm.trans y) (by rw [putE4 hw' hh']; decide), RH.ext (zM (zM (zM G1 G2) G3) (qQ V))⟩
  ·skip
   have hh' : ¬ a.buttons.contains w = true := by simpa using hh
   refine qO ?_
   refine qD ?_
   refine qD ?_
   refine qB rfl ?_
   refine qA (qC (v := .bool _) rfl) ?_
   refine qA (qL (v := .bool _) rfl) ?_
   refine qA (qC (v := .bool _) rfl) ?_
   refine qJ rfl rfl ?_
   refine qJ rfl rfl ?_
   refine qJ rfl rfl ?_
   refine qJ rfl rfl ?_
   refine qJ rfl rfl ?_
   refine qA (wN rfl rfl (v := .bool _) rfl) ?_
   refine zC rfl (rfl) ?_
   refine qO ?_
   refine qD ?_
   refine qD ?_
   refine qB rfl ?_
   refine qA (qC (v := .bool _) rfl) ?_
   refine xp_condT rfl (rfl) ?_
   refine qB rfl ?_
   refine qA (qC (v := .slice _ _ _) rfl) ?_
   refine qA (qF rfl rfl rfl rfl 1 rfl) ?_
   refine qH 2 (v := .int .i64 _) rfl rfl rfl rfl ?_
   refine wK (caps := []) (vs := [.slice _ _ _, .int .i64 _]) rfl rfl rfl (withR_ok a.buttons w HA cH g3 (RH.b.ext (zM (zM G1 G2) G3)) (by omega)) ?_
   rintro _ g4 G4 ⟨A9, c9, rfl, R9⟩
   refine qA (qE (v := .slice _ _ _) rfl) ?_
   refine qD ?_
   refine qD ?_
   refine qB rfl ?_
   refine qA (qF rfl rfl rfl rfl 0 rfl) ?_
   refine qH 2 (v := .int .i64 _) rfl rfl rfl rfl ?_
   refine qA (qL (v := .bool _) rfl) ?_
   refine qA (qC (v := .bool _) rfl) ?_
   refine qG rfl rfl ?_
   refine qA (qF rfl rfl rfl rfl 0 rfl) ?_
   refine qG rfl rfl ?_
   refine qH 2 (v := .int .i64 _) rfl rfl rfl rfl ?_
   refine qG rfl rfl ?_
   refine qA (qL (v := .bool _) rfl) ?_
   refine qA (wN rfl rfl (v := .bool _) rfl) ?_
   refine zC rfl (rfl) ?_
   refine qB rfl ?_
   refine qA (qC (v := .slice _ _ _) rfl) ?_
   refine qA (qF rfl rfl rfl rfl 0 rfl) ?_
   refine qW 1 (v := .slice _ _ _) (vs := [_]) (c' := [_, _]) rfl rfl rfl rfl rfl rfl rfl rfl rfl ?_
   refine qK [_, _, _, _] rfl ?_
   refine qD ?_
   refine qB rfl ?_
   refine wE 1 (vs := [.slice _ _ _, .slice _ _ _]) rfl rfl rfl rfl rfl ?_
   refine qW 3 (v := .agg #[.slice _ _ _, .slice _ _ _]) (vs := [_, _]) (c' := [_, _]) rfl rfl rfl rfl rfl rfl rfl rfl rfl ?_
   refine qK [_, _, _, _] rfl ?_
   refine qA (qE (v := .int .i64 _) rfl) ?_
   refine qV ?_
   refine qN (vs := [_, _]) Try.results112 ⟨resV_agg 3 rfl rfl rfl rfl rfl (vs := [.slice _ _ _, .slice _ _ _]) rfl, qM rfl rfl, trivial⟩ fun V => ?_
   exact ⟨(zM (zM (zM (zM G1 G2) G3) G4) (qQ V)), A9, OA, c9, cO, ⟨putL a.buttons w true, a.on⟩, (by show Value.tuple #[_, .int .i64 _] = _; rw [hE, putE0t hw' hh']; try rfl), fun _ => hS.symm, ⟨R9.ext (qQ V), RH.o.ext (zM (zM (zM (zM G1 G2) G3) G4) (qQ V))⟩⟩
theorem step2R_ok (m : MachP) (a : HandP) (w : Int) (AB AQ AL AW HA OA : Option Addr) (cB cQ cL cW cH cO : Nat) (h : AH) (RM : MachR h AB AQ AL AW m) (RH : HandR h HA OA a) (hb : m.buttons.length < 2 ^ 40) (hr : m.regs ≤ 2 ^ 40 ∧ 0 ≤ m.regs) (h1 : a.buttons.length < 2 ^ 20) (h2 : a.on.length < 2 ^ 20) :
  FnT Try.prog 112 #[machV AB AQ AL AW cB cQ cL cW m, handV HA OA cH cO a, .agg #[.int .i64 2, .int .i64 w]] h (fun v h' => StepV h' m a ⟨2, w⟩ v) := by
 have hE : stepE m a ⟨2, w⟩ = putE a.buttons w m.buttons.length false := if_pos (.inr rfl)
 have hS : stepH a ⟨2, w⟩ = ⟨putL a.buttons w false, a.on⟩ := if_pos (.inr rfl)
 refine wM Try.func112 rfl Try.ntmps112 rfl ?_
 refine qD ?_
 refine qB rfl ?_
 refine zE (v := .agg #[.int .i64 _, .int .i64 _, .int .i64 _, .int .i64 _, .int .i64 _, .slice _ _ _, .slice _ _ _, .slice _ _ _, .slice _ _ _]) (cs := [_, _, _, _, _, _, _, _, _]) rfl rfl fun b3 hb3 => ?_
 refine qK [_] rfl ?_
 refine zE (v := .agg #[.slice _ _ _, .slice _ _ _]) (cs := [_, _]) rfl rfl fun b4 hb4 => ?_
 refine qK [_, _] rfl ?_
 refine zE (v := .agg #[.int .i64 _, .int .i64 _]) (cs := [_, _]) rfl rfl fun b5 hb5 => ?_
 refine qK [_, _, _] rfl ?_
 refine zA (cs := [_, _]) rfl rfl fun b6 hb6 => ?_
 refine qK [_, _, _, _] rfl ?_
 refine qA (qE (v := .int .i64 _) rfl) ?_
 refine qD ?_
 refine qD ?_
 refine qB rfl ?_
 refine qA (qF rfl rfl rfl rfl 0 rfl) ?_
 refine qH 2 (v := .int .i64 _) rfl rfl rfl rfl ?_
 refine wK (caps := []) (vs := [.int .i64 _, .int .i64 _, .int .i64 _]) rfl rfl rfl (among_ok 2 1 4 h) ?_
 rintro _ g1 G1 rfl
 refine qA (qL (v := .bool _) rfl) ?_
 refine zC rfl ((by decide)) ?_
 refine qO ?_
 refine qD ?_
 refine xp_dw [] rfl rfl rfl ?_
 refine qI (i := 0) rfl (by decide +kernel) (qF rfl rfl rfl rfl 0 rfl) ?_
 refine qZ (i := 1) rfl (by decide +kernel) ?_
 refine qH 1 (v := .slice _ _ _) rfl rfl rfl rfl ?_
 refine qI (i := 2) rfl (by decide +kernel) (qF rfl rfl rfl rfl 5 rfl) ?_
 refine qZ (i := 3) rfl (by decide +kernel) ?_
 refine qH 0 (v := .slice _ _ _) rfl rfl rfl rfl ?_
 refine qI (i := 4) rfl (by decide +kernel) (wP rfl rfl) ?_
 refine qI (i := 5) rfl (by decide +kernel) (qF rfl rfl rfl rfl 0 rfl) ?_
 refine qZ (i := 6) rfl (by decide +kernel) ?_
 refine qH 2 (v := .int .i64 _) rfl rfl rfl rfl ?_
 refine qI (i := 7) rfl (by decide +kernel) (qL (v := .bool _) rfl) ?_
 refine qI (i := 8) rfl (by decide +kernel) (qC (v := .bool _) rfl) ?_
 refine dw_pureG (i := 9) rfl (by decide +kernel) rfl rfl (qF rfl rfl rfl rfl 0 rfl) ?_
 refine dw_loadG (i := 10) rfl (by decide +kernel) rfl rfl ?_
 refine qH 2 (v := .int .i64 _) rfl rfl rfl rfl ?_
 refine dw_pureG (i := 11) rfl (by decide +kernel) rfl rfl (qL (v := .bool _) rfl) ?_
 refine qI (i := 12) rfl (by decide +kernel) (wN rfl rfl (v := .bool _) rfl) ?_
 refine qI (i := 13) rfl (by decide +kernel) (qE (v := .slice _ _ _) rfl) ?_
 refine qI (i := 14) rfl (by decide +kernel) (qE (v := .int .i64 _) rfl) ?_
 refine qI (i := 15) rfl (by decide +kernel) (qE (v := .bool _) rfl) ?_
 refine zI rfl ?_
 refine qD ?_
 refine qD ?_
 refine qB rfl ?_
 refine qA (qF rfl rfl rfl rfl 0 rfl) ?_
 refine qH 2 (v := .int .i64 _) rfl rfl rfl rfl ?_
 refine qA (qL (v := .bool _) rfl) ?_
 refine qA (qC (v := .bool _) rfl) ?_
 refine qG rfl rfl ?_
 refine qA (qF rfl rfl rfl rfl 0 rfl) ?_
 refine qG rfl rfl ?_
 refine qH 2 (v := .int .i64 _) rfl rfl rfl rfl ?_
 refine qG rfl rfl ?_
 refine qA (qL (v := .bool _) rfl) ?_
 refine qA (wN rfl rfl (v := .bool _) rfl) ?_
 refine zC rfl (rfl) ?_
 refine qO ?_
 refine qD ?_
 refine qD ?_
 refine qB rfl ?_
 refine qA (qF rfl rfl rfl rfl 1 rfl) ?_
 refine qH 2 (v := .int .i64 _) rfl rfl rfl rfl ?_
 refine qA (qC (v := .int .i64 _) rfl) ?_
 refine qA (qT rfl (by omega)) ?_
 refine wK (caps := []) (vs := [.int .i64 _, .int .i64 _, .int .i64 _]) rfl rfl rfl (among_ok w 0 (m.buttons.length - 1) g1) ?_
 rintro _ g2 G2 rfl
 refine qA (qL (v := .bool _) rfl) ?_
 refine qR rfl (fun hw => ?_) (fun hw => ?_)
 ·skip
  have hw' : inM w 0 (m.buttons.length - 1) = false := by simpa using hw
  refine qD ?_
  refine qB rfl ?_
  refine wE 1 (vs := [.slice _ _ _, .slice _ _ _]) rfl rfl rfl rfl rfl ?_
  refine qW 3 (v := .agg #[.slice _ _ _, .slice _ _ _]) (vs := [_, _]) (c' := [_, _]) rfl rfl rfl rfl rfl rfl rfl rfl rfl ?_
  refine qK [_, _, _, _] rfl ?_
  refine qA (qE (v := .int .i64 _) rfl) ?_
  refine qV ?_
  refine qN (vs := [_, _]) Try.results112 ⟨resV_agg 3 rfl rfl rfl rfl rfl (vs := [.slice _ _ _, .slice _ _ _]) rfl, qM rfl rfl, trivial⟩ fun V => ?_
  exact ⟨(zM (zM G1 G2) (qQ V)), HA, OA, cH, cO, a, (by show Value.tuple #[_, .int .i64 _] = _; rw [hE, putE3 hw']; try rfl), fun y => absurd (hE.symm.trans y) (by rw [putE3 hw']; decide), RH.ext (zM (zM G1 G2) (qQ V))⟩
 ·skip
  have hw' : ¬ inM w 0 (m.buttons.length - 1) = false := by simpa using hw
  refine qO ?_
  refine qD ?_
  refine qD ?_
  refine qB rfl ?_
  refine qA (qC (v := .bool _) rfl) ?_
  refine qA (qC (v := .bool _) rfl) ?_
  refine qJ rfl rfl ?_
  refine qJ rfl rfl ?_
  refine qJ rfl rfl ?_
  refine qJ rfl rfl ?_
  refine qA (wN rfl rfl (v := .bool _) rfl) ?_
  refine zC rfl (rfl) ?_
  refine qO ?_
  refine qD ?_
  refine qD ?_
  refine qB rfl ?_
  refine qA (qC (v := .bool _) rfl) ?_
  refine qA (qL (v := .bool _) rfl) ?_
  refine qA (qC (v := .bool _) rfl) ?_
  refine qG rfl rfl ?_
  refine qA (qC (v := .slice _ _ _) rfl) ?_
  refine qG rfl rfl ?_
  refine qA (qF rfl rfl rfl rfl 1 rfl) ?_
  refine qG rfl rfl ?_
  refine qH 2 (v := .int .i64 _) rfl rfl rfl rfl ?_
  refine qG rfl rfl ?_
  refine wK (caps := []) (vs := [.slice _ _ _, .int .i64 _]) rfl rfl rfl (hasR_ok a.buttons w HA cH g2 (RH.b.ext (zM G1 G2)) (by omega)) ?_
  rintro _ g3 G3 rfl
  refine qG rfl rfl ?_
  refine qA (qL (v := .bool _) rfl) ?_
  refine qA (wI rfl rfl (v := .bool _) rfl) ?_
  refine qR rfl (fun hh => ?_) (fun hh => ?_)
  ·skip
   have hh' : ¬ a.buttons.contains w = true := by simpa using hh
   refine qD ?_
   refine qB rfl ?_
   refine wE 1 (vs := [.slice _ _ _, .slice _ _ _]) rfl rfl rfl rfl rfl ?_
   refine qW 3 (v := .agg #[.slice _ _ _, .slice _ _ _]) (vs := [_, _]) (c' := [_, _]) rfl rfl rfl rfl rfl rfl rfl rfl rfl ?_
   refine qK [_, _, _, _] rfl ?_
   refine qA (qE (v := .int .i64 _) rfl) ?_
   refine qV ?_
   refine qN (vs := [_, _]) Try.results112 ⟨resV_agg 3 rfl rfl rfl rfl rfl (vs := [.slice _ _ _, .slice _ _ _]) rfl, qM rfl rfl, trivial⟩ fun V => ?_
   exact ⟨(zM (zM (zM G1 G2) G3) (qQ V)), HA, OA, cH, cO, a, (by show Value.tuple #[_, .int .i64 _] = _; rw [hE, putE11 hw' hh']; try rfl), fun y => absurd (hE.symm.trans y) (by rw [putE11 hw' hh']; decide), RH.ext (zM (zM (zM G1 G2) G3) (qQ V))⟩
  ·skip
   have hh' : a.buttons.contains w = true := by simpa using hh
   refine qO ?_
   refine qD ?_
   refine qD ?_
   refine qB rfl ?_
   refine qA (qC (v := .bool _) rfl) ?_
   refine zC rfl (rfl) ?_
   refine qB rfl ?_
   refine qA (qC (v := .slice _ _ _) rfl) ?_
   refine qA (qF rfl rfl rfl rfl 1 rfl) ?_
   refine qH 2 (v := .int .i64 _) rfl rfl rfl rfl ?_
   refine wK (caps := []) (vs := [.slice _ _ _, .int .i64 _]) rfl rfl rfl (withoutR_ok a.buttons w HA cH g3 (RH.b.ext (zM (zM G1 G2) G3)) (by omega)) ?_
   rintro _ g4 G4 ⟨A9, c9, rfl, R9⟩
   refine qA (qE (v := .slice _ _ _) rfl) ?_
   refine qD ?_
   refine qD ?_
   refine qB rfl ?_
   refine qA (qF rfl rfl rfl rfl 0 rfl) ?_
   refine qH 2 (v := .int .i64 _) rfl rfl rfl rfl ?_
   refine qA (qL (v := .bool _) rfl) ?_
   refine qA (qC (v := .bool _) rfl) ?_
   refine qG rfl rfl ?_
   refine qA (qF rfl rfl rfl rfl 0 rfl) ?_
   refine qG rfl rfl ?_
   refine qH 2 (v := .int .i64 _) rfl rfl rfl rfl ?_
   refine qG rfl rfl ?_
   refine qA (qL (v := .bool _) rfl) ?_
   refine qA (wN rfl rfl (v := .bool _) rfl) ?_
   refine zC rfl (rfl) ?_
   refine qB rfl ?_
   refine qA (qC (v := .slice _ _ _) rfl) ?_
   refine qA (qF rfl rfl rfl rfl 0 rfl) ?_
   refine qW 1 (v := .slice _ _ _) (vs := [_]) (c' := [_, _]) rfl rfl rfl rfl rfl rfl rfl rfl rfl ?_
   refine qK [_, _, _, _] rfl ?_
   refine qD ?_
   refine qB rfl ?_
   refine wE 1 (vs := [.slice _ _ _, .slice _ _ _]) rfl rfl rfl rfl rfl ?_
   refine qW 3 (v := .agg #[.slice _ _ _, .slice _ _ _]) (vs := [_, _]) (c' := [_, _]) rfl rfl rfl rfl rfl rfl rfl rfl rfl ?_
   refine qK [_, _, _, _] rfl ?_
   refine qA (qE (v := .int .i64 _) rfl) ?_
   refine qV ?_
   refine qN (vs := [_, _]) Try.results112 ⟨resV_agg 3 rfl rfl rfl rfl rfl (vs := [.slice _ _ _, .slice _ _ _]) rfl, qM rfl rfl, trivial⟩ fun V => ?_
   exact ⟨(zM (zM (zM (zM G1 G2) G3) G4) (qQ V)), A9, OA, c9, cO, ⟨putL a.buttons w false, a.on⟩, (by show Value.tuple #[_, .int .i64 _] = _; rw [hE, putE0f hw' hh']; try rfl), fun _ => hS.symm, ⟨R9.ext (qQ V), RH.o.ext (zM (zM (zM (zM G1 G2) G3) G4) (qQ V))⟩⟩
theorem step3R_ok (m : MachP) (a : HandP) (w : Int) (AB AQ AL AW HA OA : Option Addr) (cB cQ cL cW cH cO : Nat) (h : AH) (RM : MachR h AB AQ AL AW m) (RH : HandR h HA OA a) (hb : m.buttons.length < 2 ^ 40) (hr : m.regs ≤ 2 ^ 40 ∧ 0 ≤ m.regs) (h1 : a.buttons.length < 2 ^ 20) (h2 : a.on.length < 2 ^ 20) :
  FnT Try.prog 112 #[machV AB AQ AL AW cB cQ cL cW m, handV HA OA cH cO a, .agg #[.int .i64 3, .int .i64 w]] h (fun v h' => StepV h' m a ⟨3, w⟩ v) := by
 have hE : stepE m a ⟨3, w⟩ = putE a.on w m.regs true := (if_neg (by simp)).trans (if_pos (.inl rfl))
 have hS : stepH a ⟨3, w⟩ = ⟨a.buttons, putL a.on w true⟩ := if_neg (by simp)
 refine wM Try.func112 rfl Try.ntmps112 rfl ?_
 refine qD ?_
 refine qB rfl ?_
 refine zE (v := .agg #[.int .i64 _, .int .i64 _, .int .i64 _, .int .i64 _, .int .i64 _, .slice _ _ _, .slice _ _ _, .slice _ _ _, .slice _ _ _]) (cs := [_, _, _, _, _, _, _, _, _]) rfl rfl fun b3 hb3 => ?_
 refine qK [_] rfl ?_
 refine zE (v := .agg #[.slice _ _ _, .slice _ _ _]) (cs := [_, _]) rfl rfl fun b4 hb4 => ?_
 refine qK [_, _] rfl ?_
 refine zE (v := .agg #[.int .i64 _, .int .i64 _]) (cs := [_, _]) rfl rfl fun b5 hb5 => ?_
 refine qK [_, _, _] rfl ?_
 refine zA (cs := [_, _]) rfl rfl fun b6 hb6 => ?_
 refine qK [_, _, _, _] rfl ?_
 refine qA (qE (v := .int .i64 _) rfl) ?_
 refine qD ?_
 refine qD ?_
 refine qB rfl ?_
 refine qA (qF rfl rfl rfl rfl 0 rfl) ?_
 refine qH 2 (v := .int .i64 _) rfl rfl rfl rfl ?_
 refine wK (caps := []) (vs := [.int .i64 _, .int .i64 _, .int .i64 _]) rfl rfl rfl (among_ok 3 1 4 h) ?_
 rintro _ g1 G1 rfl
 refine qA (qL (v := .bool _) rfl) ?_
 refine zC rfl ((by decide)) ?_
 refine qO ?_
 refine qD ?_
 refine xp_dw [] rfl rfl rfl ?_
 refine qI (i := 0) rfl (by decide +kernel) (qF rfl rfl rfl rfl 0 rfl) ?_
 refine qZ (i := 1) rfl (by decide +kernel) ?_
 refine qH 1 (v := .slice _ _ _) rfl rfl rfl rfl ?_
 refine qI (i := 2) rfl (by decide +kernel) (qF rfl rfl rfl rfl 5 rfl) ?_
 refine qZ (i := 3) rfl (by decide +kernel) ?_
 refine qH 0 (v := .slice _ _ _) rfl rfl rfl rfl ?_
 refine qI (i := 4) rfl (by decide +kernel) (wP rfl rfl) ?_
 refine qI (i := 5) rfl (by decide +kernel) (qF rfl rfl rfl rfl 0 rfl) ?_
 refine qZ (i := 6) rfl (by decide +kernel) ?_
 refine qH 2 (v := .int .i64 _) rfl rfl rfl rfl ?_
 refine qI (i := 7) rfl (by decide +kernel) (qL (v := .bool _) rfl) ?_
 refine qI (i := 8) rfl (by decide +kernel) (qC (v := .bool _) rfl) ?_
 refine dw_pureG (i := 9) rfl (by decide +kernel) rfl rfl (qF rfl rfl rfl rfl 0 rfl) ?_
 refine dw_loadG (i := 10) rfl (by decide +kernel) rfl rfl ?_
 refine qH 2 (v := .int .i64 _) rfl rfl rfl rfl ?_
 refine dw_pureG (i := 11) rfl (by decide +kernel) rfl rfl (qL (v := .bool _) rfl) ?_
 refine qI (i := 12) rfl (by decide +kernel) (wN rfl rfl (v := .bool _) rfl) ?_
 refine qI (i := 13) rfl (by decide +kernel) (qE (v := .slice _ _ _) rfl) ?_
 refine qI (i := 14) rfl (by decide +kernel) (qE (v := .int .i64 _) rfl) ?_
 refine qI (i := 15) rfl (by decide +kernel) (qE (v := .bool _) rfl) ?_
 refine zI rfl ?_
 refine qD ?_
 refine qD ?_
 refine qB rfl ?_
 refine qA (qF rfl rfl rfl rfl 0 rfl) ?_
 refine qH 2 (v := .int .i64 _) rfl rfl rfl rfl ?_
 refine qA (qL (v := .bool _) rfl) ?_
 refine qA (qC (v := .bool _) rfl) ?_
 refine qJ rfl rfl ?_
 refine qJ rfl rfl ?_
 refine qJ rfl rfl ?_
 refine qA (wI rfl rfl (v := .bool _) rfl) ?_
 refine xp_condT rfl (rfl) ?_
 refine xp_dw [] rfl rfl rfl ?_
 refine qI (i := 0) rfl (by decide +kernel) (qF rfl rfl rfl rfl 1 rfl) ?_
 refine qZ (i := 1) rfl (by decide +kernel) ?_
 refine qH 1 (v := .slice _ _ _) rfl rfl rfl rfl ?_
 refine qI (i := 2) rfl (by decide +kernel) (qF rfl rfl rfl rfl 2 rfl) ?_
 refine qZ (i := 3) rfl (by decide +kernel) ?_
 refine qH 0 (v := .int .i64 _) rfl rfl rfl rfl ?_
 refine qI (i := 4) rfl (by decide +kernel) (qE (v := .slice _ _ _) rfl) ?_
 refine qI (i := 5) rfl (by decide +kernel) (qE (v := .int .i64 _) rfl) ?_
 refine zI rfl ?_
 refine qD ?_
 refine qD ?_
 refine qB rfl ?_
 refine qA (qF rfl rfl rfl rfl 1 rfl) ?_
 refine qH 2 (v := .int .i64 _) rfl rfl rfl rfl ?_
 refine qA (qC (v := .int .i64 _) rfl) ?_
 refine qA (qT rfl (by omega)) ?_
 refine wK (caps := []) (vs := [.int .i64 _, .int .i64 _, .int .i64 _]) rfl rfl rfl (among_ok w 0 (m.regs - 1) g1) ?_
 rintro _ g2 G2 rfl
 refine qA (qL (v := .bool _) rfl) ?_
 refine qR rfl (fun hw => ?_) (fun hw => ?_)
 ·skip
  have hw' : inM w 0 (m.regs - 1) = false := by simpa using hw
  refine qD ?_
  refine qB rfl ?_
  refine wE 1 (vs := [.slice _ _ _, .slice _ _ _]) rfl rfl rfl rfl rfl ?_
  refine qW 3 (v := .agg #[.slice _ _ _, .slice _ _ _]) (vs := [_, _]) (c' := [_, _]) rfl rfl rfl rfl rfl rfl rfl rfl rfl ?_
  refine qK [_, _, _, _] rfl ?_
  refine qA (qE (v := .int .i64 _) rfl) ?_
  refine qV ?_
  refine qN (vs := [_, _]) Try.results112 ⟨resV_agg 3 rfl rfl rfl rfl rfl (vs := [.slice _ _ _, .slice _ _ _]) rfl, qM rfl rfl, trivial⟩ fun V => ?_
  exact ⟨(zM (zM G1 G2) (qQ V)), HA, OA, cH, cO, a, (by show Value.tuple #[_, .int .i64 _] = _; rw [hE, putE3 hw']; try rfl), fun y => absurd (hE.symm.trans y) (by rw [putE3 hw']; decide), RH.ext (zM (zM G1 G2) (qQ V))⟩
 ·skip
  have hw' : ¬ inM w 0 (m.regs - 1) = false := by simpa using hw
  refine qO ?_
  refine qD ?_
  refine qD ?_
  refine qB rfl ?_
  refine qA (qC (v := .bool _) rfl) ?_
  refine qA (qC (v := .bool _) rfl) ?_
  refine qG rfl rfl ?_
  refine qA (qC (v := .slice _ _ _) rfl) ?_
  refine qG rfl rfl ?_
  refine qA (qF rfl rfl rfl rfl 1 rfl) ?_
  refine qG rfl rfl ?_
  refine qH 2 (v := .int .i64 _) rfl rfl rfl rfl ?_
  refine qG rfl rfl ?_
  refine wK (caps := []) (vs := [.slice _ _ _, .int .i64 _]) rfl rfl rfl (hasR_ok a.on w OA cO g2 (RH.o.ext (zM G1 G2)) (by omega)) ?_
  rintro _ g3 G3 rfl
  refine qA (wI rfl rfl (v := .bool _) rfl) ?_
  refine qR rfl (fun hh => ?_) (fun hh => ?_)
  ·skip
   have hh' : a.on.contains w = true := by simpa using hh
   refine qD ?_
   refine qB rfl ?_
   refine wE 1 (vs := [.slice _ _ _, .slice _ _ _]) rfl rfl rfl rfl rfl ?_
   refine qW 3 (v := .agg #[.slice _ _ _, .slice _ _ _]) (vs := [_, _]) (c' := [_, _]) rfl rfl rfl rfl rfl rfl rfl rfl rfl ?_
   refine qK [_, _, _, _] rfl ?_
   refine qA (qE (v := .int .i64 _) rfl) ?_
   refine qV ?_
   refine qN (vs := [_, _]) Try.results112 ⟨resV_agg 3 rfl rfl rfl rfl rfl (vs := [.slice _ _ _, .slice _ _ _]) rfl, qM rfl rfl, trivial⟩ fun V => ?_
   exact ⟨(zM (zM (zM G1 G2) G3) (qQ V)), HA, OA, cH, cO, a, (by show Value.tuple #[_, .int .i64 _] = _; rw [hE, putE4 hw' hh']; try rfl), fun y => absurd (hE.symm.trans y) (by rw [putE4 hw' hh']; decide), RH.ext (zM (zM (zM G1 G2) G3) (qQ V))⟩
  ·skip
   have hh' : ¬ a.on.contains w = true := by simpa using hh
   refine qO ?_
   refine qD ?_
   refine qD ?_
   refine qB rfl ?_
   refine qA (qC (v := .bool _) rfl) ?_
   refine qA (qL (v := .bool _) rfl) ?_
   refine qA (qC (v := .bool _) rfl) ?_
   refine qJ rfl rfl ?_
   refine qJ rfl rfl ?_
   refine qJ rfl rfl ?_
   refine qJ rfl rfl ?_
   refine qJ rfl rfl ?_
   refine qA (wN rfl rfl (v := .bool _) rfl) ?_
   refine zC rfl (rfl) ?_
   refine qO ?_
   refine qD ?_
   refine qD ?_
   refine qB rfl ?_
   refine qA (qC (v := .bool _) rfl) ?_
   refine xp_condT rfl (rfl) ?_
   refine qB rfl ?_
   refine qA (qC (v := .slice _ _ _) rfl) ?_
   refine qA (qF rfl rfl rfl rfl 1 rfl) ?_
   refine qH 2 (v := .int .i64 _) rfl rfl rfl rfl ?_
   refine wK (caps := []) (vs := [.slice _ _ _, .int .i64 _]) rfl rfl rfl (withR_ok a.on w OA cO g3 (RH.o.ext (zM (zM G1 G2) G3)) (by omega)) ?_
   rintro _ g4 G4 ⟨A9, c9, rfl, R9⟩
   refine qA (qE (v := .slice _ _ _) rfl) ?_
   refine qD ?_
   refine qD ?_
   refine qB rfl ?_
   refine qA (qF rfl rfl rfl rfl 0 rfl) ?_
   refine qH 2 (v := .int .i64 _) rfl rfl rfl rfl ?_
   refine qA (qL (v := .bool _) rfl) ?_
   refine qA (qC (v := .bool _) rfl) ?_
   refine qJ rfl rfl ?_
   refine qJ rfl rfl ?_
   refine qJ rfl rfl ?_
   refine qA (wI rfl rfl (v := .bool _) rfl) ?_
   refine xp_condT rfl (rfl) ?_
   refine qB rfl ?_
   refine qA (qC (v := .slice _ _ _) rfl) ?_
   refine qA (qF rfl rfl rfl rfl 1 rfl) ?_
   refine qW 1 (v := .slice _ _ _) (vs := [_]) (c' := [_, _]) rfl rfl rfl rfl rfl rfl rfl rfl rfl ?_
   refine qK [_, _, _, _] rfl ?_
   refine qD ?_
   refine qB rfl ?_
   refine wE 1 (vs := [.slice _ _ _, .slice _ _ _]) rfl rfl rfl rfl rfl ?_
   refine qW 3 (v := .agg #[.slice _ _ _, .slice _ _ _]) (vs := [_, _]) (c' := [_, _]) rfl rfl rfl rfl rfl rfl rfl rfl rfl ?_
   refine qK [_, _, _, _] rfl ?_
   refine qA (qE (v := .int .i64 _) rfl) ?_
   refine qV ?_
   refine qN (vs := [_, _]) Try.results112 ⟨resV_agg 3 rfl rfl rfl rfl rfl (vs := [.slice _ _ _, .slice _ _ _]) rfl, qM rfl rfl, trivial⟩ fun V => ?_
   exact ⟨(zM (zM (zM (zM G1 G2) G3) G4) (qQ V)), HA, A9, cH, c9, ⟨a.buttons, putL a.on w true⟩, (by show Value.tuple #[_, .int .i64 _] = _; rw [hE, putE0t hw' hh']; try rfl), fun _ => hS.symm, ⟨RH.b.ext (zM (zM (zM (zM G1 G2) G3) G4) (qQ V)), R9.ext (qQ V)⟩⟩
theorem step4R_ok (m : MachP) (a : HandP) (w : Int) (AB AQ AL AW HA OA : Option Addr) (cB cQ cL cW cH cO : Nat) (h : AH) (RM : MachR h AB AQ AL AW m) (RH : HandR h HA OA a) (hb : m.buttons.length < 2 ^ 40) (hr : m.regs ≤ 2 ^ 40 ∧ 0 ≤ m.regs) (h1 : a.buttons.length < 2 ^ 20) (h2 : a.on.length < 2 ^ 20) :
  FnT Try.prog 112 #[machV AB AQ AL AW cB cQ cL cW m, handV HA OA cH cO a, .agg #[.int .i64 4, .int .i64 w]] h (fun v h' => StepV h' m a ⟨4, w⟩ v) := by
 have hE : stepE m a ⟨4, w⟩ = putE a.on w m.regs false := (if_neg (by simp)).trans (if_pos (.inr rfl))
 have hS : stepH a ⟨4, w⟩ = ⟨a.buttons, putL a.on w false⟩ := if_neg (by simp)
 refine wM Try.func112 rfl Try.ntmps112 rfl ?_
 refine qD ?_
 refine qB rfl ?_
 refine zE (v := .agg #[.int .i64 _, .int .i64 _, .int .i64 _, .int .i64 _, .int .i64 _, .slice _ _ _, .slice _ _ _, .slice _ _ _, .slice _ _ _]) (cs := [_, _, _, _, _, _, _, _, _]) rfl rfl fun b3 hb3 => ?_
 refine qK [_] rfl ?_
 refine zE (v := .agg #[.slice _ _ _, .slice _ _ _]) (cs := [_, _]) rfl rfl fun b4 hb4 => ?_
 refine qK [_, _] rfl ?_
 refine zE (v := .agg #[.int .i64 _, .int .i64 _]) (cs := [_, _]) rfl rfl fun b5 hb5 => ?_
 refine qK [_, _, _] rfl ?_
 refine zA (cs := [_, _]) rfl rfl fun b6 hb6 => ?_
 refine qK [_, _, _, _] rfl ?_
 refine qA (qE (v := .int .i64 _) rfl) ?_
 refine qD ?_
 refine qD ?_
 refine qB rfl ?_
 refine qA (qF rfl rfl rfl rfl 0 rfl) ?_
 refine qH 2 (v := .int .i64 _) rfl rfl rfl rfl ?_
 refine wK (caps := []) (vs := [.int .i64 _, .int .i64 _, .int .i64 _]) rfl rfl rfl (among_ok 4 1 4 h) ?_
 rintro _ g1 G1 rfl
 refine qA (qL (v := .bool _) rfl) ?_
 refine zC rfl ((by decide)) ?_
 refine qO ?_
 refine qD ?_
 refine xp_dw [] rfl rfl rfl ?_
 refine qI (i := 0) rfl (by decide +kernel) (qF rfl rfl rfl rfl 0 rfl) ?_
 refine qZ (i := 1) rfl (by decide +kernel) ?_
 refine qH 1 (v := .slice _ _ _) rfl rfl rfl rfl ?_
 refine qI (i := 2) rfl (by decide +kernel) (qF rfl rfl rfl rfl 5 rfl) ?_
 refine qZ (i := 3) rfl (by decide +kernel) ?_
 refine qH 0 (v := .slice _ _ _) rfl rfl rfl rfl ?_
 refine qI (i := 4) rfl (by decide +kernel) (wP rfl rfl) ?_
 refine qI (i := 5) rfl (by decide +kernel) (qF rfl rfl rfl rfl 0 rfl) ?_
 refine qZ (i := 6) rfl (by decide +kernel) ?_
 refine qH 2 (v := .int .i64 _) rfl rfl rfl rfl ?_
 refine qI (i := 7) rfl (by decide +kernel) (qL (v := .bool _) rfl) ?_
 refine qI (i := 8) rfl (by decide +kernel) (qC (v := .bool _) rfl) ?_
 refine dw_pureG (i := 9) rfl (by decide +kernel) rfl rfl (qF rfl rfl rfl rfl 0 rfl) ?_
 refine dw_loadG (i := 10) rfl (by decide +kernel) rfl rfl ?_
 refine qH 2 (v := .int .i64 _) rfl rfl rfl rfl ?_
 refine dw_pureG (i := 11) rfl (by decide +kernel) rfl rfl (qL (v := .bool _) rfl) ?_
 refine qI (i := 12) rfl (by decide +kernel) (wN rfl rfl (v := .bool _) rfl) ?_
 refine qI (i := 13) rfl (by decide +kernel) (qE (v := .slice _ _ _) rfl) ?_
 refine qI (i := 14) rfl (by decide +kernel) (qE (v := .int .i64 _) rfl) ?_
 refine qI (i := 15) rfl (by decide +kernel) (qE (v := .bool _) rfl) ?_
 refine zI rfl ?_
 refine qD ?_
 refine qD ?_
 refine qB rfl ?_
 refine qA (qF rfl rfl rfl rfl 0 rfl) ?_
 refine qH 2 (v := .int .i64 _) rfl rfl rfl rfl ?_
 refine qA (qL (v := .bool _) rfl) ?_
 refine qA (qC (v := .bool _) rfl) ?_
 refine qG rfl rfl ?_
 refine qA (qF rfl rfl rfl rfl 0 rfl) ?_
 refine qG rfl rfl ?_
 refine qH 2 (v := .int .i64 _) rfl rfl rfl rfl ?_
 refine qG rfl rfl ?_
 refine qA (qL (v := .bool _) rfl) ?_
 refine qA (wN rfl rfl (v := .bool _) rfl) ?_
 refine xp_condT rfl (rfl) ?_
 refine xp_dw [] rfl rfl rfl ?_
 refine qI (i := 0) rfl (by decide +kernel) (qF rfl rfl rfl rfl 1 rfl) ?_
 refine qZ (i := 1) rfl (by decide +kernel) ?_
 refine qH 1 (v := .slice _ _ _) rfl rfl rfl rfl ?_
 refine qI (i := 2) rfl (by decide +kernel) (qF rfl rfl rfl rfl 2 rfl) ?_
 refine qZ (i := 3) rfl (by decide +kernel) ?_
 refine qH 0 (v := .int .i64 _) rfl rfl rfl rfl ?_
 refine qI (i := 4) rfl (by decide +kernel) (qE (v := .slice _ _ _) rfl) ?_
 refine qI (i := 5) rfl (by decide +kernel) (qE (v := .int .i64 _) rfl) ?_
 refine zI rfl ?_
 refine qD ?_
 refine qD ?_
 refine qB rfl ?_
 refine qA (qF rfl rfl rfl rfl 1 rfl) ?_
 refine qH 2 (v := .int .i64 _) rfl rfl rfl rfl ?_
 refine qA (qC (v := .int .i64 _) rfl) ?_
 refine qA (qT rfl (by omega)) ?_
 refine wK (caps := []) (vs := [.int .i64 _, .int .i64 _, .int .i64 _]) rfl rfl rfl (among_ok w 0 (m.regs - 1) g1) ?_
 rintro _ g2 G2 rfl
 refine qA (qL (v := .bool _) rfl) ?_
 refine qR rfl (fun hw => ?_) (fun hw => ?_)
 ·skip
  have hw' : inM w 0 (m.regs - 1) = false := by simpa using hw
  refine qD ?_
  refine qB rfl ?_
  refine wE 1 (vs := [.slice _ _ _, .slice _ _ _]) rfl rfl rfl rfl rfl ?_
  refine qW 3 (v := .agg #[.slice _ _ _, .slice _ _ _]) (vs := [_, _]) (c' := [_, _]) rfl rfl rfl rfl rfl rfl rfl rfl rfl ?_
  refine qK [_, _, _, _] rfl ?_
  refine qA (qE (v := .int .i64 _) rfl) ?_
  refine qV ?_
  refine qN (vs := [_, _]) Try.results112 ⟨resV_agg 3 rfl rfl rfl rfl rfl (vs := [.slice _ _ _, .slice _ _ _]) rfl, qM rfl rfl, trivial⟩ fun V => ?_
  exact ⟨(zM (zM G1 G2) (qQ V)), HA, OA, cH, cO, a, (by show Value.tuple #[_, .int .i64 _] = _; rw [hE, putE3 hw']; try rfl), fun y => absurd (hE.symm.trans y) (by rw [putE3 hw']; decide), RH.ext (zM (zM G1 G2) (qQ V))⟩
 ·skip
  have hw' : ¬ inM w 0 (m.regs - 1) = false := by simpa using hw
  refine qO ?_
  refine qD ?_
  refine qD ?_
  refine qB rfl ?_
  refine qA (qC (v := .bool _) rfl) ?_
  refine qA (qC (v := .bool _) rfl) ?_
  refine qJ rfl rfl ?_
  refine qJ rfl rfl ?_
  refine qJ rfl rfl ?_
  refine qJ rfl rfl ?_
  refine qA (wN rfl rfl (v := .bool _) rfl) ?_
  refine zC rfl (rfl) ?_
  refine qO ?_
  refine qD ?_
  refine qD ?_
  refine qB rfl ?_
  refine qA (qC (v := .bool _) rfl) ?_
  refine qA (qL (v := .bool _) rfl) ?_
  refine qA (qC (v := .bool _) rfl) ?_
  refine qG rfl rfl ?_
  refine qA (qC (v := .slice _ _ _) rfl) ?_
  refine qG rfl rfl ?_
  refine qA (qF rfl rfl rfl rfl 1 rfl) ?_
  refine qG rfl rfl ?_
  refine qH 2 (v := .int .i64 _) rfl rfl rfl rfl ?_
  refine qG rfl rfl ?_
  refine wK (caps := []) (vs := [.slice _ _ _, .int .i64 _]) rfl rfl rfl (hasR_ok a.on w OA cO g2 (RH.o.ext (zM G1 G2)) (by omega)) ?_
  rintro _ g3 G3 rfl
  refine qG rfl rfl ?_
  refine qA (qL (v := .bool _) rfl) ?_
  refine qA (wI rfl rfl (v := .bool _) rfl) ?_
  refine qR rfl (fun hh => ?_) (fun hh => ?_)
  ·skip
   have hh' : ¬ a.on.contains w = true := by simpa using hh
   refine qD ?_
   refine qB rfl ?_
   refine wE 1 (vs := [.slice _ _ _, .slice _ _ _]) rfl rfl rfl rfl rfl ?_
   refine qW 3 (v := .agg #[.slice _ _ _, .slice _ _ _]) (vs := [_, _]) (c' := [_, _]) rfl rfl rfl rfl rfl rfl rfl rfl rfl ?_
   refine qK [_, _, _, _] rfl ?_
   refine qA (qE (v := .int .i64 _) rfl) ?_
   refine qV ?_
   refine qN (vs := [_, _]) Try.results112 ⟨resV_agg 3 rfl rfl rfl rfl rfl (vs := [.slice _ _ _, .slice _ _ _]) rfl, qM rfl rfl, trivial⟩ fun V => ?_
   exact ⟨(zM (zM (zM G1 G2) G3) (qQ V)), HA, OA, cH, cO, a, (by show Value.tuple #[_, .int .i64 _] = _; rw [hE, putE11 hw' hh']; try rfl), fun y => absurd (hE.symm.trans y) (by rw [putE11 hw' hh']; decide), RH.ext (zM (zM (zM G1 G2) G3) (qQ V))⟩
  ·skip
   have hh' : a.on.contains w = true := by simpa using hh
   refine qO ?_
   refine qD ?_
   refine qD ?_
   refine qB rfl ?_
   refine qA (qC (v := .bool _) rfl) ?_
   refine zC rfl (rfl) ?_
   refine qB rfl ?_
   refine qA (qC (v := .slice _ _ _) rfl) ?_
   refine qA (qF rfl rfl rfl rfl 1 rfl) ?_
   refine qH 2 (v := .int .i64 _) rfl rfl rfl rfl ?_
   refine wK (caps := []) (vs := [.slice _ _ _, .int .i64 _]) rfl rfl rfl (withoutR_ok a.on w OA cO g3 (RH.o.ext (zM (zM G1 G2) G3)) (by omega)) ?_
   rintro _ g4 G4 ⟨A9, c9, rfl, R9⟩
   refine qA (qE (v := .slice _ _ _) rfl) ?_
   refine qD ?_
   refine qD ?_
   refine qB rfl ?_
   refine qA (qF rfl rfl rfl rfl 0 rfl) ?_
   refine qH 2 (v := .int .i64 _) rfl rfl rfl rfl ?_
   refine qA (qL (v := .bool _) rfl) ?_
   refine qA (qC (v := .bool _) rfl) ?_
   refine qG rfl rfl ?_
   refine qA (qF rfl rfl rfl rfl 0 rfl) ?_
   refine qG rfl rfl ?_
   refine qH 2 (v := .int .i64 _) rfl rfl rfl rfl ?_
   refine qG rfl rfl ?_
   refine qA (qL (v := .bool _) rfl) ?_
   refine qA (wN rfl rfl (v := .bool _) rfl) ?_
   refine xp_condT rfl (rfl) ?_
   refine qB rfl ?_
   refine qA (qC (v := .slice _ _ _) rfl) ?_
   refine qA (qF rfl rfl rfl rfl 1 rfl) ?_
   refine qW 1 (v := .slice _ _ _) (vs := [_]) (c' := [_, _]) rfl rfl rfl rfl rfl rfl rfl rfl rfl ?_
   refine qK [_, _, _, _] rfl ?_
   refine qD ?_
   refine qB rfl ?_
   refine wE 1 (vs := [.slice _ _ _, .slice _ _ _]) rfl rfl rfl rfl rfl ?_
   refine qW 3 (v := .agg #[.slice _ _ _, .slice _ _ _]) (vs := [_, _]) (c' := [_, _]) rfl rfl rfl rfl rfl rfl rfl rfl rfl ?_
   refine qK [_, _, _, _] rfl ?_
   refine qA (qE (v := .int .i64 _) rfl) ?_
   refine qV ?_
   refine qN (vs := [_, _]) Try.results112 ⟨resV_agg 3 rfl rfl rfl rfl rfl (vs := [.slice _ _ _, .slice _ _ _]) rfl, qM rfl rfl, trivial⟩ fun V => ?_
   exact ⟨(zM (zM (zM (zM G1 G2) G3) G4) (qQ V)), HA, A9, cH, c9, ⟨a.buttons, putL a.on w false⟩, (by show Value.tuple #[_, .int .i64 _] = _; rw [hE, putE0f hw' hh']; try rfl), fun _ => hS.symm, ⟨RH.b.ext (zM (zM (zM (zM G1 G2) G3) G4) (qQ V)), R9.ext (qQ V)⟩⟩
theorem stepR_ok (m : MachP) (a : HandP) (x : EvP) (AB AQ AL AW HA OA : Option Addr) (cB cQ cL cW cH cO : Nat) (h : AH) (RM : MachR h AB AQ AL AW m) (RH : HandR h HA OA a) (hb : m.buttons.length < 2 ^ 40) (hr : m.regs ≤ 2 ^ 40 ∧ 0 ≤ m.regs) (h1 : a.buttons.length < 2 ^ 20) (h2 : a.on.length < 2 ^ 20) :
  FnT Try.prog 112 #[machV AB AQ AL AW cB cQ cL cW m, handV HA OA cH cO a, .agg #[.int .i64 x.kind, .int .i64 x.which]] h (fun v h' => StepV h' m a x v) := by
 obtain ⟨k, w⟩ := x
 by_cases h1k : k = 1
 ·subst h1k; exact step1R_ok m a w AB AQ AL AW HA OA cB cQ cL cW cH cO h RM RH hb hr h1 h2
 by_cases h2k : k = 2
 ·subst h2k; exact step2R_ok m a w AB AQ AL AW HA OA cB cQ cL cW cH cO h RM RH hb hr h1 h2
 by_cases h3k : k = 3
 ·subst h3k; exact step3R_ok m a w AB AQ AL AW HA OA cB cQ cL cW cH cO h RM RH hb hr h1 h2
 by_cases h4k : k = 4
 ·subst h4k; exact step4R_ok m a w AB AQ AL AW HA OA cB cQ cL cW cH cO h RM RH hb hr h1 h2
 have hE : stepE m a ⟨k, w⟩ = 8 := by
  unfold stepE
  rw [if_neg (fun y => y.elim h1k h2k), if_neg (fun y => y.elim h3k h4k)]
 have hk : inM k 1 4 = false := by
  cases he : inM k 1 4 with
  | false => rfl
  | true => rw [inM_iff] at he; omega
 refine wM Try.func112 rfl Try.ntmps112 rfl ?_
 refine qD ?_
 refine qB rfl ?_
 refine zE (v := .agg #[.int .i64 _, .int .i64 _, .int .i64 _, .int .i64 _, .int .i64 _, .slice _ _ _, .slice _ _ _, .slice _ _ _, .slice _ _ _]) (cs := [_, _, _, _, _, _, _, _, _]) rfl rfl fun b3 hb3 => ?_
 refine qK [_] rfl ?_
 refine zE (v := .agg #[.slice _ _ _, .slice _ _ _]) (cs := [_, _]) rfl rfl fun b4 hb4 => ?_
 refine qK [_, _] rfl ?_
 refine zE (v := .agg #[.int .i64 _, .int .i64 _]) (cs := [_, _]) rfl rfl fun b5 hb5 => ?_
 refine qK [_, _, _] rfl ?_
 refine zA (cs := [_, _]) rfl rfl fun b6 hb6 => ?_
 refine qK [_, _, _, _] rfl ?_
 refine qA (qE (v := .int .i64 _) rfl) ?_
 refine qD ?_
 refine qD ?_
 refine qB rfl ?_
 refine qA (qF rfl rfl rfl rfl 0 rfl) ?_
 refine qH 2 (v := .int .i64 _) rfl rfl rfl rfl ?_
 refine wK (caps := []) (vs := [.int .i64 _, .int .i64 _, .int .i64 _]) rfl rfl rfl (among_ok k 1 4 h) ?_
 rintro _ g1 G1 rfl
 refine qA (qL (v := .bool _) rfl) ?_
 refine xp_condT rfl ((by rw [hk]; rfl)) ?_
 refine qD ?_
 refine qB rfl ?_
 refine wE 1 (vs := [.slice _ _ _, .slice _ _ _]) rfl rfl rfl rfl rfl ?_
 refine qW 3 (v := .agg #[.slice _ _ _, .slice _ _ _]) (vs := [_, _]) (c' := [_, _]) rfl rfl rfl rfl rfl rfl rfl rfl rfl ?_
 refine qK [_, _, _, _] rfl ?_
 refine qA (qE (v := .int .i64 _) rfl) ?_
 refine qV ?_
 refine qN (vs := [_, _]) Try.results112 ⟨resV_agg 3 rfl rfl rfl rfl rfl (vs := [.slice _ _ _, .slice _ _ _]) rfl, qM rfl rfl, trivial⟩ fun V => ?_
 exact ⟨(zM G1 (qQ V)), HA, OA, cH, cO, a, (by show Value.tuple #[_, .int .i64 _] = _; rw [hE]; try rfl), fun y => absurd (hE.symm.trans y) (by decide), RH.ext (zM G1 (qQ V))⟩
end
end Go.Proofs.Ythphpbdmbmiaiaa
namespace Go.Proofs.Ythphpbdmbmiaiaa
open Go Go.HL Go.Proofs Go.Wx Go.Rd
section
variable [Lvl]
set_option maxRecDepth 100000
def pk3 (m : MachP) : Int := if m.links.length > 4 then 6 else firstErr (checkLinkM m) m.links
def pk2 (m : MachP) : Int := if m.pins.length > 8 then 6 else if firstErr (checkPinM m) m.pins ≠ 0 then firstErr (checkPinM m) m.pins else pk3 m
def pk1 (m : MachP) : Int := if m.buttons.length > 4 then 6 else if firstErr (checkButtonM m) m.buttons ≠ 0 then firstErr (checkButtonM m) m.buttons else pk2 m
theorem pk_chk (m : MachP) : chk1 m = if pk1 m ≠ 0 then pk1 m else chk4 m := by
 unfold chk1 chk2 chk3 pk1 pk2 pk3
 by_cases a1 : m.buttons.length > 4
 ·simp only [if_pos a1]; rfl
 simp only [if_neg a1]
 by_cases a2 : firstErr (checkButtonM m) m.buttons ≠ 0
 ·simp only [if_pos a2]
 simp only [if_neg a2]
 by_cases a3 : m.pins.length > 8
 ·simp only [if_pos a3]; rfl
 simp only [if_neg a3]
 by_cases a4 : firstErr (checkPinM m) m.pins ≠ 0
 ·simp only [if_pos a4]
 simp only [if_neg a4]
 by_cases a5 : m.links.length > 4
 ·simp only [if_pos a5]; rfl
 simp only [if_neg a5]
set_option maxHeartbeats 4000000 in
theorem checkPartsG_ok (m : MachP) (b1 : 1 ≤ m.rods ∧ m.rods ≤ 6) (b2 : 1 ≤ m.levers ∧ m.levers ≤ 6) (b3 : 0 ≤ m.regs ∧ m.regs ≤ 2) (b4 : 1 ≤ m.travel ∧ m.travel ≤ 12) (AB AQ AL AW : Option Addr) (cB cQ cL cW : Nat) (h : AH) (R : MachR h AB AQ AL AW m) (h0 : m.buttons.length < 2 ^ 40) (h1 : m.pins.length < 2 ^ 40) (h2 : m.links.length < 2 ^ 40) :
  FnT Try.prog 90 #[machV AB AQ AL AW cB cQ cL cW m] h (fun v _ => v = .int .i64 (pk1 m)) := by
 refine wM Try.func90 rfl Try.ntmps90 rfl ?_
 refine qD ?_
 refine qB rfl ?_
 refine zE (v := .agg #[.int .i64 _, .int .i64 _, .int .i64 _, .int .i64 _, .int .i64 _, .slice _ _ _, .slice _ _ _, .slice _ _ _, .slice _ _ _]) (cs := [_, _, _, _, _, _, _, _, _]) rfl rfl fun b1 hb1 => ?_
 refine qK [_] rfl ?_
 refine qA (qE (v := .int .i64 _) rfl) ?_
 refine qD ?_
 refine qD ?_
 refine qB rfl ?_
 refine qA (qF rfl rfl rfl rfl 5 rfl) ?_
 refine qH 0 (v := .slice _ _ _) rfl rfl rfl rfl ?_
 refine qA (wP rfl rfl) ?_
 refine qA (qL (v := .bool _) rfl) ?_
 refine qR rfl (fun hb => ?_) (fun hb => ?_)
 ·skip
  have hb' : 4 < m.buttons.length := by simp at hb; omega
  refine qD ?_
  refine qB rfl ?_
  refine qA (qE (v := .int .i64 _) rfl) ?_
  refine qV ?_
  refine qN (vs := [_]) Try.results90 ⟨qM rfl rfl, trivial⟩ fun V => ?_
  exact ⟨(qQ V), intE (by rw [pk1, if_pos hb'])⟩
 ·skip
  have hb' : ¬ 4 < m.buttons.length := by simp at hb; omega
  refine qO ?_
  refine qD ?_
  refine qD ?_
  refine qB rfl ?_
  refine qA (qE (v := .int .i64 _) rfl) ?_
  refine qP ?_
  refine xp_loopB [2, 3, 12, 13, 14, 15, 16, 17, 18, 19, 20, 21, 22, 23, 24, 25, 26, 27, 28] 1 (α := Nat) (fun k => [(3, .int .i64 k)]) (fun k => _) (fun k h_k => k ≤ m.buttons.length ∧ firstErr (checkButtonM m) (m.buttons.take k) = 0) (fun k => m.buttons.length - k) (0) ⟨rfl, trivial⟩ (rfl) (⟨Nat.zero_le _, rfl⟩) ?_
  rintro k T1 h_k E_k J_k
  refine qS [_] rfl ?_
  obtain ⟨K1, K2⟩ := J_k
  refine qD ?_
  refine qD ?_
  refine qB rfl ?_
  refine qA (qC (v := .int .i64 _) rfl) ?_
  refine qA (qF rfl rfl rfl rfl 5 rfl) ?_
  refine qH 0 (v := .slice _ _ _) rfl rfl rfl rfl ?_
  refine qA (wP rfl rfl) ?_
  refine qA (qL (v := .bool _) rfl) ?_
  refine qR rfl (fun hk => ?_) (fun hk => ?_)
  ·skip
   have hkl : k < m.buttons.length := ltI hk
   obtain ⟨g, off, hA, hc⟩ := (R.b.ext E_k).at (by omega) hkl
   refine qO ?_
   refine qD ?_
   refine qP ?_
   refine qD ?_
   refine xp_dw [] rfl rfl rfl ?_
   refine qI (i := 0) rfl (by decide +kernel) (qF rfl rfl rfl rfl 5 rfl) ?_
   refine qZ (i := 1) rfl (by decide +kernel) ?_
   refine qH 0 (v := .slice _ _ _) rfl rfl rfl rfl ?_
   refine qI (i := 2) rfl (by decide +kernel) (qC (v := .int .i64 _) rfl) ?_
   refine qI (i := 3) rfl (by decide +kernel) (wO rfl hA rfl rfl rfl (by omega) (by omega)) ?_
   refine qZ (i := 4) rfl (by decide +kernel) ?_
   refine wT (v := .int .i64 _) rfl rfl ((hc) 0 _ rfl) ?_
   refine qI (i := 5) rfl (by decide +kernel) (qF rfl rfl rfl rfl 0 rfl) ?_
   refine qZ (i := 6) rfl (by decide +kernel) ?_
   refine qH 0 (v := .int .i64 _) rfl rfl rfl rfl ?_
   refine qI (i := 7) rfl (by decide +kernel) (qT rfl (by omega)) ?_
   refine zF (i := 8) rfl (by decide +kernel) (by decide +kernel) ?_
   refine wK (caps := []) (vs := [.int .i64 _, .int .i64 _, .int .i64 _]) rfl rfl rfl (among_ok _ _ _ h_k) ?_
   rintro _ h1 E1 rfl
   refine qI (i := 9) rfl (by decide +kernel) (qL (v := .bool _) rfl) ?_
   refine zI rfl ?_
   refine qR rfl (fun hw => ?_) (fun hw => ?_)
   ·skip
    have ew : checkButtonM m m.buttons[k] = 3 := by rw [checkButtonM, if_pos hw]
    refine qD ?_
    refine qB rfl ?_
    refine qA (qE (v := .int .i64 _) rfl) ?_
    refine qV ?_
    refine qN (vs := [_]) Try.results90 ⟨qM rfl rfl, trivial⟩ fun V => ?_
    refine ⟨(zM (zM E_k E1) (qQ V)), intE ?_⟩
    have ef := zH hkl K2 (by rw [ew]; decide)
    rw [ew] at ef
    rw [pk1, if_neg hb', if_pos (by rw [ef]; decide), ef]
   ·skip
    refine qO ?_
    refine qB rfl ?_
    refine qA (qC (v := .int .i64 _) rfl) ?_
    refine qA (qT rfl (by omega)) ?_
    refine qA (qE (v := .int .i64 _) rfl) ?_
    refine ⟨k + 1, ⟨rfl, trivial⟩, rfl, rfl, (zM E_k E1), fun h3 E3 => ⟨hkl, firstErr_go hkl K2 (by rw [checkButtonM, if_neg (by simpa using hw)])⟩, by first | omega | (dsimp only; omega), ?_⟩
    repeat (first | exact qY _ _ _ | refine wG (by decide) ?_ | refine qX rfl ?_ | refine wH rfl ?_)
  ·skip
   have hke : k = m.buttons.length := by have := geI hk; omega
   subst hke
   rw [List.take_length] at K2
   have C2 : pk1 m = pk2 m := by rw [pk1, if_neg hb', if_neg (by simp [K2])]
   refine wV ?_
   refine qD ?_
   refine qD ?_
   refine qB rfl ?_
   refine qA (qF rfl rfl rfl rfl 6 rfl) ?_
   refine qH 0 (v := .slice _ _ _) rfl rfl rfl rfl ?_
   refine qA (wP rfl rfl) ?_
   refine qA (qL (v := .bool _) rfl) ?_
   refine qR rfl (fun hq => ?_) (fun hq => ?_)
   ·skip
    refine qD ?_
    refine qB rfl ?_
    refine qA (qE (v := .int .i64 _) rfl) ?_
    refine qV ?_
    refine qN (vs := [_]) Try.results90 ⟨qM rfl rfl, trivial⟩ fun V => ?_
    have hq' : 8 < m.pins.length := by simp at hq; omega
    exact ⟨(zM E_k (qQ V)), intE (by rw [C2, pk2, if_pos hq'])⟩
   ·skip
    have hq' : ¬ 8 < m.pins.length := by simp at hq; omega
    refine qO ?_
    refine qD ?_
    refine qD ?_
    refine qB rfl ?_
    refine qA (qE (v := .int .i64 _) rfl) ?_
    refine qP ?_
    refine xp_loopB [2, 4, 5, 33, 34, 35, 36, 37, 38, 39, 40, 41, 42, 43, 44, 45, 46, 47, 48, 49, 50, 51, 52, 53, 54, 55, 56, 57, 58, 59, 60, 61, 62, 63, 64, 65, 66] 1 (α := Nat) (fun j => [(4, .int .i64 j)]) (fun j => _) (fun j h_j => j ≤ m.pins.length ∧ firstErr (checkPinM m) (m.pins.take j) = 0) (fun j => m.pins.length - j) (0) ⟨rfl, trivial⟩ (rfl) (⟨Nat.zero_le _, rfl⟩) ?_
    rintro j T2 h_j E_j J_j
    refine qS [_] rfl ?_
    obtain ⟨P1, P2⟩ := J_j
    refine qD ?_
    refine qD ?_
    refine qB rfl ?_
    refine qA (qC (v := .int .i64 _) rfl) ?_
    refine qA (qF rfl rfl rfl rfl 6 rfl) ?_
    refine qH 0 (v := .slice _ _ _) rfl rfl rfl rfl ?_
    refine qA (wP rfl rfl) ?_
    refine qA (qL (v := .bool _) rfl) ?_
    refine qR rfl (fun hk2 => ?_) (fun hk2 => ?_)
    ·skip
     have hkl : j < m.pins.length := ltI hk2
     obtain ⟨g, off, hA, hc⟩ := (R.q.ext (zM E_k E_j)).at (by omega) hkl
     refine qO ?_
     refine qD ?_
     refine qP ?_
     refine qD ?_
     refine qB rfl ?_
     refine qA (qF rfl rfl rfl rfl 6 rfl) ?_
     refine qH 0 (v := .slice _ _ _) rfl rfl rfl rfl ?_
     refine qA (qC (v := .int .i64 _) rfl) ?_
     refine qA (wO rfl hA rfl rfl rfl (by omega) (by omega)) ?_
     refine op_loadA rfl rfl rfl rfl (hc) ?_
     refine zA (cs := [_, _, _]) rfl rfl fun b5 hb5 => ?_
     refine qK [_, _] rfl ?_
     refine qW 1 (v := .agg #[.int .i64 _, .int .i64 _, .int .i64 _]) (vs := [_, _, _]) (c' := [_, _, _]) rfl rfl rfl rfl rfl rfl rfl rfl rfl ?_
     refine qK [_, _] rfl ?_
     refine qD ?_
     refine qD ?_
     refine qB rfl ?_
     refine qA (qF rfl rfl rfl rfl 0 rfl) ?_
     refine qH 1 (v := .int .i64 _) rfl rfl rfl rfl ?_
     refine qA (qF rfl rfl rfl rfl 0 rfl) ?_
     refine qH 0 (v := .int .i64 _) rfl rfl rfl rfl ?_
     refine qA (qT rfl (by omega)) ?_
     refine wK (caps := []) (vs := [.int .i64 _, .int .i64 _, .int .i64 _]) rfl rfl rfl (among_ok _ _ _ h_j) ?_
     rintro _ h1 E1 rfl
     rcases Bool.eq_false_or_eq_true (inM m.pins[j].rod 0 (m.rods - 1)) with e1 | e1
     ·skip
      have e1' : (!inM m.pins[j].rod 0 (m.rods - 1)) = false := by rw [e1]; rfl
      refine qA (qL (v := .bool _) rfl) ?_
      refine qA (qC (v := .bool _) rfl) ?_
      refine qG rfl e1' ?_
      refine qA (qF rfl rfl rfl rfl 1 rfl) ?_
      refine qG rfl e1' ?_
      refine qH 1 (v := .int .i64 _) rfl rfl rfl rfl ?_
      refine qG rfl e1' ?_
      refine qA (qF rfl rfl rfl rfl 1 rfl) ?_
      refine qG rfl e1' ?_
      refine qH 0 (v := .int .i64 _) rfl rfl rfl rfl ?_
      refine qG rfl e1' ?_
      refine qA (qT rfl (by omega)) ?_
      refine qG rfl e1' ?_
      refine wK (caps := []) (vs := [.int .i64 _, .int .i64 _, .int .i64 _]) rfl rfl rfl (among_ok _ _ _ h1) ?_
      rintro _ h2 E2 rfl
      refine qG rfl e1' ?_
      refine qA (qL (v := .bool _) rfl) ?_
      refine qA (wN rfl e1' (v := .bool _) rfl) ?_
      refine qR rfl (fun hw => ?_) (fun hw => ?_)
      ·skip
       have ew : checkPinM m m.pins[j] = 3 := by rw [checkPinM, if_neg (by rw [e1']; decide), if_pos hw]
       refine qD ?_
       refine qB rfl ?_
       refine qA (qE (v := .int .i64 _) rfl) ?_
       refine qV ?_
       refine qN (vs := [_]) Try.results90 ⟨qM rfl rfl, trivial⟩ fun V => ?_
       refine ⟨(zM (zM (zM (zM E_k E_j) E1) E2) (qQ V)), intE ?_⟩
       have ef := zH hkl P2 (by rw [ew]; decide)
       rw [ew] at ef
       rw [C2, pk2, if_neg hq', if_pos (by rw [ef]; decide), ef]
      ·skip
       refine qO ?_
       refine qD ?_
       refine qB rfl ?_
       refine qA (qF rfl rfl rfl rfl 2 rfl) ?_
       refine qH 1 (v := .int .i64 _) rfl rfl rfl rfl ?_
       refine qA (qF rfl rfl rfl rfl 3 rfl) ?_
       refine qH 0 (v := .int .i64 _) rfl rfl rfl rfl ?_
       refine wK (caps := []) (vs := [.int .i64 _, .int .i64 _, .int .i64 _]) rfl rfl rfl (among_ok _ _ _ h2) ?_
       rintro _ h3 E3 rfl
       refine qA (qL (v := .bool _) rfl) ?_
       refine qR rfl (fun hw2 => ?_) (fun hw2 => ?_)
       ·skip
        have ew : checkPinM m m.pins[j] = 1 := by rw [checkPinM, if_neg (by rw [e1']; decide), if_neg (by rw [hw]; decide), if_pos hw2]
        refine qD ?_
        refine qB rfl ?_
        refine qA (qE (v := .int .i64 _) rfl) ?_
        refine qV ?_
        refine qN (vs := [_]) Try.results90 ⟨qM rfl rfl, trivial⟩ fun V => ?_
        refine ⟨(zM (zM (zM (zM (zM E_k E_j) E1) E2) E3) (qQ V)), intE ?_⟩
        have ef := zH hkl P2 (by rw [ew]; decide)
        rw [ew] at ef
        rw [C2, pk2, if_neg hq', if_pos (by rw [ef]; decide), ef]
       ·skip
        refine qO ?_
        refine qB rfl ?_
        refine qA (qC (v := .int .i64 _) rfl) ?_
        refine qA (qT rfl (by omega)) ?_
        refine qA (qE (v := .int .i64 _) rfl) ?_
        refine ⟨j + 1, ⟨rfl, trivial⟩, rfl, rfl, (zM (zM (zM E_j E1) E2) E3), fun h3 E3 => ⟨hkl, firstErr_go hkl P2 (by rw [checkPinM, if_neg (by rw [e1']; decide), if_neg (by rw [hw]; decide), if_neg (by rw [hw2]; decide)])⟩, by first | omega | (dsimp only; omega), ?_⟩
        repeat (first | exact qY _ _ _ | refine wG (by decide) ?_ | refine qX rfl ?_ | refine wH rfl ?_)
     ·skip
      have e1' : (!inM m.pins[j].rod 0 (m.rods - 1)) = true := by rw [e1]; rfl
      refine qA (qL (v := .bool _) rfl) ?_
      refine qA (qC (v := .bool _) rfl) ?_
      refine qJ rfl e1' ?_
      refine qJ rfl e1' ?_
      refine qJ rfl e1' ?_
      refine qJ rfl e1' ?_
      refine qJ rfl e1' ?_
      refine qJ rfl e1' ?_
      refine qJ rfl e1' ?_
      refine qA (wI rfl e1' (v := .bool _) rfl) ?_
      refine xp_condT rfl (rfl) ?_
      have ew : checkPinM m m.pins[j] = 3 := by rw [checkPinM, if_pos e1']
      refine qD ?_
      refine qB rfl ?_
      refine qA (qE (v := .int .i64 _) rfl) ?_
      refine qV ?_
      refine qN (vs := [_]) Try.results90 ⟨qM rfl rfl, trivial⟩ fun V => ?_
      refine ⟨(zM (zM (zM E_k E_j) E1) (qQ V)), intE ?_⟩
      have ef := zH hkl P2 (by rw [ew]; decide)
      rw [ew] at ef
      rw [C2, pk2, if_neg hq', if_pos (by rw [ef]; decide), ef]
    ·skip
     have hke : j = m.pins.length := by have := geI hk2; omega
     subst hke
     rw [List.take_length] at P2
     have C3 : pk1 m = pk3 m := by rw [C2, pk2, if_neg hq', if_neg (by simp [P2])]
     refine wV ?_
     refine qD ?_
     refine qD ?_
     refine qB rfl ?_
     refine qA (qF rfl rfl rfl rfl 7 rfl) ?_
     refine qH 0 (v := .slice _ _ _) rfl rfl rfl rfl ?_
     refine qA (wP rfl rfl) ?_
     refine qA (qL (v := .bool _) rfl) ?_
     refine qR rfl (fun hl => ?_) (fun hl => ?_)
     ·skip
      refine qD ?_
      refine qB rfl ?_
      refine qA (qE (v := .int .i64 _) rfl) ?_
      refine qV ?_
      refine qN (vs := [_]) Try.results90 ⟨qM rfl rfl, trivial⟩ fun V => ?_
      have hl' : 4 < m.links.length := by simp at hl; omega
      exact ⟨(zM (zM E_k E_j) (qQ V)), intE (by rw [C3, pk3, if_pos hl'])⟩
     ·skip
      have hl' : ¬ 4 < m.links.length := by simp at hl; omega
      have CL : pk1 m = firstErr (checkLinkM m) m.links := by rw [C3, pk3, if_neg hl']
      refine qO ?_
      refine qD ?_
      refine qD ?_
      refine qB rfl ?_
      refine qA (qE (v := .int .i64 _) rfl) ?_
      refine qP ?_
      refine xp_loopB [2, 6, 7, 71, 72, 73, 74, 75, 76, 77, 78, 79, 80, 81, 82, 83, 84, 85, 86, 87, 88, 89, 90, 91, 92, 93, 94, 95, 96, 97, 98, 99, 100, 101, 102, 103, 104, 105, 106, 107, 108, 109, 110, 111, 112, 113, 114, 115, 116] 1 (α := Nat) (fun i => [(6, .int .i64 i)]) (fun i => _) (fun i h_i => i ≤ m.links.length ∧ firstErr (checkLinkM m) (m.links.take i) = 0) (fun i => m.links.length - i) (0) ⟨rfl, trivial⟩ (rfl) (⟨Nat.zero_le _, rfl⟩) ?_
      rintro i T3 h_i E_i J_i
      refine qS [_] rfl ?_
      obtain ⟨L1, L2⟩ := J_i
      refine qD ?_
      refine qD ?_
      refine qB rfl ?_
      refine qA (qC (v := .int .i64 _) rfl) ?_
      refine qA (qF rfl rfl rfl rfl 7 rfl) ?_
      refine qH 0 (v := .slice _ _ _) rfl rfl rfl rfl ?_
      refine qA (wP rfl rfl) ?_
      refine qA (qL (v := .bool _) rfl) ?_
      refine qR rfl (fun hk3 => ?_) (fun hk3 => ?_)
      ·skip
       have hkl : i < m.links.length := ltI hk3
       obtain ⟨g, off, hA, hc⟩ := (R.l.ext (zM (zM E_k E_j) E_i)).at (by omega) hkl
       refine qO ?_
       refine qD ?_
       refine qP ?_
       refine qD ?_
       refine qB rfl ?_
       refine qA (qF rfl rfl rfl rfl 7 rfl) ?_
       refine qH 0 (v := .slice _ _ _) rfl rfl rfl rfl ?_
       refine qA (qC (v := .int .i64 _) rfl) ?_
       refine qA (wO rfl hA rfl rfl rfl (by omega) (by omega)) ?_
       refine op_loadA rfl rfl rfl rfl (hc) ?_
       refine zA (cs := [_, _, _, _]) rfl rfl fun b7 hb7 => ?_
       refine qK [_, _] rfl ?_
       refine qW 1 (v := .agg #[.int .i64 _, .int .i64 _, .int .i64 _, .int .i64 _]) (vs := [_, _, _, _]) (c' := [_, _, _, _]) rfl rfl rfl rfl rfl rfl rfl rfl rfl ?_
       refine qK [_, _] rfl ?_
       refine qD ?_
       refine qD ?_
       refine qB rfl ?_
       refine qA (qF rfl rfl rfl rfl 0 rfl) ?_
       refine qH 1 (v := .int .i64 _) rfl rfl rfl rfl ?_
       refine qA (qF rfl rfl rfl rfl 0 rfl) ?_
       refine qH 0 (v := .int .i64 _) rfl rfl rfl rfl ?_
       refine qA (qT rfl (by omega)) ?_
       refine wK (caps := []) (vs := [.int .i64 _, .int .i64 _, .int .i64 _]) rfl rfl rfl (among_ok _ _ _ h_i) ?_
       rintro _ h1 E1 rfl
       rcases Bool.eq_false_or_eq_true (inM m.links[i].frm 0 (m.rods - 1)) with e1 | e1
       ·skip
        have e1' : (!inM m.links[i].frm 0 (m.rods - 1)) = false := by rw [e1]; rfl
        refine qA (qL (v := .bool _) rfl) ?_
        refine qA (qC (v := .bool _) rfl) ?_
        refine qG rfl e1' ?_
        refine qA (qF rfl rfl rfl rfl 1 rfl) ?_
        refine qG rfl e1' ?_
        refine qH 1 (v := .int .i64 _) rfl rfl rfl rfl ?_
        refine qG rfl e1' ?_
        refine qA (qF rfl rfl rfl rfl 0 rfl) ?_
        refine qG rfl e1' ?_
        refine qH 0 (v := .int .i64 _) rfl rfl rfl rfl ?_
        refine qG rfl e1' ?_
        refine qA (qT rfl (by omega)) ?_
        refine qG rfl e1' ?_
        refine wK (caps := []) (vs := [.int .i64 _, .int .i64 _, .int .i64 _]) rfl rfl rfl (among_ok _ _ _ h1) ?_
        rintro _ h2 E2 rfl
        refine qG rfl e1' ?_
        refine qA (qL (v := .bool _) rfl) ?_
        refine qA (wN rfl e1' (v := .bool _) rfl) ?_
        refine qR rfl (fun hw => ?_) (fun hw => ?_)
        ·skip
         have ew : checkLinkM m m.links[i] = 3 := by rw [checkLinkM, if_neg (by rw [e1']; decide), if_pos hw]
         refine qD ?_
         refine qB rfl ?_
         refine qA (qE (v := .int .i64 _) rfl) ?_
         refine qV ?_
         refine qN (vs := [_]) Try.results90 ⟨qM rfl rfl, trivial⟩ fun V => ?_
         refine ⟨(zM (zM (zM (zM (zM E_k E_j) E_i) E1) E2) (qQ V)), intE ?_⟩
         rw [CL, zH hkl L2 (by rw [ew]; decide), ew]
        ·skip
         refine qO ?_
         refine qD ?_
         refine qD ?_
         refine qB rfl ?_
         refine qA (qF rfl rfl rfl rfl 0 rfl) ?_
         refine qH 1 (v := .int .i64 _) rfl rfl rfl rfl ?_
         refine qA (qF rfl rfl rfl rfl 1 rfl) ?_
         refine qH 1 (v := .int .i64 _) rfl rfl rfl rfl ?_
         refine qA (qL (v := .bool _) rfl) ?_
         refine qR rfl (fun hx => ?_) (fun hx => ?_)
         ·skip
          have hx' : m.links[i].frm = m.links[i].to := by simpa using hx
          have ew : checkLinkM m m.links[i] = 4 := by rw [checkLinkM, if_neg (by rw [e1']; decide), if_neg (by rw [hw]; decide), if_pos hx']
          refine qD ?_
          refine qB rfl ?_
          refine qA (qE (v := .int .i64 _) rfl) ?_
          refine qV ?_
          refine qN (vs := [_]) Try.results90 ⟨qM rfl rfl, trivial⟩ fun V => ?_
          refine ⟨(zM (zM (zM (zM (zM E_k E_j) E_i) E1) E2) (qQ V)), intE ?_⟩
          rw [CL, zH hkl L2 (by rw [ew]; decide), ew]
         ·skip
          have hx' : ¬ m.links[i].frm = m.links[i].to := by simpa using hx
          refine qO ?_
          refine qD ?_
          refine qD ?_
          refine qB rfl ?_
          refine qA (qF rfl rfl rfl rfl 2 rfl) ?_
          refine qH 1 (v := .int .i64 _) rfl rfl rfl rfl ?_
          refine qA (qF rfl rfl rfl rfl 2 rfl) ?_
          refine qH 0 (v := .int .i64 _) rfl rfl rfl rfl ?_
          refine qA (qT rfl (by omega)) ?_
          refine wK (caps := []) (vs := [.int .i64 _, .int .i64 _, .int .i64 _]) rfl rfl rfl (among_ok _ _ _ h2) ?_
          rintro _ h3 E3 rfl
          refine qA (qL (v := .bool _) rfl) ?_
          refine qR rfl (fun hw3 => ?_) (fun hw3 => ?_)
          ·skip
           have ew : checkLinkM m m.links[i] = 3 := by rw [checkLinkM, if_neg (by rw [e1']; decide), if_neg (by rw [hw]; decide), if_neg hx', if_pos hw3]
           refine qD ?_
           refine qB rfl ?_
           refine qA (qE (v := .int .i64 _) rfl) ?_
           refine qV ?_
           refine qN (vs := [_]) Try.results90 ⟨qM rfl rfl, trivial⟩ fun V => ?_
           refine ⟨(zM (zM (zM (zM (zM (zM E_k E_j) E_i) E1) E2) E3) (qQ V)), intE ?_⟩
           rw [CL, zH hkl L2 (by rw [ew]; decide), ew]
          ·skip
           refine qO ?_
           refine qD ?_
           refine qB rfl ?_
           refine qA (qF rfl rfl rfl rfl 3 rfl) ?_
           refine qH 1 (v := .int .i64 _) rfl rfl rfl rfl ?_
           refine qA (qF rfl rfl rfl rfl 3 rfl) ?_
           refine qH 0 (v := .int .i64 _) rfl rfl rfl rfl ?_
           refine wK (caps := []) (vs := [.int .i64 _, .int .i64 _, .int .i64 _]) rfl rfl rfl (among_ok _ _ _ h3) ?_
           rintro _ h4 E4 rfl
           refine qA (qL (v := .bool _) rfl) ?_
           refine qR rfl (fun hw4 => ?_) (fun hw4 => ?_)
           ·skip
            have ew : checkLinkM m m.links[i] = 1 := by rw [checkLinkM, if_neg (by rw [e1']; decide), if_neg (by rw [hw]; decide), if_neg hx', if_neg (by rw [hw3]; decide), if_pos hw4]
            refine qD ?_
            refine qB rfl ?_
            refine qA (qE (v := .int .i64 _) rfl) ?_
            refine qV ?_
            refine qN (vs := [_]) Try.results90 ⟨qM rfl rfl, trivial⟩ fun V => ?_
            refine ⟨(zM (zM (zM (zM (zM (zM (zM E_k E_j) E_i) E1) E2) E3) E4) (qQ V)), intE ?_⟩
            rw [CL, zH hkl L2 (by rw [ew]; decide), ew]
           ·skip
            refine qO ?_
            refine qB rfl ?_
            refine qA (qC (v := .int .i64 _) rfl) ?_
            refine qA (qT rfl (by omega)) ?_
            refine qA (qE (v := .int .i64 _) rfl) ?_
            refine ⟨i + 1, ⟨rfl, trivial⟩, rfl, rfl, (zM (zM (zM (zM E_i E1) E2) E3) E4), fun h3 E3 => ⟨hkl, firstErr_go hkl L2 (by rw [checkLinkM, if_neg (by rw [e1']; decide), if_neg (by rw [hw]; decide), if_neg hx', if_neg (by rw [hw3]; decide), if_neg (by rw [hw4]; decide)])⟩, by first | omega | (dsimp only; omega), ?_⟩
            repeat (first | exact qY _ _ _ | refine wG (by decide) ?_ | refine qX rfl ?_ | refine wH rfl ?_)
       ·skip
        have e1' : (!inM m.links[i].frm 0 (m.rods - 1)) = true := by rw [e1]; rfl
        refine qA (qL (v := .bool _) rfl) ?_
        refine qA (qC (v := .bool _) rfl) ?_
        refine qJ rfl e1' ?_
        refine qJ rfl e1' ?_
        refine qJ rfl e1' ?_
        refine qJ rfl e1' ?_
        refine qJ rfl e1' ?_
        refine qJ rfl e1' ?_
        refine qJ rfl e1' ?_
        refine qA (wI rfl e1' (v := .bool _) rfl) ?_
        refine xp_condT rfl (rfl) ?_
        have ew : checkLinkM m m.links[i] = 3 := by rw [checkLinkM, if_pos e1']
        refine qD ?_
        refine qB rfl ?_
        refine qA (qE (v := .int .i64 _) rfl) ?_
        refine qV ?_
        refine qN (vs := [_]) Try.results90 ⟨qM rfl rfl, trivial⟩ fun V => ?_
        refine ⟨(zM (zM (zM (zM E_k E_j) E_i) E1) (qQ V)), intE ?_⟩
        rw [CL, zH hkl L2 (by rw [ew]; decide), ew]
      ·skip
       have hke : i = m.links.length := by have := geI hk3; omega
       subst hke
       rw [List.take_length] at L2
       refine wV ?_
       refine qD ?_
       refine qB rfl ?_
       refine qA (qE (v := .int .i64 _) rfl) ?_
       refine qV ?_
       refine qN (vs := [_]) Try.results90 ⟨qM rfl rfl, trivial⟩ fun V => ?_
       exact ⟨(zM (zM (zM E_k E_j) E_i) (qQ V)), intE (by rw [CL, L2])⟩
set_option maxHeartbeats 4000000 in
theorem CheckG_ok (m : MachP) (AB AQ AL AW : Option Addr) (cB cQ cL cW : Nat) (h : AH) (R : MachR h AB AQ AL AW m) (h0 : m.weights.length < 2 ^ 40) (h1 : m.buttons.length < 2 ^ 40) (h2 : m.pins.length < 2 ^ 40) (h3 : m.links.length < 2 ^ 40) :
  FnT Try.prog 39 #[machV AB AQ AL AW cB cQ cL cW m] h (fun v _ => v = .int .i64 (chkM m)) := by
 refine wM Try.func39 rfl Try.ntmps39 rfl ?_
 refine qD ?_
 refine qB rfl ?_
 refine zE (v := .agg #[.int .i64 _, .int .i64 _, .int .i64 _, .int .i64 _, .int .i64 _, .slice _ _ _, .slice _ _ _, .slice _ _ _, .slice _ _ _]) (cs := [_, _, _, _, _, _, _, _, _]) rfl rfl fun b1 hb1 => ?_
 refine qK [_] rfl ?_
 refine qA (qE (v := .int .i64 _) rfl) ?_
 refine qD ?_
 refine qD ?_
 refine qB rfl ?_
 refine qA (qF rfl rfl rfl rfl 0 rfl) ?_
 refine qH 0 (v := .int .i64 _) rfl rfl rfl rfl ?_
 refine wK (caps := []) (vs := [.int .i64 _, .int .i64 _, .int .i64 _]) rfl rfl rfl (among_ok _ _ _ h) ?_
 rintro _ h4 E4 rfl
 rcases Bool.eq_false_or_eq_true (inM m.rods 1 6) with e1 | e1
 ·skip
  have e1' : (!inM m.rods 1 6) = false := by rw [e1]; rfl
  refine qA (qL (v := .bool _) rfl) ?_
  refine qA (qC (v := .bool _) rfl) ?_
  refine qG rfl e1' ?_
  refine qA (qF rfl rfl rfl rfl 1 rfl) ?_
  refine qG rfl e1' ?_
  refine qH 0 (v := .int .i64 _) rfl rfl rfl rfl ?_
  refine qG rfl e1' ?_
  refine wK (caps := []) (vs := [.int .i64 _, .int .i64 _, .int .i64 _]) rfl rfl rfl (among_ok _ _ _ h4) ?_
  rintro _ h5 E5 rfl
  rcases Bool.eq_false_or_eq_true (inM m.levers 1 6) with e2 | e2
  ·skip
   have e2' : (!inM m.levers 1 6) = false := by rw [e2]; rfl
   refine qG rfl e1' ?_
   refine qA (qL (v := .bool _) rfl) ?_
   refine qA (wN rfl e1' (v := .bool _) rfl) ?_
   refine qA (qC (v := .bool _) rfl) ?_
   refine qG rfl e2' ?_
   refine qA (qF rfl rfl rfl rfl 2 rfl) ?_
   refine qG rfl e2' ?_
   refine qH 0 (v := .int .i64 _) rfl rfl rfl rfl ?_
   refine qG rfl e2' ?_
   refine wK (caps := []) (vs := [.int .i64 _, .int .i64 _, .int .i64 _]) rfl rfl rfl (among_ok _ _ _ h5) ?_
   rintro _ h6 E6 rfl
   rcases Bool.eq_false_or_eq_true (inM m.regs 0 2) with e3 | e3
   ·skip
    have e3' : (!inM m.regs 0 2) = false := by rw [e3]; rfl
    refine qG rfl e2' ?_
    refine qA (qL (v := .bool _) rfl) ?_
    refine qA (wN rfl e2' (v := .bool _) rfl) ?_
    refine qA (qC (v := .bool _) rfl) ?_
    refine qG rfl e3' ?_
    refine qA (qF rfl rfl rfl rfl 3 rfl) ?_
    refine qG rfl e3' ?_
    refine qH 0 (v := .int .i64 _) rfl rfl rfl rfl ?_
    refine qG rfl e3' ?_
    refine wK (caps := []) (vs := [.int .i64 _, .int .i64 _, .int .i64 _]) rfl rfl rfl (among_ok _ _ _ h6) ?_
    rintro _ h7 E7 rfl
    rcases Bool.eq_false_or_eq_true (inM m.travel 1 12) with e4 | e4
    ·skip
     have e4' : (!inM m.travel 1 12) = false := by rw [e4]; rfl
     refine qG rfl e3' ?_
     refine qA (qL (v := .bool _) rfl) ?_
     refine qA (wN rfl e3' (v := .bool _) rfl) ?_
     refine qA (qC (v := .bool _) rfl) ?_
     refine qG rfl e4' ?_
     refine qA (qF rfl rfl rfl rfl 4 rfl) ?_
     refine qG rfl e4' ?_
     refine qH 0 (v := .int .i64 _) rfl rfl rfl rfl ?_
     refine qG rfl e4' ?_
     refine qA (qF rfl rfl rfl rfl 3 rfl) ?_
     refine qG rfl e4' ?_
     refine qH 0 (v := .int .i64 _) rfl rfl rfl rfl ?_
     refine qG rfl e4' ?_
     refine wK (caps := []) (vs := [.int .i64 _, .int .i64 _, .int .i64 _]) rfl rfl rfl (among_ok _ _ _ h7) ?_
     rintro _ h8 E8 rfl
     refine qG rfl e4' ?_
     refine qA (qL (v := .bool _) rfl) ?_
     refine qA (wN rfl e4' (v := .bool _) rfl) ?_
     refine qR rfl (fun hh => ?_) (fun hh => ?_)
     ·skip
      refine qD ?_
      refine qB rfl ?_
      refine qA (qE (v := .int .i64 _) rfl) ?_
      refine qV ?_
      refine qN (vs := [_]) Try.results39 ⟨qM rfl rfl, trivial⟩ fun V => ?_
      exact ⟨(zM (zM (zM (zM (zM E4 E5) E6) E7) E8) (qQ V)), intE (by unfold chkM; rw [if_neg (by rw [e1']; decide), if_neg (by rw [e2']; decide), if_neg (by rw [e3']; decide), if_neg (by rw [e4']; decide), if_pos hh])⟩
     ·skip
      have e5 : inM m.opn 1 m.travel = true := by simpa using hh
      have C1 := chk_head e1 e2 e3 e4 e5
      have b1 := inM_iff.1 e1
      have b2 := inM_iff.1 e2
      have b3 := inM_iff.1 e3
      have b4 := inM_iff.1 e4
      refine qO ?_
      refine qD ?_
      refine qD ?_
      refine qB rfl ?_
      refine wE 0 (vs := [.int .i64 _, .int .i64 _, .int .i64 _, .int .i64 _, .int .i64 _, .slice _ _ _, .slice _ _ _, .slice _ _ _, .slice _ _ _]) rfl rfl rfl rfl rfl ?_
      refine wK (caps := []) (vs := [.agg #[.int .i64 _, .int .i64 _, .int .i64 _, .int .i64 _, .int .i64 _, .slice _ _ _, .slice _ _ _, .slice _ _ _, .slice _ _ _]]) rfl rfl rfl (checkPartsG_ok m b1 b2 b3 b4 AB AQ AL AW cB cQ cL cW h8 (R.ext (zM (zM (zM (zM E4 E5) E6) E7) E8)) h1 h2 h3) ?_
      rintro _ h9 E9 rfl
      refine qA (qE (v := .int .i64 _) rfl) ?_
      refine qD ?_
      refine qB rfl ?_
      refine qA (qC (v := .int .i64 _) rfl) ?_
      refine qA (qL (v := .bool _) rfl) ?_
      refine qR rfl (fun hp => ?_) (fun hp => ?_)
      ·skip
       have hp' : pk1 m ≠ 0 := by simpa using hp
       refine qD ?_
       refine qB rfl ?_
       refine qA (qC (v := .int .i64 _) rfl) ?_
       refine qA (qE (v := .int .i64 _) rfl) ?_
       refine qV ?_
       refine qN (vs := [_]) Try.results39 ⟨qM rfl rfl, trivial⟩ fun V => ?_
       exact ⟨(zM (zM (zM (zM (zM (zM E4 E5) E6) E7) E8) E9) (qQ V)), intE (by rw [C1, pk_chk, if_pos hp'])⟩
      ·skip
       have hp' : ¬ pk1 m ≠ 0 := by simpa using hp
       have C4 : chkM m = chk4 m := by rw [C1, pk_chk, if_neg hp']
       refine qO ?_
       refine qD ?_
       refine qD ?_
       refine qB rfl ?_
       refine qA (qF rfl rfl rfl rfl 8 rfl) ?_
       refine qH 0 (v := .slice _ _ _) rfl rfl rfl rfl ?_
       refine qA (wP rfl rfl) ?_
       refine qA (qF rfl rfl rfl rfl 1 rfl) ?_
       refine qH 0 (v := .int .i64 _) rfl rfl rfl rfl ?_
       refine qA (qL (v := .bool _) rfl) ?_
       refine qR rfl (fun hw => ?_) (fun hw => ?_)
       ·skip
        refine qD ?_
        refine qB rfl ?_
        refine qA (qE (v := .int .i64 _) rfl) ?_
        refine qV ?_
        refine qN (vs := [_]) Try.results39 ⟨qM rfl rfl, trivial⟩ fun V => ?_
        have hw' : ¬ (m.weights.length : Int) = m.levers := by simpa using hw
        exact ⟨(zM (zM (zM (zM (zM (zM E4 E5) E6) E7) E8) E9) (qQ V)), intE (by rw [C4, chk4, if_pos hw'])⟩
       ·skip
        have hw' : (m.weights.length : Int) = m.levers := by simpa using hw
        refine qO ?_
        refine qD ?_
        refine qD ?_
        refine qB rfl ?_
        refine qA (qE (v := .int .i64 _) rfl) ?_
        refine qP ?_
        refine xp_loopB [2, 4, 46, 47, 48, 49, 50, 51, 52, 53, 54, 55, 56, 57, 58, 59] 1 (α := Nat) (fun o => [(4, .int .i64 o)]) (fun o => _) (fun o h_o => o ≤ m.weights.length ∧ firstErr checkWeightM (m.weights.take o) = 0) (fun o => m.weights.length - o) (0) ⟨rfl, trivial⟩ (rfl) (⟨Nat.zero_le _, rfl⟩) ?_
        rintro o T1 h_o E_o J_o
        refine qS [_] rfl ?_
        obtain ⟨W1, W2⟩ := J_o
        refine qD ?_
        refine qD ?_
        refine qB rfl ?_
        refine qA (qC (v := .int .i64 _) rfl) ?_
        refine qA (qF rfl rfl rfl rfl 8 rfl) ?_
        refine qH 0 (v := .slice _ _ _) rfl rfl rfl rfl ?_
        refine qA (wP rfl rfl) ?_
        refine qA (qL (v := .bool _) rfl) ?_
        refine qR rfl (fun hk4 => ?_) (fun hk4 => ?_)
        ·skip
         have hkl : o < m.weights.length := ltI hk4
         obtain ⟨g, off, hA, hc⟩ := (R.w.ext (zM (zM (zM (zM (zM (zM E4 E5) E6) E7) E8) E9) E_o)).at (by omega) hkl
         refine qO ?_
         refine qD ?_
         refine qP ?_
         refine qD ?_
         refine qB rfl ?_
         refine qA (qF rfl rfl rfl rfl 8 rfl) ?_
         refine qH 0 (v := .slice _ _ _) rfl rfl rfl rfl ?_
         refine qA (qC (v := .int .i64 _) rfl) ?_
         refine qA (wO rfl hA rfl rfl rfl (by omega) (by omega)) ?_
         refine wT (v := .int .i64 _) rfl rfl ((hc) 0 _ rfl) ?_
         refine wK (caps := []) (vs := [.int .i64 _, .int .i64 _, .int .i64 _]) rfl rfl rfl (among_ok _ _ _ h_o) ?_
         rintro _ h10 E10 rfl
         refine qA (qL (v := .bool _) rfl) ?_
         refine qR rfl (fun hz => ?_) (fun hz => ?_)
         ·skip
          have ew : checkWeightM m.weights[o] = 1 := by rw [checkWeightM, if_pos hz]
          refine qD ?_
          refine qB rfl ?_
          refine qA (qE (v := .int .i64 _) rfl) ?_
          refine qV ?_
          refine qN (vs := [_]) Try.results39 ⟨qM rfl rfl, trivial⟩ fun V => ?_
          refine ⟨(zM (zM (zM (zM (zM (zM (zM (zM E4 E5) E6) E7) E8) E9) E_o) E10) (qQ V)), intE ?_⟩
          have ef := zH hkl W2 (by rw [ew]; decide)
          rw [ew] at ef
          rw [C4, chk4, if_neg (by simpa using hw'), ef]
         ·skip
          refine qO ?_
          refine qB rfl ?_
          refine qA (qC (v := .int .i64 _) rfl) ?_
          refine qA (qT rfl (by omega)) ?_
          refine qA (qE (v := .int .i64 _) rfl) ?_
          refine ⟨o + 1, ⟨rfl, trivial⟩, rfl, rfl, (zM E_o E10), fun h3 E3 => ⟨hkl, firstErr_go hkl W2 (by rw [checkWeightM, if_neg (by simpa using hz)])⟩, by first | omega | (dsimp only; omega), ?_⟩
          repeat (first | exact qY _ _ _ | refine wG (by decide) ?_ | refine qX rfl ?_ | refine wH rfl ?_)
        ·skip
         have hke : o = m.weights.length := by have := geI hk4; omega
         subst hke
         rw [List.take_length] at W2
         refine wV ?_
         refine qD ?_
         refine qB rfl ?_
         refine qA (qE (v := .int .i64 _) rfl) ?_
         refine qV ?_
         refine qN (vs := [_]) Try.results39 ⟨qM rfl rfl, trivial⟩ fun V => ?_
         exact ⟨(zM (zM (zM (zM (zM (zM (zM E4 E5) E6) E7) E8) E9) E_o) (qQ V)), intE (by rw [C4, chk4, if_neg (by simpa using hw'), W2])⟩
    ·skip
     have e4' : (!inM m.travel 1 12) = true := by rw [e4]; rfl
     refine qG rfl e3' ?_
     refine qA (qL (v := .bool _) rfl) ?_
     refine qA (wN rfl e3' (v := .bool _) rfl) ?_
     refine qA (qC (v := .bool _) rfl) ?_
     refine qJ rfl e4' ?_
     refine qJ rfl e4' ?_
     refine qJ rfl e4' ?_
     refine qJ rfl e4' ?_
     refine qJ rfl e4' ?_
     refine qJ rfl e4' ?_
     refine qA (wI rfl e4' (v := .bool _) rfl) ?_
     refine xp_condT rfl (rfl) ?_
     refine qD ?_
     refine qB rfl ?_
     refine qA (qE (v := .int .i64 _) rfl) ?_
     refine qV ?_
     refine qN (vs := [_]) Try.results39 ⟨qM rfl rfl, trivial⟩ fun V => ?_
     exact ⟨(zM (zM (zM (zM E4 E5) E6) E7) (qQ V)), intE (by unfold chkM; rw [if_neg (by rw [e1']; decide), if_neg (by rw [e2']; decide), if_neg (by rw [e3']; decide), if_pos e4'])⟩
   ·skip
    have e3' : (!inM m.regs 0 2) = true := by rw [e3]; rfl
    refine qG rfl e2' ?_
    refine qA (qL (v := .bool _) rfl) ?_
    refine qA (wN rfl e2' (v := .bool _) rfl) ?_
    refine qA (qC (v := .bool _) rfl) ?_
    refine qJ rfl e3' ?_
    refine qJ rfl e3' ?_
    refine qJ rfl e3' ?_
    refine qJ rfl e3' ?_
    refine qA (wI rfl e3' (v := .bool _) rfl) ?_
    refine qA (qC (v := .bool _) rfl) ?_
    refine qJ rfl rfl ?_
    refine qJ rfl rfl ?_
    refine qJ rfl rfl ?_
    refine qJ rfl rfl ?_
    refine qJ rfl rfl ?_
    refine qJ rfl rfl ?_
    refine qA (wI rfl rfl (v := .bool _) rfl) ?_
    refine xp_condT rfl (rfl) ?_
    refine qD ?_
    refine qB rfl ?_
    refine qA (qE (v := .int .i64 _) rfl) ?_
    refine qV ?_
    refine qN (vs := [_]) Try.results39 ⟨qM rfl rfl, trivial⟩ fun V => ?_
    exact ⟨(zM (zM (zM E4 E5) E6) (qQ V)), intE (by unfold chkM; rw [if_neg (by rw [e1']; decide), if_neg (by rw [e2']; decide), if_pos e3'])⟩
  ·skip
   have e2' : (!inM m.levers 1 6) = true := by rw [e2]; rfl
   refine qG rfl e1' ?_
   refine qA (qL (v := .bool _) rfl) ?_
   refine qA (wN rfl e1' (v := .bool _) rfl) ?_
   refine qA (qC (v := .bool _) rfl) ?_
   refine qJ rfl e2' ?_
   refine qJ rfl e2' ?_
   refine qJ rfl e2' ?_
   refine qJ rfl e2' ?_
   refine qA (wI rfl e2' (v := .bool _) rfl) ?_
   refine qA (qC (v := .bool _) rfl) ?_
   refine qJ rfl rfl ?_
   refine qJ rfl rfl ?_
   refine qJ rfl rfl ?_
   refine qJ rfl rfl ?_
   refine qA (wI rfl rfl (v := .bool _) rfl) ?_
   refine qA (qC (v := .bool _) rfl) ?_
   refine qJ rfl rfl ?_
   refine qJ rfl rfl ?_
   refine qJ rfl rfl ?_
   refine qJ rfl rfl ?_
   refine qJ rfl rfl ?_
   refine qJ rfl rfl ?_
   refine qA (wI rfl rfl (v := .bool _) rfl) ?_
   refine xp_condT rfl (rfl) ?_
   refine qD ?_
   refine qB rfl ?_
   refine qA (qE (v := .int .i64 _) rfl) ?_
   refine qV ?_
   refine qN (vs := [_]) Try.results39 ⟨qM rfl rfl, trivial⟩ fun V => ?_
   exact ⟨(zM (zM E4 E5) (qQ V)), intE (by unfold chkM; rw [if_neg (by rw [e1']; decide), if_pos e2'])⟩
 ·skip
  have e1' : (!inM m.rods 1 6) = true := by rw [e1]; rfl
  refine qA (qL (v := .bool _) rfl) ?_
  refine qA (qC (v := .bool _) rfl) ?_
  refine qJ rfl e1' ?_
  refine qJ rfl e1' ?_
  refine qJ rfl e1' ?_
  refine qJ rfl e1' ?_
  refine qA (wI rfl e1' (v := .bool _) rfl) ?_
  refine qA (qC (v := .bool _) rfl) ?_
  refine qJ rfl rfl ?_
  refine qJ rfl rfl ?_
  refine qJ rfl rfl ?_
  refine qJ rfl rfl ?_
  refine qA (wI rfl rfl (v := .bool _) rfl) ?_
  refine qA (qC (v := .bool _) rfl) ?_
  refine qJ rfl rfl ?_
  refine qJ rfl rfl ?_
  refine qJ rfl rfl ?_
  refine qJ rfl rfl ?_
  refine qA (wI rfl rfl (v := .bool _) rfl) ?_
  refine qA (qC (v := .bool _) rfl) ?_
  refine qJ rfl rfl ?_
  refine qJ rfl rfl ?_
  refine qJ rfl rfl ?_
  refine qJ rfl rfl ?_
  refine qJ rfl rfl ?_
  refine qJ rfl rfl ?_
  refine qA (wI rfl rfl (v := .bool _) rfl) ?_
  refine xp_condT rfl (rfl) ?_
  refine qD ?_
  refine qB rfl ?_
  refine qA (qE (v := .int .i64 _) rfl) ?_
  refine qV ?_
  refine qN (vs := [_]) Try.results39 ⟨qM rfl rfl, trivial⟩ fun V => ?_
  exact ⟨(zM E4 (qQ V)), intE (by unfold chkM; rw [if_pos e1'])⟩
end
end Go.Proofs.Ythphpbdmbmiaiaa
namespace Go.Proofs.Ythphpbdmbmiaiaa
open Go Go.HL Go.Proofs Go.Wx Go.Rd
section
variable [Lvl]
set_option maxRecDepth 100000
theorem row_acc {α : Type} {e : TypeId} {m : Nat} {enc : α → List Value} {l : List α} {a : Acc} {L : Pv} {h : AH} {i : Nat} (r : AccR e m (l.flatMap enc) a) (hm : 0 < m) (hl : ∀ x ∈ l, (enc x).length = m) (V : Valid h L) (hi : L[i]? = some a.p) : Row (wl h L) m enc a.A l := by
 obtain ⟨A', c', e, r⟩ := AccP.row r hm hl V hi
 injection e with e1 e2 e3
 rw [e1]
 exact r
end
end Go.Proofs.Ythphpbdmbmiaiaa
namespace Go.Rd
open Go Go.HL Go.Wx
variable [Lvl]
structure Mut (m m' : MachP) : Prop where
 lv : m'.levers = m.levers
 op : m'.opn = m.opn
 tv : m'.travel = m.travel
 bt : m'.buttons = m.buttons
 p1 : ∀ p ∈ m'.pins, p ∈ m.pins
 p2 : ∀ p ∈ m.pins, p.lag = m.travel ∨ p ∈ m'.pins
 l1 : ∀ l ∈ m'.links, l ∈ m.links
 l2 : ∀ l ∈ m.links, l.lag = m.travel ∨ l ∈ m'.links
end Go.Rd
namespace Go.Proofs.Ythphpbdmbmiaiaa
open Go Go.HL Go.Proofs Go.Wx Go.Rd
section
variable [Lvl]
set_option maxRecDepth 100000
end
end Go.Proofs.Ythphpbdmbmiaiaa
namespace Go.Proofs.Ythphpbdmbmiaiaa
open Go Go.HL Go.Proofs Go.Wx Go.Rd
section
variable [Lvl]
set_option maxRecDepth 100000
end
end Go.Proofs.Ythphpbdmbmiaiaa
namespace Go.Proofs.Ythphpbdmbmiaiaa
open Go Go.HL Go.Proofs Go.Wx Go.Rd
section
variable [Lvl]
set_option maxRecDepth 100000
theorem Ints_ok (l : List Int) (A : Option Addr) (c : Nat) (h : AH) (R : Row h 1 intC A l) (hl : l.length < 2 ^ 20) :
  FnT Try.prog 56 #[.slice A l.length c] h (fun v h' => SlR h' 1 intC l v) := by
 refine wM Try.func56 rfl Try.ntmps56 rfl ?_
 refine qD ?_
 refine qB rfl ?_
 refine qA (qE (v := .slice _ _ _) rfl) ?_
 refine qD ?_
 refine qB rfl ?_
 refine wD (zc := [_]) (vs := []) (cs := []) rfl rfl rfl rfl rfl rfl rfl fun b3 hb3 => ?_
 refine qK [_] rfl ?_
 refine qA (qC (v := .slice _ _ _) rfl) ?_
 refine wZ 0 accR_new rfl rfl rfl (fun V => R.2.ext (zM (Ext.refl _) (qQ V))) (wU R.1) (flat_plain intP2 l) rfl rfl rfl rfl rfl rfl rfl (by omega) rfl (by rw [wU R.1, List.length_nil]; omega) fun a0 h1a E1a ha0 => ?_
 refine qK [_] rfl ?_
 refine qA (qE (v := .slice _ _ _) rfl) ?_
 refine qV ?_
 refine qN (vs := [_]) Try.results56 ⟨qM rfl rfl, trivial⟩ fun V => ?_
 exact ⟨(zM E1a (qQ V)), AccP.row (i := 0) ha0 (by omega) (fun _ _ => rfl) V rfl⟩
end
end Go.Proofs.Ythphpbdmbmiaiaa
namespace Go.Rd
open Go Go.HL Go.Wx
variable [Lvl]
end Go.Rd
namespace Go.Proofs.Ythphpbdmbmiaiaa
open Go Go.HL Go.Proofs Go.Wx Go.Rd
section
variable [Lvl]
set_option maxRecDepth 100000
structure Sml (m : MachP) : Prop where
 b : m.buttons.length < 2 ^ 20
 q : m.pins.length < 2 ^ 20
 l : m.links.length < 2 ^ 20
 w : m.weights.length < 2 ^ 20
structure SmlH (a : HandP) : Prop where
 b : a.buttons.length < 2 ^ 20
 o : a.on.length < 2 ^ 20
theorem CheckS_ok (m : MachP) (S : Sml m) (AB AQ AL AW : Option Addr) (cB cQ cL cW : Nat) (h : AH) (R : MachR h AB AQ AL AW m) :
  FnT Try.prog 39 #[machV AB AQ AL AW cB cQ cL cW m] h (fun v _ => v = .int .i64 (chkM m)) :=
 CheckG_ok m AB AQ AL AW cB cQ cL cW h R (Nat.lt_trans S.w (by decide)) (Nat.lt_trans S.b (by decide)) (Nat.lt_trans S.q (by decide)) (Nat.lt_trans S.l (by decide))
end
end Go.Proofs.Ythphpbdmbmiaiaa
namespace Go.Proofs.Ythphpbdmbmiaiaa
open Go Go.HL Go.Proofs Go.Wx Go.Rd
section
variable [Lvl]
set_option maxRecDepth 100000
set_option maxHeartbeats 1000000 in
theorem PlayR_ok (m : MachP) (S : Sml m) (l : List EvP) (AB AQ AL AW EA : Option Addr) (cB cQ cL cW cE : Nat) (h : AH) (RM : MachR h AB AQ AL AW m) (RE : Row h 2 evC EA l) (hl : l.length < 2 ^ 40) :
  FnT Try.prog 73 #[machV AB AQ AL AW cB cQ cL cW m, .slice EA l.length cE] h (fun v h' => ∃ V, v = .tuple #[V, .int .i64 (playM m l).1] ∧ SlX h' 1 TL (playM m l).2 V) := by
 refine wM Try.func73 rfl Try.ntmps73 rfl ?_
 refine qD ?_
 refine qB rfl ?_
 refine zE (v := .agg #[.int .i64 _, .int .i64 _, .int .i64 _, .int .i64 _, .int .i64 _, .slice _ _ _, .slice _ _ _, .slice _ _ _, .slice _ _ _]) (cs := [_, _, _, _, _, _, _, _, _]) rfl rfl fun b2 hb2 => ?_
 refine qK [_] rfl ?_
 refine qA (qE (v := .slice _ _ _) rfl) ?_
 refine qA (qE (v := .int .i64 _) rfl) ?_
 refine qD ?_
 refine qD ?_
 refine qB rfl ?_
 refine wE 0 (vs := [.int .i64 _, .int .i64 _, .int .i64 _, .int .i64 _, .int .i64 _, .slice _ _ _, .slice _ _ _, .slice _ _ _, .slice _ _ _]) rfl rfl rfl rfl rfl ?_
 refine wK (caps := []) (vs := [.agg #[.int .i64 _, .int .i64 _, .int .i64 _, .int .i64 _, .int .i64 _, .slice _ _ _, .slice _ _ _, .slice _ _ _, .slice _ _ _]]) rfl rfl rfl (CheckS_ok m S AB AQ AL AW cB cQ cL cW h (RM.ext (Ext.refl _))) ?_
 rintro _ h1 E1 rfl
 refine qA (qE (v := .int .i64 _) rfl) ?_
 refine qD ?_
 refine qB rfl ?_
 refine qA (qC (v := .int .i64 _) rfl) ?_
 refine qA (qL (v := .bool _) rfl) ?_
 refine qR rfl (fun hc => ?_) (fun hc => ?_)
 ·skip
  have hc' : chkM m ≠ 0 := by simpa using hc
  refine qD ?_
  refine qB rfl ?_
  refine qA (qC (v := .int .i64 _) rfl) ?_
  refine qA (qE (v := .slice _ _ _) rfl) ?_
  refine qA (qE (v := .int .i64 _) rfl) ?_
  refine qV ?_
  refine qN (vs := [_, _]) Try.results73 ⟨qM rfl rfl, qM rfl rfl, trivial⟩ fun V => ?_
  exact ⟨(zM E1 (qQ V)), _, by rw [playM, if_pos hc']; rfl, by rw [playM, if_pos hc']; exact SlX.nil _ _ _ _ _⟩
 ·skip
  have hc' : ¬ chkM m ≠ 0 := by simpa using hc
  refine qO ?_
  refine qD ?_
  refine qD ?_
  refine qB rfl ?_
  refine qA (qC (v := .slice _ _ _) rfl) ?_
  refine qA (wP rfl rfl) ?_
  refine qA (qL (v := .bool _) rfl) ?_
  refine qR rfl (fun hm => ?_) (fun hm => ?_)
  ·skip
   have hm' : (l.length : Int) > 12 := of_decide_eq_true hm
   refine qD ?_
   refine qB rfl ?_
   refine qA (qE (v := .slice _ _ _) rfl) ?_
   refine qA (qE (v := .int .i64 _) rfl) ?_
   refine qV ?_
   refine qN (vs := [_, _]) Try.results73 ⟨qM rfl rfl, qM rfl rfl, trivial⟩ fun V => ?_
   exact ⟨(zM E1 (qQ V)), _, by rw [playM, if_neg hc', if_pos hm']; rfl, by rw [playM, if_neg hc', if_pos hm']; exact SlX.nil _ _ _ _ _⟩
  ·skip
   have hm' : ¬ (l.length : Int) > 12 := of_decide_eq_false hm
   have M := check_ok (by simpa using hc' : chkM m = 0)
   have tr := M.travel
   have hbl := M.bl
   have hrg := M.regs
   refine goes_more ?_
   refine qS [_, _] rfl ?_
   refine qO ?_
   refine qD ?_
   refine qB rfl ?_
   refine qA (qE (v := .slice _ _ _) rfl) ?_
   refine qD ?_
   refine qB rfl ?_
   refine zA (cs := [_, _]) rfl rfl fun b8 hb8 => ?_
   refine qK [_, _, _] rfl ?_
   refine qD ?_
   refine qD ?_
   refine qB rfl ?_
   refine qA (qE (v := .int .i64 _) rfl) ?_
   refine qP ?_
   refine xp_loopL [4, 5, 7, 9, 10, 11, 20, 21, 22, 23, 24, 25, 26, 27, 28, 29, 30, 31, 32, 33, 34, 35, 36, 37, 38, 39, 40, 41, 42, 43, 44, 45] 3 (α := Nat × Acc × List (List Value) × HandP × Option Addr × Nat × Option Addr × Nat) (fun ⟨k, a, gs, hd, HA, cH, OA, cO⟩ => [(9, .int .i64 k), (7, .slice a.A a.n a.c)]) (fun ⟨k, a, gs, hd, HA, cH, OA, cO⟩ L => (L.set 1 (a.p)).set 2 (some (b8, .cells #[.slice HA hd.buttons.length cH, .slice OA hd.on.length cO] 31 (0, 0)))) (fun ⟨k, a, gs, hd, HA, cH, OA, cO⟩ h_k => k ≤ l.length ∧ (goM m (l.take k)).e = 0 ∧ (goM m (l.take k)).a = hd ∧ HOK m hd ∧ HandR h_k HA OA hd ∧ AccR 22 1 (gs.flatMap id) a ∧ Els h_k TL (goM m (l.take k)).out gs ∧ ∀ x ∈ gs, x.length = 1) (fun ⟨k, a, gs, hd, HA, cH, OA, cO⟩ => l.length - k) ((0, acc0, [], ⟨[], []⟩, none, 0, none, 0)) ⟨rfl, rfl, trivial⟩ (rfl) (⟨Nat.zero_le _, rfl, rfl, hok0 m, ⟨⟨fun _ _ => rfl, Rd.nil _ _⟩, ⟨fun _ _ => rfl, Rd.nil _ _⟩⟩, accR0, Els.nil _ _, fun _ hx => absurd hx List.not_mem_nil⟩) ?_
   rintro ⟨k, a, gs, hd, HA, cH, OA, cO⟩ T1 h_k E_k J_k
   refine qS [_, _, _] rfl ?_
   obtain ⟨K1, K2, K3, K4, K5, K6, K7, K8⟩ := J_k
   refine qD ?_
   refine qD ?_
   refine qB rfl ?_
   refine qA (qC (v := .int .i64 _) rfl) ?_
   refine qA (qC (v := .slice _ _ _) rfl) ?_
   refine qA (wP rfl rfl) ?_
   refine qA (qL (v := .bool _) rfl) ?_
   refine qR rfl (fun hk => ?_) (fun hk => ?_)
   ·skip
    have hkl : k < l.length := ltI hk
    obtain ⟨g, off, hA, hcE⟩ := (RE.ext (zM E1 E_k)).at (by omega) hkl
    have hb1 := set_len K4.b
    have ho1 : hd.on.length ≤ m.regs.toNat := set_len (below := m.regs.toNat) (by have := K4.o; rwa [← Int.toNat_of_nonneg hrg.1] at this)
    have hgl : (gs.flatMap id).length = gs.length := by rw [wU (enc := id) (m := 1) K8, Nat.mul_one]
    have hgk : gs.length ≤ k := by rw [K7.1]; have := goM_len m (l.take k); rw [List.length_take] at this; omega
    refine qO ?_
    refine qD ?_
    refine qP ?_
    refine qD ?_
    refine xp_dw [] rfl rfl rfl ?_
    refine qZ (i := 0) rfl (by decide +kernel) ?_
    refine wE 0 (vs := [.int .i64 _, .int .i64 _, .int .i64 _, .int .i64 _, .int .i64 _, .slice _ _ _, .slice _ _ _, .slice _ _ _, .slice _ _ _]) rfl rfl rfl rfl rfl ?_
    refine qZ (i := 1) rfl (by decide +kernel) ?_
    refine wE 2 (vs := [.slice _ _ _, .slice _ _ _]) rfl rfl rfl rfl rfl ?_
    refine qI (i := 2) rfl (by decide +kernel) (qC (v := .slice _ _ _) rfl) ?_
    refine qI (i := 3) rfl (by decide +kernel) (qC (v := .int .i64 _) rfl) ?_
    refine qI (i := 4) rfl (by decide +kernel) (wO rfl hA rfl rfl rfl (by omega) (by omega)) ?_
    refine qZ (i := 5) rfl (by decide +kernel) ?_
    refine op_loadA rfl rfl rfl rfl (hcE) ?_
    refine zF (i := 6) rfl (by decide +kernel) (by decide +kernel) ?_
    refine wK (caps := []) (vs := [machV AB AQ AL AW cB cQ cL cW m, handV HA OA cH cO hd, .agg #[.int .i64 _, .int .i64 _]]) rfl rfl rfl (stepR_ok m hd l[k] AB AQ AL AW HA OA cB cQ cL cW cH cO h_k (RM.ext (zM E1 E_k)) (K5.ext (Ext.refl _)) (by omega) (by omega) (by omega) (by omega)) ?_
    rintro _ h9 E9 ⟨H9, O9, c9, d9, hd2, rfl, S0, RH9⟩
    refine qI (i := 7) rfl (by decide +kernel) (qC (v := .tuple #[.agg #[.slice _ _ _, .slice _ _ _], .int .i64 _]) rfl) ?_
    refine qI (i := 8) rfl (by decide +kernel) (qL (v := .agg #[.slice _ _ _, .slice _ _ _]) rfl) ?_
    refine qI (i := 9) rfl (by decide +kernel) (qL (v := .int .i64 _) rfl) ?_
    refine dw_eff (i := 10) rfl (by decide +kernel) ?_
    refine zA (cs := [_, _]) rfl rfl fun b10 hb10 => ?_
    refine ⟨ext_new hb10 _, ?_⟩
    refine wS [_, _, _, _] rfl ?_
    refine zF (i := 11) rfl (by decide +kernel) (by decide +kernel) ?_
    refine qW 3 (v := .agg #[.slice _ _ _, .slice _ _ _]) (vs := [_, _]) (c' := [_, _]) rfl rfl rfl rfl rfl rfl rfl rfl rfl ?_
    refine wS [_, _, _, _] rfl ?_
    refine qI (i := 12) rfl (by decide +kernel) (qE (v := .int .i64 _) rfl) ?_
    refine zI rfl ?_
    refine qD ?_
    refine qD ?_
    refine qB rfl ?_
    refine qA (qC (v := .int .i64 _) rfl) ?_
    refine qA (qL (v := .bool _) rfl) ?_
    refine qR rfl (fun he => ?_) (fun he => ?_)
    ·skip
     have hne : stepE m hd l[k] ≠ 0 := by simpa using he
     have hbad := goM_bad m hkl K2 (by rw [K3]; exact hne)
     rw [K3] at hbad
     refine qD ?_
     refine qB rfl ?_
     refine qA (qC (v := .int .i64 _) rfl) ?_
     refine qA (qE (v := .slice _ _ _) rfl) ?_
     refine qA (qE (v := .int .i64 _) rfl) ?_
     refine qV ?_
     refine qN (vs := [_, _]) Try.results73 ⟨qM rfl rfl, qM rfl rfl, trivial⟩ fun V => ?_
     exact ⟨(zM (zM (zM E1 E_k) E9) (qQ V)), _, by rw [playM, if_neg hc', if_neg hm', hbad]; rfl, by rw [playM, if_neg hc', if_neg hm', hbad]; exact SlX.nil _ _ _ _ _⟩
    ·skip
     have he' : stepE m hd l[k] = 0 := by simpa using he
     have S1 := S0 he'
     subst S1
     have H9' := stepH_ok K4 he'
     have hgo := goM_good m hkl K2 (by rw [K3]; exact he')
     rw [K3] at hgo
     refine qO ?_
     refine qD ?_
     refine qB rfl ?_
     refine wE 3 (vs := [.slice _ _ _, .slice _ _ _]) rfl rfl rfl rfl rfl ?_
     refine qW 2 (v := .agg #[.slice _ _ _, .slice _ _ _]) (vs := [_, _]) (c' := [_, _]) rfl rfl rfl rfl rfl rfl rfl rfl rfl ?_
     refine qK [_, _, _, _] rfl ?_
     refine qB rfl ?_
     refine qA (qC (v := .slice _ _ _) rfl) ?_
     refine wE 0 (vs := [.int .i64 _, .int .i64 _, .int .i64 _, .int .i64 _, .int .i64 _, .slice _ _ _, .slice _ _ _, .slice _ _ _, .slice _ _ _]) rfl rfl rfl rfl rfl ?_
     refine wE 2 (vs := [.slice _ _ _, .slice _ _ _]) rfl rfl rfl rfl rfl ?_
     refine wK (caps := []) (vs := [.agg #[.int .i64 _, .int .i64 _, .int .i64 _, .int .i64 _, .int .i64 _, .slice _ _ _, .slice _ _ _, .slice _ _ _, .slice _ _ _], .agg #[.slice _ _ _, .slice _ _ _]]) rfl rfl rfl (soundsR_ok m M (stepH hd l[k]) (fit_of M H9') AB AQ AL AW H9 O9 cB cQ cL cW c9 d9 h9 (RM.ext (zM (zM E1 E_k) E9)) (RH9.ext (Ext.refl _))) ?_
     rintro _ h5 E5 ⟨Al, cl, rfl, Rl⟩
     refine wD (zc := [_]) (vs := [(0, .slice _ _ _)]) (cs := [_]) rfl rfl rfl rfl rfl rfl rfl fun b44 hb44 => ?_
     refine qK [_, _, _, _, _] rfl ?_
     refine wZ 1 K6 rfl rfl rfl (fun V => rdP V (i := 4) rfl) rfl rfl rfl rfl rfl rfl rfl rfl rfl (by omega) rfl (by rw [hgl]; simp only [List.length_cons, List.length_nil]; omega) fun a2 h2a E2a ha2 => ?_
     refine qK [_, _, _, _, _] rfl ?_
     refine qA (qE (v := .slice _ _ _) rfl) ?_
     refine qB rfl ?_
     refine qA (qC (v := .int .i64 _) rfl) ?_
     refine qA (qT rfl (by omega)) ?_
     refine qA (qE (v := .int .i64 _) rfl) ?_
     refine ⟨(k + 1, a2, gs ++ [[.slice Al (listN (soundsM m (stepH hd l[k]) m.travel) 6).length cl]], stepH hd l[k], H9, c9, O9, d9), ⟨rfl, rfl, trivial⟩, rfl, rfl, (zM (zM (zM E_k E9) E5) E2a), fun h3 E3 => ⟨hkl, by rw [hgo], by rw [hgo], H9', RH9.ext (zM (zM E5 E2a) E3), by rw [List.flatMap_append]; exact ha2, by rw [hgo]; exact (Els.snoc (K7.ext TL.mono (zM (zM E9 E5) E2a)) ⟨_, rfl, Al, cl, rfl, Rl.ext E2a⟩).ext TL.mono E3, one_len K8 rfl⟩, by first | omega | (dsimp only; omega), ?_⟩
     repeat (first | exact qY _ _ _ | refine wG (by decide) ?_ | refine qX rfl ?_ | refine wH rfl ?_)
   ·skip
    have hke : k = l.length := by have := geI hk; omega
    subst hke
    rw [List.take_length] at K2 K3 K7
    refine wV ?_
    refine qD ?_
    refine qB rfl ?_
    refine qA (qC (v := .slice _ _ _) rfl) ?_
    refine qA (qE (v := .slice _ _ _) rfl) ?_
    refine qA (qE (v := .int .i64 _) rfl) ?_
    refine qV ?_
    refine qN (vs := [_, _]) Try.results73 ⟨qM rfl rfl, qM rfl rfl, trivial⟩ fun V => ?_
    obtain ⟨A9, c9, e9, R9⟩ := AccP.row (m := 1) (enc := id) (i := 1) (l := gs) K6 (by omega) K8 V rfl
    refine ⟨(zM (zM E1 E_k) (qQ V)), _, by rw [playM, if_neg hc', if_neg hm', K2]; rfl, ?_⟩
    rw [playM, if_neg hc', if_neg hm']
    have X := SlX.of (T := TL) (l := (goM m l).out) (cap := c9) R9 (K7.ext TL.mono (qQ V)) K7.1.symm
    rw [← e9] at X
    exact X
end
end Go.Proofs.Ythphpbdmbmiaiaa
namespace Go.Proofs.Ythphpbdmbmiaiaa
open Go Go.HL Go.Proofs Go.Wx Go.Rd
section
variable [Lvl]
set_option maxRecDepth 100000
abbrev bV (l : List Bool) : List Value := l.map Value.bool
theorem zerosB (n : Nat) : (List.range (n * 1)).map (fun i => [Value.bool false][i % 1]!) = bV (List.replicate n false) := by
 apply List.ext_getElem?
 intro i
 simp only [bV, List.getElem?_map, Nat.mul_one]
 by_cases hi : i < n
 ·rw [List.getElem?_range hi, List.getElem?_replicate, if_pos hi]
  simp [Nat.mod_one]
 ·rw [List.getElem?_eq_none (by simpa using hi), List.getElem?_replicate, if_neg hi]; rfl
theorem bV_len (l : List Bool) : (bV l).length = l.length := List.length_map ..
theorem bV_at {l : List Bool} {q : Nat} (hq : q < l.length) : (bV l).toArray[0 + (q : Int).toNat * 1]? = some (.bool (l.getD q false)) := by
 rw [show 0 + (q : Int).toNat * 1 = q from by omega, List.getElem?_toArray, List.getElem?_map, List.getElem?_eq_getElem hq, List.getD_eq_getElem?_getD, List.getElem?_eq_getElem hq]
 rfl
theorem bV_set {l : List Bool} {q : Nat} {v : Bool} (hq : q < l.length) : wrL (bV l) (0 + (q : Int).toNat * 1) [.bool v] = bV (l.set q v) := by
 rw [show 0 + (q : Int).toNat * 1 = q from by omega]
 show (bV l).set q (.bool v) = _
 rw [bV, bV, List.map_set]
theorem eventsOf_ok (b x : Nat) (m : MachP) (M : MOK m) (most : Int) (hm : 0 ≤ most ∧ most ≤ 12) (AB AQ AL AW : Option Addr) (cB cQ cL cW : Nat) (h : AH) (RM : MachR h AB AQ AL AW m) :
  FnM Try.prog (.func (.func 70) #[] ([] : List Value).toArray) [.pointer (some ⟨b, 0, none⟩), machV AB AQ AL AW cB cQ cL cW m, .int .i64 most] h [some (b, .cells #[.int .u64 (x : Int)] 97 (0, 0))]
  (fun v h' M' => ∃ (x' : Nat) (es : List EvP), M' = [some (b, .cells #[.int .u64 (x' : Int)] 97 (0, 0))] ∧ SlR h' 2 evC es v ∧ (es.length : Int) ≤ most) := by
 have mbl := M.bl
 have mrg := M.regs
 refine fnM_body rfl rfl Try.func70 rfl Try.ntmps70 rfl ?_
 refine qD ?_
 refine qB rfl ?_
 refine zE (v := .agg #[.int .i64 _, .int .i64 _, .int .i64 _, .int .i64 _, .int .i64 _, .slice _ _ _, .slice _ _ _, .slice _ _ _, .slice _ _ _]) (cs := [_, _, _, _, _, _, _, _, _]) rfl rfl fun b4 hb4 => ?_
 refine qK [_, _] rfl ?_
 refine qA (qE (v := .slice _ _ _) rfl) ?_
 refine goes_more ?_
 refine qS [_, _, _] rfl ?_
 refine qD ?_
 refine xp_dw [] rfl rfl rfl ?_
 refine qI (i := 0) rfl (by decide +kernel) (qF rfl rfl rfl rfl 5 rfl) ?_
 refine qZ (i := 1) rfl (by decide +kernel) ?_
 refine qH 1 (v := .slice _ _ _) rfl rfl rfl rfl ?_
 refine qI (i := 2) rfl (by decide +kernel) (wP rfl rfl) ?_
 refine qI (i := 4) rfl (by decide +kernel) (qF rfl rfl rfl rfl 2 rfl) ?_
 refine qZ (i := 5) rfl (by decide +kernel) ?_
 refine qH 1 (v := .int .i64 _) rfl rfl rfl rfl ?_
 refine dw_eff (i := 3) rfl (by decide +kernel) ?_
 refine op_makeSlice (len := m.buttons.length) (cap := m.buttons.length) (zc := [.bool false]) rfl rfl rfl rfl rfl rfl rfl rfl rfl (by omega) (by omega) rfl fun bd hbd => ?_
 refine ⟨ext_new hbd _, ?_⟩
 refine wS [_, _, _, _] rfl ?_
 refine qI (i := 7) rfl (by decide +kernel) (qE (v := .slice _ _ _) rfl) ?_
 refine dw_eff (i := 6) rfl (by decide +kernel) ?_
 refine op_makeSlice (len := m.regs.toNat) (cap := m.regs.toNat) (zc := [.bool false]) rfl rfl (by omega) (by omega) rfl rfl rfl rfl rfl (by omega) (by omega) rfl fun bo hbo => ?_
 refine ⟨ext_new hbo _, ?_⟩
 refine wS [_, _, _, _, _] rfl ?_
 refine qI (i := 8) rfl (by decide +kernel) (qE (v := .slice _ _ _) rfl) ?_
 refine zI rfl ?_
 refine qS [_, _, _, some (bd, .cells (bV (List.replicate m.buttons.length false)).toArray 4 (0, 0)), some (bo, .cells (bV (List.replicate m.regs.toNat false)).toArray 4 (0, 0))] (by rw [← zerosB, ← zerosB]; rfl) ?_
 refine qD ?_
 refine qB rfl ?_
 refine qA (qE (v := .slice _ _ _) rfl) ?_
 refine qD ?_
 refine qD ?_
 refine qB rfl ?_
 refine qA (qC (v := .pointer (some ⟨b, 0, none⟩)) rfl) ?_
 refine qA (qC (v := .int .i64 _) rfl) ?_
 refine op_fnMM [] [_] [_, _, _, _] (vs := [.pointer _, .int .i64 _]) rfl rfl rfl ((Upto_ok b x most (by omega) h)) ?_
 rintro _ h3 _ E3 ⟨x3, i0, rfl, rfl, i01, i02⟩
 refine qK [_, _, _, _, _] rfl ?_
 refine qA (qE (v := .int .i64 _) rfl) ?_
 refine qP ?_
 refine xp_loopL [9, 10, 11, 12, 13, 14, 25, 26, 27, 28, 29, 30, 31, 32, 33, 34, 35, 36, 37, 38, 39, 40, 41, 42, 43, 44, 45, 46, 47, 48, 49, 50, 51, 52, 53, 54, 55, 56, 57, 58, 59, 60, 61, 62, 63, 64, 65, 66, 67, 68, 69, 70, 71, 72, 73, 74, 75, 76, 77, 78, 79, 80, 81, 82, 83, 84, 85, 86, 87, 88] 5 (α := Int × Nat × List Bool × List Bool × Acc × List EvP) (fun ⟨i, y, ds, os, a, es⟩ => [(10, .int .i64 i), (9, .slice a.A a.n a.c)]) (fun ⟨i, y, ds, os, a, es⟩ L => (((L.set 0 (some (b, .cells #[.int .u64 (y : Int)] 97 (0, 0)))).set 2 (a.p)).set 3 (some (bd, .cells (bV ds).toArray 4 (0, 0)))).set 4 (some (bo, .cells (bV os).toArray 4 (0, 0)))) (fun ⟨i, y, ds, os, a, es⟩ h_i => (0 ≤ i ∧ i + es.length ≤ most) ∧ ds.length = m.buttons.length ∧ os.length = m.regs.toNat ∧ AccR 90 2 (es.flatMap evC) a) (fun ⟨i, y, ds, os, a, es⟩ => i.toNat) ((i0, x3, List.replicate m.buttons.length false, List.replicate m.regs.toNat false, acc0, [])) ⟨rfl, rfl, trivial⟩ (rfl) (⟨⟨by omega, by simp; omega⟩, List.length_replicate .., List.length_replicate .., accR0⟩) ?_
 rintro ⟨i, y, ds, os, a, es⟩ T1 h_i E_i J_i
 refine qS [_, _, _, _, _] rfl ?_
 obtain ⟨⟨K1, K2⟩, K3, K4, K5⟩ := J_i
 rcases Bool.eq_false_or_eq_true (decide (i > (0 : Int))) with hi | hi
 ·have hi0 : 0 < i := of_decide_eq_true hi
  refine qD ?_
  refine qD ?_
  refine qB rfl ?_
  refine qA (qC (v := .int .i64 _) rfl) ?_
  refine qA (qL (v := .bool _) rfl) ?_
  refine qA (qC (v := .bool _) rfl) ?_
  refine qG rfl hi ?_
  refine qA (qF rfl rfl rfl rfl 5 rfl) ?_
  refine qG rfl hi ?_
  refine qH 1 (v := .slice _ _ _) rfl rfl rfl rfl ?_
  refine qG rfl hi ?_
  refine qA (wP rfl rfl) ?_
  refine qG rfl hi ?_
  refine qA (qL (v := .bool _) rfl) ?_
  refine qA (wI rfl hi (v := .bool _) rfl) ?_
  refine qR rfl (fun hmb => ?_) (fun hmb => ?_)
  ·skip
   have hmb0 : 0 < m.buttons.length := by have := of_decide_eq_true hmb; omega
   refine qO ?_
   refine qD ?_
   refine qP ?_
   refine xp_cutB [9, 11, 12, 35, 36, 37, 38, 39, 40, 41, 42, 43, 44, 45, 46, 47, 48, 49, 50, 51, 52, 53, 54, 55, 56, 57, 58, 59, 60, 61, 62, 63, 64] 5 (α := Nat) (fun y1 => [(9, .slice a.A a.n a.c)]) (fun y1 L => L.set 0 (some (b, .cells #[.int .u64 (y1 : Int)] 97 (0, 0)))) (fun y1 h_y1 => True) ?_ ?_
   ·skip
    rcases Bool.eq_false_or_eq_true (decide (m.regs > (0 : Int))) with hr | hr
    ·have hr0 : 0 < m.regs := of_decide_eq_true hr
     refine qD ?_
     refine qB rfl ?_
     refine qA (qF rfl rfl rfl rfl 2 rfl) ?_
     refine qH 1 (v := .int .i64 _) rfl rfl rfl rfl ?_
     refine qA (qL (v := .bool _) rfl) ?_
     refine qA (qC (v := .bool _) rfl) ?_
     refine qG rfl hr ?_
     refine qA (qC (v := .pointer (some ⟨b, 0, none⟩)) rfl) ?_
     refine qG rfl hr ?_
     refine op_fnMM [] [_] [_, _, _, _] (vs := [.pointer _, .int .i64 _, .int .i64 _]) rfl rfl rfl ((Odds_ok b y 1 3 (by omega) h_i)) ?_
     rintro _ h4 _ E4 ⟨y4, u, rfl, rfl⟩
     refine qK [_, _, _, _, _] rfl ?_
     refine qA (wI rfl hr (v := .bool _) rfl) ?_
     refine qR rfl (fun hu => ?_) (fun hu => ?_)
     ·skip
      refine qD ?_
      refine qB rfl ?_
      refine qA (qC (v := .pointer (some ⟨b, 0, none⟩)) rfl) ?_
      refine qA (qF rfl rfl rfl rfl 2 rfl) ?_
      refine qH 1 (v := .int .i64 _) rfl rfl rfl rfl ?_
      refine qA (qT rfl (by omega)) ?_
      refine op_fnMM [] [_] [_, _, _, _] (vs := [.pointer _, .int .i64 _]) rfl rfl rfl ((Upto_ok b y4 (m.regs - 1) (by omega) h4)) ?_
      rintro _ h6 _ E6 ⟨y6, k6, rfl, rfl, k61, k62⟩
      refine qK [_, _, _, _, _] rfl ?_
      obtain ⟨q, rfl⟩ : ∃ q : Nat, k6 = q := ⟨k6.toNat, by omega⟩
      have hql : q < os.length := by omega
      refine qA (qE (v := .int .i64 _) rfl) ?_
      refine qD ?_
      refine qB rfl ?_
      refine qA (qE (v := .int .i64 _) rfl) ?_
      refine xp_cutB [12, 47, 48, 49, 50] 5 (α := Int) (fun kd => [(12, .int .i64 kd)]) (fun kd L => L) (fun kd h_kd => True) ?_ ?_
      ·skip
       refine qD ?_
       refine qB rfl ?_
       refine qA (qC (v := .slice _ _ _) rfl) ?_
       refine qA (qC (v := .int .i64 _) rfl) ?_
       refine qA (pv_index rfl rfl rfl rfl (by omega) (by omega)) ?_
       refine qH 4 (v := .bool (os.getD q false)) (off := 0 + (q : Int).toNat * 1) rfl rfl rfl (bV_at hql) ?_
       refine qR rfl (fun hf => ?_) (fun hf => ?_)
       ·skip
        refine qB rfl ?_
        refine qA (qE (v := .int .i64 _) rfl) ?_
        refine ⟨_, ⟨rfl, trivial⟩, rfl, rfl, (Ext.refl _), fun h3 E3 => by first | trivial | omega | (refine ⟨?_, ?_⟩ <;> omega), ?_⟩
        repeat (first | exact wY _ _ | exact qY _ _ _ | refine wG (by decide) ?_ | refine qX rfl ?_ | refine wH rfl ?_)
       ·skip
        refine qO ?_
        refine ⟨_, ⟨rfl, trivial⟩, rfl, rfl, (Ext.refl _), fun h3 E3 => by first | trivial | omega | (refine ⟨?_, ?_⟩ <;> omega), ?_⟩
        repeat (first | exact wY _ _ | exact qY _ _ _ | refine wG (by decide) ?_ | refine qX rfl ?_ | refine wH rfl ?_)
      ·rintro kd T3 h_kd E_kd J_kd
       refine qS [_, _, _, _, _] rfl ?_
       refine qD ?_
       refine qB rfl ?_
       refine qA (qC (v := .slice _ _ _) rfl) ?_
       refine qA (qC (v := .int .i64 _) rfl) ?_
       refine qA (qC (v := .slice _ _ _) rfl) ?_
       refine qA (qC (v := .int .i64 _) rfl) ?_
       refine qA (pv_index rfl rfl rfl rfl (by omega) (by omega)) ?_
       refine qH 4 (v := .bool (os.getD q false)) (off := 0 + (q : Int).toNat * 1) rfl rfl rfl (bV_at hql) ?_
       refine qA (qL (v := .bool _) rfl) ?_
       refine qA (pv_index rfl rfl rfl rfl (by omega) (by omega)) ?_
       refine qW 4 (m := 1) (v := .bool _) (vs := [.bool (!(os.getD q false))]) (off := 0 + (q : Int).toNat * 1) (c' := bV (os.set q (!(os.getD q false)))) rfl rfl rfl rfl rfl rfl (Nat.ble_eq_true_of_le (by rw [bV_len]; omega)) rfl (bV_set hql) ?_
       refine qK [_, _, _, _, _] rfl ?_
       refine qD ?_
       refine qB rfl ?_
       refine qA (qC (v := .slice _ _ _) rfl) ?_
       refine qA (qC (v := .int .i64 _) rfl) ?_
       refine qA (qC (v := .int .i64 _) rfl) ?_
       refine qA (pv_build (zc := [_, _]) (vs := [(0, .int .i64 _), (1, .int .i64 _)]) (cs := [_, _]) rfl rfl rfl rfl rfl rfl) ?_
       refine wD (zc := [_, _]) (vs := [(0, .agg #[.int .i64 _, .int .i64 _])]) (cs := [_, _]) rfl rfl rfl rfl rfl rfl rfl fun b63 hb63 => ?_
       refine qK [_, _, _, _, _, _] rfl ?_
       refine wZ 2 K5 rfl rfl rfl (fun V => rdP V (i := 5) rfl) rfl rfl rfl rfl rfl rfl rfl rfl rfl (by omega) rfl (by rw [wU (m := 2) (fun _ _ => rfl)]; simp only [List.length_cons, List.length_nil]; omega) fun a2 h4a E4a ha2 => ?_
       refine qK [_, _, _, _, _, _] rfl ?_
       refine qA (qE (v := .slice _ _ _) rfl) ?_
       refine wV ?_
       refine qB rfl ?_
       refine qA (qC (v := .int .i64 _) rfl) ?_
       refine qA (qT rfl (by omega)) ?_
       refine qA (qE (v := .int .i64 _) rfl) ?_
       refine ⟨(i - 1, y6, ds, os.set q (!(os.getD q false)), a2, es ++ [⟨kd, q⟩]), ⟨rfl, rfl, trivial⟩, rfl, rfl, (zM (zM (zM (zM E_i E4) E6) E_kd) E4a), fun h3 E3 => ⟨⟨by omega, by rw [List.length_append, List.length_singleton]; omega⟩, by first | exact K3 | (rw [List.length_set]; exact K3), by first | exact K4 | (rw [List.length_set]; exact K4), by rw [List.flatMap_append]; exact ha2⟩, by first | omega | (dsimp only; omega), ?_⟩
       repeat (first | exact qY _ _ _ | refine wG (by decide) ?_ | refine qX rfl ?_ | refine wH rfl ?_)
     ·skip
      refine qO ?_
      refine ⟨y4, ⟨rfl, trivial⟩, rfl, rfl, E4, fun h3 E3 => by first | trivial | omega | (refine ⟨?_, ?_⟩ <;> omega), ?_⟩
      repeat (first | exact wY _ _ | exact qY _ _ _ | refine wG (by decide) ?_ | refine qX rfl ?_ | refine wH rfl ?_)
    ·skip
     refine qD ?_
     refine qB rfl ?_
     refine qA (qF rfl rfl rfl rfl 2 rfl) ?_
     refine qH 1 (v := .int .i64 _) rfl rfl rfl rfl ?_
     refine qA (qL (v := .bool _) rfl) ?_
     refine qA (qC (v := .bool _) rfl) ?_
     refine qJ rfl hr ?_
     refine qJ rfl hr ?_
     refine qA (wN rfl hr (v := .bool _) rfl) ?_
     refine zC rfl (rfl) ?_
     refine qO ?_
     refine ⟨y, ⟨rfl, trivial⟩, rfl, rfl, (Ext.refl _), fun h3 E3 => by first | trivial | omega | (refine ⟨?_, ?_⟩ <;> omega), ?_⟩
     repeat (first | exact wY _ _ | exact qY _ _ _ | refine wG (by decide) ?_ | refine qX rfl ?_ | refine wH rfl ?_)
   ·rintro y1 T2 h_y1 E_y1 J_y1
    refine qS [_, _, _, _, _] rfl ?_
    refine qD ?_
    refine qB rfl ?_
    refine qA (qC (v := .pointer (some ⟨b, 0, none⟩)) rfl) ?_
    refine qA (qF rfl rfl rfl rfl 5 rfl) ?_
    refine qH 1 (v := .slice _ _ _) rfl rfl rfl rfl ?_
    refine qA (wP rfl rfl) ?_
    refine qA (qT rfl (by omega)) ?_
    refine op_fnMM [] [_] [_, _, _, _] (vs := [.pointer _, .int .i64 _]) rfl rfl rfl ((Upto_ok b y1 ((m.buttons.length : Int) - 1) (by omega) h_y1)) ?_
    rintro _ h6 _ E6 ⟨y6, k6, rfl, rfl, k61, k62⟩
    refine qK [_, _, _, _, _] rfl ?_
    obtain ⟨q, rfl⟩ : ∃ q : Nat, k6 = q := ⟨k6.toNat, by omega⟩
    have hql : q < ds.length := by omega
    refine qA (qE (v := .int .i64 _) rfl) ?_
    refine qD ?_
    refine qB rfl ?_
    refine qA (qE (v := .int .i64 _) rfl) ?_
    refine xp_cutB [14, 71, 72, 73, 74] 5 (α := Int) (fun kd => [(14, .int .i64 kd)]) (fun kd L => L) (fun kd h_kd => True) ?_ ?_
    ·skip
     refine qD ?_
     refine qB rfl ?_
     refine qA (qC (v := .slice _ _ _) rfl) ?_
     refine qA (qC (v := .int .i64 _) rfl) ?_
     refine qA (pv_index rfl rfl rfl rfl (by omega) (by omega)) ?_
     refine qH 3 (v := .bool (ds.getD q false)) (off := 0 + (q : Int).toNat * 1) rfl rfl rfl (bV_at hql) ?_
     refine qR rfl (fun hf => ?_) (fun hf => ?_)
     ·skip
      refine qB rfl ?_
      refine qA (qE (v := .int .i64 _) rfl) ?_
      refine ⟨_, ⟨rfl, trivial⟩, rfl, rfl, (Ext.refl _), fun h3 E3 => by first | trivial | omega | (refine ⟨?_, ?_⟩ <;> omega), ?_⟩
      repeat (first | exact wY _ _ | exact qY _ _ _ | refine wG (by decide) ?_ | refine qX rfl ?_ | refine wH rfl ?_)
     ·skip
      refine qO ?_
      refine ⟨_, ⟨rfl, trivial⟩, rfl, rfl, (Ext.refl _), fun h3 E3 => by first | trivial | omega | (refine ⟨?_, ?_⟩ <;> omega), ?_⟩
      repeat (first | exact wY _ _ | exact qY _ _ _ | refine wG (by decide) ?_ | refine qX rfl ?_ | refine wH rfl ?_)
    ·rintro kd T5 h_kd E_kd J_kd
     refine qS [_, _, _, _, _] rfl ?_
     refine qD ?_
     refine qB rfl ?_
     refine qA (qC (v := .slice _ _ _) rfl) ?_
     refine qA (qC (v := .int .i64 _) rfl) ?_
     refine qA (qC (v := .slice _ _ _) rfl) ?_
     refine qA (qC (v := .int .i64 _) rfl) ?_
     refine qA (pv_index rfl rfl rfl rfl (by omega) (by omega)) ?_
     refine qH 3 (v := .bool (ds.getD q false)) (off := 0 + (q : Int).toNat * 1) rfl rfl rfl (bV_at hql) ?_
     refine qA (qL (v := .bool _) rfl) ?_
     refine qA (pv_index rfl rfl rfl rfl (by omega) (by omega)) ?_
     refine qW 3 (m := 1) (v := .bool _) (vs := [.bool (!(ds.getD q false))]) (off := 0 + (q : Int).toNat * 1) (c' := bV (ds.set q (!(ds.getD q false)))) rfl rfl rfl rfl rfl rfl (Nat.ble_eq_true_of_le (by rw [bV_len]; omega)) rfl (bV_set hql) ?_
     refine qK [_, _, _, _, _] rfl ?_
     refine qB rfl ?_
     refine qA (qC (v := .slice _ _ _) rfl) ?_
     refine qA (qC (v := .int .i64 _) rfl) ?_
     refine qA (qC (v := .int .i64 _) rfl) ?_
     refine qA (pv_build (zc := [_, _]) (vs := [(0, .int .i64 _), (1, .int .i64 _)]) (cs := [_, _]) rfl rfl rfl rfl rfl rfl) ?_
     refine wD (zc := [_, _]) (vs := [(0, .agg #[.int .i64 _, .int .i64 _])]) (cs := [_, _]) rfl rfl rfl rfl rfl rfl rfl fun b87 hb87 => ?_
     refine qK [_, _, _, _, _, _] rfl ?_
     refine wZ 2 K5 rfl rfl rfl (fun V => rdP V (i := 5) rfl) rfl rfl rfl rfl rfl rfl rfl rfl rfl (by omega) rfl (by rw [wU (m := 2) (fun _ _ => rfl)]; simp only [List.length_cons, List.length_nil]; omega) fun a2 h6a E6a ha2 => ?_
     refine qK [_, _, _, _, _, _] rfl ?_
     refine qA (qE (v := .slice _ _ _) rfl) ?_
     refine qB rfl ?_
     refine qA (qC (v := .int .i64 _) rfl) ?_
     refine qA (qT rfl (by omega)) ?_
     refine qA (qE (v := .int .i64 _) rfl) ?_
     refine ⟨(i - 1, y6, ds.set q (!(ds.getD q false)), os, a2, es ++ [⟨kd, q⟩]), ⟨rfl, rfl, trivial⟩, rfl, rfl, (zM (zM (zM (zM E_i E_y1) E6) E_kd) E6a), fun h3 E3 => ⟨⟨by omega, by rw [List.length_append, List.length_singleton]; omega⟩, by first | exact K3 | (rw [List.length_set]; exact K3), by first | exact K4 | (rw [List.length_set]; exact K4), by rw [List.flatMap_append]; exact ha2⟩, by first | omega | (dsimp only; omega), ?_⟩
     repeat (first | exact qY _ _ _ | refine wG (by decide) ?_ | refine qX rfl ?_ | refine wH rfl ?_)
  ·skip
   obtain ⟨p8, A8, n8, c8⟩ := a
   obtain rfl : n8 = es.length := by have := AccR.len K5; rw [wU (m := 2) (fun _ _ => rfl)] at this; dsimp only at this; omega
   dsimp only at *
   refine goes_pubO 2 rfl ?_
   intro g8 G8 P8
   refine qS [_, _, _, _, _] rfl ?_
   have RU : Row g8 2 evC A8 es := ⟨fun _ _ => rfl, AccR.rd K5 P8⟩
   refine wV ?_
   refine qD ?_
   refine qB rfl ?_
   refine qA (qC (v := .slice _ _ _) rfl) ?_
   refine qA (qE (v := .slice _ _ _) rfl) ?_
   refine qV ?_
   refine qN (vs := [_]) Try.results70 ⟨qM rfl rfl, trivial⟩ fun V => ?_
   obtain ⟨h9, E9, e9, V9⟩ := wl_drop [_, _, _, _] [_] V
   exact ⟨h9, _, e9, V9, zM (zM (zM E3 E_i) G8) E9, y, es, rfl, ⟨A8, c8, rfl, RU.ext E9⟩, by omega⟩
 ·skip
  refine qD ?_
  refine qD ?_
  refine qB rfl ?_
  refine qA (qC (v := .int .i64 _) rfl) ?_
  refine qA (qL (v := .bool _) rfl) ?_
  refine qA (qC (v := .bool _) rfl) ?_
  refine qJ rfl hi ?_
  refine qJ rfl hi ?_
  refine qJ rfl hi ?_
  refine qJ rfl hi ?_
  refine qA (wN rfl hi (v := .bool _) rfl) ?_
  refine zC rfl (rfl) ?_
  obtain ⟨p8, A8, n8, c8⟩ := a
  obtain rfl : n8 = es.length := by have := AccR.len K5; rw [wU (m := 2) (fun _ _ => rfl)] at this; dsimp only at this; omega
  dsimp only at *
  refine goes_pubO 2 rfl ?_
  intro g8 G8 P8
  refine qS [_, _, _, _, _] rfl ?_
  have RU : Row g8 2 evC A8 es := ⟨fun _ _ => rfl, AccR.rd K5 P8⟩
  refine wV ?_
  refine qD ?_
  refine qB rfl ?_
  refine qA (qC (v := .slice _ _ _) rfl) ?_
  refine qA (qE (v := .slice _ _ _) rfl) ?_
  refine qV ?_
  refine qN (vs := [_]) Try.results70 ⟨qM rfl rfl, trivial⟩ fun V => ?_
  obtain ⟨h9, E9, e9, V9⟩ := wl_drop [_, _, _, _] [_] V
  exact ⟨h9, _, e9, V9, zM (zM (zM E3 E_i) G8) E9, y, es, rfl, ⟨A8, c8, rfl, RU.ext E9⟩, by omega⟩
end
end Go.Proofs.Ythphpbdmbmiaiaa
namespace Go.Proofs.Ythphpbdmbmiaiaa
open Go Go.HL Go.Proofs Go.Wx Go.Rd
section
variable [Lvl]
set_option maxRecDepth 100000
abbrev machC (AB AQ AL AW : Option Addr) (cB cQ cL cW : Nat) (m : MachP) : List Value := [.int .i64 m.rods, .int .i64 m.levers, .int .i64 m.regs, .int .i64 m.travel, .int .i64 m.opn, .slice AB m.buttons.length cB, .slice AQ m.pins.length cQ, .slice AL m.links.length cL, .slice AW m.weights.length cW]
def TMa (h : AH) (m : MachP) (c : List Value) : Prop := ∃ AB AQ AL AW cB cQ cL cW, c = machC AB AQ AL AW cB cQ cL cW m ∧ MachR h AB AQ AL AW m ∧ m.pins.length ≤ cQ ∧ m.links.length ≤ cL
theorem TMa.mono : Mono TMa := fun h h' m c e ⟨AB, AQ, AL, AW, cB, cQ, cL, cW, hc, r, s⟩ => ⟨AB, AQ, AL, AW, cB, cQ, cL, cW, hc, r.ext e, s⟩
theorem CopyMachine_ok (m : MachP) (S : Sml m) (AB AQ AL AW : Option Addr) (cB cQ cL cW : Nat) (h : AH) (R : MachR h AB AQ AL AW m) :
  FnT Try.prog 20 #[machV AB AQ AL AW cB cQ cL cW m] h (fun v h' => ∃ AB AQ AL AW cB cQ cL cW, v = machV AB AQ AL AW cB cQ cL cW m ∧ MachR h' AB AQ AL AW m) := by
 have s1 := S.b
 have s2 := S.q
 have s3 := S.l
 have s4 := S.w
 refine wM Try.func20 rfl Try.ntmps20 rfl ?_
 refine qD ?_
 refine qB rfl ?_
 refine zE (v := .agg #[.int .i64 _, .int .i64 _, .int .i64 _, .int .i64 _, .int .i64 _, .slice _ _ _, .slice _ _ _, .slice _ _ _, .slice _ _ _]) (cs := [_, _, _, _, _, _, _, _, _]) rfl rfl fun b1 hb1 => ?_
 refine qK [_] rfl ?_
 refine zA (cs := [_, _, _, _, _, _, _, _, _]) rfl rfl fun b2 hb2 => ?_
 refine qK [_, _] rfl ?_
 refine qD ?_
 refine xp_dw [] rfl rfl rfl ?_
 refine qI (i := 0) rfl (by decide +kernel) (qF rfl rfl rfl rfl 5 rfl) ?_
 refine qZ (i := 1) rfl (by decide +kernel) ?_
 refine qH 0 (v := .slice _ _ _) rfl rfl rfl rfl ?_
 refine qI (i := 3) rfl (by decide +kernel) (qF rfl rfl rfl rfl 8 rfl) ?_
 refine qZ (i := 4) rfl (by decide +kernel) ?_
 refine qH 0 (v := .slice _ _ _) rfl rfl rfl rfl ?_
 refine dw_eff (i := 2) rfl (by decide +kernel) ?_
 refine wK (caps := []) (vs := [.slice _ _ _]) rfl rfl rfl (Ints_ok m.buttons AB cB h (R.b.ext (Ext.refl _)) s1) ?_
 rintro _ g0 G0 ⟨A1, c1, rfl, R1⟩
 refine ⟨ext_wlm G0 _, ?_⟩
 refine qI (i := 6) rfl (by decide +kernel) (qF rfl rfl rfl rfl 5 rfl) ?_
 refine zF (i := 5) rfl (by decide +kernel) (by decide +kernel) ?_
 refine wK (caps := []) (vs := [.slice _ _ _]) rfl rfl rfl (Ints_ok m.weights AW cW g0 (R.w.ext G0) s4) ?_
 rintro _ g1 G1 ⟨A4, c4, rfl, R4⟩
 refine zF (i := 7) rfl (by decide +kernel) (by decide +kernel) ?_
 refine qW 0 (v := .slice _ _ _) (vs := [_]) (c' := [_, _, _, _, _, _, _, _, _]) rfl rfl rfl rfl rfl rfl rfl rfl rfl ?_
 refine wS [_, _] rfl ?_
 refine qI (i := 8) rfl (by decide +kernel) (qF rfl rfl rfl rfl 8 rfl) ?_
 refine zF (i := 9) rfl (by decide +kernel) (by decide +kernel) ?_
 refine qW 0 (v := .slice _ _ _) (vs := [_]) (c' := [_, _, _, _, _, _, _, _, _]) rfl rfl rfl rfl rfl rfl rfl rfl rfl ?_
 refine wS [_, _] rfl ?_
 refine zI rfl ?_
 refine qD ?_
 refine xp_dw [false, false, true, true] rfl rfl rfl ?_
 refine qI (i := 1) rfl (by decide +kernel) (qF rfl rfl rfl rfl 6 rfl) ?_
 refine qZ (i := 2) rfl (by decide +kernel) ?_
 refine qH 0 (v := .slice _ _ _) rfl rfl rfl rfl ?_
 refine qI (i := 5) rfl (by decide +kernel) (qF rfl rfl rfl rfl 7 rfl) ?_
 refine qZ (i := 6) rfl (by decide +kernel) ?_
 refine qH 0 (v := .slice _ _ _) rfl rfl rfl rfl ?_
 refine dw_eff (i := 0) rfl (by decide +kernel) ?_
 refine wD (zc := [_, _, _]) (vs := []) (cs := []) rfl rfl rfl rfl rfl rfl rfl fun b11 hb11 => ?_
 refine ⟨ext_newM hb11 _, ?_⟩
 refine wS [_, _, _] rfl ?_
 refine dw_eff (i := 3) rfl (by decide +kernel) ?_
 refine wZ 2 accR_new rfl rfl rfl (fun V => R.q.2.ext (zM (zM G0 G1) (qQ V))) (wU R.q.1) (flat_plain pinP m.pins) rfl rfl rfl rfl rfl rfl rfl (by omega) rfl (by rw [wU R.q.1, List.length_nil]; omega) fun a2 h1a E1a ha2 => ?_
 refine ⟨ext_wlm E1a _, ?_⟩
 refine wS [_, _, _] rfl ?_
 refine qI (i := 8) rfl (by decide +kernel) (qF rfl rfl rfl rfl 6 rfl) ?_
 refine dw_eff (i := 4) rfl (by decide +kernel) ?_
 refine wD (zc := [_, _, _, _]) (vs := []) (cs := []) rfl rfl rfl rfl rfl rfl rfl fun b15 hb15 => ?_
 refine ⟨ext_newM hb15 _, ?_⟩
 refine wS [_, _, _, _] rfl ?_
 refine zF (i := 7) rfl (by decide +kernel) (by decide +kernel) ?_
 refine wZ 3 accR_new rfl rfl rfl (fun V => R.l.2.ext (zM (zM (zM G0 G1) E1a) (qQ V))) (wU R.l.1) (flat_plain linkP m.links) rfl rfl rfl rfl rfl rfl rfl (by omega) rfl (by rw [wU R.l.1, List.length_nil]; omega) fun a3 h2a E2a ha3 => ?_
 refine wS [_, _, _, _] rfl ?_
 refine zF (i := 9) rfl (by decide +kernel) (by decide +kernel) ?_
 refine qW 0 (v := .slice _ _ _) (vs := [_]) (c' := [_, _, _, _, _, _, _, _, _]) rfl rfl rfl rfl rfl rfl rfl rfl rfl ?_
 refine wS [_, _, _, _] rfl ?_
 refine qI (i := 10) rfl (by decide +kernel) (qF rfl rfl rfl rfl 7 rfl) ?_
 refine zF (i := 11) rfl (by decide +kernel) (by decide +kernel) ?_
 refine qW 0 (v := .slice _ _ _) (vs := [_]) (c' := [_, _, _, _, _, _, _, _, _]) rfl rfl rfl rfl rfl rfl rfl rfl rfl ?_
 refine wS [_, _, _, _] rfl ?_
 refine zI rfl ?_
 refine qD ?_
 refine qB rfl ?_
 refine wE 0 (vs := [.int .i64 _, .int .i64 _, .int .i64 _, .int .i64 _, .int .i64 _, .slice _ _ _, .slice _ _ _, .slice _ _ _, .slice _ _ _]) rfl rfl rfl rfl rfl ?_
 refine qW 1 (v := .agg #[.int .i64 _, .int .i64 _, .int .i64 _, .int .i64 _, .int .i64 _, .slice _ _ _, .slice _ _ _, .slice _ _ _, .slice _ _ _]) (vs := [_, _, _, _, _, _, _, _, _]) (c' := [_, _, _, _, _, _, _, _, _]) rfl rfl rfl rfl rfl rfl rfl rfl rfl ?_
 refine qK [_, _, _, _] rfl ?_
 refine qV ?_
 refine qN (vs := [_]) Try.results20 ⟨resV_agg 1 rfl rfl rfl rfl rfl (vs := [.int .i64 _, .int .i64 _, .int .i64 _, .int .i64 _, .int .i64 _, .slice _ _ _, .slice _ _ _, .slice _ _ _, .slice _ _ _]) rfl, trivial⟩ fun V => ?_
 have n2 : a2.n = m.pins.length := by have := AccR.len ha2; rw [List.nil_append, wU (m := 3) (fun _ _ => rfl)] at this; omega
 have n3 : a3.n = m.links.length := by have := AccR.len ha3; rw [List.nil_append, wU (m := 4) (fun _ _ => rfl)] at this; omega
 refine ⟨(zM (zM (zM (zM G0 G1) E1a) E2a) (qQ V)), A1, a2.A, a3.A, A4, c1, a2.c, a3.c, c4, by rw [n2, n3]; rfl, ⟨(R1.ext (zM (zM G1 E1a) E2a)).ext (qQ V), row_acc (i := 2) ha2 (by omega) (fun _ _ => rfl) V rfl, row_acc (i := 3) ha3 (by omega) (fun _ _ => rfl) V rfl, (R4.ext (zM E1a E2a)).ext (qQ V)⟩⟩
theorem pinEq (a b : PinP) : pev Try.prog (Op.equalIn Op.maxDepth 36 (.agg (pinC a).toArray) (.agg (pinC b).toArray)) = some (decide (a.rod = b.rod ∧ a.lever = b.lever ∧ a.lag = b.lag)) := by
 have h1 := eq_struct (P := Try.prog) (t := 36) (d := 9999) (fs := [_, _, _]) (xs := (pinC a).toArray) (ys := (pinC b).toArray) (rs := [a.rod == b.rod, a.lever == b.lever, a.lag == b.lag]) rfl (by kernel_rfl) rfl ?_
 ·refine h1.trans ?_
  simp only [List.all_cons, List.all_nil, id, Bool.and_true, Option.some.injEq]
  rw [Bool.eq_iff_iff]
  simp
 ·intro i f r hf hr
  match i, hf, hr with
  | 0, hf, hr => cases hf; cases hr; exact ⟨by decide, _, _, rfl, rfl, eq_int rfl _ _⟩
  | 1, hf, hr => cases hf; cases hr; exact ⟨by decide, _, _, rfl, rfl, eq_int rfl _ _⟩
  | 2, hf, hr => cases hf; cases hr; exact ⟨by decide, _, _, rfl, rfl, eq_int rfl _ _⟩
  | i + 3, hf, hr => simp at hf
theorem linkEq (a b : LinkP) : pev Try.prog (Op.equalIn Op.maxDepth 39 (.agg (linkC a).toArray) (.agg (linkC b).toArray)) = some (decide (a.frm = b.frm ∧ a.to = b.to ∧ a.reg = b.reg ∧ a.lag = b.lag)) := by
 have h1 := eq_struct (P := Try.prog) (t := 39) (d := 9999) (fs := [_, _, _, _]) (xs := (linkC a).toArray) (ys := (linkC b).toArray) (rs := [a.frm == b.frm, a.to == b.to, a.reg == b.reg, a.lag == b.lag]) rfl (by kernel_rfl) rfl ?_
 ·refine h1.trans ?_
  simp only [List.all_cons, List.all_nil, id, Bool.and_true, Option.some.injEq]
  rw [Bool.eq_iff_iff]
  simp
 ·intro i f r hf hr
  match i, hf, hr with
  | 0, hf, hr => cases hf; cases hr; exact ⟨by decide, _, _, rfl, rfl, eq_int rfl _ _⟩
  | 1, hf, hr => cases hf; cases hr; exact ⟨by decide, _, _, rfl, rfl, eq_int rfl _ _⟩
  | 2, hf, hr => cases hf; cases hr; exact ⟨by decide, _, _, rfl, rfl, eq_int rfl _ _⟩
  | 3, hf, hr => cases hf; cases hr; exact ⟨by decide, _, _, rfl, rfl, eq_int rfl _ _⟩
  | i + 4, hf, hr => simp at hf
theorem pinSelf (a : PinP) : pev Try.prog (Op.equalIn Op.maxDepth 36 (.agg (pinC a).toArray) (.agg (pinC a).toArray)) = some true := by rw [pinEq]; simp
theorem linkSelf (a : LinkP) : pev Try.prog (Op.equalIn Op.maxDepth 39 (.agg (linkC a).toArray) (.agg (linkC a).toArray)) = some true := by rw [linkEq]; simp
theorem sameIntsS_ok (a : List Int) (A B : Option Addr) (ca cb : Nat) (h : AH) (Ra : Row h 1 intC A a) (Rb : Row h 1 intC B a) (ha : a.length < 2 ^ 40) :
  FnT Try.prog 40 #[.slice A a.length ca, .slice B a.length cb] h (fun v _ => v = .bool true) :=
 (sameInts_ok a a A B ca cb h Ra Rb ha).mono (fun v _ e => ⟨e.1, e.2.trans (boolE (decide_eq_true rfl))⟩) fun _ _ e => e
theorem SameMachines_ok (m : MachP) (S : Sml m) (AB AQ AL AW : Option Addr) (cB cQ cL cW : Nat) (AB' AQ' AL' AW' : Option Addr) (cB' cQ' cL' cW' : Nat) (h : AH) (R : MachR h AB AQ AL AW m) (R' : MachR h AB' AQ' AL' AW' m) :
  FnT Try.prog 41 #[machV AB AQ AL AW cB cQ cL cW m, machV AB' AQ' AL' AW' cB' cQ' cL' cW' m] h (fun v _ => v = .bool true) := by
 have s1 := S.b
 have s2 := S.q
 have s3 := S.l
 have s4 := S.w
 have q1 : (m.rods == m.rods) = true := by simp
 have q2 : (m.levers == m.levers) = true := by simp
 have q3 : (m.regs == m.regs) = true := by simp
 have q4 : (m.travel == m.travel) = true := by simp
 have q5 : (m.opn == m.opn) = true := by simp
 have q6 : ((m.pins.length : Int) == (m.pins.length : Int)) = true := by simp
 have q7 : ((m.links.length : Int) == (m.links.length : Int)) = true := by simp
 refine wM Try.func41 rfl Try.ntmps41 rfl ?_
 refine qD ?_
 refine qB rfl ?_
 refine zE (v := .agg #[.int .i64 _, .int .i64 _, .int .i64 _, .int .i64 _, .int .i64 _, .slice _ _ _, .slice _ _ _, .slice _ _ _, .slice _ _ _]) (cs := [_, _, _, _, _, _, _, _, _]) rfl rfl fun b2 hb2 => ?_
 refine qK [_] rfl ?_
 refine zE (v := .agg #[.int .i64 _, .int .i64 _, .int .i64 _, .int .i64 _, .int .i64 _, .slice _ _ _, .slice _ _ _, .slice _ _ _, .slice _ _ _]) (cs := [_, _, _, _, _, _, _, _, _]) rfl rfl fun b3 hb3 => ?_
 refine qK [_, _] rfl ?_
 refine qA (qE (v := .bool _) rfl) ?_
 refine qD ?_
 refine qB rfl ?_
 refine qA (qF rfl rfl rfl rfl 0 rfl) ?_
 refine qH 0 (v := .int .i64 _) rfl rfl rfl rfl ?_
 refine qA (qF rfl rfl rfl rfl 0 rfl) ?_
 refine qH 1 (v := .int .i64 _) rfl rfl rfl rfl ?_
 refine qA (qL (v := .bool _) rfl) ?_
 refine qA (qC (v := .bool _) rfl) ?_
 refine qG rfl q1 ?_
 refine qA (qF rfl rfl rfl rfl 1 rfl) ?_
 refine qG rfl q1 ?_
 refine qH 0 (v := .int .i64 _) rfl rfl rfl rfl ?_
 refine qG rfl q1 ?_
 refine qA (qF rfl rfl rfl rfl 1 rfl) ?_
 refine qG rfl q1 ?_
 refine qH 1 (v := .int .i64 _) rfl rfl rfl rfl ?_
 refine qG rfl q1 ?_
 refine qA (qL (v := .bool _) rfl) ?_
 refine qA (wI rfl q1 (v := .bool _) rfl) ?_
 refine qA (qC (v := .bool _) rfl) ?_
 refine qG rfl q2 ?_
 refine qA (qF rfl rfl rfl rfl 2 rfl) ?_
 refine qG rfl q2 ?_
 refine qH 0 (v := .int .i64 _) rfl rfl rfl rfl ?_
 refine qG rfl q2 ?_
 refine qA (qF rfl rfl rfl rfl 2 rfl) ?_
 refine qG rfl q2 ?_
 refine qH 1 (v := .int .i64 _) rfl rfl rfl rfl ?_
 refine qG rfl q2 ?_
 refine qA (qL (v := .bool _) rfl) ?_
 refine qA (wI rfl q2 (v := .bool _) rfl) ?_
 refine qA (qC (v := .bool _) rfl) ?_
 refine qG rfl q3 ?_
 refine qA (qF rfl rfl rfl rfl 3 rfl) ?_
 refine qG rfl q3 ?_
 refine qH 0 (v := .int .i64 _) rfl rfl rfl rfl ?_
 refine qG rfl q3 ?_
 refine qA (qF rfl rfl rfl rfl 3 rfl) ?_
 refine qG rfl q3 ?_
 refine qH 1 (v := .int .i64 _) rfl rfl rfl rfl ?_
 refine qG rfl q3 ?_
 refine qA (qL (v := .bool _) rfl) ?_
 refine qA (wI rfl q3 (v := .bool _) rfl) ?_
 refine qA (qC (v := .bool _) rfl) ?_
 refine qG rfl q4 ?_
 refine qA (qF rfl rfl rfl rfl 4 rfl) ?_
 refine qG rfl q4 ?_
 refine qH 0 (v := .int .i64 _) rfl rfl rfl rfl ?_
 refine qG rfl q4 ?_
 refine qA (qF rfl rfl rfl rfl 4 rfl) ?_
 refine qG rfl q4 ?_
 refine qH 1 (v := .int .i64 _) rfl rfl rfl rfl ?_
 refine qG rfl q4 ?_
 refine qA (qL (v := .bool _) rfl) ?_
 refine qA (wI rfl q4 (v := .bool _) rfl) ?_
 refine qA (qC (v := .bool _) rfl) ?_
 refine qG rfl q5 ?_
 refine qA (qF rfl rfl rfl rfl 5 rfl) ?_
 refine qG rfl q5 ?_
 refine qH 0 (v := .slice _ _ _) rfl rfl rfl rfl ?_
 refine qG rfl q5 ?_
 refine qA (qF rfl rfl rfl rfl 5 rfl) ?_
 refine qG rfl q5 ?_
 refine qH 1 (v := .slice _ _ _) rfl rfl rfl rfl ?_
 refine qG rfl q5 ?_
 refine wK (caps := []) (vs := [.slice _ _ _, .slice _ _ _]) rfl rfl rfl (sameIntsS_ok m.buttons _ _ _ _ h (R.b.ext (Ext.refl _)) (R'.b.ext (Ext.refl _)) (by omega)) ?_
 rintro _ h3 E3 rfl
 refine qA (wI rfl q5 (v := .bool _) rfl) ?_
 refine qA (qC (v := .bool _) rfl) ?_
 refine qG rfl rfl ?_
 refine qA (qF rfl rfl rfl rfl 8 rfl) ?_
 refine qG rfl rfl ?_
 refine qH 0 (v := .slice _ _ _) rfl rfl rfl rfl ?_
 refine qG rfl rfl ?_
 refine qA (qF rfl rfl rfl rfl 8 rfl) ?_
 refine qG rfl rfl ?_
 refine qH 1 (v := .slice _ _ _) rfl rfl rfl rfl ?_
 refine qG rfl rfl ?_
 refine wK (caps := []) (vs := [.slice _ _ _, .slice _ _ _]) rfl rfl rfl (sameIntsS_ok m.weights _ _ _ _ h3 (R.w.ext E3) (R'.w.ext E3) (by omega)) ?_
 rintro _ h4 E4 rfl
 refine qA (wI rfl rfl (v := .bool _) rfl) ?_
 refine qA (qC (v := .bool _) rfl) ?_
 refine qG rfl rfl ?_
 refine qA (qF rfl rfl rfl rfl 6 rfl) ?_
 refine qG rfl rfl ?_
 refine qH 0 (v := .slice _ _ _) rfl rfl rfl rfl ?_
 refine qG rfl rfl ?_
 refine qA (wP rfl rfl) ?_
 refine qG rfl rfl ?_
 refine qA (qF rfl rfl rfl rfl 6 rfl) ?_
 refine qG rfl rfl ?_
 refine qH 1 (v := .slice _ _ _) rfl rfl rfl rfl ?_
 refine qG rfl rfl ?_
 refine qA (wP rfl rfl) ?_
 refine qG rfl rfl ?_
 refine qA (qL (v := .bool _) rfl) ?_
 refine qA (wI rfl rfl (v := .bool _) rfl) ?_
 refine qA (qC (v := .bool _) rfl) ?_
 refine qG rfl q6 ?_
 refine qA (qF rfl rfl rfl rfl 7 rfl) ?_
 refine qG rfl q6 ?_
 refine qH 0 (v := .slice _ _ _) rfl rfl rfl rfl ?_
 refine qG rfl q6 ?_
 refine qA (wP rfl rfl) ?_
 refine qG rfl q6 ?_
 refine qA (qF rfl rfl rfl rfl 7 rfl) ?_
 refine qG rfl q6 ?_
 refine qH 1 (v := .slice _ _ _) rfl rfl rfl rfl ?_
 refine qG rfl q6 ?_
 refine qA (wP rfl rfl) ?_
 refine qG rfl q6 ?_
 refine qA (qL (v := .bool _) rfl) ?_
 refine qA (wI rfl q6 (v := .bool _) rfl) ?_
 refine qA (qE (v := .bool _) rfl) ?_
 refine qD ?_
 refine qD ?_
 refine qB rfl ?_
 refine qA (qE (v := .int .i64 _) rfl) ?_
 refine qP ?_
 refine xp_loopB [5, 6, 73, 74, 75, 76, 77, 78, 79, 80, 81, 82, 83, 84, 85, 86, 87, 88, 89, 90, 91, 92, 93] 2 (α := Nat) (fun k => [(5, .bool true), (6, .int .i64 k)]) (fun k => _) (fun k h_k => k ≤ m.pins.length) (fun k => m.pins.length - k) (0) ⟨boolE q7, rfl, trivial⟩ (rfl) (Nat.zero_le _) ?_
 rintro k T1 h_k E_k J_k
 refine qS [_, _] rfl ?_
 refine qD ?_
 refine qD ?_
 refine qB rfl ?_
 refine qA (qC (v := .bool _) rfl) ?_
 refine qA (qC (v := .bool _) rfl) ?_
 refine qG rfl rfl ?_
 refine qA (qC (v := .int .i64 _) rfl) ?_
 refine qG rfl rfl ?_
 refine qA (qF rfl rfl rfl rfl 6 rfl) ?_
 refine qG rfl rfl ?_
 refine qH 0 (v := .slice _ _ _) rfl rfl rfl rfl ?_
 refine qG rfl rfl ?_
 refine qA (wP rfl rfl) ?_
 refine qG rfl rfl ?_
 refine qA (qL (v := .bool _) rfl) ?_
 refine qA (wI rfl rfl (v := .bool _) rfl) ?_
 refine qR rfl (fun ht => ?_) (fun ht => ?_)
 ·skip
  have hkl : k < m.pins.length := ltI ht
  obtain ⟨g, off, hA, hc⟩ := (R.q.ext (zM (zM E3 E4) E_k)).at (by omega) hkl
  obtain ⟨g2, off2, hB, hd⟩ := (R'.q.ext (zM (zM E3 E4) E_k)).at (by omega) hkl
  refine qO ?_
  refine qD ?_
  refine qP ?_
  refine xp_dw [] rfl rfl rfl ?_
  refine qI (i := 0) rfl (by decide +kernel) (qF rfl rfl rfl rfl 6 rfl) ?_
  refine qZ (i := 1) rfl (by decide +kernel) ?_
  refine qH 0 (v := .slice _ _ _) rfl rfl rfl rfl ?_
  refine qI (i := 2) rfl (by decide +kernel) (qC (v := .int .i64 _) rfl) ?_
  refine qI (i := 3) rfl (by decide +kernel) (wO rfl hA rfl rfl rfl (by omega) (by omega)) ?_
  refine qZ (i := 4) rfl (by decide +kernel) ?_
  refine op_loadA rfl rfl rfl rfl (hc) ?_
  refine qI (i := 5) rfl (by decide +kernel) (qF rfl rfl rfl rfl 6 rfl) ?_
  refine qZ (i := 6) rfl (by decide +kernel) ?_
  refine qH 1 (v := .slice _ _ _) rfl rfl rfl rfl ?_
  refine qI (i := 7) rfl (by decide +kernel) (qC (v := .int .i64 _) rfl) ?_
  refine qI (i := 8) rfl (by decide +kernel) (wO rfl hB rfl rfl rfl (by omega) (by omega)) ?_
  refine qZ (i := 9) rfl (by decide +kernel) ?_
  refine op_loadA rfl rfl rfl rfl (hd) ?_
  refine qI (i := 10) rfl (by decide +kernel) (pv_eqA rfl rfl (by kernel_rfl) (pinSelf _)) ?_
  refine qI (i := 11) rfl (by decide +kernel) (qE (v := .bool _) rfl) ?_
  refine zI rfl ?_
  refine qB rfl ?_
  refine qA (qC (v := .int .i64 _) rfl) ?_
  refine qA (qT rfl (by omega)) ?_
  refine qA (qE (v := .int .i64 _) rfl) ?_
  refine ⟨k + 1, ⟨rfl, rfl, trivial⟩, rfl, rfl, E_k, fun h3 E3 => hkl, by first | omega | (dsimp only; omega), ?_⟩
  repeat (first | exact qY _ _ _ | refine wG (by decide) ?_ | refine qX rfl ?_ | refine wH rfl ?_)
 ·skip
  have hke : k = m.pins.length := by have := geI ht; omega
  subst hke
  refine wV ?_
  refine qD ?_
  refine qD ?_
  refine qB rfl ?_
  refine qA (qE (v := .int .i64 _) rfl) ?_
  refine qP ?_
  refine xp_loopB [5, 7, 94, 95, 96, 97, 98, 99, 100, 101, 102, 103, 104, 105, 106, 107, 108, 109, 110, 111, 112, 113, 114] 2 (α := Nat) (fun j => [(5, .bool true), (7, .int .i64 j)]) (fun j => _) (fun j h_j => j ≤ m.links.length) (fun j => m.links.length - j) (0) ⟨rfl, rfl, trivial⟩ (rfl) (Nat.zero_le _) ?_
  rintro j T2 h_j E_j J_j
  refine qS [_, _] rfl ?_
  refine qD ?_
  refine qD ?_
  refine qB rfl ?_
  refine qA (qC (v := .bool _) rfl) ?_
  refine qA (qC (v := .bool _) rfl) ?_
  refine qG rfl rfl ?_
  refine qA (qC (v := .int .i64 _) rfl) ?_
  refine qG rfl rfl ?_
  refine qA (qF rfl rfl rfl rfl 7 rfl) ?_
  refine qG rfl rfl ?_
  refine qH 0 (v := .slice _ _ _) rfl rfl rfl rfl ?_
  refine qG rfl rfl ?_
  refine qA (wP rfl rfl) ?_
  refine qG rfl rfl ?_
  refine qA (qL (v := .bool _) rfl) ?_
  refine qA (wI rfl rfl (v := .bool _) rfl) ?_
  refine qR rfl (fun hj => ?_) (fun hj => ?_)
  ·skip
   have hkl : j < m.links.length := ltI hj
   obtain ⟨g, off, hA, hc⟩ := (R.l.ext (zM (zM (zM E3 E4) E_k) E_j)).at (by omega) hkl
   obtain ⟨g2, off2, hB, hd⟩ := (R'.l.ext (zM (zM (zM E3 E4) E_k) E_j)).at (by omega) hkl
   refine qO ?_
   refine qD ?_
   refine qP ?_
   refine xp_dw [] rfl rfl rfl ?_
   refine qI (i := 0) rfl (by decide +kernel) (qF rfl rfl rfl rfl 7 rfl) ?_
   refine qZ (i := 1) rfl (by decide +kernel) ?_
   refine qH 0 (v := .slice _ _ _) rfl rfl rfl rfl ?_
   refine qI (i := 2) rfl (by decide +kernel) (qC (v := .int .i64 _) rfl) ?_
   refine qI (i := 3) rfl (by decide +kernel) (wO rfl hA rfl rfl rfl (by omega) (by omega)) ?_
   refine qZ (i := 4) rfl (by decide +kernel) ?_
   refine op_loadA rfl rfl rfl rfl (hc) ?_
   refine qI (i := 5) rfl (by decide +kernel) (qF rfl rfl rfl rfl 7 rfl) ?_
   refine qZ (i := 6) rfl (by decide +kernel) ?_
   refine qH 1 (v := .slice _ _ _) rfl rfl rfl rfl ?_
   refine qI (i := 7) rfl (by decide +kernel) (qC (v := .int .i64 _) rfl) ?_
   refine qI (i := 8) rfl (by decide +kernel) (wO rfl hB rfl rfl rfl (by omega) (by omega)) ?_
   refine qZ (i := 9) rfl (by decide +kernel) ?_
   refine op_loadA rfl rfl rfl rfl (hd) ?_
   refine qI (i := 10) rfl (by decide +kernel) (pv_eqA rfl rfl (by kernel_rfl) (linkSelf _)) ?_
   refine qI (i := 11) rfl (by decide +kernel) (qE (v := .bool _) rfl) ?_
   refine zI rfl ?_
   refine qB rfl ?_
   refine qA (qC (v := .int .i64 _) rfl) ?_
   refine qA (qT rfl (by omega)) ?_
   refine qA (qE (v := .int .i64 _) rfl) ?_
   refine ⟨j + 1, ⟨rfl, rfl, trivial⟩, rfl, rfl, E_j, fun h3 E3 => hkl, by first | omega | (dsimp only; omega), ?_⟩
   repeat (first | exact qY _ _ _ | refine wG (by decide) ?_ | refine qX rfl ?_ | refine wH rfl ?_)
  ·skip
   refine wV ?_
   refine qD ?_
   refine qB rfl ?_
   refine qA (qC (v := .bool _) rfl) ?_
   refine qA (qE (v := .bool _) rfl) ?_
   refine qV ?_
   refine qN (vs := [_]) Try.results41 ⟨qM rfl rfl, trivial⟩ fun V => ?_
   exact ⟨(zM (zM (zM (zM E3 E4) E_k) E_j) (qQ V)), rfl⟩
def largeB (m : MachP) (a : HandP) : Bool := decide ((m.buttons.length : Int) > 20) || decide ((m.pins.length : Int) > 20) || decide ((m.links.length : Int) > 20) || decide ((m.weights.length : Int) > 20) || decide ((a.buttons.length : Int) > 20) || decide ((a.on.length : Int) > 20)
theorem large_ok (m : MachP) (a : HandP) (AB AQ AL AW HA OA : Option Addr) (cB cQ cL cW cH cO : Nat) (h : AH) :
  FnT Try.prog 32 #[machV AB AQ AL AW cB cQ cL cW m, handV HA OA cH cO a] h (fun v _ => v = .bool (largeB m a)) := by
 refine wM Try.func32 rfl Try.ntmps32 rfl ?_
 refine qD ?_
 refine qB rfl ?_
 refine zE (v := .agg #[.int .i64 _, .int .i64 _, .int .i64 _, .int .i64 _, .int .i64 _, .slice _ _ _, .slice _ _ _, .slice _ _ _, .slice _ _ _]) (cs := [_, _, _, _, _, _, _, _, _]) rfl rfl fun b2 hb2 => ?_
 refine qK [_] rfl ?_
 refine zE (v := .agg #[.slice _ _ _, .slice _ _ _]) (cs := [_, _]) rfl rfl fun b3 hb3 => ?_
 refine qK [_, _] rfl ?_
 refine qA (qE (v := .bool _) rfl) ?_
 rcases Bool.eq_false_or_eq_true (decide ((m.buttons.length : Int) > 20)) with e0 | e0
 ·skip
  refine qD ?_
  refine qB rfl ?_
  refine qA (qF rfl rfl rfl rfl 5 rfl) ?_
  refine qH 0 (v := .slice _ _ _) rfl rfl rfl rfl ?_
  refine qA (wP rfl rfl) ?_
  refine qA (qL (v := .bool _) rfl) ?_
  refine qA (qC (v := .bool _) rfl) ?_
  refine qJ rfl e0 ?_
  refine qJ rfl e0 ?_
  refine qJ rfl e0 ?_
  refine qJ rfl e0 ?_
  refine qA (wI rfl e0 (v := .bool _) rfl) ?_
  refine qA (qC (v := .bool _) rfl) ?_
  refine qJ rfl rfl ?_
  refine qJ rfl rfl ?_
  refine qJ rfl rfl ?_
  refine qJ rfl rfl ?_
  refine qA (wI rfl rfl (v := .bool _) rfl) ?_
  refine qA (qC (v := .bool _) rfl) ?_
  refine qJ rfl rfl ?_
  refine qJ rfl rfl ?_
  refine qJ rfl rfl ?_
  refine qJ rfl rfl ?_
  refine qA (wI rfl rfl (v := .bool _) rfl) ?_
  refine qA (qC (v := .bool _) rfl) ?_
  refine qJ rfl rfl ?_
  refine qJ rfl rfl ?_
  refine qJ rfl rfl ?_
  refine qJ rfl rfl ?_
  refine qA (wI rfl rfl (v := .bool _) rfl) ?_
  refine qA (qC (v := .bool _) rfl) ?_
  refine qJ rfl rfl ?_
  refine qJ rfl rfl ?_
  refine qJ rfl rfl ?_
  refine qJ rfl rfl ?_
  refine qA (wI rfl rfl (v := .bool _) rfl) ?_
  refine qA (qE (v := .bool _) rfl) ?_
  refine qV ?_
  refine qN (vs := [_]) Try.results32 ⟨qM rfl rfl, trivial⟩ fun V => ?_
  exact ⟨(qQ V), boolE (by rw [largeB, e0]; simp)⟩
 ·skip
  rcases Bool.eq_false_or_eq_true (decide ((m.pins.length : Int) > 20)) with e1 | e1
  ·skip
   refine qD ?_
   refine qB rfl ?_
   refine qA (qF rfl rfl rfl rfl 5 rfl) ?_
   refine qH 0 (v := .slice _ _ _) rfl rfl rfl rfl ?_
   refine qA (wP rfl rfl) ?_
   refine qA (qL (v := .bool _) rfl) ?_
   refine qA (qC (v := .bool _) rfl) ?_
   refine qG rfl e0 ?_
   refine qA (qF rfl rfl rfl rfl 6 rfl) ?_
   refine qG rfl e0 ?_
   refine qH 0 (v := .slice _ _ _) rfl rfl rfl rfl ?_
   refine qG rfl e0 ?_
   refine qA (wP rfl rfl) ?_
   refine qG rfl e0 ?_
   refine qA (qL (v := .bool _) rfl) ?_
   refine qA (wN rfl e0 (v := .bool _) rfl) ?_
   refine qA (qC (v := .bool _) rfl) ?_
   refine qJ rfl e1 ?_
   refine qJ rfl e1 ?_
   refine qJ rfl e1 ?_
   refine qJ rfl e1 ?_
   refine qA (wI rfl e1 (v := .bool _) rfl) ?_
   refine qA (qC (v := .bool _) rfl) ?_
   refine qJ rfl rfl ?_
   refine qJ rfl rfl ?_
   refine qJ rfl rfl ?_
   refine qJ rfl rfl ?_
   refine qA (wI rfl rfl (v := .bool _) rfl) ?_
   refine qA (qC (v := .bool _) rfl) ?_
   refine qJ rfl rfl ?_
   refine qJ rfl rfl ?_
   refine qJ rfl rfl ?_
   refine qJ rfl rfl ?_
   refine qA (wI rfl rfl (v := .bool _) rfl) ?_
   refine qA (qC (v := .bool _) rfl) ?_
   refine qJ rfl rfl ?_
   refine qJ rfl rfl ?_
   refine qJ rfl rfl ?_
   refine qJ rfl rfl ?_
   refine qA (wI rfl rfl (v := .bool _) rfl) ?_
   refine qA (qE (v := .bool _) rfl) ?_
   refine qV ?_
   refine qN (vs := [_]) Try.results32 ⟨qM rfl rfl, trivial⟩ fun V => ?_
   exact ⟨(qQ V), boolE (by rw [largeB, e0, e1]; simp)⟩
  ·skip
   rcases Bool.eq_false_or_eq_true (decide ((m.links.length : Int) > 20)) with e2 | e2
   ·skip
    refine qD ?_
    refine qB rfl ?_
    refine qA (qF rfl rfl rfl rfl 5 rfl) ?_
    refine qH 0 (v := .slice _ _ _) rfl rfl rfl rfl ?_
    refine qA (wP rfl rfl) ?_
    refine qA (qL (v := .bool _) rfl) ?_
    refine qA (qC (v := .bool _) rfl) ?_
    refine qG rfl e0 ?_
    refine qA (qF rfl rfl rfl rfl 6 rfl) ?_
    refine qG rfl e0 ?_
    refine qH 0 (v := .slice _ _ _) rfl rfl rfl rfl ?_
    refine qG rfl e0 ?_
    refine qA (wP rfl rfl) ?_
    refine qG rfl e0 ?_
    refine qA (qL (v := .bool _) rfl) ?_
    refine qA (wN rfl e0 (v := .bool _) rfl) ?_
    refine qA (qC (v := .bool _) rfl) ?_
    refine qG rfl e1 ?_
    refine qA (qF rfl rfl rfl rfl 7 rfl) ?_
    refine qG rfl e1 ?_
    refine qH 0 (v := .slice _ _ _) rfl rfl rfl rfl ?_
    refine qG rfl e1 ?_
    refine qA (wP rfl rfl) ?_
    refine qG rfl e1 ?_
    refine qA (qL (v := .bool _) rfl) ?_
    refine qA (wN rfl e1 (v := .bool _) rfl) ?_
    refine qA (qC (v := .bool _) rfl) ?_
    refine qJ rfl e2 ?_
    refine qJ rfl e2 ?_
    refine qJ rfl e2 ?_
    refine qJ rfl e2 ?_
    refine qA (wI rfl e2 (v := .bool _) rfl) ?_
    refine qA (qC (v := .bool _) rfl) ?_
    refine qJ rfl rfl ?_
    refine qJ rfl rfl ?_
    refine qJ rfl rfl ?_
    refine qJ rfl rfl ?_
    refine qA (wI rfl rfl (v := .bool _) rfl) ?_
    refine qA (qC (v := .bool _) rfl) ?_
    refine qJ rfl rfl ?_
    refine qJ rfl rfl ?_
    refine qJ rfl rfl ?_
    refine qJ rfl rfl ?_
    refine qA (wI rfl rfl (v := .bool _) rfl) ?_
    refine qA (qE (v := .bool _) rfl) ?_
    refine qV ?_
    refine qN (vs := [_]) Try.results32 ⟨qM rfl rfl, trivial⟩ fun V => ?_
    exact ⟨(qQ V), boolE (by rw [largeB, e0, e1, e2]; simp)⟩
   ·skip
    rcases Bool.eq_false_or_eq_true (decide ((m.weights.length : Int) > 20)) with e3 | e3
    ·skip
     refine qD ?_
     refine qB rfl ?_
     refine qA (qF rfl rfl rfl rfl 5 rfl) ?_
     refine qH 0 (v := .slice _ _ _) rfl rfl rfl rfl ?_
     refine qA (wP rfl rfl) ?_
     refine qA (qL (v := .bool _) rfl) ?_
     refine qA (qC (v := .bool _) rfl) ?_
     refine qG rfl e0 ?_
     refine qA (qF rfl rfl rfl rfl 6 rfl) ?_
     refine qG rfl e0 ?_
     refine qH 0 (v := .slice _ _ _) rfl rfl rfl rfl ?_
     refine qG rfl e0 ?_
     refine qA (wP rfl rfl) ?_
     refine qG rfl e0 ?_
     refine qA (qL (v := .bool _) rfl) ?_
     refine qA (wN rfl e0 (v := .bool _) rfl) ?_
     refine qA (qC (v := .bool _) rfl) ?_
     refine qG rfl e1 ?_
     refine qA (qF rfl rfl rfl rfl 7 rfl) ?_
     refine qG rfl e1 ?_
     refine qH 0 (v := .slice _ _ _) rfl rfl rfl rfl ?_
     refine qG rfl e1 ?_
     refine qA (wP rfl rfl) ?_
     refine qG rfl e1 ?_
     refine qA (qL (v := .bool _) rfl) ?_
     refine qA (wN rfl e1 (v := .bool _) rfl) ?_
     refine qA (qC (v := .bool _) rfl) ?_
     refine qG rfl e2 ?_
     refine qA (qF rfl rfl rfl rfl 8 rfl) ?_
     refine qG rfl e2 ?_
     refine qH 0 (v := .slice _ _ _) rfl rfl rfl rfl ?_
     refine qG rfl e2 ?_
     refine qA (wP rfl rfl) ?_
     refine qG rfl e2 ?_
     refine qA (qL (v := .bool _) rfl) ?_
     refine qA (wN rfl e2 (v := .bool _) rfl) ?_
     refine qA (qC (v := .bool _) rfl) ?_
     refine qJ rfl e3 ?_
     refine qJ rfl e3 ?_
     refine qJ rfl e3 ?_
     refine qJ rfl e3 ?_
     refine qA (wI rfl e3 (v := .bool _) rfl) ?_
     refine qA (qC (v := .bool _) rfl) ?_
     refine qJ rfl rfl ?_
     refine qJ rfl rfl ?_
     refine qJ rfl rfl ?_
     refine qJ rfl rfl ?_
     refine qA (wI rfl rfl (v := .bool _) rfl) ?_
     refine qA (qE (v := .bool _) rfl) ?_
     refine qV ?_
     refine qN (vs := [_]) Try.results32 ⟨qM rfl rfl, trivial⟩ fun V => ?_
     exact ⟨(qQ V), boolE (by rw [largeB, e0, e1, e2, e3]; simp)⟩
    ·skip
     rcases Bool.eq_false_or_eq_true (decide ((a.buttons.length : Int) > 20)) with e4 | e4
     ·skip
      refine qD ?_
      refine qB rfl ?_
      refine qA (qF rfl rfl rfl rfl 5 rfl) ?_
      refine qH 0 (v := .slice _ _ _) rfl rfl rfl rfl ?_
      refine qA (wP rfl rfl) ?_
      refine qA (qL (v := .bool _) rfl) ?_
      refine qA (qC (v := .bool _) rfl) ?_
      refine qG rfl e0 ?_
      refine qA (qF rfl rfl rfl rfl 6 rfl) ?_
      refine qG rfl e0 ?_
      refine qH 0 (v := .slice _ _ _) rfl rfl rfl rfl ?_
      refine qG rfl e0 ?_
      refine qA (wP rfl rfl) ?_
      refine qG rfl e0 ?_
      refine qA (qL (v := .bool _) rfl) ?_
      refine qA (wN rfl e0 (v := .bool _) rfl) ?_
      refine qA (qC (v := .bool _) rfl) ?_
      refine qG rfl e1 ?_
      refine qA (qF rfl rfl rfl rfl 7 rfl) ?_
      refine qG rfl e1 ?_
      refine qH 0 (v := .slice _ _ _) rfl rfl rfl rfl ?_
      refine qG rfl e1 ?_
      refine qA (wP rfl rfl) ?_
      refine qG rfl e1 ?_
      refine qA (qL (v := .bool _) rfl) ?_
      refine qA (wN rfl e1 (v := .bool _) rfl) ?_
      refine qA (qC (v := .bool _) rfl) ?_
      refine qG rfl e2 ?_
      refine qA (qF rfl rfl rfl rfl 8 rfl) ?_
      refine qG rfl e2 ?_
      refine qH 0 (v := .slice _ _ _) rfl rfl rfl rfl ?_
      refine qG rfl e2 ?_
      refine qA (wP rfl rfl) ?_
      refine qG rfl e2 ?_
      refine qA (qL (v := .bool _) rfl) ?_
      refine qA (wN rfl e2 (v := .bool _) rfl) ?_
      refine qA (qC (v := .bool _) rfl) ?_
      refine qG rfl e3 ?_
      refine qA (qF rfl rfl rfl rfl 0 rfl) ?_
      refine qG rfl e3 ?_
      refine qH 1 (v := .slice _ _ _) rfl rfl rfl rfl ?_
      refine qG rfl e3 ?_
      refine qA (wP rfl rfl) ?_
      refine qG rfl e3 ?_
      refine qA (qL (v := .bool _) rfl) ?_
      refine qA (wN rfl e3 (v := .bool _) rfl) ?_
      refine qA (qC (v := .bool _) rfl) ?_
      refine qJ rfl e4 ?_
      refine qJ rfl e4 ?_
      refine qJ rfl e4 ?_
      refine qJ rfl e4 ?_
      refine qA (wI rfl e4 (v := .bool _) rfl) ?_
      refine qA (qE (v := .bool _) rfl) ?_
      refine qV ?_
      refine qN (vs := [_]) Try.results32 ⟨qM rfl rfl, trivial⟩ fun V => ?_
      exact ⟨(qQ V), boolE (by rw [largeB, e0, e1, e2, e3, e4]; simp)⟩
     ·skip
      refine qD ?_
      refine qB rfl ?_
      refine qA (qF rfl rfl rfl rfl 5 rfl) ?_
      refine qH 0 (v := .slice _ _ _) rfl rfl rfl rfl ?_
      refine qA (wP rfl rfl) ?_
      refine qA (qL (v := .bool _) rfl) ?_
      refine qA (qC (v := .bool _) rfl) ?_
      refine qG rfl e0 ?_
      refine qA (qF rfl rfl rfl rfl 6 rfl) ?_
      refine qG rfl e0 ?_
      refine qH 0 (v := .slice _ _ _) rfl rfl rfl rfl ?_
      refine qG rfl e0 ?_
      refine qA (wP rfl rfl) ?_
      refine qG rfl e0 ?_
      refine qA (qL (v := .bool _) rfl) ?_
      refine qA (wN rfl e0 (v := .bool _) rfl) ?_
      refine qA (qC (v := .bool _) rfl) ?_
      refine qG rfl e1 ?_
      refine qA (qF rfl rfl rfl rfl 7 rfl) ?_
      refine qG rfl e1 ?_
      refine qH 0 (v := .slice _ _ _) rfl rfl rfl rfl ?_
      refine qG rfl e1 ?_
      refine qA (wP rfl rfl) ?_
      refine qG rfl e1 ?_
      refine qA (qL (v := .bool _) rfl) ?_
      refine qA (wN rfl e1 (v := .bool _) rfl) ?_
      refine qA (qC (v := .bool _) rfl) ?_
      refine qG rfl e2 ?_
      refine qA (qF rfl rfl rfl rfl 8 rfl) ?_
      refine qG rfl e2 ?_
      refine qH 0 (v := .slice _ _ _) rfl rfl rfl rfl ?_
      refine qG rfl e2 ?_
      refine qA (wP rfl rfl) ?_
      refine qG rfl e2 ?_
      refine qA (qL (v := .bool _) rfl) ?_
      refine qA (wN rfl e2 (v := .bool _) rfl) ?_
      refine qA (qC (v := .bool _) rfl) ?_
      refine qG rfl e3 ?_
      refine qA (qF rfl rfl rfl rfl 0 rfl) ?_
      refine qG rfl e3 ?_
      refine qH 1 (v := .slice _ _ _) rfl rfl rfl rfl ?_
      refine qG rfl e3 ?_
      refine qA (wP rfl rfl) ?_
      refine qG rfl e3 ?_
      refine qA (qL (v := .bool _) rfl) ?_
      refine qA (wN rfl e3 (v := .bool _) rfl) ?_
      refine qA (qC (v := .bool _) rfl) ?_
      refine qG rfl e4 ?_
      refine qA (qF rfl rfl rfl rfl 1 rfl) ?_
      refine qG rfl e4 ?_
      refine qH 1 (v := .slice _ _ _) rfl rfl rfl rfl ?_
      refine qG rfl e4 ?_
      refine qA (wP rfl rfl) ?_
      refine qG rfl e4 ?_
      refine qA (qL (v := .bool _) rfl) ?_
      refine qA (wN rfl e4 (v := .bool _) rfl) ?_
      refine qA (qE (v := .bool _) rfl) ?_
      refine qV ?_
      refine qN (vs := [_]) Try.results32 ⟨qM rfl rfl, trivial⟩ fun V => ?_
      exact ⟨(qQ V), boolE (by rw [largeB, e0, e1, e2, e3, e4]; rfl)⟩
theorem large_sml {m : MachP} {a : HandP} (h : largeB m a = false) : Sml m ∧ SmlH a := by
 simp only [largeB, Bool.or_eq_false_iff, decide_eq_false_iff_not] at h
 obtain ⟨⟨⟨⟨⟨h1, h2⟩, h3⟩, h4⟩, h5⟩, h6⟩ := h
 exact ⟨⟨by omega, by omega, by omega, by omega⟩, ⟨by omega, by omega⟩⟩
end
end Go.Proofs.Ythphpbdmbmiaiaa
namespace Go.Proofs.Ythphpbdmbmiaiaa
open Go Go.HL Go.Proofs Go.Wx Go.Rd
section
variable [Lvl]
set_option maxRecDepth 100000
end
end Go.Proofs.Ythphpbdmbmiaiaa
namespace Go.Proofs.Ythphpbdmbmiaiaa
open Go Go.HL Go.Proofs Go.Wx Go.Rd
section
variable [Lvl]
set_option maxRecDepth 100000
end
end Go.Proofs.Ythphpbdmbmiaiaa
namespace Go.Proofs.Ythphpbdmbmiaiaa
open Go Go.HL Go.Proofs Go.Wx Go.Rd
section
variable [Lvl]
set_option maxRecDepth 100000
theorem all4 {α : Type} {p : α → Prop} {a b c d : α} (ha : p a) (hb : p b) (hc : p c) (hd : p d) : ∀ x ∈ [a, b, c, d], p x := fun x hx => by
 simp only [List.mem_cons, List.not_mem_nil, or_false] at hx
 rcases hx with rfl | rfl | rfl | rfl <;> assumption
theorem els4 {α : Type} {h : AH} {T : AH → α → List Value → Prop} {a b c d : α} {ca cb cc cd : List Value} (ha : T h a ca) (hb : T h b cb) (hc : T h c cc) (hd : T h d cd) : Els h T [a, b, c, d] [ca, cb, cc, cd] :=
 (((Els.nil h T).snoc ha).snoc hb).snoc hc |>.snoc hd
theorem AccR.room {e : TypeId} {m : Nat} {cs : List Value} {a : Acc} (r : AccR e m cs a) (hm : 0 < m) : a.n ≤ a.c := by
 rcases r with ⟨_, _, A, ev⟩ | ⟨b, len, cap, junk, hl, ev, _, hc⟩
 ·injection ev with _ h1 h2; omega
 ·injection ev with _ h1 h2
  rw [List.length_append, hl] at hc
  have : len * m ≤ cap * m := by omega
  have := Nat.le_of_mul_le_mul_right this hm
  omega
theorem Made.sml {s p l : Int} {m : MachP} (M : Made s p l m) : Sml m := by
 have h1 := M.ok.bl
 have h2 := M.ok.pl
 have h3 := M.ok.ll
 have h4 := M.ok.wl
 have h5 := M.ok.levers
 exact ⟨by omega, by omega, by omega, by omega⟩
theorem HOK.sml {m : MachP} {a : HandP} (M : MOK m) (H : HOK m a) : SmlH a := by
 have F := fit_of M H
 have h1 := F.hl
 have h2 := F.ol
 exact ⟨by omega, by omega⟩
end
end Go.Proofs.Ythphpbdmbmiaiaa
