/- An own logic over the model, its walks and its plain laws, joined of parts Tg W29 W30 W31 Th W32 Ti W33 Tj W34 W35 Tk Tl W37 W38 Tm W39 W40 W41 W46 W47 Tn To Tp Tq Tr W48 W49 W50 W51 W52 W53 Ts W54 W55 Tt W56. Conditions: as each theorem states. -/
import Derived.Test.YtndfkbapoinmkaaLa4
set_option linter.all false
/- Plain: elements changed in place; an order that is made; joints moved. Conditions: as each theorem states. -/
namespace Go.Wx
open Go Go.HL
section
variable {α : Type} {enc : α → List Value} {m : Nat} (hm : ∀ x, (enc x).length = m)
include hm
end
theorem intM (x : Int) : (intC x).length = 1 := rfl
/-- The first i places hold the numbers below i, in some order. -/
structure MixP (l : List Int) (i : Nat) : Prop where
  bd : ∀ m, m < i → ∃ v : Int, l[m]? = some v ∧ 0 ≤ v ∧ v < i
  inj : ∀ m m' : Nat, m < i → m' < i → l[m]? = l[m']? → m = m'
theorem MixP.zero (l : List Int) : MixP l 0 := ⟨fun m h => absurd h (Nat.not_lt_zero m), fun m _ h => absurd h (Nat.not_lt_zero m)⟩
def mixS (l : List Int) (i k : Nat) : List Int := (l.set i (l.getD k 0)).set k (i : Int)
theorem mixS_get {l : List Int} {i k : Nat} (hi : i < l.length) (hk : k ≤ i) (m : Nat) : (mixS l i k)[m]? = if m = k then some (i : Int) else if m = i then l[k]? else l[m]? := by
  unfold mixS
  have hkl : k < l.length := by omega
  rw [List.getElem?_set, List.length_set]
  by_cases h1 : k = m
  · subst h1
    simp [hkl]
  · rw [if_neg h1, if_neg (fun e => h1 e.symm), List.getElem?_set]
    by_cases h2 : i = m
    · subst h2
      simp [hi, List.getD_eq_getElem?_getD, List.getElem?_eq_getElem hkl]
    · rw [if_neg h2, if_neg (fun e => h2 e.symm)]
theorem MixP.step {l : List Int} {i k : Nat} (P : MixP l i) (hi : i < l.length) (hk : k ≤ i) : MixP (mixS l i k) (i + 1) := by
  have gk : k < i → ∃ v : Int, l[k]? = some v ∧ 0 ≤ v ∧ v < i := fun h => P.bd k h
  constructor
  · intro m hm
    rw [mixS_get hi hk]
    by_cases h1 : m = k
    · rw [if_pos h1]; exact ⟨i, rfl, by omega, by omega⟩
    · rw [if_neg h1]
      by_cases h2 : m = i
      · rw [if_pos h2]
        obtain ⟨v, e, a, b⟩ := gk (by omega)
        exact ⟨v, e, a, by omega⟩
      · rw [if_neg h2]
        obtain ⟨v, e, a, b⟩ := P.bd m (by omega)
        exact ⟨v, e, a, by omega⟩
  · have val : ∀ m, m < i + 1 → ∃ v : Int, (mixS l i k)[m]? = some v ∧ (m ≠ k → v < i) ∧ (m = k → v = i) := by
      intro m hm
      rw [mixS_get hi hk]
      by_cases h1 : m = k
      · rw [if_pos h1]; exact ⟨i, rfl, fun h => absurd h1 h, fun _ => rfl⟩
      · rw [if_neg h1]
        by_cases h2 : m = i
        · rw [if_pos h2]
          obtain ⟨v, e, a, b⟩ := gk (by omega)
          exact ⟨v, e, fun _ => b, fun h => absurd h h1⟩
        · rw [if_neg h2]
          obtain ⟨v, e, a, b⟩ := P.bd m (by omega)
          exact ⟨v, e, fun _ => b, fun h => absurd h h1⟩
    intro m m' hm hm' e
    obtain ⟨v, e1, a1, b1⟩ := val m hm
    obtain ⟨v', e2, a2, b2⟩ := val m' hm'
    have hv : v = v' := by rw [e1, e2] at e; simpa using e
    by_cases h1 : m = k
    · by_cases h2 : m' = k
      · omega
      · have := a2 h2; have := b1 h1; omega
    · by_cases h2 : m' = k
      · have := a1 h1; have := b2 h2; omega
      · rw [mixS_get hi hk, mixS_get hi hk, if_neg h1, if_neg h2] at e
        by_cases h3 : m = i
        · by_cases h4 : m' = i
          · omega
          · rw [if_pos h3, if_neg h4] at e
            have := P.inj k m' (by omega) (by omega) e
            omega
        · by_cases h4 : m' = i
          · rw [if_neg h3, if_pos h4] at e
            have := P.inj m k (by omega) (by omega) e
            omega
          · rw [if_neg h3, if_neg h4] at e
            exact P.inj m m' (by omega) (by omega) e
theorem MixP.order {l : List Int} {n : Nat} (P : MixP l n) (hl : l.length = n) : Order l n := by
  refine ⟨hl, fun x hx => ?_, P.inj⟩
  obtain ⟨i, hi⟩ := List.mem_iff_getElem?.1 hx
  have := (List.getElem?_eq_some_iff.1 hi).1
  obtain ⟨v, e, a, b⟩ := P.bd i (by omega)
  rw [hi] at e
  cases e
  exact ⟨a, b⟩
end Go.Wx
/- Walks: an order; copies of seasons. Conditions: as each theorem states. -/
namespace Go.Proofs.Ytndfkbapoinmkaa
open Go Go.HL Go.Proofs Go.Wx
set_option maxRecDepth 100000
theorem Ranges_ok (l : List Rg) (A : Option Addr) (c : Nat) (h : AH) (R : Row h 2 rgC A l) (hl : l.length < 2 ^ 20) :
    FnM Try.prog (.func (.func 77) #[] ([] : List Value).toArray) [.slice A l.length c] h [] (fun v h' M' => ∃ a : Acc, M' = [a.p] ∧ v = .slice a.A a.n a.c ∧ AccR 51 2 (l.flatMap rgC) a) := by
  refine fnM_body rfl rfl Try.func77 rfl Try.ntmps77 rfl ?_
  refine xp_seq ?_
  refine xp_region rfl ?_
  refine op_pure (pv_assign (v := .slice _ _ _) rfl) ?_
  refine xp_seq ?_
  refine xp_region rfl ?_
  refine op_buildSlice (zc := [_, _]) (vs := []) (cs := []) rfl rfl rfl rfl rfl rfl rfl fun b3 hb3 => ?_
  refine wp_norm [_] rfl ?_
  refine op_pure (pv_move (v := .slice _ _ _) rfl) ?_
  refine op_appendR 0 accR_new rfl rfl rfl (fun V => R.2.ext (Ext.trans (Ext.refl _) (ext_wl V))) (flat_len R.1) (flat_plain rgP l) rfl rfl rfl rfl rfl rfl rfl (by omega) rfl (by rw [flat_len R.1, List.length_nil]; omega) fun a0 h1a E1a ha0 => ?_
  refine wp_norm [_] rfl ?_
  refine op_pure (pv_assign (v := .slice _ _ _) rfl) ?_
  refine xp_ret ?_
  refine res_list (vs := [_]) Try.results77 ⟨resV_tmp rfl rfl, trivial⟩ fun V => ?_
  exact ⟨_, [_], rfl, V, E1a, a0, rfl, rfl, ha0⟩
end Go.Proofs.Ytndfkbapoinmkaa
/- Walks: the law on joints apart. Conditions: as each theorem states. -/
namespace Go.Proofs.Ytndfkbapoinmkaa
open Go Go.HL Go.Proofs Go.Wx Go.RowKit
set_option maxRecDepth 100000
theorem row_junk {α : Type} {enc : α → List Value} {m : Nat} {h : AH} {b : Nat} {l : List α} {junk : List Value} {t : TypeId} (hm : ∀ x, (enc x).length = m) (hb : h b = some (.cells (l.flatMap enc ++ junk).toArray t (0, 0))) : Row h m enc (some ⟨b, 0, none⟩) l := by
  refine ⟨fun x _ => hm x, fun _ => ⟨b, 0, rfl, fun q u hu => ?_⟩⟩
  simp only [cellA, hb, Nat.zero_add]
  have : (l.flatMap enc ++ junk)[q]? = some u := by rw [List.getElem?_append_left (List.getElem?_eq_some_iff.1 hu).1]; exact hu
  simpa using this
end Go.Proofs.Ytndfkbapoinmkaa
/- Walks: how long failures are unseen. Conditions: as each theorem states. -/
namespace Go.Proofs.Ytndfkbapoinmkaa
open Go Go.HL Go.Proofs Go.Wx
set_option maxRecDepth 100000
/-- The error of the weeks in which somebody looks. -/
def lookE (n : Nat) (l : List Int) (i : Nat) : Int := if !inM (l.getD i 0) 0 ((n : Int) - 1) then 1 else if 0 < i ∧ l.getD i 0 ≤ l.getD (i - 1) 0 then 5 else 0
def looksM (n : Nat) (l : List Int) : Int := firstErr (lookE n l) (List.range l.length)
theorem looks_stop {n : Nat} {l : List Int} {i : Nat} (hi : i < l.length) (h0 : firstErr (lookE n l) ((List.range l.length).take i) = 0) (hx : lookE n l i ≠ 0) : looksM n l = lookE n l i := by
  have := firstErr_stop (f := lookE n l) (l := List.range l.length) (k := i) (by simpa using hi) h0 (by simpa using hx)
  simpa [looksM] using this
theorem looks_go {n : Nat} {l : List Int} {i : Nat} (hi : i < l.length) (h0 : firstErr (lookE n l) ((List.range l.length).take i) = 0) (hx : lookE n l i = 0) : firstErr (lookE n l) ((List.range l.length).take (i + 1)) = 0 :=
  firstErr_go (f := lookE n l) (l := List.range l.length) (k := i) (by simpa using hi) h0 (by simpa using hx)
set_option maxHeartbeats 1000000 in
theorem unseen1_ask (s : Season) (l : List Int) (hl : l.length < 2 ^ 20) (B : Option Addr) (cB : Nat) (A0 A1 A2 A3 : Option Addr) (c0 c1 c2 c3 b1 b2 : Nat) (h2 : s.heats.length < 2 ^ 40) (h : AH) (RB : Row h 1 intC B l) (e1 : h b1 = some (.cells #[.slice B l.length cB] 27 (0, 0))) (e2 : h b2 = some (.cells #[.slice A0 s.heats.length c0, .slice A1 s.damps.length c1, .slice A2 s.joints.length c2, .slice A3 s.reports.length c3] 26 (0, 0))) :
    AskT (.func (.func 108) #[] #[.pointer (some ⟨b1, 0, none⟩), .pointer (some ⟨b2, 0, none⟩)]) h (looksM s.heats.length l) := by
  intro h' E _
  refine callV_fn (caps := [.pointer (some ⟨b1, 0, none⟩), .pointer (some ⟨b2, 0, none⟩)]) rfl ?_
  refine call_body Try.func108 rfl Try.ntmps108 rfl ?_
  refine xp_seq ?_
  refine xp_region rfl ?_
  refine op_pure (pv_assign (v := .int .i64 _) rfl) ?_
  refine xp_seq ?_
  refine xp_seq ?_
  refine xp_region rfl ?_
  refine op_load (v := .slice _ _ _) rfl rfl (by simp only [cellA, E _ _ e1]; rfl) ?_
  refine op_pure (pv_len rfl rfl) ?_
  refine op_pure (pv_move (v := .int .i64 _) rfl) ?_
  refine xp_block ?_
  refine xp_loopB [2, 3, 4, 7, 8, 9, 10, 11, 12, 13, 14, 15, 16, 17, 18, 19, 20, 21, 22, 23, 24, 25, 26, 27, 28, 29, 30, 31, 32] 0 (α := Nat) (fun i => [(7, .int .i64 i)]) (fun i => _) (fun i h_i => i ≤ l.length ∧ firstErr (lookE s.heats.length l) ((List.range l.length).take i) = 0) (fun i => l.length - i) (0) ⟨rfl, trivial⟩ (rfl) (⟨Nat.zero_le _, rfl⟩) ?_
  rintro i T1 h_i E_i J_i
  refine goes_norm [] rfl ?_
  obtain ⟨K1, K2⟩ := J_i
  refine xp_seq ?_
  refine xp_region rfl ?_
  refine op_pure (pv_of (v := .bool _) rfl) ?_
  refine xp_seq ?_
  refine xp_cond rfl (fun hi => ?_) (fun hi => ?_)
  · skip
    have hil : i < l.length := ltI hi
    have hgd : l.getD i 0 = l[i] := by rw [List.getD_eq_getElem?_getD, List.getElem?_eq_getElem hil]; rfl
    obtain ⟨g, off, hB, hc⟩ := (RB.ext (Ext.trans E E_i)).at (by omega) hil
    refine xp_skip ?_
    refine xp_seq ?_
    refine xp_block ?_
    refine xp_seq ?_
    refine xp_region rfl ?_
    refine op_pure (pv_move (v := .int .i64 _) rfl) ?_
    refine op_pure (pv_indexE rfl hB rfl rfl rfl (by omega) (by omega)) ?_
    refine op_load (v := .int .i64 _) rfl rfl ((hc) 0 _ rfl) ?_
    refine op_pure (pv_assign (v := .int .i64 _) rfl) ?_
    refine op_pure (pv_assign (v := .int .i64 _) rfl) ?_
    refine xp_block ?_
    refine xp_seq ?_
    refine xp_region rfl ?_
    refine op_pure (pv_move (v := .int .i64 _) rfl) ?_
    refine op_pure (pv_fieldAddr rfl rfl rfl rfl _ rfl) ?_
    refine op_load (v := .slice _ _ _) rfl rfl (by simp only [cellA, E_i _ _ (E _ _ e2)]; rfl) ?_
    refine op_pure (pv_len rfl rfl) ?_
    refine op_pure (pv_arith rfl (by omega)) ?_
    refine op_fn (caps := []) (vs := [.int .i64 _, .int .i64 _, .int .i64 _]) rfl rfl rfl (in_ok _ _ _ h_i) ?_
    rintro _ h3 E3 rfl
    refine op_pure (pv_of (v := .bool _) rfl) ?_
    refine op_pure (pv_assign (v := .bool _) rfl) ?_
    refine xp_cond rfl (fun ht => ?_) (fun ht => ?_)
    · skip
      have hb : inM l[i] 0 ((s.heats.length : Int) - 1) = false := by
        cases hb : inM l[i] 0 ((s.heats.length : Int) - 1) with
        | false => rfl
        | true => unfold inM at hb; rw [hb] at ht; cases ht
      have hE : lookE s.heats.length l i = 1 := by unfold lookE; rw [hgd, hb]; rfl
      refine xp_seq ?_
      refine xp_region rfl ?_
      refine op_pure (pv_assign (v := .int .i64 _) rfl) ?_
      refine xp_ret ?_
      refine res_list (vs := [_]) Try.results108 ⟨resV_tmp rfl rfl, trivial⟩ fun V => ?_
      exact ⟨(Ext.trans (Ext.trans E_i E3) (ext_wl V)), intE (by rw [looks_stop hil K2 (by rw [hE]; decide), hE])⟩
    · skip
      have hb : inM l[i] 0 ((s.heats.length : Int) - 1) = true := by
        cases hb : inM l[i] 0 ((s.heats.length : Int) - 1) with
        | true => rfl
        | false => unfold inM at hb; rw [hb] at ht; cases ht
      rcases Nat.eq_zero_or_pos i with h0 | h0
      · skip
        subst h0
        have hE : lookE s.heats.length l 0 = 0 := by unfold lookE; rw [hgd, hb]; rfl
        refine xp_seq ?_
        refine xp_region rfl ?_
        refine op_pure (pv_move (v := .int .i64 _) rfl) ?_
        refine op_pure (pv_of (v := .bool _) rfl) ?_
        refine op_pure (pv_move (v := .bool _) rfl) ?_
        refine guard_no rfl rfl ?_
        refine guard_no rfl rfl ?_
        refine guard_no rfl rfl ?_
        refine guard_no rfl rfl ?_
        refine guard_no rfl rfl ?_
        refine guard_no rfl rfl ?_
        refine guard_no rfl rfl ?_
        refine op_pure (pv_pickF rfl rfl (v := .bool _) rfl) ?_
        refine op_pure (pv_assign (v := .bool _) rfl) ?_
        refine xp_condF rfl (rfl) ?_
        refine xp_skip ?_
        refine xp_region rfl ?_
        refine op_pure (pv_arith rfl (by omega)) ?_
        refine op_pure (pv_move (v := .int .i64 _) rfl) ?_
        refine ⟨0 + 1, ⟨rfl, trivial⟩, rfl, rfl, (Ext.trans E_i E3), fun h3 E3 => ⟨hil, looks_go hil K2 hE⟩, by first | omega | (dsimp only; omega), ?_⟩
        repeat (first | exact off_base _ _ _ | refine off_upd (by decide) ?_ | refine off_updL rfl ?_ | refine off_mix rfl ?_)
      · skip
        have hpos : decide ((i : Int) > 0) = true := decide_eq_true (by omega)
        have hil1 : i - 1 < l.length := by omega
        have hgd1 : l.getD (i - 1) 0 = l[i - 1] := by rw [List.getD_eq_getElem?_getD, List.getElem?_eq_getElem hil1]; rfl
        obtain ⟨g1, off1, hB1, hc1⟩ := (RB.ext (Ext.trans E E_i)).at (by omega) hil1
        have hsub : (i : Int) - 1 = ((i - 1 : Nat) : Int) := by omega
        refine xp_seq ?_
        refine xp_region rfl ?_
        refine op_pure (pv_move (v := .int .i64 _) rfl) ?_
        refine op_pure (pv_of (v := .bool _) rfl) ?_
        refine op_pure (pv_move (v := .bool _) rfl) ?_
        refine guard_yes rfl hpos ?_
        refine op_pure (pv_move (v := .int .i64 _) rfl) ?_
        refine guard_yes rfl hpos ?_
        refine op_load (v := .slice _ _ _) rfl rfl (by simp only [cellA, E3 _ _ (E_i _ _ (E _ _ e1))]; rfl) ?_
        refine guard_yes rfl hpos ?_
        refine op_pure (pv_move (v := .int .i64 _) rfl) ?_
        refine guard_yes rfl hpos ?_
        refine op_pure (pv_arith rfl (by omega)) ?_
        rw [hsub]
        refine guard_yes rfl hpos ?_
        refine op_pure (pv_indexE rfl hB1 rfl rfl rfl (by omega) (by omega)) ?_
        refine guard_yes rfl hpos ?_
        refine op_load (v := .int .i64 _) rfl rfl ((hc1.ext E3) 0 _ rfl) ?_
        refine guard_yes rfl hpos ?_
        refine op_pure (pv_of (v := .bool _) rfl) ?_
        refine op_pure (pv_pickT rfl hpos (v := .bool _) rfl) ?_
        refine op_pure (pv_assign (v := .bool _) rfl) ?_
        refine xp_cond rfl (fun hle => ?_) (fun hle => ?_)
        · skip
          have hle' : l[i] ≤ l[i - 1] := by simpa [hpos] using hle
          have hE : lookE s.heats.length l i = 5 := by unfold lookE; rw [hgd, hgd1, hb, if_neg (by simp), if_pos ⟨h0, hle'⟩]
          refine xp_seq ?_
          refine xp_region rfl ?_
          refine op_pure (pv_assign (v := .int .i64 _) rfl) ?_
          refine xp_ret ?_
          refine res_list (vs := [_]) Try.results108 ⟨resV_tmp rfl rfl, trivial⟩ fun V => ?_
          exact ⟨(Ext.trans (Ext.trans E_i E3) (ext_wl V)), intE (by rw [looks_stop hil K2 (by rw [hE]; decide), hE])⟩
        · skip
          have hle' : ¬ l[i] ≤ l[i - 1] := by simpa [hpos] using hle
          have hE : lookE s.heats.length l i = 0 := by unfold lookE; rw [hgd, hgd1, hb, if_neg (by simp), if_neg (fun e => hle' e.2)]
          refine xp_skip ?_
          refine xp_region rfl ?_
          refine op_pure (pv_arith rfl (by omega)) ?_
          refine op_pure (pv_move (v := .int .i64 _) rfl) ?_
          refine ⟨i + 1, ⟨rfl, trivial⟩, rfl, rfl, (Ext.trans E_i E3), fun h3 E3 => ⟨hil, looks_go hil K2 hE⟩, by first | omega | (dsimp only; omega), ?_⟩
          repeat (first | exact off_base _ _ _ | refine off_upd (by decide) ?_ | refine off_updL rfl ?_ | refine off_mix rfl ?_)
  · skip
    have hie : i = l.length := by have := geI hi; omega
    subst hie
    refine xp_exit ?_
    refine xp_seq ?_
    refine xp_region rfl ?_
    refine op_pure (pv_assign (v := .int .i64 _) rfl) ?_
    refine xp_ret ?_
    refine res_list (vs := [_]) Try.results108 ⟨resV_tmp rfl rfl, trivial⟩ fun V => ?_
    refine ⟨(Ext.trans E_i (ext_wl V)), intE ?_⟩
    have := K2
    rw [List.take_of_length_le (by simp)] at this
    exact this.symm
def unseenE (s : Season) (l : List Int) : Int := knownM s [looksM s.heats.length l]
def unseenV (s : Season) (l : List Int) : Int := if unseenE s l = 0 then unseenOf s.heats.length (listM (failingM s)) l else 0
set_option maxHeartbeats 1000000 in
theorem Unseen_ok (s : Season) (Sm : Small s) (l : List Int) (hl : l.length < 2 ^ 20) (B : Option Addr) (cB : Nat) (A0 A1 A2 A3 : Option Addr) (c0 c1 c2 c3 : Nat) (h : AH) (R : SeasonR h A0 A1 A2 A3 s) (RB : Row h 1 intC B l) :
    FnT Try.prog 40 #[seasonV A0 A1 A2 A3 c0 c1 c2 c3 s, .slice B l.length cB] h (fun v _ => v = .tuple #[.int .i64 (unseenV s l), .int .i64 (unseenE s l)]) := by
  by_cases he : unseenE s l = 0
  · have hk := knownM_zero he
    have SV := checkM_zero hk.1
    have hw6 := SV.b.w6
    refine call_body Try.func40 rfl Try.ntmps40 rfl ?_
    refine xp_seq ?_
    refine xp_region rfl ?_
    refine op_box (v := .agg #[.slice _ _ _, .slice _ _ _, .slice _ _ _, .slice _ _ _]) (cs := [_, _, _, _]) rfl rfl fun b2 hb2 => ?_
    refine wp_norm [_] rfl ?_
    refine op_box (v := .slice _ _ _) (cs := [_]) rfl rfl fun b3 hb3 => ?_
    refine wp_norm [_, _] rfl ?_
    refine op_pure (pv_assign (v := .int .i64 _) rfl) ?_
    refine op_pure (pv_assign (v := .int .i64 _) rfl) ?_
    refine goes_pub 0 rfl ?_
    intro h0 E0 p0
    refine goes_pub 1 rfl ?_
    intro h1 E1 p1
    refine xp_seq ?_
    refine xp_region rfl ?_
    refine op_loadA (cs := [.slice _ _ _, .slice _ _ _, .slice _ _ _, .slice _ _ _]) rfl rfl rfl rfl (cells_blk (E1 _ _ p0)) ?_
    refine op_pure (pv_makeFunc (vs := []) (ws := [_, _]) rfl rfl) ?_
    refine op_buildSlice (zc := [_]) (vs := [(0, _)]) (cs := [_]) rfl rfl rfl rfl rfl rfl rfl fun b11 hb11 => ?_
    refine wp_norm [_, _, _] rfl ?_
    refine wp_pub 2 rfl rfl ?_
    intro h2 E2 p11
    refine wp_norm [_, _, _] rfl ?_
    refine op_fn (caps := []) (vs := [.agg #[.slice _ _ _, .slice _ _ _, .slice _ _ _, .slice _ _ _], .slice _ _ _]) rfl rfl rfl (known_yes s A0 A1 A2 A3 c0 c1 c2 c3 h2 (R.ext (Ext.trans (Ext.trans E0 E1) E2)) Sm.h0 Sm.h1 Sm.h2 Sm.h3 [_] [_] _ _ (rowFn p11) rfl (by simp) (ask1 ((unseen1_ask s l hl B cB A0 A1 A2 A3 c0 c1 c2 c3 b3 b2 Sm.h0 _ (RB.ext (Ext.trans E0 E1)) p1 (E1 _ _ p0)).ext E2)) he) ?_
    rintro _ h3 E3 ⟨A, c, mf, fm, fl, A', c', mf', fm', fl', rfl, X, X'⟩
    refine op_pure (pv_move (v := .tuple #[.agg #[.slice _ _ _, .map _, .map _, .map _, .map _, .slice _ _ _, .map _, .map _, .map _, .map _], .int .i64 _]) rfl) ?_
    refine op_pure (pv_of (v := .agg #[.slice _ _ _, .map _, .map _, .map _, .map _, .slice _ _ _, .map _, .map _, .map _, .map _]) rfl) ?_
    refine op_pure (pv_of (v := .int .i64 _) rfl) ?_
    refine op_alloc (cs := [_, _, _, _, _, _, _, _, _, _]) rfl rfl fun b6 hb6 => ?_
    refine wp_norm [_, _, _, _] rfl ?_
    refine op_storeP 3 (v := .agg #[.slice _ _ _, .map _, .map _, .map _, .map _, .slice _ _ _, .map _, .map _, .map _, .map _]) (vs := [_, _, _, _, _, _, _, _, _, _]) (c' := [_, _, _, _, _, _, _, _, _, _]) rfl rfl rfl rfl rfl rfl rfl rfl rfl ?_
    refine wp_norm [_, _, _, _] rfl ?_
    refine op_pure (pv_assign (v := .int .i64 _) rfl) ?_
    refine xp_seq ?_
    refine xp_seq ?_
    refine xp_region rfl ?_
    refine op_pure (pv_move (v := .int .i64 _) rfl) ?_
    refine op_pure (pv_of (v := .bool _) rfl) ?_
    refine xp_condF rfl (by decide) ?_
    refine xp_skip ?_
    refine xp_seq ?_
    refine xp_dw [] rfl rfl rfl ?_
    refine dw_load (i := 0) rfl (by decide +kernel) ?_
    refine op_loadA (cs := [.slice _ _ _, .slice _ _ _, .slice _ _ _, .slice _ _ _]) rfl rfl rfl rfl (cells_blk ((Ext.trans (Ext.trans E1 E2) E3) _ _ p0)) ?_
    refine dw_load (i := 1) rfl (by decide +kernel) ?_
    refine op_loadPA 3 (vs := [.slice _ _ _, .map _, .map _, .map _, .map _, .slice _ _ _, .map _, .map _, .map _, .map _]) rfl rfl rfl rfl rfl ?_
    refine dw_load (i := 2) rfl (by decide +kernel) ?_
    refine op_loadA (cs := [.slice _ _ _, .slice _ _ _, .slice _ _ _, .slice _ _ _]) rfl rfl rfl rfl (cells_blk ((Ext.trans (Ext.trans E1 E2) E3) _ _ p0)) ?_
    refine dw_load (i := 4) rfl (by decide +kernel) ?_
    refine op_load (v := .slice _ _ _) rfl rfl (by simp only [cellA, (Ext.trans E2 E3) _ _ p1]; rfl) ?_
    refine dw_eff (i := 3) rfl (by decide +kernel) ?_
    refine op_fn (caps := []) (vs := [.agg #[.slice _ _ _, .map _, .map _, .map _, .map _, .slice _ _ _, .map _, .map _, .map _, .map _], .agg #[.slice _ _ _, .slice _ _ _, .slice _ _ _, .slice _ _ _]]) rfl rfl rfl (failing_ok s SV A c mf fm fl A' c' mf' fm' fl' A0 A1 A2 A3 c0 c1 c2 c3 h3 (R.ext (Ext.trans (Ext.trans (Ext.trans E0 E1) E2) E3)) X X') ?_
    rintro _ h4 E4 rfl
    refine ⟨ext_wlm E4 _, ?_⟩
    refine dw_last (i := 5) rfl (by decide +kernel) (by decide +kernel) ?_
    refine op_fn (caps := []) (vs := [.agg #[.slice _ _ _, .slice _ _ _, .slice _ _ _, .slice _ _ _], .int .u64 _, .slice _ _ _]) rfl rfl rfl (unseen_ok s hw6 A0 A1 A2 A3 c0 c1 c2 c3 (failingM s) (failingM_lt hw6) l hl B cB h4 (RB.ext (Ext.trans (Ext.trans (Ext.trans (Ext.trans E0 E1) E2) E3) E4))) ?_
    rintro _ h5 E5 rfl
    refine dw_pure (i := 6) rfl (by decide +kernel) (pv_assign (v := .int .i64 _) rfl) ?_
    refine dw_pure (i := 7) rfl (by decide +kernel) (pv_assign (v := .int .i64 _) rfl) ?_
    refine dw_end rfl ?_
    refine xp_ret ?_
    refine res_list (vs := [_, _]) Try.results40 ⟨resV_tmp rfl rfl, resV_tmp rfl rfl, trivial⟩ fun V => ?_
    refine ⟨(Ext.trans (Ext.trans (Ext.trans (Ext.trans (Ext.trans (Ext.trans E0 E1) E2) E3) E4) E5) (ext_wl V)), ?_⟩
    rw [unseenV, if_pos he, he]; rfl
  · skip
    refine call_body Try.func40 rfl Try.ntmps40 rfl ?_
    refine xp_seq ?_
    refine xp_region rfl ?_
    refine op_box (v := .agg #[.slice _ _ _, .slice _ _ _, .slice _ _ _, .slice _ _ _]) (cs := [_, _, _, _]) rfl rfl fun b2 hb2 => ?_
    refine wp_norm [_] rfl ?_
    refine op_box (v := .slice _ _ _) (cs := [_]) rfl rfl fun b3 hb3 => ?_
    refine wp_norm [_, _] rfl ?_
    refine op_pure (pv_assign (v := .int .i64 _) rfl) ?_
    refine op_pure (pv_assign (v := .int .i64 _) rfl) ?_
    refine goes_pub 0 rfl ?_
    intro h0 E0 p0
    refine goes_pub 1 rfl ?_
    intro h1 E1 p1
    refine xp_seq ?_
    refine xp_region rfl ?_
    refine op_loadA (cs := [.slice _ _ _, .slice _ _ _, .slice _ _ _, .slice _ _ _]) rfl rfl rfl rfl (cells_blk (E1 _ _ p0)) ?_
    refine op_pure (pv_makeFunc (vs := []) (ws := [_, _]) rfl rfl) ?_
    refine op_buildSlice (zc := [_]) (vs := [(0, _)]) (cs := [_]) rfl rfl rfl rfl rfl rfl rfl fun b11 hb11 => ?_
    refine wp_norm [_, _, _] rfl ?_
    refine wp_pub 2 rfl rfl ?_
    intro h2 E2 p11
    refine wp_norm [_, _, _] rfl ?_
    refine op_fn (caps := []) (vs := [.agg #[.slice _ _ _, .slice _ _ _, .slice _ _ _, .slice _ _ _], .slice _ _ _]) rfl rfl rfl (known_no s A0 A1 A2 A3 c0 c1 c2 c3 h2 (R.ext (Ext.trans (Ext.trans E0 E1) E2)) Sm.h0 Sm.h1 Sm.h2 Sm.h3 [_] [_] _ _ (rowFn p11) rfl (by simp) (ask1 ((unseen1_ask s l hl B cB A0 A1 A2 A3 c0 c1 c2 c3 b3 b2 Sm.h0 _ (RB.ext (Ext.trans E0 E1)) p1 (E1 _ _ p0)).ext E2)) he) ?_
    rintro _ h3 E3 rfl
    refine op_pure (pv_move (v := .tuple #[.agg #[.slice _ _ _, .map _, .map _, .map _, .map _, .slice _ _ _, .map _, .map _, .map _, .map _], .int .i64 _]) rfl) ?_
    refine op_pure (pv_of (v := .agg #[.slice _ _ _, .map _, .map _, .map _, .map _, .slice _ _ _, .map _, .map _, .map _, .map _]) rfl) ?_
    refine op_pure (pv_of (v := .int .i64 _) rfl) ?_
    refine op_alloc (cs := [_, _, _, _, _, _, _, _, _, _]) rfl rfl fun b6 hb6 => ?_
    refine wp_norm [_, _, _, _] rfl ?_
    refine op_storeP 3 (v := .agg #[.slice _ _ _, .map _, .map _, .map _, .map _, .slice _ _ _, .map _, .map _, .map _, .map _]) (vs := [_, _, _, _, _, _, _, _, _, _]) (c' := [_, _, _, _, _, _, _, _, _, _]) rfl rfl rfl rfl rfl rfl rfl rfl rfl ?_
    refine wp_norm [_, _, _, _] rfl ?_
    refine op_pure (pv_assign (v := .int .i64 _) rfl) ?_
    refine xp_seq ?_
    refine xp_seq ?_
    refine xp_region rfl ?_
    refine op_pure (pv_move (v := .int .i64 _) rfl) ?_
    refine op_pure (pv_of (v := .bool _) rfl) ?_
    refine xp_condT rfl (by simpa [unseenE] using he) ?_
    refine xp_seq ?_
    refine xp_region rfl ?_
    refine op_pure (pv_move (v := .int .i64 _) rfl) ?_
    refine op_pure (pv_assign (v := .int .i64 _) rfl) ?_
    refine op_pure (pv_assign (v := .int .i64 _) rfl) ?_
    refine xp_ret ?_
    refine res_list (vs := [_, _]) Try.results40 ⟨resV_tmp rfl rfl, resV_tmp rfl rfl, trivial⟩ fun V => ?_
    refine ⟨(Ext.trans (Ext.trans (Ext.trans (Ext.trans E0 E1) E2) E3) (ext_wl V)), ?_⟩
    rw [unseenV, if_neg he]; rfl
end Go.Proofs.Ytndfkbapoinmkaa
/- Plain: all lists of so many numbers; the fewest of them that will do. Conditions: as each theorem states. -/
namespace Go.Wx
open Go Go.HL
/-- All lists of so many numbers from a on, below n. -/
def chM (n : Nat) : Nat → Nat → List (List Int)
  | 0, _ => [[]]
  | m + 1, a => (List.range' a (n - a)).flatMap fun i => (chM n m (i + 1)).map fun l => (i : Int) :: l
theorem chM_bd : ∀ n : Fin 8, ∀ m : Fin 8, ∀ a : Fin 10, (chM n.val m.val a.val).length ≤ 128 := by decide +kernel
theorem chM_len (n : Nat) : ∀ (m a : Nat) (l : List Int), l ∈ chM n m a → l.length = m
  | 0, a, l, h => by simp [chM] at h; subst h; rfl
  | m + 1, a, l, h => by
    simp only [chM, List.mem_flatMap, List.mem_map] at h
    obtain ⟨i, _, l', h1, rfl⟩ := h
    rw [List.length_cons, chM_len n m (i + 1) l' h1]
/-- Those that begin below k. -/
def chK (n m a k : Nat) : List (List Int) := (List.range' a (k - a)).flatMap fun i => (chM n m (i + 1)).map fun l => (i : Int) :: l
theorem chK_zero (n m a : Nat) : chK n m a a = [] := by simp [chK]
theorem chK_succ {n m a k : Nat} (h : a ≤ k) : chK n m a (k + 1) = chK n m a k ++ (chM n m (k + 1)).map fun l => (k : Int) :: l := by
  unfold chK
  rw [show k + 1 - a = (k - a) + 1 from by omega, List.range'_1_concat, List.flatMap_append, show a + (k - a) = k from by omega]
  simp
theorem chK_all {n m a : Nat} : chK n m a (max n a) = chM n (m + 1) a := by
  unfold chK
  rw [chM]
  congr 2
  omega
theorem combsM_eq (n : Nat) : ∀ (m a : Nat) (b : List Int), combsM n m a b = (chM n m a).map fun l => b ++ l
  | 0, a, b => by simp [combsM, chM]
  | m + 1, a, b => by
    simp only [combsM, chM, List.map_flatMap, List.map_map]
    congr 1
    funext i
    rw [combsM_eq n m (i + 1)]
    congr 1
    funext l
    simp
end Go.Wx
/- Walks: all lists of so many numbers. Conditions: as each theorem states. -/
namespace Go.Proofs.Ytndfkbapoinmkaa
open Go Go.HL Go.Proofs Go.Wx
set_option maxRecDepth 100000
/-- Values that are slices which hold the lists. -/
def LLv (h : AH) (ls : List (List Int)) (vs : List Value) : Prop := vs.length = ls.length ∧ ∀ (i : Nat) l v, ls[i]? = some l → vs[i]? = some v → SlR h 1 intC l v
theorem LLv.ext {h h' : AH} {ls : List (List Int)} {vs : List Value} (x : LLv h ls vs) (E : Ext h h') : LLv h' ls vs := ⟨x.1, fun i l v a b => (x.2 i l v a b).ext E⟩
theorem LLv.nil {h : AH} : LLv h [] [] := ⟨rfl, fun i l v a _ => by simp at a⟩
theorem LLv.snoc {h : AH} {ls : List (List Int)} {vs : List Value} (x : LLv h ls vs) {l : List Int} {v : Value} (s : SlR h 1 intC l v) : LLv h (ls ++ [l]) (vs ++ [v]) := by
  refine ⟨by simp [x.1], fun i l' v' a b => ?_⟩
  by_cases hi : i < ls.length
  · rw [List.getElem?_append_left hi] at a
    rw [List.getElem?_append_left (by rw [x.1]; exact hi)] at b
    exact x.2 i l' v' a b
  · have h1 := (List.getElem?_eq_some_iff.1 a).1
    have hie : i = ls.length := by simp at h1; omega
    subst hie
    rw [List.getElem?_append_right (Nat.le_refl _), Nat.sub_self] at a
    rw [List.getElem?_append_right (by rw [x.1]; exact Nat.le_refl _), x.1, Nat.sub_self] at b
    simp at a b
    subst a b
    exact s
/-- A slice of slices. -/
def LLR (h : AH) (ls : List (List Int)) (v : Value) : Prop := ∃ A c vs, v = .slice A ls.length c ∧ Row h 1 fnC A vs ∧ LLv h ls vs
theorem accR1 {e : TypeId} {b : Nat} {v : Value} : AccR e 1 [v] ⟨some (b, .cells #[v] e (0, 0)), some ⟨b, 0, none⟩, 1, 1⟩ := .inr ⟨b, 1, 1, [], rfl, rfl, rfl, rfl⟩
theorem flat_fn : ∀ l : List Value, l.flatMap fnC = l
  | [] => rfl
  | v :: l => by rw [List.flatMap_cons, flat_fn l]; rfl
end Go.Proofs.Ytndfkbapoinmkaa
/- Plain: the fewest weeks that will do. Conditions: as each theorem states. -/
namespace Go.Wx
open Go Go.HL
theorem fewestP_step (n : Nat) (p : List Int → Bool) (k : Nat) : fewestP n p (k + 1) = (fewestP n p k).or ((chM n k 0).find? p) := by
  rw [fewestP_succ, combsM_eq]
  simp
theorem fewestP_mono {n : Nat} {p : List Int → Bool} {k : Nat} {x : List Int} (h : fewestP n p k = some x) : ∀ j, fewestP n p (k + j) = some x
  | 0 => h
  | j + 1 => by rw [← Nat.add_assoc, fewestP_step, fewestP_mono h j]; rfl
theorem fewestP_mem {n : Nat} {p : List Int → Bool} : ∀ {k : Nat} {x : List Int}, fewestP n p k = some x → ∃ m, m < k ∧ x ∈ chM n m 0 ∧ p x = true
  | 0, x, h => by simp [fewestP] at h
  | k + 1, x, h => by
    rw [fewestP_step] at h
    cases hf : fewestP n p k with
    | some y =>
      rw [hf] at h
      obtain ⟨m, a, b, c⟩ := fewestP_mem hf
      simp at h
      subst h
      exact ⟨m, by omega, b, c⟩
    | none =>
      rw [hf] at h
      simp at h
      exact ⟨k, by omega, List.mem_of_find?_eq_some h, List.find?_some h⟩
/-- A list that will do tells that one of at most as many numbers is found. -/
theorem fewestP_le {n : Nat} {p : List Int → Bool} {m : Nat} {x : List Int} (hx : x ∈ chM n m 0) (hp : p x = true) : ∀ {k : Nat}, m < k → ∃ y, fewestP n p k = some y ∧ y.length ≤ m
  | 0, h => absurd h (Nat.not_lt_zero m)
  | k + 1, h => by
    rw [fewestP_step]
    by_cases hk : m < k
    · obtain ⟨y, e, hl⟩ := fewestP_le hx hp hk
      exact ⟨y, by rw [e]; rfl, hl⟩
    · have hmk : m = k := by omega
      subst hmk
      cases hf : fewestP n p m with
      | some y =>
        obtain ⟨m', a, b, _⟩ := fewestP_mem hf
        exact ⟨y, rfl, by rw [chM_len n m' 0 y b]; omega⟩
      | none =>
        cases hg : (chM n m 0).find? p with
        | none => exact absurd hp (by have := List.find?_eq_none.1 hg x hx; simpa using this)
        | some y => exact ⟨y, rfl, by rw [chM_len n m 0 y (List.mem_of_find?_eq_some hg)]; exact Nat.le_refl _⟩
theorem full_mem (n : Nat) : ∀ (m a : Nat), a + m = n → ((List.range' a m).map fun i : Nat => (i : Int)) ∈ chM n m a
  | 0, a, _ => by simp [chM]
  | m + 1, a, h => by
    simp only [chM, List.mem_flatMap, List.mem_map]
    refine ⟨a, ?_, _, full_mem n m (a + 1) (by omega), by rw [List.range'_succ, List.map_cons]⟩
    rw [List.mem_range'_1]
    omega
theorem chM_asc (n : Nat) : ∀ (m a : Nat) (l : List Int), l ∈ chM n m a → (∀ z ∈ l, (a : Int) ≤ z ∧ z < n) ∧ l.Pairwise (· < ·)
  | 0, a, l, h => by simp [chM] at h; subst h; simp
  | m + 1, a, l, h => by
    simp only [chM, List.mem_flatMap, List.mem_map, List.mem_range'_1] at h
    obtain ⟨i, ⟨h1, h2⟩, l', h3, rfl⟩ := h
    obtain ⟨a1, a2⟩ := chM_asc n m (i + 1) l' h3
    refine ⟨fun z hz => ?_, List.pairwise_cons.2 ⟨fun z hz => ?_, a2⟩⟩
    · rcases List.mem_cons.1 hz with rfl | hz
      · omega
      · have := a1 z hz; omega
    · have := a1 z hz; omega
theorem lookAt_le {d : Int} : ∀ (l : List Int) (n i : Int), i ∈ l → d ≤ i → lookAt n d l ≤ i
  | [], n, i, h, _ => by cases h
  | x :: l, n, i, h, hd => by
    rw [show lookAt n d (x :: l) = lookAt (if d ≤ x then min n x else n) d l from rfl]
    rcases List.mem_cons.1 h with rfl | h
    · rw [if_pos hd]
      have := (lookAt_bd d l (min n i)).2
      omega
    · exact lookAt_le l _ i h hd
theorem unseenOf_le {n w : Int} {ins : List Int} (hw : 0 ≤ w) : ∀ (ds : List Int), (∀ d ∈ ds, lookAt n d ins - d ≤ w) → unseenOf n ds ins ≤ w := by
  have key : ∀ (ds : List Int), (∀ d ∈ ds, lookAt n d ins - d ≤ w) → ∀ a : Int, a ≤ w → ds.foldl (fun a d => max a (lookAt n d ins - d)) a ≤ w := by
    intro ds
    induction ds with
    | nil => intro _ a h; exact h
    | cons d l ih =>
      intro hd a h
      have h1 := hd d (List.mem_cons_self ..)
      exact ih (fun x hx => hd x (List.mem_cons_of_mem _ hx)) _ (by show max _ _ ≤ _; omega)
  exact fun ds h => key ds h 0 hw
/-- Whether some weeks will do. -/
def willDo (s : Season) (w : Int) (l : List Int) : Bool := decide (unseenOf s.heats.length (listM (failingM s)) l ≤ w)
theorem failing_bd {s : Season} (h1 : 1 ≤ s.heats.length) {d : Int} (h : d ∈ listM (failingM s)) : 0 ≤ d ∧ d < s.heats.length := by
  obtain ⟨i, rfl, _, hb⟩ := listN_mem h
  unfold failingM at hb
  rw [uptoM_bit] at hb
  simp at hb
  omega
theorem will_full {s : Season} (h1 : 1 ≤ s.heats.length) {w : Int} (hw : 0 ≤ w) : willDo s w ((List.range' 0 s.heats.length).map fun i : Nat => (i : Int)) = true := by
  unfold willDo
  rw [decide_eq_true_eq]
  refine unseenOf_le hw _ fun d hd => ?_
  have hb := failing_bd h1 hd
  have := lookAt_le ((List.range' 0 s.heats.length).map fun i : Nat => (i : Int)) s.heats.length d (List.mem_map.2 ⟨d.toNat, by rw [List.mem_range'_1]; omega, by omega⟩) (Int.le_refl d)
  omega
theorem will_some {s : Season} (h1 : 1 ≤ s.heats.length) {w : Int} (hw : 0 ≤ w) : ∃ x, fewestP s.heats.length (willDo s w) (s.heats.length + 1) = some x := by
  obtain ⟨y, e, _⟩ := fewestP_le (full_mem s.heats.length s.heats.length 0 (by omega)) (will_full h1 hw) (Nat.lt_succ_self _)
  exact ⟨y, e⟩
end Go.Wx
/- Walks: the law on weeks in which somebody looks. Conditions: as each theorem states. -/
namespace Go.Proofs.Ytndfkbapoinmkaa
open Go Go.HL Go.Proofs Go.Wx Go.RowKit
set_option maxRecDepth 100000
end Go.Proofs.Ytndfkbapoinmkaa
/- Plain: which weathers there are; another weather; sets and their ends. Conditions: as each theorem states. -/
namespace Go.Wx
open Go Go.HL
theorem skies_at : ∀ (rs : List Rg) (k : Nat) (x y : Sky), k + rs.length ≤ 6 → y ∈ skiesM rs k x → (∀ (i : Nat) r, rs[i]? = some r → r.mn ≤ y.at (k + i) ∧ y.at (k + i) ≤ r.mx) ∧ ∀ i, i < 6 → i < k ∨ k + rs.length ≤ i → y.at i = x.at i
  | [], k, x, y, _, h => by
    rw [skiesM, List.mem_singleton] at h
    subst h
    exact ⟨fun i r hr => by simp at hr, fun _ _ _ => rfl⟩
  | r :: rs, k, x, y, hl, h => by
    rw [List.length_cons] at hl ⊢
    rw [skiesM, List.mem_flatMap] at h
    obtain ⟨n, hn, h⟩ := h
    rw [mem_rangeI] at hn
    obtain ⟨h1, h2⟩ := skies_at rs (k + 1) _ y (by omega) h
    have hk : y.at k = n := by rw [h2 k (by omega) (by omega), Sky.at_set x n (by omega) (by omega), if_pos rfl]
    refine ⟨fun i q hq => ?_, fun i hi hc => ?_⟩
    · cases i with
      | zero => simp at hq; subst hq; rw [Nat.add_zero, hk]; omega
      | succ i =>
        have := h1 i q (by simpa using hq)
        rw [show k + 1 + i = k + (i + 1) by omega] at this
        exact this
    · rw [h2 i hi (by omega), Sky.at_set x n (by omega) hi, if_neg (by omega)]
/-- A weather is one of a season's just if each week is within its range. -/
theorem mem_allSkies {s : Season} {n : Int} (h6 : (weatherM s n).length ≤ 6) {y : Sky} : y ∈ allSkies s n ↔ (∀ (i : Nat) r, (weatherM s n)[i]? = some r → r.mn ≤ y.at i ∧ y.at i ≤ r.mx) ∧ ∀ i, i < 6 → (weatherM s n).length ≤ i → y.at i = 0 := by
  have z : ∀ i, i < 6 → sky0.at i = 0 := fun i hi => by
    match i, hi with
    | 0, _ => rfl
    | 1, _ => rfl
    | 2, _ => rfl
    | 3, _ => rfl
    | 4, _ => rfl
    | 5, _ => rfl
    | i + 6, h => omega
  constructor
  · intro h
    obtain ⟨h1, h2⟩ := skies_at _ 0 sky0 y (by omega) h
    exact ⟨fun i r hr => by have := h1 i r hr; rwa [Nat.zero_add] at this, fun i hi hl => by rw [h2 i hi (by omega), z i hi]⟩
  · rintro ⟨h1, h2⟩
    exact mem_skies _ 0 sky0 (by omega) (fun i r hr => by rw [Nat.zero_add]; exact h1 i r hr) (fun i hi hc => by rw [h2 i hi (by omega), z i hi])
theorem last_le {m m' : Nat} (h : ∀ w', w' < 7 → m'.testBit w' = true → ∃ w, w' ≤ w ∧ w < 7 ∧ m.testBit w = true) (hm : listM m' ≠ []) : (listM m').getLastD 0 ≤ (listM m).getLastD 0 := by
  have hl : (listM m').getLastD 0 ∈ listM m' := by
    rw [List.getLastD_eq_getLast?, List.getLast?_eq_some_getLast hm]
    exact List.getLast_mem hm
  obtain ⟨i, e, hi, hb⟩ := listN_mem hl
  obtain ⟨w, h1, h2, h3⟩ := h i hi hb
  have hmem : ((w : Nat) : Int) ∈ listM m := mem_listN.2 ⟨w, rfl, h2, h3⟩
  have hne : listM m ≠ [] := List.ne_nil_of_mem hmem
  have hg : (w : Int) ≤ (listM m).getLastD 0 := by
    rw [List.getLastD_eq_getLast?, List.getLast?_eq_some_getLast hne, Option.getD_some]
    have hp : (listM m).Pairwise (· < ·) := listN_pair m 7
    obtain ⟨k, hk⟩ := List.mem_iff_getElem?.1 hmem
    obtain ⟨hkl, hke⟩ := List.getElem?_eq_some_iff.1 hk
    rw [List.getLast_eq_getElem, ← hke]
    by_cases hkk : k = (listM m).length - 1
    · subst hkk; exact Int.le_refl _
    · have := List.pairwise_iff_getElem.1 hp k ((listM m).length - 1) hkl (by omega) (by omega)
      omega
  omega
end Go.Wx
/- Walks: another weather; seasons compared. Conditions: as each theorem states. -/
namespace Go.Proofs.Ytndfkbapoinmkaa
open Go Go.HL Go.Proofs Go.Wx
set_option maxRecDepth 100000
end Go.Proofs.Ytndfkbapoinmkaa
/- Walks: seasons compared. Conditions: as each theorem states. -/
namespace Go.Proofs.Ytndfkbapoinmkaa
open Go Go.HL Go.Proofs Go.Wx
set_option maxRecDepth 100000
theorem rgEqD (d : Nat) (a b : Rg) : pev Try.prog (Op.equalIn (d + 2) 51 (.agg #[.int .i64 a.mn, .int .i64 a.mx]) (.agg #[.int .i64 b.mn, .int .i64 b.mx])) = some (decide (a = b)) := by
  have h1 := eq_struct (P := Try.prog) (t := 51) (d := d + 1) (fs := [_, _]) (xs := #[.int .i64 a.mn, .int .i64 a.mx]) (ys := #[.int .i64 b.mn, .int .i64 b.mx]) (rs := [a.mn == b.mn, a.mx == b.mx]) rfl (by kernel_rfl) rfl ?_
  · refine h1.trans ?_
    obtain ⟨a1, a2⟩ := a
    obtain ⟨b1, b2⟩ := b
    simp only [List.all_cons, List.all_nil, id, Bool.and_true, Option.some.injEq]
    rw [Bool.eq_iff_iff]
    simp
  · intro i f r hf hr
    match i, hf, hr with
    | 0, hf, hr => cases hf; cases hr; exact ⟨by decide, _, _, rfl, rfl, eq_int rfl _ _⟩
    | 1, hf, hr => cases hf; cases hr; exact ⟨by decide, _, _, rfl, rfl, eq_int rfl _ _⟩
    | i + 2, hf, hr => simp at hf
theorem rgEq (a b : Rg) : pev Try.prog (Op.equalIn Op.maxDepth 51 (.agg (rgC a).toArray) (.agg (rgC b).toArray)) = some (decide (a = b)) := rgEqD 9998 a b
theorem jointEq (a b : Joint) : pev Try.prog (Op.equalIn Op.maxDepth 53 (.agg (jointC a).toArray) (.agg (jointC b).toArray)) = some (decide (a = b)) := by
  have h1 := eq_struct (P := Try.prog) (t := 53) (d := 9999) (fs := [_, _, _, _, _]) (xs := (jointC a).toArray) (ys := (jointC b).toArray) (rs := [a.kind == b.kind, decide (a.high = b.high), decide (a.low = b.low), decide (a.weeks = b.weeks), decide (a.life = b.life)]) rfl (by kernel_rfl) rfl ?_
  · refine h1.trans ?_
    obtain ⟨a1, a2, a3, a4, a5⟩ := a
    obtain ⟨b1, b2, b3, b4, b5⟩ := b
    simp only [List.all_cons, List.all_nil, id, Bool.and_true, Option.some.injEq]
    rw [Bool.eq_iff_iff]
    simp
  · intro i f r hf hr
    match i, hf, hr with
    | 0, hf, hr => cases hf; cases hr; exact ⟨by decide, _, _, rfl, rfl, eq_int rfl _ _⟩
    | 1, hf, hr => cases hf; cases hr; exact ⟨by decide, _, _, rfl, rfl, rgEqD 9997 _ _⟩
    | 2, hf, hr => cases hf; cases hr; exact ⟨by decide, _, _, rfl, rfl, rgEqD 9997 _ _⟩
    | 3, hf, hr => cases hf; cases hr; exact ⟨by decide, _, _, rfl, rfl, rgEqD 9997 _ _⟩
    | 4, hf, hr => cases hf; cases hr; exact ⟨by decide, _, _, rfl, rfl, rgEqD 9997 _ _⟩
    | i + 5, hf, hr => simp at hf
theorem seenEq (a b : Seen) : pev Try.prog (Op.equalIn Op.maxDepth 56 (.agg (seenC a).toArray) (.agg (seenC b).toArray)) = some (decide (a = b)) := by
  have h1 := eq_struct (P := Try.prog) (t := 56) (d := 9999) (fs := [_, _, _]) (xs := (seenC a).toArray) (ys := (seenC b).toArray) (rs := [a.joint == b.joint, a.week == b.week, a.failed == b.failed]) rfl (by kernel_rfl) rfl ?_
  · refine h1.trans ?_
    obtain ⟨a1, a2, a3⟩ := a
    obtain ⟨b1, b2, b3⟩ := b
    simp only [List.all_cons, List.all_nil, id, Bool.and_true, Option.some.injEq]
    rw [Bool.eq_iff_iff]
    simp [and_assoc]
  · intro i f r hf hr
    match i, hf, hr with
    | 0, hf, hr => cases hf; cases hr; exact ⟨by decide, _, _, rfl, rfl, eq_int rfl _ _⟩
    | 1, hf, hr => cases hf; cases hr; exact ⟨by decide, _, _, rfl, rfl, eq_int rfl _ _⟩
    | 2, hf, hr => cases hf; cases hr; exact ⟨by decide, _, _, rfl, rfl, eq_bool rfl _ _⟩
    | i + 3, hf, hr => simp at hf
/-- Whether two lists are the same up to a place. -/
def sameN {α : Type} [DecidableEq α] (p : Bool) (a b : List α) (k : Nat) : Bool := p && decide (a.take k = b.take k)
theorem sameN_zero {α : Type} [DecidableEq α] (p : Bool) (a b : List α) : sameN p a b 0 = p := by simp [sameN]
theorem sameN_succ {α : Type} [DecidableEq α] {a b : List α} {k : Nat} (ha : k < a.length) (hb : k < b.length) (h : sameN true a b k = true) : sameN true a b (k + 1) = decide (a[k] = b[k]) := by
  unfold sameN at h ⊢
  simp only [Bool.true_and, decide_eq_true_eq] at h
  rw [Bool.true_and, take_snoc ha, take_snoc hb, h, decide_eq_decide]
  constructor
  · intro e
    have := List.append_cancel_left e
    injection this
  · intro e; rw [e]
theorem sameN_all {α : Type} [DecidableEq α] {a b : List α} (hl : a.length = b.length) (p : Bool) : sameN p a b a.length = (p && decide (a = b)) := by
  unfold sameN
  rw [List.take_length, hl, List.take_length]
theorem sameN_no {α : Type} [DecidableEq α] {a b : List α} {k : Nat} {p : Bool} (h : sameN p a b k = false) : (p && decide (a = b)) = false := by
  unfold sameN at h
  cases p with
  | false => rfl
  | true =>
    rw [Bool.true_and, decide_eq_false_iff_not] at h ⊢
    intro e; rw [e] at h; exact h rfl
theorem sameRanges_ok (a b : List Rg) (A B : Option Addr) (ca cb : Nat) (h : AH) (Ra : Row h 2 rgC A a) (Rb : Row h 2 rgC B b) (ha : a.length < 2 ^ 40) :
    FnT Try.prog 52 #[.slice A a.length ca, .slice B b.length cb] h (fun v _ => v = .bool (decide (a = b))) := by
  refine call_body Try.func52 rfl Try.ntmps52 rfl ?_
  refine xp_seq ?_
  refine xp_region rfl ?_
  refine op_pure (pv_assign (v := .bool _) rfl) ?_
  refine xp_seq ?_
  refine xp_region rfl ?_
  refine op_pure (pv_move (v := .slice _ _ _) rfl) ?_
  refine op_pure (pv_len rfl rfl) ?_
  refine op_pure (pv_move (v := .slice _ _ _) rfl) ?_
  refine op_pure (pv_len rfl rfl) ?_
  refine op_pure (pv_of (v := .bool _) rfl) ?_
  refine op_pure (pv_assign (v := .bool _) rfl) ?_
  refine xp_seq ?_
  refine xp_seq ?_
  refine xp_region rfl ?_
  refine op_pure (pv_assign (v := .int .i64 _) rfl) ?_
  refine xp_block ?_
  obtain ⟨p, hp⟩ : ∃ p, decide (a.length = b.length) = p := ⟨_, rfl⟩
  have hp' : Value.bool ((a.length : Int) == (b.length : Int)) = .bool p := by rw [natBeq, hp]
  refine xp_loopB [5, 6, 12, 13, 14, 15, 16, 17, 18, 19, 20, 21, 22, 23, 24, 25, 26, 27, 28, 29] 0 (α := Nat) (fun k => [(5, .bool (sameN p a b k)), (6, .int .i64 k)]) (fun k => _) (fun k h_k => k ≤ a.length) (fun k => a.length - k) (0) ⟨(by rw [sameN_zero]; exact hp'), rfl, trivial⟩ (rfl) (Nat.zero_le _) ?_
  rintro k T1 h_k E_k J_k
  refine goes_norm [] rfl ?_
  obtain ⟨q, hq⟩ : ∃ q, sameN p a b k = q := ⟨_, rfl⟩
  rw [hq]
  cases q with
  | false =>
    refine xp_seq ?_
    refine xp_seq ?_
    refine xp_region rfl ?_
    refine op_pure (pv_move (v := .bool _) rfl) ?_
    refine op_pure (pv_move (v := .bool _) rfl) ?_
    refine guard_no rfl rfl ?_
    refine guard_no rfl rfl ?_
    refine guard_no rfl rfl ?_
    refine guard_no rfl rfl ?_
    refine op_pure (pv_pickF rfl rfl (v := .bool _) rfl) ?_
    refine xp_condF rfl (rfl) ?_
    refine xp_exit ?_
    refine xp_seq ?_
    refine xp_region rfl ?_
    refine op_pure (pv_move (v := .bool _) rfl) ?_
    refine op_pure (pv_assign (v := .bool _) rfl) ?_
    refine xp_ret ?_
    refine res_list (vs := [_]) Try.results52 ⟨resV_tmp rfl rfl, trivial⟩ fun V => ?_
    exact ⟨(Ext.trans E_k (ext_wl V)), congrArg Value.bool (by have e := sameN_no hq; rw [← hp] at e; cases hd : decide (a = b) with | false => rfl | true => rw [hd] at e; have := of_decide_eq_true hd; subst this; simp at e)⟩
  | true =>
    have hpt : p = true := by cases p with | true => rfl | false => cases hq
    subst hpt
    have hlen : a.length = b.length := of_decide_eq_true hp
    refine xp_seq ?_
    refine xp_seq ?_
    refine xp_region rfl ?_
    refine op_pure (pv_move (v := .bool _) rfl) ?_
    refine op_pure (pv_move (v := .bool _) rfl) ?_
    refine guard_yes rfl rfl ?_
    refine op_pure (pv_move (v := .int .i64 _) rfl) ?_
    refine guard_yes rfl rfl ?_
    refine op_pure (pv_move (v := .slice _ _ _) rfl) ?_
    refine guard_yes rfl rfl ?_
    refine op_pure (pv_len rfl rfl) ?_
    refine guard_yes rfl rfl ?_
    refine op_pure (pv_of (v := .bool _) rfl) ?_
    refine op_pure (pv_pickT rfl rfl (v := .bool _) rfl) ?_
    refine xp_cond rfl (fun ht => ?_) (fun ht => ?_)
    · skip
      have hlt : k < a.length := ltI ht
      have hlt2 : k < b.length := by omega
      obtain ⟨g, off, hA, hc⟩ := (Ra.ext E_k).at (by omega) hlt
      obtain ⟨g2, off2, hB, hc2⟩ := (Rb.ext E_k).at (by omega) hlt2
      refine xp_skip ?_
      refine xp_seq ?_
      refine xp_block ?_
      refine xp_dw [] rfl rfl rfl ?_
      refine dw_pure (i := 0) rfl (by decide +kernel) (pv_move (v := .slice _ _ _) rfl) ?_
      refine dw_pure (i := 1) rfl (by decide +kernel) (pv_move (v := .int .i64 _) rfl) ?_
      refine dw_pure (i := 2) rfl (by decide +kernel) (pv_indexE rfl hA rfl rfl rfl (by omega) (by omega)) ?_
      refine dw_load (i := 3) rfl (by decide +kernel) ?_
      refine op_loadA rfl rfl rfl rfl (hc) ?_
      refine dw_pure (i := 4) rfl (by decide +kernel) (pv_move (v := .slice _ _ _) rfl) ?_
      refine dw_pure (i := 5) rfl (by decide +kernel) (pv_move (v := .int .i64 _) rfl) ?_
      refine dw_pure (i := 6) rfl (by decide +kernel) (pv_indexE rfl hB rfl rfl rfl (by omega) (by omega)) ?_
      refine dw_load (i := 7) rfl (by decide +kernel) ?_
      refine op_loadA rfl rfl rfl rfl (hc2) ?_
      refine dw_pure (i := 8) rfl (by decide +kernel) (pv_eqA rfl rfl (by kernel_rfl) (rgEq _ _)) ?_
      refine dw_pure (i := 9) rfl (by decide +kernel) (pv_assign (v := .bool _) rfl) ?_
      refine dw_end rfl ?_
      refine xp_region rfl ?_
      refine op_pure (pv_move (v := .int .i64 _) rfl) ?_
      refine op_pure (pv_arith rfl (by omega)) ?_
      refine op_pure (pv_assign (v := .int .i64 _) rfl) ?_
      refine ⟨k + 1, ⟨(by rw [sameN_succ hlt hlt2 hq]; rfl), rfl, trivial⟩, rfl, rfl, E_k, fun h3 E3 => hlt, by first | omega | (dsimp only; omega), ?_⟩
      repeat (first | exact off_base _ _ _ | refine off_upd (by decide) ?_ | refine off_updL rfl ?_ | refine off_mix rfl ?_)
    · skip
      have hke : k = a.length := by have := geI ht; omega
      subst hke
      refine xp_exit ?_
      refine xp_seq ?_
      refine xp_region rfl ?_
      refine op_pure (pv_move (v := .bool _) rfl) ?_
      refine op_pure (pv_assign (v := .bool _) rfl) ?_
      refine xp_ret ?_
      refine res_list (vs := [_]) Try.results52 ⟨resV_tmp rfl rfl, trivial⟩ fun V => ?_
      exact ⟨(Ext.trans E_k (ext_wl V)), congrArg Value.bool (by rw [sameN_all hlen] at hq; rw [← hq]; rfl)⟩
structure PreS (a b : Season) (p : Bool) : Prop where
  no : p = false → a ≠ b
  yes : p = true → a.heats = b.heats ∧ a.damps = b.damps ∧ a.joints.length = b.joints.length ∧ a.reports.length = b.reports.length
set_option maxHeartbeats 2000000 in
theorem sameSeasons_ok (a b : Season) (A0 A1 A2 A3 B0 B1 B2 B3 : Option Addr) (c0 c1 c2 c3 d0 d1 d2 d3 : Nat) (h : AH) (Ra : SeasonR h A0 A1 A2 A3 a) (Rb : SeasonR h B0 B1 B2 B3 b) (h0 : a.heats.length < 2 ^ 40) (h1 : a.damps.length < 2 ^ 40) (h2 : a.joints.length < 2 ^ 40) (h3 : a.reports.length < 2 ^ 40) :
    FnT Try.prog 31 #[seasonV A0 A1 A2 A3 c0 c1 c2 c3 a, seasonV B0 B1 B2 B3 d0 d1 d2 d3 b] h (fun v _ => v = .bool (decide (a = b))) := by
  refine call_body Try.func31 rfl Try.ntmps31 rfl ?_
  refine xp_seq ?_
  refine xp_region rfl ?_
  refine op_box (v := .agg #[.slice _ _ _, .slice _ _ _, .slice _ _ _, .slice _ _ _]) (cs := [_, _, _, _]) rfl rfl fun b2 hb2 => ?_
  refine wp_norm [_] rfl ?_
  refine op_box (v := .agg #[.slice _ _ _, .slice _ _ _, .slice _ _ _, .slice _ _ _]) (cs := [_, _, _, _]) rfl rfl fun b3 hb3 => ?_
  refine wp_norm [_, _] rfl ?_
  refine op_pure (pv_assign (v := .bool _) rfl) ?_
  refine xp_cutB [5, 8, 9, 10, 11, 12, 13, 14, 15, 16, 17, 18, 19, 20, 21, 22, 23, 24, 25, 26, 27, 28, 29, 30, 31, 32, 33, 34, 35, 36, 37] 2 (α := Bool) (fun p => [(5, .bool p)]) (fun p L => L) (fun p h_p => PreS a b p) ?_ ?_
  · skip
    refine xp_region rfl ?_
    refine op_pure (pv_fieldAddr rfl rfl rfl rfl 0 rfl) ?_
    refine op_loadP 0 (v := .slice _ _ _) rfl rfl rfl rfl ?_
    refine op_pure (pv_fieldAddr rfl rfl rfl rfl 0 rfl) ?_
    refine op_loadP 1 (v := .slice _ _ _) rfl rfl rfl rfl ?_
    have HS := sameRanges_ok a.heats b.heats A0 B0 c0 d0 h (Ra.heats.ext (Ext.refl _)) (Rb.heats.ext (Ext.refl _)) h0
    rcases Bool.eq_false_or_eq_true (decide (a.heats = b.heats)) with e1 | e1
    · skip
      rw [e1] at HS
      have f1 := of_decide_eq_true e1
      refine op_fn (caps := []) (vs := [.slice _ _ _, .slice _ _ _]) rfl rfl rfl (HS) ?_
      rintro _ g1 E1 rfl
      refine op_pure (pv_move (v := .bool _) rfl) ?_
      refine guard_yes rfl rfl ?_
      refine op_pure (pv_fieldAddr rfl rfl rfl rfl 1 rfl) ?_
      refine guard_yes rfl rfl ?_
      refine op_loadP 0 (v := .slice _ _ _) rfl rfl rfl rfl ?_
      refine guard_yes rfl rfl ?_
      refine op_pure (pv_fieldAddr rfl rfl rfl rfl 1 rfl) ?_
      refine guard_yes rfl rfl ?_
      refine op_loadP 1 (v := .slice _ _ _) rfl rfl rfl rfl ?_
      refine guard_yes rfl rfl ?_
      have HD := sameRanges_ok a.damps b.damps A1 B1 c1 d1 g1 (Ra.damps.ext E1) (Rb.damps.ext E1) h1
      rcases Bool.eq_false_or_eq_true (decide (a.damps = b.damps)) with e2 | e2
      · skip
        rw [e2] at HD
        have f2 := of_decide_eq_true e2
        refine op_fn (caps := []) (vs := [.slice _ _ _, .slice _ _ _]) rfl rfl rfl (HD) ?_
        rintro _ g2 E2 rfl
        rcases Bool.eq_false_or_eq_true ((a.joints.length : Int) == (b.joints.length : Int)) with e3 | e3
        · skip
          have f3 : a.joints.length = b.joints.length := by simpa [natBeq] using e3
          refine op_pure (pv_pickT rfl rfl (v := .bool _) rfl) ?_
          refine op_pure (pv_move (v := .bool _) rfl) ?_
          refine guard_yes rfl rfl ?_
          refine op_pure (pv_fieldAddr rfl rfl rfl rfl 2 rfl) ?_
          refine guard_yes rfl rfl ?_
          refine op_loadP 0 (v := .slice _ _ _) rfl rfl rfl rfl ?_
          refine guard_yes rfl rfl ?_
          refine op_pure (pv_len rfl rfl) ?_
          refine guard_yes rfl rfl ?_
          refine op_pure (pv_fieldAddr rfl rfl rfl rfl 2 rfl) ?_
          refine guard_yes rfl rfl ?_
          refine op_loadP 1 (v := .slice _ _ _) rfl rfl rfl rfl ?_
          refine guard_yes rfl rfl ?_
          refine op_pure (pv_len rfl rfl) ?_
          refine guard_yes rfl rfl ?_
          refine op_pure (pv_of (v := .bool _) rfl) ?_
          refine op_pure (pv_pickT rfl rfl (v := .bool _) rfl) ?_
          refine op_pure (pv_move (v := .bool _) rfl) ?_
          refine guard_yes rfl e3 ?_
          refine op_pure (pv_fieldAddr rfl rfl rfl rfl 3 rfl) ?_
          refine guard_yes rfl e3 ?_
          refine op_loadP 0 (v := .slice _ _ _) rfl rfl rfl rfl ?_
          refine guard_yes rfl e3 ?_
          refine op_pure (pv_len rfl rfl) ?_
          refine guard_yes rfl e3 ?_
          refine op_pure (pv_fieldAddr rfl rfl rfl rfl 3 rfl) ?_
          refine guard_yes rfl e3 ?_
          refine op_loadP 1 (v := .slice _ _ _) rfl rfl rfl rfl ?_
          refine guard_yes rfl e3 ?_
          refine op_pure (pv_len rfl rfl) ?_
          refine guard_yes rfl e3 ?_
          refine op_pure (pv_of (v := .bool _) rfl) ?_
          refine op_pure (pv_pickT rfl e3 (v := .bool _) rfl) ?_
          refine op_pure (pv_assign (v := .bool _) rfl) ?_
          refine ⟨((a.reports.length : Int) == (b.reports.length : Int)), ⟨rfl, trivial⟩, rfl, rfl, (Ext.trans E1 E2), fun h3 E3 => ⟨fun e hh => by subst hh; simp at e, fun e => ⟨f1, f2, f3, by simpa [natBeq] using e⟩⟩, ?_⟩
          repeat (first | exact off_refl _ _ | exact off_base _ _ _ | refine off_upd (by decide) ?_ | refine off_updL rfl ?_ | refine off_mix rfl ?_)
        · skip
          refine op_pure (pv_pickT rfl rfl (v := .bool _) rfl) ?_
          refine op_pure (pv_move (v := .bool _) rfl) ?_
          refine guard_yes rfl rfl ?_
          refine op_pure (pv_fieldAddr rfl rfl rfl rfl 2 rfl) ?_
          refine guard_yes rfl rfl ?_
          refine op_loadP 0 (v := .slice _ _ _) rfl rfl rfl rfl ?_
          refine guard_yes rfl rfl ?_
          refine op_pure (pv_len rfl rfl) ?_
          refine guard_yes rfl rfl ?_
          refine op_pure (pv_fieldAddr rfl rfl rfl rfl 2 rfl) ?_
          refine guard_yes rfl rfl ?_
          refine op_loadP 1 (v := .slice _ _ _) rfl rfl rfl rfl ?_
          refine guard_yes rfl rfl ?_
          refine op_pure (pv_len rfl rfl) ?_
          refine guard_yes rfl rfl ?_
          refine op_pure (pv_of (v := .bool _) rfl) ?_
          refine op_pure (pv_pickT rfl rfl (v := .bool _) rfl) ?_
          refine op_pure (pv_move (v := .bool _) rfl) ?_
          refine guard_no rfl e3 ?_
          refine guard_no rfl e3 ?_
          refine guard_no rfl e3 ?_
          refine guard_no rfl e3 ?_
          refine guard_no rfl e3 ?_
          refine guard_no rfl e3 ?_
          refine guard_no rfl e3 ?_
          refine op_pure (pv_pickF rfl e3 (v := .bool _) rfl) ?_
          refine op_pure (pv_assign (v := .bool _) rfl) ?_
          refine ⟨false, ⟨rfl, trivial⟩, rfl, rfl, (Ext.trans E1 E2), fun h3 E3 => ⟨fun _ hh => by subst hh; simp at e3, fun e => (by cases e)⟩, ?_⟩
          repeat (first | exact off_refl _ _ | exact off_base _ _ _ | refine off_upd (by decide) ?_ | refine off_updL rfl ?_ | refine off_mix rfl ?_)
      · skip
        rw [e2] at HD
        refine op_fn (caps := []) (vs := [.slice _ _ _, .slice _ _ _]) rfl rfl rfl (HD) ?_
        rintro _ g2 E2 rfl
        refine op_pure (pv_pickT rfl rfl (v := .bool _) rfl) ?_
        refine op_pure (pv_move (v := .bool _) rfl) ?_
        refine guard_no rfl rfl ?_
        refine guard_no rfl rfl ?_
        refine guard_no rfl rfl ?_
        refine guard_no rfl rfl ?_
        refine guard_no rfl rfl ?_
        refine guard_no rfl rfl ?_
        refine guard_no rfl rfl ?_
        refine op_pure (pv_pickF rfl rfl (v := .bool _) rfl) ?_
        refine op_pure (pv_move (v := .bool _) rfl) ?_
        refine guard_no rfl rfl ?_
        refine guard_no rfl rfl ?_
        refine guard_no rfl rfl ?_
        refine guard_no rfl rfl ?_
        refine guard_no rfl rfl ?_
        refine guard_no rfl rfl ?_
        refine guard_no rfl rfl ?_
        refine op_pure (pv_pickF rfl rfl (v := .bool _) rfl) ?_
        refine op_pure (pv_assign (v := .bool _) rfl) ?_
        refine ⟨false, ⟨rfl, trivial⟩, rfl, rfl, (Ext.trans E1 E2), fun h3 E3 => ⟨fun _ hh => by subst hh; simp at e2, fun e => (by cases e)⟩, ?_⟩
        repeat (first | exact off_refl _ _ | exact off_base _ _ _ | refine off_upd (by decide) ?_ | refine off_updL rfl ?_ | refine off_mix rfl ?_)
    · skip
      rw [e1] at HS
      refine op_fn (caps := []) (vs := [.slice _ _ _, .slice _ _ _]) rfl rfl rfl (HS) ?_
      rintro _ g1 E1 rfl
      refine op_pure (pv_move (v := .bool _) rfl) ?_
      refine guard_no rfl rfl ?_
      refine guard_no rfl rfl ?_
      refine guard_no rfl rfl ?_
      refine guard_no rfl rfl ?_
      refine guard_no rfl rfl ?_
      refine op_pure (pv_pickF rfl rfl (v := .bool _) rfl) ?_
      refine op_pure (pv_move (v := .bool _) rfl) ?_
      refine guard_no rfl rfl ?_
      refine guard_no rfl rfl ?_
      refine guard_no rfl rfl ?_
      refine guard_no rfl rfl ?_
      refine guard_no rfl rfl ?_
      refine guard_no rfl rfl ?_
      refine guard_no rfl rfl ?_
      refine op_pure (pv_pickF rfl rfl (v := .bool _) rfl) ?_
      refine op_pure (pv_move (v := .bool _) rfl) ?_
      refine guard_no rfl rfl ?_
      refine guard_no rfl rfl ?_
      refine guard_no rfl rfl ?_
      refine guard_no rfl rfl ?_
      refine guard_no rfl rfl ?_
      refine guard_no rfl rfl ?_
      refine guard_no rfl rfl ?_
      refine op_pure (pv_pickF rfl rfl (v := .bool _) rfl) ?_
      refine op_pure (pv_assign (v := .bool _) rfl) ?_
      refine ⟨false, ⟨rfl, trivial⟩, rfl, rfl, E1, fun h3 E3 => ⟨fun _ hh => by subst hh; simp at e1, fun e => (by cases e)⟩, ?_⟩
      repeat (first | exact off_refl _ _ | exact off_base _ _ _ | refine off_upd (by decide) ?_ | refine off_updL rfl ?_ | refine off_mix rfl ?_)
  · rintro p T1 h_p E_p J_p
    refine goes_norm [_, _] rfl ?_
    refine xp_cutB [5, 6, 38, 39, 40, 41, 42, 43, 44, 45, 46, 47, 48, 49, 50, 51, 52, 53, 54, 55, 56, 57, 58] 2 (α := Bool) (fun u => [(5, .bool u)]) (fun u L => L) (fun u h_u => u = (p && decide (a.joints = b.joints))) ?_ ?_
    · skip
      refine xp_seq ?_
      refine xp_region rfl ?_
      refine op_pure (pv_assign (v := .int .i64 _) rfl) ?_
      refine xp_block ?_
      refine xp_loopB [5, 6, 38, 39, 40, 41, 42, 43, 44, 45, 46, 47, 48, 49, 50, 51, 52, 53, 54, 55, 56, 57, 58] 2 (α := Nat) (fun k => [(5, .bool (sameN p a.joints b.joints k)), (6, .int .i64 k)]) (fun k => _) (fun k h_k => k ≤ a.joints.length) (fun k => a.joints.length - k) (0) ⟨congrArg Value.bool (sameN_zero _ _ _).symm, rfl, trivial⟩ (rfl) (Nat.zero_le _) ?_
      rintro k T3 h_k E_k J_k
      refine goes_norm [_, _] rfl ?_
      obtain ⟨q, hq⟩ : ∃ q, sameN p a.joints b.joints k = q := ⟨_, rfl⟩
      rw [hq]
      cases q with
      | false =>
        refine xp_seq ?_
        refine xp_seq ?_
        refine xp_region rfl ?_
        refine op_pure (pv_move (v := .bool _) rfl) ?_
        refine op_pure (pv_move (v := .bool _) rfl) ?_
        refine guard_no rfl rfl ?_
        refine guard_no rfl rfl ?_
        refine guard_no rfl rfl ?_
        refine guard_no rfl rfl ?_
        refine guard_no rfl rfl ?_
        refine op_pure (pv_pickF rfl rfl (v := .bool _) rfl) ?_
        refine xp_condF rfl (rfl) ?_
        refine xp_exit ?_
        refine ⟨false, ⟨rfl, trivial⟩, rfl, rfl, E_k, fun h3 E3 => (sameN_no hq).symm, ?_⟩
        repeat (first | exact off_refl _ _ | exact off_base _ _ _ | refine off_upd (by decide) ?_ | refine off_updL rfl ?_ | refine off_mix rfl ?_)
      | true =>
        have hpt : p = true := by cases hPP : p with | true => rfl | false => rw [hPP] at hq; cases hq
        have hlen : a.joints.length = b.joints.length := (J_p.yes hpt).2.2.1
        refine xp_seq ?_
        refine xp_seq ?_
        refine xp_region rfl ?_
        refine op_pure (pv_move (v := .bool _) rfl) ?_
        refine op_pure (pv_move (v := .bool _) rfl) ?_
        refine guard_yes rfl rfl ?_
        refine op_pure (pv_move (v := .int .i64 _) rfl) ?_
        refine guard_yes rfl rfl ?_
        refine op_pure (pv_fieldAddr rfl rfl rfl rfl 2 rfl) ?_
        refine guard_yes rfl rfl ?_
        refine op_loadP 0 (v := .slice _ _ _) rfl rfl rfl rfl ?_
        refine guard_yes rfl rfl ?_
        refine op_pure (pv_len rfl rfl) ?_
        refine guard_yes rfl rfl ?_
        refine op_pure (pv_of (v := .bool _) rfl) ?_
        refine op_pure (pv_pickT rfl rfl (v := .bool _) rfl) ?_
        refine xp_cond rfl (fun ht => ?_) (fun ht => ?_)
        · skip
          have hlt : k < a.joints.length := ltI ht
          have hlt2 : k < b.joints.length := by omega
          obtain ⟨g, off, hA, hc⟩ := (Ra.joints.ext (Ext.trans E_p E_k)).at (by omega) hlt
          obtain ⟨g2, off2, hB, hc2⟩ := (Rb.joints.ext (Ext.trans E_p E_k)).at (by omega) hlt2
          refine xp_skip ?_
          refine xp_seq ?_
          refine xp_block ?_
          refine xp_dw [] rfl rfl rfl ?_
          refine dw_pure (i := 0) rfl (by decide +kernel) (pv_fieldAddr rfl rfl rfl rfl 2 rfl) ?_
          refine dw_load (i := 1) rfl (by decide +kernel) ?_
          refine op_loadP 0 (v := .slice _ _ _) rfl rfl rfl rfl ?_
          refine dw_pure (i := 2) rfl (by decide +kernel) (pv_move (v := .int .i64 _) rfl) ?_
          refine dw_pure (i := 3) rfl (by decide +kernel) (pv_indexE rfl hA rfl rfl rfl (by omega) (by omega)) ?_
          refine dw_load (i := 4) rfl (by decide +kernel) ?_
          refine op_loadA rfl rfl rfl rfl (hc) ?_
          refine dw_pure (i := 5) rfl (by decide +kernel) (pv_fieldAddr rfl rfl rfl rfl 2 rfl) ?_
          refine dw_load (i := 6) rfl (by decide +kernel) ?_
          refine op_loadP 1 (v := .slice _ _ _) rfl rfl rfl rfl ?_
          refine dw_pure (i := 7) rfl (by decide +kernel) (pv_move (v := .int .i64 _) rfl) ?_
          refine dw_pure (i := 8) rfl (by decide +kernel) (pv_indexE rfl hB rfl rfl rfl (by omega) (by omega)) ?_
          refine dw_load (i := 9) rfl (by decide +kernel) ?_
          refine op_loadA rfl rfl rfl rfl (hc2) ?_
          refine dw_pure (i := 10) rfl (by decide +kernel) (pv_eqA rfl rfl (by kernel_rfl) (jointEq _ _)) ?_
          refine dw_pure (i := 11) rfl (by decide +kernel) (pv_assign (v := .bool _) rfl) ?_
          refine dw_end rfl ?_
          refine xp_region rfl ?_
          refine op_pure (pv_move (v := .int .i64 _) rfl) ?_
          refine op_pure (pv_arith rfl (by omega)) ?_
          refine op_pure (pv_assign (v := .int .i64 _) rfl) ?_
          refine ⟨k + 1, ⟨(by rw [hpt] at hq ⊢; rw [sameN_succ hlt hlt2 hq]; rfl), rfl, trivial⟩, rfl, rfl, E_k, fun h3 E3 => hlt, by first | omega | (dsimp only; omega), ?_⟩
          repeat (first | exact off_base _ _ _ | refine off_upd (by decide) ?_ | refine off_updL rfl ?_ | refine off_mix rfl ?_)
        · skip
          have hke : k = a.joints.length := by have := geI ht; omega
          subst hke
          refine xp_exit ?_
          refine ⟨true, ⟨rfl, trivial⟩, rfl, rfl, E_k, fun h3 E3 => by rw [sameN_all hlen] at hq; exact hq.symm, ?_⟩
          repeat (first | exact off_refl _ _ | exact off_base _ _ _ | refine off_upd (by decide) ?_ | refine off_updL rfl ?_ | refine off_mix rfl ?_)
    · rintro u T2 h_u E_u J_u
      refine goes_norm [_, _] rfl ?_
      refine xp_seq ?_
      refine xp_seq ?_
      refine xp_region rfl ?_
      refine op_pure (pv_assign (v := .int .i64 _) rfl) ?_
      refine xp_block ?_
      refine xp_loopB [5, 7, 59, 60, 61, 62, 63, 64, 65, 66, 67, 68, 69, 70, 71, 72, 73, 74, 75, 76, 77, 78, 79] 2 (α := Nat) (fun k => [(5, .bool (sameN u a.reports b.reports k)), (7, .int .i64 k)]) (fun k => _) (fun k h_k => k ≤ a.reports.length) (fun k => a.reports.length - k) (0) ⟨congrArg Value.bool (sameN_zero _ _ _).symm, rfl, trivial⟩ (rfl) (Nat.zero_le _) ?_
      rintro k T4 h_k E_k J_k
      refine goes_norm [_, _] rfl ?_
      obtain ⟨q, hq⟩ : ∃ q, sameN u a.reports b.reports k = q := ⟨_, rfl⟩
      rw [hq]
      cases q with
      | false =>
        refine xp_seq ?_
        refine xp_seq ?_
        refine xp_region rfl ?_
        refine op_pure (pv_move (v := .bool _) rfl) ?_
        refine op_pure (pv_move (v := .bool _) rfl) ?_
        refine guard_no rfl rfl ?_
        refine guard_no rfl rfl ?_
        refine guard_no rfl rfl ?_
        refine guard_no rfl rfl ?_
        refine guard_no rfl rfl ?_
        refine op_pure (pv_pickF rfl rfl (v := .bool _) rfl) ?_
        refine xp_condF rfl (rfl) ?_
        refine xp_exit ?_
        refine xp_seq ?_
        refine xp_region rfl ?_
        refine op_pure (pv_move (v := .bool _) rfl) ?_
        refine op_pure (pv_assign (v := .bool _) rfl) ?_
        refine xp_ret ?_
        refine res_list (vs := [_]) Try.results31 ⟨resV_tmp rfl rfl, trivial⟩ fun V => ?_
        refine ⟨(Ext.trans (Ext.trans (Ext.trans E_p E_u) E_k) (ext_wl V)), congrArg Value.bool ?_⟩
        have e := sameN_no hq
        rw [J_u] at e
        cases hd : decide (a = b) with
        | false => rfl
        | true =>
          have := of_decide_eq_true hd
          subst this
          have hp : p = true := by cases hp : p with | true => rfl | false => exact absurd rfl (J_p.no hp)
          rw [hp] at e
          simp at e
      | true =>
        have hpt : u = true := by cases hPP : u with | true => rfl | false => rw [hPP] at hq; cases hq
        have hlen : a.reports.length = b.reports.length := (J_p.yes (by rw [J_u] at hpt; simp at hpt; exact hpt.1)).2.2.2
        refine xp_seq ?_
        refine xp_seq ?_
        refine xp_region rfl ?_
        refine op_pure (pv_move (v := .bool _) rfl) ?_
        refine op_pure (pv_move (v := .bool _) rfl) ?_
        refine guard_yes rfl rfl ?_
        refine op_pure (pv_move (v := .int .i64 _) rfl) ?_
        refine guard_yes rfl rfl ?_
        refine op_pure (pv_fieldAddr rfl rfl rfl rfl 3 rfl) ?_
        refine guard_yes rfl rfl ?_
        refine op_loadP 0 (v := .slice _ _ _) rfl rfl rfl rfl ?_
        refine guard_yes rfl rfl ?_
        refine op_pure (pv_len rfl rfl) ?_
        refine guard_yes rfl rfl ?_
        refine op_pure (pv_of (v := .bool _) rfl) ?_
        refine op_pure (pv_pickT rfl rfl (v := .bool _) rfl) ?_
        refine xp_cond rfl (fun ht => ?_) (fun ht => ?_)
        · skip
          have hlt : k < a.reports.length := ltI ht
          have hlt2 : k < b.reports.length := by omega
          obtain ⟨g, off, hA, hc⟩ := (Ra.reports.ext (Ext.trans (Ext.trans E_p E_u) E_k)).at (by omega) hlt
          obtain ⟨g2, off2, hB, hc2⟩ := (Rb.reports.ext (Ext.trans (Ext.trans E_p E_u) E_k)).at (by omega) hlt2
          refine xp_skip ?_
          refine xp_seq ?_
          refine xp_block ?_
          refine xp_dw [] rfl rfl rfl ?_
          refine dw_pure (i := 0) rfl (by decide +kernel) (pv_fieldAddr rfl rfl rfl rfl 3 rfl) ?_
          refine dw_load (i := 1) rfl (by decide +kernel) ?_
          refine op_loadP 0 (v := .slice _ _ _) rfl rfl rfl rfl ?_
          refine dw_pure (i := 2) rfl (by decide +kernel) (pv_move (v := .int .i64 _) rfl) ?_
          refine dw_pure (i := 3) rfl (by decide +kernel) (pv_indexE rfl hA rfl rfl rfl (by omega) (by omega)) ?_
          refine dw_load (i := 4) rfl (by decide +kernel) ?_
          refine op_loadA rfl rfl rfl rfl (hc) ?_
          refine dw_pure (i := 5) rfl (by decide +kernel) (pv_fieldAddr rfl rfl rfl rfl 3 rfl) ?_
          refine dw_load (i := 6) rfl (by decide +kernel) ?_
          refine op_loadP 1 (v := .slice _ _ _) rfl rfl rfl rfl ?_
          refine dw_pure (i := 7) rfl (by decide +kernel) (pv_move (v := .int .i64 _) rfl) ?_
          refine dw_pure (i := 8) rfl (by decide +kernel) (pv_indexE rfl hB rfl rfl rfl (by omega) (by omega)) ?_
          refine dw_load (i := 9) rfl (by decide +kernel) ?_
          refine op_loadA rfl rfl rfl rfl (hc2) ?_
          refine dw_pure (i := 10) rfl (by decide +kernel) (pv_eqA rfl rfl (by kernel_rfl) (seenEq _ _)) ?_
          refine dw_pure (i := 11) rfl (by decide +kernel) (pv_assign (v := .bool _) rfl) ?_
          refine dw_end rfl ?_
          refine xp_region rfl ?_
          refine op_pure (pv_move (v := .int .i64 _) rfl) ?_
          refine op_pure (pv_arith rfl (by omega)) ?_
          refine op_pure (pv_assign (v := .int .i64 _) rfl) ?_
          refine ⟨k + 1, ⟨(by rw [hpt] at hq ⊢; rw [sameN_succ hlt hlt2 hq]; rfl), rfl, trivial⟩, rfl, rfl, E_k, fun h3 E3 => hlt, by first | omega | (dsimp only; omega), ?_⟩
          repeat (first | exact off_base _ _ _ | refine off_upd (by decide) ?_ | refine off_updL rfl ?_ | refine off_mix rfl ?_)
        · skip
          have hke : k = a.reports.length := by have := geI ht; omega
          subst hke
          refine xp_exit ?_
          refine xp_seq ?_
          refine xp_region rfl ?_
          refine op_pure (pv_move (v := .bool _) rfl) ?_
          refine op_pure (pv_assign (v := .bool _) rfl) ?_
          refine xp_ret ?_
          refine res_list (vs := [_]) Try.results31 ⟨resV_tmp rfl rfl, trivial⟩ fun V => ?_
          refine ⟨(Ext.trans (Ext.trans (Ext.trans E_p E_u) E_k) (ext_wl V)), congrArg Value.bool ?_⟩
          rw [sameN_all hlen, J_u] at hq
          simp only [Bool.and_eq_true, decide_eq_true_eq] at hq
          obtain ⟨y1, y2, _, _⟩ := J_p.yes hq.1.1
          have : a = b := by
            obtain ⟨q1, q2, q3, q4⟩ := a
            obtain ⟨r1, r2, r3, r4⟩ := b
            simp only at y1 y2 hq
            rw [y1, y2, hq.1.2, hq.2]
          rw [decide_eq_true this]
end Go.Proofs.Ytndfkbapoinmkaa
/- Plain: warmer and colder weather. Conditions: as each theorem states. -/
namespace Go.Wx
open Go Go.HL
end Go.Wx
/- Plain: seasons with a report more, and without some. Conditions: as each theorem states. -/
namespace Go.Wx
open Go Go.HL
theorem CheckS.b {s : Season} (c : CheckS s) : SeasonB s := (checkM_zero c.ok).b
end Go.Wx
/- Walks: a report more; reports that must be wrong. Conditions: as each theorem states. -/
namespace Go.Proofs.Ytndfkbapoinmkaa
open Go Go.HL Go.Proofs Go.Wx
set_option maxRecDepth 100000
end Go.Proofs.Ytndfkbapoinmkaa
/- Walks: the fewest reports that must be wrong. Conditions: as each theorem states. -/
namespace Go.Proofs.Ytndfkbapoinmkaa
open Go Go.HL Go.Proofs Go.Wx
set_option maxRecDepth 100000
end Go.Proofs.Ytndfkbapoinmkaa
/- Plain: the least and the greatest weather; how many joints are sound. Conditions: as each theorem states. -/
namespace Go.Wx
open Go Go.HL
end Go.Wx
/- Walks: the weather that there can be. Conditions: as each theorem states. -/
namespace Go.Proofs.Ytndfkbapoinmkaa
open Go Go.HL Go.Proofs Go.Wx
set_option maxRecDepth 100000
end Go.Proofs.Ytndfkbapoinmkaa
/- Walks: how many joints are sound. Conditions: as each theorem states. -/
namespace Go.Proofs.Ytndfkbapoinmkaa
open Go Go.HL Go.Proofs Go.Wx
set_option maxRecDepth 100000
end Go.Proofs.Ytndfkbapoinmkaa
/- Walks: small functions of the laws. Conditions: as each theorem states. -/
namespace Go.Proofs.Ytndfkbapoinmkaa
open Go Go.HL Go.Proofs Go.Wx
set_option maxRecDepth 100000
theorem Odds_ok (b x : Nat) (n m : Int) (hm : -2 ^ 30 ≤ m ∧ m ≤ 2 ^ 30) (h : AH) : FnM Try.prog (.func (.func 62) #[] ([] : List Value).toArray) [.pointer (some ⟨b, 0, none⟩), .int .i64 n, .int .i64 m] h [some (b, .cells #[.int .u64 (x : Int)] 95 (0, 0))]
    (fun v h' M' => ∃ (x' : Nat) (u : Bool), M' = [some (b, .cells #[.int .u64 (x' : Int)] 95 (0, 0))] ∧ v = .bool u) := by
  refine fnM_body rfl rfl Try.func62 rfl Try.ntmps62 rfl ?_
  refine xp_seq ?_
  refine xp_region rfl ?_
  refine op_pure (pv_assign (v := .bool _) rfl) ?_
  refine xp_seq ?_
  refine xp_region rfl ?_
  refine op_pure (pv_move (v := .pointer (some ⟨b, 0, none⟩)) rfl) ?_
  refine op_pure (pv_move (v := .int .i64 _) rfl) ?_
  refine op_pure (pv_arith rfl (by omega)) ?_
  refine op_fnMM [] [_] [] (vs := [.pointer _, .int .i64 _]) rfl rfl rfl ((Upto_ok b x (m - 1) (by omega) h)) ?_
  rintro _ h2 _ E2 ⟨x2, k, rfl, rfl, k1, k2⟩
  refine wp_norm [_] rfl ?_
  refine op_pure (pv_move (v := .int .i64 _) rfl) ?_
  refine op_pure (pv_of (v := .bool _) rfl) ?_
  refine op_pure (pv_assign (v := .bool _) rfl) ?_
  refine xp_ret ?_
  refine res_list (vs := [_]) Try.results62 ⟨resV_tmp rfl rfl, trivial⟩ fun V => ?_
  exact ⟨_, [_], rfl, V, E2, x2, _, rfl, rfl⟩
theorem Pick_ok (b x n : Nat) (hn : n < 2 ^ 20) (h : AH) : FnM Try.prog (.func (.func 36) #[] ([] : List Value).toArray) [.pointer (some ⟨b, 0, none⟩), .int .i64 n] h [some (b, .cells #[.int .u64 (x : Int)] 95 (0, 0))]
    (fun v h' M' => ∃ (x' : Nat) (l : List Int), M' = [some (b, .cells #[.int .u64 (x' : Int)] 95 (0, 0))] ∧ SlR h' 1 intC l v ∧ (∀ z ∈ l, 0 ≤ z ∧ z < n) ∧ l.Pairwise (· < ·) ∧ l.length ≤ n) := by
  refine fnM_body rfl rfl Try.func36 rfl Try.ntmps36 rfl ?_
  refine goes_more ?_
  refine goes_norm [_, _] rfl ?_
  refine xp_seq ?_
  refine xp_region rfl ?_
  refine op_pure (pv_assign (v := .slice _ _ _) rfl) ?_
  refine xp_seq ?_
  refine xp_region rfl ?_
  refine op_pure (pv_assign (v := .slice _ _ _) rfl) ?_
  refine xp_seq ?_
  refine xp_seq ?_
  refine xp_region rfl ?_
  refine op_pure (pv_assign (v := .int .i64 _) rfl) ?_
  refine xp_block ?_
  refine xp_loopL [5, 6, 7, 8, 9, 10, 11, 12, 13, 14, 15, 16, 17] 2 (α := Nat × Nat × List Int × Acc) (fun ⟨i, y, l, a⟩ => [(6, .int .i64 i), (5, .slice a.A a.n a.c)]) (fun ⟨i, y, l, a⟩ L => (L.set 0 (some (b, .cells #[.int .u64 (y : Int)] 95 (0, 0)))).set 1 (a.p)) (fun ⟨i, y, l, a⟩ h_i => (i ≤ n ∧ l.length ≤ i) ∧ (∀ z ∈ l, 0 ≤ z ∧ z < i) ∧ l.Pairwise (· < ·) ∧ AccR 3 1 (l.flatMap intC) a) (fun ⟨i, y, l, a⟩ => n - i) ((0, x, [], acc0)) ⟨rfl, rfl, trivial⟩ (rfl) (⟨⟨Nat.zero_le _, Nat.le_refl _⟩, by simp, List.Pairwise.nil, accR0⟩) ?_
  rintro ⟨i, y, l, a⟩ T1 h_i E_i J_i
  refine goes_norm [_, _] rfl ?_
  obtain ⟨⟨K1, K2⟩, K3, K4, K5⟩ := J_i
  refine xp_seq ?_
  refine xp_seq ?_
  refine xp_region rfl ?_
  refine op_pure (pv_move (v := .int .i64 _) rfl) ?_
  refine op_pure (pv_move (v := .int .i64 _) rfl) ?_
  refine op_pure (pv_of (v := .bool _) rfl) ?_
  refine xp_cond rfl (fun ht => ?_) (fun ht => ?_)
  · skip
    have hin : i < n := ltI ht
    refine xp_skip ?_
    refine xp_seq ?_
    refine xp_block ?_
    refine xp_seq ?_
    refine xp_region rfl ?_
    refine op_pure (pv_move (v := .pointer (some ⟨b, 0, none⟩)) rfl) ?_
    refine op_fnMM [] [_] [_] (vs := [.pointer _, .int .i64 _, .int .i64 _]) rfl rfl rfl ((Odds_ok b y 1 2 (by omega) h_i)) ?_
    rintro _ g2 _ E2 ⟨y2, u, rfl, rfl⟩
    refine wp_norm [_, _] rfl ?_
    refine xp_cond rfl (fun hu => ?_) (fun hu => ?_)
    · skip
      refine xp_region rfl ?_
      refine op_pure (pv_move (v := .slice _ _ _) rfl) ?_
      refine op_pure (pv_move (v := .int .i64 _) rfl) ?_
      refine op_buildSlice (zc := [_]) (vs := [(0, .int .i64 _)]) (cs := [_]) rfl rfl rfl rfl rfl rfl rfl fun b16 hb16 => ?_
      refine wp_norm [_, _, _] rfl ?_
      refine op_appendR 1 K5 rfl rfl rfl (fun V => rdP V (i := 2) rfl) rfl rfl rfl rfl rfl rfl rfl rfl rfl (by omega) rfl (by rw [flat_len (m := 1) (fun _ _ => rfl)]; simp; omega) fun a2 h2a E2a ha2 => ?_
      refine wp_norm [_, _, _] rfl ?_
      refine op_pure (pv_assign (v := .slice _ _ _) rfl) ?_
      refine xp_region rfl ?_
      refine op_pure (pv_move (v := .int .i64 _) rfl) ?_
      refine op_pure (pv_arith rfl (by omega)) ?_
      refine op_pure (pv_assign (v := .int .i64 _) rfl) ?_
      refine ⟨(i + 1, y2, l ++ [(i : Int)], a2), ⟨rfl, rfl, trivial⟩, rfl, rfl, (Ext.trans (Ext.trans E_i E2) E2a), fun h3 E3 => ⟨⟨hin, by rw [List.length_append]; simp; omega⟩, fun z hz => (List.mem_append.1 hz).elim (fun h => by have := K3 z h; omega) (fun h => by rw [List.mem_singleton.1 h]; omega), List.pairwise_append.2 ⟨K4, by simp, fun z hz w hw => by rw [List.mem_singleton.1 hw]; exact (K3 z hz).2⟩, by rw [List.flatMap_append]; exact ha2⟩, by first | omega | (dsimp only; omega), ?_⟩
      repeat (first | exact off_base _ _ _ | refine off_upd (by decide) ?_ | refine off_updL rfl ?_ | refine off_mix rfl ?_)
    · skip
      refine xp_skip ?_
      refine xp_region rfl ?_
      refine op_pure (pv_move (v := .int .i64 _) rfl) ?_
      refine op_pure (pv_arith rfl (by omega)) ?_
      refine op_pure (pv_assign (v := .int .i64 _) rfl) ?_
      refine ⟨(i + 1, y2, l, a), ⟨rfl, rfl, trivial⟩, rfl, rfl, (Ext.trans E_i E2), fun h3 E3 => ⟨⟨hin, by omega⟩, fun z hz => by have := K3 z hz; omega, K4, K5⟩, by first | omega | (dsimp only; omega), ?_⟩
      repeat (first | exact off_base _ _ _ | refine off_upd (by decide) ?_ | refine off_updL rfl ?_ | refine off_mix rfl ?_)
  · skip
    have hie : i = n := by have := geI ht; omega
    subst hie
    obtain ⟨p7, A7, n7, c7⟩ := a
    obtain rfl : n7 = l.length := by have := AccR.len K5; rw [flat_len (m := 1) (fun _ _ => rfl)] at this; dsimp only at this; omega
    dsimp only
    refine goes_pubO 1 rfl ?_
    intro g7 G7 P7
    refine goes_norm [_, _] rfl ?_
    refine xp_exit ?_
    refine xp_seq ?_
    refine xp_region rfl ?_
    refine op_pure (pv_move (v := .slice _ _ _) rfl) ?_
    refine op_pure (pv_assign (v := .slice _ _ _) rfl) ?_
    refine xp_ret ?_
    refine res_list (vs := [_]) Try.results36 ⟨resV_tmp rfl rfl, trivial⟩ fun V => ?_
    obtain ⟨h9, E9, e9, V9⟩ := wl_drop [_] [_] V
    exact ⟨h9, _, e9, V9, Ext.trans (Ext.trans E_i G7) E9, y, l, rfl, ⟨A7, c7, rfl, Row.ext (⟨fun _ _ => rfl, AccR.rd K5 P7⟩ : Row g7 1 intC A7 l) E9⟩, K3, K4, K2⟩
end Go.Proofs.Ytndfkbapoinmkaa
/- Walks: the reference's checks. Conditions: as each theorem states. -/
namespace Go.Proofs.Ytndfkbapoinmkaa
open Go Go.HL Go.Proofs Go.Wx
set_option maxRecDepth 100000
theorem rWithin_ok (a lo hi : Int) (h : AH) : FnT Try.prog 104 #[.int .i64 a, .int .i64 lo, .int .i64 hi] h (fun v _ => v = .bool (inM a lo hi)) := by
  refine call_body Try.func104 rfl Try.ntmps104 rfl ?_
  refine xp_seq ?_
  refine xp_region rfl ?_
  refine op_pure (pv_assign (v := .bool _) rfl) ?_
  refine xp_seq ?_
  refine xp_region rfl ?_
  refine op_pure (pv_move (v := .int .i64 _) rfl) ?_
  refine op_pure (pv_move (v := .int .i64 _) rfl) ?_
  refine op_pure (pv_of (v := .bool _) rfl) ?_
  refine op_pure (pv_move (v := .bool _) rfl) ?_
  rcases Bool.eq_false_or_eq_true (decide (lo ≤ a)) with e | e
  · skip
    refine guard_yes rfl e ?_
    refine op_pure (pv_move (v := .int .i64 _) rfl) ?_
    refine guard_yes rfl e ?_
    refine op_pure (pv_move (v := .int .i64 _) rfl) ?_
    refine guard_yes rfl e ?_
    refine op_pure (pv_of (v := .bool _) rfl) ?_
    refine op_pure (pv_pickT rfl e (v := .bool _) rfl) ?_
    refine op_pure (pv_assign (v := .bool _) rfl) ?_
    refine xp_ret ?_
    refine res_list (vs := [_]) Try.results104 ⟨resV_tmp rfl rfl, trivial⟩ fun V => ?_
    exact ⟨(ext_wl V), by rw [inM, e]; rfl⟩
  · skip
    refine guard_no rfl e ?_
    refine guard_no rfl e ?_
    refine guard_no rfl e ?_
    refine op_pure (pv_pickF rfl e (v := .bool _) rfl) ?_
    refine op_pure (pv_assign (v := .bool _) rfl) ?_
    refine xp_ret ?_
    refine res_list (vs := [_]) Try.results104 ⟨resV_tmp rfl rfl, trivial⟩ fun V => ?_
    exact ⟨(ext_wl V), by rw [inM, e]; rfl⟩
theorem rRange_ok (x : Rg) (lo hi : Int) (h : AH) : FnT Try.prog 140 #[rgV x, .int .i64 lo, .int .i64 hi] h (fun v _ => v = .int .i64 (checkRangeM x lo hi)) := by
  cases e1 : inM x.mn lo hi with
  | false =>
    refine call_body Try.func140 rfl Try.ntmps140 rfl ?_
    refine xp_seq ?_
    refine xp_region rfl ?_
    refine op_box (v := .agg #[.int .i64 _, .int .i64 _]) (cs := [_, _]) rfl rfl fun b3 hb3 => ?_
    refine wp_norm [_] rfl ?_
    refine op_pure (pv_assign (v := .int .i64 _) rfl) ?_
    refine xp_seq ?_
    refine xp_seq ?_
    refine xp_region rfl ?_
    refine op_pure (pv_fieldAddr rfl rfl rfl rfl 0 rfl) ?_
    refine op_loadP 0 (v := .int .i64 _) rfl rfl rfl rfl ?_
    refine op_pure (pv_move (v := .int .i64 _) rfl) ?_
    refine op_pure (pv_move (v := .int .i64 _) rfl) ?_
    have H1 := rWithin_ok x.mn lo hi h
    rw [e1] at H1
    refine op_fn (caps := []) (vs := [.int .i64 _, .int .i64 _, .int .i64 _]) rfl rfl rfl (H1) ?_
    rintro _ h1 E1 rfl
    refine op_pure (pv_of (v := .bool _) rfl) ?_
    refine op_pure (pv_move (v := .bool _) rfl) ?_
    refine guard_no rfl rfl ?_
    refine guard_no rfl rfl ?_
    refine guard_no rfl rfl ?_
    refine guard_no rfl rfl ?_
    refine guard_no rfl rfl ?_
    refine guard_no rfl rfl ?_
    refine op_pure (pv_pickT rfl rfl (v := .bool _) rfl) ?_
    refine xp_condT rfl (rfl) ?_
    refine xp_seq ?_
    refine xp_region rfl ?_
    refine op_pure (pv_assign (v := .int .i64 _) rfl) ?_
    refine xp_ret ?_
    refine res_list (vs := [_]) Try.results140 ⟨resV_tmp rfl rfl, trivial⟩ fun V => ?_
    exact ⟨(Ext.trans E1 (ext_wl V)), intE (by rw [checkRangeM, e1]; rfl)⟩
  | true =>
    cases e2 : inM x.mx lo hi with
    | false =>
      refine call_body Try.func140 rfl Try.ntmps140 rfl ?_
      refine xp_seq ?_
      refine xp_region rfl ?_
      refine op_box (v := .agg #[.int .i64 _, .int .i64 _]) (cs := [_, _]) rfl rfl fun b3 hb3 => ?_
      refine wp_norm [_] rfl ?_
      refine op_pure (pv_assign (v := .int .i64 _) rfl) ?_
      refine xp_seq ?_
      refine xp_seq ?_
      refine xp_region rfl ?_
      refine op_pure (pv_fieldAddr rfl rfl rfl rfl 0 rfl) ?_
      refine op_loadP 0 (v := .int .i64 _) rfl rfl rfl rfl ?_
      refine op_pure (pv_move (v := .int .i64 _) rfl) ?_
      refine op_pure (pv_move (v := .int .i64 _) rfl) ?_
      have H1 := rWithin_ok x.mn lo hi h
      rw [e1] at H1
      refine op_fn (caps := []) (vs := [.int .i64 _, .int .i64 _, .int .i64 _]) rfl rfl rfl (H1) ?_
      rintro _ h1 E1 rfl
      refine op_pure (pv_of (v := .bool _) rfl) ?_
      refine op_pure (pv_move (v := .bool _) rfl) ?_
      refine guard_yes rfl rfl ?_
      refine op_pure (pv_fieldAddr rfl rfl rfl rfl 1 rfl) ?_
      refine guard_yes rfl rfl ?_
      refine op_loadP 0 (v := .int .i64 _) rfl rfl rfl rfl ?_
      refine guard_yes rfl rfl ?_
      refine op_pure (pv_move (v := .int .i64 _) rfl) ?_
      refine guard_yes rfl rfl ?_
      refine op_pure (pv_move (v := .int .i64 _) rfl) ?_
      refine guard_yes rfl rfl ?_
      have H2 := rWithin_ok x.mx lo hi h1
      rw [e2] at H2
      refine op_fn (caps := []) (vs := [.int .i64 _, .int .i64 _, .int .i64 _]) rfl rfl rfl (H2) ?_
      rintro _ h2 E2 rfl
      refine guard_yes rfl rfl ?_
      refine op_pure (pv_of (v := .bool _) rfl) ?_
      refine op_pure (pv_pickF rfl rfl (v := .bool _) rfl) ?_
      refine xp_condT rfl (rfl) ?_
      refine xp_seq ?_
      refine xp_region rfl ?_
      refine op_pure (pv_assign (v := .int .i64 _) rfl) ?_
      refine xp_ret ?_
      refine res_list (vs := [_]) Try.results140 ⟨resV_tmp rfl rfl, trivial⟩ fun V => ?_
      exact ⟨(Ext.trans (Ext.trans E1 E2) (ext_wl V)), intE (by rw [checkRangeM, e1, e2]; rfl)⟩
    | true =>
      refine call_body Try.func140 rfl Try.ntmps140 rfl ?_
      refine xp_seq ?_
      refine xp_region rfl ?_
      refine op_box (v := .agg #[.int .i64 _, .int .i64 _]) (cs := [_, _]) rfl rfl fun b3 hb3 => ?_
      refine wp_norm [_] rfl ?_
      refine op_pure (pv_assign (v := .int .i64 _) rfl) ?_
      refine xp_seq ?_
      refine xp_seq ?_
      refine xp_region rfl ?_
      refine op_pure (pv_fieldAddr rfl rfl rfl rfl 0 rfl) ?_
      refine op_loadP 0 (v := .int .i64 _) rfl rfl rfl rfl ?_
      refine op_pure (pv_move (v := .int .i64 _) rfl) ?_
      refine op_pure (pv_move (v := .int .i64 _) rfl) ?_
      have H1 := rWithin_ok x.mn lo hi h
      rw [e1] at H1
      refine op_fn (caps := []) (vs := [.int .i64 _, .int .i64 _, .int .i64 _]) rfl rfl rfl (H1) ?_
      rintro _ h1 E1 rfl
      refine op_pure (pv_of (v := .bool _) rfl) ?_
      refine op_pure (pv_move (v := .bool _) rfl) ?_
      refine guard_yes rfl rfl ?_
      refine op_pure (pv_fieldAddr rfl rfl rfl rfl 1 rfl) ?_
      refine guard_yes rfl rfl ?_
      refine op_loadP 0 (v := .int .i64 _) rfl rfl rfl rfl ?_
      refine guard_yes rfl rfl ?_
      refine op_pure (pv_move (v := .int .i64 _) rfl) ?_
      refine guard_yes rfl rfl ?_
      refine op_pure (pv_move (v := .int .i64 _) rfl) ?_
      refine guard_yes rfl rfl ?_
      have H2 := rWithin_ok x.mx lo hi h1
      rw [e2] at H2
      refine op_fn (caps := []) (vs := [.int .i64 _, .int .i64 _, .int .i64 _]) rfl rfl rfl (H2) ?_
      rintro _ h2 E2 rfl
      refine guard_yes rfl rfl ?_
      refine op_pure (pv_of (v := .bool _) rfl) ?_
      refine op_pure (pv_pickF rfl rfl (v := .bool _) rfl) ?_
      refine xp_condF rfl (rfl) ?_
      refine xp_skip ?_
      refine xp_seq ?_
      refine xp_seq ?_
      refine xp_region rfl ?_
      refine op_pure (pv_fieldAddr rfl rfl rfl rfl 0 rfl) ?_
      refine op_loadP 0 (v := .int .i64 _) rfl rfl rfl rfl ?_
      refine op_pure (pv_fieldAddr rfl rfl rfl rfl 1 rfl) ?_
      refine op_loadP 0 (v := .int .i64 _) rfl rfl rfl rfl ?_
      refine op_pure (pv_of (v := .bool _) rfl) ?_
      refine xp_cond rfl (fun hg => ?_) (fun hg => ?_)
      · skip
        have hg' : x.mn > x.mx := of_decide_eq_true hg
        refine xp_seq ?_
        refine xp_region rfl ?_
        refine op_pure (pv_assign (v := .int .i64 _) rfl) ?_
        refine xp_ret ?_
        refine res_list (vs := [_]) Try.results140 ⟨resV_tmp rfl rfl, trivial⟩ fun V => ?_
        exact ⟨(Ext.trans (Ext.trans E1 E2) (ext_wl V)), intE (by rw [checkRangeM, e1, e2, if_pos hg']; rfl)⟩
      · skip
        have hg' : ¬ x.mn > x.mx := of_decide_eq_false hg
        refine xp_skip ?_
        refine xp_seq ?_
        refine xp_region rfl ?_
        refine op_pure (pv_assign (v := .int .i64 _) rfl) ?_
        refine xp_ret ?_
        refine res_list (vs := [_]) Try.results140 ⟨resV_tmp rfl rfl, trivial⟩ fun V => ?_
        exact ⟨(Ext.trans (Ext.trans E1 E2) (ext_wl V)), intE (by rw [checkRangeM, e1, e2, if_neg hg']; rfl)⟩
theorem rWeather_ok (x : Rg) (h : AH) : FnT Try.prog 139 #[rgV x] h (fun v _ => v = .int .i64 (checkWeatherM x)) := by
  refine call_body Try.func139 rfl Try.ntmps139 rfl ?_
  refine xp_seq ?_
  refine xp_region rfl ?_
  refine op_box (v := .agg #[.int .i64 _, .int .i64 _]) (cs := [_, _]) rfl rfl fun b1 hb1 => ?_
  refine wp_norm [_] rfl ?_
  refine op_pure (pv_assign (v := .int .i64 _) rfl) ?_
  refine xp_seq ?_
  refine xp_seq ?_
  refine xp_region rfl ?_
  refine op_loadPA 0 (vs := [.int .i64 _, .int .i64 _]) rfl rfl rfl rfl rfl ?_
  refine op_fn (caps := []) (vs := [.agg #[.int .i64 _, .int .i64 _], .int .i64 _, .int .i64 _]) rfl rfl rfl (rRange_ok x _ _ h) ?_
  rintro _ h1 E1 rfl
  refine op_pure (pv_assign (v := .int .i64 _) rfl) ?_
  refine xp_seq ?_
  refine xp_region rfl ?_
  refine op_pure (pv_move (v := .int .i64 _) rfl) ?_
  refine op_pure (pv_of (v := .bool _) rfl) ?_
  refine xp_cond rfl (fun hc => ?_) (fun hc => ?_)
  · skip
    refine xp_seq ?_
    refine xp_region rfl ?_
    refine op_pure (pv_move (v := .int .i64 _) rfl) ?_
    refine op_pure (pv_assign (v := .int .i64 _) rfl) ?_
    refine xp_ret ?_
    refine res_list (vs := [_]) Try.results139 ⟨resV_tmp rfl rfl, trivial⟩ fun V => ?_
    exact ⟨(Ext.trans E1 (ext_wl V)), intE (by simp_all [checkWeatherM])⟩
  · skip
    have h0 := checkRangeM_zero (x := x) (lo := -50) (hi := 100) (by simpa using hc)
    refine xp_skip ?_
    refine xp_seq ?_
    refine xp_seq ?_
    refine xp_region rfl ?_
    refine op_pure (pv_fieldAddr rfl rfl rfl rfl 1 rfl) ?_
    refine op_loadP 0 (v := .int .i64 _) rfl rfl rfl rfl ?_
    refine op_pure (pv_fieldAddr rfl rfl rfl rfl 0 rfl) ?_
    refine op_loadP 0 (v := .int .i64 _) rfl rfl rfl rfl ?_
    refine op_pure (pv_arith rfl (by omega)) ?_
    refine op_pure (pv_of (v := .bool _) rfl) ?_
    refine xp_cond rfl (fun hc1 => ?_) (fun hc1 => ?_)
    · refine xp_seq ?_
      refine xp_region rfl ?_
      refine op_pure (pv_assign (v := .int .i64 _) rfl) ?_
      refine xp_ret ?_
      refine res_list (vs := [_]) Try.results139 ⟨resV_tmp rfl rfl, trivial⟩ fun V => ?_
      exact ⟨(Ext.trans E1 (ext_wl V)), intE (by simp_all [checkWeatherM])⟩
    · refine xp_skip ?_
      refine xp_seq ?_
      refine xp_region rfl ?_
      refine op_pure (pv_assign (v := .int .i64 _) rfl) ?_
      refine xp_ret ?_
      refine res_list (vs := [_]) Try.results139 ⟨resV_tmp rfl rfl, trivial⟩ fun V => ?_
      exact ⟨(Ext.trans E1 (ext_wl V)), intE (by simp_all [checkWeatherM])⟩
theorem kind_in (k : Int) : inM k 1 2 = (decide (k = 1) || decide (k = 2)) := by
  unfold inM
  rw [Bool.eq_iff_iff]
  simp
  omega
set_option maxHeartbeats 1000000 in
theorem rJoint_ok (j : Joint) (h : AH) : FnT Try.prog 120 #[.agg (jointC j).toArray] h (fun v _ => v = .int .i64 (checkJointM j)) := by
  refine call_body Try.func120 rfl Try.ntmps120 rfl ?_
  refine xp_seq ?_
  refine xp_region rfl ?_
  refine op_box (v := .agg #[.int .i64 _, .int .i64 _, .int .i64 _, .int .i64 _, .int .i64 _, .int .i64 _, .int .i64 _, .int .i64 _, .int .i64 _]) (cs := [_, _, _, _, _, _, _, _, _]) rfl rfl fun b1 hb1 => ?_
  refine wp_norm [_] rfl ?_
  refine op_pure (pv_assign (v := .int .i64 _) rfl) ?_
  refine xp_cutB [2, 6, 7, 8, 9, 10, 11, 12, 13] 1 (α := Unit) (fun u => []) (fun u L => L) (fun u h_u => inM j.kind 1 2 = true) ?_ ?_
  · skip
    refine xp_seq ?_
    refine xp_region rfl ?_
    refine op_pure (pv_fieldAddr rfl rfl rfl rfl 0 rfl) ?_
    refine op_loadP 0 (v := .int .i64 _) rfl rfl rfl rfl ?_
    refine op_pure (pv_of (v := .bool _) rfl) ?_
    refine op_pure (pv_move (v := .bool _) rfl) ?_
    rcases Bool.eq_false_or_eq_true (decide (j.kind = 1)) with e1 | e1
    · skip
      have e1' : (!decide (j.kind = 1)) = false := by rw [e1]; rfl
      refine guard_no rfl e1' ?_
      refine guard_no rfl e1' ?_
      refine guard_no rfl e1' ?_
      refine op_pure (pv_pickF rfl e1' (v := .bool _) rfl) ?_
      refine xp_condF rfl (rfl) ?_
      refine xp_skip ?_
      refine ⟨(), trivial, rfl, rfl, (Ext.refl _), fun h3 E3 => by rw [kind_in, e1]; rfl, ?_⟩
      repeat (first | exact off_refl _ _ | exact off_base _ _ _ | refine off_upd (by decide) ?_ | refine off_updL rfl ?_ | refine off_mix rfl ?_)
    · skip
      have e1' : (!decide (j.kind = 1)) = true := by rw [e1]; rfl
      refine guard_yes rfl e1' ?_
      refine op_pure (pv_fieldAddr rfl rfl rfl rfl 0 rfl) ?_
      refine guard_yes rfl e1' ?_
      refine op_loadP 0 (v := .int .i64 _) rfl rfl rfl rfl ?_
      refine guard_yes rfl e1' ?_
      refine op_pure (pv_of (v := .bool _) rfl) ?_
      refine op_pure (pv_pickT rfl e1' (v := .bool _) rfl) ?_
      refine xp_cond rfl (fun e2 => ?_) (fun e2 => ?_)
      · skip
        have hk : inM j.kind 1 2 = false := by rw [kind_in, e1]; simpa using e2
        refine xp_seq ?_
        refine xp_region rfl ?_
        refine op_pure (pv_assign (v := .int .i64 _) rfl) ?_
        refine xp_ret ?_
        refine res_list (vs := [_]) Try.results120 ⟨resV_tmp rfl rfl, trivial⟩ fun V => ?_
        exact ⟨(ext_wl V), intE (by rw [checkJointM, hk]; rfl)⟩
      · skip
        have hk : inM j.kind 1 2 = true := by rw [kind_in, e1]; simpa using e2
        refine xp_skip ?_
        refine ⟨(), trivial, rfl, rfl, (Ext.refl _), fun h3 E3 => hk, ?_⟩
        repeat (first | exact off_refl _ _ | exact off_base _ _ _ | refine off_upd (by decide) ?_ | refine off_updL rfl ?_ | refine off_mix rfl ?_)
  · rintro u T1 h_u E_u J_u
    refine goes_norm [_] rfl ?_
    refine xp_seq ?_
    refine xp_seq ?_
    refine xp_region rfl ?_
    refine op_pure (pv_fieldAddr rfl rfl rfl rfl 1 rfl) ?_
    refine op_loadPA 0 (vs := [.int .i64 _, .int .i64 _]) rfl rfl rfl rfl rfl ?_
    refine op_fn (caps := []) (vs := [.agg #[.int .i64 _, .int .i64 _]]) rfl rfl rfl (rWeather_ok ⟨_, _⟩ h_u) ?_
    rintro _ h1 E1 rfl
    refine op_pure (pv_assign (v := .int .i64 _) rfl) ?_
    refine xp_seq ?_
    refine xp_region rfl ?_
    refine op_pure (pv_move (v := .int .i64 _) rfl) ?_
    refine op_pure (pv_of (v := .bool _) rfl) ?_
    refine xp_cond rfl (fun c1 => ?_) (fun c1 => ?_)
    · skip
      refine xp_seq ?_
      refine xp_region rfl ?_
      refine op_pure (pv_move (v := .int .i64 _) rfl) ?_
      refine op_pure (pv_assign (v := .int .i64 _) rfl) ?_
      refine xp_ret ?_
      refine res_list (vs := [_]) Try.results120 ⟨resV_tmp rfl rfl, trivial⟩ fun V => ?_
      exact ⟨(Ext.trans (Ext.trans E_u E1) (ext_wl V)), intE (by rw [checkJointM, J_u, if_neg (by decide), if_pos (by simpa using c1)])⟩
    · skip
      refine xp_skip ?_
      refine xp_seq ?_
      refine xp_seq ?_
      refine xp_region rfl ?_
      refine op_pure (pv_fieldAddr rfl rfl rfl rfl 3 rfl) ?_
      refine op_loadPA 0 (vs := [.int .i64 _, .int .i64 _]) rfl rfl rfl rfl rfl ?_
      refine op_fn (caps := []) (vs := [.agg #[.int .i64 _, .int .i64 _]]) rfl rfl rfl (rWeather_ok ⟨_, _⟩ h1) ?_
      rintro _ h2 E2 rfl
      refine op_pure (pv_assign (v := .int .i64 _) rfl) ?_
      refine xp_seq ?_
      refine xp_region rfl ?_
      refine op_pure (pv_move (v := .int .i64 _) rfl) ?_
      refine op_pure (pv_of (v := .bool _) rfl) ?_
      refine xp_cond rfl (fun c2 => ?_) (fun c2 => ?_)
      · skip
        refine xp_seq ?_
        refine xp_region rfl ?_
        refine op_pure (pv_move (v := .int .i64 _) rfl) ?_
        refine op_pure (pv_assign (v := .int .i64 _) rfl) ?_
        refine xp_ret ?_
        refine res_list (vs := [_]) Try.results120 ⟨resV_tmp rfl rfl, trivial⟩ fun V => ?_
        exact ⟨(Ext.trans (Ext.trans (Ext.trans E_u E1) E2) (ext_wl V)), intE (by rw [checkJointM, J_u, if_neg (by decide), if_neg (by simpa using c1), if_pos (by simpa using c2)])⟩
      · skip
        refine xp_skip ?_
        refine xp_seq ?_
        refine xp_seq ?_
        refine xp_region rfl ?_
        refine op_pure (pv_fieldAddr rfl rfl rfl rfl 5 rfl) ?_
        refine op_loadPA 0 (vs := [.int .i64 _, .int .i64 _]) rfl rfl rfl rfl rfl ?_
        refine op_fn (caps := []) (vs := [.agg #[.int .i64 _, .int .i64 _], .int .i64 _, .int .i64 _]) rfl rfl rfl (rRange_ok ⟨_, _⟩ _ _ h2) ?_
        rintro _ h3 E3 rfl
        refine op_pure (pv_assign (v := .int .i64 _) rfl) ?_
        refine xp_seq ?_
        refine xp_region rfl ?_
        refine op_pure (pv_move (v := .int .i64 _) rfl) ?_
        refine op_pure (pv_of (v := .bool _) rfl) ?_
        refine xp_cond rfl (fun c3 => ?_) (fun c3 => ?_)
        · skip
          refine xp_seq ?_
          refine xp_region rfl ?_
          refine op_pure (pv_move (v := .int .i64 _) rfl) ?_
          refine op_pure (pv_assign (v := .int .i64 _) rfl) ?_
          refine xp_ret ?_
          refine res_list (vs := [_]) Try.results120 ⟨resV_tmp rfl rfl, trivial⟩ fun V => ?_
          exact ⟨(Ext.trans (Ext.trans (Ext.trans (Ext.trans E_u E1) E2) E3) (ext_wl V)), intE (by rw [checkJointM, J_u, if_neg (by decide), if_neg (by simpa using c1), if_neg (by simpa using c2), if_pos (by simpa using c3)])⟩
        · skip
          refine xp_skip ?_
          refine xp_seq ?_
          refine xp_region rfl ?_
          refine op_pure (pv_fieldAddr rfl rfl rfl rfl 7 rfl) ?_
          refine op_loadPA 0 (vs := [.int .i64 _, .int .i64 _]) rfl rfl rfl rfl rfl ?_
          refine op_fn (caps := []) (vs := [.agg #[.int .i64 _, .int .i64 _], .int .i64 _, .int .i64 _]) rfl rfl rfl (rRange_ok ⟨_, _⟩ _ _ h3) ?_
          rintro _ h4 E4 rfl
          refine op_pure (pv_assign (v := .int .i64 _) rfl) ?_
          refine xp_ret ?_
          refine res_list (vs := [_]) Try.results120 ⟨resV_tmp rfl rfl, trivial⟩ fun V => ?_
          exact ⟨(Ext.trans (Ext.trans (Ext.trans (Ext.trans (Ext.trans E_u E1) E2) E3) E4) (ext_wl V)), intE (by rw [checkJointM, J_u, if_neg (by decide), if_neg (by simpa using c1), if_neg (by simpa using c2), if_neg (by simpa using c3)])⟩
theorem rSeen_ok (s : Season) (r : Seen) (A0 A1 A2 A3 : Option Addr) (c0 c1 c2 c3 : Nat) (hj : s.joints.length < 2 ^ 40) (hh : s.heats.length < 2 ^ 40) (h : AH) : FnT Try.prog 121 #[seasonV A0 A1 A2 A3 c0 c1 c2 c3 s, .agg (seenC r).toArray] h (fun v _ => v = .int .i64 (checkSeenM s r)) := by
  refine call_body Try.func121 rfl Try.ntmps121 rfl ?_
  refine xp_seq ?_
  refine xp_region rfl ?_
  refine op_box (v := .agg #[.slice _ _ _, .slice _ _ _, .slice _ _ _, .slice _ _ _]) (cs := [_, _, _, _]) rfl rfl fun b2 hb2 => ?_
  refine wp_norm [_] rfl ?_
  refine op_box (v := .agg #[.int .i64 _, .int .i64 _, .bool _]) (cs := [_, _, _]) rfl rfl fun b3 hb3 => ?_
  refine wp_norm [_, _] rfl ?_
  refine op_pure (pv_assign (v := .int .i64 _) rfl) ?_
  refine xp_seq ?_
  refine xp_seq ?_
  refine xp_region rfl ?_
  refine op_pure (pv_fieldAddr rfl rfl rfl rfl 0 rfl) ?_
  refine op_loadP 1 (v := .int .i64 _) rfl rfl rfl rfl ?_
  refine op_pure (pv_fieldAddr rfl rfl rfl rfl 2 rfl) ?_
  refine op_loadP 0 (v := .slice _ _ _) rfl rfl rfl rfl ?_
  refine op_pure (pv_len rfl rfl) ?_
  refine op_pure (pv_arith rfl (by omega)) ?_
  refine op_fn (caps := []) (vs := [.int .i64 _, .int .i64 _, .int .i64 _]) rfl rfl rfl (rWithin_ok _ _ _ h) ?_
  rintro _ h1 E1 rfl
  refine op_pure (pv_of (v := .bool _) rfl) ?_
  refine xp_cond rfl (fun hc2 => ?_) (fun hc2 => ?_)
  · refine xp_seq ?_
    refine xp_region rfl ?_
    refine op_pure (pv_assign (v := .int .i64 _) rfl) ?_
    refine xp_ret ?_
    refine res_list (vs := [_]) Try.results121 ⟨resV_tmp rfl rfl, trivial⟩ fun V => ?_
    exact ⟨(Ext.trans E1 (ext_wl V)), intE (by simp_all [checkSeenM])⟩
  · refine xp_skip ?_
    refine xp_seq ?_
    refine xp_seq ?_
    refine xp_region rfl ?_
    refine op_pure (pv_fieldAddr rfl rfl rfl rfl 1 rfl) ?_
    refine op_loadP 1 (v := .int .i64 _) rfl rfl rfl rfl ?_
    refine op_pure (pv_fieldAddr rfl rfl rfl rfl 0 rfl) ?_
    refine op_loadP 0 (v := .slice _ _ _) rfl rfl rfl rfl ?_
    refine op_pure (pv_len rfl rfl) ?_
    refine op_pure (pv_arith rfl (by omega)) ?_
    refine op_fn (caps := []) (vs := [.int .i64 _, .int .i64 _, .int .i64 _]) rfl rfl rfl (rWithin_ok _ _ _ h1) ?_
    rintro _ h3 E3 rfl
    refine op_pure (pv_of (v := .bool _) rfl) ?_
    refine xp_cond rfl (fun hc4 => ?_) (fun hc4 => ?_)
    · refine xp_seq ?_
      refine xp_region rfl ?_
      refine op_pure (pv_assign (v := .int .i64 _) rfl) ?_
      refine xp_ret ?_
      refine res_list (vs := [_]) Try.results121 ⟨resV_tmp rfl rfl, trivial⟩ fun V => ?_
      exact ⟨(Ext.trans (Ext.trans E1 E3) (ext_wl V)), intE (by simp_all [checkSeenM])⟩
    · refine xp_skip ?_
      refine xp_seq ?_
      refine xp_region rfl ?_
      refine op_pure (pv_assign (v := .int .i64 _) rfl) ?_
      refine xp_ret ?_
      refine res_list (vs := [_]) Try.results121 ⟨resV_tmp rfl rfl, trivial⟩ fun V => ?_
      exact ⟨(Ext.trans (Ext.trans E1 E3) (ext_wl V)), intE (by simp_all [checkSeenM])⟩
end Go.Proofs.Ytndfkbapoinmkaa
/- Walks: the reference's check of a season. Conditions: as each theorem states. -/
namespace Go.Proofs.Ytndfkbapoinmkaa
open Go Go.HL Go.Proofs Go.Wx
set_option maxRecDepth 100000
def weeksE (s : Season) : Int :=
  if s.heats.length = 0 then 7 else if s.heats.length > 6 then 6 else if s.damps.length < s.heats.length then 7 else if s.damps.length > s.heats.length then 6
  else firstErr checkWeatherM (s.heats ++ s.damps)
theorem check_weeks (s : Season) : checkM s = if weeksE s ≠ 0 then weeksE s else if s.joints.length > 3 then 6 else if firstErr checkJointM s.joints ≠ 0 then firstErr checkJointM s.joints else if s.reports.length > 5 then 6 else firstErr (checkSeenM s) s.reports := by
  unfold checkM weeksE
  split
  · rw [if_pos (by decide)]
  · split
    · rw [if_pos (by decide)]
    · split
      · rw [if_pos (by decide)]
      · split
        · rw [if_pos (by decide)]
        · rfl
set_option maxHeartbeats 1000000 in
theorem rWeeks_ok (s : Season) (A0 A1 A2 A3 : Option Addr) (c0 c1 c2 c3 : Nat) (h : AH) (R : SeasonR h A0 A1 A2 A3 s) (h0 : s.heats.length < 2 ^ 40) (h1 : s.damps.length < 2 ^ 40) :
    FnT Try.prog 119 #[seasonV A0 A1 A2 A3 c0 c1 c2 c3 s] h (fun v _ => v = .int .i64 (weeksE s)) := by
  refine call_body Try.func119 rfl Try.ntmps119 rfl ?_
  refine xp_seq ?_
  refine xp_region rfl ?_
  refine op_box (v := .agg #[.slice _ _ _, .slice _ _ _, .slice _ _ _, .slice _ _ _]) (cs := [_, _, _, _]) rfl rfl fun b1 hb1 => ?_
  refine wp_norm [_] rfl ?_
  refine op_pure (pv_assign (v := .int .i64 _) rfl) ?_
  refine xp_seq ?_
  refine xp_seq ?_
  refine xp_region rfl ?_
  refine op_pure (pv_fieldAddr rfl rfl rfl rfl 0 rfl) ?_
  refine op_loadP 0 (v := .slice _ _ _) rfl rfl rfl rfl ?_
  refine op_pure (pv_len rfl rfl) ?_
  refine op_pure (pv_of (v := .bool _) rfl) ?_
  refine xp_cond rfl (fun q1 => ?_) (fun q1 => ?_)
  · skip
    have q1' : s.heats.length = 0 := by have := of_decide_eq_true q1; omega
    refine xp_seq ?_
    refine xp_region rfl ?_
    refine op_pure (pv_assign (v := .int .i64 _) rfl) ?_
    refine xp_ret ?_
    refine res_list (vs := [_]) Try.results119 ⟨resV_tmp rfl rfl, trivial⟩ fun V => ?_
    exact ⟨(ext_wl V), intE (by rw [weeksE, if_pos q1'])⟩
  · skip
    have q1' : ¬ s.heats.length = 0 := by have := of_decide_eq_false q1; omega
    refine xp_skip ?_
    refine xp_seq ?_
    refine xp_seq ?_
    refine xp_region rfl ?_
    refine op_pure (pv_fieldAddr rfl rfl rfl rfl 0 rfl) ?_
    refine op_loadP 0 (v := .slice _ _ _) rfl rfl rfl rfl ?_
    refine op_pure (pv_len rfl rfl) ?_
    refine op_pure (pv_of (v := .bool _) rfl) ?_
    refine xp_cond rfl (fun q2 => ?_) (fun q2 => ?_)
    · skip
      have q2' : s.heats.length > 6 := by have := of_decide_eq_true q2; omega
      refine xp_seq ?_
      refine xp_region rfl ?_
      refine op_pure (pv_assign (v := .int .i64 _) rfl) ?_
      refine xp_ret ?_
      refine res_list (vs := [_]) Try.results119 ⟨resV_tmp rfl rfl, trivial⟩ fun V => ?_
      exact ⟨(ext_wl V), intE (by rw [weeksE, if_neg q1', if_pos q2'])⟩
    · skip
      have q2' : ¬ s.heats.length > 6 := by have := of_decide_eq_false q2; omega
      refine xp_skip ?_
      refine xp_seq ?_
      refine xp_seq ?_
      refine xp_region rfl ?_
      refine op_pure (pv_fieldAddr rfl rfl rfl rfl 1 rfl) ?_
      refine op_loadP 0 (v := .slice _ _ _) rfl rfl rfl rfl ?_
      refine op_pure (pv_len rfl rfl) ?_
      refine op_pure (pv_fieldAddr rfl rfl rfl rfl 0 rfl) ?_
      refine op_loadP 0 (v := .slice _ _ _) rfl rfl rfl rfl ?_
      refine op_pure (pv_len rfl rfl) ?_
      refine op_pure (pv_of (v := .bool _) rfl) ?_
      refine xp_cond rfl (fun q3 => ?_) (fun q3 => ?_)
      · skip
        have q3' : s.damps.length < s.heats.length := by have := of_decide_eq_true q3; omega
        refine xp_seq ?_
        refine xp_region rfl ?_
        refine op_pure (pv_assign (v := .int .i64 _) rfl) ?_
        refine xp_ret ?_
        refine res_list (vs := [_]) Try.results119 ⟨resV_tmp rfl rfl, trivial⟩ fun V => ?_
        exact ⟨(ext_wl V), intE (by rw [weeksE, if_neg q1', if_neg q2', if_pos q3'])⟩
      · skip
        have q3' : ¬ s.damps.length < s.heats.length := by have := of_decide_eq_false q3; omega
        refine xp_skip ?_
        refine xp_seq ?_
        refine xp_seq ?_
        refine xp_region rfl ?_
        refine op_pure (pv_fieldAddr rfl rfl rfl rfl 1 rfl) ?_
        refine op_loadP 0 (v := .slice _ _ _) rfl rfl rfl rfl ?_
        refine op_pure (pv_len rfl rfl) ?_
        refine op_pure (pv_fieldAddr rfl rfl rfl rfl 0 rfl) ?_
        refine op_loadP 0 (v := .slice _ _ _) rfl rfl rfl rfl ?_
        refine op_pure (pv_len rfl rfl) ?_
        refine op_pure (pv_of (v := .bool _) rfl) ?_
        refine xp_cond rfl (fun q4 => ?_) (fun q4 => ?_)
        · skip
          have q4' : s.damps.length > s.heats.length := by have := of_decide_eq_true q4; omega
          refine xp_seq ?_
          refine xp_region rfl ?_
          refine op_pure (pv_assign (v := .int .i64 _) rfl) ?_
          refine xp_ret ?_
          refine res_list (vs := [_]) Try.results119 ⟨resV_tmp rfl rfl, trivial⟩ fun V => ?_
          exact ⟨(ext_wl V), intE (by rw [weeksE, if_neg q1', if_neg q2', if_neg q3', if_pos q4'])⟩
        · skip
          have q4' : ¬ s.damps.length > s.heats.length := by have := of_decide_eq_false q4; omega
          have eW : weeksE s = firstErr checkWeatherM (s.heats ++ s.damps) := by rw [weeksE, if_neg q1', if_neg q2', if_neg q3', if_neg q4']
          refine xp_skip ?_
          refine xp_seq ?_
          refine xp_dw [false, true] rfl rfl rfl ?_
          refine dw_pure (i := 1) rfl (by decide +kernel) (pv_fieldAddr rfl rfl rfl rfl 0 rfl) ?_
          refine dw_load (i := 2) rfl (by decide +kernel) ?_
          refine op_loadP 0 (v := .slice _ _ _) rfl rfl rfl rfl ?_
          refine dw_pure (i := 4) rfl (by decide +kernel) (pv_fieldAddr rfl rfl rfl rfl 1 rfl) ?_
          refine dw_load (i := 5) rfl (by decide +kernel) ?_
          refine op_loadP 0 (v := .slice _ _ _) rfl rfl rfl rfl ?_
          refine dw_eff (i := 0) rfl (by decide +kernel) ?_
          refine op_buildSlice (zc := [_, _]) (vs := []) (cs := []) rfl rfl rfl rfl rfl rfl rfl fun b28 hb28 => ?_
          refine ⟨ext_newM hb28 _, ?_⟩
          refine dw_norm [_, _] rfl ?_
          refine dw_eff (i := 3) rfl (by decide +kernel) ?_
          refine op_appendR 1 accR_new rfl rfl rfl (fun V => R.heats.2.ext (Ext.trans (Ext.refl _) (ext_wl V))) (flat_len R.heats.1) (flat_plain rgP s.heats) rfl rfl rfl rfl rfl rfl rfl (by omega) rfl (by rw [flat_len R.heats.1, List.length_nil]; omega) fun a0 h1a E1a ha0 => ?_
          refine ⟨ext_wlm E1a _, ?_⟩
          refine dw_norm [_, _] rfl ?_
          refine dw_last (i := 6) rfl (by decide +kernel) (by decide +kernel) ?_
          refine op_appendR 1 ha0 rfl rfl rfl (fun V => R.damps.2.ext (Ext.trans E1a (ext_wl V))) (flat_len R.damps.1) (flat_plain rgP s.damps) rfl rfl rfl rfl rfl rfl rfl (by omega) rfl (by rw [List.nil_append, flat_len R.heats.1, flat_len R.damps.1]; omega) fun a1 h2a E2a ha1 => ?_
          refine dw_norm [_, _] rfl ?_
          refine dw_pure (i := 7) rfl (by decide +kernel) (pv_assign (v := .slice _ _ _) rfl) ?_
          refine dw_end rfl ?_
          obtain ⟨l, hl⟩ : ∃ l, s.heats ++ s.damps = l := ⟨_, rfl⟩
          have ll : l.length ≤ 12 := by rw [← hl, List.length_append]; omega
          rw [List.nil_append, ← List.flatMap_append, hl] at ha1
          obtain ⟨p1, B1, n1, d1⟩ := a1
          obtain rfl : n1 = l.length := by have := AccR.len ha1; rw [flat_len (m := 2) (fun _ _ => rfl)] at this; dsimp only at this; omega
          dsimp only
          refine goes_pubO 1 rfl ?_
          intro g1 G1 P1
          refine goes_norm [_, _] rfl ?_
          have RB : Row g1 2 rgC B1 l := ⟨fun _ _ => rfl, AccR.rd ha1 P1⟩
          rw [hl] at eW
          refine xp_seq ?_
          refine xp_seq ?_
          refine xp_region rfl ?_
          refine op_pure (pv_assign (v := .int .i64 _) rfl) ?_
          refine xp_block ?_
          refine xp_loopB [2, 4, 5, 35, 36, 37, 38, 39, 40, 41, 42, 43, 44, 45, 46, 47, 48] 2 (α := Nat) (fun k => [(4, .int .i64 k)]) (fun k => _) (fun k h_k => k ≤ l.length ∧ firstErr checkWeatherM (l.take k) = 0) (fun k => l.length - k) (0) ⟨rfl, trivial⟩ (rfl) (⟨Nat.zero_le _, rfl⟩) ?_
          rintro k T3 h_k E_k J_k
          refine goes_norm [_, _] rfl ?_
          obtain ⟨K1, K2⟩ := J_k
          refine xp_seq ?_
          refine xp_seq ?_
          refine xp_region rfl ?_
          refine op_pure (pv_move (v := .int .i64 _) rfl) ?_
          refine op_pure (pv_move (v := .slice _ _ _) rfl) ?_
          refine op_pure (pv_len rfl rfl) ?_
          refine op_pure (pv_of (v := .bool _) rfl) ?_
          refine xp_cond rfl (fun hk => ?_) (fun hk => ?_)
          · skip
            have hkl : k < l.length := ltI hk
            obtain ⟨g, off, hB, hc⟩ := (RB.ext E_k).at (by omega) hkl
            refine xp_skip ?_
            refine xp_seq ?_
            refine xp_block ?_
            refine xp_seq ?_
            refine xp_region rfl ?_
            refine op_pure (pv_move (v := .slice _ _ _) rfl) ?_
            refine op_pure (pv_move (v := .int .i64 _) rfl) ?_
            refine op_pure (pv_indexE rfl hB rfl rfl rfl (by omega) (by omega)) ?_
            refine op_loadA rfl rfl rfl rfl (hc) ?_
            refine op_fn (caps := []) (vs := [.agg #[.int .i64 _, .int .i64 _]]) rfl rfl rfl (rWeather_ok l[k] h_k) ?_
            rintro _ g3 G3 rfl
            refine op_pure (pv_assign (v := .int .i64 _) rfl) ?_
            refine xp_seq ?_
            refine xp_region rfl ?_
            refine op_pure (pv_move (v := .int .i64 _) rfl) ?_
            refine op_pure (pv_of (v := .bool _) rfl) ?_
            refine xp_cond rfl (fun hx => ?_) (fun hx => ?_)
            · skip
              have hx' : checkWeatherM l[k] ≠ 0 := by simpa using hx
              refine xp_seq ?_
              refine xp_region rfl ?_
              refine op_pure (pv_move (v := .int .i64 _) rfl) ?_
              refine op_pure (pv_assign (v := .int .i64 _) rfl) ?_
              refine xp_ret ?_
              refine res_list (vs := [_]) Try.results119 ⟨resV_tmp rfl rfl, trivial⟩ fun V => ?_
              exact ⟨(Ext.trans (Ext.trans (Ext.trans (Ext.trans (Ext.trans E1a E2a) G1) E_k) G3) (ext_wl V)), intE (by rw [eW, firstErr_stop hkl K2 hx'])⟩
            · skip
              have hx' : checkWeatherM l[k] = 0 := by simpa using hx
              refine xp_skip ?_
              refine xp_region rfl ?_
              refine op_pure (pv_move (v := .int .i64 _) rfl) ?_
              refine op_pure (pv_arith rfl (by omega)) ?_
              refine op_pure (pv_assign (v := .int .i64 _) rfl) ?_
              refine ⟨k + 1, ⟨rfl, trivial⟩, rfl, rfl, (Ext.trans E_k G3), fun h3 E3 => ⟨hkl, firstErr_go hkl K2 hx'⟩, by first | omega | (dsimp only; omega), ?_⟩
              repeat (first | exact off_base _ _ _ | refine off_upd (by decide) ?_ | refine off_updL rfl ?_ | refine off_mix rfl ?_)
          · skip
            have hke : k = l.length := by have := geI hk; omega
            subst hke
            rw [List.take_length] at K2
            refine xp_exit ?_
            refine xp_seq ?_
            refine xp_region rfl ?_
            refine op_pure (pv_assign (v := .int .i64 _) rfl) ?_
            refine xp_ret ?_
            refine res_list (vs := [_]) Try.results119 ⟨resV_tmp rfl rfl, trivial⟩ fun V => ?_
            exact ⟨(Ext.trans (Ext.trans (Ext.trans (Ext.trans E1a E2a) G1) E_k) (ext_wl V)), intE (by rw [eW, K2])⟩
set_option maxHeartbeats 1000000 in
theorem rCheck_ok (s : Season) (Sm : Small s) (A0 A1 A2 A3 : Option Addr) (c0 c1 c2 c3 : Nat) (h : AH) (R : SeasonR h A0 A1 A2 A3 s) :
    FnT Try.prog 51 #[seasonV A0 A1 A2 A3 c0 c1 c2 c3 s] h (fun v _ => v = .int .i64 (checkM s)) := by
  have Sm0 := Sm.h0
  have Sm2 := Sm.h2
  have Sm3 := Sm.h3
  have eC := check_weeks s
  refine call_body Try.func51 rfl Try.ntmps51 rfl ?_
  refine xp_seq ?_
  refine xp_region rfl ?_
  refine op_box (v := .agg #[.slice _ _ _, .slice _ _ _, .slice _ _ _, .slice _ _ _]) (cs := [_, _, _, _]) rfl rfl fun b1 hb1 => ?_
  refine wp_norm [_] rfl ?_
  refine op_pure (pv_assign (v := .int .i64 _) rfl) ?_
  refine xp_seq ?_
  refine xp_seq ?_
  refine xp_region rfl ?_
  refine op_loadPA 0 (vs := [.slice _ _ _, .slice _ _ _, .slice _ _ _, .slice _ _ _]) rfl rfl rfl rfl rfl ?_
  refine op_fn (caps := []) (vs := [.agg #[.slice _ _ _, .slice _ _ _, .slice _ _ _, .slice _ _ _]]) rfl rfl rfl (rWeeks_ok s A0 A1 A2 A3 c0 c1 c2 c3 h (R.ext (Ext.refl _)) Sm.h0 Sm.h1) ?_
  rintro _ g1 G1 rfl
  refine op_pure (pv_assign (v := .int .i64 _) rfl) ?_
  refine xp_seq ?_
  refine xp_region rfl ?_
  refine op_pure (pv_move (v := .int .i64 _) rfl) ?_
  refine op_pure (pv_of (v := .bool _) rfl) ?_
  refine xp_cond rfl (fun c1' => ?_) (fun c1' => ?_)
  · skip
    have hw : weeksE s ≠ 0 := by simpa using c1'
    refine xp_seq ?_
    refine xp_region rfl ?_
    refine op_pure (pv_move (v := .int .i64 _) rfl) ?_
    refine op_pure (pv_assign (v := .int .i64 _) rfl) ?_
    refine xp_ret ?_
    refine res_list (vs := [_]) Try.results51 ⟨resV_tmp rfl rfl, trivial⟩ fun V => ?_
    exact ⟨(Ext.trans G1 (ext_wl V)), intE (by rw [eC, if_pos hw])⟩
  · skip
    have hw : weeksE s = 0 := by simpa using c1'
    rw [if_neg (by simp [hw])] at eC
    refine xp_skip ?_
    refine xp_seq ?_
    refine xp_seq ?_
    refine xp_region rfl ?_
    refine op_pure (pv_fieldAddr rfl rfl rfl rfl 2 rfl) ?_
    refine op_loadP 0 (v := .slice _ _ _) rfl rfl rfl rfl ?_
    refine op_pure (pv_len rfl rfl) ?_
    refine op_pure (pv_of (v := .bool _) rfl) ?_
    refine xp_cond rfl (fun q1 => ?_) (fun q1 => ?_)
    · skip
      have q1' : s.joints.length > 3 := by have := of_decide_eq_true q1; omega
      refine xp_seq ?_
      refine xp_region rfl ?_
      refine op_pure (pv_assign (v := .int .i64 _) rfl) ?_
      refine xp_ret ?_
      refine res_list (vs := [_]) Try.results51 ⟨resV_tmp rfl rfl, trivial⟩ fun V => ?_
      exact ⟨(Ext.trans G1 (ext_wl V)), intE (by rw [eC, if_pos q1'])⟩
    · skip
      have q1' : ¬ s.joints.length > 3 := by have := of_decide_eq_false q1; omega
      rw [if_neg q1'] at eC
      refine xp_skip ?_
      refine xp_seq ?_
      refine xp_seq ?_
      refine xp_region rfl ?_
      refine op_pure (pv_assign (v := .int .i64 _) rfl) ?_
      refine xp_block ?_
      refine xp_loopB [2, 4, 5, 17, 18, 19, 20, 21, 22, 23, 24, 25, 26, 27, 28, 29, 30, 31, 32] 1 (α := Nat) (fun k => [(4, .int .i64 k)]) (fun k => _) (fun k h_k => k ≤ s.joints.length ∧ firstErr checkJointM (s.joints.take k) = 0) (fun k => s.joints.length - k) (0) ⟨rfl, trivial⟩ (rfl) (⟨Nat.zero_le _, rfl⟩) ?_
      rintro k T1 h_k E_k J_k
      refine goes_norm [_] rfl ?_
      obtain ⟨K1, K2⟩ := J_k
      refine xp_seq ?_
      refine xp_seq ?_
      refine xp_region rfl ?_
      refine op_pure (pv_move (v := .int .i64 _) rfl) ?_
      refine op_pure (pv_fieldAddr rfl rfl rfl rfl 2 rfl) ?_
      refine op_loadP 0 (v := .slice _ _ _) rfl rfl rfl rfl ?_
      refine op_pure (pv_len rfl rfl) ?_
      refine op_pure (pv_of (v := .bool _) rfl) ?_
      refine xp_cond rfl (fun hk => ?_) (fun hk => ?_)
      · skip
        have hkl : k < s.joints.length := ltI hk
        obtain ⟨g, off, hB, hc⟩ := (R.joints.ext (Ext.trans G1 E_k)).at (by omega) hkl
        refine xp_skip ?_
        refine xp_seq ?_
        refine xp_block ?_
        refine xp_seq ?_
        refine xp_region rfl ?_
        refine op_pure (pv_fieldAddr rfl rfl rfl rfl 2 rfl) ?_
        refine op_loadP 0 (v := .slice _ _ _) rfl rfl rfl rfl ?_
        refine op_pure (pv_move (v := .int .i64 _) rfl) ?_
        refine op_pure (pv_indexE rfl hB rfl rfl rfl (by omega) (by omega)) ?_
        refine op_loadA rfl rfl rfl rfl (hc) ?_
        refine op_fn (caps := []) (vs := [.agg #[.int .i64 _, .int .i64 _, .int .i64 _, .int .i64 _, .int .i64 _, .int .i64 _, .int .i64 _, .int .i64 _, .int .i64 _]]) rfl rfl rfl (rJoint_ok s.joints[k] h_k) ?_
        rintro _ g3 G3 rfl
        refine op_pure (pv_assign (v := .int .i64 _) rfl) ?_
        refine xp_seq ?_
        refine xp_region rfl ?_
        refine op_pure (pv_move (v := .int .i64 _) rfl) ?_
        refine op_pure (pv_of (v := .bool _) rfl) ?_
        refine xp_cond rfl (fun hx => ?_) (fun hx => ?_)
        · skip
          have hx' : checkJointM s.joints[k] ≠ 0 := by simpa using hx
          have e2 := firstErr_stop hkl K2 hx'
          refine xp_seq ?_
          refine xp_region rfl ?_
          refine op_pure (pv_move (v := .int .i64 _) rfl) ?_
          refine op_pure (pv_assign (v := .int .i64 _) rfl) ?_
          refine xp_ret ?_
          refine res_list (vs := [_]) Try.results51 ⟨resV_tmp rfl rfl, trivial⟩ fun V => ?_
          exact ⟨(Ext.trans (Ext.trans (Ext.trans G1 E_k) G3) (ext_wl V)), intE (by rw [eC, if_pos (by rw [e2]; exact hx'), e2])⟩
        · skip
          have hx' : checkJointM s.joints[k] = 0 := by simpa using hx
          refine xp_skip ?_
          refine xp_region rfl ?_
          refine op_pure (pv_move (v := .int .i64 _) rfl) ?_
          refine op_pure (pv_arith rfl (by omega)) ?_
          refine op_pure (pv_assign (v := .int .i64 _) rfl) ?_
          refine ⟨k + 1, ⟨rfl, trivial⟩, rfl, rfl, (Ext.trans E_k G3), fun h3 E3 => ⟨hkl, firstErr_go hkl K2 hx'⟩, by first | omega | (dsimp only; omega), ?_⟩
          repeat (first | exact off_base _ _ _ | refine off_upd (by decide) ?_ | refine off_updL rfl ?_ | refine off_mix rfl ?_)
      · skip
        have hke : k = s.joints.length := by have := geI hk; omega
        subst hke
        rw [List.take_length] at K2
        rw [if_neg (by simp [K2])] at eC
        refine xp_exit ?_
        refine xp_seq ?_
        refine xp_seq ?_
        refine xp_region rfl ?_
        refine op_pure (pv_fieldAddr rfl rfl rfl rfl 3 rfl) ?_
        refine op_loadP 0 (v := .slice _ _ _) rfl rfl rfl rfl ?_
        refine op_pure (pv_len rfl rfl) ?_
        refine op_pure (pv_of (v := .bool _) rfl) ?_
        refine xp_cond rfl (fun q2 => ?_) (fun q2 => ?_)
        · skip
          have q2' : s.reports.length > 5 := by have := of_decide_eq_true q2; omega
          refine xp_seq ?_
          refine xp_region rfl ?_
          refine op_pure (pv_assign (v := .int .i64 _) rfl) ?_
          refine xp_ret ?_
          refine res_list (vs := [_]) Try.results51 ⟨resV_tmp rfl rfl, trivial⟩ fun V => ?_
          exact ⟨(Ext.trans (Ext.trans G1 E_k) (ext_wl V)), intE (by rw [eC, if_pos q2'])⟩
        · skip
          have q2' : ¬ s.reports.length > 5 := by have := of_decide_eq_false q2; omega
          rw [if_neg q2'] at eC
          refine xp_skip ?_
          refine xp_seq ?_
          refine xp_seq ?_
          refine xp_region rfl ?_
          refine op_pure (pv_assign (v := .int .i64 _) rfl) ?_
          refine xp_block ?_
          refine xp_loopB [2, 6, 7, 37, 38, 39, 40, 41, 42, 43, 44, 45, 46, 47, 48, 49, 50, 51, 52, 53] 1 (α := Nat) (fun n => [(6, .int .i64 n)]) (fun n => _) (fun n h_n => n ≤ s.reports.length ∧ firstErr (checkSeenM s) (s.reports.take n) = 0) (fun n => s.reports.length - n) (0) ⟨rfl, trivial⟩ (rfl) (⟨Nat.zero_le _, rfl⟩) ?_
          rintro n T2 h_n E_n J_n
          refine goes_norm [_] rfl ?_
          obtain ⟨N1, N2⟩ := J_n
          refine xp_seq ?_
          refine xp_seq ?_
          refine xp_region rfl ?_
          refine op_pure (pv_move (v := .int .i64 _) rfl) ?_
          refine op_pure (pv_fieldAddr rfl rfl rfl rfl 3 rfl) ?_
          refine op_loadP 0 (v := .slice _ _ _) rfl rfl rfl rfl ?_
          refine op_pure (pv_len rfl rfl) ?_
          refine op_pure (pv_of (v := .bool _) rfl) ?_
          refine xp_cond rfl (fun hn => ?_) (fun hn => ?_)
          · skip
            have hnl : n < s.reports.length := ltI hn
            obtain ⟨g, off, hB, hc⟩ := (R.reports.ext (Ext.trans (Ext.trans G1 E_k) E_n)).at (by omega) hnl
            refine xp_skip ?_
            refine xp_seq ?_
            refine xp_block ?_
            refine xp_seq ?_
            refine xp_dw [] rfl rfl rfl ?_
            refine dw_load (i := 0) rfl (by decide +kernel) ?_
            refine op_loadPA 0 (vs := [.slice _ _ _, .slice _ _ _, .slice _ _ _, .slice _ _ _]) rfl rfl rfl rfl rfl ?_
            refine dw_pure (i := 1) rfl (by decide +kernel) (pv_fieldAddr rfl rfl rfl rfl 3 rfl) ?_
            refine dw_load (i := 2) rfl (by decide +kernel) ?_
            refine op_loadP 0 (v := .slice _ _ _) rfl rfl rfl rfl ?_
            refine dw_pure (i := 3) rfl (by decide +kernel) (pv_move (v := .int .i64 _) rfl) ?_
            refine dw_pure (i := 4) rfl (by decide +kernel) (pv_indexE rfl hB rfl rfl rfl (by omega) (by omega)) ?_
            refine dw_load (i := 5) rfl (by decide +kernel) ?_
            refine op_loadA rfl rfl rfl rfl (hc) ?_
            refine dw_last (i := 6) rfl (by decide +kernel) (by decide +kernel) ?_
            refine op_fn (caps := []) (vs := [.agg #[.slice _ _ _, .slice _ _ _, .slice _ _ _, .slice _ _ _], .agg #[.int .i64 _, .int .i64 _, .bool _]]) rfl rfl rfl (rSeen_ok s s.reports[n] A0 A1 A2 A3 c0 c1 c2 c3 Sm2 Sm0 h_n) ?_
            rintro _ g3 G3 rfl
            refine dw_pure (i := 7) rfl (by decide +kernel) (pv_assign (v := .int .i64 _) rfl) ?_
            refine dw_end rfl ?_
            refine xp_seq ?_
            refine xp_region rfl ?_
            refine op_pure (pv_move (v := .int .i64 _) rfl) ?_
            refine op_pure (pv_of (v := .bool _) rfl) ?_
            refine xp_cond rfl (fun hx => ?_) (fun hx => ?_)
            · skip
              have hx' : checkSeenM s s.reports[n] ≠ 0 := by simpa using hx
              refine xp_seq ?_
              refine xp_region rfl ?_
              refine op_pure (pv_move (v := .int .i64 _) rfl) ?_
              refine op_pure (pv_assign (v := .int .i64 _) rfl) ?_
              refine xp_ret ?_
              refine res_list (vs := [_]) Try.results51 ⟨resV_tmp rfl rfl, trivial⟩ fun V => ?_
              exact ⟨(Ext.trans (Ext.trans (Ext.trans (Ext.trans G1 E_k) E_n) G3) (ext_wl V)), intE (by rw [eC, firstErr_stop hnl N2 hx'])⟩
            · skip
              have hx' : checkSeenM s s.reports[n] = 0 := by simpa using hx
              refine xp_skip ?_
              refine xp_region rfl ?_
              refine op_pure (pv_move (v := .int .i64 _) rfl) ?_
              refine op_pure (pv_arith rfl (by omega)) ?_
              refine op_pure (pv_assign (v := .int .i64 _) rfl) ?_
              refine ⟨n + 1, ⟨rfl, trivial⟩, rfl, rfl, (Ext.trans E_n G3), fun h3 E3 => ⟨hnl, firstErr_go hnl N2 hx'⟩, by first | omega | (dsimp only; omega), ?_⟩
              repeat (first | exact off_base _ _ _ | refine off_upd (by decide) ?_ | refine off_updL rfl ?_ | refine off_mix rfl ?_)
          · skip
            have hne : n = s.reports.length := by have := geI hn; omega
            subst hne
            rw [List.take_length] at N2
            refine xp_exit ?_
            refine xp_seq ?_
            refine xp_region rfl ?_
            refine op_pure (pv_assign (v := .int .i64 _) rfl) ?_
            refine xp_ret ?_
            refine res_list (vs := [_]) Try.results51 ⟨resV_tmp rfl rfl, trivial⟩ fun V => ?_
            exact ⟨(Ext.trans (Ext.trans (Ext.trans G1 E_k) E_n) (ext_wl V)), intE (by rw [eC, N2])⟩
end Go.Proofs.Ytndfkbapoinmkaa
/- Plain: all reports left out. Conditions: as each theorem states. -/
namespace Go.Wx
open Go Go.HL
theorem CheckS.reports {s : Season} (c : CheckS s) {rs : List Seen} (h5 : rs.length ≤ 5) (h : ∀ r ∈ rs, checkSeenM s r = 0) : CheckS { s with reports := rs } :=
  ⟨c.w1, c.w6, c.dl, c.h, c.d, c.j3, c.j, h5, fun r hr => checkSeen_iff.2 (checkSeen_iff.1 (h r hr))⟩
end Go.Wx
/- Plain: what truly was so is never denied. Conditions: as each theorem states. -/
namespace Go.Wx
open Go Go.HL
theorem mem_le_last {m : Nat} {z : Int} (h : z ∈ listM m) : z ≤ (listM m).getLastD 0 := by
  obtain ⟨i, rfl, hi, hb⟩ := listN_mem h
  have h1 := last_le (m := m) (m' := 2 ^ i) (fun w' hw' hb' => by
    rw [Nat.testBit_two_pow] at hb'
    have : i = w' := by simpa using hb'
    subst this
    exact ⟨i, Nat.le_refl _, hi, hb⟩)
  have h2 : listM (2 ^ i) ≠ [] := List.ne_nil_of_mem (mem_listN.2 ⟨i, rfl, hi, by rw [Nat.testBit_two_pow]; simp⟩)
  have h3 := h1 h2
  have h4 : (listM (2 ^ i)).getLastD 0 = (i : Int) := by
    have hl : (listM (2 ^ i)).getLastD 0 ∈ listM (2 ^ i) := by
      rw [List.getLastD_eq_getLast?, List.getLast?_eq_some_getLast h2]
      exact List.getLast_mem h2
    obtain ⟨k, e, _, hk⟩ := listN_mem hl
    rw [Nat.testBit_two_pow] at hk
    have : i = k := by simpa using hk
    rw [e, this]
  omega
theorem head_le_mem {m : Nat} {z : Int} (h : z ∈ listM m) : (listM m).headD 0 ≤ z := by
  have hp : (listM m).Pairwise (· < ·) := listN_pair m 7
  cases e : listM m with
  | nil => rw [e] at h; cases h
  | cons y l =>
    rw [e] at h hp
    rw [List.headD_cons]
    rcases List.mem_cons.1 h with rfl | h
    · exact Int.le_refl _
    · have := (List.pairwise_cons.1 hp).1 _ h; omega
section
variable {weeks joints reports : Nat} {s : Season} {ht dt fs : List Int} (T : SeasonT weeks joints reports s ht dt fs) (hw : weeks ≤ 6) (h3 : joints ≤ 3)
include T hw h3
end
theorem danger_bit {s : Season} : ∀ {n i w : Nat}, i < n → (failsM s i).testBit w = true → (dangerM s n).testBit w = true
  | 0, i, w, h, _ => absurd h (Nat.not_lt_zero i)
  | n + 1, i, w, h, hb => by
    rw [dangerM, Nat.testBit_or, Bool.or_eq_true]
    by_cases e : i = n
    · subst e; exact .inr hb
    · exact .inl (danger_bit (by omega) hb)
end Go.Wx
/- Plain: a season that is known better. Conditions: as each theorem states. -/
namespace Go.Wx
open Go Go.HL
/-- What is known of a season is known better. -/
structure Better (x s : Season) : Prop where
  js : x.joints = s.joints
  hl : x.heats.length = s.heats.length
  dl : x.damps.length = s.damps.length
  hs : ∀ (i : Nat) q r, x.heats[i]? = some q → s.heats[i]? = some r → r.mn ≤ q.mn ∧ q.mx ≤ r.mx
  ds : ∀ (i : Nat) q r, x.damps[i]? = some q → s.damps[i]? = some r → r.mn ≤ q.mn ∧ q.mx ≤ r.mx
  rs : ∀ r ∈ s.reports, r ∈ x.reports
section
variable {x s : Season} (B : Better x s) (cx : CheckS x) (cs : CheckS s)
include B cx cs
theorem Better.sky {n : Int} {y : Sky} (h : y ∈ allSkies x n) : y ∈ allSkies s n := by
  have l1 : (weatherM x n).length = s.heats.length := by
    unfold weatherM
    split
    · exact B.hl
    · rw [cx.dl]; exact B.hl
  have l2 : (weatherM s n).length = s.heats.length := by
    unfold weatherM
    split
    · rfl
    · exact cs.dl
  have h6 := cs.w6
  rw [mem_allSkies (by omega)] at h ⊢
  rw [l1] at h
  rw [l2]
  refine ⟨fun i r hr => ?_, h.2⟩
  have hi := (List.getElem?_eq_some_iff.1 hr).1
  have hq : (weatherM x n)[i]? = some ((weatherM x n)[i]'(by omega)) := List.getElem?_eq_getElem (by omega)
  have h1 := h.1 i _ hq
  have h2 : r.mn ≤ ((weatherM x n)[i]'(by omega)).mn ∧ ((weatherM x n)[i]'(by omega)).mx ≤ r.mx := by
    generalize hz : (weatherM x n)[i]'(by omega) = z at hq
    unfold weatherM at hr hq
    by_cases hn : n = 1
    · rw [if_pos hn] at hr hq; exact B.hs i _ r hq hr
    · rw [if_neg hn] at hr hq; exact B.ds i _ r hq hr
  omega
theorem Better.told {i w : Nat} (h : (toldW x i).testBit w = true) : (toldW s i).testBit w = true := by
  by_cases hw : w < 64
  · rw [toldW_bit x cx.w6 (fun r hr => (checkSeen_iff.1 (cx.r r hr)).2.2.1) i w hw, Bool.and_eq_true, List.all_eq_true] at h
    rw [toldW_bit s cs.w6 (fun r hr => (checkSeen_iff.1 (cs.r r hr)).2.2.1) i w hw, Bool.and_eq_true, List.all_eq_true, ← B.hl]
    exact ⟨h.1, fun r hr => h.2 r (B.rs r hr)⟩
  · have h2 : toldW x i < 2 ^ w := Nat.lt_of_lt_of_le (toldW_lt x cx.w6 i) (Nat.pow_le_pow_right (by omega) (by omega))
    rw [Nat.testBit_lt_two_pow h2] at h
    cases h
theorem Better.surv {n : Int} {y : Sky} {i : Nat} {z : Fl} (h : z ∈ Wx.surv x n y i) : z ∈ Wx.surv s n y i := by
  unfold Wx.surv at h ⊢
  rw [B.js] at h
  cases hj : s.joints[i]? with
  | none => rw [hj] at h; cases h
  | some j =>
    rw [hj] at h
    simp only at h ⊢
    split at h
    · rename_i hk
      rw [if_pos hk]
      rw [List.mem_filter] at h ⊢
      rw [B.hl] at h
      exact ⟨h.1, B.told cx cs h.2⟩
    · cases h
theorem Better.ok {n : Int} {y : Sky} (h : okM x n y = true) : okM s n y = true := by
  rw [okM_iff] at h ⊢
  intro i j hj hk e
  have h1 := h i j (by rw [B.js]; exact hj) hk
  cases hs : Wx.surv x n y i with
  | nil => exact h1 hs
  | cons z l =>
    have := B.surv cx cs (n := n) (y := y) (i := i) (z := z) (by rw [hs]; exact List.mem_cons_self ..)
    rw [e] at this
    cases this
theorem Better.kind (i : Nat) : kindAt x i = kindAt s i := by unfold kindAt; rw [B.js]
theorem Better.fate {n : Int} {y : Sky} {i w : Nat} (h : (fateM x n y i).testBit w = true) : (fateM s n y i).testBit w = true := by
  unfold fateM at h ⊢
  rw [maskM_bit] at h ⊢
  obtain ⟨z, hz, e⟩ := h
  exact ⟨z, B.surv cx cs hz, e⟩
/-- Each fate of the season that is known better lies within one of the other. -/
theorem Better.fates {F' : Fate} (h : F' ∈ allFates x) : ∃ F, F ∈ allFates s ∧ ∀ i, i < 3 → ∀ w, (F'.at i).testBit w = true → (F.at i).testBit w = true := by
  obtain ⟨a, ha, b, hb, rfl⟩ := mem_allFates.1 h
  obtain ⟨u, hu⟩ := List.mem_map.1 ha
  obtain ⟨v, hv⟩ := List.mem_map.1 hb
  obtain ⟨hu1, rfl⟩ := hu
  obtain ⟨hv1, rfl⟩ := hv
  obtain ⟨u1, u2⟩ := mem_okAll.1 hu1
  obtain ⟨v1, v2⟩ := mem_okAll.1 hv1
  refine ⟨joinF (fateOf s 1 u) (fateOf s 2 v), mem_allFates.2 ⟨_, List.mem_map.2 ⟨u, mem_okAll.2 ⟨B.sky cx cs u1, B.ok cx cs u2⟩, rfl⟩, _, List.mem_map.2 ⟨v, mem_okAll.2 ⟨B.sky cx cs v1, B.ok cx cs v2⟩, rfl⟩, rfl⟩, fun i hi w hb => ?_⟩
  rw [joinF_at, Fate.of_at _ _ _ _ hi, Fate.of_at _ _ _ _ hi, Nat.testBit_or, Bool.or_eq_true] at hb ⊢
  exact hb.imp (B.fate cx cs) (B.fate cx cs)
end
theorem list_sub {m m' : Nat} (h : ∀ i, m'.testBit i = true → m.testBit i = true) {z : Int} (hz : z ∈ listM m') : z ∈ listM m := by
  obtain ⟨i, rfl, hi, hb⟩ := listN_mem hz
  exact mem_listN.2 ⟨i, rfl, hi, h i hb⟩
section
variable {x s : Season} (B : Better x s) (cx : CheckS x) (cs : CheckS s)
include B cx cs
theorem Better.first (hx : mayM x = true) {j : Nat} : ((allFates x).any (isF x j) = true → (allFates s).any (isF s j) = true) ∧ ((allFates x).any (noF x j) = true → (allFates s).any (noF s j) = true) := by
  have hjl : x.joints.length = s.joints.length := by rw [B.js]
  have j3 := cs.j3
  have SV := checkM_zero cx.ok
  have ends : ∀ (F' F : Fate), F' ∈ allFates x → (∀ i, i < 3 → ∀ w, (F'.at i).testBit w = true → (F.at i).testBit w = true) → ∀ n, n ≤ s.joints.length → latP x F' j n ≤ latP s F j n ∧ soonP s F j n ≤ soonP x F' j n := by
    intro F' F hF' hsub n
    induction n with
    | zero => intro _; rw [latP, latP, soonP, soonP, B.hl]; exact ⟨Int.le_refl _, Int.le_refl _⟩
    | succ n ih =>
      intro hn
      obtain ⟨h1, h2⟩ := ih (by omega)
      have hne : listM (F'.at n) ≠ [] := listM_ne (allFates_ne SV hF' (by omega)) ((allFates_b cx.w6 hF').at n)
      have hs := hsub n (by omega)
      have e1 : (listM (F'.at n)).getLastD 0 ∈ listM (F'.at n) := by rw [List.getLastD_eq_getLast?, List.getLast?_eq_some_getLast hne]; exact List.getLast_mem hne
      have e2 : (listM (F'.at n)).headD 0 ∈ listM (F'.at n) := by cases e : listM (F'.at n) with | nil => exact absurd e hne | cons a l => exact List.mem_cons_self ..
      have g1 := mem_le_last (list_sub hs e1)
      have g2 := head_le_mem (list_sub hs e2)
      rw [latP, latP, soonP, soonP]
      split
      · exact ⟨h1, h2⟩
      · omega
  constructor
  · intro h
    obtain ⟨F', hF', h⟩ := List.any_eq_true.1 h
    obtain ⟨F, hF, hsub⟩ := B.fates cx cs hF'
    refine List.any_eq_true.2 ⟨F, hF, ?_⟩
    unfold isF at h ⊢
    obtain ⟨w, hw, h⟩ := List.any_eq_true.1 h
    by_cases hj : j < 3
    · refine List.any_eq_true.2 ⟨w, list_sub (hsub j hj) hw, ?_⟩
      unfold isW at h ⊢
      rw [Bool.and_eq_true, decide_eq_true_eq, decide_eq_true_eq] at h ⊢
      have := (ends F' F hF' hsub s.joints.length (Nat.le_refl _)).1
      rw [hjl, B.hl] at h
      omega
    · have h2 : F'.at j = F'.at 2 ∧ F.at j = F.at 2 := by
        match j, hj with
        | j + 3, _ => exact ⟨rfl, rfl⟩
        | 0, h => exact absurd (by omega) h
        | 1, h => exact absurd (by omega) h
        | 2, h => exact absurd (by omega) h
      rw [h2.1] at hw
      rw [h2.2]
      refine List.any_eq_true.2 ⟨w, list_sub (hsub 2 (by omega)) hw, ?_⟩
      unfold isW at h ⊢
      rw [Bool.and_eq_true, decide_eq_true_eq, decide_eq_true_eq] at h ⊢
      have := (ends F' F hF' hsub s.joints.length (Nat.le_refl _)).1
      rw [hjl, B.hl] at h
      omega
  · intro h
    obtain ⟨F', hF', h⟩ := List.any_eq_true.1 h
    obtain ⟨F, hF, hsub⟩ := B.fates cx cs hF'
    refine List.any_eq_true.2 ⟨F, hF, ?_⟩
    unfold noF at h ⊢
    obtain ⟨w, hw, h⟩ := List.any_eq_true.1 h
    have hmem : w ∈ listM (F.at j) := by
      by_cases hj : j < 3
      · exact list_sub (hsub j hj) hw
      · have h2 : F'.at j = F'.at 2 ∧ F.at j = F.at 2 := by
          match j, hj with
          | j + 3, _ => exact ⟨rfl, rfl⟩
          | 0, h => exact absurd (by omega) h
          | 1, h => exact absurd (by omega) h
          | 2, h => exact absurd (by omega) h
        rw [h2.1] at hw
        rw [h2.2]
        exact list_sub (hsub 2 (by omega)) hw
    refine List.any_eq_true.2 ⟨w, hmem, ?_⟩
    unfold noW at h ⊢
    rw [Bool.or_eq_true, decide_eq_true_eq, decide_eq_true_eq] at h ⊢
    have := (ends F' F hF' hsub s.joints.length (Nat.le_refl _)).2
    rw [hjl, B.hl] at h
    omega
end
end Go.Wx
/- Plain: ranges made narrower, one by one. Conditions: as each theorem states. -/
namespace Go.Wx
open Go Go.HL
def NarrowL (ts : List Int) (rs qs : List Rg) : Prop := qs.length = rs.length ∧ ∀ (k : Nat) q r t, qs[k]? = some q → rs[k]? = some r → ts[k]? = some t → r.mn ≤ q.mn ∧ q.mn ≤ t ∧ t ≤ q.mx ∧ q.mx ≤ r.mx
theorem NarrowL.set {ts : List Int} {rs qs : List Rg} (n : NarrowL ts rs qs) {i : Nat} {r q : Rg} {t : Int} (hr : rs[i]? = some r) (ht : ts[i]? = some t) (h : r.mn ≤ q.mn ∧ q.mn ≤ t ∧ t ≤ q.mx ∧ q.mx ≤ r.mx) : NarrowL ts rs (qs.set i q) := by
  refine ⟨by rw [List.length_set]; exact n.1, fun k q' r' t' h1 h2 h3 => ?_⟩
  rw [List.getElem?_set] at h1
  by_cases hk : i = k
  · subst hk
    rw [if_pos rfl] at h1
    split at h1
    · cases h1
      rw [hr] at h2
      rw [ht] at h3
      cases h2
      cases h3
      exact h
    · cases h1
  · rw [if_neg hk] at h1
    exact n.2 k q' r' t' h1 h2 h3
end Go.Wx
/- Plain: a failure as the reference finds it. Conditions: as each theorem states. -/
namespace Go.Wx
open Go Go.HL
theorem causes_bits (n week a b c : Nat) : (causesM n week a b c).testBit 0 = (decide (a = week) && decide (a < n)) ∧ (causesM n week a b c).testBit 1 = (decide (b = week) && decide (b < n)) ∧ (causesM n week a b c).testBit 2 = (decide (c = week) && decide (c < n)) := by
  unfold causesM causesP causesP causesP causesP bitIf
  simp only [sel3]
  generalize (decide (a = week) && decide (a < n)) = p
  generalize (decide (b = week) && decide (b < n)) = q
  generalize (decide (c = week) && decide (c < n)) = r
  cases p <;> cases q <;> cases r <;> decide
def b0W (x : List Int) (h : Int) (w : Nat) : Bool := decide (x.getD w 0 ≥ h)
def b1W (x : List Int) (c many : Int) (w : Nat) : Bool := decide (x.getD w 0 ≤ c) && decide ((coldN x c (w + 1) : Int) = many)
def b2W (life : Int) (w : Nat) : Bool := decide ((w : Int) = life)
theorem failW_eq (x : List Int) (h c many life : Int) (w : Nat) : failW x h c many life w = (b0W x h w || b1W x c many w || b2W life w) := by
  unfold failW b0W b1W b2W
  rw [Bool.or_assoc, Bool.or_assoc]
  congr 1
  rw [Bool.or_comm]
/-- A failure's cells, as the reference has them. -/
def flR (y : Fl) : List Value := [.int .i64 y.week, .bool (y.causes.testBit 0), .bool (y.causes.testBit 1), .bool (y.causes.testBit 2)]
section
variable {x : List Int} (h6 : x.length ≤ 6) {h c : Int} {many life : Nat} (hm : 1 ≤ many)
include h6 hm
theorem fail_first {w : Nat} (hw : w < x.length) (hf : failW x h c many life w = true) (hb : ∀ v, v < w → failW x h c many life v = false) :
    flR (failM (skyOf x) x.length h c many life) = [.int .i64 w, .bool (b0W x h w), .bool (b1W x c many w), .bool (b2W life w)] := by
  have hwk : weekM (skyOf x) x.length h c many life = w := by
    rw [← weekM_T x h6 h c many life hm]
    exact failT_eq (by omega) (fun _ => hf) hb
  obtain ⟨a1, a2, a3⟩ := when0_spec (skyOf x) x.length h h6
  obtain ⟨d1, d2, d3⟩ := when1_spec x h6 c many hm
  have hat : (skyOf x).at w = x.getD w 0 := skyOf_at x w (by omega)
  have hmin : weekM (skyOf x) x.length h c many life ≤ when0 (skyOf x) x.length h ∧ weekM (skyOf x) x.length h c many life ≤ when1 (skyOf x) x.length c many ∧ weekM (skyOf x) x.length h c many life ≤ life := by unfold weekM; omega
  rw [hwk] at hmin
  obtain ⟨e0, e1, e2⟩ := causes_bits x.length w (when0 (skyOf x) x.length h) (when1 (skyOf x) x.length c many) life
  unfold flR failM
  rw [hwk]
  dsimp only
  rw [e0, e1, e2]
  have k0 : (decide (when0 (skyOf x) x.length h = w) && decide (when0 (skyOf x) x.length h < x.length)) = b0W x h w := by
    unfold b0W
    rw [Bool.eq_iff_iff]
    simp only [Bool.and_eq_true, decide_eq_true_eq]
    constructor
    · rintro ⟨e, hl⟩
      have := a2 hl
      rw [e, hat] at this
      exact this
    · intro hge
      have := a3 w hw (by rw [hat]; exact hge)
      exact ⟨by omega, by omega⟩
  have k1 : (decide (when1 (skyOf x) x.length c many = w) && decide (when1 (skyOf x) x.length c many < x.length)) = b1W x c many w := by
    unfold b1W
    rw [Bool.eq_iff_iff]
    simp only [Bool.and_eq_true, decide_eq_true_eq]
    constructor
    · rintro ⟨e, hl⟩
      have := d2 hl
      rw [e, hat] at this
      exact ⟨this.1, by exact_mod_cast this.2⟩
    · rintro ⟨h1, h2⟩
      have := d3 w hw (by rw [hat]; exact h1) (by exact_mod_cast h2)
      exact ⟨this, by omega⟩
  have k2 : (decide (life = w) && decide (life < x.length)) = b2W life w := by
    unfold b2W
    rw [Bool.eq_iff_iff]
    simp only [Bool.and_eq_true, decide_eq_true_eq]
    constructor
    · rintro ⟨e, _⟩; omega
    · intro e; exact ⟨by omega, by omega⟩
  rw [k0, k1, k2]
theorem fail_none (hb : ∀ v, v < x.length → failW x h c many life v = false) :
    flR (failM (skyOf x) x.length h c many life) = [.int .i64 (x.length : Nat), .bool false, .bool false, .bool false] := by
  have hwk : weekM (skyOf x) x.length h c many life = x.length := by
    rw [← weekM_T x h6 h c many life hm]
    exact failT_eq (Nat.le_refl _) (fun h => absurd h (by omega)) hb
  obtain ⟨e0, e1, e2⟩ := causes_bits x.length x.length (when0 (skyOf x) x.length h) (when1 (skyOf x) x.length c many) life
  have key : ∀ a : Nat, (decide (a = x.length) && decide (a < x.length)) = false := by
    intro a
    rw [Bool.eq_false_iff]
    intro e
    simp only [Bool.and_eq_true, decide_eq_true_eq] at e
    omega
  unfold flR failM
  rw [hwk]
  dsimp only
  rw [e0, e1, e2, key, key, key]
end
end Go.Wx
/- Walks: the reference's failure of a joint. Conditions: as each theorem states. -/
namespace Go.Proofs.Ytndfkbapoinmkaa
open Go Go.HL Go.Proofs Go.Wx
set_option maxRecDepth 100000
set_option maxHeartbeats 2000000 in
theorem rFail_ok (x : List Int) (h6 : x.length ≤ 6) (hi lo : Int) (many life : Nat) (hm : 1 ≤ many) (hm2 : many ≤ 100) (A : Option Addr) (cA : Nat) (h : AH) (R : Row h 1 intC A x) :
    FnT Try.prog 145 #[.slice A x.length cA, .int .i64 hi, .int .i64 lo, .int .i64 many, .int .i64 life] h (fun v _ => v = .agg (flR (failM (skyOf x) x.length hi lo many life)).toArray) := by
  refine call_body Try.func145 rfl Try.ntmps145 rfl ?_
  refine xp_seq ?_
  refine xp_region rfl ?_
  refine op_alloc (cs := [_, _, _, _]) rfl rfl fun b10 hb10 => ?_
  refine wp_norm [_] rfl ?_
  refine xp_seq ?_
  refine xp_region rfl ?_
  refine op_pure (pv_assign (v := .int .i64 _) rfl) ?_
  refine xp_seq ?_
  refine xp_seq ?_
  refine xp_region rfl ?_
  refine op_pure (pv_assign (v := .int .i64 _) rfl) ?_
  refine xp_block ?_
  refine xp_loopB [11, 12, 13, 14, 15, 16, 17, 18, 19, 20, 21, 22, 23, 24, 25, 26, 27, 28, 29, 30, 31, 32, 33, 34, 35, 36, 37, 38, 39, 40, 41, 42, 43, 44, 45, 46, 47, 48, 49, 50, 51, 52, 53, 54, 55, 56, 57, 58, 59, 60, 61] 1 (α := Nat) (fun w => [(12, .int .i64 w), (11, .int .i64 (coldN x lo w : Nat))]) (fun w => _) (fun w h_w => w ≤ x.length ∧ ∀ v, v < w → failW x hi lo many life v = false) (fun w => x.length - w) (0) ⟨rfl, intE (by simp [coldN]), trivial⟩ (rfl) (⟨Nat.zero_le _, fun v hv => absurd hv (Nat.not_lt_zero v)⟩) ?_
  rintro w T1 h_w E_w J_w
  refine goes_norm [_] rfl ?_
  obtain ⟨K1, K2⟩ := J_w
  refine xp_seq ?_
  refine xp_seq ?_
  refine xp_region rfl ?_
  refine op_pure (pv_move (v := .int .i64 _) rfl) ?_
  refine op_pure (pv_move (v := .slice _ _ _) rfl) ?_
  refine op_pure (pv_len rfl rfl) ?_
  refine op_pure (pv_of (v := .bool _) rfl) ?_
  refine xp_cond rfl (fun hw => ?_) (fun hw => ?_)
  · skip
    have hwl : w < x.length := ltI hw
    have hcn := coldN_le x lo w
    have hcs := coldN_succ (x := x) (lo := lo) hwl
    have hgd : x.getD w 0 = x[w] := by rw [List.getD_eq_getElem?_getD, List.getElem?_eq_getElem hwl]; rfl
    obtain ⟨g, off, hA, hc⟩ := (R.ext E_w).at (by omega) hwl
    refine xp_skip ?_
    refine xp_seq ?_
    refine xp_block ?_
    refine xp_seq ?_
    refine xp_region rfl ?_
    refine op_alloc (cs := [_, _, _, _]) rfl rfl fun b13 hb13 => ?_
    refine wp_norm [_, _] rfl ?_
    refine xp_seq ?_
    refine xp_region rfl ?_
    refine op_pure (pv_move (v := .slice _ _ _) rfl) ?_
    refine op_pure (pv_move (v := .int .i64 _) rfl) ?_
    refine op_pure (pv_indexE rfl hA rfl rfl rfl (by omega) (by omega)) ?_
    refine op_load (v := .int .i64 _) rfl rfl ((hc) 0 _ rfl) ?_
    refine op_pure (pv_move (v := .int .i64 _) rfl) ?_
    refine op_pure (pv_of (v := .bool _) rfl) ?_
    refine op_pure (pv_fieldAddr rfl rfl rfl rfl 1 rfl) ?_
    refine op_pure (pv_indexA rfl rfl rfl rfl (by omega) (by omega)) ?_
    refine op_storeP 1 (v := .bool _) (vs := [_]) (c' := [_, _, _, _]) rfl rfl rfl rfl rfl rfl rfl rfl rfl ?_
    refine wp_norm [_, _] rfl ?_
    refine xp_cutB [11, 28, 29, 30, 31, 32, 33, 34, 35, 36, 37, 38, 39, 40] 2 (α := Unit) (fun u => [(11, .int .i64 (coldN x lo (w + 1) : Nat))]) (fun u L => L.set 1 (some (b13, .cells #[.int .i64 0, .bool (b0W x hi w), .bool (b1W x lo many w), .bool false] 121 (0, 0)))) (fun u h_u => True) ?_ ?_
    · skip
      refine xp_seq ?_
      refine xp_region rfl ?_
      refine op_pure (pv_move (v := .slice _ _ _) rfl) ?_
      refine op_pure (pv_move (v := .int .i64 _) rfl) ?_
      refine op_pure (pv_indexE rfl hA rfl rfl rfl (by omega) (by omega)) ?_
      refine op_load (v := .int .i64 _) rfl rfl ((hc) 0 _ rfl) ?_
      refine op_pure (pv_move (v := .int .i64 _) rfl) ?_
      refine op_pure (pv_of (v := .bool _) rfl) ?_
      refine xp_cond rfl (fun hcold => ?_) (fun hcold => ?_)
      · skip
        have hc1 : x[w] ≤ lo := of_decide_eq_true hcold
        refine xp_seq ?_
        refine xp_region rfl ?_
        refine op_pure (pv_move (v := .int .i64 _) rfl) ?_
        refine op_pure (pv_arith rfl (by omega)) ?_
        refine op_pure (pv_assign (v := .int .i64 _) rfl) ?_
        refine xp_region rfl ?_
        refine op_pure (pv_move (v := .int .i64 _) rfl) ?_
        refine op_pure (pv_move (v := .int .i64 _) rfl) ?_
        refine op_pure (pv_of (v := .bool _) rfl) ?_
        refine op_pure (pv_fieldAddr rfl rfl rfl rfl 1 rfl) ?_
        refine op_pure (pv_indexA rfl rfl rfl rfl (by omega) (by omega)) ?_
        refine op_storeP 1 (v := .bool _) (vs := [_]) (c' := [_, _, _, _]) rfl rfl rfl rfl rfl rfl rfl rfl rfl ?_
        refine wp_norm [_, _] rfl ?_
        refine ⟨(), ⟨intE (by rw [hcs, if_pos hc1]; omega), trivial⟩, rfl, by rw [b0W, b1W, hgd, decide_eq_true hc1, hcs, if_pos hc1]; rfl, (Ext.refl _), fun h3 E3 => by first | trivial | omega | (refine ⟨?_, ?_⟩ <;> omega), ?_⟩
        repeat (first | exact off_refl _ _ | exact off_base _ _ _ | refine off_upd (by decide) ?_ | refine off_updL rfl ?_ | refine off_mix rfl ?_)
      · skip
        have hc1 : ¬ x[w] ≤ lo := of_decide_eq_false hcold
        refine xp_skip ?_
        refine ⟨(), ⟨intE (by rw [hcs, if_neg hc1]; omega), trivial⟩, rfl, by rw [b0W, b1W, hgd, decide_eq_false hc1]; rfl, (Ext.refl _), fun h3 E3 => by first | trivial | omega | (refine ⟨?_, ?_⟩ <;> omega), ?_⟩
        repeat (first | exact off_refl _ _ | exact off_base _ _ _ | refine off_upd (by decide) ?_ | refine off_updL rfl ?_ | refine off_mix rfl ?_)
    · rintro u T2 h_u E_u J_u
      refine goes_norm [_, _] rfl ?_
      have hfw := failW_eq x hi lo many life w
      refine xp_seq ?_
      refine xp_region rfl ?_
      refine op_pure (pv_move (v := .int .i64 _) rfl) ?_
      refine op_pure (pv_move (v := .int .i64 _) rfl) ?_
      refine op_pure (pv_of (v := .bool _) rfl) ?_
      refine op_pure (pv_fieldAddr rfl rfl rfl rfl 1 rfl) ?_
      refine op_pure (pv_indexA rfl rfl rfl rfl (by omega) (by omega)) ?_
      refine op_storeP 1 (v := .bool _) (vs := [_]) (c' := [_, _, _, _]) rfl rfl rfl rfl rfl rfl rfl rfl rfl ?_
      refine wp_norm [_, _] rfl ?_
      rcases Bool.eq_false_or_eq_true (b0W x hi w) with e0 | e0
      · skip
        refine xp_seq ?_
        refine xp_region rfl ?_
        refine op_pure (pv_fieldAddr rfl rfl rfl rfl 1 rfl) ?_
        refine op_pure (pv_indexA rfl rfl rfl rfl (by omega) (by omega)) ?_
        refine op_loadP 1 (v := .bool _) rfl rfl rfl rfl ?_
        refine op_pure (pv_move (v := .bool _) rfl) ?_
        refine guard_no rfl e0 ?_
        refine guard_no rfl e0 ?_
        refine guard_no rfl e0 ?_
        refine op_pure (pv_pickT rfl e0 (v := .bool _) rfl) ?_
        refine op_pure (pv_move (v := .bool _) rfl) ?_
        refine guard_no rfl rfl ?_
        refine guard_no rfl rfl ?_
        refine guard_no rfl rfl ?_
        refine op_pure (pv_pickT rfl rfl (v := .bool _) rfl) ?_
        refine xp_condT rfl (rfl) ?_
        refine xp_seq ?_
        refine xp_region rfl ?_
        refine op_pure (pv_move (v := .int .i64 _) rfl) ?_
        refine op_pure (pv_fieldAddr rfl rfl rfl rfl 0 rfl) ?_
        refine op_storeP 1 (v := .int .i64 _) (vs := [_]) (c' := [_, _, _, _]) rfl rfl rfl rfl rfl rfl rfl rfl rfl ?_
        refine wp_norm [_, _] rfl ?_
        refine xp_seq ?_
        refine xp_region rfl ?_
        refine op_loadPA 1 (vs := [.int .i64 _, .bool _, .bool _, .bool _]) rfl rfl rfl rfl rfl ?_
        refine op_storeP 0 (v := .agg #[.int .i64 _, .bool _, .bool _, .bool _]) (vs := [_, _, _, _]) (c' := [_, _, _, _]) rfl rfl rfl rfl rfl rfl rfl rfl rfl ?_
        refine wp_norm [_, _] rfl ?_
        refine xp_ret ?_
        refine res_list (vs := [_]) Try.results145 ⟨resV_agg 0 rfl rfl rfl rfl rfl (vs := [.int .i64 _, .bool _, .bool _, .bool _]) rfl, trivial⟩ fun V => ?_
        exact ⟨(Ext.trans (Ext.trans E_w E_u) (ext_wl V)), by rw [fail_first h6 hm hwl (by rw [hfw, e0]; rfl) K2]; rfl⟩
      · skip
        rcases Bool.eq_false_or_eq_true (b1W x lo many w) with e1 | e1
        · skip
          refine xp_seq ?_
          refine xp_region rfl ?_
          refine op_pure (pv_fieldAddr rfl rfl rfl rfl 1 rfl) ?_
          refine op_pure (pv_indexA rfl rfl rfl rfl (by omega) (by omega)) ?_
          refine op_loadP 1 (v := .bool _) rfl rfl rfl rfl ?_
          refine op_pure (pv_move (v := .bool _) rfl) ?_
          refine guard_yes rfl e0 ?_
          refine op_pure (pv_fieldAddr rfl rfl rfl rfl 1 rfl) ?_
          refine guard_yes rfl e0 ?_
          refine op_pure (pv_indexA rfl rfl rfl rfl (by omega) (by omega)) ?_
          refine guard_yes rfl e0 ?_
          refine op_loadP 1 (v := .bool _) rfl rfl rfl rfl ?_
          refine op_pure (pv_pickF rfl e0 (v := .bool _) rfl) ?_
          refine op_pure (pv_move (v := .bool _) rfl) ?_
          refine guard_no rfl e1 ?_
          refine guard_no rfl e1 ?_
          refine guard_no rfl e1 ?_
          refine op_pure (pv_pickT rfl e1 (v := .bool _) rfl) ?_
          refine xp_condT rfl (rfl) ?_
          refine xp_seq ?_
          refine xp_region rfl ?_
          refine op_pure (pv_move (v := .int .i64 _) rfl) ?_
          refine op_pure (pv_fieldAddr rfl rfl rfl rfl 0 rfl) ?_
          refine op_storeP 1 (v := .int .i64 _) (vs := [_]) (c' := [_, _, _, _]) rfl rfl rfl rfl rfl rfl rfl rfl rfl ?_
          refine wp_norm [_, _] rfl ?_
          refine xp_seq ?_
          refine xp_region rfl ?_
          refine op_loadPA 1 (vs := [.int .i64 _, .bool _, .bool _, .bool _]) rfl rfl rfl rfl rfl ?_
          refine op_storeP 0 (v := .agg #[.int .i64 _, .bool _, .bool _, .bool _]) (vs := [_, _, _, _]) (c' := [_, _, _, _]) rfl rfl rfl rfl rfl rfl rfl rfl rfl ?_
          refine wp_norm [_, _] rfl ?_
          refine xp_ret ?_
          refine res_list (vs := [_]) Try.results145 ⟨resV_agg 0 rfl rfl rfl rfl rfl (vs := [.int .i64 _, .bool _, .bool _, .bool _]) rfl, trivial⟩ fun V => ?_
          exact ⟨(Ext.trans (Ext.trans E_w E_u) (ext_wl V)), by rw [fail_first h6 hm hwl (by rw [hfw, e0, e1]; rfl) K2]; rfl⟩
        · skip
          refine xp_seq ?_
          refine xp_region rfl ?_
          refine op_pure (pv_fieldAddr rfl rfl rfl rfl 1 rfl) ?_
          refine op_pure (pv_indexA rfl rfl rfl rfl (by omega) (by omega)) ?_
          refine op_loadP 1 (v := .bool _) rfl rfl rfl rfl ?_
          refine op_pure (pv_move (v := .bool _) rfl) ?_
          refine guard_yes rfl e0 ?_
          refine op_pure (pv_fieldAddr rfl rfl rfl rfl 1 rfl) ?_
          refine guard_yes rfl e0 ?_
          refine op_pure (pv_indexA rfl rfl rfl rfl (by omega) (by omega)) ?_
          refine guard_yes rfl e0 ?_
          refine op_loadP 1 (v := .bool _) rfl rfl rfl rfl ?_
          refine op_pure (pv_pickF rfl e0 (v := .bool _) rfl) ?_
          refine op_pure (pv_move (v := .bool _) rfl) ?_
          refine guard_yes rfl e1 ?_
          refine op_pure (pv_fieldAddr rfl rfl rfl rfl 1 rfl) ?_
          refine guard_yes rfl e1 ?_
          refine op_pure (pv_indexA rfl rfl rfl rfl (by omega) (by omega)) ?_
          refine guard_yes rfl e1 ?_
          refine op_loadP 1 (v := .bool _) rfl rfl rfl rfl ?_
          refine op_pure (pv_pickF rfl e1 (v := .bool _) rfl) ?_
          refine xp_cond rfl (fun e2 => ?_) (fun e2 => ?_)
          · skip
            refine xp_seq ?_
            refine xp_region rfl ?_
            refine op_pure (pv_move (v := .int .i64 _) rfl) ?_
            refine op_pure (pv_fieldAddr rfl rfl rfl rfl 0 rfl) ?_
            refine op_storeP 1 (v := .int .i64 _) (vs := [_]) (c' := [_, _, _, _]) rfl rfl rfl rfl rfl rfl rfl rfl rfl ?_
            refine wp_norm [_, _] rfl ?_
            refine xp_seq ?_
            refine xp_region rfl ?_
            refine op_loadPA 1 (vs := [.int .i64 _, .bool _, .bool _, .bool _]) rfl rfl rfl rfl rfl ?_
            refine op_storeP 0 (v := .agg #[.int .i64 _, .bool _, .bool _, .bool _]) (vs := [_, _, _, _]) (c' := [_, _, _, _]) rfl rfl rfl rfl rfl rfl rfl rfl rfl ?_
            refine wp_norm [_, _] rfl ?_
            refine xp_ret ?_
            refine res_list (vs := [_]) Try.results145 ⟨resV_agg 0 rfl rfl rfl rfl rfl (vs := [.int .i64 _, .bool _, .bool _, .bool _]) rfl, trivial⟩ fun V => ?_
            exact ⟨(Ext.trans (Ext.trans E_w E_u) (ext_wl V)), by rw [fail_first h6 hm hwl (by rw [hfw, e0, e1]; exact e2) K2]; rfl⟩
          · skip
            refine xp_skip ?_
            refine xp_region rfl ?_
            refine op_pure (pv_move (v := .int .i64 _) rfl) ?_
            refine op_pure (pv_arith rfl (by omega)) ?_
            refine op_pure (pv_assign (v := .int .i64 _) rfl) ?_
            have K3 : ∀ v, v < w + 1 → failW x hi lo many life v = false := fun v hv => by
              rcases Nat.lt_succ_iff_lt_or_eq.1 hv with h1 | h1
              · exact K2 v h1
              · rw [h1, hfw, e0, e1]; exact e2
            refine ⟨w + 1, ⟨rfl, rfl, trivial⟩, rfl, rfl, (Ext.trans E_w E_u), fun h3 E3 => ⟨hwl, K3⟩, by first | omega | (dsimp only; omega), ?_⟩
            repeat (first | exact off_base _ _ _ | refine off_upd (by decide) ?_ | refine off_updL rfl ?_ | refine off_mix rfl ?_)
  · skip
    have hwe : w = x.length := by have := geI hw; omega
    subst hwe
    refine xp_exit ?_
    refine xp_seq ?_
    refine xp_region rfl ?_
    refine op_pure (pv_move (v := .slice _ _ _) rfl) ?_
    refine op_pure (pv_len rfl rfl) ?_
    refine op_pure (pv_build (zc := [_, _, _, _]) (vs := [(0, .int .i64 _)]) (cs := [_, _, _, _]) rfl rfl rfl rfl rfl rfl) ?_
    refine op_storeP 0 (v := .agg #[.int .i64 _, .bool _, .bool _, .bool _]) (vs := [_, _, _, _]) (c' := [_, _, _, _]) rfl rfl rfl rfl rfl rfl rfl rfl rfl ?_
    refine wp_norm [_] rfl ?_
    refine xp_ret ?_
    refine res_list (vs := [_]) Try.results145 ⟨resV_agg 0 rfl rfl rfl rfl rfl (vs := [.int .i64 _, .bool _, .bool _, .bool _]) rfl, trivial⟩ fun V => ?_
    exact ⟨(Ext.trans E_w (ext_wl V)), by rw [fail_none h6 hm K2]; rfl⟩
end Go.Proofs.Ytndfkbapoinmkaa
/- Walks: does a failure agree with the reports (reference). Conditions: as each theorem states. -/
namespace Go.Proofs.Ytndfkbapoinmkaa
open Go Go.HL Go.Proofs Go.Wx
set_option maxRecDepth 100000
def repW (j w : Int) (r : Seen) : Bool := !decide (r.joint = j) || (r.failed == decide (w ≤ r.week))
theorem rRight_ok (s : Season) (j w : Int) (A0 A1 A2 A3 : Option Addr) (c0 c1 c2 c3 : Nat) (h : AH) (R : SeasonR h A0 A1 A2 A3 s) (hl : s.reports.length < 2 ^ 40) :
    FnT Try.prog 146 #[seasonV A0 A1 A2 A3 c0 c1 c2 c3 s, .int .i64 j, .int .i64 w] h (fun v _ => v = .bool (s.reports.all (repW j w))) := by
  refine call_body Try.func146 rfl Try.ntmps146 rfl ?_
  refine xp_seq ?_
  refine xp_region rfl ?_
  refine op_box (v := .agg #[.slice _ _ _, .slice _ _ _, .slice _ _ _, .slice _ _ _]) (cs := [_, _, _, _]) rfl rfl fun b3 hb3 => ?_
  refine wp_norm [_] rfl ?_
  refine op_pure (pv_assign (v := .bool _) rfl) ?_
  refine xp_seq ?_
  refine xp_seq ?_
  refine xp_region rfl ?_
  refine op_pure (pv_assign (v := .int .i64 _) rfl) ?_
  refine xp_block ?_
  refine xp_loopB [6, 7, 8, 9, 10, 11, 12, 13, 14, 15, 16, 17, 18, 19, 20, 21, 22, 23, 24, 25, 26, 27, 28, 29, 30, 31, 32, 33] 1 (α := Nat) (fun n => [(7, .int .i64 n)]) (fun n => _) (fun n h_n => n ≤ s.reports.length ∧ (s.reports.take n).all (repW j w) = true) (fun n => s.reports.length - n) (0) ⟨rfl, trivial⟩ (rfl) (⟨Nat.zero_le _, rfl⟩) ?_
  rintro n T1 h_n E_n J_n
  refine goes_norm [_] rfl ?_
  obtain ⟨N1, N2⟩ := J_n
  refine xp_seq ?_
  refine xp_seq ?_
  refine xp_region rfl ?_
  refine op_pure (pv_move (v := .int .i64 _) rfl) ?_
  refine op_pure (pv_fieldAddr rfl rfl rfl rfl 3 rfl) ?_
  refine op_loadP 0 (v := .slice _ _ _) rfl rfl rfl rfl ?_
  refine op_pure (pv_len rfl rfl) ?_
  refine op_pure (pv_of (v := .bool _) rfl) ?_
  refine xp_cond rfl (fun hn => ?_) (fun hn => ?_)
  · skip
    have hnl : n < s.reports.length := ltI hn
    have hall : repW j w s.reports[n] = false → s.reports.all (repW j w) = false := fun e => by
      rw [Bool.eq_false_iff]; intro e2
      rw [List.all_eq_true.1 e2 _ (List.getElem_mem hnl)] at e; exact absurd e (by decide)
    have hnext : repW j w s.reports[n] = true → (s.reports.take (n + 1)).all (repW j w) = true := fun e => by
      rw [List.take_succ, List.getElem?_eq_getElem hnl, List.all_append, N2]; simp [e]
    obtain ⟨g, off, hB, hc⟩ := (R.reports.ext E_n).at (by omega) hnl
    refine xp_skip ?_
    refine xp_seq ?_
    refine xp_block ?_
    refine xp_seq ?_
    refine xp_region rfl ?_
    refine op_pure (pv_fieldAddr rfl rfl rfl rfl 3 rfl) ?_
    refine op_loadP 0 (v := .slice _ _ _) rfl rfl rfl rfl ?_
    refine op_pure (pv_move (v := .int .i64 _) rfl) ?_
    refine op_pure (pv_indexE rfl hB rfl rfl rfl (by omega) (by omega)) ?_
    refine op_loadA rfl rfl rfl rfl (hc) ?_
    refine op_alloc (cs := [_, _, _]) rfl rfl fun b8 hb8 => ?_
    refine wp_norm [_, _] rfl ?_
    refine op_storeP 1 (v := .agg #[.int .i64 _, .int .i64 _, .bool _]) (vs := [_, _, _]) (c' := [_, _, _]) rfl rfl rfl rfl rfl rfl rfl rfl rfl ?_
    refine wp_norm [_, _] rfl ?_
    rcases Bool.eq_false_or_eq_true (decide (s.reports[n].joint = j)) with e0 | e0
    · skip
      refine xp_seq ?_
      refine xp_region rfl ?_
      refine op_pure (pv_fieldAddr rfl rfl rfl rfl 0 rfl) ?_
      refine op_loadP 1 (v := .int .i64 _) rfl rfl rfl rfl ?_
      refine op_pure (pv_move (v := .int .i64 _) rfl) ?_
      refine op_pure (pv_of (v := .bool _) rfl) ?_
      refine op_pure (pv_move (v := .bool _) rfl) ?_
      refine guard_yes rfl e0 ?_
      refine op_pure (pv_fieldAddr rfl rfl rfl rfl 2 rfl) ?_
      refine guard_yes rfl e0 ?_
      refine op_loadP 1 (v := .bool _) rfl rfl rfl rfl ?_
      refine guard_yes rfl e0 ?_
      refine op_pure (pv_move (v := .int .i64 _) rfl) ?_
      refine guard_yes rfl e0 ?_
      refine op_pure (pv_fieldAddr rfl rfl rfl rfl 1 rfl) ?_
      refine guard_yes rfl e0 ?_
      refine op_loadP 1 (v := .int .i64 _) rfl rfl rfl rfl ?_
      refine guard_yes rfl e0 ?_
      refine op_pure (pv_of (v := .bool _) rfl) ?_
      refine guard_yes rfl e0 ?_
      refine op_pure (pv_of (v := .bool _) rfl) ?_
      refine op_pure (pv_pickT rfl e0 (v := .bool _) rfl) ?_
      refine xp_cond rfl (fun hx => ?_) (fun hx => ?_)
      · skip
        refine xp_seq ?_
        refine xp_region rfl ?_
        refine op_pure (pv_assign (v := .bool _) rfl) ?_
        refine xp_ret ?_
        refine res_list (vs := [_]) Try.results146 ⟨resV_tmp rfl rfl, trivial⟩ fun V => ?_
        exact ⟨(Ext.trans E_n (ext_wl V)), by rw [hall (by rw [repW, e0]; revert hx; cases s.reports[n].failed <;> cases decide (w ≤ s.reports[n].week) <;> decide)]; rfl⟩
      · skip
        refine xp_skip ?_
        refine xp_region rfl ?_
        refine op_pure (pv_move (v := .int .i64 _) rfl) ?_
        refine op_pure (pv_arith rfl (by omega)) ?_
        refine op_pure (pv_assign (v := .int .i64 _) rfl) ?_
        refine ⟨n + 1, ⟨rfl, trivial⟩, rfl, rfl, E_n, fun h3 E3 => ⟨hnl, hnext (by rw [repW, e0]; revert hx; cases s.reports[n].failed <;> cases decide (w ≤ s.reports[n].week) <;> decide)⟩, by first | omega | (dsimp only; omega), ?_⟩
        repeat (first | exact off_base _ _ _ | refine off_upd (by decide) ?_ | refine off_updL rfl ?_ | refine off_mix rfl ?_)
    · skip
      refine xp_seq ?_
      refine xp_region rfl ?_
      refine op_pure (pv_fieldAddr rfl rfl rfl rfl 0 rfl) ?_
      refine op_loadP 1 (v := .int .i64 _) rfl rfl rfl rfl ?_
      refine op_pure (pv_move (v := .int .i64 _) rfl) ?_
      refine op_pure (pv_of (v := .bool _) rfl) ?_
      refine op_pure (pv_move (v := .bool _) rfl) ?_
      refine guard_no rfl e0 ?_
      refine guard_no rfl e0 ?_
      refine guard_no rfl e0 ?_
      refine guard_no rfl e0 ?_
      refine guard_no rfl e0 ?_
      refine guard_no rfl e0 ?_
      refine guard_no rfl e0 ?_
      refine op_pure (pv_pickF rfl e0 (v := .bool _) rfl) ?_
      refine xp_condF rfl (rfl) ?_
      refine xp_skip ?_
      refine xp_region rfl ?_
      refine op_pure (pv_move (v := .int .i64 _) rfl) ?_
      refine op_pure (pv_arith rfl (by omega)) ?_
      refine op_pure (pv_assign (v := .int .i64 _) rfl) ?_
      refine ⟨n + 1, ⟨rfl, trivial⟩, rfl, rfl, E_n, fun h3 E3 => ⟨hnl, hnext (by rw [repW, e0]; rfl)⟩, by first | omega | (dsimp only; omega), ?_⟩
      repeat (first | exact off_base _ _ _ | refine off_upd (by decide) ?_ | refine off_updL rfl ?_ | refine off_mix rfl ?_)
  · skip
    have hne : n = s.reports.length := by have := geI hn; omega
    subst hne
    rw [List.take_length] at N2
    refine xp_exit ?_
    refine xp_seq ?_
    refine xp_region rfl ?_
    refine op_pure (pv_assign (v := .bool _) rfl) ?_
    refine xp_ret ?_
    refine res_list (vs := [_]) Try.results146 ⟨resV_tmp rfl rfl, trivial⟩ fun V => ?_
    exact ⟨(Ext.trans E_n (ext_wl V)), by rw [N2]; rfl⟩
end Go.Proofs.Ytndfkbapoinmkaa
/- Walks: the reference's failures of a joint in a weather. Conditions: as each theorem states. -/
namespace Go.Proofs.Ytndfkbapoinmkaa
open Go Go.HL Go.Proofs Go.Wx
set_option maxRecDepth 100000
theorem rFail_ok' (x : List Int) (h6 : x.length ≤ 6) (hi lo many life : Int) (hm : 1 ≤ many) (hm2 : many ≤ 100) (hl : 0 ≤ life) (A : Option Addr) (cA : Nat) (h : AH) (R : Row h 1 intC A x) (y : Fl) (ey : y = failM (skyOf x) x.length hi lo many.toNat life.toNat) :
    FnT Try.prog 145 #[.slice A x.length cA, .int .i64 hi, .int .i64 lo, .int .i64 many, .int .i64 life] h (fun v _ => v = .agg #[.int .i64 y.week, .bool (y.causes.testBit 0), .bool (y.causes.testBit 1), .bool (y.causes.testBit 2)]) := by
  have h1 := rFail_ok x h6 hi lo many.toNat life.toNat (by omega) (by omega) A cA h R
  rw [show ((many.toNat : Nat) : Int) = many from by omega, show ((life.toNat : Nat) : Int) = life from by omega, ← ey] at h1
  exact h1
def accF (s : Season) (i : Nat) (l : List Fl) : List Fl := l.filter fun y => s.reports.all (repW i y.week)
theorem accF_app (s : Season) (i : Nat) (l l' : List Fl) : accF s i (l ++ l') = accF s i l ++ accF s i l' := List.filter_append ..
theorem accF_yes {s : Season} {i : Nat} {y : Fl} (l : List Fl) (h : s.reports.all (repW i y.week) = true) : accF s i (l ++ [y]) = accF s i l ++ [y] := by rw [accF_app]; simp [accF, h]
theorem accF_no {s : Season} {i : Nat} {y : Fl} (l : List Fl) (h : s.reports.all (repW i y.week) = false) : accF s i (l ++ [y]) = accF s i l := by rw [accF_app]; simp [accF, h]
theorem accF_len (s : Season) (i : Nat) (l : List Fl) : (accF s i l).length ≤ l.length := List.length_filter_le ..
theorem f4_len (x : Sky) (n : Nat) (h c many lo hi : Int) : (fails4 x n h c many lo hi).length = (hi - lo).toNat := by unfold fails4; rw [List.length_map, rangeI_len]
theorem f3_len {j : Joint} (B : JointB j) (x : Sky) (n : Nat) (h c lo hi : Int) : (fails3 j x n h c lo hi).length ≤ (hi - lo).toNat * 10 := by
  obtain ⟨h1, h2, h3, l1, l2, l3, w1, w2, w3, a1, a2, a3, hw, lw⟩ := B
  have := flatMap_len (fun many => fails4 x n h c many j.life.mn (j.life.mx + 1)) 10 (rangeI lo hi) fun y _ => by rw [f4_len]; omega
  rw [rangeI_len] at this
  exact this
theorem f2_len {j : Joint} (B : JointB j) (x : Sky) (n : Nat) (h lo hi : Int) : (fails2 j x n h lo hi).length ≤ (hi - lo).toNat * 60 := by
  have := flatMap_len (fun c => fails3 j x n h c j.weeks.mn (j.weeks.mx + 1)) 60 (rangeI lo hi) fun y _ => by
    have := f3_len B x n h y j.weeks.mn (j.weeks.mx + 1)
    obtain ⟨h1, h2, h3, l1, l2, l3, w1, w2, w3, a1, a2, a3, hw, lw⟩ := B
    omega
  rw [rangeI_len] at this
  exact this
theorem f1_len {j : Joint} (B : JointB j) (x : Sky) (n : Nat) (lo hi : Int) : (fails1 j x n lo hi).length ≤ (hi - lo).toNat * 180 := by
  have := flatMap_len (fun h => fails2 j x n h j.low.mn (j.low.mx + 1)) 180 (rangeI lo hi) fun y _ => by
    have := f2_len B x n y j.low.mn (j.low.mx + 1)
    obtain ⟨h1, h2, h3, l1, l2, l3, w1, w2, w3, a1, a2, a3, hw, lw⟩ := B
    omega
  rw [rangeI_len] at this
  exact this
set_option maxHeartbeats 4000000 in
theorem rFailures_ok (s : Season) (i : Nat) (hi : i < s.joints.length) (hj : s.joints.length < 2 ^ 40) (hr : s.reports.length < 2 ^ 40) (B : JointB s.joints[i]) (x : List Int) (h6 : x.length ≤ 6) (A0 A1 A2 A3 A : Option Addr) (c0 c1 c2 c3 c : Nat) (h : AH) (R : SeasonR h A0 A1 A2 A3 s) (RX : Row h 1 intC A x) :
    FnT Try.prog 136 #[seasonV A0 A1 A2 A3 c0 c1 c2 c3 s, .int .i64 i, .slice A x.length c] h (fun v h' => SlR h' 4 flR (accF s i (failuresM s.joints[i] (skyOf x) x.length)) v) := by
  obtain ⟨h1, h2, h3, l1, l2, l3, w1, w2, w3, a1, a2, a3, _, _⟩ := id B
  obtain ⟨g, off, hB, hc⟩ := R.joints.at (by omega) hi
  generalize ej : s.joints[i] = j at *
  refine call_body Try.func136 rfl Try.ntmps136 rfl ?_
  refine xp_seq ?_
  refine xp_region rfl ?_
  refine op_box (v := .agg #[.slice _ _ _, .slice _ _ _, .slice _ _ _, .slice _ _ _]) (cs := [_, _, _, _]) rfl rfl fun b3 hb3 => ?_
  refine wp_norm [_] rfl ?_
  refine op_pure (pv_assign (v := .slice _ _ _) rfl) ?_
  refine xp_seq ?_
  refine xp_region rfl ?_
  refine op_pure (pv_fieldAddr rfl rfl rfl rfl 2 rfl) ?_
  refine op_loadP 0 (v := .slice _ _ _) rfl rfl rfl rfl ?_
  refine op_pure (pv_move (v := .int .i64 _) rfl) ?_
  refine op_pure (pv_indexE rfl hB rfl rfl rfl (by omega) (by omega)) ?_
  refine op_loadA rfl rfl rfl rfl ((hc.ext (Ext.refl _))) ?_
  refine op_alloc (cs := [_, _, _, _, _, _, _, _, _]) rfl rfl fun b7 hb7 => ?_
  refine wp_norm [_, _] rfl ?_
  refine op_storeP 1 (v := .agg #[.int .i64 _, .int .i64 _, .int .i64 _, .int .i64 _, .int .i64 _, .int .i64 _, .int .i64 _, .int .i64 _, .int .i64 _]) (vs := [_, _, _, _, _, _, _, _, _]) (c' := [_, _, _, _, _, _, _, _, _]) rfl rfl rfl rfl rfl rfl rfl rfl rfl ?_
  refine wp_norm [_, _] rfl ?_
  refine xp_seq ?_
  refine xp_region rfl ?_
  refine op_pure (pv_assign (v := .slice _ _ _) rfl) ?_
  refine xp_seq ?_
  refine xp_seq ?_
  refine xp_region rfl ?_
  refine op_pure (pv_fieldAddr rfl rfl rfl rfl 1 rfl) ?_
  refine op_pure (pv_fieldAddr rfl rfl rfl rfl 1 rfl) ?_
  refine op_loadP 1 (v := .int .i64 _) rfl rfl rfl rfl ?_
  refine op_pure (pv_assign (v := .int .i64 _) rfl) ?_
  refine xp_block ?_
  refine goes_more ?_
  refine goes_norm [_, _, _] rfl ?_
  refine xp_loopL [8, 9, 10, 11, 12, 13, 22, 23, 24, 25, 26, 27, 28, 29, 30, 31, 32, 33, 34, 35, 36, 37, 38, 39, 40, 41, 42, 43, 44, 45, 46, 47, 48, 49, 50, 51, 52, 53, 54, 55, 56, 57, 58, 59, 60, 61, 62, 63, 64, 65, 66, 67, 68, 69, 70, 71, 72, 73] 3 (α := Int × Acc) (fun ⟨hh, a⟩ => [(9, .int .i64 hh), (8, .slice a.A a.n a.c)]) (fun ⟨hh, a⟩ L => L.set 2 (a.p)) (fun ⟨hh, a⟩ h_hh => (j.high.mn ≤ hh ∧ hh ≤ j.high.mx + 1) ∧ AccR 121 4 ((accF s i (fails1 j (skyOf x) x.length j.high.mn hh)).flatMap flR) a) (fun ⟨hh, a⟩ => (j.high.mx + 1 - hh).toNat) ((j.high.mn, acc0)) ⟨rfl, rfl, trivial⟩ (rfl) (⟨⟨by omega, by omega⟩, by unfold fails1; rw [rangeI_nil (by omega)]; exact accR0⟩) ?_
  rintro ⟨hh, a⟩ T1 h_hh E_hh J_hh
  refine goes_norm [_, _, _] rfl ?_
  obtain ⟨⟨H1, H2⟩, H3⟩ := J_hh
  refine xp_seq ?_
  refine xp_seq ?_
  refine xp_region rfl ?_
  refine op_pure (pv_move (v := .int .i64 _) rfl) ?_
  refine op_pure (pv_fieldAddr rfl rfl rfl rfl 1 rfl) ?_
  refine op_pure (pv_fieldAddr rfl rfl rfl rfl 2 rfl) ?_
  refine op_loadP 1 (v := .int .i64 _) rfl rfl rfl rfl ?_
  refine op_pure (pv_of (v := .bool _) rfl) ?_
  refine xp_cond rfl (fun ht => ?_) (fun ht => ?_)
  · skip
    have hle : hh ≤ j.high.mx := of_decide_eq_true ht
    obtain ⟨L1, e1⟩ : ∃ L, L = fails1 j (skyOf x) x.length j.high.mn hh := ⟨_, rfl⟩
    have n1 : L1.length ≤ 540 := by have := f1_len B (skyOf x) x.length j.high.mn hh; rw [e1]; omega
    rw [← e1] at H3
    refine xp_skip ?_
    refine xp_seq ?_
    refine xp_block ?_
    refine xp_seq ?_
    refine xp_region rfl ?_
    refine op_pure (pv_fieldAddr rfl rfl rfl rfl 3 rfl) ?_
    refine op_pure (pv_fieldAddr rfl rfl rfl rfl 3 rfl) ?_
    refine op_loadP 1 (v := .int .i64 _) rfl rfl rfl rfl ?_
    refine op_pure (pv_assign (v := .int .i64 _) rfl) ?_
    refine xp_block ?_
    refine xp_loopL [8, 10, 11, 12, 13, 32, 33, 34, 35, 36, 37, 38, 39, 40, 41, 42, 43, 44, 45, 46, 47, 48, 49, 50, 51, 52, 53, 54, 55, 56, 57, 58, 59, 60, 61, 62, 63, 64, 65, 66, 67, 68, 69, 70, 71, 72, 73] 3 (α := Int × Acc) (fun ⟨cc, b⟩ => [(10, .int .i64 cc), (8, .slice b.A b.n b.c)]) (fun ⟨cc, b⟩ L => L.set 2 (b.p)) (fun ⟨cc, b⟩ h_cc => (j.low.mn ≤ cc ∧ cc ≤ j.low.mx + 1) ∧ AccR 121 4 ((accF s i (L1 ++ fails2 j (skyOf x) x.length hh j.low.mn cc)).flatMap flR) b) (fun ⟨cc, b⟩ => (j.low.mx + 1 - cc).toNat) ((j.low.mn, a)) ⟨rfl, rfl, trivial⟩ (rfl) (⟨⟨by omega, by omega⟩, by unfold fails2; rw [rangeI_nil (by omega)]; simpa using H3⟩) ?_
    rintro ⟨cc, b⟩ T2 h_cc E_cc J_cc
    refine goes_norm [_, _, _] rfl ?_
    obtain ⟨⟨C1, C2⟩, C3⟩ := J_cc
    refine xp_seq ?_
    refine xp_seq ?_
    refine xp_region rfl ?_
    refine op_pure (pv_move (v := .int .i64 _) rfl) ?_
    refine op_pure (pv_fieldAddr rfl rfl rfl rfl 3 rfl) ?_
    refine op_pure (pv_fieldAddr rfl rfl rfl rfl 4 rfl) ?_
    refine op_loadP 1 (v := .int .i64 _) rfl rfl rfl rfl ?_
    refine op_pure (pv_of (v := .bool _) rfl) ?_
    refine xp_cond rfl (fun hc1 => ?_) (fun hc1 => ?_)
    · skip
      have hle2 : cc ≤ j.low.mx := of_decide_eq_true hc1
      obtain ⟨L2, e2⟩ : ∃ L, L = L1 ++ fails2 j (skyOf x) x.length hh j.low.mn cc := ⟨_, rfl⟩
      have n2 : L2.length ≤ 720 := by have := f2_len B (skyOf x) x.length hh j.low.mn cc; rw [e2, List.length_append]; omega
      rw [← e2] at C3
      refine xp_skip ?_
      refine xp_seq ?_
      refine xp_block ?_
      refine xp_seq ?_
      refine xp_region rfl ?_
      refine op_pure (pv_fieldAddr rfl rfl rfl rfl 5 rfl) ?_
      refine op_pure (pv_fieldAddr rfl rfl rfl rfl 5 rfl) ?_
      refine op_loadP 1 (v := .int .i64 _) rfl rfl rfl rfl ?_
      refine op_pure (pv_assign (v := .int .i64 _) rfl) ?_
      refine xp_block ?_
      refine xp_loopL [8, 11, 12, 13, 42, 43, 44, 45, 46, 47, 48, 49, 50, 51, 52, 53, 54, 55, 56, 57, 58, 59, 60, 61, 62, 63, 64, 65, 66, 67, 68, 69, 70, 71, 72, 73] 3 (α := Int × Acc) (fun ⟨mm, d⟩ => [(11, .int .i64 mm), (8, .slice d.A d.n d.c)]) (fun ⟨mm, d⟩ L => L.set 2 (d.p)) (fun ⟨mm, d⟩ h_mm => (j.weeks.mn ≤ mm ∧ mm ≤ j.weeks.mx + 1) ∧ AccR 121 4 ((accF s i (L2 ++ fails3 j (skyOf x) x.length hh cc j.weeks.mn mm)).flatMap flR) d) (fun ⟨mm, d⟩ => (j.weeks.mx + 1 - mm).toNat) ((j.weeks.mn, b)) ⟨rfl, rfl, trivial⟩ (rfl) (⟨⟨by omega, by omega⟩, by unfold fails3; rw [rangeI_nil (by omega)]; simpa using C3⟩) ?_
      rintro ⟨mm, d⟩ T3 h_mm E_mm J_mm
      refine goes_norm [_, _, _] rfl ?_
      obtain ⟨⟨M1, M2⟩, M3⟩ := J_mm
      refine xp_seq ?_
      refine xp_seq ?_
      refine xp_region rfl ?_
      refine op_pure (pv_move (v := .int .i64 _) rfl) ?_
      refine op_pure (pv_fieldAddr rfl rfl rfl rfl 5 rfl) ?_
      refine op_pure (pv_fieldAddr rfl rfl rfl rfl 6 rfl) ?_
      refine op_loadP 1 (v := .int .i64 _) rfl rfl rfl rfl ?_
      refine op_pure (pv_of (v := .bool _) rfl) ?_
      refine xp_cond rfl (fun hc2 => ?_) (fun hc2 => ?_)
      · skip
        have hle3 : mm ≤ j.weeks.mx := of_decide_eq_true hc2
        obtain ⟨L3, e3⟩ : ∃ L, L = L2 ++ fails3 j (skyOf x) x.length hh cc j.weeks.mn mm := ⟨_, rfl⟩
        have n3 : L3.length ≤ 780 := by have := f3_len B (skyOf x) x.length hh cc j.weeks.mn mm; rw [e3, List.length_append]; omega
        rw [← e3] at M3
        refine xp_skip ?_
        refine xp_seq ?_
        refine xp_block ?_
        refine xp_seq ?_
        refine xp_region rfl ?_
        refine op_pure (pv_fieldAddr rfl rfl rfl rfl 7 rfl) ?_
        refine op_pure (pv_fieldAddr rfl rfl rfl rfl 7 rfl) ?_
        refine op_loadP 1 (v := .int .i64 _) rfl rfl rfl rfl ?_
        refine op_pure (pv_assign (v := .int .i64 _) rfl) ?_
        refine xp_block ?_
        refine xp_loopL [8, 12, 13, 52, 53, 54, 55, 56, 57, 58, 59, 60, 61, 62, 63, 64, 65, 66, 67, 68, 69, 70, 71, 72, 73] 3 (α := Int × Acc) (fun ⟨lf, f⟩ => [(12, .int .i64 lf), (8, .slice f.A f.n f.c)]) (fun ⟨lf, f⟩ L => L.set 2 (f.p)) (fun ⟨lf, f⟩ h_lf => (j.life.mn ≤ lf ∧ lf ≤ j.life.mx + 1) ∧ AccR 121 4 ((accF s i (L3 ++ fails4 (skyOf x) x.length hh cc mm j.life.mn lf)).flatMap flR) f) (fun ⟨lf, f⟩ => (j.life.mx + 1 - lf).toNat) ((j.life.mn, d)) ⟨rfl, rfl, trivial⟩ (rfl) (⟨⟨by omega, by omega⟩, by unfold fails4; rw [rangeI_nil (by omega)]; simpa using M3⟩) ?_
        rintro ⟨lf, f⟩ T4 h_lf E_lf J_lf
        refine goes_norm [_, _, _] rfl ?_
        obtain ⟨⟨F1, F2⟩, F3⟩ := J_lf
        refine xp_seq ?_
        refine xp_seq ?_
        refine xp_region rfl ?_
        refine op_pure (pv_move (v := .int .i64 _) rfl) ?_
        refine op_pure (pv_fieldAddr rfl rfl rfl rfl 7 rfl) ?_
        refine op_pure (pv_fieldAddr rfl rfl rfl rfl 8 rfl) ?_
        refine op_loadP 1 (v := .int .i64 _) rfl rfl rfl rfl ?_
        refine op_pure (pv_of (v := .bool _) rfl) ?_
        refine xp_cond rfl (fun hc3 => ?_) (fun hc3 => ?_)
        · skip
          have hle4 : lf ≤ j.life.mx := of_decide_eq_true hc3
          obtain ⟨y, ey⟩ : ∃ y, y = failM (skyOf x) x.length hh cc mm.toNat lf.toNat := ⟨_, rfl⟩
          have n4 := accF_len s i (L3 ++ fails4 (skyOf x) x.length hh cc mm j.life.mn lf)
          rw [List.length_append, f4_len] at n4
          have e4 : L3 ++ fails4 (skyOf x) x.length hh cc mm j.life.mn (lf + 1) = (L3 ++ fails4 (skyOf x) x.length hh cc mm j.life.mn lf) ++ [y] := by rw [fails4_succ F1, ey, List.append_assoc]
          refine xp_skip ?_
          refine xp_seq ?_
          refine xp_block ?_
          refine xp_seq ?_
          refine xp_region rfl ?_
          refine op_pure (pv_move (v := .slice _ _ _) rfl) ?_
          refine op_pure (pv_move (v := .int .i64 _) rfl) ?_
          refine op_pure (pv_move (v := .int .i64 _) rfl) ?_
          refine op_pure (pv_move (v := .int .i64 _) rfl) ?_
          refine op_pure (pv_move (v := .int .i64 _) rfl) ?_
          refine op_fn (caps := []) (vs := [.slice _ _ _, .int .i64 _, .int .i64 _, .int .i64 _, .int .i64 _]) rfl rfl rfl (rFail_ok' x h6 hh cc mm lf (by omega) (by omega) (by omega) A c h_lf (RX.ext (Ext.trans (Ext.trans (Ext.trans E_hh E_cc) E_mm) E_lf)) y ey) ?_
          rintro _ h5 E5 rfl
          refine op_alloc (cs := [_, _, _, _]) rfl rfl fun b13 hb13 => ?_
          refine wp_norm [_, _, _, _] rfl ?_
          refine op_storeP 3 (v := .agg #[.int .i64 _, .bool _, .bool _, .bool _]) (vs := [_, _, _, _]) (c' := [_, _, _, _]) rfl rfl rfl rfl rfl rfl rfl rfl rfl ?_
          refine wp_norm [_, _, _, _] rfl ?_
          refine xp_seq ?_
          refine xp_region rfl ?_
          refine op_loadPA 0 (vs := [.slice _ _ _, .slice _ _ _, .slice _ _ _, .slice _ _ _]) rfl rfl rfl rfl rfl ?_
          refine op_pure (pv_move (v := .int .i64 _) rfl) ?_
          refine op_pure (pv_fieldAddr rfl rfl rfl rfl 0 rfl) ?_
          refine op_loadP 3 (v := .int .i64 _) rfl rfl rfl rfl ?_
          refine op_fn (caps := []) (vs := [.agg #[.slice _ _ _, .slice _ _ _, .slice _ _ _, .slice _ _ _], .int .i64 _, .int .i64 _]) rfl rfl rfl (rRight_ok s i y.week A0 A1 A2 A3 c0 c1 c2 c3 h5 (R.ext (Ext.trans (Ext.trans (Ext.trans (Ext.trans E_hh E_cc) E_mm) E_lf) E5)) hr) ?_
          rintro _ h6' E6 rfl
          refine xp_cond rfl (fun hq => ?_) (fun hq => ?_)
          · skip
            refine xp_region rfl ?_
            refine op_pure (pv_move (v := .slice _ _ _) rfl) ?_
            refine op_loadPA 3 (vs := [.int .i64 _, .bool _, .bool _, .bool _]) rfl rfl rfl rfl rfl ?_
            refine op_buildSlice (zc := [_, _, _, _]) (vs := [(0, .agg #[.int .i64 _, .bool _, .bool _, .bool _])]) (cs := [_, _, _, _]) rfl rfl rfl rfl rfl rfl rfl fun b72 hb72 => ?_
            refine wp_norm [_, _, _, _, _] rfl ?_
            refine op_appendR 2 F3 rfl rfl rfl (fun V => rdP V (i := 4) rfl) rfl rfl rfl rfl rfl rfl rfl rfl rfl (by omega) rfl (by rw [flat_len (m := 4) (fun _ _ => rfl)]; simp; omega) fun f2 h5a E5a hf2 => ?_
            refine wp_norm [_, _, _, _, _] rfl ?_
            refine op_pure (pv_assign (v := .slice _ _ _) rfl) ?_
            refine xp_region rfl ?_
            refine op_pure (pv_move (v := .int .i64 _) rfl) ?_
            refine op_pure (pv_arith rfl (by omega)) ?_
            refine op_pure (pv_assign (v := .int .i64 _) rfl) ?_
            refine ⟨(lf + 1, f2), ⟨rfl, rfl, trivial⟩, rfl, rfl, (Ext.trans (Ext.trans (Ext.trans E_lf E5) E6) E5a), fun h3 E3 => ⟨⟨by omega, by omega⟩, by rw [e4, accF_yes _ hq, List.flatMap_append]; exact hf2⟩, by first | omega | (dsimp only; omega), ?_⟩
            repeat (first | exact off_base _ _ _ | refine off_upd (by decide) ?_ | refine off_updL rfl ?_ | refine off_mix rfl ?_)
          · skip
            refine xp_skip ?_
            refine xp_region rfl ?_
            refine op_pure (pv_move (v := .int .i64 _) rfl) ?_
            refine op_pure (pv_arith rfl (by omega)) ?_
            refine op_pure (pv_assign (v := .int .i64 _) rfl) ?_
            refine ⟨(lf + 1, f), ⟨rfl, rfl, trivial⟩, rfl, rfl, (Ext.trans (Ext.trans E_lf E5) E6), fun h3 E3 => ⟨⟨by omega, by omega⟩, by rw [e4, accF_no _ hq]; exact F3⟩, by first | omega | (dsimp only; omega), ?_⟩
            repeat (first | exact off_base _ _ _ | refine off_upd (by decide) ?_ | refine off_updL rfl ?_ | refine off_mix rfl ?_)
        · skip
          have hlf : lf = j.life.mx + 1 := by have := of_decide_eq_false hc3; omega
          refine xp_exit ?_
          refine xp_region rfl ?_
          refine op_pure (pv_move (v := .int .i64 _) rfl) ?_
          refine op_pure (pv_arith rfl (by omega)) ?_
          refine op_pure (pv_assign (v := .int .i64 _) rfl) ?_
          refine ⟨(mm + 1, f), ⟨rfl, rfl, trivial⟩, rfl, rfl, (Ext.trans E_mm E_lf), fun h3 E3 => ⟨⟨by omega, by omega⟩, by rw [fails3_succ M1, ← List.append_assoc, ← e3, ← hlf]; exact F3⟩, by first | omega | (dsimp only; omega), ?_⟩
          repeat (first | exact off_base _ _ _ | refine off_upd (by decide) ?_ | refine off_updL rfl ?_ | refine off_mix rfl ?_)
      · skip
        have hmm : mm = j.weeks.mx + 1 := by have := of_decide_eq_false hc2; omega
        refine xp_exit ?_
        refine xp_region rfl ?_
        refine op_pure (pv_move (v := .int .i64 _) rfl) ?_
        refine op_pure (pv_arith rfl (by omega)) ?_
        refine op_pure (pv_assign (v := .int .i64 _) rfl) ?_
        refine ⟨(cc + 1, d), ⟨rfl, rfl, trivial⟩, rfl, rfl, (Ext.trans E_cc E_mm), fun h3 E3 => ⟨⟨by omega, by omega⟩, by rw [fails2_succ C1, ← List.append_assoc, ← e2, ← hmm]; exact M3⟩, by first | omega | (dsimp only; omega), ?_⟩
        repeat (first | exact off_base _ _ _ | refine off_upd (by decide) ?_ | refine off_updL rfl ?_ | refine off_mix rfl ?_)
    · skip
      have hcc : cc = j.low.mx + 1 := by have := of_decide_eq_false hc1; omega
      refine xp_exit ?_
      refine xp_region rfl ?_
      refine op_pure (pv_move (v := .int .i64 _) rfl) ?_
      refine op_pure (pv_arith rfl (by omega)) ?_
      refine op_pure (pv_assign (v := .int .i64 _) rfl) ?_
      refine ⟨(hh + 1, b), ⟨rfl, rfl, trivial⟩, rfl, rfl, (Ext.trans E_hh E_cc), fun h3 E3 => ⟨⟨by omega, by omega⟩, by rw [fails1_succ H1, ← e1, ← hcc]; exact C3⟩, by first | omega | (dsimp only; omega), ?_⟩
      repeat (first | exact off_base _ _ _ | refine off_upd (by decide) ?_ | refine off_updL rfl ?_ | refine off_mix rfl ?_)
  · skip
    have hhh : hh = j.high.mx + 1 := by have := of_decide_eq_false ht; omega
    subst hhh
    refine xp_exit ?_
    refine xp_seq ?_
    refine xp_region rfl ?_
    refine op_pure (pv_move (v := .slice _ _ _) rfl) ?_
    refine op_pure (pv_assign (v := .slice _ _ _) rfl) ?_
    refine xp_ret ?_
    refine res_list (vs := [_]) Try.results136 ⟨resV_tmp rfl rfl, trivial⟩ fun V => ?_
    exact ⟨(Ext.trans E_hh (ext_wl V)), AccP.row (i := 2) H3 (by omega) (fun _ _ => rfl) V rfl⟩
end Go.Proofs.Ytndfkbapoinmkaa
/- Walks: the reference's verdict and report given. Conditions: as each theorem states. -/
namespace Go.Proofs.Ytndfkbapoinmkaa
open Go Go.HL Go.Proofs Go.Wx
set_option maxRecDepth 100000
end Go.Proofs.Ytndfkbapoinmkaa
/- Walks: all weathers of ranges, in the order of the reference. Conditions: as each theorem states. -/
namespace Go.Proofs.Ytndfkbapoinmkaa
open Go Go.HL Go.Proofs Go.Wx
set_option maxRecDepth 100000
/-- All weathers of the ranges that begin so; m weeks lack. -/
def wthM (rs : List Rg) : Nat → List Int → List (List Int)
  | 0, x => [x]
  | m + 1, x => (rangeI (rs.getD x.length default).mn ((rs.getD x.length default).mx + 1)).flatMap fun t => wthM rs m (x ++ [t])
def wthK (rs : List Rg) (m : Nat) (x : List Int) (lo hi : Int) : List (List Int) := (rangeI lo hi).flatMap fun t => wthM rs m (x ++ [t])
theorem wthK_succ {rs : List Rg} {m : Nat} {x : List Int} {lo hi : Int} (h : lo ≤ hi) : wthK rs m x lo (hi + 1) = wthK rs m x lo hi ++ wthM rs m (x ++ [hi]) := by
  unfold wthK; rw [rangeI_succ h, List.flatMap_append]; simp
theorem wthM_len {rs : List Rg} (hb : ∀ r ∈ rs, r.mx ≤ r.mn + 2) : ∀ (m : Nat) (x : List Int), x.length + m ≤ rs.length → (wthM rs m x).length ≤ 3 ^ m
  | 0, x, _ => by simp [wthM]
  | m + 1, x, h => by
    have hx : x.length < rs.length := by omega
    have h1 : rs.getD x.length default = rs[x.length] := by rw [List.getD_eq_getElem?_getD, List.getElem?_eq_getElem hx]; rfl
    have h2 := hb _ (List.getElem_mem hx)
    have h3 := flatMap_len (fun t => wthM rs m (x ++ [t])) (3 ^ m) (rangeI (rs.getD x.length default).mn ((rs.getD x.length default).mx + 1)) fun t _ => wthM_len hb m (x ++ [t]) (by rw [List.length_append, List.length_singleton]; omega)
    rw [rangeI_len, h1] at h3
    unfold wthM
    rw [h1]
    refine Nat.le_trans h3 ?_
    rw [Nat.pow_succ, Nat.mul_comm]
    exact Nat.mul_le_mul_left _ (by omega)
end Go.Proofs.Ytndfkbapoinmkaa
/- Walks: the reference's weathers. Conditions: as each theorem states. -/
namespace Go.Proofs.Ytndfkbapoinmkaa
open Go Go.HL Go.Proofs Go.Wx
set_option maxRecDepth 100000
theorem LLv.app {h : AH} {ls ls' : List (List Int)} {vs vs' : List Value} (x : LLv h ls vs) (y : LLv h ls' vs') : LLv h (ls ++ ls') (vs ++ vs') := by
  refine ⟨by simp [x.1, y.1], fun i l v a b => ?_⟩
  by_cases hi : i < ls.length
  · rw [List.getElem?_append_left hi] at a
    rw [List.getElem?_append_left (by rw [x.1]; exact hi)] at b
    exact x.2 i l v a b
  · rw [List.getElem?_append_right (by omega)] at a
    rw [List.getElem?_append_right (by rw [x.1]; omega), x.1] at b
    exact y.2 _ l v a b
set_option maxHeartbeats 2000000 in
theorem rWeathers_ok (rs : List Rg) (h6 : rs.length ≤ 6) (hb : ∀ r ∈ rs, -1000 ≤ r.mn ∧ r.mn ≤ r.mx ∧ r.mx ≤ 1000 ∧ r.mx ≤ r.mn + 2) (AR : Option Addr) (cR : Nat) : ∀ (m : Nat) (x : List Int), x.length + m = rs.length → ∀ (A : Option Addr) (c : Nat) (h : AH), Row h 2 rgC AR rs → Row h 1 intC A x →
    FnT Try.prog 135 #[.slice AR rs.length cR, .slice A x.length c] h (fun v h' => LLR h' (wthM rs m x) v) := by
  intro m
  induction m with
  | zero =>
    intro x hx A c h RR RX
    refine call_body Try.func135 rfl Try.ntmps135 rfl ?_
    refine xp_seq ?_
    refine xp_region rfl ?_
    refine op_pure (pv_assign (v := .slice _ _ _) rfl) ?_
    refine xp_seq ?_
    refine xp_seq ?_
    refine xp_region rfl ?_
    refine op_pure (pv_move (v := .slice _ _ _) rfl) ?_
    refine op_pure (pv_len rfl rfl) ?_
    refine op_pure (pv_move (v := .slice _ _ _) rfl) ?_
    refine op_pure (pv_len rfl rfl) ?_
    refine op_pure (pv_of (v := .bool _) rfl) ?_
    refine xp_condT rfl ((by simp; omega)) ?_
    refine xp_seq ?_
    refine xp_region rfl ?_
    refine op_pure (pv_move (v := .slice _ _ _) rfl) ?_
    refine op_buildSlice (zc := [_]) (vs := [(0, .slice _ _ _)]) (cs := [_]) rfl rfl rfl rfl rfl rfl rfl fun b13 hb13 => ?_
    refine wp_norm [_] rfl ?_
    refine op_pure (pv_assign (v := .slice _ _ _) rfl) ?_
    refine xp_ret ?_
    refine res_list (vs := [_]) Try.results135 ⟨resV_tmp rfl rfl, trivial⟩ fun V => ?_
    refine ⟨(ext_wl V), some ⟨b13, 0, none⟩, 1, [.slice A x.length c], rfl, rowFn (wl_get V (i := 0) rfl), rfl, fun i l v a b => ?_⟩
    match i with
    | 0 => simp [wthM] at a b; subst a b; exact ⟨A, c, rfl, RX.ext (ext_wl V)⟩
    | i + 1 => simp [wthM] at a
  | succ m ih =>
    intro x hx A c h RR RX
    have hxl : x.length < rs.length := by omega
    have h1 : rs.getD x.length default = rs[x.length] := by rw [List.getD_eq_getElem?_getD, List.getElem?_eq_getElem hxl]; rfl
    obtain ⟨k1, k2, k3, k4⟩ := hb _ (List.getElem_mem hxl)
    obtain ⟨g, off, hB, hc⟩ := RR.at (by omega) hxl
    refine call_body Try.func135 rfl Try.ntmps135 rfl ?_
    refine goes_more ?_
    refine goes_norm [_] rfl ?_
    refine xp_seq ?_
    refine xp_region rfl ?_
    refine op_pure (pv_assign (v := .slice _ _ _) rfl) ?_
    refine xp_seq ?_
    refine xp_seq ?_
    refine xp_region rfl ?_
    refine op_pure (pv_move (v := .slice _ _ _) rfl) ?_
    refine op_pure (pv_len rfl rfl) ?_
    refine op_pure (pv_move (v := .slice _ _ _) rfl) ?_
    refine op_pure (pv_len rfl rfl) ?_
    refine op_pure (pv_of (v := .bool _) rfl) ?_
    refine xp_condF rfl ((by simp; omega)) ?_
    refine xp_skip ?_
    refine xp_seq ?_
    refine xp_region rfl ?_
    refine op_pure (pv_assign (v := .slice _ _ _) rfl) ?_
    refine xp_seq ?_
    refine xp_seq ?_
    refine xp_region rfl ?_
    refine op_pure (pv_move (v := .slice _ _ _) rfl) ?_
    refine op_pure (pv_move (v := .slice _ _ _) rfl) ?_
    refine op_pure (pv_len rfl rfl) ?_
    refine op_pure (pv_indexE rfl hB rfl rfl rfl (by omega) (by omega)) ?_
    refine op_pure (pv_fieldAddr rfl rfl rfl rfl _ rfl) ?_
    refine op_load (v := .int .i64 _) rfl rfl ((hc.ext (Ext.refl _)) 0 (.int .i64 rs[x.length].mn) rfl) ?_
    refine op_pure (pv_assign (v := .int .i64 _) rfl) ?_
    refine xp_block ?_
    refine xp_loopL [5, 6, 20, 21, 22, 23, 24, 25, 26, 27, 28, 29, 30, 31, 32, 33, 34, 35, 36, 37, 38, 39] 1 (α := Int × Acc × List Value) (fun ⟨t, ao, vs⟩ => [(6, .int .i64 t), (5, .slice ao.A ao.n ao.c)]) (fun ⟨t, ao, vs⟩ L => L.set 0 (ao.p)) (fun ⟨t, ao, vs⟩ h_t => (rs[x.length].mn ≤ t ∧ t ≤ rs[x.length].mx + 1) ∧ AccR 27 1 vs ao ∧ LLv h_t (wthK rs m x rs[x.length].mn t) vs) (fun ⟨t, ao, vs⟩ => (rs[x.length].mx + 1 - t).toNat) ((rs[x.length].mn, acc0, [])) ⟨rfl, rfl, trivial⟩ (rfl) (⟨⟨by omega, by omega⟩, accR0, by unfold wthK; rw [rangeI_nil (by omega)]; exact LLv.nil⟩) ?_
    rintro ⟨t, ao, vs⟩ T1 h_t E_t J_t
    refine goes_norm [_] rfl ?_
    obtain ⟨⟨K1, K2⟩, K3, K4⟩ := J_t
    refine xp_seq ?_
    refine xp_seq ?_
    refine xp_region rfl ?_
    refine op_pure (pv_move (v := .int .i64 _) rfl) ?_
    refine op_pure (pv_move (v := .slice _ _ _) rfl) ?_
    refine op_pure (pv_move (v := .slice _ _ _) rfl) ?_
    refine op_pure (pv_len rfl rfl) ?_
    refine op_pure (pv_indexE rfl hB rfl rfl rfl (by omega) (by omega)) ?_
    refine op_pure (pv_fieldAddr rfl rfl rfl rfl _ rfl) ?_
    refine op_load (v := .int .i64 _) rfl rfl ((hc.ext E_t) 1 (.int .i64 rs[x.length].mx) rfl) ?_
    refine op_pure (pv_of (v := .bool _) rfl) ?_
    refine xp_cond rfl (fun ht => ?_) (fun ht => ?_)
    · skip
      have hle : t ≤ rs[x.length].mx := of_decide_eq_true ht
      refine xp_skip ?_
      refine xp_seq ?_
      refine xp_block ?_
      refine xp_region rfl ?_
      refine op_pure (pv_move (v := .slice _ _ _) rfl) ?_
      refine op_pure (pv_move (v := .slice _ _ _) rfl) ?_
      refine op_buildSlice (zc := [_]) (vs := []) (cs := []) rfl rfl rfl rfl rfl rfl rfl fun b32 hb32 => ?_
      refine wp_norm [_, _] rfl ?_
      refine op_pure (pv_move (v := .slice _ _ _) rfl) ?_
      refine op_appendR 1 accR_new rfl rfl rfl (fun V => RX.2.ext (Ext.trans E_t (ext_wl V))) (flat_len RX.1) (flat_plain intP x) rfl rfl rfl rfl rfl rfl rfl (by omega) rfl (by rw [flat_len RX.1, List.length_nil]; omega) fun a1 h2a E2a ha1 => ?_
      refine wp_norm [_, _] rfl ?_
      refine op_pure (pv_move (v := .int .i64 _) rfl) ?_
      refine op_buildSlice (zc := [_]) (vs := [(0, .int .i64 _)]) (cs := [_]) rfl rfl rfl rfl rfl rfl rfl fun b36 hb36 => ?_
      refine wp_norm [_, _, _] rfl ?_
      refine op_appendR 1 ha1 rfl rfl rfl (fun V => rdP V (i := 2) rfl) rfl rfl rfl rfl rfl rfl rfl rfl rfl (by omega) rfl (by rw [List.nil_append, flat_len RX.1]; simp; omega) fun a2 h3a E3a ha2 => ?_
      refine wp_norm [_, _, _] rfl ?_
      obtain ⟨bN, lenN, capN, junkN, hlN, rfl⟩ := AccR.some ha2 (by simp)
      have eN : lenN = (x ++ [t]).length := by rw [List.nil_append, List.length_append, flat_len (fun _ _ => rfl) (m := 1)] at hlN; simp at hlN ⊢; omega
      subst eN
      dsimp only
      refine wp_pub 1 rfl rfl ?_
      intro g F PN
      refine wp_norm [_, _, _] rfl ?_
      have SN : Row g 1 intC (some ⟨bN, 0, none⟩) (x ++ [t]) := row_junk (enc := intC) (l := x ++ [t]) intM (by simpa [List.flatMap_append, intC] using PN)
      refine op_fn (caps := []) (vs := [.slice _ _ _, .slice _ _ _]) rfl rfl rfl (ih (x ++ [t]) (by rw [List.length_append, List.length_singleton]; omega) (some ⟨bN, 0, none⟩) capN g (RR.ext (Ext.trans (Ext.trans (Ext.trans E_t E2a) E3a) F)) SN) ?_
      rintro _ h5 E5 ⟨RA, rc, rvs, rfl, RV, RL⟩
      have b1 : (wthK rs m x rs[x.length].mn t).length ≤ 1000 := by
        have b2 := flatMap_len (fun t => wthM rs m (x ++ [t])) (3 ^ m) (rangeI rs[x.length].mn t) fun t _ => wthM_len (fun r hr => (hb r hr).2.2.2) m (x ++ [t]) (by rw [List.length_append, List.length_singleton]; omega)
        rw [rangeI_len] at b2
        have b3 : 3 ^ m ≤ 3 ^ 5 := Nat.pow_le_pow_right (by omega) (by omega)
        refine Nat.le_trans b2 (Nat.le_trans (Nat.mul_le_mul (show (t - rs[x.length].mn).toNat ≤ 3 by omega) b3) (by decide))
      have b4 : (wthM rs m (x ++ [t])).length ≤ 1000 := Nat.le_trans (wthM_len (fun r hr => (hb r hr).2.2.2) m (x ++ [t]) (by rw [List.length_append, List.length_singleton]; omega)) (Nat.le_trans (Nat.pow_le_pow_right (by omega) (show m ≤ 5 by omega)) (by decide))
      have b5 := K4.1
      have b6 := RL.1
      have hpl : (rvs.flatMap fnC).all plainB = true := by
        rw [flat_fn, List.all_eq_true]
        intro v hv
        obtain ⟨i, hi, rfl⟩ := List.getElem_of_mem hv
        obtain ⟨A', c', e, _⟩ := RL.2 i _ _ (List.getElem?_eq_getElem (by omega)) (List.getElem?_eq_getElem hi)
        rw [e]; rfl
      refine op_appendR 0 K3 rfl rfl rfl (fun V => RV.2.ext (ext_wl V)) (by rw [flat_fn]; omega) hpl rfl rfl rfl rfl rfl rfl rfl (by omega) rfl (by rw [flat_fn]; omega) fun a3 h4a E4a ha3 => ?_
      refine wp_norm [_, _, _] rfl ?_
      rw [flat_fn] at ha3
      refine op_pure (pv_assign (v := .slice _ _ _) rfl) ?_
      refine xp_region rfl ?_
      refine op_pure (pv_move (v := .int .i64 _) rfl) ?_
      refine op_pure (pv_arith rfl (by omega)) ?_
      refine op_pure (pv_assign (v := .int .i64 _) rfl) ?_
      refine ⟨(t + 1, a3, vs ++ rvs), ⟨rfl, rfl, trivial⟩, rfl, rfl, (Ext.trans (Ext.trans (Ext.trans (Ext.trans (Ext.trans E_t E2a) E3a) F) E5) E4a), fun h3 E3 => ⟨⟨by omega, by omega⟩, ha3, by rw [wthK_succ K1]; exact ((K4.ext (Ext.trans (Ext.trans (Ext.trans (Ext.trans E2a E3a) F) E5) E4a)).app (RL.ext E4a)).ext E3⟩, by first | omega | (dsimp only; omega), ?_⟩
      repeat (first | exact off_base _ _ _ | refine off_upd (by decide) ?_ | refine off_updL rfl ?_ | refine off_mix rfl ?_)
    · skip
      have hte : t = rs[x.length].mx + 1 := by have := of_decide_eq_false ht; omega
      subst hte
      unfold wthK at K4
      obtain ⟨pO, AO, nO, cO⟩ := ao
      have eW : wthM rs (m + 1) x = (rangeI rs[x.length].mn (rs[x.length].mx + 1)).flatMap fun t => wthM rs m (x ++ [t]) := by rw [wthM, h1]
      rw [← eW] at K4
      obtain rfl : nO = (wthM rs (m + 1) x).length := by have := AccR.len K3; have := K4.1; dsimp only at *; omega
      dsimp only
      refine goes_pubO 0 rfl ?_
      intro g G P
      refine goes_norm [_] rfl ?_
      refine xp_exit ?_
      refine xp_seq ?_
      refine xp_region rfl ?_
      refine op_pure (pv_move (v := .slice _ _ _) rfl) ?_
      refine op_pure (pv_assign (v := .slice _ _ _) rfl) ?_
      refine xp_ret ?_
      refine res_list (vs := [_]) Try.results135 ⟨resV_tmp rfl rfl, trivial⟩ fun V => ?_
      exact ⟨(Ext.trans (Ext.trans E_t G) (ext_wl V)), AO, cO, vs, rfl, ⟨fun _ _ => rfl, by rw [flat_fn]; exact (AccR.rd K3 P).ext (ext_wl V)⟩, K4.ext (Ext.trans G (ext_wl V))⟩
end Go.Proofs.Ytndfkbapoinmkaa
/- Plain: the weathers and failures that the reference gathers, in terms of those that the program gathers. Conditions: as each theorem states. -/
namespace Go.Proofs.Ytndfkbapoinmkaa
open Go Go.HL Go.Proofs Go.Wx
theorem skyOf_snoc {x : List Int} {t : Int} (h : x.length < 6) : skyOf (x ++ [t]) = (skyOf x).set x.length t := by
  apply Sky.ext_at
  intro i hi
  rw [skyOf_at _ _ hi, Sky.at_set _ _ h hi, skyOf_at _ _ hi, List.getD_eq_getElem?_getD, List.getD_eq_getElem?_getD]
  by_cases h1 : i < x.length
  · rw [List.getElem?_append_left h1, if_neg (by omega)]
  · rw [List.getElem?_append_right (by omega)]
    by_cases h2 : i = x.length
    · rw [if_pos h2, h2, Nat.sub_self]; rfl
    · rw [if_neg h2, List.getElem?_eq_none (by simp; omega), List.getElem?_eq_none (by omega)]
theorem wth_skies {rs : List Rg} (h6 : rs.length ≤ 6) : ∀ (m : Nat) (x : List Int), x.length + m = rs.length → (wthM rs m x).map skyOf = skiesM (rs.drop x.length) x.length (skyOf x)
  | 0, x, h => by rw [List.drop_eq_nil_of_le (by omega)]; rfl
  | m + 1, x, h => by
    have hx : x.length < rs.length := by omega
    have h1 : rs.getD x.length default = rs[x.length] := by rw [List.getD_eq_getElem?_getD, List.getElem?_eq_getElem hx]; rfl
    rw [wthM, h1, List.drop_eq_getElem_cons hx, skiesM, List.map_flatMap]
    refine congrArg (fun f => List.flatMap f _) ?_
    funext t
    rw [wth_skies h6 m (x ++ [t]) (by rw [List.length_append, List.length_singleton]; omega), skyOf_snoc (by omega), List.length_append, List.length_singleton]
theorem wth_len {rs : List Rg} : ∀ (m : Nat) (x y : List Int), y ∈ wthM rs m x → y.length = x.length + m
  | 0, x, y, h => by simp [wthM] at h; rw [h]; rfl
  | m + 1, x, y, h => by
    rw [wthM, List.mem_flatMap] at h
    obtain ⟨t, _, h⟩ := h
    have := wth_len m _ _ h
    rw [List.length_append, List.length_singleton] at this
    omega
theorem accF_surv {s : Season} {n : Int} {i : Nat} {j : Joint} (hj : s.joints[i]? = some j) (hk : j.kind = n) (h6 : s.heats.length ≤ 6) (hr : ∀ r ∈ s.reports, 0 ≤ r.week) {x : List Int} (hx : x.length = s.heats.length) :
    accF s i (failuresM j (skyOf x) x.length) = surv s n (skyOf x) i := by
  unfold accF surv
  rw [hj, hx]
  simp only [hk, if_true]
  apply List.filter_congr
  intro y hy
  have hy2 := failuresM_week hy
  rw [toldW_bit s h6 hr i y.week (by omega), decide_eq_true hy2, Bool.true_and]
  rfl
/-- The weathers that can be. -/
def allW (s : Season) (n : Int) : List (List Int) := wthM (weatherM s n) (weatherM s n).length []
def rSk (s : Season) (n : Int) : List (List Int) := (allW s n).filter fun x => okM s n (skyOf x)
def recF (s : Season) (n : Int) (x : List Int) : List (List Fl) := (List.range s.joints.length).map fun i => surv s n (skyOf x) i
theorem allW_map {s : Season} {n : Int} (h6 : (weatherM s n).length ≤ 6) : (allW s n).map skyOf = allSkies s n := by
  unfold allW allSkies
  rw [wth_skies h6 _ _ (by simp)]
  rfl
theorem rSk_map {s : Season} {n : Int} (h6 : (weatherM s n).length ≤ 6) : (rSk s n).map skyOf = okK s n (allSkies s n).length := by
  unfold rSk okK
  rw [List.take_length, ← allW_map h6, List.filter_map]
  rfl
theorem rSk_fls {s : Season} {n : Int} (h6 : (weatherM s n).length ≤ 6) (i : Nat) : flsM s n i = (rSk s n).flatMap fun x => surv s n (skyOf x) i := by
  unfold flsM flsK
  rw [← rSk_map h6, List.flatMap_map]
theorem mem_rSk {s : Season} {n : Int} (h6 : (weatherM s n).length ≤ 6) {y : Sky} : y ∈ skM s n ↔ ∃ x ∈ rSk s n, skyOf x = y := by
  rw [mem_skM, ← mem_okAll, ← rSk_map h6, List.mem_map]
theorem rMay {s : Season} (h1 : (weatherM s 1).length ≤ 6) (h2 : (weatherM s 2).length ≤ 6) : mayM s = (decide (0 < (rSk s 1).length) && decide (0 < (rSk s 2).length)) := by
  have key : ∀ n, (weatherM s n).length ≤ 6 → ((∃ y, y ∈ skM s n) ↔ 0 < (rSk s n).length) := by
    intro n h
    constructor
    · rintro ⟨y, hy⟩
      obtain ⟨x, hx, _⟩ := (mem_rSk h).1 hy
      exact List.length_pos_of_mem hx
    · intro hp
      obtain ⟨x, hx⟩ := List.exists_mem_of_length_pos hp
      exact ⟨_, (mem_rSk h).2 ⟨x, hx, rfl⟩⟩
  rw [Bool.eq_iff_iff, mayM_iff, Bool.and_eq_true, decide_eq_true_eq, decide_eq_true_eq, key 1 h1, key 2 h2]
/-- Whether a weather can be, as far as the first joints go. -/
def okP (s : Season) (n : Int) (x : List Int) (k : Nat) : Bool := (List.range k).all fun i => !decide (kindAt s i = n) || decide (0 < (surv s n (skyOf x) i).length)
theorem okP_succ (s : Season) (n : Int) (x : List Int) (k : Nat) : okP s n x (k + 1) = (okP s n x k && (!decide (kindAt s k = n) || decide (0 < (surv s n (skyOf x) k).length))) := by
  unfold okP; rw [List.range_succ, List.all_append]; simp
theorem okP_all (s : Season) (n : Int) (x : List Int) : okP s n x s.joints.length = okM s n (skyOf x) := by
  unfold okP okM
  congr 1
  funext i
  congr 1
  rw [Bool.eq_iff_iff, decide_eq_true_eq, decide_eq_true_eq, fateM, ne_eq, maskM_zero, ← List.length_eq_zero_iff]
  omega
theorem okP_other {s : Season} {n : Int} {x : List Int} {k : Nat} (h : kindAt s k ≠ n) : okP s n x (k + 1) = okP s n x k := by
  rw [okP_succ, decide_eq_false h]; simp
theorem surv_other {s : Season} {n : Int} {x : Sky} {k : Nat} (h : kindAt s k ≠ n) : surv s n x k = [] := by
  unfold surv
  cases hj : s.joints[k]? with
  | none => rfl
  | some j =>
    unfold kindAt at h
    rw [hj] at h
    exact if_neg h
theorem surv_len {s : Season} {n : Int} {x : Sky} {k : Nat} (B : ∀ j ∈ s.joints, JointB j) : (surv s n x k).length ≤ 540 := by
  unfold surv
  cases hj : s.joints[k]? with
  | none => simp
  | some j =>
    simp only
    split
    · exact Nat.le_trans (List.length_filter_le _ _) (failuresM_len (B j (List.mem_of_getElem? hj)) _ _)
    · simp
/-- Lists whose members stand for each other. -/
def RLv {α β : Type} (R : AH → α → β → Prop) (h : AH) (ls : List α) (vs : List β) : Prop := vs.length = ls.length ∧ ∀ (i : Nat) l v, ls[i]? = some l → vs[i]? = some v → R h l v
section
variable {α β : Type} {R : AH → α → β → Prop}
theorem RLv.nil {h : AH} : RLv R h [] [] := ⟨rfl, fun i l v a _ => by simp at a⟩
theorem RLv.ext (he : ∀ h h' l v, Ext h h' → R h l v → R h' l v) {h h' : AH} {ls : List α} {vs : List β} (x : RLv R h ls vs) (E : Ext h h') : RLv R h' ls vs := ⟨x.1, fun i l v a b => he _ _ _ _ E (x.2 i l v a b)⟩
theorem RLv.snoc {h : AH} {ls : List α} {vs : List β} (x : RLv R h ls vs) {l : α} {v : β} (s : R h l v) : RLv R h (ls ++ [l]) (vs ++ [v]) := by
  refine ⟨by simp [x.1], fun i l' v' a b => ?_⟩
  by_cases hi : i < ls.length
  · rw [List.getElem?_append_left hi] at a
    rw [List.getElem?_append_left (by rw [x.1]; exact hi)] at b
    exact x.2 i l' v' a b
  · have h1 := (List.getElem?_eq_some_iff.1 a).1
    have hie : i = ls.length := by simp at h1; omega
    subst hie
    rw [List.getElem?_append_right (Nat.le_refl _), Nat.sub_self] at a
    rw [List.getElem?_append_right (by rw [x.1]; exact Nat.le_refl _), x.1, Nat.sub_self] at b
    simp at a b
    subst a b
    exact s
theorem RLv.at {h : AH} {ls : List α} {vs : List β} (x : RLv R h ls vs) {i : Nat} (hi : i < ls.length) : ∃ hv : i < vs.length, R h ls[i] vs[i] :=
  ⟨by rw [x.1]; exact hi, x.2 i _ _ (List.getElem?_eq_getElem hi) (List.getElem?_eq_getElem (by rw [x.1]; exact hi))⟩
end
theorem flx {h h' : AH} {ls : List (List Fl)} {vs : List Value} (x : RLv (fun h l v => SlR h 4 flR l v) h ls vs) (E : Ext h h') : RLv (fun h l v => SlR h 4 flR l v) h' ls vs := RLv.ext (R := fun h l v => SlR h 4 flR l v) (fun _ _ _ _ E s => SlR.ext s E) x E
/-- A slice of slices of failures. -/
def FLR (h : AH) (ls : List (List Fl)) (v : Value) : Prop := ∃ A c vs, v = .slice A ls.length c ∧ Row h 1 fnC A vs ∧ RLv (fun h l v => SlR h 4 flR l v) h ls vs
theorem FLR.ext {h h' : AH} {ls : List (List Fl)} {v : Value} (x : FLR h ls v) (E : Ext h h') : FLR h' ls v := by
  obtain ⟨A, c, vs, e, r, l⟩ := x
  exact ⟨A, c, vs, e, r.ext E, flx l E⟩
/-- What the reference keeps of a weather: the weather, and the failures of each joint. -/
def SkP (s : Season) (n : Int) (h : AH) (x : List Int) (p : Value × Value) : Prop := SlR h 1 intC x p.1 ∧ FLR h (recF s n x) p.2
theorem SkP.ext {s : Season} {n : Int} {h h' : AH} {x : List Int} {p : Value × Value} (k : SkP s n h x p) (E : Ext h h') : SkP s n h' x p := ⟨k.1.ext E, k.2.ext E⟩
theorem skx {s : Season} {n : Int} {h h' : AH} {ls : List (List Int)} {ps : List (Value × Value)} (x : RLv (SkP s n) h ls ps) (E : Ext h h') : RLv (SkP s n) h' ls ps := RLv.ext (R := SkP s n) (fun _ _ _ _ E s => SkP.ext s E) x E
def prC (p : Value × Value) : List Value := [p.1, p.2]
theorem prM (p : Value × Value) : (prC p).length = 2 := rfl
/-- A slice of them. -/
def SKR (s : Season) (n : Int) (h : AH) (l : List (List Int)) (v : Value) : Prop := ∃ A c ps, v = .slice A l.length c ∧ Row h 2 prC A ps ∧ RLv (SkP s n) h l ps
theorem SKR.ext {s : Season} {n : Int} {h h' : AH} {l : List (List Int)} {v : Value} (x : SKR s n h l v) (E : Ext h h') : SKR s n h' l v := by
  obtain ⟨A, c, ps, e, r, k⟩ := x
  exact ⟨A, c, ps, e, r.ext E, skx k E⟩
theorem recF_len (s : Season) (n : Int) (x : List Int) : (recF s n x).length = s.joints.length := by simp [recF]
theorem recF_get {s : Season} {n : Int} {x : List Int} {i : Nat} (hi : i < s.joints.length) : (recF s n x)[i]? = some (surv s n (skyOf x) i) := by simp [recF, hi]
end Go.Proofs.Ytndfkbapoinmkaa
/- Walks: the weathers that there can be, as the reference gathers them. Conditions: as each theorem states. -/
namespace Go.Proofs.Ytndfkbapoinmkaa
open Go Go.HL Go.Proofs Go.Wx
set_option maxRecDepth 100000
theorem rRanges_ok (s : Season) (n : Int) (hn : n = 1 ∨ n = 2) (A0 A1 A2 A3 : Option Addr) (c0 c1 c2 c3 : Nat) (h : AH) :
    FnT Try.prog 97 #[seasonV A0 A1 A2 A3 c0 c1 c2 c3 s, .int .i64 n] h (fun v _ => v = .slice (if n = 1 then A0 else A1) (weatherM s n).length (if n = 1 then c0 else c1)) := by
  rcases hn with rfl | rfl
  · skip
    refine call_body Try.func97 rfl Try.ntmps97 rfl ?_
    refine xp_seq ?_
    refine xp_region rfl ?_
    refine op_box (v := .agg #[.slice _ _ _, .slice _ _ _, .slice _ _ _, .slice _ _ _]) (cs := [_, _, _, _]) rfl rfl fun b2 hb2 => ?_
    refine wp_norm [_] rfl ?_
    refine op_pure (pv_assign (v := .slice _ _ _) rfl) ?_
    refine xp_seq ?_
    refine xp_seq ?_
    refine xp_region rfl ?_
    refine op_pure (pv_move (v := .int .i64 _) rfl) ?_
    refine op_pure (pv_of (v := .bool _) rfl) ?_
    refine xp_condT rfl (rfl) ?_
    refine xp_seq ?_
    refine xp_region rfl ?_
    refine op_pure (pv_fieldAddr rfl rfl rfl rfl 0 rfl) ?_
    refine op_loadP 0 (v := .slice _ _ _) rfl rfl rfl rfl ?_
    refine op_pure (pv_assign (v := .slice _ _ _) rfl) ?_
    refine xp_ret ?_
    refine res_list (vs := [_]) Try.results97 ⟨resV_tmp rfl rfl, trivial⟩ fun V => ?_
    exact ⟨(ext_wl V), rfl⟩
  · skip
    refine call_body Try.func97 rfl Try.ntmps97 rfl ?_
    refine xp_seq ?_
    refine xp_region rfl ?_
    refine op_box (v := .agg #[.slice _ _ _, .slice _ _ _, .slice _ _ _, .slice _ _ _]) (cs := [_, _, _, _]) rfl rfl fun b2 hb2 => ?_
    refine wp_norm [_] rfl ?_
    refine op_pure (pv_assign (v := .slice _ _ _) rfl) ?_
    refine xp_seq ?_
    refine xp_seq ?_
    refine xp_region rfl ?_
    refine op_pure (pv_move (v := .int .i64 _) rfl) ?_
    refine op_pure (pv_of (v := .bool _) rfl) ?_
    refine xp_condF rfl (rfl) ?_
    refine xp_skip ?_
    refine xp_seq ?_
    refine xp_region rfl ?_
    refine op_pure (pv_fieldAddr rfl rfl rfl rfl 1 rfl) ?_
    refine op_loadP 0 (v := .slice _ _ _) rfl rfl rfl rfl ?_
    refine op_pure (pv_assign (v := .slice _ _ _) rfl) ?_
    refine xp_ret ?_
    refine res_list (vs := [_]) Try.results97 ⟨resV_tmp rfl rfl, trivial⟩ fun V => ?_
    exact ⟨(ext_wl V), rfl⟩
/-- The failures of the first joints. -/
def recK (s : Season) (n : Int) (x : List Int) (k : Nat) : List (List Fl) := (List.range k).map fun i => surv s n (skyOf x) i
theorem recK_succ (s : Season) (n : Int) (x : List Int) (k : Nat) : recK s n x (k + 1) = recK s n x k ++ [surv s n (skyOf x) k] := by unfold recK; rw [List.range_succ, List.map_append]; rfl
theorem rSkK (s : Season) (n : Int) {k : Nat} (h : k < (allW s n).length) : ((allW s n).take (k + 1)).filter (fun x => okM s n (skyOf x)) = ((allW s n).take k).filter (fun x => okM s n (skyOf x)) ++ if okM s n (skyOf (allW s n)[k]) then [(allW s n)[k]] else [] := by
  rw [take_snoc h, List.filter_append]
  congr 1
  cases h2 : okM s n (skyOf (allW s n)[k]) <;> simp [h2]
theorem flat_pr_len (ps : List (Value × Value)) : (ps.flatMap prC).length = ps.length * 2 := flat_len fun x _ => prM x
theorem accR_len2 {α : Type} {R : AH → α → Value × Value → Prop} {h : AH} {e : TypeId} {ps : List (Value × Value)} {ls : List α} {a : Acc} (x : AccR e 2 (ps.flatMap prC) a) (y : RLv R h ls ps) : a.n = ls.length := by
  have h1 := AccR.len x
  rw [flat_pr_len, y.1] at h1
  omega
theorem accR_len1 {α : Type} {R : AH → α → Value → Prop} {h : AH} {e : TypeId} {vs : List Value} {ls : List α} {a : Acc} (x : AccR e 1 vs a) (y : RLv R h ls vs) : a.n = ls.length := by
  have h1 := AccR.len x
  rw [y.1] at h1
  omega
theorem rFailuresS_ok (s : Season) (SV : SeasonV s) (n : Int) (i : Nat) (hi : i < s.joints.length) (hk : s.joints[i].kind = n) (x : List Int) (hx : x.length = s.heats.length) (A0 A1 A2 A3 A : Option Addr) (c0 c1 c2 c3 c : Nat) (h : AH) (R : SeasonR h A0 A1 A2 A3 s) (RX : Row h 1 intC A x) :
    FnT Try.prog 136 #[seasonV A0 A1 A2 A3 c0 c1 c2 c3 s, .int .i64 i, .slice A x.length c] h (fun v h' => SlR h' 4 flR (surv s n (skyOf x) i) v) := by
  rw [← accF_surv (List.getElem?_eq_getElem hi) hk SV.b.w6 (fun r hr => (SV.b.rw r hr).1) hx]
  exact rFailures_ok s i hi (by have := SV.b.j3; omega) (by have := SV.b.rl; omega) (SV.b.jb _ (List.getElem_mem hi)) x (by have := SV.b.w6; omega) A0 A1 A2 A3 A c0 c1 c2 c3 c h R RX
set_option maxHeartbeats 4000000 in
theorem rSkies_ok (s : Season) (SV : SeasonV s) (n : Int) (hn : n = 1 ∨ n = 2) (A0 A1 A2 A3 : Option Addr) (c0 c1 c2 c3 : Nat) (h : AH) (R : SeasonR h A0 A1 A2 A3 s) :
    FnT Try.prog 114 #[seasonV A0 A1 A2 A3 c0 c1 c2 c3 s, .int .i64 n] h (fun v h' => SKR s n h' (rSk s n) v) := by
  have hw6 := SV.b.w6
  have hj3 := SV.b.j3
  have hwl := (SV.b.wb n).1
  have hrl : s.reports.length < 2 ^ 40 := by have := SV.b.rl; omega
  have hr0 : ∀ r ∈ s.reports, 0 ≤ r.week := fun r hr => (SV.b.rw r hr).1
  have RW : Row h 2 rgC (if n = 1 then A0 else A1) (weatherM s n) := by
    unfold weatherM
    rcases hn with rfl | rfl
    · exact R.heats
    · exact R.damps
  have hb : ∀ r ∈ weatherM s n, -1000 ≤ r.mn ∧ r.mn ≤ r.mx ∧ r.mx ≤ 1000 ∧ r.mx ≤ r.mn + 2 := fun r hr => by
    have := (SV.b.wb n).2 r hr
    exact ⟨by have := this.lo; omega, this.le, by have := this.hi; omega, by have := this.wide; omega⟩
  have hWl : (allW s n).length ≤ 729 := by
    refine Nat.le_trans (wthM_len (fun r hr => (hb r hr).2.2.2) _ _ (by simp)) ?_
    refine Nat.le_trans (Nat.pow_le_pow_right (by omega) (show (weatherM s n).length ≤ 6 by omega)) (by decide)
  refine call_body Try.func114 rfl Try.ntmps114 rfl ?_
  refine goes_more ?_
  refine goes_norm [_] rfl ?_
  refine xp_seq ?_
  refine xp_region rfl ?_
  refine op_box (v := .agg #[.slice _ _ _, .slice _ _ _, .slice _ _ _, .slice _ _ _]) (cs := [_, _, _, _]) rfl rfl fun b2 hb2 => ?_
  refine wp_norm [_, _] rfl ?_
  refine op_pure (pv_assign (v := .slice _ _ _) rfl) ?_
  refine xp_seq ?_
  refine xp_region rfl ?_
  refine op_loadPA 1 (vs := [.slice _ _ _, .slice _ _ _, .slice _ _ _, .slice _ _ _]) rfl rfl rfl rfl rfl ?_
  refine op_pure (pv_move (v := .int .i64 _) rfl) ?_
  refine op_fn (caps := []) (vs := [.agg #[.slice _ _ _, .slice _ _ _, .slice _ _ _, .slice _ _ _], .int .i64 _]) rfl rfl rfl (rRanges_ok s n hn A0 A1 A2 A3 c0 c1 c2 c3 h) ?_
  rintro _ h1 E1 rfl
  refine op_fn (caps := []) (vs := [.slice _ _ _, .slice _ _ _]) rfl rfl rfl (rWeathers_ok (weatherM s n) (by omega) hb _ _ (weatherM s n).length [] (by simp) none 0 h1 (RW.ext E1) ⟨fun _ h => (by cases h), Rd.nil _ _⟩) ?_
  rintro _ h2 E2 ⟨WA, wc, wvs, rfl, WR, WL⟩
  have hwv := WL.1
  have eW : wthM (weatherM s n) (weatherM s n).length [] = allW s n := rfl
  rw [eW] at hwv
  have hwE : (wthM (weatherM s n) (weatherM s n).length []).length = (allW s n).length := rfl
  refine op_pure (pv_assign (v := .slice _ _ _) rfl) ?_
  refine xp_seq ?_
  refine xp_region rfl ?_
  refine op_pure (pv_assign (v := .slice _ _ _) rfl) ?_
  refine xp_seq ?_
  refine xp_seq ?_
  refine xp_region rfl ?_
  refine op_pure (pv_assign (v := .int .i64 _) rfl) ?_
  refine xp_block ?_
  refine xp_loopL [6, 7, 8, 9, 10, 11, 16, 17, 18, 19, 20, 21, 22, 23, 24, 25, 26, 27, 28, 29, 30, 31, 32, 33, 34, 35, 36, 37, 38, 39, 40, 41, 42, 43, 44, 45, 46, 47, 48, 49, 50, 51, 52, 53, 54, 55, 56, 57, 58, 59, 60, 61, 62, 63, 64, 65] 2 (α := Nat × Acc × List (Value × Value)) (fun ⟨k, a, ps⟩ => [(7, .int .i64 k), (6, .slice a.A a.n a.c)]) (fun ⟨k, a, ps⟩ L => L.set 0 (a.p)) (fun ⟨k, a, ps⟩ h_k => k ≤ (allW s n).length ∧ AccR 154 2 (ps.flatMap prC) a ∧ RLv (SkP s n) h_k (((allW s n).take k).filter fun x => okM s n (skyOf x)) ps) (fun ⟨k, a, ps⟩ => (allW s n).length - k) ((0, acc0, [])) ⟨rfl, rfl, trivial⟩ (rfl) (⟨Nat.zero_le _, accR0, by simpa using RLv.nil⟩) ?_
  rintro ⟨k, a, ps⟩ T1 h_k E_k J_k
  refine goes_norm [_, _] rfl ?_
  obtain ⟨K1, K2, K3⟩ := J_k
  have hps : ps.length ≤ 729 := by
    rw [K3.1]
    exact Nat.le_trans (List.length_filter_le _ _) (by rw [List.length_take]; omega)
  refine xp_seq ?_
  refine xp_seq ?_
  refine xp_region rfl ?_
  refine op_pure (pv_move (v := .int .i64 _) rfl) ?_
  refine op_pure (pv_move (v := .slice _ _ _) rfl) ?_
  refine op_pure (pv_len rfl rfl) ?_
  refine op_pure (pv_of (v := .bool _) rfl) ?_
  refine xp_cond rfl (fun hk => ?_) (fun hk => ?_)
  · skip
    have hkl : k < (allW s n).length := by have := ltI hk; omega
    have hkv : k < wvs.length := by omega
    refine goes_more ?_
    refine goes_norm [_, _, _] rfl ?_
    obtain ⟨x, ex⟩ : ∃ x, x = (allW s n)[k] := ⟨_, rfl⟩
    have hxl : x.length = s.heats.length := by
      have := wth_len _ _ _ (show x ∈ wthM (weatherM s n) (weatherM s n).length [] from ex ▸ List.getElem_mem hkl)
      simpa [hwl] using this
    obtain ⟨gR, oR, hRA, hcR⟩ := (WR.ext E_k).at (by omega) hkv
    obtain ⟨A', c', hv, R'⟩ := WL.2 k x _ (by rw [eW, ex]; exact List.getElem?_eq_getElem hkl) (List.getElem?_eq_getElem hkv)
    have hcR0 : cellA h_k ⟨gR, oR + k * 1 + 0, none⟩ = some (.slice A' x.length c') := hcR 0 _ (by rw [hv]; rfl)
    refine xp_skip ?_
    refine xp_seq ?_
    refine xp_block ?_
    refine xp_seq ?_
    refine xp_region rfl ?_
    refine op_pure (pv_move (v := .slice _ _ _) rfl) ?_
    refine op_pure (pv_move (v := .int .i64 _) rfl) ?_
    refine op_pure (pv_indexE rfl hRA rfl rfl rfl (by omega) (by omega)) ?_
    refine op_load (v := .slice _ _ _) rfl rfl hcR0 ?_
    refine op_pure (pv_build (zc := [_, _]) (vs := [(0, .slice _ _ _)]) (cs := [_, _]) rfl rfl rfl rfl rfl rfl) ?_
    refine op_alloc (cs := [_, _]) rfl rfl fun b8 hb8 => ?_
    refine wp_norm [_, _, _, _] rfl ?_
    refine op_storeP 3 (v := .agg #[.slice _ _ _, .slice _ _ _]) (vs := [_, _]) (c' := [_, _]) rfl rfl rfl rfl rfl rfl rfl rfl rfl ?_
    refine wp_norm [_, _, _, _] rfl ?_
    refine xp_seq ?_
    refine xp_region rfl ?_
    refine op_pure (pv_assign (v := .bool _) rfl) ?_
    refine xp_seq ?_
    refine xp_seq ?_
    refine xp_region rfl ?_
    refine op_pure (pv_assign (v := .int .i64 _) rfl) ?_
    refine xp_block ?_
    refine xp_loopL [9, 10, 11, 27, 28, 29, 30, 31, 32, 33, 34, 35, 36, 37, 38, 39, 40, 41, 42, 43, 44, 45, 46, 47, 48, 49, 50, 51, 52, 53, 54, 55, 56, 57, 58, 59, 60] 4 (α := Nat × Acc × List Value) (fun ⟨j, f, vs⟩ => [(9, .bool (okP s n x j)), (10, .int .i64 j)]) (fun ⟨j, f, vs⟩ L => (L.set 3 (some (b8, .cells #[.slice A' x.length c', .slice f.A f.n f.c] 154 (0, 0)))).set 2 (f.p)) (fun ⟨j, f, vs⟩ h_j => j ≤ s.joints.length ∧ AccR 117 1 vs f ∧ RLv (fun h l v => SlR h 4 flR l v) h_j (recK s n x j) vs) (fun ⟨j, f, vs⟩ => s.joints.length - j) ((0, acc0, [])) ⟨rfl, rfl, trivial⟩ (rfl) (⟨Nat.zero_le _, accR0, RLv.nil⟩) ?_
    rintro ⟨j, f, vs⟩ T2 h_j E_j J_j
    refine goes_norm [_, _, _, _] rfl ?_
    obtain ⟨J1, J2, J3⟩ := J_j
    have hvs : vs.length = j := by rw [J3.1]; simp [recK]
    refine xp_seq ?_
    refine xp_seq ?_
    refine xp_region rfl ?_
    refine op_pure (pv_move (v := .int .i64 _) rfl) ?_
    refine op_pure (pv_fieldAddr rfl rfl rfl rfl 2 rfl) ?_
    refine op_loadP 1 (v := .slice _ _ _) rfl rfl rfl rfl ?_
    refine op_pure (pv_len rfl rfl) ?_
    refine op_pure (pv_of (v := .bool _) rfl) ?_
    refine xp_cond rfl (fun hj => ?_) (fun hj => ?_)
    · skip
      have hjl : j < s.joints.length := by have := ltI hj; omega
      have hat : s.joints[j]? = some s.joints[j] := List.getElem?_eq_getElem hjl
      obtain ⟨g, off, hB, hc⟩ := (R.joints.ext (Ext.trans (Ext.trans (Ext.trans E1 E2) E_k) E_j)).at (by omega) hjl
      refine xp_skip ?_
      refine xp_seq ?_
      refine xp_block ?_
      refine xp_seq ?_
      refine xp_region rfl ?_
      refine op_pure (pv_assign (v := .slice _ _ _) rfl) ?_
      refine xp_seq ?_
      refine xp_seq ?_
      refine xp_region rfl ?_
      refine op_pure (pv_fieldAddr rfl rfl rfl rfl 2 rfl) ?_
      refine op_loadP 1 (v := .slice _ _ _) rfl rfl rfl rfl ?_
      refine op_pure (pv_move (v := .int .i64 _) rfl) ?_
      refine op_pure (pv_indexE rfl hB rfl rfl rfl (by omega) (by omega)) ?_
      refine op_pure (pv_fieldAddr rfl rfl rfl rfl _ rfl) ?_
      refine op_load (v := .int .i64 _) rfl rfl ((hc) 0 _ rfl) ?_
      refine op_pure (pv_move (v := .int .i64 _) rfl) ?_
      refine op_pure (pv_of (v := .bool _) rfl) ?_
      refine xp_cond rfl (fun hk2 => ?_) (fun hk2 => ?_)
      · skip
        have hkd : s.joints[j].kind = n := of_decide_eq_true hk2
        have hka : kindAt s j = n := by rw [kindAt_some hat]; exact hkd
        refine xp_seq ?_
        refine xp_dw [] rfl rfl rfl ?_
        refine dw_load (i := 0) rfl (by decide +kernel) ?_
        refine op_loadPA 1 (vs := [.slice _ _ _, .slice _ _ _, .slice _ _ _, .slice _ _ _]) rfl rfl rfl rfl rfl ?_
        refine dw_pure (i := 1) rfl (by decide +kernel) (pv_move (v := .int .i64 _) rfl) ?_
        refine dw_pure (i := 2) rfl (by decide +kernel) (pv_move (v := .slice _ _ _) rfl) ?_
        refine dw_pure (i := 3) rfl (by decide +kernel) (pv_move (v := .int .i64 _) rfl) ?_
        refine dw_pure (i := 4) rfl (by decide +kernel) (pv_indexE rfl hRA rfl rfl rfl (by omega) (by omega)) ?_
        refine dw_load (i := 5) rfl (by decide +kernel) ?_
        refine op_load (v := .slice A' x.length c') rfl rfl ((hcR.ext E_j) 0 _ (by rw [hv]; rfl)) ?_
        refine dw_last (i := 6) rfl (by decide +kernel) (by decide +kernel) ?_
        refine op_fn (caps := []) (vs := [.agg #[.slice _ _ _, .slice _ _ _, .slice _ _ _, .slice _ _ _], .int .i64 _, .slice _ _ _]) rfl rfl rfl (rFailuresS_ok s SV n j hjl hkd x hxl A0 A1 A2 A3 A' c0 c1 c2 c3 c' h_j (R.ext (Ext.trans (Ext.trans (Ext.trans E1 E2) E_k) E_j)) (R'.ext (Ext.trans E_k E_j))) ?_
        rintro _ h5 E5 ⟨FA, fc, rfl, FR⟩
        refine dw_pure (i := 7) rfl (by decide +kernel) (pv_assign (v := .slice _ _ _) rfl) ?_
        refine dw_end rfl ?_
        refine xp_region rfl ?_
        refine op_pure (pv_move (v := .bool _) rfl) ?_
        refine op_pure (pv_move (v := .bool _) rfl) ?_
        rcases Bool.eq_false_or_eq_true (okP s n x j) with e | e
        · skip
          refine guard_yes rfl e ?_
          refine op_pure (pv_move (v := .slice _ _ _) rfl) ?_
          refine guard_yes rfl e ?_
          refine op_pure (pv_len rfl rfl) ?_
          refine guard_yes rfl e ?_
          refine op_pure (pv_of (v := .bool _) rfl) ?_
          refine op_pure (pv_pickT rfl e (v := .bool _) rfl) ?_
          refine op_pure (pv_assign (v := .bool _) rfl) ?_
          refine xp_region rfl ?_
          refine op_pure (pv_fieldAddr rfl rfl rfl rfl 1 rfl) ?_
          refine op_loadP 3 (v := .slice _ _ _) rfl rfl rfl rfl ?_
          refine op_pure (pv_move (v := .slice _ _ _) rfl) ?_
          refine op_buildSlice (zc := [_]) (vs := [(0, .slice _ _ _)]) (cs := [_]) rfl rfl rfl rfl rfl rfl rfl fun b58 hb58 => ?_
          refine wp_norm [_, _, _, _, _] rfl ?_
          refine op_appendR 2 J2 rfl rfl rfl (fun V => rdP V (i := 4) rfl) rfl rfl rfl rfl rfl rfl rfl rfl rfl (by omega) rfl (by simp; omega) fun f2 h3a E3a hf2 => ?_
          refine wp_norm [_, _, _, _, _] rfl ?_
          refine op_pure (pv_fieldAddr rfl rfl rfl rfl 1 rfl) ?_
          refine op_storeP 3 (v := .slice _ _ _) (vs := [_]) (c' := [_, _]) rfl rfl rfl rfl rfl rfl rfl rfl rfl ?_
          refine wp_norm [_, _, _, _, _] rfl ?_
          refine xp_region rfl ?_
          refine op_pure (pv_move (v := .int .i64 _) rfl) ?_
          refine op_pure (pv_arith rfl (by omega)) ?_
          refine op_pure (pv_assign (v := .int .i64 _) rfl) ?_
          refine ⟨(j + 1, f2, vs ++ [.slice FA (surv s n (skyOf x) j).length fc]), ⟨(by rw [okP_succ, e, hka]; simp; rfl), rfl, trivial⟩, rfl, rfl, (Ext.trans (Ext.trans E_j E5) E3a), fun h3 E3 => ⟨hjl, hf2, by rw [recK_succ]; exact flx ((flx J3 (Ext.trans E5 E3a)).snoc ⟨FA, fc, rfl, FR.ext E3a⟩) E3⟩, by first | omega | (dsimp only; omega), ?_⟩
          repeat (first | exact off_base _ _ _ | refine off_upd (by decide) ?_ | refine off_updL rfl ?_ | refine off_mix rfl ?_)
        · skip
          refine guard_no rfl e ?_
          refine guard_no rfl e ?_
          refine guard_no rfl e ?_
          refine op_pure (pv_pickF rfl e (v := .bool _) rfl) ?_
          refine op_pure (pv_assign (v := .bool _) rfl) ?_
          refine xp_region rfl ?_
          refine op_pure (pv_fieldAddr rfl rfl rfl rfl 1 rfl) ?_
          refine op_loadP 3 (v := .slice _ _ _) rfl rfl rfl rfl ?_
          refine op_pure (pv_move (v := .slice _ _ _) rfl) ?_
          refine op_buildSlice (zc := [_]) (vs := [(0, .slice _ _ _)]) (cs := [_]) rfl rfl rfl rfl rfl rfl rfl fun b58_1 hb58_1 => ?_
          refine wp_norm [_, _, _, _, _] rfl ?_
          refine op_appendR 2 J2 rfl rfl rfl (fun V => rdP V (i := 4) rfl) rfl rfl rfl rfl rfl rfl rfl rfl rfl (by omega) rfl (by simp; omega) fun f2 h4a E4a hf2 => ?_
          refine wp_norm [_, _, _, _, _] rfl ?_
          refine op_pure (pv_fieldAddr rfl rfl rfl rfl 1 rfl) ?_
          refine op_storeP 3 (v := .slice _ _ _) (vs := [_]) (c' := [_, _]) rfl rfl rfl rfl rfl rfl rfl rfl rfl ?_
          refine wp_norm [_, _, _, _, _] rfl ?_
          refine xp_region rfl ?_
          refine op_pure (pv_move (v := .int .i64 _) rfl) ?_
          refine op_pure (pv_arith rfl (by omega)) ?_
          refine op_pure (pv_assign (v := .int .i64 _) rfl) ?_
          refine ⟨(j + 1, f2, vs ++ [.slice FA (surv s n (skyOf x) j).length fc]), ⟨(by rw [okP_succ, e]; rfl), rfl, trivial⟩, rfl, rfl, (Ext.trans (Ext.trans E_j E5) E4a), fun h3 E3 => ⟨hjl, hf2, by rw [recK_succ]; exact flx ((flx J3 (Ext.trans E5 E4a)).snoc ⟨FA, fc, rfl, FR.ext E4a⟩) E3⟩, by first | omega | (dsimp only; omega), ?_⟩
          repeat (first | exact off_base _ _ _ | refine off_upd (by decide) ?_ | refine off_updL rfl ?_ | refine off_mix rfl ?_)
      · skip
        have hkd : s.joints[j].kind ≠ n := of_decide_eq_false hk2
        have hka : kindAt s j ≠ n := by rw [kindAt_some hat]; exact hkd
        refine xp_skip ?_
        refine xp_region rfl ?_
        refine op_pure (pv_fieldAddr rfl rfl rfl rfl 1 rfl) ?_
        refine op_loadP 3 (v := .slice _ _ _) rfl rfl rfl rfl ?_
        refine op_pure (pv_move (v := .slice _ _ _) rfl) ?_
        refine op_buildSlice (zc := [_]) (vs := [(0, .slice _ _ _)]) (cs := [_]) rfl rfl rfl rfl rfl rfl rfl fun b58_2 hb58_2 => ?_
        refine wp_norm [_, _, _, _, _] rfl ?_
        refine op_appendR 2 J2 rfl rfl rfl (fun V => rdP V (i := 4) rfl) rfl rfl rfl rfl rfl rfl rfl rfl rfl (by omega) rfl (by simp; omega) fun f2 h5a E5a hf2 => ?_
        refine wp_norm [_, _, _, _, _] rfl ?_
        refine op_pure (pv_fieldAddr rfl rfl rfl rfl 1 rfl) ?_
        refine op_storeP 3 (v := .slice _ _ _) (vs := [_]) (c' := [_, _]) rfl rfl rfl rfl rfl rfl rfl rfl rfl ?_
        refine wp_norm [_, _, _, _, _] rfl ?_
        refine xp_region rfl ?_
        refine op_pure (pv_move (v := .int .i64 _) rfl) ?_
        refine op_pure (pv_arith rfl (by omega)) ?_
        refine op_pure (pv_assign (v := .int .i64 _) rfl) ?_
        refine ⟨(j + 1, f2, vs ++ [.slice none 0 0]), ⟨(by rw [okP_other hka]; rfl), rfl, trivial⟩, rfl, rfl, (Ext.trans E_j E5a), fun h3 E3 => ⟨hjl, hf2, by rw [recK_succ, surv_other hka]; exact flx ((flx J3 E5a).snoc ⟨none, 0, rfl, fun _ h => (by cases h), Rd.nil _ _⟩) E3⟩, by first | omega | (dsimp only; omega), ?_⟩
        repeat (first | exact off_base _ _ _ | refine off_upd (by decide) ?_ | refine off_updL rfl ?_ | refine off_mix rfl ?_)
    · skip
      have hje : j = s.joints.length := by have := geI hj; omega
      subst hje
      have hnf := accR_len1 J2 J3
      obtain ⟨pf, fA, fn, fc⟩ := f
      dsimp only at hnf
      subst hnf
      dsimp only
      refine goes_pubO 2 rfl ?_
      intro gf Gf Pf
      refine goes_norm [_, _, _, _] rfl ?_
      have RFL : FLR gf (recF s n x) (.slice fA (recK s n x s.joints.length).length fc) := ⟨fA, fc, vs, rfl, ⟨fun _ _ => rfl, by rw [flat_fn]; exact AccR.rd J2 Pf⟩, flx J3 Gf⟩
      rw [okP_all]
      refine xp_exit ?_
      refine xp_seq ?_
      refine xp_region rfl ?_
      refine op_pure (pv_move (v := .bool _) rfl) ?_
      refine xp_cond rfl (fun hf => ?_) (fun hf => ?_)
      · skip
        refine xp_region rfl ?_
        refine op_pure (pv_move (v := .slice _ _ _) rfl) ?_
        refine op_loadPA 3 (vs := [.slice _ _ _, .slice _ _ _]) rfl rfl rfl rfl rfl ?_
        refine op_buildSlice (zc := [_, _]) (vs := [(0, .agg #[.slice _ _ _, .slice _ _ _])]) (cs := [_, _]) rfl rfl rfl rfl rfl rfl rfl fun b64 hb64 => ?_
        refine wp_norm [_, _, _, _, _] rfl ?_
        refine op_appendR 0 K2 rfl rfl rfl (fun V => rdP V (i := 4) rfl) rfl rfl rfl rfl rfl rfl rfl rfl rfl (by omega) rfl (by rw [flat_pr_len]; simp; omega) fun a2 h6a E6a ha2 => ?_
        refine wp_norm [_, _, _, _, _] rfl ?_
        refine op_pure (pv_assign (v := .slice _ _ _) rfl) ?_
        refine xp_region rfl ?_
        refine op_pure (pv_move (v := .int .i64 _) rfl) ?_
        refine op_pure (pv_arith rfl (by omega)) ?_
        refine op_pure (pv_assign (v := .int .i64 _) rfl) ?_
        refine ⟨(k + 1, a2, ps ++ [(.slice A' x.length c', .slice fA (recK s n x s.joints.length).length fc)]), ⟨rfl, rfl, trivial⟩, rfl, rfl, (Ext.trans (Ext.trans (Ext.trans E_k E_j) Gf) E6a), fun h3 E3 => ⟨hkl, by rw [List.flatMap_append]; exact ha2, by rw [rSkK s n hkl, ← ex, if_pos hf]; exact skx ((skx K3 (Ext.trans (Ext.trans E_j Gf) E6a)).snoc ⟨⟨A', c', rfl, R'.ext (Ext.trans (Ext.trans (Ext.trans E_k E_j) Gf) E6a)⟩, RFL.ext E6a⟩) E3⟩, by first | omega | (dsimp only; omega), ?_⟩
        repeat (first | exact off_base _ _ _ | refine off_upd (by decide) ?_ | refine off_updL rfl ?_ | refine off_mix rfl ?_)
      · skip
        refine xp_skip ?_
        refine xp_region rfl ?_
        refine op_pure (pv_move (v := .int .i64 _) rfl) ?_
        refine op_pure (pv_arith rfl (by omega)) ?_
        refine op_pure (pv_assign (v := .int .i64 _) rfl) ?_
        refine ⟨(k + 1, a, ps), ⟨rfl, rfl, trivial⟩, rfl, rfl, (Ext.trans (Ext.trans E_k E_j) Gf), fun h3 E3 => ⟨hkl, K2, by rw [rSkK s n hkl, ← ex, if_neg (by rw [hf]; decide), List.append_nil]; exact skx (skx K3 (Ext.trans E_j Gf)) E3⟩, by first | omega | (dsimp only; omega), ?_⟩
        repeat (first | exact off_base _ _ _ | refine off_upd (by decide) ?_ | refine off_updL rfl ?_ | refine off_mix rfl ?_)
  · skip
    have hke : k = (allW s n).length := by have := geI hk; omega
    subst hke
    rw [List.take_length] at K3
    have hno := accR_len2 K2 K3
    obtain ⟨pO, AO, nO, cO⟩ := a
    dsimp only at hno
    subst hno
    dsimp only
    refine goes_pubO 0 rfl ?_
    intro g G P
    refine goes_norm [_, _] rfl ?_
    refine xp_exit ?_
    refine xp_seq ?_
    refine xp_region rfl ?_
    refine op_pure (pv_move (v := .slice _ _ _) rfl) ?_
    refine op_pure (pv_assign (v := .slice _ _ _) rfl) ?_
    refine xp_ret ?_
    refine res_list (vs := [_]) Try.results114 ⟨resV_tmp rfl rfl, trivial⟩ fun V => ?_
    exact ⟨(Ext.trans (Ext.trans (Ext.trans (Ext.trans E1 E2) E_k) G) (ext_wl V)), AO, cO, ps, rfl, ⟨fun _ _ => rfl, (AccR.rd K2 P).ext (ext_wl V)⟩, skx K3 (Ext.trans G (ext_wl V))⟩
end Go.Proofs.Ytndfkbapoinmkaa
/- Walks: what the reference knows of a season. Conditions: as each theorem states. -/
namespace Go.Proofs.Ytndfkbapoinmkaa
open Go Go.HL Go.Proofs Go.Wx
set_option maxRecDepth 100000
set_option maxHeartbeats 1000000 in
theorem rMay_ok (s : Season) (SV : SeasonV s) (A0 A1 A2 A3 : Option Addr) (c0 c1 c2 c3 : Nat) (h : AH) (R : SeasonR h A0 A1 A2 A3 s) :
    FnT Try.prog 83 #[seasonV A0 A1 A2 A3 c0 c1 c2 c3 s] h (fun v _ => v = .bool (mayM s)) := by
  have hw6 := SV.b.w6
  have em := rMay (s := s) (by rw [(SV.b.wb 1).1]; exact hw6) (by rw [(SV.b.wb 2).1]; exact hw6)
  have i1 : decide (((rSk s 1).length : Int) > 0) = decide (0 < (rSk s 1).length) := by rw [Bool.eq_iff_iff]; simp
  have i2 : decide (((rSk s 2).length : Int) > 0) = decide (0 < (rSk s 2).length) := by rw [Bool.eq_iff_iff]; simp
  rw [em]
  refine call_body Try.func83 rfl Try.ntmps83 rfl ?_
  refine xp_seq ?_
  refine xp_region rfl ?_
  refine op_box (v := .agg #[.slice _ _ _, .slice _ _ _, .slice _ _ _, .slice _ _ _]) (cs := [_, _, _, _]) rfl rfl fun b1 hb1 => ?_
  refine wp_norm [_] rfl ?_
  refine op_pure (pv_assign (v := .bool _) rfl) ?_
  refine xp_seq ?_
  refine xp_region rfl ?_
  refine op_loadPA 0 (vs := [.slice _ _ _, .slice _ _ _, .slice _ _ _, .slice _ _ _]) rfl rfl rfl rfl rfl ?_
  refine op_fn (caps := []) (vs := [.agg #[.slice _ _ _, .slice _ _ _, .slice _ _ _, .slice _ _ _], .int .i64 _]) rfl rfl rfl (rSkies_ok s SV 1 (.inl rfl) A0 A1 A2 A3 c0 c1 c2 c3 h (R.ext (Ext.refl _))) ?_
  rintro _ h1 E1 ⟨B1, d1, ps1, rfl, _, _⟩
  refine op_pure (pv_len rfl rfl) ?_
  refine op_pure (pv_of (v := .bool _) rfl) ?_
  refine op_pure (pv_move (v := .bool _) rfl) ?_
  rcases Bool.eq_false_or_eq_true (decide (((rSk s 1).length : Int) > 0)) with e | e
  · skip
    refine guard_yes rfl e ?_
    refine op_loadPA 0 (vs := [.slice _ _ _, .slice _ _ _, .slice _ _ _, .slice _ _ _]) rfl rfl rfl rfl rfl ?_
    refine guard_yes rfl e ?_
    refine op_fn (caps := []) (vs := [.agg #[.slice _ _ _, .slice _ _ _, .slice _ _ _, .slice _ _ _], .int .i64 _]) rfl rfl rfl (rSkies_ok s SV 2 (.inr rfl) A0 A1 A2 A3 c0 c1 c2 c3 h1 (R.ext E1)) ?_
    rintro _ h2 E2 ⟨B2, d2, ps2, rfl, _, _⟩
    refine guard_yes rfl e ?_
    refine op_pure (pv_len rfl rfl) ?_
    refine guard_yes rfl e ?_
    refine op_pure (pv_of (v := .bool _) rfl) ?_
    refine op_pure (pv_pickT rfl e (v := .bool _) rfl) ?_
    refine op_pure (pv_assign (v := .bool _) rfl) ?_
    refine xp_ret ?_
    refine res_list (vs := [_]) Try.results83 ⟨resV_tmp rfl rfl, trivial⟩ fun V => ?_
    exact ⟨(Ext.trans (Ext.trans E1 E2) (ext_wl V)), by rw [← i1, e, ← i2]; rfl⟩
  · skip
    refine guard_no rfl e ?_
    refine guard_no rfl e ?_
    refine guard_no rfl e ?_
    refine guard_no rfl e ?_
    refine op_pure (pv_pickF rfl e (v := .bool _) rfl) ?_
    refine op_pure (pv_assign (v := .bool _) rfl) ?_
    refine xp_ret ?_
    refine res_list (vs := [_]) Try.results83 ⟨resV_tmp rfl rfl, trivial⟩ fun V => ?_
    exact ⟨(Ext.trans E1 (ext_wl V)), by rw [← i1, e]; rfl⟩
def allK (s : Season) (n : Int) (i k : Nat) : List Fl := ((rSk s n).take k).flatMap fun x => surv s n (skyOf x) i
theorem allK_succ {s : Season} {n : Int} {i k : Nat} (h : k < (rSk s n).length) : allK s n i (k + 1) = allK s n i k ++ surv s n (skyOf (rSk s n)[k]) i := by
  unfold allK; rw [take_snoc h, List.flatMap_append]; simp
theorem rSk_len729 {s : Season} (SV : SeasonV s) (n : Int) : (rSk s n).length ≤ 729 := by
  have h6 := SV.b.w6
  have hwl := (SV.b.wb n).1
  have := congrArg List.length (rSk_map (s := s) (n := n) (by omega))
  rw [List.length_map] at this
  rw [this]
  exact Nat.le_trans (List.length_filter_le _ _) (by rw [List.take_length]; exact allSkies_len SV.b n)
theorem allK_len {s : Season} (SV : SeasonV s) (n : Int) (i k : Nat) : (allK s n i k).length ≤ 393660 := by
  have h1 := flatMap_len (fun x => surv s n (skyOf x) i) 540 ((rSk s n).take k) fun x _ => surv_len SV.b.jb
  have h2 := rSk_len729 SV n
  rw [List.length_take] at h1
  have : min k (rSk s n).length ≤ 729 := by omega
  exact Nat.le_trans h1 (Nat.le_trans (Nat.mul_le_mul_right 540 this) (by decide))
set_option maxHeartbeats 2000000 in
theorem rAll_ok (s : Season) (SV : SeasonV s) (i : Nat) (hi : i < s.joints.length) (A0 A1 A2 A3 : Option Addr) (c0 c1 c2 c3 : Nat) (h : AH) (R : SeasonR h A0 A1 A2 A3 s) :
    FnT Try.prog 84 #[seasonV A0 A1 A2 A3 c0 c1 c2 c3 s, .int .i64 i] h (fun v h' => SlR h' 4 flR (flsM s (kindAt s i) i) v) := by
  have hw6 := SV.b.w6
  have hj3 := SV.b.j3
  obtain ⟨n, en⟩ : ∃ n, n = s.joints[i].kind := ⟨_, rfl⟩
  have hka : kindAt s i = n := by rw [kindAt_some (List.getElem?_eq_getElem hi), en]
  have hn : n = 1 ∨ n = 2 := by rw [en]; exact SV.kinds _ (List.getElem_mem hi)
  have hwl := (SV.b.wb n).1
  have hS := rSk_len729 SV n
  obtain ⟨g, off, hB, hc⟩ := R.joints.at (by omega) hi
  rw [hka, rSk_fls (by omega)]
  refine call_body Try.func84 rfl Try.ntmps84 rfl ?_
  refine goes_more ?_
  refine goes_norm [_] rfl ?_
  refine xp_seq ?_
  refine xp_region rfl ?_
  refine op_box (v := .agg #[.slice _ _ _, .slice _ _ _, .slice _ _ _, .slice _ _ _]) (cs := [_, _, _, _]) rfl rfl fun b2 hb2 => ?_
  refine wp_norm [_, _] rfl ?_
  refine op_pure (pv_assign (v := .slice _ _ _) rfl) ?_
  refine xp_seq ?_
  refine xp_dw [] rfl rfl rfl ?_
  refine dw_load (i := 0) rfl (by decide +kernel) ?_
  refine op_loadPA 1 (vs := [.slice _ _ _, .slice _ _ _, .slice _ _ _, .slice _ _ _]) rfl rfl rfl rfl rfl ?_
  refine dw_pure (i := 1) rfl (by decide +kernel) (pv_fieldAddr rfl rfl rfl rfl 2 rfl) ?_
  refine dw_load (i := 2) rfl (by decide +kernel) ?_
  refine op_loadP 1 (v := .slice _ _ _) rfl rfl rfl rfl ?_
  refine dw_pure (i := 3) rfl (by decide +kernel) (pv_move (v := .int .i64 _) rfl) ?_
  refine dw_pure (i := 4) rfl (by decide +kernel) (pv_indexE rfl hB rfl rfl rfl (by omega) (by omega)) ?_
  refine dw_pure (i := 5) rfl (by decide +kernel) (pv_fieldAddr rfl rfl rfl rfl _ rfl) ?_
  refine dw_load (i := 6) rfl (by decide +kernel) ?_
  refine op_load (v := .int .i64 n) rfl rfl (by rw [en]; exact (hc.ext (Ext.refl _)) 0 _ rfl) ?_
  refine dw_last (i := 7) rfl (by decide +kernel) (by decide +kernel) ?_
  refine op_fn (caps := []) (vs := [.agg #[.slice _ _ _, .slice _ _ _, .slice _ _ _, .slice _ _ _], .int .i64 _]) rfl rfl rfl (rSkies_ok s SV n hn A0 A1 A2 A3 c0 c1 c2 c3 h (R.ext (Ext.refl _))) ?_
  rintro _ h1 E1 ⟨B, d, ps, rfl, RA, RB⟩
  have hpl := RB.1
  refine dw_pure (i := 8) rfl (by decide +kernel) (pv_assign (v := .slice _ _ _) rfl) ?_
  refine dw_end rfl ?_
  refine xp_seq ?_
  refine xp_region rfl ?_
  refine op_pure (pv_assign (v := .slice _ _ _) rfl) ?_
  refine xp_seq ?_
  refine xp_seq ?_
  refine xp_region rfl ?_
  refine op_pure (pv_assign (v := .int .i64 _) rfl) ?_
  refine xp_block ?_
  refine xp_loopL [6, 7, 16, 17, 18, 19, 20, 21, 22, 23, 24, 25, 26, 27, 28, 29, 30, 31] 2 (α := Nat × Acc) (fun ⟨k, a⟩ => [(6, .slice a.A a.n a.c), (7, .int .i64 k)]) (fun ⟨k, a⟩ L => L.set 0 (a.p)) (fun ⟨k, a⟩ h_k => k ≤ (rSk s n).length ∧ AccR 121 4 ((allK s n i k).flatMap flR) a) (fun ⟨k, a⟩ => (rSk s n).length - k) ((0, acc0)) ⟨rfl, rfl, trivial⟩ (rfl) (⟨Nat.zero_le _, accR0⟩) ?_
  rintro ⟨k, a⟩ T1 h_k E_k J_k
  refine goes_norm [_, _] rfl ?_
  obtain ⟨K1, K2⟩ := J_k
  have hal := allK_len SV n i k
  refine xp_seq ?_
  refine xp_seq ?_
  refine xp_region rfl ?_
  refine op_pure (pv_move (v := .int .i64 _) rfl) ?_
  refine op_pure (pv_move (v := .slice _ _ _) rfl) ?_
  refine op_pure (pv_len rfl rfl) ?_
  refine op_pure (pv_of (v := .bool _) rfl) ?_
  refine xp_cond rfl (fun hk => ?_) (fun hk => ?_)
  · skip
    have hkl : k < (rSk s n).length := ltI hk
    have hkp : k < ps.length := by omega
    obtain ⟨gS, oS, hSA, hcS⟩ := (RA.ext E_k).at (by omega) hkp
    obtain ⟨_, AF, cF, vF, eF, RF, LF⟩ := RB.2 k _ _ (List.getElem?_eq_getElem hkl) (List.getElem?_eq_getElem hkp)
    have hvF : vF.length = s.joints.length := by rw [LF.1, recF_len]
    obtain ⟨gF, oF, hFA, hcF⟩ := (RF.ext E_k).at (by omega) (show i < vF.length by omega)
    obtain ⟨AG, cG, eG, RG⟩ := LF.2 i _ _ (recF_get hi) (List.getElem?_eq_getElem (show i < vF.length by omega))
    have hsl := surv_len (s := s) (n := n) (x := skyOf (rSk s n)[k]) (k := i) SV.b.jb
    refine xp_skip ?_
    refine xp_seq ?_
    refine xp_block ?_
    refine xp_region rfl ?_
    refine op_pure (pv_move (v := .slice _ _ _) rfl) ?_
    refine op_pure (pv_move (v := .slice _ _ _) rfl) ?_
    refine op_pure (pv_move (v := .int .i64 _) rfl) ?_
    refine op_pure (pv_indexE rfl hSA rfl rfl rfl (by omega) (by omega)) ?_
    refine op_pure (pv_fieldAddr rfl rfl rfl rfl _ rfl) ?_
    refine op_load (v := .slice AF (recF s n (rSk s n)[k]).length cF) rfl rfl (hcS 1 _ (by rw [← eF]; rfl)) ?_
    refine op_pure (pv_move (v := .int .i64 _) rfl) ?_
    refine op_pure (pv_indexE rfl hFA rfl rfl rfl (by omega) (by rw [recF_len]; omega)) ?_
    refine op_load (v := .slice AG (surv s n (skyOf (rSk s n)[k]) i).length cG) rfl rfl (hcF 0 _ (by rw [eG]; rfl)) ?_
    refine op_appendR 0 K2 rfl rfl rfl (fun V => RG.2.ext (Ext.trans E_k (ext_wl V))) (flat_len RG.1) (flat_plain (fun _ => rfl) _) rfl rfl rfl rfl rfl rfl rfl (by omega) rfl (by rw [flat_len (m := 4) (fun _ _ => rfl), flat_len (m := 4) (fun _ _ => rfl)]; omega) fun a2 h2a E2a ha2 => ?_
    refine wp_norm [_, _] rfl ?_
    refine op_pure (pv_assign (v := .slice _ _ _) rfl) ?_
    refine xp_region rfl ?_
    refine op_pure (pv_move (v := .int .i64 _) rfl) ?_
    refine op_pure (pv_arith rfl (by omega)) ?_
    refine op_pure (pv_assign (v := .int .i64 _) rfl) ?_
    refine ⟨(k + 1, a2), ⟨rfl, rfl, trivial⟩, rfl, rfl, (Ext.trans E_k E2a), fun h3 E3 => ⟨hkl, by rw [allK_succ hkl, List.flatMap_append]; exact ha2⟩, by first | omega | (dsimp only; omega), ?_⟩
    repeat (first | exact off_base _ _ _ | refine off_upd (by decide) ?_ | refine off_updL rfl ?_ | refine off_mix rfl ?_)
  · skip
    have hke : k = (rSk s n).length := by have := geI hk; omega
    subst hke
    have eA : allK s n i (rSk s n).length = (rSk s n).flatMap fun x => surv s n (skyOf x) i := by unfold allK; rw [List.take_length]
    rw [eA] at K2
    obtain ⟨pO, AO, nO, cO⟩ := a
    obtain rfl : nO = ((rSk s n).flatMap fun x => surv s n (skyOf x) i).length := by have := AccR.len K2; rw [flat_len (m := 4) (fun _ _ => rfl)] at this; dsimp only at *; omega
    dsimp only
    refine goes_pubO 0 rfl ?_
    intro gO GO PO
    refine goes_norm [_, _] rfl ?_
    refine xp_exit ?_
    refine xp_seq ?_
    refine xp_region rfl ?_
    refine op_pure (pv_move (v := .slice _ _ _) rfl) ?_
    refine op_pure (pv_assign (v := .slice _ _ _) rfl) ?_
    refine xp_ret ?_
    refine res_list (vs := [_]) Try.results84 ⟨resV_tmp rfl rfl, trivial⟩ fun V => ?_
    exact ⟨(Ext.trans (Ext.trans (Ext.trans E1 E_k) GO) (ext_wl V)), AO, cO, rfl, fun _ _ => rfl, (AccR.rd K2 PO).ext (ext_wl V)⟩
end Go.Proofs.Ytndfkbapoinmkaa
/- Plain: what the reference says of a season's failures, in the program's own terms. Conditions: as each theorem states. -/
namespace Go.Proofs.Ytndfkbapoinmkaa
open Go Go.HL Go.Proofs Go.Wx
theorem slr_nil {α : Type} (h : AH) (m : Nat) (enc : α → List Value) : SlR h m enc [] (.slice none 0 0) := ⟨none, 0, rfl, fun _ h => (by cases h), Rd.nil _ _⟩
theorem mask_any (l : List Fl) (w : Nat) : (maskM l).testBit w = l.any fun y => decide ((y.week : Int) = (w : Int)) := by
  rw [Bool.eq_iff_iff, maskM_bit, List.any_eq_true]
  constructor
  · rintro ⟨y, hy, e⟩; exact ⟨y, hy, decide_eq_true (by omega)⟩
  · rintro ⟨y, hy, e⟩; exact ⟨y, hy, by have := of_decide_eq_true e; omega⟩
theorem fails_any (s : Season) (i w : Nat) : (failsM s i).testBit w = (flsM s (kindAt s i) i).any fun y => decide ((y.week : Int) = (w : Int)) := mask_any _ _
theorem listN_stop {m k : Nat} (h : ∀ i, k ≤ i → m.testBit i = false) : ∀ j, listN m (k + j) = listN m k
  | 0 => rfl
  | j + 1 => by rw [← Nat.add_assoc, listN_succ, h (k + j) (by omega), if_neg (by decide), listN_stop h j]
theorem known1 (s : Season) (e : Int) : knownM s [e] = if checkM s ≠ 0 then checkM s else if e ≠ 0 then e else if mayM s then 0 else 9 := by
  unfold knownM
  simp only [firstErr, id]
  split
  · rfl
  · by_cases h : e = 0
    · simp [h]
    · simp [h]
theorem any_take {l : List Fl} {p : Fl → Bool} {k : Nat} (h : k < l.length) : (l.take (k + 1)).any p = ((l.take k).any p || p l[k]) := by
  rw [take_snoc h, List.any_append]; simp
theorem danger_bit (s : Season) (w : Nat) : ∀ k, (dangerM s (k + 1)).testBit w = ((dangerM s k).testBit w || (failsM s k).testBit w) := fun k => by
  show (dangerM s k ||| failsM s k).testBit w = _
  rw [Nat.testBit_or]
theorem danger_list {s : Season} (h1 : 1 ≤ s.heats.length) (h6 : s.heats.length ≤ 6) : listN (dangerM s s.joints.length) s.heats.length = listM (failingM s) := by
  have e : ∀ k, k ≤ s.heats.length → listN (dangerM s s.joints.length) k = listN (failingM s) k := by
    intro k
    induction k with
    | zero => intro _; rfl
    | succ k ih =>
      intro hk
      rw [listN_succ, listN_succ, ih (by omega)]
      unfold failingM
      rw [uptoM_bit, decide_eq_true (show k ≤ s.heats.length - 1 by omega), Bool.and_true]
  rw [e _ (Nat.le_refl _)]
  have := listN_stop (m := failingM s) (k := s.heats.length) (fun w hw => by
    unfold failingM
    rw [uptoM_bit, decide_eq_false (by omega), Bool.and_false]) (7 - s.heats.length)
  rw [← this]
  congr 1
  omega
/-- The first look that is not too early. -/
def lookR (n d : Int) (l : List Int) : Int := (l.find? fun i => decide (i ≥ d)).getD n
theorem lookR_cons (n d i : Int) (l : List Int) : lookR n d (i :: l) = if i ≥ d then i else lookR n d l := by
  unfold lookR
  rw [List.find?_cons]
  by_cases h : i ≥ d
  · simp [h]
  · simp [h]
theorem lookR_at {n d : Int} {l : List Int} : ∀ (m : Int), m ≤ n → (∀ i ∈ l, m ≤ i ∧ i ≤ n) → l.Pairwise (· < ·) → lookAt n d l = lookR n d l := by
  have key : ∀ (l : List Int) (z : Int), l.Pairwise (· < ·) → (∀ i ∈ l, z ≤ i) → z ≥ d → lookAt z d l = z := by
    intro l
    induction l with
    | nil => intro z _ _ _; rfl
    | cons i l ih =>
      intro z hp hm hz
      rw [List.pairwise_cons] at hp
      have hi := hm i (List.mem_cons_self ..)
      show lookAt (if d ≤ i then min z i else z) d l = z
      rw [if_pos (by omega), Int.min_eq_left hi]
      exact ih z hp.2 (fun x hx => hm x (List.mem_cons_of_mem _ hx)) hz
  induction l with
  | nil => intro m _ _ _; rfl
  | cons i l ih =>
    intro m hm hb hp
    rw [List.pairwise_cons] at hp
    have hi := hb i (List.mem_cons_self ..)
    rw [lookR_cons]
    show lookAt (if d ≤ i then min n i else n) d l = _
    by_cases h : d ≤ i
    · rw [if_pos h, if_pos (by omega), Int.min_eq_right hi.2]
      exact key l i hp.2 (fun x hx => Int.le_of_lt (hp.1 x hx)) h
    · rw [if_neg h, if_neg (by omega)]
      exact ih m hm (fun x hx => hb x (List.mem_cons_of_mem _ hx)) hp.2
def unseenR (n : Int) (ds ins : List Int) : Int := ds.foldl (fun a d => max a (lookR n d ins - d)) 0
theorem unseenR_snoc (n d : Int) (ds ins : List Int) : unseenR n (ds ++ [d]) ins = max (unseenR n ds ins) (lookR n d ins - d) := by simp [unseenR, List.foldl_append]
theorem unseenR_eq {n : Int} {ds ins : List Int} (h0 : 0 ≤ n) (hb : ∀ i ∈ ins, 0 ≤ i ∧ i ≤ n) (hp : ins.Pairwise (· < ·)) : unseenR n ds ins = unseenOf n ds ins := by
  unfold unseenR unseenOf
  congr 1
  funext a d
  rw [lookR_at 0 h0 hb hp]
end Go.Proofs.Ytndfkbapoinmkaa
/- Walks: what the reference says of failures. Conditions: as each theorem states. -/
namespace Go.Proofs.Ytndfkbapoinmkaa
open Go Go.HL Go.Proofs Go.Wx
set_option maxRecDepth 100000
end Go.Proofs.Ytndfkbapoinmkaa
