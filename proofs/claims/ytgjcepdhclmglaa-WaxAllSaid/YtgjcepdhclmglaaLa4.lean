/- An own logic over the model, its walks and its plain laws, joined of parts W16 AA Ra GA GB GC GD GE GF GG GH GI Rb GJ GU GV GK GL GM GN GO GS GT GW GX GY Rc Rd Re Rf Rg Rh Ri Rj Rs Rv GZ HA W17 W18 Sy W19 Sz W20 W21 W22. Conditions: as each theorem states. -/
import Derived.Test.YtgjcepdhclmglaaLa3
import Derived.Test.YtgjcepdhclmglaaLa2
import Derived.Calls
import Derived.Test.YtgjcepdhclmglaaLa1
import Derived.Conc.CrowdComm
import Derived.Conc.EventLaws
set_option linter.all false
namespace Go.Proofs.Ytgjcepdhclmglaa
open Go Go.HL Go.Proofs Go.Wx
variable [Lvl]
set_option maxRecDepth 100000
theorem upto_ok' (m k : Nat) (k' : Int) (ek : k' = k) (hm : m < 2 ^ 64) (hk : k ≤ 62) (h : AH) : FnT Try.prog 35 #[.int .u64 m, .int .i64 k'] h (fun v _ => v = .int .u64 (uptoM m k : Nat)) := by
 subst ek
 exact upto_ok m k hm hk h
theorem failing_ok (s : Season) (SV : SeasonV s) (A : Option Addr) (c mf : Nat) (fm : Nat → Nat) (fl : Nat → List Fl) (A' : Option Addr) (c' mf' : Nat) (fm' : Nat → Nat) (fl' : Nat → List Fl) (A0 A1 A2 A3 : Option Addr) (c0 c1 c2 c3 : Nat) (h : AH) (R : SeasonR h A0 A1 A2 A3 s) (X : HalfX h s 1 A mf fm fl) (X' : HalfX h s 2 A' mf' fm' fl') :
  FnT Try.prog 49 #[.agg (halfC s 1 A c mf fm ++ halfC s 2 A' c' mf' fm').toArray, seasonV A0 A1 A2 A3 c0 c1 c2 c3 s] h (fun v _ => v = .int .u64 (failingM s : Nat)) := by
 have hw6 := SV.b.w6
 have hj3 := SV.b.j3
 refine wL Try.func49 rfl Try.ntmps49 rfl ?_
 refine qF ?_
 refine qC rfl ?_
 refine zF (v := .agg #[.slice _ _ _, .map _, .map _, .map _, .map _, .slice _ _ _, .map _, .map _, .map _, .map _]) (cs := [_, _, _, _, _, _, _, _, _, _]) rfl rfl fun b2 hb2 => ?_
 refine qH [_] rfl ?_
 refine zF (v := .agg #[.slice _ _ _, .slice _ _ _, .slice _ _ _, .slice _ _ _]) (cs := [_, _, _, _]) rfl rfl fun b3 hb3 => ?_
 refine qH [_, _] rfl ?_
 refine qA (qE (v := .int .u64 _) rfl) ?_
 refine qF ?_
 refine qC rfl ?_
 refine qA (qE (v := .int .u64 _) rfl) ?_
 refine qF ?_
 refine qF ?_
 refine qC rfl ?_
 refine qA (qG rfl rfl rfl rfl 2 rfl) ?_
 refine qI 1 (v := .slice _ _ _) rfl rfl rfl rfl ?_
 refine qA (wV rfl rfl) ?_
 refine qA (qB (v := .int .i64 _) rfl) ?_
 refine qN ?_
 refine zN [5, 6, 10, 11, 12, 13, 14, 15, 16, 17, 18, 19] 2 (α := Nat) (fun j => [(10, .int .i64 j), (5, .int .u64 (dangerM s j : Nat))]) (fun j => _) (fun j h_j => j ≤ s.joints.length) (fun j => s.joints.length - j) (0) ⟨rfl, rfl, trivial⟩ (rfl) (Nat.zero_le _) ?_
 rintro j T1 h_j E_j J_j
 refine qP [_, _] rfl ?_
 have hd := dangerM_lt (s := s) hw6 j
 have hfj := failsM_lt (s := s) hw6 j
 refine qF ?_
 refine qC rfl ?_
 refine qA (qK (v := .bool _) rfl) ?_
 refine qF ?_
 refine wA rfl (fun ht => ?_) (fun ht => ?_)
 ·skip
  have hlt := ltI ht
  refine qT ?_
  refine qF ?_
  refine qN ?_
  refine qF ?_
  refine qC rfl ?_
  refine qA (qB (v := .int .i64 _) rfl) ?_
  refine qA (qE (v := .int .i64 _) rfl) ?_
  refine qC rfl ?_
  refine qA (qB (v := .int .u64 _) rfl) ?_
  refine qX 0 (vs := [.slice _ _ _, .map _, .map _, .map _, .map _, .slice _ _ _, .map _, .map _, .map _, .map _]) rfl rfl rfl rfl rfl ?_
  refine qX 1 (vs := [.slice _ _ _, .slice _ _ _, .slice _ _ _, .slice _ _ _]) rfl rfl rfl rfl rfl ?_
  refine qA (qB (v := .int .i64 _) rfl) ?_
  refine wP (caps := []) (vs := [.agg #[.slice _ _ _, .map _, .map _, .map _, .map _, .slice _ _ _, .map _, .map _, .map _, .map _], .agg #[.slice _ _ _, .slice _ _ _, .slice _ _ _, .slice _ _ _], .int .i64 _]) rfl rfl rfl (fails_ok s SV j hlt A c mf fm fl A' c' mf' fm' fl' A0 A1 A2 A3 c0 c1 c2 c3 h_j (R.ext E_j) (X.ext E_j) (X'.ext E_j)) ?_
  rintro _ h1 E1 rfl
  refine qA (pv_val (u64_or (dangerM s j) (failsM s j) (by omega) (by omega)) rfl) ?_
  refine qA (qE (v := .int .u64 _) rfl) ?_
  refine qC rfl ?_
  refine qA (qO rfl (by omega)) ?_
  refine qA (qB (v := .int .i64 _) rfl) ?_
  refine ⟨j + 1, ⟨rfl, rfl, trivial⟩, rfl, rfl, (zP E_j E1), fun h3 E3 => hlt, by first | omega | (dsimp only; omega), ?_⟩
  repeat (first | exact qU _ _ _ | refine wB (by decide) ?_ | refine qS rfl ?_ | refine wN rfl ?_)
 ·skip
  have hj : j = s.joints.length := by have := geI ht; omega
  subst hj
  have hw1 := SV.b.w1
  refine wU ?_
  refine qF ?_
  refine qC rfl ?_
  refine qA (qB (v := .int .u64 _) rfl) ?_
  refine qA (qG rfl rfl rfl rfl 0 rfl) ?_
  refine qI 1 (v := .slice _ _ _) rfl rfl rfl rfl ?_
  refine qA (wV rfl rfl) ?_
  refine qA (qO rfl (by omega)) ?_
  refine wP (caps := []) (vs := [.int .u64 _, .int .i64 _]) rfl rfl rfl (upto_ok' (dangerM s s.joints.length) (s.heats.length - 1) _ (by omega) (by omega) (by omega) h_j) ?_
  rintro _ h1 E1 rfl
  refine qA (qE (v := .int .u64 _) rfl) ?_
  refine wK ?_
  refine qW (vs := [_]) Try.results49 ⟨qR rfl rfl, trivial⟩ fun V => ?_
  exact ⟨(zP (zP E_j E1) (wE V)), rfl⟩
theorem unseen_ok (s : Season) (hw6 : s.heats.length ≤ 6) (A0 A1 A2 A3 : Option Addr) (c0 c1 c2 c3 : Nat) (m : Nat) (hm : m < 2 ^ 7) (l : List Int) (hl : l.length < 2 ^ 20) (B : Option Addr) (cB : Nat) (h : AH) (RB : Row h 1 intC B l) :
  FnT Try.prog 52 #[seasonV A0 A1 A2 A3 c0 c1 c2 c3 s, .int .u64 (m : Nat), .slice B l.length cB] h (fun v _ => v = .int .i64 (unseenOf s.heats.length (listM m) l)) := by
 have hb7 : (listM m).length ≤ 7 := listN_len m 7
 refine wL Try.func52 rfl Try.ntmps52 rfl ?_
 refine qF ?_
 refine qC rfl ?_
 refine zF (v := .agg #[.slice _ _ _, .slice _ _ _, .slice _ _ _, .slice _ _ _]) (cs := [_, _, _, _]) rfl rfl fun b3 hb3 => ?_
 refine qH [_] rfl ?_
 refine qA (qE (v := .int .i64 _) rfl) ?_
 refine qF ?_
 refine qC rfl ?_
 refine qA (qE (v := .int .i64 _) rfl) ?_
 refine qF ?_
 refine qF ?_
 refine qC rfl ?_
 refine qA (qB (v := .int .u64 _) rfl) ?_
 refine wP (caps := []) (vs := [.int .u64 _]) rfl rfl rfl (list_ok m (by omega) h) ?_
 rintro _ h1 E1 ⟨D, cD, rfl, RD⟩
 refine qA (wV rfl rfl) ?_
 refine qA (qB (v := .int .i64 _) rfl) ?_
 refine qN ?_
 refine zN [7, 9, 10, 12, 16, 17, 18, 19, 20, 21, 22, 23, 24, 25, 26, 27, 28, 29, 30, 31, 32, 33, 34, 35, 36, 37, 38, 39, 40, 41] 1 (α := Nat) (fun k => [(16, .int .i64 k), (7, .int .i64 (unseenOf s.heats.length ((listM m).take k) l))]) (fun k => _) (fun k h_k => k ≤ (listM m).length) (fun k => (listM m).length - k) (0) ⟨rfl, rfl, trivial⟩ (rfl) (Nat.zero_le _) ?_
 rintro k T1 h_k E_k J_k
 refine qP [_] rfl ?_
 refine qF ?_
 refine qC rfl ?_
 refine qA (qK (v := .bool _) rfl) ?_
 refine qF ?_
 refine wA rfl (fun ht => ?_) (fun ht => ?_)
 ·skip
  have hlt := ltI ht
  have hd := listM_bd (List.getElem_mem hlt)
  obtain ⟨g, off, hD, hc⟩ := (RD.ext E_k).at (by omega) hlt
  refine qT ?_
  refine qF ?_
  refine qN ?_
  refine qF ?_
  refine qC rfl ?_
  refine qA (wM rfl hD rfl rfl rfl (by omega) (by omega)) ?_
  refine qV (v := .int .i64 _) rfl rfl ((hc) 0 _ rfl) ?_
  refine qA (qE (v := .int .i64 _) rfl) ?_
  refine qF ?_
  refine qC rfl ?_
  refine qA (qG rfl rfl rfl rfl 0 rfl) ?_
  refine qI 0 (v := .slice _ _ _) rfl rfl rfl rfl ?_
  refine qA (wV rfl rfl) ?_
  refine qA (qE (v := .int .i64 _) rfl) ?_
  refine qF ?_
  refine qF ?_
  refine qC rfl ?_
  refine qA (qB (v := .slice _ _ _) rfl) ?_
  refine qA (wV rfl rfl) ?_
  refine qA (qB (v := .int .i64 _) rfl) ?_
  refine qN ?_
  refine zN [10, 12, 25, 26, 27, 28, 29, 30, 31, 32, 33, 34, 35] 1 (α := Nat) (fun q => [(25, .int .i64 q), (10, .int .i64 (lookAt s.heats.length (listM m)[k] (l.take q)))]) (fun q => _) (fun q h_q => q ≤ l.length) (fun q => l.length - q) (0) ⟨rfl, rfl, trivial⟩ (rfl) (Nat.zero_le _) ?_
  rintro q T2 h_q E_q J_q
  refine qP [_] rfl ?_
  have hbq := lookAt_bd (listM m)[k] (l.take q) s.heats.length
  refine qF ?_
  refine qC rfl ?_
  refine qA (qK (v := .bool _) rfl) ?_
  refine qF ?_
  refine wA rfl (fun hq => ?_) (fun hq => ?_)
  ·skip
   have hql := ltI hq
   obtain ⟨g2, off2, hB, hc2⟩ := (RB.ext (zP (zP E1 E_k) E_q)).at (by omega) hql
   have hsn : lookAt s.heats.length (listM m)[k] (l.take (q + 1)) = if (listM m)[k] ≤ l[q] then min (lookAt s.heats.length (listM m)[k] (l.take q)) l[q] else lookAt s.heats.length (listM m)[k] (l.take q) := by rw [take_snoc hql, lookAt_snoc]
   refine qT ?_
   refine qF ?_
   refine qN ?_
   refine qF ?_
   refine qC rfl ?_
   refine qA (wM rfl hB rfl rfl rfl (by omega) (by omega)) ?_
   refine qV (v := .int .i64 _) rfl rfl ((hc2) 0 _ rfl) ?_
   refine qA (qE (v := .int .i64 _) rfl) ?_
   refine qF ?_
   refine qC rfl ?_
   refine qA (qB (v := .int .i64 _) rfl) ?_
   refine qA (qB (v := .int .i64 _) rfl) ?_
   refine qA (qK (v := .bool _) rfl) ?_
   refine wA rfl (fun hge => ?_) (fun hge => ?_)
   ·skip
    have hge' : (listM m)[k] ≤ l[q] := by simpa using hge
    refine qC rfl ?_
    refine qA (qB (v := .int .i64 _) rfl) ?_
    refine qA (qB (v := .int .i64 _) rfl) ?_
    refine qA (pv_min rfl rfl) ?_
    refine qA (qE (v := .int .i64 _) rfl) ?_
    refine qC rfl ?_
    refine qA (qO rfl (by omega)) ?_
    refine qA (qB (v := .int .i64 _) rfl) ?_
    refine ⟨q + 1, ⟨rfl, intE (by rw [hsn, if_pos hge']), trivial⟩, rfl, rfl, E_q, fun h3 E3 => by first | trivial | omega | (refine ⟨?_, ?_⟩ <;> omega), by first | omega | (dsimp only; omega), ?_⟩
    repeat (first | exact qU _ _ _ | refine wB (by decide) ?_ | refine qS rfl ?_ | refine wN rfl ?_)
   ·skip
    have hge' : ¬ (listM m)[k] ≤ l[q] := by simpa using hge
    refine qT ?_
    refine qC rfl ?_
    refine qA (qO rfl (by omega)) ?_
    refine qA (qB (v := .int .i64 _) rfl) ?_
    refine ⟨q + 1, ⟨rfl, intE (by rw [hsn, if_neg hge']), trivial⟩, rfl, rfl, E_q, fun h3 E3 => by first | trivial | omega | (refine ⟨?_, ?_⟩ <;> omega), by first | omega | (dsimp only; omega), ?_⟩
    repeat (first | exact qU _ _ _ | refine wB (by decide) ?_ | refine qS rfl ?_ | refine wN rfl ?_)
  ·skip
   have hql : q = l.length := by have := geI hq; omega
   subst hql
   refine wU ?_
   refine qC rfl ?_
   refine qA (qB (v := .int .i64 _) rfl) ?_
   refine qA (qB (v := .int .i64 _) rfl) ?_
   refine qA (qB (v := .int .i64 _) rfl) ?_
   refine qA (qO rfl (by omega)) ?_
   refine qA (pv_max rfl rfl) ?_
   refine qA (qE (v := .int .i64 _) rfl) ?_
   refine qC rfl ?_
   refine qA (qO rfl (by omega)) ?_
   refine qA (qB (v := .int .i64 _) rfl) ?_
   refine ⟨k + 1, ⟨rfl, intE (by rw [take_snoc hlt, unseenOf_snoc, List.take_length]), trivial⟩, rfl, rfl, (zP E_k E_q), fun h3 E3 => by first | trivial | omega | (refine ⟨?_, ?_⟩ <;> omega), by first | omega | (dsimp only; omega), ?_⟩
   repeat (first | exact qU _ _ _ | refine wB (by decide) ?_ | refine qS rfl ?_ | refine wN rfl ?_)
 ·skip
  have hk : k = (listM m).length := by have := geI ht; omega
  subst hk
  refine wU ?_
  refine qF ?_
  refine qC rfl ?_
  refine qA (qB (v := .int .i64 _) rfl) ?_
  refine qA (qE (v := .int .i64 _) rfl) ?_
  refine wK ?_
  refine qW (vs := [_]) Try.results52 ⟨qR rfl rfl, trivial⟩ fun V => ?_
  exact ⟨(zP (zP E1 E_k) (wE V)), intE (by rw [List.take_length])⟩
end Go.Proofs.Ytgjcepdhclmglaa
namespace Go.HL
open Go
variable [Lvl]
theorem lookup_mem : ∀ {l : P0}, (l.map (·.1)).Nodup → ∀ {b : Nat} {o : Obj}, l.lookup b = some o ↔ (b, o) ∈ l
 | [], _, b, o => by simp
 | (c, q) :: l, nd, b, o => by
  rw [List.map_cons, List.nodup_cons] at nd
  rw [List.lookup_cons]
  by_cases hb : b = c
  ·subst hb
   simp only [beq_self_eq_true, if_true, Option.some.injEq, List.mem_cons, Prod.mk.injEq, true_and]
   constructor
   ·rintro rfl; exact .inl rfl
   ·rintro (h | h)
    ·exact h.symm
    ·exact absurd (List.mem_map.2 ⟨_, h, rfl⟩) nd.1
  ·have : (b == c) = false := by simpa using hb
   simp only [this, Bool.false_eq_true, if_false, List.mem_cons, Prod.mk.injEq, hb, false_and, false_or]
   exact lookup_mem nd.2
theorem wl_perm {h : AH} {L L' : Pv} (p : (cl L).Perm (cl L')) (V : Valid h L) : wl h L = wl h L' ∧ Valid h L' := by
 have nd' : ((cl L').map (·.1)).Nodup := (p.map _).nodup_iff.1 V.nd
 refine ⟨?_, ⟨nd', fun q hq => V.fresh q (p.mem_iff.2 hq), V.fin⟩⟩
 have e : ∀ b, (cl L).lookup b = (cl L').lookup b := by
  intro b
  apply Option.ext
  intro o
  show (cl L).lookup b = some o ↔ (cl L').lookup b = some o
  rw [lookup_mem V.nd, lookup_mem nd', p.mem_iff]
 funext b
 unfold wl wl0
 rw [e b]
theorem mid_perm (pre M post : Pv) : (cl (pre ++ M ++ post)).Perm (cl (pre ++ post ++ M)) := by
 simp only [cl_append, List.append_assoc]
 exact List.Perm.append_left _ List.perm_append_comm
section
variable {P : Program} {n : Nat} {ops : Array Oper} {d : Option Tmp} {op : Op} {ty : TypeId} {ps : String} {af : Array Edge} {os : List Oper} {K : Sl → Pv → AH → Prop} {E : Value → Sl → Pv → AH → Prop} {S : Sl} {L : Pv} {h : AH}
theorem zL (pre M post : Pv) {x : Operand} {xs : List Operand} {ats : Array TypeId} {y : Value} {vs : List Value} {R : Value → AH → Pv → Prop} (hf : ev n S x = y) (hx : xs.map (ev n S) = vs) (hL : L = pre ++ M ++ post) (c : FnM P y vs h M R)
  (k : ∀ v h' M', Ext h h' → R v h' M' → wpL P n ops os K E (put S d v) (pre ++ M' ++ post) h') : wpL P n ops (⟨d, .call ⟨.value x, xs.toArray, ats⟩, ty, ps, af, none⟩ :: os) K E S L h := by
 subst hL
 refine op_of fun V => ?_
 obtain ⟨e, V'⟩ := wl_perm (mid_perm pre M post) V
 have w : wpL P n ops [⟨d, .call ⟨.value x, xs.toArray, ats⟩, ty, ps, af, none⟩] (fun S' L' h' => ∃ M', L' = pre ++ post ++ M' ∧ wpL P n ops os K E S' (pre ++ M' ++ post) h') (fun _ _ _ _ => False) S (pre ++ post ++ M) h :=
  op_fnM (pre ++ post) M hf hx rfl c fun v h' M' E' r => ⟨M', rfl, k v h' M' E' r⟩
 have w' := w V'
 rw [e]
 refine opW_mono ?_ ?_ w'
 ·rintro v H ⟨L', h', rfl, V1, M', rfl, w2⟩
  obtain ⟨e1, V2⟩ := wl_perm (mid_perm pre M' post).symm V1
  exact ⟨_, h', e1, V2, w2⟩
 ·rintro v H ⟨L', h', _, _, y⟩; exact y.elim
end
theorem rm_set : ∀ (m : List Bool) (L : Pv) (i : Nat), rmM m (L.set i none) = (rmM m L).set i none
 | [], L, i => by simp [rmM]
 | true :: m, [], i => by simp [rmM]
 | false :: m, [], i => by simp [rmM]
 | true :: m, p :: L, 0 => by simp [rmM]
 | false :: m, p :: L, 0 => by simp [rmM]
 | true :: m, p :: L, i + 1 => by simp [rmM, rm_set m L i]
 | false :: m, p :: L, i + 1 => by simp [rmM, rm_set m L i]
theorem rm_at : ∀ (m : List Bool) (L : Pv) (i : Nat) (p : Option (Nat × Obj)), L[i]? = some p → (rmM m L)[i]? = some p ∨ (rmM m L)[i]? = some none
 | [], L, i, p, h => by left; simpa [rmM] using h
 | _ :: m, [], i, p, h => by simp at h
 | true :: m, q :: L, 0, p, h => by right; simp [rmM]
 | false :: m, q :: L, 0, p, h => by left; simpa [rmM] using h
 | true :: m, q :: L, i + 1, p, h => by have := rm_at m L i p (by simpa using h); simpa [rmM] using this
 | false :: m, q :: L, i + 1, p, h => by have := rm_at m L i p (by simpa using h); simpa [rmM] using this
theorem set_same {L : Pv} {i : Nat} (h : L[i]? = some none) : L.set i none = L := by
 apply List.ext_getElem?
 intro j
 rw [List.getElem?_set]
 by_cases hj : i = j
 ·subst hj
  have hl := (List.getElem?_eq_some_iff.1 h).1
  simp [hl]
  exact ((List.getElem?_eq_some_iff.1 h).2).symm
 ·simp [hj]
theorem dw_pubM {P : Program} {n : Nat} {ops : Array Oper} {mask : List Bool} {X : Sl → AH → Prop} {dn ac : List Nat} {S : Sl} {L : Pv} {h : AH} (i : Nat) {b : Nat} {o : Obj} (hi : L[i]? = some (some (b, o))) (k : ∀ h', Ext h h' → h' b = some o → Dw P n ops mask X dn ac S (L.set i none) h') : Dw P n ops mask X dn ac S L h := by
 intro V G hG
 have e : wl (hupd h b o) (L.set i none) = wl h L := (wl_pub V hi).symm
 have k1 := k (hupd h b o) (Ext.new (Ext.refl h) (wl_fresh V hi) o) (by simp [hupd]) (valid_pub V hi) G (by
  intro g hg
  obtain ⟨h1, h2, h3⟩ := hG g hg
  refine ⟨h1, h2, h2 _ _ ?_ h3⟩
  rw [rm_set]
  rcases rm_at mask L i _ hi with hr | hr
  ·rw [← wl_pub (valid_rm V) hr]; exact Ext.refl _
  ·rw [set_same hr]; exact ext_wlm (Ext.new (Ext.refl h) (wl_fresh V hi) o) _)
 rw [e] at k1
 exact k1
theorem rm_app : ∀ (m : List Bool) (L : Pv) (q : Option (Nat × Obj)), rmM m (L ++ [q]) = rmM m L ++ [q] ∨ rmM m (L ++ [q]) = rmM m L ++ [none]
 | [], L, q => by left; simp [rmM]
 | true :: m, [], q => by right; cases m with | nil => rfl | cons b m => cases b <;> rfl
 | false :: m, [], q => by left; cases m with | nil => rfl | cons b m => cases b <;> rfl
 | true :: m, p :: L, q => by rcases rm_app m L q with h | h <;> simp [rmM, h]
 | false :: m, p :: L, q => by rcases rm_app m L q with h | h <;> simp [rmM, h]
theorem ext_newM {m : List Bool} {h : AH} {L : Pv} {b : Nat} (hb : wl h L b = none) (o : Obj) : Ext (wl h (rmM m L)) (wl h (rmM m (L ++ [some (b, o)]))) := by
 have h1 := wl0_none hb
 have h2 : wl h (rmM m L) b = none := by
  unfold wl wl0
  rw [(lookup_none_iff _ _).2 fun p hp => h1.2 p ((rm_sub m L).subset hp)]
  exact h1.1
 rcases rm_app m L (some (b, o)) with e | e
 ·rw [e]; exact ext_new h2 o
 ·rw [e]
  have : wl h (rmM m L ++ [none]) = wl h (rmM m L) := by unfold wl; rw [cl_append]; simp [cl]
  rw [this]; exact Ext.refl _
theorem AccR.some {e : TypeId} {m : Nat} {cs : List Value} {a : Acc} (r : AccR e m cs a) (hc : cs ≠ []) : ∃ b len cap junk, cs.length = len * m ∧ a = ⟨some (b, .cells (cs ++ junk).toArray e (0, 0)), some ⟨b, 0, none⟩, len, cap⟩ := by
 obtain ⟨p, A, n, c⟩ := a
 rcases r with ⟨_, h, _⟩ | ⟨b, len, cap, junk, hl, ev, hpp, _⟩
 ·exact absurd h hc
 ·injection ev with h1 h2 h3
  dsimp only at h1 h2 h3 hpp
  exact ⟨b, len, cap, junk, hl, by rw [h1, h2, h3, hpp]⟩
end Go.HL
namespace Go.Rd
structure PinP where
 rod : Int
 lever : Int
 lag : Int
structure LinkP where
 frm : Int
 to : Int
 reg : Int
 lag : Int
structure MachP where
 rods : Int
 levers : Int
 regs : Int
 travel : Int
 opn : Int
 buttons : List Int
 pins : List PinP
 links : List LinkP
 weights : List Int
structure HandP where
 buttons : List Int
 on : List Int
def Le (t t' : List Int) : Prop := t.length = t'.length ∧ ∀ j, t.getD j 0 ≤ t'.getD j 0
theorem Le.refl (t : List Int) : Le t t := ⟨rfl, fun _ => Int.le_refl _⟩
theorem Le.trans {a b c : List Int} (h : Le a b) (k : Le b c) : Le a c := ⟨h.1.trans k.1, fun j => Int.le_trans (h.2 j) (k.2 j)⟩
def active (on : List Int) (l : LinkP) : Bool := l.reg < 0 || on.contains l.reg
end Go.Rd
namespace Go.HL
open Go Go.Conc Go.ConcN
def zO : Obj → Obj
 | .cells c e f => .cells c e (0, max (c.size + 1) f.2)
 | o => o
def zf (R : AH) : AH := fun b => (R b).map zO
theorem zf_none {R : AH} {b : Nat} : zf R b = none ↔ R b = none := by simp [zf]
def OnlyRows (R : AH) : Prop := ∀ b o, R b = some o → ∃ c e f, o = .cells c e f
structure Lent (Z R : AH) : Prop where
 none : ∀ b, Z b = none ↔ R b = none
 some : ∀ b o, Z b = some o → (∃ c e f, R b = some (.cells c e f) ∧ o = .cells c e (0, max (c.size + 1) f.2)) ∨ (¬ Obj.noCells o ∧ (∀ c e f, o ≠ .cells c e f) ∧ ∃ k bf cl s r t, R b = some (.chan k bf cl s r t))
theorem lent_zf {R : AH} (hR : OnlyRows R) : Lent (zf R) R := by
 refine ⟨fun b => zf_none, fun b o h => ?_⟩
 cases hr : R b with
 | none => simp [zf, hr] at h
 | some o' =>
  obtain ⟨c, e, f, rfl⟩ := hR _ _ hr
  simp only [zf, hr, Option.map_some, zO, Option.some.injEq] at h
  exact .inl ⟨c, e, f, rfl, h.symm⟩
def EvOK (X R : AH) (e : Event) : Prop :=
 (∃ a, e.loc = .cell a ∧ (X a.block ≠ none ∨ (R a.block ≠ none ∧ e.write = false))) ∨ (∃ r, e.loc = .obj r ∧ X r ≠ none) ∨ (∃ m, e.loc = .mark m ∧ m.quiet = true)
theorem EvOK.mono {X X' R : AH} {e : Event} (h : EvOK X R e) (m : ∀ b, X b ≠ none → X' b ≠ none) : EvOK X' R e := by
 rcases h with ⟨a, h1, h2 | h2⟩ | ⟨r, h1, h2⟩ | h
 ·exact .inl ⟨a, h1, .inl (m _ h2)⟩
 ·exact .inl ⟨a, h1, .inr h2⟩
 ·exact .inr (.inl ⟨r, h1, m _ h2⟩)
 ·exact .inr (.inr h)
theorem hunR {X R : AH} {b : Nat} (h : X b = none) : hun X R b = R b := by simp [hun, h]
theorem cellA_z {X Z R : AH} (hR : Lent Z R) {a : Addr} {v : Value} (h : cellA (hun X Z) a = some v) : cellA (hun X R) a = some v := by
 unfold cellA at h ⊢
 cases hx : X a.block with
 | some o => rw [hun_left hx] at h ⊢; exact h
 | none =>
  rw [hunR hx] at h ⊢
  cases hz : Z a.block with
  | none => rw [hz] at h; cases h
  | some o =>
   rcases hR.some _ _ hz with ⟨c, e, f, hr, rfl⟩ | ⟨_, hn, _⟩
   ·rw [hz] at h; rw [hr]; exact h
   ·rw [hz] at h
    cases o <;> first | exact absurd rfl (hn _ _ _) | cases h
theorem cellA_some {H : AH} {a : Addr} {v : Value} (h : cellA H a = some v) : H a.block ≠ none := by
 intro e
 simp [cellA, e] at h
theorem z_own {X Z R : AH} {a : Addr} {o : Obj} {v : Value} (hR : Lent Z R) (h : hun X Z a.block = some o) (hc : cellA (hun X Z) a = some v) (hf : frozenO o a.off = false) : X a.block = some o := by
 cases hx : X a.block with
 | some o' => rw [hun_left hx] at h; exact h
 | none =>
  have e1 : hun X Z a.block = Z a.block := hunR hx
  rw [e1] at h
  rcases hR.some _ _ h with ⟨c, e, f, hr, rfl⟩ | ⟨_, hn, _⟩
  ·simp only [cellA, e1, h] at hc
   split at hc
   ·cases hc
   ·have := (Array.getElem?_eq_some_iff.1 hc).1
    simp [frozenO] at hf
    omega
  ·simp only [cellA, e1, h] at hc
   cases o <;> first | exact absurd rfl (hn _ _ _) | cases hc
theorem z_obj {X Z R : AH} {r : Nat} {o : Obj} (hR : Lent Z R) (h : hun X Z r = some o) (hn : Obj.noCells o) : X r = some o := by
 cases hx : X r with
 | some o' => rw [hun_left hx] at h; exact h
 | none =>
  rw [hunR hx] at h
  rcases hR.some _ _ h with ⟨c, e, f, hr, rfl⟩ | ⟨h1, _⟩
  ·exact hn.elim
  ·exact absurd hn h1
theorem shape_z {X Z R : AH} (hR : Lent Z R) {r : Nat} {o : Obj} (h : hun X Z r = some o) : ∃ o', hun X R r = some o' ∧ shapeO o' = shapeO o := by
 cases hx : X r with
 | some o' =>
  rw [hun_left hx] at h
  exact ⟨o', hun_left hx, by cases h; rfl⟩
 | none =>
  rw [hunR hx] at h ⊢
  rcases hR.some _ _ h with ⟨c, e, f, hr, rfl⟩ | ⟨_, hn, k, bf, cl, s, r, t, hr⟩
  ·exact ⟨_, hr, rfl⟩
  ·exact ⟨_, hr, by cases o <;> first | exact absurd rfl (hn _ _ _) | rfl⟩
structure RunZ (R F X : AH) (w : World) (X' : AH) (w' : World) : Prop where
 env : SameEnv w w'
 heap : absH w'.heap = hun (hun X' R) F
 disj : Disj X' R
 disjF : Disj (hun X' R) F
 size : w.heap.size ≤ w'.heap.size
 grow : ∀ b, X b ≠ none → X' b ≠ none
 new : ∀ b, X' b ≠ none → X b ≠ none ∨ w.heap.size ≤ b
theorem RunZ.trans {R F X X1 X2 : AH} {w w1 w2 : World} (h : RunZ R F X w X1 w1) (k : RunZ R F X1 w1 X2 w2) : RunZ R F X w X2 w2 :=
 ⟨h.env.trans k.env, k.heap, k.disj, k.disjF, Nat.le_trans h.size k.size, fun b hb => k.grow b (h.grow b hb), fun b hb => (k.new b hb).elim (h.new b) fun h1 => .inr (Nat.le_trans h.size h1)⟩
theorem absH_lt {w : World} {H : AH} (e : absH w.heap = H) {b : Nat} (h : H b ≠ none) : b < w.heap.size := by
 subst e
 rcases Nat.lt_or_ge b w.heap.size with h1 | h1
 ·exact h1
 ·exact absurd (by simp [absH, h1]) h
theorem hupd_ne_none {X : AH} {b c : Nat} {o : Obj} (h : X c ≠ none) : hupd X b o c ≠ none := by
 unfold hupd; split
 ·simp
 ·exact h
def AfterZ (P : Program) (Z R F X : AH) {α : Type} (s : Sem α) (w : World) (K : α → AH → Prop) (E : Value → AH → Prop) : Prop :=
 ∃ X' w', RunZ R F X w X' w' ∧ (∀ es, ∀ e ∈ (s.runT P w es).2, e ∈ es ∨ EvOK X' R e) ∧ ((∃ a, s.run P w = .ok a w' ∧ K a (hun X' (Z))) ∨ (∃ v, s.run P w = .halt (.panic v) w' ∧ E v (hun X' (Z))))
theorem AfterZ.step {P : Program} {Z R F X X1 : AH} {α : Type} {s s1 : Sem α} {w w1 : World} {K : α → AH → Prop} {E : Value → AH → Prop} {l : List Event} (z : RunZ R F X w X1 w1) (a : AfterZ P Z R F X1 s1 w1 K E)
  (hr : s.run P w = s1.run P w1) (ht : ∀ es, (s.runT P w es).2 = (s1.runT P w1 (es ++ l.toArray)).2) (hl : ∀ e ∈ l, EvOK X1 R e) : AfterZ P Z R F X s w K E := by
 obtain ⟨X', w', z', he, ho⟩ := a
 refine ⟨X', w', z.trans z', fun es e hm => ?_, by rw [hr]; exact ho⟩
 rw [ht] at hm
 rcases he _ e hm with h1 | h1
 ·rcases Array.mem_append.1 h1 with h2 | h2
  ·exact .inl h2
  ·exact .inr ((hl e (by simpa using h2)).mono z'.grow)
 ·exact .inr h1
theorem RunZ.refl {R F X : AH} {w : World} (h : absH w.heap = hun (hun X R) F) (d : Disj X R) (dF : Disj (hun X R) F) : RunZ R F X w X w := ⟨.refl w, h, d, dF, Nat.le_refl _, fun _ h => h, fun _ h => .inl h⟩
theorem dem_runZ {P : Program} {Z R F : AH} (hR : Lent Z R) {α : Type} {s : Sem α} {K : α → AH → Prop} {E : Value → AH → Prop} :
  ∀ (X : AH) (w : World), absH w.heap = hun (hun X R) F → Disj X R → Disj (hun X R) F → dem P s (hun X (Z)) K E → AfterZ P Z R F X s w K E := by
 induction s with
 | pure a =>
  intro X w h d dF k
  exact ⟨X, w, .refl h d dF, fun es e he => .inl he, .inl ⟨a, rfl, k⟩⟩
 | load m a k ih =>
  intro X w h d dF ⟨v, h1, h2⟩
  have hc : w.cell? a = some v := by
   rw [cell_abs, h]
   exact cellA_hun (cellA_z hR h1)
  refine AfterZ.step (l := [⟨.cell a, false, m == .atomic⟩]) (.refl h d dF) (ih v X w h d dF h2) (by simp only [Sem.run, hc]) (fun es => by simp [-Sem.runT_eq, Sem.runT, hc]) ?_
  intro e he
  simp only [List.mem_singleton] at he
  subst he
  refine .inl ⟨a, rfl, ?_⟩
  have := cellA_some (cellA_z hR h1)
  cases hx : X a.block with
  | some o => exact .inl (by simp)
  | none => exact .inr ⟨by simpa [hun, hx] using this, rfl⟩
 | store m a v k ih =>
  intro X w h d dF ⟨h0, o, u, h1, h2, h3, h4⟩
  have hx := z_own hR h1 h2 h3
  have hc : w.cell? a = some u := by
   rw [cell_abs, h]
   exact cellA_hun (cellA_z hR h2)
  have ho : absH w.heap a.block = some o := by rw [h]; exact hun_left (hun_left hx)
  have hfz : w.frozen? a = false := by
   have h1' : w.heap[a.block]? = some o := ho
   simp only [World.frozen?, h1']
   cases o <;> first | rfl | exact h3
  have hrb : R a.block = none := d.right hx
  have z : RunZ R F X w (hupd X a.block (setO o a v)) (w.setCell a v) := by
   refine ⟨⟨rfl, rfl, rfl⟩, ?_, d.hupd hrb, ?_, ?_, fun b hb => hupd_ne_none hb, fun b hb => ?_⟩
   ·rw [absH_setCell w a v o ho, h, ← hun_hupd, ← hun_hupd]
   ·rw [hun_hupd]; exact dF.hupd (dF.right (hun_left hx))
   ·simp [World.setCell]
   ·by_cases hb2 : b = a.block
    ·subst hb2; exact .inl (by simp [hx])
    ·simp only [hupd, if_neg hb2] at hb; exact .inl hb
  rw [← hun_hupd] at h4
  refine AfterZ.step (l := [⟨.cell a, true, m == .atomic⟩]) z (ih (hupd X a.block (setO o a v)) (w.setCell a v) z.heap z.disj z.disjF h4) ?_ (fun es => ?_) ?_
  ·cases v <;> first | exact h0.elim | simp [Sem.run, hc, hfz]
  ·cases v <;> first | exact h0.elim | simp [-Sem.runT_eq, Sem.runT, hc, hfz]
  ·intro e he
   simp only [List.mem_singleton] at he
   subst he
   exact .inl ⟨a, rfl, .inl (by simp [hupd])⟩
 | new o k ih =>
  intro X w h d dF h1
  have hf := absH_fresh w.heap
  rw [h] at hf
  obtain ⟨hf1, hF⟩ := hun_none hf
  obtain ⟨hX, hRn⟩ := hun_none hf1
  have z : RunZ R F X w (hupd X w.heap.size o) { w with heap := w.heap.push o } := by
   refine ⟨⟨rfl, rfl, rfl⟩, ?_, d.hupd hRn, ?_, by simp, fun b hb => hupd_ne_none hb, fun b hb => ?_⟩
   ·rw [absH_push, h, ← hun_hupd, ← hun_hupd]
   ·rw [hun_hupd]; exact dF.hupd hF
   ·by_cases hb2 : b = w.heap.size
    ·exact .inr (by omega)
    ·simp only [hupd, if_neg hb2] at hb; exact .inl hb
  have h2 := h1 w.heap.size (by simp [hun, hX, (hR.none _).2 hRn])
  rw [← hun_hupd] at h2
  exact AfterZ.step (l := []) z (ih _ _ { w with heap := w.heap.push o } z.heap z.disj z.disjF h2) rfl (fun es => by simp [-Sem.runT_eq, Sem.runT]) (by simp)
 | shape r k ih =>
  intro X w h d dF ⟨o, h1, h2⟩
  obtain ⟨o', ho, hs⟩ := shape_z hR h1
  have e : w.shape? r = shapeO o := by
   rw [← hs]
   have h1' : w.heap[r]? = some o' := by
    show absH w.heap r = some o'
    rw [h]; exact hun_left ho
   simp only [World.shape?, h1']
   cases o' <;> rfl
  exact AfterZ.step (l := []) (.refl h d dF) (ih _ X w h d dF h2) (by simp only [Sem.run, e]) (fun es => by simp [-Sem.runT_eq, Sem.runT, e]) (by simp)
 | freeze a n k ih =>
  intro X w h d dF ⟨hn, c, e, h1, h2⟩
  have hx : X a.block = some (.cells c e (0, 0)) := by
   cases hx : X a.block with
   | some o' => rw [hun_left hx] at h1; exact h1
   | none =>
    rw [hunR hx] at h1
    rcases hR.some _ _ h1 with ⟨c', e', f, _, heq⟩ | ⟨_, hn2, _⟩
    ·injection heq with _ _ h3
     have := congrArg Prod.snd h3
     simp only at this
     have := Nat.le_max_left (c'.size + 1) f.2
     omega
    ·exact absurd rfl (hn2 _ _ _)
  have ho : absH w.heap a.block = some (.cells c e (0, 0)) := by rw [h]; exact hun_left (hun_left hx)
  have z : RunZ R F X w (hupd X a.block (.cells c e (a.off, a.off + n))) (w.freeze a n) := by
   refine ⟨freeze_env w a hn, ?_, d.hupd (d.right hx), ?_, ?_, fun b hb => hupd_ne_none hb, fun b hb => ?_⟩
   ·rw [absH_freeze w a hn ho, h, ← hun_hupd, ← hun_hupd]
   ·rw [hun_hupd]; exact dF.hupd (dF.right (hun_left hx))
   ·unfold World.freeze; rw [if_neg hn]; simp
   ·by_cases hb2 : b = a.block
    ·subst hb2; exact .inl (by simp [hx])
    ·simp only [hupd, if_neg hb2] at hb; exact .inl hb
  rw [← hun_hupd] at h2
  exact AfterZ.step (l := []) z (ih _ (w.freeze a n) z.heap z.disj z.disjF h2) rfl (fun es => by simp [-Sem.runT_eq, Sem.runT]) (by simp)
 | frozen a k ih =>
  intro X w h d dF ⟨o, h1, h2⟩
  have hfr : w.frozen? a = true → frozenO o a.off = true := by
   intro hw
   cases hx : X a.block with
   | some o' =>
    have hz : o = o' := by rw [hun_left hx] at h1; exact (Option.some.inj h1).symm
    subst hz
    have h1' : w.heap[a.block]? = some o := by
     show absH w.heap a.block = some o
     rw [h]; exact hun_left (hun_left hx)
    simp only [World.frozen?, h1'] at hw
    cases o <;> first | exact hw | cases hw
   | none =>
    have hz : Z a.block = some o := by rw [hunR hx] at h1; exact h1
    rcases hR.some _ _ hz with ⟨c, e, f, hr, rfl⟩ | ⟨_, _, k0, bf, cl0, s0, r0, t0, hr⟩
    ·have h1' : w.heap[a.block]? = some (.cells c e f) := by
      show absH w.heap a.block = some _
      rw [h]; exact hun_left (by rw [hunR hx]; exact hr)
     simp only [World.frozen?, h1'] at hw
     simp only [frozenO, Bool.and_eq_true, decide_eq_true_eq] at hw ⊢
     exact ⟨Nat.zero_le _, Nat.lt_of_lt_of_le hw.2 (Nat.le_max_right _ _)⟩
    ·have h1' : w.heap[a.block]? = some (.chan k0 bf cl0 s0 r0 t0) := by
      show absH w.heap a.block = some _
      rw [h]; exact hun_left (by rw [hunR hx]; exact hr)
     simp [World.frozen?, h1'] at hw
  exact AfterZ.step (l := []) (.refl h d dF) (ih _ X w h d dF (h2 (w.frozen? a) hfr)) rfl (fun es => by simp [-Sem.runT_eq, Sem.runT]) (by simp)
 | getObj r k ih =>
  intro X w h d dF ⟨o, h1, h2, h3⟩
  have hx := z_obj hR h1 h2
  have h1' : w.heap[r]? = some o := by
   show absH w.heap r = some o
   rw [h]; exact hun_left (hun_left hx)
  refine AfterZ.step (l := [⟨.obj r, false, o.isChan⟩]) (.refl h d dF) (ih o X w h d dF h3) ?_ (fun es => ?_) ?_
  ·simp only [Sem.run, h1']
   cases o <;> first | exact h2.elim | rfl
  ·simp only [Sem.runT, h1']
   cases o <;> first | exact h2.elim | simp
  ·intro e he
   simp only [List.mem_singleton] at he
   subst he
   exact .inr (.inl ⟨r, rfl, by simp [hx]⟩)
 | setObj r o k ih =>
  intro X w h d dF ⟨o', h1, h2, h3⟩
  have hx := z_obj hR h1 h2
  have ho : absH w.heap r = some o' := by rw [h]; exact hun_left (hun_left hx)
  have h1' : w.heap[r]? = some o' := ho
  have z : RunZ R F X w (hupd X r o) { w with heap := w.heap.setIfInBounds r o } := by
   refine ⟨⟨rfl, rfl, rfl⟩, ?_, d.hupd (d.right hx), ?_, by simp, fun b hb => hupd_ne_none hb, fun b hb => ?_⟩
   ·show absH (w.heap.setIfInBounds r o) = _
    rw [absH_set w.heap r o o' ho, h, ← hun_hupd, ← hun_hupd]
   ·rw [hun_hupd]; exact dF.hupd (dF.right (hun_left hx))
   ·by_cases hb2 : b = r
    ·subst hb2; exact .inl (by simp [hx])
    ·simp only [hupd, if_neg hb2] at hb; exact .inl hb
  rw [← hun_hupd] at h3
  refine AfterZ.step (l := [⟨.obj r, true, o.isChan⟩]) z (ih _ { w with heap := w.heap.setIfInBounds r o } z.heap z.disj z.disjF h3) ?_ (fun es => ?_) ?_
  ·simp only [Sem.run, h1']
   cases o' <;> first | exact h2.elim | rfl
  ·simp only [Sem.runT, h1']
   cases o' <;> first | exact h2.elim | simp
  ·intro e he
   simp only [List.mem_singleton] at he
   subst he
   exact .inr (.inl ⟨r, rfl, by simp [hupd]⟩)
 | choose q k ih =>
  intro X w h d dF h1
  unfold dem at h1
  by_cases hq : q.forced = true
  ·rw [if_pos hq] at h1
   exact AfterZ.step (l := []) (.refl h d dF) (ih 0 X w h d dF h1) (by simp [Sem.run, hq]) (fun es => by simp [-Sem.runT_eq, Sem.runT, hq]) (by simp)
  ·rw [if_neg hq] at h1
   have z : RunZ R F X w X { w with drawn := w.drawn + 1 } := ⟨⟨rfl, rfl, rfl⟩, h, d, dF, Nat.le_refl _, fun _ h => h, fun _ h => .inl h⟩
   exact AfterZ.step (l := []) z (ih _ X { w with drawn := w.drawn + 1 } h d dF (h1 (w.tape w.drawn q))) (by simp [Sem.run, hq]) (fun es => by simp [-Sem.runT_eq, Sem.runT, hq]) (by simp)
 | sys c k ih => intro X w _ _ _ h; exact h.elim
 | program k ih =>
  intro X w h d dF h1
  exact AfterZ.step (l := []) (.refl h d dF) (ih P X w h d dF h1) rfl (fun es => by simp [-Sem.runT_eq, Sem.runT]) (by simp)
 | mark m k ih =>
  intro X w h d dF h1
  refine AfterZ.step (l := [⟨.mark m, false, true⟩]) (.refl h d dF) (ih X w h d dF h1.2) rfl (fun es => by simp [-Sem.runT_eq, Sem.runT]) ?_
  intro e he
  simp only [List.mem_singleton] at he
  subst he
  exact .inr (.inr ⟨m, rfl, h1.1⟩)
 | halt x =>
  intro X w h d dF k
  cases x <;> first | exact k.elim | exact ⟨X, w, .refl h d dF, fun es e he => .inl he, .inr ⟨_, rfl, k⟩⟩
end Go.HL
namespace Go.HL
open Go Go.Conc Go.ConcN
def Must (P : Program) (Goal : Machine → Trace → Prop) (m : Machine) (t : Trace) : Prop := ∃ N m' t', runNT P N m t = (.next m', t') ∧ Goal m' t'
theorem runNT_seq {P : Program} : ∀ {N N' : Nat} {m m1 m2 : Machine} {t t1 t2 : Trace}, runNT P N m t = (.next m1, t1) → runNT P N' m1 t1 = (.next m2, t2) → runNT P (N + N') m t = (.next m2, t2)
 | 0, N', m, m1, m2, t, t1, t2, h, k => by
  simp only [runNT, Prod.mk.injEq, Stepped.next.injEq] at h
  obtain ⟨rfl, rfl⟩ := h
  rw [Nat.zero_add]; exact k
 | N + 1, N', m, m1, m2, t, t1, t2, h, k => by
  rw [show N + 1 + N' = (N + N') + 1 by omega]
  cases hs : stepT P m with
  | mk r ops =>
   cases r with
   | next m' =>
    simp only [runNT, hs] at h ⊢
    exact runNT_seq h k
   | _ => simp [runNT, hs] at h
theorem Must.done {P : Program} {Goal : Machine → Trace → Prop} {m : Machine} {t : Trace} (h : Goal m t) : Must P Goal m t := ⟨0, m, t, rfl, h⟩
theorem Must.step {P : Program} {Goal : Machine → Trace → Prop} {m m' : Machine} {t : Trace} {ops : Array MemOp} (hs : stepT P m = (.next m', ops)) (h : Must P Goal m' (t ++ ops)) : Must P Goal m t := by
 obtain ⟨N, m2, t2, e, g⟩ := h
 exact ⟨N + 1, m2, t2, by simp only [runNT, hs]; exact e, g⟩
theorem Must.bind {P : Program} {Goal Goal' : Machine → Trace → Prop} {m : Machine} {t : Trace} (h : Must P Goal m t) (k : ∀ m t, Goal m t → Must P Goal' m t) : Must P Goal' m t := by
 obtain ⟨N, m1, t1, e1, g1⟩ := h
 obtain ⟨N2, m2, t2, e2, g2⟩ := k _ _ g1
 exact ⟨N + N2, m2, t2, runNT_seq e1 e2, g2⟩
theorem Deaf_ne (t : Trace) (g : Nat) (u : Trace) (hu : ∀ op ∈ u, op.g ≠ g) : Deaf (t ++ u) g = Deaf t g := by
 obtain ⟨l⟩ := u
 rw [Deaf_append]
 have : ∀ (l : List MemOp) (d : Nat), (∀ op ∈ l, op.g ≠ g) → l.foldl (deafStep g) d = d := by
  intro l
  induction l with
  | nil => intro d _; rfl
  | cons a l ih =>
   intro d h
   have ha : deafStep g d a = d := by
    have := h a (by simp)
    unfold deafStep
    split <;> simp_all
   simp only [List.foldl_cons, ha]
   exact ih d fun op hop => h op (by simp [hop])
 exact this l _ fun op hop => hu op (by simpa using hop)
structure Crew (P : Program) (Sp : Nat → Prop) (t : Trace) (gs : Array Goroutine) (q : Nat → Nat) : Prop where
 old : ∀ i g, ¬ Sp i → gs[i]? = some g → QuitsD P (q i) (Deaf t i) g
 above : ∀ j, gs.size ≤ j → Deaf t j = 0
theorem Crew.of {P : Program} {t : Trace} {gs : Array Goroutine} {q : Nat → Nat} (h : Leavers P t gs q) : Crew P (· = 0) t gs q := ⟨fun i g hi hg => h.old i g (by omega) hg, h.above⟩
theorem Crew.to {P : Program} {t : Trace} {gs : Array Goroutine} {q : Nat → Nat} (h : Crew P (· = 0) t gs q) : Leavers P t gs q := ⟨fun i g hi hg => h.old i g (by omega) hg, h.above⟩
theorem Crew.app {P : Program} {Sp : Nat → Prop} {t : Trace} {gs gs' : Array Goroutine} {q : Nat → Nat} (h : Crew P Sp t gs q) (u : Trace) (hu : ∀ op ∈ u, Sp op.g ∧ op.g < gs.size) (hs : gs'.size = gs.size)
  (hg : ∀ i g, ¬ Sp i → gs[i]? = some g → gs'[i]? = some g) : Crew P Sp (t ++ u) gs' q := by
 refine ⟨fun i g hi hgi => ?_, fun j hj => ?_⟩
 ·rw [Deaf_ne t i u fun op hop e => hi (e ▸ (hu op hop).1)]
  have hlt : i < gs.size := by rw [← hs]; exact (Array.getElem?_eq_some_iff.1 hgi).1
  have h1 := hg i gs[i] hi (Array.getElem?_eq_getElem hlt)
  rw [h1] at hgi
  cases hgi
  exact h.old i _ hi (Array.getElem?_eq_getElem hlt)
 ·rw [Deaf_ne t j u fun op hop e => by have := (hu op hop).2; omega]
  exact h.above j (by omega)
theorem g_ofEvents {g : Nat} {fn : FuncId} {pos : String} {es : Array Event} : ∀ op ∈ MemOp.ofEvents g fn pos es, op.g = g := by
 intro op hop
 obtain ⟨e, _, rfl⟩ := Go.Conc.mem_ofEvents hop
 rfl
def Ready (P : Program) (Sp : Nat → Prop) (J : Trace → Prop) (gs : Array Goroutine) (w : World) (m : Machine) (t : Trace) : Prop :=
 ∃ (gs' : Array Goroutine) (d : Nat) (sl : Option (Nat × Nat)) (q : Nat → Nat) (i : Nat) (g : Goroutine) (d' : Nat) (sl' : Option (Nat × Nat)), m = crowd gs' (w.at d) sl ∧ gs'.size = gs.size ∧ (∀ i, Sp i → gs'[i]? = gs[i]?) ∧ Crew P Sp t gs' q ∧ J t ∧
  Sp i ∧ gs'[i]? = some g ∧ g.status = .running ∧ stepT P m = runT P (crowd gs' (w.at d') sl') i
theorem slip {P : Program} {Sp : Nat → Prop} {J : Trace → Prop} (hs0 : Sp 0) (hJ : ∀ t i fn pos (es : Array Event), ¬ Sp i → J t → (∀ e ∈ es, Event.mute e = true) → J (t ++ MemOp.ofEvents i fn pos es)) :
  ∀ (M : Nat) (gs : Array Goroutine) (w : World) (sl : Option (Nat × Nat)) (t : Trace) (q : Nat → Nat), sumTo gs.size q ≤ M → Crew P Sp t gs q →
   (∀ i g, Sp i → gs[i]? = some g → awake g ∧ ∀ d, g.again (w.at d) = g) → (∃ i g, Sp i ∧ gs[i]? = some g ∧ g.status = .running) → J t → Must P (Ready P Sp J gs w) (crowd gs w sl) t := by
 intro M
 induction M with
 | zero =>
  intro gs w sl t q hM hC hS hr hj
  have haw : ∀ g ∈ gs, awake g := by
   intro g hg
   obtain ⟨i, hi, rfl⟩ := Array.mem_iff_getElem.1 hg
   by_cases hsp : Sp i
   ·exact (hS i _ hsp (Array.getElem?_eq_getElem hi)).1
   ·exact awake_of ((hC.old i _ hsp (Array.getElem?_eq_getElem hi)).status.elim .inl fun x => .inr (.inr x))
  obtain ⟨i0, g0, hsp0, hg0, hr0⟩ := hr
  obtain ⟨i, g, d, sl', hi, hg, hst⟩ := crowd_pick (P := P) (w := w) (sl := sl) haw ⟨i0, g0, hg0, hr0⟩
  by_cases hsp : Sp i
  ·exact .done ⟨gs, w.drawn, sl, q, i, g, d, sl', rfl, rfl, fun _ _ => rfl, hC, hj, hsp, hi, hg, hst⟩
  ·have hq := hC.old i g hsp hi
   have hlt : i < gs.size := (Array.getElem?_eq_some_iff.1 hi).1
   have := le_sumTo (f := q) hlt
   rw [show q i = 0 by omega] at hq
   rw [hq.1] at hg; cases hg
 | succ M ih =>
  intro gs w sl t q hM hC hS hr hj
  have haw : ∀ g ∈ gs, awake g := by
   intro g hg
   obtain ⟨i, hi, rfl⟩ := Array.mem_iff_getElem.1 hg
   by_cases hsp : Sp i
   ·exact (hS i _ hsp (Array.getElem?_eq_getElem hi)).1
   ·exact awake_of ((hC.old i _ hsp (Array.getElem?_eq_getElem hi)).status.elim .inl fun x => .inr (.inr x))
  obtain ⟨i0, g0, hsp0, hg0, hr0⟩ := hr
  obtain ⟨i, g, d, sl', hi, hg, hst⟩ := crowd_pick (P := P) (w := w) (sl := sl) haw ⟨i0, g0, hg0, hr0⟩
  by_cases hsp : Sp i
  ·exact .done ⟨gs, w.drawn, sl, q, i, g, d, sl', rfl, rfl, fun _ _ => rfl, hC, hj, hsp, hi, hg, hst⟩
  ·have hq := hC.old i g hsp hi
   have hlt : i < gs.size := (Array.getElem?_eq_some_iff.1 hi).1
   cases hqi : q i with
   | zero => rw [hqi] at hq; rw [hq.1] at hg; cases hg
   | succ k =>
    rw [hqi] at hq
    rcases hq with ⟨hf, _⟩ | ⟨_, g', es, hm, hstp, hq'⟩
    ·rw [hf] at hg; cases hg
    have hne : i ≠ 0 := fun e => hsp (e ▸ hs0)
    have hi0 : (i == 0) = false := by simp [hne]
    have hrunT := runT_crowd_go (P := P) (sl := sl') (i := i) hi (by rw [hi0]; exact hstp (w.at d))
    have hsz : ((gs.map (woken P g g' (w.at d))).setIfInBounds i g').size = gs.size := by simp
    have hsum : sumTo gs.size (Go.ConcN.upd q i k) + (k + 1) = sumTo gs.size q + k := by
     have := sumTo_upd q k id hlt
     simpa [hqi] using this
    have keep : ∀ j, Sp j → ((gs.map (woken P g g' (w.at d))).setIfInBounds i g')[j]? = gs[j]? := by
     intro j hj
     have hij : i ≠ j := fun e => hsp (e ▸ hj)
     rw [Array.getElem?_setIfInBounds_ne hij, Array.getElem?_map]
     cases hgj : gs[j]? with
     | none => rfl
     | some x =>
      have := (hS j x hj hgj).2 d
      simp only [Option.map_some, woken]
      split
      ·rw [this]
      ·rfl
    have hC' : Crew P Sp (t ++ MemOp.ofEvents i g.frame.fn g.frame.place es) ((gs.map (woken P g g' (w.at d))).setIfInBounds i g') (Go.ConcN.upd q i k) := by
     refine ⟨fun j x hj hx => ?_, fun j hj => ?_⟩
     ·by_cases hji : i = j
      ·subst hji
       rw [Array.getElem?_setIfInBounds_self_of_lt (by simpa using hlt)] at hx
       obtain rfl := Option.some.inj hx
       rw [upd_same, Deaf_own]
       exact hq'
      ·rw [Array.getElem?_setIfInBounds_ne hji, Array.getElem?_map] at hx
       obtain ⟨y, hy, rfl⟩ := Option.map_eq_some_iff.1 hx
       have hqj := hC.old j y hj hy
       rw [woken_quitsD hqj, upd_ne q k (Ne.symm hji), Deaf_ne t j _ (fun op hop => by rw [g_ofEvents op hop]; exact hji)]
       exact hqj
     ·rw [Deaf_ne t j _ (fun op hop => by rw [g_ofEvents op hop]; rw [hsz] at hj; omega)]
      exact hC.above j (by rw [hsz] at hj; exact hj)
    have := ih ((gs.map (woken P g g' (w.at d))).setIfInBounds i g') (w.at d) sl' (t ++ MemOp.ofEvents i g.frame.fn g.frame.place es) (Go.ConcN.upd q i k) (by rw [hsz]; omega) hC'
     (fun j x hj hx => by rw [keep j hj] at hx; exact ⟨(hS j x hj hx).1, (hS j x hj hx).2⟩)
     ⟨i0, g0, hsp0, by rw [keep i0 hsp0]; exact hg0, hr0⟩ (hJ t i _ _ es hsp hj hm)
    refine .step (hst.trans hrunT) (this.bind fun m t h => .done ?_)
    obtain ⟨gs', d1, sl1, q1, i1, g1, d1', sl1', e1, e2, e3, e4, e5, e6, e7, e8, e9⟩ := h
    exact ⟨gs', d1, sl1, q1, i1, g1, d1', sl1', e1, e2.trans hsz, fun j hj => (e3 j hj).trans (keep j hj), e4, e5, e6, e7, e8, e9⟩
theorem hun_emp (h : AH) : hun h (fun _ => none) = h := by
 funext b
 simp only [hun]
 cases h b <;> rfl
theorem disj_emp (h : AH) : Disj h (fun _ => none) := fun _ => .inr rfl
theorem zf_emp : zf (fun _ => none) = fun _ => none := rfl
theorem cells_emp : OnlyRows (fun _ => none) := fun _ _ h => by cases h
theorem EvOK.low {X R : AH} {B : Nat} {e : Event} (h : EvOK X R e) (hX : ∀ b, X b ≠ none → b < B) (hR : ∀ b, R b ≠ none → b < B) : EvL (fun _ => False) B e := by
 obtain ⟨loc, wr, sy⟩ := e
 refine ⟨fun _ _ hs => hs.elim, ?_, ?_, ?_⟩
 ·rcases h with ⟨a, h1, _⟩ | ⟨r, h1, _⟩ | ⟨m, h1, h2⟩
  ·simp only at h1; rw [h1]; simp
  ·simp only at h1; rw [h1]; simp
  ·simp only at h1; rw [h1]; intro e; cases e; cases h2
 ·rcases h with ⟨a, h1, _⟩ | ⟨r, h1, _⟩ | ⟨m, h1, h2⟩
  ·simp only at h1; rw [h1]; simp
  ·simp only at h1; rw [h1]; simp
  ·simp only at h1; rw [h1]; intro e; cases e; cases h2
 ·rcases h with ⟨a, h1, h2 | h2⟩ | ⟨r, h1, h2⟩ | ⟨m, h1, h2⟩
  ·simp only at h1; subst h1; exact hX _ h2
  ·simp only at h1; subst h1; exact hR _ h2.1
  ·simp only at h1; subst h1
   cases wr <;> cases sy <;> exact hX _ h2
  ·simp only at h1; subst h1
   cases m <;> first | exact trivial | cases h2
theorem sem_far {P : Program} {fr : Frame} {cs : List Frame} {h : AH} {β : Type} {s : Sem β} {ok : β → Prop} {okp : Value → Prop} {nxt : β → Frame × List Frame} {pan : Value → Frame × List Frame} {X : β → AH → Prop} {Y : Value → AH → Prop}
  {Q : Frame → List Frame → AH → Prop}
  (hs : StepBy P fr cs s ok okp nxt pan) (hd : dem P s h X Y) (hok : ∀ b h', X b h' → ok b) (hokp : ∀ v h', Y v h' → okp v) (hx : ∀ b h', X b h' → Far P Q (nxt b).1 (nxt b).2 h') (hy : ∀ v h', Y v h' → Far P Q (pan v).1 (pan v).2 h') : Far P Q fr cs h := by
 intro F gs w sl t q h0 hh d hL hP
 have rd := slip (P := P) (Sp := (· = 0)) (J := Past (fun _ => False) w.heap.size) rfl (fun t i fn pos es hi hj hm => hj.mute hi hm) _ gs w sl t q (Nat.le_refl _) (Crew.of hL)
  (fun i g hi hg => by
   subst hi
   rw [h0] at hg
   cases hg
   exact ⟨awake_of (.inl rfl), fun d => again_running _ (.inl rfl)⟩) ⟨0, _, rfl, h0, rfl⟩ hP
 obtain ⟨N1, m1, t1, e1, gs1, d1, sl1, q1, i, g, d1', sl1', rfl, hsz, hkeep, hC1, hP1, hi, hg, hrun, hst⟩ := rd
 subst hi
 rw [hkeep 0 rfl, h0] at hg
 cases hg
 have hg0 : gs1[0]? = some (G fr cs) := by rw [hkeep 0 rfl]; exact h0
 have az := dem_runZ (P := P) (Z := zf fun _ => none) (R := fun _ => none) (F := F) (lent_zf cells_emp) h (w.at d1') (by rw [hun_emp]; exact hh) (disj_emp h) (by rw [hun_emp]; exact d) (by rw [zf_emp, hun_emp]; exact hd)
 obtain ⟨X', w', z, hev, ho⟩ := az
 have zh := z.heap
 have zd := z.disjF
 rw [hun_emp] at zh zd
 have hX : ∀ b, X' b ≠ none → b < w'.heap.size := fun b hb => absH_lt zh (fun e => hb (hun_none e).1)
 have go : ∀ (fr' : Frame) (cs' : List Frame), (stepG P true (G fr cs) (w.at d1')).tells (s.events P (w.at d1') #[]) (G fr' cs') w' → Far P Q fr' cs' X' →
   ∃ (N : Nat) (gs' : Array Goroutine) (fr' : Frame) (cs' : List Frame) (h' : AH) (w' : World) (sl' : Option (Nat × Nat)) (t' : Trace) (q' : Nat → Nat),
    runNT P N (crowd gs w sl) t = (.next (crowd gs' w' sl'), t') ∧ gs'[0]? = some (G fr' cs') ∧ absH w'.heap = hun h' F ∧ Disj h' F ∧ Leavers P t' gs' q' ∧
     Past (fun _ => False) w'.heap.size t' ∧ SameEnv w w' ∧ Q fr' cs' h' := by
  intro fr' cs' ht far
  obtain ⟨es, hgo, hes⟩ := tells_eq.1 ht
  have hrunT := runT_crowd_go (P := P) (sl := sl1') (i := 0) hg0 (show stepG P (0 == 0) (G fr cs) (w.at d1') = _ from hgo)
  have hlt : 0 < gs1.size := (Array.getElem?_eq_some_iff.1 hg0).1
  have hL' := (hC1.app (gs' := (gs1.map (woken P (G fr cs) (G fr' cs') w')).setIfInBounds 0 (G fr' cs')) (MemOp.ofEvents 0 (G fr cs).frame.fn (G fr cs).frame.place es) (fun op hop => by rw [g_ofEvents op hop]; exact ⟨rfl, hlt⟩) (by simp)
   (fun j x hj hx => by
    rw [Array.getElem?_setIfInBounds_ne (fun e => hj e.symm), Array.getElem?_map, hx]
    simp only [Option.map_some]
    rw [woken_quitsD (hC1.old j x hj hx)])).to
  have hP' : Past (fun _ => False) w'.heap.size (t1 ++ MemOp.ofEvents 0 (G fr cs).frame.fn (G fr cs).frame.place es) := by
   refine (hP1.mono z.size).own fun e he => ?_
   have := hev #[] e (hes e he)
   rcases this with h1 | h1
   ·simp at h1
   ·exact h1.low hX (fun b hb => absurd rfl hb)
  obtain ⟨N2, gs2, fr2, cs2, h2, w2, sl2, t2, q2, e2, r2, r3, r4, r5, r6, r7, r8⟩ := far F _ w' sl1' _ q1 (by simp [hlt]) zh zd hL' hP'
  have z0 : SameEnv w (w.at d1') := ⟨rfl, rfl, rfl⟩
  refine ⟨N1 + (N2 + 1), gs2, fr2, cs2, h2, w2, sl2, t2, q2, runNT_seq e1 ?_, r2, r3, r4, r5, r6, (z0.trans z.env).trans r7, r8⟩
  simp only [runNT, hst.trans hrunT]
  exact e2
 rcases ho with ⟨a, ho, hk⟩ | ⟨v, ho, hk⟩
 ·rw [zf_emp, hun_emp] at hk
  exact go _ _ ((hs true (w.at d1')).1 a w' ho (hok _ _ hk)) (hx _ _ hk)
 ·rw [zf_emp, hun_emp] at hk
  exact go _ _ ((hs true (w.at d1')).2 v w' ho (hokp _ _ hk)) (hy _ _ hk)
theorem Far.bind {P : Program} {X Q : Frame → List Frame → AH → Prop} {fr : Frame} {cs : List Frame} {h : AH} (f : Far P X fr cs h) (k : ∀ fr cs h, X fr cs h → Far P Q fr cs h) : Far P Q fr cs h := by
 intro F gs w sl t q h1 h2 h3 h4 h5
 obtain ⟨N, gs', fr', cs', h', w', sl', t', q', e1, e2, e3, e4, e5, e6, e7, x⟩ := f F gs w sl t q h1 h2 h3 h4 h5
 obtain ⟨N2, gs2, fr2, cs2, h2', w2, sl2, t2, q2, r1, r2, r3, r4, r5, r6, r7, r8⟩ := k _ _ _ x F gs' w' sl' t' q' e2 e3 e4 e5 e6
 exact ⟨N + N2, gs2, fr2, cs2, h2', w2, sl2, t2, q2, runNT_seq e1 r1, r2, r3, r4, r5, r6, e7.trans r7, r8⟩
theorem Rch.beside [Lvl] (hco : Lvl.co = none) (hci : Lvl.ci = none) {P : Program} {Q : Frame → List Frame → AH → Prop} {fr : Frame} {cs : List Frame} {h : AH} (r : Rch P Q fr cs h) : Far P Q fr cs h := by
 induction r with
 | done q => intro F gs w sl t qq h1 h2 h3 h4 h5; exact ⟨0, gs, _, _, _, w, sl, t, qq, rfl, h1, h2, h3, h4, h5, .refl w, q⟩
 | sem s ok okp nxt pan X Y hs hd hok hokp _ _ ihx ihy => exact sem_far hs hd hok hokp ihx ihy
 | far hl X hf hs _ ih => exact hf.bind ih
 | send hl' _ _ _ _ => rw [hco] at hl'; cases hl'
 | recv hl' _ _ _ _ => rw [hci] at hl'; cases hl'
 | last hl' _ _ _ _ => rw [hci] at hl'; cases hl'
theorem runN_of_runNT {P : Program} : ∀ {N : Nat} {m m' : Machine} {t t' : Trace}, runNT P N m t = (.next m', t') → runN P N m = .next m'
 | 0, m, m', t, t', h => by
  simp only [runNT, Prod.mk.injEq] at h
  simp only [runN, h.1]
 | N + 1, m, m', t, t', h => by
  cases hs : stepT P m with
  | mk r ops =>
   cases r with
   | next m1 =>
    simp only [runNT, hs] at h
    simp only [runN, step, hs]
    exact runN_of_runNT h
   | _ => simp [runNT, hs] at h
theorem runN_seq {P : Program} : ∀ {N N' : Nat} {m m1 m2 : Machine}, runN P N m = .next m1 → runN P N' m1 = .next m2 → runN P (N + N') m = .next m2
 | 0, N', m, m1, m2, h, k => by
  simp only [runN, Stepped.next.injEq] at h
  subst h
  rw [Nat.zero_add]; exact k
 | N + 1, N', m, m1, m2, h, k => by
  rw [show N + 1 + N' = (N + N') + 1 by omega]
  cases hs : step P m with
  | next m' =>
   simp only [runN, hs] at h ⊢
   exact runN_seq h k
  | _ => simp [runN, hs] at h
theorem runNT_seqE {P : Program} {o : Outcome} {w : World} : ∀ {N N' : Nat} {m m1 : Machine} {t t1 t2 : Trace}, runNT P N m t = (.next m1, t1) → runNT P N' m1 t1 = (.ended o w, t2) → runNT P (N + N') m t = (.ended o w, t2)
 | 0, N', m, m1, t, t1, t2, h, k => by
  simp only [runNT, Prod.mk.injEq, Stepped.next.injEq] at h
  obtain ⟨rfl, rfl⟩ := h
  rw [Nat.zero_add]; exact k
 | N + 1, N', m, m1, t, t1, t2, h, k => by
  rw [show N + 1 + N' = (N + N') + 1 by omega]
  cases hs : stepT P m with
  | mk r ops =>
   cases r with
   | next m' =>
    simp only [runNT, hs] at h ⊢
    exact runNT_seqE h k
   | _ => simp [runNT, hs] at h
theorem Rch.ends [Lvl] (hco : Lvl.co = none) (hci : Lvl.ci = none) {P : Program} {Q : Frame → List Frame → AH → Prop} {Post : Value → World → Prop} {fr : Frame} {cs : List Frame} {W : World} (r : Rch P Q fr cs (absH W.heap))
  (hq : ∀ fr cs h w, Q fr cs h → SameEnv W w → absH w.heap = h → AtEnd P (fun _ => False) w.heap.size Post (G fr cs) w) :
  ∃ M last o w' t', runNT P (M + 1) (solo (G fr cs) W) #[] = (.ended o w', t') ∧ runN P M (solo (G fr cs) W) = .next last ∧ step P last = .ended o w' ∧ Good P Post last o w' t' := by
 obtain ⟨N, gs, fr', cs', h', w', sl', t', q', e1, e2, e3, _, e5, e6, e7, x⟩ := r.beside hco hci (fun _ => none) #[G fr cs] W none #[] (fun _ => 0) rfl (hun_emp _).symm (disj_emp _) (leavers_one P _) (past_nil.mono (Nat.zero_le _))
 rw [hun_emp] at e3
 obtain ⟨N2, last, o, w2, t2, r1, r2, r3, r4⟩ := beside_ends (P := P) (Shun := fun _ => False) (B := w'.heap.size) (D := fun _ _ _ => False) (Post := Post) (n := 0) (fun _ _ _ h => h.elim) (sl := sl') e2 e5 e6
  (fun w1 hw1 => by
   obtain ⟨d, rfl⟩ := hw1
   have z0 : SameEnv w' (w'.at d) := ⟨rfl, rfl, rfl⟩
   exact hq _ _ _ (w'.at d) x (e7.trans z0) e3)
 have e0 : crowd #[G fr cs] W none = solo (G fr cs) W := rfl
 rw [e0] at e1
 have a1 := runNT_seqE (N := N) (N' := N2 + 1) e1 r1
 have a2 := runN_seq (runN_of_runNT e1) r2
 exact ⟨N + N2, last, o, w2, t2, a1, a2, r3, r4⟩
end Go.HL
namespace Go.HL
open Go Go.Conc Go.ConcN
def blkOf : Loc → Option Nat
 | .cell a => some a.block
 | .obj r => some r
 | _ => none
theorem blk_mem {l : Loc} (h : l.isMemory = true) : ∃ b, blkOf l = some b := by
 cases l <;> first | exact ⟨_, rfl⟩ | cases h
theorem low_touch {B : Nat} {x : MemAct} {a : Touch} {b : Nat} (hl : x.low B) (h : x.touch? = some a) (hb : blkOf a.loc = some b) : b < B := by
 cases x with
 | access e =>
  simp only [MemAct.touch?, Option.some.injEq] at h
  subst h
  obtain ⟨loc, wr, sy⟩ := e
  cases loc <;> simp only [blkOf, Option.some.injEq, reduceCtorEq] at hb <;> subst hb <;> exact hl
 | mark m =>
  cases m <;> simp only [MemAct.touch?, Option.some.injEq, reduceCtorEq] at h <;> subst h <;> simp only [blkOf, Option.some.injEq] at hb <;> subst hb <;> exact hl
 | _ => simp [MemAct.touch?] at h
structure Duo (k B : Nat) (W S : Nat → Prop) (t : Trace) : Prop where
 clean : ∀ said, ¬ Race said t
 both : ∀ i a, touchAt t i = some a → a.loc.isMemory = true → Knows t 0 i ∨ Knows t k i
 main : ∀ i a b, touchAt t i = some a → blkOf a.loc = some b → ¬ W b → (S b → a.write = true) → Knows t 0 i
 work : ∀ i a b, touchAt t i = some a → blkOf a.loc = some b → (W b ∨ (S b ∧ a.write = true)) → Knows t k i
 over : ∀ i g, t.g? i = some g → g ≠ 0 → g ≠ k → t.counts i → ∃ j, t.g? j = some 0 ∧ HappensBefore t i j
 hears : Deaf t 0 = 0
 heark : Deaf t k = 0
 seen : ∀ op ∈ t, op.act.low B
section
variable {k B : Nat} {W S : Nat → Prop} {t u : Trace}
theorem seen_blk (h : ∀ op ∈ t, op.act.low B) {i : Nat} {a : Touch} {b : Nat} (ht : touchAt t i = some a) (hb : blkOf a.loc = some b) : b < B := by
 obtain ⟨x, hx, hxa⟩ := touch_of ht
 exact low_touch (h x (Array.mem_of_getElem? hx)) hxa hb
theorem Duo.grow {B' : Nat} {W' : Nat → Prop} (h : Duo k B W S t) (hB : B ≤ B') (hW : ∀ b, b < B → (W' b ↔ W b)) : Duo k B' W' S t := by
 refine ⟨h.clean, h.both, fun i a b ht hb hw hs => ?_, fun i a b ht hb hw => ?_, h.over, h.hears, h.heark, fun op hop => MemAct.low_mono hB (h.seen op hop)⟩
 ·have := seen_blk h.seen ht hb
  exact h.main i a b ht hb (fun e => hw ((hW b this).2 e)) hs
 ·have := seen_blk h.seen ht hb
  exact h.work i a b ht hb (hw.imp (hW b this).1 id)
theorem g?_app {i : Nat} (hi : i < t.size) : (t ++ u).g? i = t.g? i := by simp [Trace.g?, getElem?_append_old hi]
theorem over_app {k : Nat} (h : ∀ i g, t.g? i = some g → g ≠ 0 → g ≠ k → t.counts i → ∃ j, t.g? j = some 0 ∧ HappensBefore t i j) (hu : ∀ op ∈ u, op.g = 0 ∨ op.g = k ∨ op.act.touch? = none) :
  ∀ i g, (t ++ u).g? i = some g → g ≠ 0 → g ≠ k → (t ++ u).counts i → ∃ j, (t ++ u).g? j = some 0 ∧ HappensBefore (t ++ u) i j := by
 intro i g hg hne hnk hc
 obtain ⟨x, hx, hx2⟩ := hc
 obtain ⟨op, hop, hox⟩ := touch_of hx
 rcases getElem?_append_cases hop with ⟨hi, hop'⟩ | ⟨_, hopu⟩
 ·obtain ⟨j, hj, hb⟩ := h i g (by simpa [Trace.g?, getElem?_append_old hi] using hg) hne hnk ((counts_old hi).1 ⟨x, hx, hx2⟩)
  refine ⟨j, ?_, hb_app u hb⟩
  obtain ⟨y, hy, hyg⟩ := Option.map_eq_some_iff.1 hj
  exact Option.map_eq_some_iff.2 ⟨y, by rw [getElem?_append_old (lt_size_of_getElem? hy)]; exact hy, hyg⟩
 ·have hgo : op.g = g := by simpa [Trace.g?, hop] using hg
  rcases hu op hopu with h0 | h0 | h0
  ·exact absurd (hgo.symm.trans h0) hne
  ·exact absurd (hgo.symm.trans h0) hnk
  ·rw [h0] at hox; cases hox
theorem Deaf_q {g : Nat} (hu : ∀ op ∈ u, op.g ≠ g ∨ (op.act ≠ .mark .disable ∧ op.act ≠ .mark .enable)) : Deaf (t ++ u) g = Deaf t g := by
 obtain ⟨l⟩ := u
 rw [Deaf_append]
 have : ∀ (l : List MemOp) (d : Nat), (∀ op ∈ l, op.g ≠ g ∨ (op.act ≠ .mark .disable ∧ op.act ≠ .mark .enable)) → l.foldl (deafStep g) d = d := by
  intro l
  induction l with
  | nil => intro d _; rfl
  | cons a l ih =>
   intro d h
   have ha : deafStep g d a = d := by
    unfold deafStep
    rcases h a (by simp) with h1 | ⟨h1, h2⟩
    ·split <;> simp_all
    ·split <;> simp_all
   simp only [List.foldl_cons, ha]
   exact ih d fun op hop => h op (by simp [hop])
 exact this l _ fun op hop => hu op (by simpa using hop)
theorem Duo.appk (h : Duo k B W S t) (hu : ∀ op ∈ u, op.g = k) (hm : ∀ op ∈ u, op.act ≠ .mark .disable ∧ op.act ≠ .mark .enable) (hl : ∀ op ∈ u, op.act.low B)
  (ht : ∀ op ∈ u, ∀ a, op.act.touch? = some a → ∀ b, blkOf a.loc = some b → W b ∨ (S b ∧ a.write = false)) : Duo k B W S (t ++ u) := by
 have split : ∀ {i : Nat} {a : Touch}, touchAt (t ++ u) i = some a → (touchAt t i = some a) ∨ (∃ op, (t ++ u)[i]? = some op ∧ op ∈ u ∧ op.act.touch? = some a) := by
  intro i a ha
  obtain ⟨x, hx, hxa⟩ := touch_of ha
  rcases getElem?_append_cases hx with ⟨_, hx'⟩ | ⟨_, hxu⟩
  ·exact .inl (by rw [touchAt_of hx']; exact hxa)
  ·exact .inr ⟨x, hx, hxu, hxa⟩
 refine ⟨fun said => noRace_append (h.clean said) hu fun i a ha op hop b hb hc => ?_, fun i a ha hmem => ?_, fun i a b ha hb hw hs => ?_, fun i a b ha hb hw => ?_, over_app h.over fun op hop => .inr (.inl (hu op hop)), ?_, ?_, seen_app h.seen hl⟩
 ·obtain ⟨x, hx⟩ := blk_mem hc.2.1
  refine h.work i a x ha hx ?_
  rcases ht op hop b hb x (by rw [← hc.1]; exact hx) with h1 | ⟨h1, h2⟩
  ·exact .inl h1
  ·refine .inr ⟨h1, ?_⟩
   rcases hc.2.2.1 with h3 | h3
   ·exact h3
   ·rw [h2] at h3; cases h3
 ·rcases split ha with h1 | ⟨op, h1, h2, h3⟩
  ·exact (h.both i a h1 hmem).imp (·.app u) (·.app u)
  ·have := knows_own h1
   rw [hu op h2] at this
   exact .inr this
 ·rcases split ha with h1 | ⟨op, h1, h2, h3⟩
  ·exact (h.main i a b h1 hb hw hs).app u
  ·rcases ht op h2 a h3 b hb with h4 | ⟨h4, h5⟩
   ·exact absurd h4 hw
   ·rw [hs h4] at h5; cases h5
 ·rcases split ha with h1 | ⟨op, h1, h2, h3⟩
  ·exact (h.work i a b h1 hb hw).app u
  ·have := knows_own h1
   rw [hu op h2] at this
   exact this
 ·rw [Deaf_q fun op hop => .inr (hm op hop)]; exact h.hears
 ·rw [Deaf_q fun op hop => .inr (hm op hop)]; exact h.heark
theorem Duo.mute (h : Duo k B W S t) (hl : ∀ op ∈ u, op.act.low B) (hn : ∀ op ∈ u, op.act.touch? = none) (hm : ∀ op ∈ u, (op.g ≠ 0 ∧ op.g ≠ k) ∨ (op.act ≠ .mark .disable ∧ op.act ≠ .mark .enable)) : Duo k B W S (t ++ u) := by
 have split : ∀ {i : Nat} {a : Touch}, touchAt (t ++ u) i = some a → (touchAt t i = some a ∧ i < t.size) := by
  intro i a ha
  obtain ⟨x, hx, hxa⟩ := touch_of ha
  rcases getElem?_append_cases hx with ⟨hi, hx'⟩ | ⟨_, hxu⟩
  ·exact ⟨by rw [touchAt_of hx']; exact hxa, hi⟩
  ·rw [hn x hxu] at hxa; cases hxa
 refine ⟨?_, fun i a ha hmem => (h.both i a (split ha).1 hmem).imp (·.app u) (·.app u), fun i a b ha hb hw hs => (h.main i a b (split ha).1 hb hw hs).app u, fun i a b ha hb hw => (h.work i a b (split ha).1 hb hw).app u,
  over_app h.over fun op hop => .inr (.inr (hn op hop)), ?_, ?_, seen_app h.seen hl⟩
 ·rintro said ⟨i, j, hij, ⟨a, b, ha, hb, hc⟩, n1, n2⟩
  exact h.clean said ⟨i, j, hij, ⟨a, b, (split ha).1, (split hb).1, hc⟩, fun e => n1 (hb_app u e), fun e => n2 (hb_app u e)⟩
 ·rw [Deaf_q fun op hop => (hm op hop).imp (·.1) id]; exact h.hears
 ·rw [Deaf_q fun op hop => (hm op hop).imp (·.2) id]; exact h.heark
theorem g0_act {x : MemOp} {t : Trace} {i : Nat} (h : t[i]? = some x) : t.act? i = some x.act ∧ t.g? i = some x.g := by simp [Trace.act?, Trace.g?, h]
structure Shut (c B : Nat) (W S : Nat → Prop) (pc : Nat) (t : Trace) : Prop where
 clean : ∀ said, ¬ Race said t
 both : ∀ i a, touchAt t i = some a → a.loc.isMemory = true → Knows t 0 i ∨ HappensBefore t i pc
 main : ∀ i a b, touchAt t i = some a → blkOf a.loc = some b → ¬ W b → (S b → a.write = true) → Knows t 0 i
 over : ∀ i g, t.g? i = some g → g ≠ 0 → t.counts i → (∃ j, t.g? j = some 0 ∧ HappensBefore t i j) ∨ HappensBefore t i pc
 hears : Deaf t 0 = 0
 close : t.act? pc = some (.close c) ∧ t.heard pc ∧ pc < t.size
 seen : ∀ op ∈ t, op.act.low B
theorem Shut.mono {c pc B' : Nat} (h : Shut c B W S pc t) (hB : B ≤ B') : Shut c B' W S pc t := ⟨h.clean, h.both, h.main, h.over, h.hears, h.close, fun op hop => MemAct.low_mono hB (h.seen op hop)⟩
theorem heard_app {i : Nat} (h : t.heard i) (hi : i < t.size) : (t ++ u).heard i := by
 obtain ⟨g, hg, hd⟩ := h
 exact ⟨g, by rw [g?_app hi]; exact hg, by rw [deaf_old (Nat.le_of_lt hi)]; exact hd⟩
theorem Shut.of {c : Nat} (h : Duo k B W S t) {y : MemOp} (hy : y.g = k) (hya : y.act = .close c) (hc : c < B) : Shut c B W S t.size (t ++ #[y]) := by
 have ey : (t ++ #[y])[t.size]? = some y := by simp
 have hu : ∀ op ∈ (#[y] : Array MemOp), op = y := by simp
 have nt : ∀ op ∈ (#[y] : Array MemOp), op.act.touch? = none := by
  intro op hop
  rw [hu op hop, hya]; rfl
 have nm : ∀ op ∈ (#[y] : Array MemOp), op.act ≠ .mark .disable ∧ op.act ≠ .mark .enable := by
  intro op hop
  rw [hu op hop, hya]; exact ⟨by simp, by simp⟩
 have D := h.mute (u := #[y]) (fun op hop => by rw [hu op hop, hya]; exact hc) nt fun op hop => .inr (nm op hop)
 have split : ∀ {i : Nat} {a : Touch}, touchAt (t ++ #[y]) i = some a → touchAt t i = some a ∧ i < t.size := by
  intro i a ha
  obtain ⟨z, hz, hza⟩ := touch_of ha
  rcases getElem?_append_cases hz with ⟨hi, hz'⟩ | ⟨_, hzu⟩
  ·exact ⟨by rw [touchAt_of hz']; exact hza, hi⟩
  ·rw [nt z hzu] at hza; cases hza
 refine ⟨D.clean, fun i a ha hm => ?_, D.main, fun i g hg h0 hc => ?_, D.hears, ⟨by rw [(g0_act ey).1, hya], ⟨k, by rw [(g0_act ey).2, hy], by rw [deaf_old (Nat.le_refl _)]; exact h.heark⟩, by simp⟩, D.seen⟩
 ·rcases h.both i a (split ha).1 hm with h1 | h1
  ·exact .inl (h1.app _)
  ·exact .inr (h1.hb_new (Nat.le_refl _) ey hy)
 ·by_cases hgk : g = k
  ·subst hgk
   obtain ⟨x, hx, _⟩ := hc
   obtain ⟨_, hi⟩ := split hx
   right
   obtain ⟨z, hz, hzg⟩ := Option.map_eq_some_iff.1 hg
   exact hb_po hi hz ey (hzg.trans hy.symm)
  ·exact .inl (D.over i g hg h0 hgk hc)
theorem over_app2 {pc : Nat} (h : ∀ i g, t.g? i = some g → g ≠ 0 → t.counts i → (∃ j, t.g? j = some 0 ∧ HappensBefore t i j) ∨ HappensBefore t i pc) (hu : ∀ op ∈ u, op.g = 0 ∨ op.act.touch? = none) :
  ∀ i g, (t ++ u).g? i = some g → g ≠ 0 → (t ++ u).counts i → (∃ j, (t ++ u).g? j = some 0 ∧ HappensBefore (t ++ u) i j) ∨ HappensBefore (t ++ u) i pc := by
 intro i g hg hne hc
 obtain ⟨x, hx, hx2⟩ := hc
 obtain ⟨op, hop, hox⟩ := touch_of hx
 rcases getElem?_append_cases hop with ⟨hi, hop'⟩ | ⟨_, hopu⟩
 ·rcases h i g (by simpa [Trace.g?, getElem?_append_old hi] using hg) hne ((counts_old hi).1 ⟨x, hx, hx2⟩) with ⟨j, hj, hb⟩ | hb
  ·refine .inl ⟨j, ?_, hb_app u hb⟩
   obtain ⟨y, hy, hyg⟩ := Option.map_eq_some_iff.1 hj
   exact Option.map_eq_some_iff.2 ⟨y, by rw [getElem?_append_old (lt_size_of_getElem? hy)]; exact hy, hyg⟩
  ·exact .inr (hb_app u hb)
 ·have hgo : op.g = g := by simpa [Trace.g?, hop] using hg
  rcases hu op hopu with h0 | h0
  ·exact absurd (hgo.symm.trans h0) hne
  ·rw [h0] at hox; cases hox
theorem act?_app {i : Nat} (hi : i < t.size) : (t ++ u).act? i = t.act? i := by simp [Trace.act?, getElem?_append_old hi]
theorem Shut.mute {c pc : Nat} (h : Shut c B W S pc t) (hl : ∀ op ∈ u, op.act.low B) (hn : ∀ op ∈ u, op.act.touch? = none) (hm : ∀ op ∈ u, op.g ≠ 0) : Shut c B W S pc (t ++ u) := by
 have split : ∀ {i : Nat} {a : Touch}, touchAt (t ++ u) i = some a → touchAt t i = some a := by
  intro i a ha
  obtain ⟨x, hx, hxa⟩ := touch_of ha
  rcases getElem?_append_cases hx with ⟨_, hx'⟩ | ⟨_, hxu⟩
  ·rw [touchAt_of hx']; exact hxa
  ·rw [hn x hxu] at hxa; cases hxa
 refine ⟨?_, fun i a ha hmem => (h.both i a (split ha) hmem).imp (·.app u) (hb_app u), fun i a b ha hb hw hs => (h.main i a b (split ha) hb hw hs).app u, over_app2 h.over fun op hop => .inr (hn op hop), ?_,
  ⟨by rw [act?_app h.close.2.2]; exact h.close.1, heard_app h.close.2.1 h.close.2.2, by have := h.close.2.2; simp; omega⟩, seen_app h.seen hl⟩
 ·rintro said ⟨i, j, hij, ⟨a, b, ha, hb, hc⟩, n1, n2⟩
  exact h.clean said ⟨i, j, hij, ⟨a, b, split ha, split hb, hc⟩, fun e => n1 (hb_app u e), fun e => n2 (hb_app u e)⟩
 ·rw [Deaf_q fun op hop => .inl (hm op hop)]; exact h.hears
theorem Shut.past {c pc : Nat} (h : Shut c B W S pc t) (hc : c < B) {y : MemOp} (hy : y.g = 0) (hya : y.act = .recvClosed c) : Past (fun _ => False) B (t ++ #[y]) := by
 have ey : (t ++ #[y])[t.size]? = some y := by simp
 have hu : ∀ op ∈ (#[y] : Array MemOp), op = y := by simp
 have nt : ∀ op ∈ (#[y] : Array MemOp), op.act.touch? = none := by
  intro op hop
  rw [hu op hop, hya]; rfl
 have split : ∀ {i : Nat} {a : Touch}, touchAt (t ++ #[y]) i = some a → touchAt t i = some a := by
  intro i a ha
  obtain ⟨x, hx, hxa⟩ := touch_of ha
  rcases getElem?_append_cases hx with ⟨_, hx'⟩ | ⟨_, hxu⟩
  ·rw [touchAt_of hx']; exact hxa
  ·rw [nt x hxu] at hxa; cases hxa
 have edge : HappensBefore (t ++ #[y]) pc t.size := .single (.inr ⟨.closed (c := c) (by rw [act?_app h.close.2.2]; exact h.close.1) (by rw [(g0_act ey).1, hya]), heard_app h.close.2.1 h.close.2.2,
  ⟨0, by rw [(g0_act ey).2, hy], by rw [deaf_old (Nat.le_refl _)]; exact h.hears⟩⟩)
 refine ⟨?_, fun i a ha hm => .inl ?_, fun i g hg h0 hcn => ?_, ?_, seen_app h.seen fun op hop => by rw [hu op hop, hya]; exact hc⟩
 ·rintro said ⟨i, j, hij, ⟨a, b, ha, hb, hcf⟩, n1, n2⟩
  exact h.clean said ⟨i, j, hij, ⟨a, b, split ha, split hb, hcf⟩, fun e => n1 (hb_app _ e), fun e => n2 (hb_app _ e)⟩
 ·rcases h.both i a (split ha) hm with h1 | h1
  ·exact h1.app _
  ·exact ⟨t.size, y, ey, hy, .inr ((hb_app _ h1).trans edge)⟩
 ·rcases over_app2 (u := #[y]) h.over (fun op hop => .inr (nt op hop)) i g hg h0 hcn with h1 | h1
  ·exact h1
  ·exact ⟨t.size, by rw [(g0_act ey).2, hy], h1.trans edge⟩
 ·rw [Deaf_q fun op hop => .inr (by rw [hu op hop, hya]; exact ⟨by simp, by simp⟩)]; exact h.hears
end
end Go.HL
namespace Go.HL
open Go Go.Conc Go.ConcN
theorem Disj.symm {a b : AH} (d : Disj a b) : Disj b a := fun x => (d x).symm
theorem hun_comm {a b : AH} (d : Disj a b) : hun a b = hun b a := by
 funext x
 rcases d x with h1 | h1
 ·simp only [hun, h1]; cases b x <;> rfl
 ·simp only [hun, h1]; cases a x <;> rfl
theorem hun_swap {a b c : AH} (d : Disj a b) : hun a (hun b c) = hun b (hun a c) := by rw [← hun_assoc, hun_comm d, hun_assoc]
theorem Disj.of_hun_right {a b c : AH} (d : Disj a (HL.hun b c)) : Disj a b ∧ Disj a c := ⟨(d.symm.of_hun).1.symm, (d.symm.of_hun).2.symm⟩
def oneC (c : Nat) (o : Obj) : AH := hupd (fun _ => none) c o
theorem oneC_same (c : Nat) (o : Obj) : oneC c o c = some o := by simp [oneC, hupd]
theorem oneC_ne {c b : Nat} {o : Obj} (h : b ≠ c) : oneC c o b = none := by simp [oneC, hupd, h]
theorem disj_oneC {X : AH} {c : Nat} {o o' : Obj} (d : Disj X (oneC c o)) : Disj X (oneC c o') := by
 intro b
 rcases d b with h | h
 ·exact .inl h
 ·by_cases hb : b = c
  ·subst hb; rw [oneC_same] at h; cases h
  ·exact .inr (oneC_ne hb)
structure St (P : Program) (R F : AH) (c k : Nat) (tm : Bool) (w0 : World) (gs : Array Goroutine) (w : World) (t : Trace) (q : Nat → Nat) (hm hw : AH) (s r : Nat) (a b : Goroutine) : Prop where
 g0 : gs[0]? = some a
 gk : gs[k]? = some b
 k0 : k ≠ 0
 heap : absH w.heap = hun hm (hun hw (hun R (hun (oneC c (.chan 0 #[] false s r tm)) F)))
 mw : Disj hm hw
 mR : Disj hm R
 wR : Disj hw R
 mC : Disj hm (oneC c (.chan 0 #[] false s r tm))
 wC : Disj hw (oneC c (.chan 0 #[] false s r tm))
 rC : Disj R (oneC c (.chan 0 #[] false s r tm))
 mF : Disj hm F
 wF : Disj hw F
 rF : Disj R F
 cF : F c = none
 crew : Crew P (fun i => i = 0 ∨ i = k) t gs q
 duo : Duo k w.heap.size (fun b => hw b ≠ none) (fun b => R b ≠ none ∨ b = c) t
 env : SameEnv w0 w
def Stay (w : World) (g : Goroutine) : Prop := awake g ∧ ∀ d, g.again (w.at d) = g
theorem stay_run {w : World} {g : Goroutine} (h : g.status = .running) : Stay w g := ⟨awake_of (.inl h), fun _ => again_running _ (.inl h)⟩
section
variable {P : Program} {R F : AH} {c k : Nat} {tm : Bool} {w0 : World} {gs : Array Goroutine} {w : World} {t : Trace} {q : Nat → Nat} {hm hw : AH} {s r : Nat} {a b : Goroutine}
theorem St.chan (st : St P R F c k tm w0 gs w t q hm hw s r a b) : absH w.heap c = some (.chan 0 #[] false s r tm) := by
 have e0 := oneC_same c (.chan 0 #[] false s r tm)
 have e1 : hm c = none := (st.mC c).resolve_right (by rw [e0]; simp)
 have e2 : hw c = none := (st.wC c).resolve_right (by rw [e0]; simp)
 have e3 : R c = none := (st.rC c).resolve_right (by rw [e0]; simp)
 rw [st.heap]
 simp [hun, e1, e2, e3, e0]
theorem St.open (st : St P R F c k tm w0 gs w t q hm hw s r a b) : w.heap[c]? = some (.chan 0 #[] false s r tm) := st.chan
theorem St.clt (st : St P R F c k tm w0 gs w t q hm hw s r a b) : c < w.heap.size := absH_lt rfl (by rw [st.chan]; simp)
theorem St.pick {Goal : Machine → Trace → Prop} (st : St P R F c k tm w0 gs w t q hm hw s r a b) (sl : Option (Nat × Nat)) (ha : Stay w a) (hb : Stay w b) (hr : a.status = .running ∨ b.status = .running)
  (h0 : a.status = .running → ∀ gs w sl t q, St P R F c k tm w0 gs w t q hm hw s r a b → ∃ m ops, runT P (crowd gs w sl) 0 = (.next m, ops) ∧ Must P Goal m (t ++ ops))
  (hk : b.status = .running → ∀ gs w sl t q, St P R F c k tm w0 gs w t q hm hw s r a b → ∃ m ops, runT P (crowd gs w sl) k = (.next m, ops) ∧ Must P Goal m (t ++ ops)) :
  Must P Goal (crowd gs w sl) t := by
 have rd := slip (P := P) (Sp := fun i => i = 0 ∨ i = k) (J := Duo k w.heap.size (fun b => hw b ≠ none) (fun b => R b ≠ none ∨ b = c)) (.inl rfl)
  (fun t i fn pos es hi hj hme => hj.mute (fun op hop => by obtain ⟨e, he, rfl⟩ := Go.Conc.mem_ofEvents hop; exact low_mute (hme e he) _) (fun op hop => by obtain ⟨e, he, rfl⟩ := Go.Conc.mem_ofEvents hop; exact touch_mute (hme e he))
   (fun op hop => .inl (by rw [g_ofEvents op hop]; exact ⟨fun e => hi (.inl e), fun e => hi (.inr e)⟩))) _ gs w sl t q (Nat.le_refl _) st.crew
  (fun i g hi hg => by
   rcases hi with rfl | rfl
   ·rw [st.g0] at hg; cases hg; exact ha
   ·rw [st.gk] at hg; cases hg; exact hb) (by
   rcases hr with hr | hr
   ·exact ⟨0, a, .inl rfl, st.g0, hr⟩
   ·exact ⟨k, b, .inr rfl, st.gk, hr⟩) st.duo
 refine rd.bind ?_
 rintro m t1 ⟨gs1, d1, sl1, q1, i, g, d1', sl1', rfl, hsz, hkeep, hC1, hD1, hi, hg, hrun, hst⟩
 have st1 : St P R F c k tm w0 gs1 (w.at d1') t1 q1 hm hw s r a b := ⟨by rw [hkeep 0 (.inl rfl)]; exact st.g0, by rw [hkeep k (.inr rfl)]; exact st.gk, st.k0, st.heap, st.mw, st.mR, st.wR, st.mC, st.wC, st.rC, st.mF, st.wF, st.rF, st.cF, hC1, hD1,
  st.env.trans ⟨rfl, rfl, rfl⟩⟩
 rcases hi with rfl | rfl
 ·have : g = a := by rw [hkeep 0 (.inl rfl), st.g0] at hg; exact (Option.some.inj hg).symm
  subst this
  obtain ⟨m, ops, e, k⟩ := h0 hrun _ _ sl1' _ _ st1
  exact .step (hst.trans e) k
 ·have : g = b := by rw [hkeep i (.inr rfl), st.gk] at hg; exact (Option.some.inj hg).symm
  subst this
  obtain ⟨m, ops, e, k⟩ := hk hrun _ _ sl1' _ _ st1
  exact .step (hst.trans e) k
theorem crew_keep {Sp : Nat → Prop} {gs : Array Goroutine} {t : Trace} {q : Nat → Nat} (hC : Crew P Sp t gs q) {i : Nat} (hi : Sp i) (g g' : Goroutine) (w' : World) : ∀ j x, ¬ Sp j → gs[j]? = some x → ((gs.map (woken P g g' w')).setIfInBounds i g')[j]? = some x := by
 intro j x hj hx
 rw [Array.getElem?_setIfInBounds_ne (by intro e; subst e; exact hj hi), Array.getElem?_map, hx]
 simp only [Option.map_some]
 rw [woken_quitsD (hC.old j x hj hx)]
theorem lt_of_get {gs : Array Goroutine} {i : Nat} {g : Goroutine} (h : gs[i]? = some g) : i < gs.size := (Array.getElem?_eq_some_iff.1 h).1
theorem lent_g {R : AH} {c : Nat} {g o : Obj} (hR : OnlyRows R) (hRc : R c = none) (h1 : ¬ Obj.noCells g) (h2 : ∀ x e f, g ≠ .cells x e f) (h3 : ∃ k bf cl s r t, o = .chan k bf cl s r t) : Lent (hun (oneC c g) (zf R)) (hun (oneC c o) R) := by
 refine ⟨fun b => ?_, fun b o' h => ?_⟩
 ·by_cases hb : b = c
  ·subst hb; simp [hun, oneC_same]
  ·simp [hun, oneC_ne hb, zf_none]
 ·by_cases hb : b = c
  ·subst hb
   have e : hun (oneC b g) (zf R) b = some g := by simp [hun, oneC_same]
   rw [e] at h
   cases h
   obtain ⟨k, bf, cl, s, r, t, rfl⟩ := h3
   exact .inr ⟨h1, h2, k, bf, cl, s, r, t, by simp [hun, oneC_same]⟩
  ·have e : hun (oneC c g) (zf R) b = zf R b := by simp [hun, oneC_ne hb]
   rw [e] at h
   have e2 : hun (oneC c o) R b = R b := by simp [hun, oneC_ne hb]
   rw [e2]
   exact (lent_zf hR).some b o' h
def zx (R : AH) (c : Nat) : AH := hun (oneC c gone) (zf R)
theorem lent_zx (hR : OnlyRows R) (hRc : R c = none) {cl : Bool} (s r : Nat) : Lent (zx R c) (hun (oneC c (.chan 0 #[] cl s r tm)) R) :=
 lent_g hR hRc (fun h => h) (fun _ _ _ h => nomatch h) ⟨_, _, _, _, _, _, rfl⟩
end
end Go.HL
namespace Go.HL
open Go Go.Conc Go.ConcN
abbrev RM (P : Program) (c : Nat) := @Rch ⟨false, none, some c⟩ P
abbrev RW (P : Program) (c : Nat) := @Rch ⟨false, some c, none⟩ P
structure Cert (P : Program) (R : AH) (c : Nat) (tm : Bool) (cw : List Frame) (Q : Frame → List Frame → AH → Prop) (WorkEnd : Frame → AH → Prop) : Prop where
 rows : OnlyRows R
 seen : ∀ fr cs h, Q fr cs h → h c = some gone
 close : ∀ fr hw, WorkEnd fr hw → mayWake P (G fr cw) = true ∧ ∃ (g2 : Goroutine) (es : Array Event) (n : Nat), (∀ (w : World) s r, w.heap[c]? = some (.chan 0 #[] false s r tm) → stepG P false (G fr cw) w = .go g2 (w.shut c s r tm) (es.push ⟨.obj c, true, true⟩)) ∧
  (∀ e ∈ es, e = ⟨.obj c, false, true⟩) ∧ QuitsD P n 0 g2
theorem zx_c {X R : AH} {c : Nat} (h : X c = none) : hun X (zx R c) c = some gone := by simp [hun, h, zx, oneC_same]
theorem gch_gone {vs : List Value} : gch vs ≠ gone := by unfold gch gone; intro e; injection e with e1; cases e1
def Firm (c : Nat) (tm : Bool) (g : Goroutine) : Prop := awake g ∧ ∀ (w : World) s r, w.heap[c]? = some (.chan 0 #[] false s r tm) → g.again w = g
section
variable {P : Program} {R F : AH} {c k : Nat} {tm : Bool} {w0 : World} {gs : Array Goroutine} {w : World} {t : Trace} {q : Nat → Nat} {hm hw : AH} {s r : Nat} {a b : Goroutine} {cw : List Frame}
theorem St.stay (st : St P R F c k tm w0 gs w t q hm hw s r a b) {g : Goroutine} (h : Firm c tm g) : Stay w g := ⟨h.1, fun d => h.2 (w.at d) s r st.open⟩
theorem ofEvents_nil {g : Nat} {fn : FuncId} {pos : String} : MemOp.ofEvents g fn pos #[] = #[] := rfl
end
end Go.HL
namespace Go.HL
open Go Go.Conc Go.ConcN
structure Sh (P : Program) (R F : AH) (c : Nat) (tm : Bool) (w0 : World) (gs : Array Goroutine) (w : World) (t : Trace) (q : Nat → Nat) (hm hw : AH) (s r : Nat) (a : Goroutine) (pc : Nat) : Prop where
 g0 : gs[0]? = some a
 heap : absH w.heap = hun hm (hun hw (hun R (hun (oneC c (.chan 0 #[] true s r tm)) F)))
 mw : Disj hm hw
 mR : Disj hm R
 wR : Disj hw R
 mC : Disj hm (oneC c (.chan 0 #[] true s r tm))
 wC : Disj hw (oneC c (.chan 0 #[] true s r tm))
 rC : Disj R (oneC c (.chan 0 #[] true s r tm))
 mF : Disj hm F
 wF : Disj hw F
 rF : Disj R F
 cF : F c = none
 crew : Crew P (· = 0) t gs q
 shut : Shut c w.heap.size (fun b => hw b ≠ none) (fun b => R b ≠ none ∨ b = c) pc t
 env : SameEnv w0 w
def Aim (P : Program) (F : AH) (w0 : World) (X : Frame → List Frame → AH → Prop) (m : Machine) (t : Trace) : Prop :=
 ∃ (gs' : Array Goroutine) (fr' : Frame) (cs' : List Frame) (h' : AH) (w' : World) (sl' : Option (Nat × Nat)) (q' : Nat → Nat),
  m = crowd gs' w' sl' ∧ gs'[0]? = some (G fr' cs') ∧ absH w'.heap = hun h' F ∧ Disj h' F ∧ Leavers P t gs' q' ∧ Past (fun _ => False) w'.heap.size t ∧ SameEnv w0 w' ∧ X fr' cs' h'
section
variable {P : Program} {R F : AH} {c k : Nat} {tm : Bool} {w0 : World} {cw : List Frame} {Q : Frame → List Frame → AH → Prop} {WorkEnd : Frame → AH → Prop} {X : Frame → List Frame → AH → Prop}
def Ends (R : AH) (c : Nat) (tm : Bool) (Q : Frame → List Frame → AH → Prop) (WorkEnd : Frame → AH → Prop) (X : Frame → List Frame → AH → Prop) : Prop :=
 ∀ fr cs hm fr' hw s r, Q fr cs (hun hm (zx R c)) → WorkEnd fr' hw → Disj hm hw → Disj hm R → Disj hw R → hm c = none → hw c = none → R c = none →
  X fr cs (hun hm (hun hw (hun R (oneC c (.chan 0 #[] true s r tm)))))
theorem Sh.pick {Goal : Machine → Trace → Prop} {gs : Array Goroutine} {w : World} {t : Trace} {q : Nat → Nat} {hm hw : AH} {s r pc : Nat} {a : Goroutine} (sh : Sh P R F c tm w0 gs w t q hm hw s r a pc) (sl : Option (Nat × Nat)) (hr : a.status = .running)
  (h0 : ∀ gs w sl t q, Sh P R F c tm w0 gs w t q hm hw s r a pc → ∃ m ops, runT P (crowd gs w sl) 0 = (.next m, ops) ∧ Must P Goal m (t ++ ops)) : Must P Goal (crowd gs w sl) t := by
 have rd := slip (P := P) (Sp := (· = 0)) (J := Shut c w.heap.size (fun b => hw b ≠ none) (fun b => R b ≠ none ∨ b = c) pc) rfl
  (fun t i fn pos es hi hj hme => hj.mute (fun op hop => by obtain ⟨e, he, rfl⟩ := Go.Conc.mem_ofEvents hop; exact low_mute (hme e he) _) (fun op hop => by obtain ⟨e, he, rfl⟩ := Go.Conc.mem_ofEvents hop; exact touch_mute (hme e he))
   (fun op hop => by rw [g_ofEvents op hop]; exact hi)) _ gs w sl t q (Nat.le_refl _) sh.crew
  (fun i g hi hg => by subst hi; rw [sh.g0] at hg; cases hg; exact stay_run hr) ⟨0, a, rfl, sh.g0, hr⟩ sh.shut
 refine rd.bind ?_
 rintro m t1 ⟨gs1, d1, sl1, q1, i, g, d1', sl1', rfl, hsz, hkeep, hC1, hD1, rfl, hg, hrun, hst⟩
 have sh1 : Sh P R F c tm w0 gs1 (w.at d1') t1 q1 hm hw s r a pc := ⟨by rw [hkeep 0 rfl]; exact sh.g0, sh.heap, sh.mw, sh.mR, sh.wR, sh.mC, sh.wC, sh.rC, sh.mF, sh.wF, sh.rF, sh.cF, hC1, hD1, sh.env.trans ⟨rfl, rfl, rfl⟩⟩
 obtain ⟨m, ops, e, k⟩ := h0 _ _ sl1' _ _ sh1
 exact .step (hst.trans e) k
theorem tail (C : Cert P R c tm cw Q WorkEnd) (hX : Ends R c tm Q WorkEnd X) {fr : Frame} {cs : List Frame} {h : AH} (rM : RM P c Q fr cs h) :
  ∀ {hw : AH} {fr' : Frame} {s r : Nat}, WorkEnd fr' hw → Disj hw R → hw c = none → R c = none → Disj hw F → Disj R F → F c = none →
   ∀ (hm : AH) gs w sl t q, h = hun hm (zx R c) → gs[0]? = some (G fr cs) → absH w.heap = hun hm (hun hw (hun R (hun (oneC c (.chan 0 #[] true s r tm)) F))) → Disj hm hw → Disj hm R → hm c = none → Disj hm F → Leavers P t gs q → Past (fun _ => False) w.heap.size t → SameEnv w0 w →
    Must P (Aim P F w0 X) (crowd gs w sl) t := by
 have oneD : ∀ {A : AH} {o : Obj}, A c = none → Disj A (oneC c o) := by
  intro A o hA b
  by_cases hb : b = c
  ·subst hb; exact .inl hA
  ·exact .inr (oneC_ne hb)
 induction rM with
 | far hl _ _ _ _ _ => cases hl
 | send hl _ _ _ _ => cases hl
 | recv hl hc _ _ _ =>
  intro hw fr' s r hW wR wc rc wF rF cF hm gs w sl t q e g0 hh mw mR mc mF hL hP env
  cases Option.some.inj hl
  rw [e, zx_c mc] at hc
  exact absurd (Option.some.inj hc).symm gch_gone
 | last hl hc _ _ _ =>
  intro hw fr' s r hW wR wc rc wF rF cF hm gs w sl t q e g0 hh mw mR mc mF hL hP env
  cases Option.some.inj hl
  rw [e, zx_c mc] at hc
  exact absurd (Option.some.inj hc).symm gch_gone
 | @done fr1 cs1 h1 qm =>
  intro hw fr' s r hW wR wc rc wF rF cF hm gs w sl t q e g0 hh mw mR mc mF hL hP env
  subst e
  refine .done ⟨gs, fr1, cs1, hun hm (hun hw (hun R (oneC c (.chan 0 #[] true s r tm)))), w, sl, q, rfl, g0, ?_, ?_, hL, hP, env, hX _ _ _ _ _ _ _ qm hW mw mR wR mc wc rc⟩
  ·rw [hh]; simp only [hun_assoc]
  ·exact Disj.hun_left mF (Disj.hun_left wF (Disj.hun_left rF ((oneD cF).symm)))
 | @sem fr1 cs1 h1 β x ok okp nxt pan X' Y' hs hd hok hokp _ _ ihx ihy =>
  intro hw fr' s r hW wR wc rc wF rF cF hm gs w sl t q e g0 hh mw mR mc mF hL hP env
  subst e
  have rd := slip (P := P) (Sp := (· = 0)) (J := Past (fun _ => False) w.heap.size) rfl (fun t i fn pos es hi hj hm => hj.mute hi hm) _ gs w sl t q (Nat.le_refl _) (Crew.of hL)
   (fun i g hi hg => by subst hi; rw [g0] at hg; cases hg; exact stay_run rfl) ⟨0, _, rfl, g0, rfl⟩ hP
  refine rd.bind ?_
  rintro m t1 ⟨gs1, d1, sl1, q1, i, g, d1', sl1', rfl, hsz, hkeep, hC1, hP1, hi, hg, hrun, hst⟩
  subst hi
  rw [hkeep 0 rfl, g0] at hg
  cases hg
  have hg0 : gs1[0]? = some (G fr1 cs1) := by rw [hkeep 0 rfl]; exact g0
  have hlt := lt_of_get hg0
  obtain ⟨hm', w', zz, hev, ho⟩ := dem_runZ (lent_zx (tm := tm) C.rows rc (cl := true) s r) (F := hun hw F) hm (w.at d1')
   (by show absH w.heap = _; rw [hh, hun_assoc, hun_assoc, hun_swap wR, hun_swap (oneD wc), hun_swap (oneD rc)]) ((oneD mc).hun mR)
   (Disj.hun_left (mw.hun mF) (Disj.hun_left ((oneD wc).symm.hun (oneD cF).symm) (wR.symm.hun rF))) hd
  obtain ⟨dO, dR⟩ := zz.disj.of_hun_right
  obtain ⟨da, _⟩ := zz.disjF.of_hun
  obtain ⟨d3, d6⟩ := da.of_hun_right
  have mc' : hm' c = none := (dO c).resolve_right (by rw [oneC_same]; simp)
  have hXl : ∀ b, hm' b ≠ none → b < w'.heap.size := fun b hb => absH_lt zz.heap (fun e => hb (hun_none (hun_none e).1).1)
  have hRl : ∀ b, hun (oneC c (.chan 0 #[] true s r tm)) R b ≠ none → b < w'.heap.size := fun b hb => absH_lt zz.heap (fun e => hb (hun_none (hun_none e).1).2)
  have go : ∀ (fr2 : Frame) (cs2 : List Frame), (stepG P true (G fr1 cs1) (w.at d1')).tells (x.events P (w.at d1') #[]) (G fr2 cs2) w' →
    (∀ gs sl t q, gs[0]? = some (G fr2 cs2) → Leavers P t gs q → Past (fun _ => False) w'.heap.size t → Must P (Aim P F w0 X) (crowd gs w' sl) t) → Must P (Aim P F w0 X) (crowd gs1 (w.at d1) sl1) t1 := by
   intro fr2 cs2 ht kk
   obtain ⟨es, hgo, hes⟩ := tells_eq.1 ht
   have hev' : ∀ e ∈ es, EvOK hm' (hun (oneC c (.chan 0 #[] true s r tm)) R) e := fun e he => (hev #[] e (hes e he)).resolve_left (by simp)
   have e := runT_crowd_go (P := P) (sl := sl1') (i := 0) hg0 (show stepG P (0 == 0) (G fr1 cs1) (w.at d1') = _ from hgo)
   refine .step (hst.trans e) (kk _ sl1' _ q1 (by simp [hlt]) ?_ ?_)
   ·exact (hC1.app _ (fun op hop => by rw [g_ofEvents op hop]; exact ⟨rfl, hlt⟩) (by simp) (crew_keep hC1 rfl _ _ _)).to
   ·exact (hP1.mono zz.size).own fun e he => (hev' e he).low hXl hRl
  have hh' : absH w'.heap = hun hm' (hun hw (hun R (hun (oneC c (.chan 0 #[] true s r tm)) F))) := by
   rw [zz.heap, hun_assoc, hun_assoc, hun_swap wR.symm, hun_swap (oneD wc).symm, hun_swap (b := R) (oneD rc).symm]
  have z0 : SameEnv w (w.at d1') := ⟨rfl, rfl, rfl⟩
  rcases ho with ⟨v, e, kk⟩ | ⟨v, e, kk⟩
  ·exact go _ _ ((hs true (w.at d1')).1 v w' e (hok _ _ kk)) fun gs sl t q a1 a2 a3 => ihx v _ kk hW wR wc rc wF rF cF hm' gs w' sl t q rfl a1 hh' d3 dR mc' d6 a2 a3 ((env.trans z0).trans zz.env)
  ·exact go _ _ ((hs true (w.at d1')).2 v w' e (hokp _ _ kk)) fun gs sl t q a1 a2 a3 => ihy v _ kk hW wR wc rc wF rF cF hm' gs w' sl t q rfl a1 hh' d3 dR mc' d6 a2 a3 ((env.trans z0).trans zz.env)
theorem Sh.recv (C : Cert P R c tm cw Q WorkEnd) (hX : Ends R c tm Q WorkEnd X) {z : Value} {gs : Array Goroutine} {w : World} {t : Trace} {q : Nat → Nat} {hm hw : AH} {s r pc : Nat} {a : Goroutine} {fr fr' : Frame} {cs0 : List Frame} (sl : Option (Nat × Nat)) (hr : a.status = .running)
  (hst : ∀ w, stepG P true a w = .comm (G fr cs0) #[rcase c z] true (.recv true) w) (hM : RM P c Q (fr.finish (.tuple #[z, .bool false])) cs0 (hun hm (zx R c))) (hW : WorkEnd fr' hw) (sh : Sh P R F c tm w0 gs w t q hm hw s r a pc) : Must P (Aim P F w0 X) (crowd gs w sl) t := by
 refine sh.pick sl hr fun gs w sl t q sh => ?_
 have hlt := lt_of_get sh.g0
 have e0 := oneC_same c (.chan 0 #[] true s r tm)
 have e1 : hm c = none := (sh.mC c).resolve_right (by rw [e0]; simp)
 have e2 : hw c = none := (sh.wC c).resolve_right (by rw [e0]; simp)
 have e3 : R c = none := (sh.rC c).resolve_right (by rw [e0]; simp)
 have hc : w.heap[c]? = some (.chan 0 #[] true s r tm) := by
  show absH w.heap c = _
  rw [sh.heap]
  simp [hun, e1, e2, e3, e0]
 have hcl : c < w.heap.size := absH_lt rfl (show absH w.heap c ≠ none by show w.heap[c]? ≠ none; rw [hc]; simp)
 have np : partners (gs.setIfInBounds 0 ph) c true = [] := by
  refine partners_nil fun j g hj => ?_
  rcases getElem?_stand gs 0 j g hj with ⟨_, rfl⟩ | ⟨hj0, hj1⟩
  ·rfl
  ·refine offersAt_of_not_blocked ?_ _ _
   have := (sh.crew.old j g hj0 hj1).status
   rcases this with h | h <;> rw [h] <;> simp
 have e := crowd_recv_closed (sl := sl) sh.g0 (show stepG P (0 == 0) a w = _ from hst w) hc np
 refine ⟨_, _, e, tail C hX hM hW sh.wR e2 e3 sh.wF sh.rF sh.cF hm _ w sl _ q rfl ?_ sh.heap sh.mw sh.mR e1 sh.mF ?_ ?_ sh.env⟩
 ·rw [finishComm_recv]
  simp [hlt]
  rfl
 ·refine (sh.crew.app _ (fun op hop => ?_) (by simp) (fun j x hj hx => by rw [Array.getElem?_setIfInBounds_ne (fun e => hj e.symm)]; exact hx)).to
  simp only [ofEvents_nil, Array.empty_append, List.mem_toArray, List.mem_cons, List.not_mem_nil, or_false] at hop
  subst hop
  exact ⟨rfl, hlt⟩
 ·rw [ofEvents_nil, Array.empty_append]
  exact sh.shut.past hcl rfl rfl
end
end Go.HL
namespace Go.HL
open Go Go.Conc Go.ConcN
section
variable {P : Program} {R F : AH} {c k : Nat} {tm : Bool} {w0 : World} {cw : List Frame} {Q : Frame → List Frame → AH → Prop} {WorkEnd : Frame → AH → Prop} {X : Frame → List Frame → AH → Prop}
theorem St.close {Goal : Machine → Trace → Prop} (C : Cert P R c tm cw Q WorkEnd) {hm hw : AH} {s r : Nat} {a : Goroutine} {fr : Frame} (hW : WorkEnd fr hw)
  (kk : ∀ gs w sl t q pc s r, Sh P R F c tm w0 gs w t q hm hw s r (a.again w) pc → w.heap[c]? = some (.chan 0 #[] true s r tm) → Must P Goal (crowd gs w sl) t)
  (gs : Array Goroutine) (w : World) (sl : Option (Nat × Nat)) (t : Trace) (q : Nat → Nat) (st : St P R F c k tm w0 gs w t q hm hw s r a (G fr cw)) : ∃ m ops, runT P (crowd gs w sl) k = (.next m, ops) ∧ Must P Goal m (t ++ ops) := by
 obtain ⟨hwake, g2, es, n, hgo, hes, hq⟩ := C.close _ _ hW
 have hk0 : (k == 0) = false := by simp [st.k0]
 have hlt := lt_of_get st.g0
 have hltk := lt_of_get st.gk
 have e := runT_crowd_go (P := P) (sl := sl) (i := k) st.gk (by rw [hk0]; exact hgo w s r st.open)
 have e0 := oneC_same c (.chan 0 #[] false s r tm)
 have e1 : hm c = none := (st.mC c).resolve_right (by rw [e0]; simp)
 have e2 : hw c = none := (st.wC c).resolve_right (by rw [e0]; simp)
 have e3 : R c = none := (st.rC c).resolve_right (by rw [e0]; simp)
 have hheap : absH (w.shut c s r tm).heap = hun hm (hun hw (hun R (hun (oneC c (.chan 0 #[] true s r tm)) F))) := by
  show absH (w.heap.setIfInBounds c _) = _
  rw [absH_set _ _ _ _ st.chan, st.heap]
  funext x
  by_cases hx : x = c
  ·subst hx
   simp [hupd, hun, e1, e2, e3, oneC_same]
  ·simp [hupd, hun, hx, oneC_ne hx]
 have hop2 : (w.shut c s r tm).heap[c]? = some (.chan 0 #[] true s r tm) := by
  show absH (w.shut c s r tm).heap c = _
  rw [hheap]
  simp [hun, e1, e2, e3, oneC_same]
 have hwk : ∀ o, woken P (G fr cw) g2 (w.shut c s r tm) o = o.again (w.shut c s r tm) := by
  intro o
  unfold woken
  rcases hq.status with h | h <;> simp [hwake, h]
 have hsz : (w.shut c s r tm).heap.size = w.heap.size := by simp [World.shut]
 have hop : ∀ op ∈ MemOp.ofEvents k (G fr cw).frame.fn (G fr cw).frame.place es, op.act = .access ⟨.obj c, false, true⟩ := by
  intro op hop
  obtain ⟨e, he, rfl⟩ := Go.Conc.mem_ofEvents hop
  rw [hes e he]
  rfl
 have D := st.duo.appk (u := MemOp.ofEvents k (G fr cw).frame.fn (G fr cw).frame.place es) g_ofEvents (fun op h => by rw [hop op h]; simp) (fun op h => by rw [hop op h]; exact st.clt) (fun op h x hx y hy => by
  rw [hop op h] at hx
  simp only [MemAct.touch?, Option.some.injEq] at hx
  subst hx
  simp only [blkOf, Option.some.injEq] at hy
  exact .inr ⟨.inr hy.symm, rfl⟩)
 have hS := Shut.of (k := k) (y := { g := k, fn := (G fr cw).frame.fn, pos := (G fr cw).frame.place, act := .close c }) D rfl rfl st.clt
 have ht : t ++ MemOp.ofEvents k (G fr cw).frame.fn (G fr cw).frame.place (es.push ⟨.obj c, true, true⟩) = t ++ MemOp.ofEvents k (G fr cw).frame.fn (G fr cw).frame.place es ++ #[{ g := k, fn := (G fr cw).frame.fn, pos := (G fr cw).frame.place, act := .close c }] := by
  rw [ofEvents_push]
  simp [MemAct.ofEvent]
 refine ⟨_, _, e, ?_⟩
 rw [ht]
 refine kk _ _ sl _ (Go.ConcN.upd q k n) _ s r ⟨?_, hheap, st.mw, st.mR, st.wR, disj_oneC st.mC, disj_oneC st.wC, disj_oneC st.rC, st.mF, st.wF, st.rF, st.cF, ⟨fun j x hj hx => ?_, fun j hj => ?_⟩, by rw [hsz]; exact hS, st.env.trans ⟨rfl, rfl, rfl⟩⟩ hop2
 ·rw [Array.getElem?_setIfInBounds_ne st.k0, Array.getElem?_map, st.g0]
  simp only [Option.map_some]
  rw [hwk]
 ·by_cases hjk : k = j
  ·subst hjk
   rw [Array.getElem?_setIfInBounds_self_of_lt (by simpa using hltk)] at hx
   obtain rfl := Option.some.inj hx
   have hd : Deaf (t ++ MemOp.ofEvents k (G fr cw).frame.fn (G fr cw).frame.place es ++ #[{ g := k, fn := (G fr cw).frame.fn, pos := (G fr cw).frame.place, act := .close c }]) k = 0 := by
    rw [Deaf_q fun op h => .inr (by
     simp only [List.mem_toArray, List.mem_cons, List.not_mem_nil, or_false] at h
     subst h
     simp)]
    exact D.heark
   rw [upd_same, hd]
   exact hq
  ·rw [Array.getElem?_setIfInBounds_ne hjk, Array.getElem?_map] at hx
   obtain ⟨y, hy, rfl⟩ := Option.map_eq_some_iff.1 hx
   have hqj := st.crew.old j y (by simp; exact ⟨hj, fun e => hjk e.symm⟩) hy
   rw [woken_quitsD hqj, upd_ne q n (Ne.symm hjk), Deaf_ne _ j _ (fun op h => ?_), Deaf_ne t j _ (fun op h => by rw [g_ofEvents op h]; exact hjk)]
   ·exact hqj
   ·simp only [List.mem_toArray, List.mem_cons, List.not_mem_nil, or_false] at h
    subst h
    exact hjk
 ·have hj' : gs.size ≤ j := by simpa using hj
  rw [Deaf_ne _ j _ (fun op h => ?_), Deaf_ne t j _ (fun op h => by rw [g_ofEvents op h]; omega)]
  ·exact st.crew.above j hj'
  ·simp only [List.mem_toArray, List.mem_cons, List.not_mem_nil, or_false] at h
   subst h
   show k ≠ j
   omega
end
end Go.HL
namespace Go.HL
open Go Go.Conc
variable [Lvl]
section
variable {P : Program} {n : Nat} {ro : Option Nat} {S : Sl} {D : Df} {L : Pv} {h : AH} {ops : Array Oper} {i : Nat} {rest : List Nat} {o : Oper} {b : Frame} {k : List Item} {cs : List Frame} {w : World} {main : Bool}
end
end Go.HL
namespace Go.HL
open Go Go.Conc
variable [Lvl]
section
variable {P : Program} {n : Nat} {ro : Option Nat} {K : Post} {S : Sl} {D : Df} {L : Pv} {h : AH} {ops : Array Oper} {i : Nat} {rest : List Nat} {o : Oper}
def own (R h : AH) : AH := fun b => match R b with | some _ => none | none => h b
end
end Go.HL
namespace Go.Rd
open Go Go.HL Go.Wx
variable [Lvl]
def pinC (p : PinP) : List Value := [.int .i64 p.rod, .int .i64 p.lever, .int .i64 p.lag]
def linkC (l : LinkP) : List Value := [.int .i64 l.frm, .int .i64 l.to, .int .i64 l.reg, .int .i64 l.lag]
def MachV (h : AH) (m : MachP) (v : Value) : Prop :=
 ∃ B Q L W, v = .agg #[.int .i64 m.rods, .int .i64 m.levers, .int .i64 m.regs, .int .i64 m.travel, .int .i64 m.opn, B, Q, L, W] ∧ SlR h 1 intC m.buttons B ∧ SlR h 3 pinC m.pins Q ∧ SlR h 4 linkC m.links L ∧ SlR h 1 intC m.weights W
theorem MachV.ext {h h' : AH} {m : MachP} {v : Value} (r : MachV h m v) (e : Ext h h') : MachV h' m v := by
 obtain ⟨B, Q, L, W, hv, r1, r2, r3, r4⟩ := r
 exact ⟨B, Q, L, W, hv, r1.ext e, r2.ext e, r3.ext e, r4.ext e⟩
def HandV (h : AH) (a : HandP) (v : Value) : Prop := ∃ B O, v = .agg #[B, O] ∧ SlR h 1 intC a.buttons B ∧ SlR h 1 intC a.on O
theorem HandV.ext {h h' : AH} {a : HandP} {v : Value} (r : HandV h a v) (e : Ext h h') : HandV h' a v := by
 obtain ⟨B, O, hv, r1, r2⟩ := r
 exact ⟨B, O, hv, r1.ext e, r2.ext e⟩
end Go.Rd
namespace Go.HL
open Go
variable [Lvl]
variable {P : Program} {n : Nat} {ops : Array Oper} {os : List Oper} {K : Sl → Pv → AH → Prop} {E : Value → Sl → Pv → AH → Prop} {S : Sl} {L : Pv} {h : AH} {d : Option Tmp} {ty : TypeId} {ps : String} {af : Array Edge}
section pre
variable {ro : Option Nat} {K : Post} {D : Df}
end pre
end Go.HL
namespace Go.HL
open Go Go.Conc
variable [Lvl]
section
variable {P : Program} {n : Nat} {ro : Option Nat} {K : Post} {S : Sl} {D : Df} {L : Pv} {h : AH}
end
section
variable {P : Program} {n : Nat} {ops : Array Oper} {os : List Oper} {K : Sl → Pv → AH → Prop} {E : Value → Sl → Pv → AH → Prop} {S : Sl} {L : Pv} {h : AH} {d : Option Tmp} {op : Op} {ty : TypeId} {ps : String} {af : Array Edge}
end
section
variable {P : Program} {n : Nat} {ops : Array Oper} {os : List Oper} {K : Sl → Pv → AH → Prop} {E : Value → Sl → Pv → AH → Prop} {S : Sl} {L : Pv} {h : AH} {d : Option Tmp} {ty : TypeId} {ps : String} {af : Array Edge}
theorem op_fnV {x : Operand} {xs : List Operand} {ats : Array TypeId} {y : Value} {vs : List Value} {R : Value → AH → Pv → Prop} (hf : ev n S x = y) (hx : xs.map (ev n S) = vs) (c : FnM P y vs h [] R)
  (k : ∀ v h' M', Valid h' (L ++ M') → Ext h h' → R v h' M' → wpL P n ops os K E (put S d v) (L ++ M') h') : wpL P n ops (⟨d, .call ⟨.value x, xs.toArray, ats⟩, ty, ps, af, none⟩ :: os) K E S L h := by
 refine op_of fun V => ?_
 unfold opW
 rw [exec_callV hf hx]
 have V0 : Valid h (L ++ []) := by rw [List.append_nil]; exact V
 obtain ⟨e1, d1, VM⟩ := wl_app V0
 rw [List.append_nil] at e1
 rw [e1]
 have ndp : ((cl L).map (·.1)).Nodup := V.nd
 refine CallV.mono (CallV.frame (c VM) (fin_wl VM) d1) ?_ ?_
 ·rintro v H2 ⟨H1, rfl, d2, f2, h', M', rfl, V', E', r⟩
  obtain ⟨e2, V2⟩ := wl_join ndp V' d2
  exact ⟨L ++ M', h', e2, V2, k v h' M' V2 E' r⟩
 ·rintro v H2 ⟨H1, rfl, d2, f2, y⟩; exact y.elim
end
theorem ext_outN {h h' : AH} {m : List Bool} {L Y : Pv} (e : cl (rmM m (L ++ Y)) = cl (rmM m L)) (E : Ext h h') : Ext (wl h (rmM m L)) (wl h' (rmM m (L ++ Y))) := by
 have : wl h' (rmM m (L ++ Y)) = wl h' (rmM m L) := by unfold wl wl0; rw [e]
 rw [this]
 exact ext_wlm E _
end Go.HL
namespace Go.HL
open Go
variable [Lvl]
theorem wrL_mid : ∀ (c pre j : List Value), c.length ≤ j.length → wrL (pre ++ j) pre.length c = pre ++ c ++ j.drop c.length
 | [], pre, j, _ => by simp [wrL]
 | v :: c, pre, [], h => absurd h (by simp)
 | v :: c, pre, x :: j, h => by
  have e : (pre ++ x :: j).set pre.length v = (pre ++ [v]) ++ j := by simp
  have ih := wrL_mid c (pre ++ [v]) j (by simpa using h)
  rw [List.length_append, List.length_singleton] at ih
  rw [wrL, e, ih]
  simp
def rowP : Nat → List (List Value) → List (Nat × Value)
 | _, [] => []
 | k, c :: els => (k, .agg c.toArray) :: rowP (k + 1) els
theorem fill_row {m : Nat} : ∀ (els : List (List Value)) (k : Nat) (pre j : List Value), (∀ c ∈ els, c.length = m) → pre.length = k * m → j.length = els.length * m → fillL (fun i => some (i * m, m)) (pre ++ j) (rowP k els) = some (pre ++ els.flatMap id)
 | [], k, pre, j, _, _, hj => by
  have : j = [] := List.length_eq_zero_iff.1 (by simpa using hj)
  subst this
  rfl
 | c :: els, k, pre, j, hm, hp, hj => by
  have hc := hm c (List.mem_cons_self ..)
  have hj' : j.length = els.length * m + m := by rw [hj, List.length_cons, Nat.add_mul, Nat.one_mul]
  have e1 : ((Value.agg c.toArray).cells.size == m && Nat.ble (k * m + m) (pre ++ j).length) = true := by
   rw [Bool.and_eq_true]
   refine ⟨by show (c.toArray.size == m) = true; simp [hc], Nat.ble_eq_true_of_le ?_⟩
   rw [List.length_append]
   omega
  have e2 : wrL (pre ++ j) (k * m) (Value.agg c.toArray).cells.toList = (pre ++ c) ++ j.drop m := by
   rw [← hp, show (Value.agg c.toArray).cells.toList = c from rfl, wrL_mid c pre j (by omega), hc]
  rw [rowP, fillL]
  simp only
  rw [if_pos e1, e2]
  rw [fill_row els (k + 1) (pre ++ c) (j.drop m) (fun x hx => hm x (List.mem_cons_of_mem _ hx)) (by rw [List.length_append, hp, hc, Nat.add_mul, Nat.one_mul]) (by rw [List.length_drop, hj']; omega)]
  simp
variable {P : Program} {n : Nat} {ops : Array Oper} {os : List Oper} {K : Sl → Pv → AH → Prop} {E : Value → Sl → Pv → AH → Prop} {S : Sl} {L : Pv} {h : AH} {d : Option Tmp} {ty : TypeId} {ps : String} {af : Array Edge}
theorem op_buildSliceR (els : List (List Value)) {t e : TypeId} {m len : Nat} {z : Value} {zc : List Value} {pts : List (Nat × Operand)} (ht : pev P (underlying t) = some (.slice e)) (hs : pev P (sizeOf e) = some m)
  (hz : pev P (zeroValue e) = some z) (hzc : z.cells = zc.toArray) (hl : Nat.ble (len * m) 16777216 = true) (hn : els.length = len) (hm : els.all (fun c => c.length == m) = true) (hv : pts.map (fun q => (q.1, ev n S q.2)) = rowP 0 els)
  (k : ∀ b, wl h L b = none → wpL P n ops os K E (put S d (.slice (some ⟨b, 0, none⟩) len len)) (L ++ [some (b, .cells (els.flatMap id).toArray e (0, 0))]) h) : wpL P n ops (⟨d, .buildSlice t len pts.toArray, ty, ps, af, none⟩ :: os) K E S L h := by
 refine wG ht hs hz hzc hl hv ?_ k
 have := fill_row (m := m) els 0 [] ((List.range (len * m)).map fun i => zc[i % zc.length]!) (fun c hc => by have := List.all_eq_true.1 hm c hc; simpa using this) (by simp) (by simp [hn])
 simpa using this
end Go.HL
namespace Go.HL
open Go Go.Conc
variable [Lvl]
section
variable {P : Program} {n : Nat} {ops : Array Oper} {os : List Oper} {K : Sl → Pv → AH → Prop} {E : Value → Sl → Pv → AH → Prop} {S : Sl} {L : Pv} {h : AH} {d : Option Tmp} {ty : TypeId} {ps : String} {af : Array Edge}
def FnE (P : Program) (f : FuncId) (args : Array Value) (h : AH) (R Q : Value → AH → Prop) : Prop := CallT P f args h (fun v h' => Ext h h' ∧ R v h') (fun v h' => Ext h h' ∧ Q v h')
theorem FnE.of {f : FuncId} {args : Array Value} {R Q : Value → AH → Prop} (c : FnT P f args h R) : FnE P f args h R Q := CallT.mono c (fun _ _ r => r) (fun _ _ y => y.elim)
end
section
variable {P : Program} {n : Nat} {S : Sl} {D : Df} {L : Pv} {h : AH} {ops : Array Oper} {i : Nat} {rest : List Nat} {o : Oper} {b : Frame} {k : List Item} {cs : List Frame} {w : World} {main : Bool}
end
section
variable {P : Program} {n : Nat} {K : Value → AH → Prop}
def Clo (P : Program) (m : Nat) (ops0 : Array Oper) (c2 : Code) (t : Tmp) (x : Value) (caps : Array Value) (L : Pv) (h : AH) (Q : Pv → AH → Prop) : Prop :=
 Nat.ble caps.size m = true ∧ Goes P m none ([.inRegion ops0 [1]] ++ [.code c2]) (fun e _ D L' h' => (e = .normal ∨ e = .ret) ∧ D = [] ∧ Q L' h') (put (argS caps) (some t) x) [] L h
end
end Go.HL
namespace Go.HL
open Go
variable [Lvl]
def YieldsS {α : Type} (P : Program) (y : Value) (all : List α) (T : AH → α → Value → Prop) (I : Nat → AH → Pv → Prop) (F : AH → Pv → Prop) : Prop :=
 ∀ (k : Nat) (x : α) (v : Value) (h : AH) (M : Pv), all[k]? = some x → T h x v → I k h M → FnM P y [v] h M (fun r h' M' => (r = .bool true ∧ I (k + 1) h' M') ∨ (r = .bool false ∧ F h' M'))
def IterS {α : Type} (P : Program) (f : Value) (h0 : AH) (all : List α) (T : AH → α → Value → Prop) : Prop :=
 ∀ (fn : Fn) (fs cs : Array Value) (I : Nat → AH → Pv → Prop) (F : AH → Pv → Prop), (∀ k h h' M, Ext h h' → I k h M → I k h' M) → (∀ h h' M, Ext h h' → F h M → F h' M) → YieldsS P (.func fn fs cs) all T I F →
  ∀ h M, Ext h0 h → I 0 h M → FnM P f [.func fn fs cs] h M (fun _ h' M' => I all.length h' M' ∨ F h' M')
theorem IterS.ext {α : Type} {P : Program} {f : Value} {h h' : AH} {all : List α} {T : AH → α → Value → Prop} (i : IterS P f h all T) (E : Ext h h') : IterS P f h' all T :=
 fun fn fs cs I F hI hF Y h1 M E1 => i fn fs cs I F hI hF Y h1 M (E.trans E1)
section
variable {P : Program} {n : Nat} {ops : Array Oper} {os : List Oper} {K : Sl → Pv → AH → Prop} {E : Value → Sl → Pv → AH → Prop} {S : Sl} {L : Pv} {h : AH} {d : Option Tmp} {op : Op} {ty : TypeId} {ps : String} {af : Array Edge}
end
end Go.HL
namespace Go.HL
open Go
variable [Lvl]
section
variable {P : Program} {n : Nat} {ops : Array Oper} {os : List Oper} {K : Sl → Pv → AH → Prop} {E : Value → Sl → Pv → AH → Prop} {S : Sl} {L : Pv} {h : AH} {d : Option Tmp} {ty : TypeId} {ps : String} {af : Array Edge}
variable {α : Type} [DecidableEq α] {kt : TypeId} {enc : α → Value}
end
end Go.HL
namespace Go.HL
open Go
variable [Lvl]
section
variable {P : Program} {n : Nat} {K : Post} {S : Sl} {D : Df} {L : Pv} {h : AH}
end
end Go.HL
namespace Go.HL
open Go
variable [Lvl]
section
variable {P : Program} {n : Nat} {K : Post} {S : Sl} {D : Df} {L : Pv} {h : AH}
end
end Go.HL
namespace Go.HL
open Go
variable [Lvl]
section
variable {P : Program} {n : Nat} {d : Option Tmp} {ty : TypeId} {ps : String} {af : Array Edge} {S : Sl}
end
def CapOK : Value → Prop
 | .slice _ n c => n ≤ c
 | _ => True
theorem AccP.cap {e : TypeId} {m : Nat} {cs : List Value} {p : Option (Nat × Obj)} {v : Value} (a : AccP e m cs p v) (hm : 0 < m) : CapOK v := by
 rcases a with ⟨_, _, A, rfl⟩ | ⟨b, len, cap, junk, h1, rfl, _, h2⟩
 ·exact Nat.le_refl 0
 ·show len ≤ cap
  rw [List.length_append, h1] at h2
  exact Nat.le_of_mul_le_mul_right (by omega) hm
end Go.HL
namespace Go.HL
open Go
variable [Lvl]
section
variable {P : Program} {n : Nat} {d : Option Tmp} {ty : TypeId} {ps : String} {af : Array Edge} {S : Sl}
end
end Go.HL
namespace Go.HL
open Go
variable [Lvl]
section
variable {P : Program} {n : Nat} {d : Option Tmp} {ty : TypeId} {ps : String} {af : Array Edge} {S : Sl}
end
end Go.HL
namespace Go.HL
open Go
variable [Lvl]
section
variable {P : Program} {n : Nat} {d : Option Tmp} {ty : TypeId} {ps : String} {af : Array Edge} {S : Sl}
end
section
variable {P : Program} {n : Nat} {ops : Array Oper} {os : List Oper} {K : Sl → Pv → AH → Prop} {E : Value → Sl → Pv → AH → Prop} {S : Sl} {L : Pv} {h : AH} {d : Option Tmp} {ty : TypeId} {ps : String} {af : Array Edge}
end
end Go.HL
namespace Go.HL
open Go
variable [Lvl]
section
variable {P : Program} {n : Nat} {ops : Array Oper} {os : List Oper} {K : Sl → Pv → AH → Prop} {E : Value → Sl → Pv → AH → Prop} {S : Sl} {L : Pv} {h : AH} {d : Option Tmp} {ty : TypeId} {ps : String} {af : Array Edge}
end
section
variable {P : Program} {m n : Nat} {K' : Post} {S : Sl} {D : Df} {L : Pv} {h : AH}
end
end Go.HL
namespace Go.HL
open Go
variable [Lvl]
section
variable {P : Program} {n : Nat} {d : Option Tmp} {ty : TypeId} {ps : String} {af : Array Edge} {S : Sl}
end
end Go.HL
namespace Go.Rd
structure MOK (m : MachP) : Prop where
 rods : 1 ≤ m.rods ∧ m.rods ≤ 6
 levers : 1 ≤ m.levers ∧ m.levers ≤ 6
 regs : 0 ≤ m.regs ∧ m.regs ≤ 2
 travel : 1 ≤ m.travel ∧ m.travel ≤ 12
 opn : 1 ≤ m.opn ∧ m.opn ≤ m.travel
 bl : m.buttons.length ≤ 4
 btn : ∀ b ∈ m.buttons, 0 ≤ b ∧ b < m.rods
 pl : m.pins.length ≤ 8
 pin : ∀ p ∈ m.pins, (0 ≤ p.rod ∧ p.rod < m.rods) ∧ (0 ≤ p.lever ∧ p.lever < m.levers) ∧ (0 ≤ p.lag ∧ p.lag ≤ m.travel)
 ll : m.links.length ≤ 4
 link : ∀ l ∈ m.links, (0 ≤ l.frm ∧ l.frm < m.rods) ∧ (0 ≤ l.to ∧ l.to < m.rods) ∧ l.frm ≠ l.to ∧ (-1 ≤ l.reg ∧ l.reg < m.regs) ∧ (1 ≤ l.lag ∧ l.lag ≤ m.travel)
 wl : (m.weights.length : Int) = m.levers
 wt : ∀ w ∈ m.weights, 0 ≤ w ∧ w ≤ 50
structure Fit (m : MachP) (a : HandP) : Prop where
 bl : m.buttons.length ≤ 4
 btn : ∀ b ∈ m.buttons, 0 ≤ b ∧ b < 6
 ll : m.links.length ≤ 4
 link : ∀ l ∈ m.links, (0 ≤ l.frm ∧ l.frm < 6) ∧ (0 ≤ l.to ∧ l.to < 6) ∧ (0 ≤ l.lag ∧ l.lag ≤ 12)
 hb : ∀ b ∈ a.buttons, 0 ≤ b ∧ b < m.buttons.length
 hl : a.buttons.length ≤ 4
 ol : a.on.length ≤ 4
structure Clo (m : MachP) (a : HandP) (depth : Int) (f : Int → Int) : Prop where
 zero : ∀ r, 0 ≤ r → 0 ≤ f r
 press : ∀ b ∈ a.buttons, depth ≤ f (m.buttons.getD b.toNat 0)
 link : ∀ l ∈ m.links, active a.on l = true → f l.frm - l.lag ≤ f l.to
theorem Fit.lag {m : MachP} {a : HandP} (F : Fit m a) : ∀ l ∈ m.links, 0 ≤ l.lag := fun l hl => (F.link l hl).2.2.1
end Go.Rd
namespace Go.Rd
end Go.Rd
namespace Go.Rd
open Go Go.HL Go.Wx
variable [Lvl]
def checkLinkM (m : MachP) (l : LinkP) : Int :=
 if !inM l.frm 0 (m.rods - 1) then 3 else if !inM l.to 0 (m.rods - 1) then 3 else if l.frm = l.to then 4 else if !inM l.reg (-1) (m.regs - 1) then 3 else if !inM l.lag 1 m.travel then 1 else 0
def checkButtonM (m : MachP) (b : Int) : Int := if !inM b 0 (m.rods - 1) then 3 else 0
def checkPinM (m : MachP) (p : PinP) : Int := if !inM p.rod 0 (m.rods - 1) then 3 else if !inM p.lever 0 (m.levers - 1) then 3 else if !inM p.lag 0 m.travel then 1 else 0
def checkWeightM (w : Int) : Int := if !inM w 0 50 then 1 else 0
def chkM (m : MachP) : Int :=
 if !inM m.rods 1 6 then 1 else if !inM m.levers 1 6 then 1 else if !inM m.regs 0 2 then 1 else if !inM m.travel 1 12 then 1 else if !inM m.opn 1 m.travel then 1
 else if m.buttons.length > 4 then 6 else if firstErr (checkButtonM m) m.buttons ≠ 0 then firstErr (checkButtonM m) m.buttons
 else if m.pins.length > 8 then 6 else if firstErr (checkPinM m) m.pins ≠ 0 then firstErr (checkPinM m) m.pins
 else if m.links.length > 4 then 6 else if firstErr (checkLinkM m) m.links ≠ 0 then firstErr (checkLinkM m) m.links
 else if (m.weights.length : Int) ≠ m.levers then 2 else firstErr checkWeightM m.weights
theorem inM_iff {n lo hi : Int} : inM n lo hi = true ↔ lo ≤ n ∧ n ≤ hi := by simp [inM]
structure SetOK (l : List Int) (below : Int) : Prop where
 mem : ∀ x ∈ l, 0 ≤ x ∧ x < below
 asc : l.Pairwise (· < ·)
theorem peel {c : Prop} [Decidable c] {n x : Int} (h : (if c then n else x) = 0) (hn : c → n ≠ 0) : ¬ c ∧ x = 0 := by
 by_cases hc : c
 ·rw [if_pos hc] at h; exact absurd h (hn hc)
 ·rw [if_neg hc] at h; exact ⟨hc, h⟩
theorem check_ok {m : MachP} (h : chkM m = 0) : MOK m := by
 unfold chkM at h
 obtain ⟨a1, h⟩ := peel h (fun _ => by decide)
 obtain ⟨a2, h⟩ := peel h (fun _ => by decide)
 obtain ⟨a3, h⟩ := peel h (fun _ => by decide)
 obtain ⟨a4, h⟩ := peel h (fun _ => by decide)
 obtain ⟨a5, h⟩ := peel h (fun _ => by decide)
 obtain ⟨a6, h⟩ := peel h (fun _ => by decide)
 obtain ⟨a7, h⟩ := peel h (fun x => x)
 obtain ⟨a8, h⟩ := peel h (fun _ => by decide)
 obtain ⟨a9, h⟩ := peel h (fun x => x)
 obtain ⟨a10, h⟩ := peel h (fun _ => by decide)
 obtain ⟨a11, h⟩ := peel h (fun x => x)
 obtain ⟨a12, h⟩ := peel h (fun _ => by decide)
 simp only [Bool.not_eq_true', Bool.not_eq_false, inM_iff] at a1 a2 a3 a4 a5
 simp only [ne_eq, Classical.not_not] at a7 a9 a11 a12
 have b1 := firstErr_zero a7
 have b2 := firstErr_zero a9
 have b3 := firstErr_zero a11
 have b4 := firstErr_zero h
 refine ⟨a1, a2, a3, a4, a5, by omega, fun b hb => ?_, by omega, fun p hp => ?_, by omega, fun l hl => ?_, by simpa using a12, fun w hw => ?_⟩
 ·have h1 := b1 b hb
  unfold checkButtonM at h1
  obtain ⟨a1, _⟩ := peel h1 (fun _ => by decide)
  simp only [Bool.not_eq_true', Bool.not_eq_false, inM_iff] at a1
  omega
 ·have h1 := b2 p hp
  unfold checkPinM at h1
  obtain ⟨a1, h1⟩ := peel h1 (fun _ => by decide)
  obtain ⟨a2, h1⟩ := peel h1 (fun _ => by decide)
  obtain ⟨a3, h1⟩ := peel h1 (fun _ => by decide)
  simp only [Bool.not_eq_true', Bool.not_eq_false, inM_iff] at a1 a2 a3
  omega
 ·have h1 := b3 l hl
  unfold checkLinkM at h1
  obtain ⟨a1, h1⟩ := peel h1 (fun _ => by decide)
  obtain ⟨a2, h1⟩ := peel h1 (fun _ => by decide)
  obtain ⟨a3, h1⟩ := peel h1 (fun _ => by decide)
  obtain ⟨a4, h1⟩ := peel h1 (fun _ => by decide)
  obtain ⟨a5, h1⟩ := peel h1 (fun _ => by decide)
  simp only [Bool.not_eq_true', Bool.not_eq_false, inM_iff] at a1 a2 a4 a5
  omega
 ·have h1 := b4 w hw
  unfold checkWeightM at h1
  obtain ⟨a1, _⟩ := peel h1 (fun _ => by decide)
  simp only [Bool.not_eq_true', Bool.not_eq_false, inM_iff] at a1
  omega
structure HOK (m : MachP) (a : HandP) : Prop where
 b : SetOK a.buttons m.buttons.length
 o : SetOK a.on m.regs
end Go.Rd
namespace Go.Rd
open Go Go.HL Go.Wx
variable [Lvl]
end Go.Rd
namespace Go.Rd
open Go Go.HL Go.Wx
variable [Lvl]
abbrev machV (AB AQ AL AW : Option Addr) (cB cQ cL cW : Nat) (m : MachP) : Value := .agg #[.int .i64 m.rods, .int .i64 m.levers, .int .i64 m.regs, .int .i64 m.travel, .int .i64 m.opn, .slice AB m.buttons.length cB, .slice AQ m.pins.length cQ, .slice AL m.links.length cL, .slice AW m.weights.length cW]
abbrev handV (HA OA : Option Addr) (cH cO : Nat) (a : HandP) : Value := .agg #[.slice HA a.buttons.length cH, .slice OA a.on.length cO]
structure MachR (h : AH) (AB AQ AL AW : Option Addr) (m : MachP) : Prop where
 b : Row h 1 intC AB m.buttons
 q : Row h 3 pinC AQ m.pins
 l : Row h 4 linkC AL m.links
 w : Row h 1 intC AW m.weights
theorem MachR.ext {h h' : AH} {AB AQ AL AW : Option Addr} {m : MachP} (r : MachR h AB AQ AL AW m) (e : Ext h h') : MachR h' AB AQ AL AW m := ⟨r.b.ext e, r.q.ext e, r.l.ext e, r.w.ext e⟩
structure HandR (h : AH) (HA OA : Option Addr) (a : HandP) : Prop where
 b : Row h 1 intC HA a.buttons
 o : Row h 1 intC OA a.on
theorem HandR.ext {h h' : AH} {HA OA : Option Addr} {a : HandP} (r : HandR h HA OA a) (e : Ext h h') : HandR h' HA OA a := ⟨r.b.ext e, r.o.ext e⟩
theorem MachV.open {h : AH} {m : MachP} {v : Value} (r : MachV h m v) : ∃ AB AQ AL AW cB cQ cL cW, v = machV AB AQ AL AW cB cQ cL cW m ∧ MachR h AB AQ AL AW m := by
 obtain ⟨_, _, _, _, rfl, ⟨AB, cB, rfl, r1⟩, ⟨AQ, cQ, rfl, r2⟩, ⟨AL, cL, rfl, r3⟩, ⟨AW, cW, rfl, r4⟩⟩ := r
 exact ⟨AB, AQ, AL, AW, cB, cQ, cL, cW, rfl, r1, r2, r3, r4⟩
theorem MachR.close {h : AH} {m : MachP} {AB AQ AL AW : Option Addr} {cB cQ cL cW : Nat} (r : MachR h AB AQ AL AW m) : MachV h m (machV AB AQ AL AW cB cQ cL cW m) :=
 ⟨_, _, _, _, rfl, ⟨_, _, rfl, r.b⟩, ⟨_, _, rfl, r.q⟩, ⟨_, _, rfl, r.l⟩, ⟨_, _, rfl, r.w⟩⟩
theorem HandV.open {h : AH} {a : HandP} {v : Value} (r : HandV h a v) : ∃ HA OA cH cO, v = handV HA OA cH cO a ∧ HandR h HA OA a := by
 obtain ⟨_, _, rfl, ⟨HA, cH, rfl, r1⟩, ⟨OA, cO, rfl, r2⟩⟩ := r
 exact ⟨HA, OA, cH, cO, rfl, r1, r2⟩
theorem HandR.close {h : AH} {a : HandP} {HA OA : Option Addr} {cH cO : Nat} (r : HandR h HA OA a) : HandV h a (handV HA OA cH cO a) := ⟨_, _, rfl, ⟨_, _, rfl, r.b⟩, ⟨_, _, rfl, r.o⟩⟩
end Go.Rd
namespace Go.Rd
open Go Go.HL Go.Wx
variable [Lvl]
def SlX {α : Type} (h : AH) (m : Nat) (T : AH → α → List Value → Prop) (l : List α) (v : Value) : Prop :=
 ∃ (cs : List (List Value)) (A : Option Addr) (cap : Nat), v = .slice A l.length cap ∧ cs.length = l.length ∧ Row h m id A cs ∧ ∀ (i : Nat) (x : α) (c : List Value), l[i]? = some x → cs[i]? = some c → T h x c
def Mono {α : Type} (T : AH → α → List Value → Prop) : Prop := ∀ h h' x c, Ext h h' → T h x c → T h' x c
theorem SlX.ext {α : Type} {h h' : AH} {m : Nat} {T : AH → α → List Value → Prop} {l : List α} {v : Value} (r : SlX h m T l v) (mo : Mono T) (e : Ext h h') : SlX h' m T l v := by
 obtain ⟨cs, A, cap, hv, hl, R, hT⟩ := r
 exact ⟨cs, A, cap, hv, hl, R.ext e, fun i x c h1 h2 => mo _ _ _ _ e (hT i x c h1 h2)⟩
theorem SlX.nil {α : Type} (h : AH) (m : Nat) (T : AH → α → List Value → Prop) (A : Option Addr) (c : Nat) : SlX h m T ([] : List α) (.slice A 0 c) :=
 ⟨[], A, c, rfl, rfl, ⟨fun _ hx => absurd hx (List.not_mem_nil), Rd.nil _ _⟩, fun i x c h1 _ => by simp at h1⟩
def Els {α : Type} (h : AH) (T : AH → α → List Value → Prop) (l : List α) (cs : List (List Value)) : Prop := cs.length = l.length ∧ ∀ (i : Nat) (x : α) (c : List Value), l[i]? = some x → cs[i]? = some c → T h x c
theorem Els.nil {α : Type} (h : AH) (T : AH → α → List Value → Prop) : Els h T ([] : List α) [] := ⟨rfl, fun i x c h1 _ => by simp at h1⟩
theorem Els.ext {α : Type} {h h' : AH} {T : AH → α → List Value → Prop} {l : List α} {cs : List (List Value)} (r : Els h T l cs) (mo : Mono T) (e : Ext h h') : Els h' T l cs := ⟨r.1, fun i x c h1 h2 => mo _ _ _ _ e (r.2 i x c h1 h2)⟩
theorem Els.snoc {α : Type} {h : AH} {T : AH → α → List Value → Prop} {l : List α} {cs : List (List Value)} {x : α} {c : List Value} (r : Els h T l cs) (t : T h x c) : Els h T (l ++ [x]) (cs ++ [c]) := by
 refine ⟨by simp [r.1], fun i y d h1 h2 => ?_⟩
 rw [List.getElem?_append] at h1 h2
 rw [r.1] at h2
 split at h1
 ·rename_i hi; rw [if_pos hi] at h2; exact r.2 i y d h1 h2
 ·rename_i hi
  rw [if_neg hi] at h2
  have h0 : i - l.length = 0 := by
   have := (List.getElem?_eq_some_iff.1 h1).1
   simp at this
   omega
  rw [h0] at h1 h2
  simp at h1 h2
  subst h1 h2
  exact t
theorem Els.at {α : Type} {h : AH} {T : AH → α → List Value → Prop} {l : List α} {cs : List (List Value)} (r : Els h T l cs) {i : Nat} (hi : i < l.length) : ∃ hc : i < cs.length, T h l[i] cs[i] :=
 ⟨by rw [r.1]; exact hi, r.2 i _ _ (List.getElem?_eq_getElem hi) (List.getElem?_eq_getElem (by rw [r.1]; exact hi))⟩
theorem SlX.els {α : Type} {h : AH} {m : Nat} {T : AH → α → List Value → Prop} {l : List α} {v : Value} (r : SlX h m T l v) : ∃ cs A cap, v = .slice A l.length cap ∧ Row h m id A cs ∧ Els h T l cs := by
 obtain ⟨cs, A, cap, hv, hl, R, hT⟩ := r
 exact ⟨cs, A, cap, hv, R, hl, hT⟩
theorem SlX.of {α : Type} {h : AH} {m : Nat} {T : AH → α → List Value → Prop} {l : List α} {cs : List (List Value)} {A : Option Addr} {cap n : Nat} (R : Row h m id A cs) (e : Els h T l cs) (hn : l.length = n) : SlX h m T l (.slice A n cap) := by
 subst hn
 exact ⟨cs, A, cap, rfl, e.1, R, e.2⟩
theorem SlX.acc {α : Type} {e : TypeId} {m : Nat} {T : AH → α → List Value → Prop} {l : List α} {cs : List (List Value)} {p : Option (Nat × Obj)} {v : Value} (a : AccP e m (cs.flatMap id) p v) (hm : 0 < m) (hl : ∀ x ∈ cs, x.length = m) {L : Pv} {h : AH} (V : Valid h L) {i : Nat} (hi : L[i]? = some p) (E : Els (wl h L) T l cs) : SlX (wl h L) m T l v := by
 obtain ⟨A, cap, rfl, R⟩ := AccP.row a hm hl V hi
 exact SlX.of R E E.1.symm
def TL (h : AH) (l : List Int) (c : List Value) : Prop := ∃ v, c = [v] ∧ SlR h 1 intC l v
theorem TL.mono : Mono TL := fun h h' l c e ⟨v, hc, r⟩ => ⟨v, hc, r.ext e⟩
def TH (h : AH) (a : HandP) (c : List Value) : Prop := ∃ B O, c = [B, O] ∧ SlR h 1 intC a.buttons B ∧ SlR h 1 intC a.on O
theorem TH.mono : Mono TH := fun h h' l c e ⟨B, O, hc, r, s⟩ => ⟨B, O, hc, r.ext e, s.ext e⟩
structure HeardP where
 hand : HandP
 sounds : List Int
def TU (h : AH) (x : HeardP) (c : List Value) : Prop := ∃ B O U, c = [B, O, U] ∧ SlR h 1 intC x.hand.buttons B ∧ SlR h 1 intC x.hand.on O ∧ SlR h 1 intC x.sounds U
theorem TU.mono : Mono TU := fun h h' l c e ⟨B, O, U, hc, r, s, t⟩ => ⟨B, O, U, hc, r.ext e, s.ext e, t.ext e⟩
end Go.Rd
namespace Go.Rd
open Go Go.HL Go.Wx
variable [Lvl]
inductive FaultP
 | shut (i : Nat)
 | opn (i : Nat)
 | pin (i : Nat)
 | link (i : Nat)
 deriving DecidableEq
structure BrkP where
 pins : List PinP
 links : List LinkP
 stay : Nat
 dumb : Nat
end Go.Rd
namespace Go.Rd
open Go Go.HL Go.Wx
end Go.Rd
namespace Go.Rd
open Go Go.HL Go.Wx
end Go.Rd
namespace Go.Wx
open Go Go.HL
variable [Lvl]
end Go.Wx
namespace Go.HL
open Go Go.Wx
variable [Lvl]
section
variable {P : Program} {n : Nat} {d : Option Tmp} {ty : TypeId} {ps : String} {af : Array Edge} {S : Sl}
end
section
variable {P : Program} {n : Nat} {ops : Array Oper} {os : List Oper} {K : Sl → Pv → AH → Prop} {E : Value → Sl → Pv → AH → Prop} {S : Sl} {L : Pv} {h : AH} {d : Option Tmp} {ty : TypeId} {ps : String} {af : Array Edge}
end
end Go.HL
namespace Go.HL
open Go
variable [Lvl]
section
variable {P : Program} {n : Nat} {ops : Array Oper} {ro : Option Nat} {K : Post} {S : Sl} {D : Df} {L : Pv} {h : AH} {X : Sl → AH → Prop} {dn ac : List Nat}
abbrev Pins := List (Nat × Addr × Value)
def PinG (C : Pins) (dn : List Nat) (g : Nat × (AH → Prop)) : Prop :=
 el g.1 dn = true ∧ (∀ H1 H2, Ext H1 H2 → g.2 H1 → g.2 H2) ∧ ((∀ H, g.2 H) ∨ ∃ c ∈ C, c.1 = g.1 ∧ ∀ H, cellA H c.2.1 = some c.2.2 → g.2 H)
def PinH (C : Pins) (H : AH) : Prop := ∀ c ∈ C, cellA H c.2.1 = some c.2.2
theorem PinG.now {C : Pins} {g : Nat × (AH → Prop)} {H : AH} (p : PinG C dn g) (q : PinH C H) : g.2 H := by
 rcases p.2.2 with a | ⟨c, hc, _, a⟩
 ·exact a H
 ·exact a H (q c hc)
section rules
variable {C : Pins} {i : Nat} {d : Option Tmp} {op : Op} {ty : TypeId} {ps : String} {af : Array Edge}
end rules
end
end Go.HL
namespace Go.Proofs.Ytgjcepdhclmglaa
open Go Go.HL Go.Proofs Go.Wx
variable [Lvl]
set_option maxRecDepth 100000
theorem accR_new {e : TypeId} {m : Nat} {b : Nat} : AccR e m [] ⟨some (b, .cells ([] : List Value).toArray e (0, 0)), some ⟨b, 0, none⟩, 0, 0⟩ := accp_new
theorem cloneIntO (l : List Int) (A : Option Addr) (c : Nat) (h : AH) (R : Row h 1 intC A l) (hl : l.length < 2 ^ 20) :
  FnM Try.prog (.func (.func 64) #[] ([] : List Value).toArray) [.slice A l.length c] h [] (fun v h' M' => ∃ a : Acc, M' = [a.p] ∧ v = .slice a.A a.n a.c ∧ AccR 3 1 (l.flatMap intC) a) := by
 cases A with
 | none =>
  have h0 := R.none_nil (by omega)
  subst h0
  refine fnM_body rfl rfl Try.func64 rfl Try.ntmps64 rfl ?_
  refine qF ?_
  refine qC rfl ?_
  refine qA (qE (v := .slice _ _ _) rfl) ?_
  refine qF ?_
  refine qF ?_
  refine qC rfl ?_
  refine qA (qB (v := .slice _ _ _) rfl) ?_
  refine qA (qK (v := .bool _) rfl) ?_
  refine wA rfl (fun ht => ?_) (fun ht => ?_)
  ·skip
   refine qF ?_
   refine qC rfl ?_
   refine qA (qE (v := .slice _ _ _) rfl) ?_
   refine wK ?_
   refine qW (vs := [_]) Try.results64 ⟨qR rfl rfl, trivial⟩ fun V => ?_
   exact ⟨_, [none], rfl, V, (Ext.refl _), acc0, rfl, rfl, accR0⟩
  ·cases ht
 | some a =>
  refine fnM_body rfl rfl Try.func64 rfl Try.ntmps64 rfl ?_
  refine qF ?_
  refine qC rfl ?_
  refine qA (qE (v := .slice _ _ _) rfl) ?_
  refine qF ?_
  refine qF ?_
  refine qC rfl ?_
  refine qA (qB (v := .slice _ _ _) rfl) ?_
  refine qA (qK (v := .bool _) rfl) ?_
  refine wA rfl (fun ht => ?_) (fun ht => ?_)
  ·cases ht
  ·skip
   refine qT ?_
   refine qF ?_
   refine qC rfl ?_
   refine wG (zc := [_]) (vs := []) (cs := []) rfl rfl rfl rfl rfl rfl rfl fun b5 hb5 => ?_
   refine qH [_] rfl ?_
   refine qA (qB (v := .slice _ _ _) rfl) ?_
   refine zK 0 accR_new rfl rfl rfl (fun V => R.2.ext (wE V)) (wS R.1) (flat_plain intP l) rfl rfl rfl rfl rfl rfl rfl (by omega) rfl (by rw [wS R.1, List.length_nil]; omega) fun a2 h1a E1a ha2 => ?_
   refine qH [_] rfl ?_
   refine qA (qE (v := .slice _ _ _) rfl) ?_
   refine wK ?_
   refine qW (vs := [_]) Try.results64 ⟨qR rfl rfl, trivial⟩ fun V => ?_
   exact ⟨_, [_], rfl, V, E1a, a2, rfl, rfl, ha2⟩
theorem fnM_args {P : Program} {y : Value} {vs vs' : List Value} {h : AH} {M : Pv} {R : Value → AH → Pv → Prop} (e : vs = vs') (c : FnM P y vs h M R) : FnM P y vs' h M R := e ▸ c
def Will (y : Value) (h0 : AH) (p : List Int → Bool) : Prop := ∀ h, Ext h0 h → Fin h → ∀ (l : List Int) (B : Option Addr) (c : Nat), Row h 1 intC B l → l.length ≤ 20 → CallV Try.prog y [.slice B l.length c] h (fun v h' => Ext h h' ∧ v = .bool (p l)) noE
theorem Will.ext {y : Value} {h h' : AH} {p : List Int → Bool} (w : Will y h p) (E : Ext h h') : Will y h' p := fun h1 E1 => w h1 (E.trans E1)
structure FewB (h : AH) (n : Nat) (y : Value) (bN bW bG bF bD : Nat) : Prop where
 c1 : h bN = some (.cells #[.int .i64 n] 3 (0, 0))
 c2 : ∃ t, h bW = some (.cells #[y] t (0, 0))
 c3 : ∃ t, h bG = some (.cells #[.func (.func 63) #[] #[.pointer (some ⟨bD, 0, none⟩), .pointer (some ⟨bW, 0, none⟩), .pointer (some ⟨bF, 0, none⟩), .pointer (some ⟨bN, 0, none⟩), .pointer (some ⟨bG, 0, none⟩)]] t (0, 0))
theorem FewB.ext {h h' : AH} {n : Nat} {y : Value} {bN bW bG bF bD : Nat} (B : FewB h n y bN bW bG bF bD) (E : Ext h h') : FewB h' n y bN bW bG bF bD :=
 ⟨E _ _ B.c1, B.c2.imp fun _ e => E _ _ e, B.c3.imp fun _ e => E _ _ e⟩
def FewI (bF bD : Nat) (o : Option (List Int)) (h : AH) (M : Pv) : Prop := ∃ FA fc, M = [some (bF, .cells #[.slice FA (o.getD []).length fc] 22 (0, 0)), some (bD, .cells #[.bool o.isSome] 4 (0, 0))] ∧ Row h 1 intC FA (o.getD [])
set_option maxHeartbeats 4000000 in
theorem fewest1_ok (n : Nat) (hn : n ≤ 7) (p : List Int → Bool) (y : Value) (h0 : AH) (W : Will y h0 p) (bN bW bG bF bD : Nat) :
  ∀ (m a : Nat) (begun : List Int) (B : Option Addr) (cB : Nat) (o : Option (List Int)) (h : AH) (M : Pv), Ext h0 h → FewB h n y bN bW bG bF bD → Row h 1 intC B begun → begun.length + m ≤ 20 → a ≤ 20 → FewI bF bD o h M →
   FnM Try.prog (.func (.func 63) #[] [.pointer (some ⟨bD, 0, none⟩), .pointer (some ⟨bW, 0, none⟩), .pointer (some ⟨bF, 0, none⟩), .pointer (some ⟨bN, 0, none⟩), .pointer (some ⟨bG, 0, none⟩)].toArray) [.slice B begun.length cB, .int .i64 a, .int .i64 m] h M
    (fun _ h' M' => FewI bF bD (o.or ((combsM n m a begun).find? p)) h' M') := by
 intro m
 induction m with
 | zero =>
  intro a begun B cB o h M E0 FB RB hb ha I
  obtain ⟨FA, fc, rfl, RF⟩ := I
  obtain ⟨t2, c2⟩ := FB.c2
  cases o with
  | some x =>
   refine fnM_body rfl rfl Try.func63 rfl Try.ntmps63 rfl ?_
   refine qF ?_
   refine qF ?_
   refine qC rfl ?_
   refine qA (qB (v := .int .i64 _) rfl) ?_
   refine qA (qK (v := .bool _) rfl) ?_
   refine xp_condT rfl (rfl) ?_
   refine qF ?_
   refine qF ?_
   refine qC rfl ?_
   refine qI 1 (v := .bool _) rfl rfl rfl rfl ?_
   refine qA (qK (v := .bool _) rfl) ?_
   refine qA (qB (v := .bool _) rfl) ?_
   refine wQ rfl rfl ?_
   refine wQ rfl rfl ?_
   refine wQ rfl rfl ?_
   refine qA (wY rfl rfl (v := .bool _) rfl) ?_
   refine zI rfl (by decide) ?_
   refine qT ?_
   refine wK ?_
   refine qW (vs := []) Try.results63 trivial fun V => ?_
   exact ⟨_, _, rfl, V, (Ext.refl _), FA, fc, rfl, RF⟩
  | none =>
   refine fnM_body rfl rfl Try.func63 rfl Try.ntmps63 rfl ?_
   refine qF ?_
   refine qF ?_
   refine qC rfl ?_
   refine qA (qB (v := .int .i64 _) rfl) ?_
   refine qA (qK (v := .bool _) rfl) ?_
   refine xp_condT rfl (rfl) ?_
   refine qF ?_
   refine qF ?_
   refine qC rfl ?_
   refine qI 1 (v := .bool _) rfl rfl rfl rfl ?_
   refine qA (qK (v := .bool _) rfl) ?_
   refine qA (qB (v := .bool _) rfl) ?_
   refine qQ rfl rfl ?_
   refine qV (v := y) rfl rfl (by simp only [cellA, c2]; rfl) ?_
   refine qQ rfl rfl ?_
   refine qA (qB (v := .slice _ _ _) rfl) ?_
   refine qQ rfl rfl ?_
   refine op_callV rfl rfl (fun f => W h E0 f begun B cB RB (by omega)) ?_
   rintro _ h1 E1 rfl
   refine qA (wX rfl rfl (v := .bool _) rfl) ?_
   refine wA rfl (fun hp => ?_) (fun hp => ?_)
   ·skip
    refine qC rfl ?_
    refine qA (qB (v := .slice _ _ _) rfl) ?_
    refine qJ 0 (v := .slice _ _ _) (vs := [_]) (c' := [_]) rfl rfl rfl rfl rfl rfl rfl rfl rfl ?_
    refine qH [_, _] rfl ?_
    refine qJ 1 (v := .bool _) (vs := [_]) (c' := [_]) rfl rfl rfl rfl rfl rfl rfl rfl rfl ?_
    refine qH [_, _] rfl ?_
    refine wK ?_
    refine qW (vs := []) Try.results63 trivial fun V => ?_
    refine ⟨_, _, rfl, V, E1, B, cB, ?_, by simpa [combsM, hp] using RB.ext E1⟩
    simp [combsM, hp]
   ·skip
    refine qT ?_
    refine wK ?_
    refine qW (vs := []) Try.results63 trivial fun V => ?_
    refine ⟨_, _, rfl, V, E1, FA, fc, ?_, by simpa [combsM, hp] using RF.ext E1⟩
    simp [combsM, hp]
 | succ m ih =>
  intro a begun B cB o h M E0 FB RB hb ha I
  obtain ⟨FA, fc, rfl, RF⟩ := I
  obtain ⟨t3, c3⟩ := FB.c3
  refine fnM_body rfl rfl Try.func63 rfl Try.ntmps63 rfl ?_
  refine qF ?_
  refine qF ?_
  refine qC rfl ?_
  refine qA (qB (v := .int .i64 _) rfl) ?_
  refine qA (qK (v := .bool _) rfl) ?_
  refine zI rfl (by simp; omega) ?_
  refine qT ?_
  refine qF ?_
  refine qC rfl ?_
  refine qA (qB (v := .int .i64 _) rfl) ?_
  refine qA (qE (v := .int .i64 _) rfl) ?_
  refine qN ?_
  refine xp_loopL [11, 23, 24, 25, 26, 27, 28, 29, 30, 31, 32, 33, 34, 35, 36, 37, 38, 39, 40, 41, 42] 2 (α := Nat × Option Addr × Nat) (fun ⟨k, FA, fc⟩ => [(11, .int .i64 ((a + k : Nat) : Int))]) (fun ⟨k, FA, fc⟩ L => (L.set 0 (some (bF, .cells #[.slice FA ((grownM (fun i => combsM n m (i + 1) (begun ++ [(i : Int)])) p a o k).getD []).length fc] 22 (0, 0)))).set 1 (some (bD, .cells #[.bool (grownM (fun i => combsM n m (i + 1) (begun ++ [(i : Int)])) p a o k).isSome] 4 (0, 0)))) (fun ⟨k, FA, fc⟩ h_k => k ≤ n - a ∧ Row h_k 1 intC FA ((grownM (fun i => combsM n m (i + 1) (begun ++ [(i : Int)])) p a o k).getD [])) (fun ⟨k, FA, fc⟩ => n - a - k) ((0, FA, fc)) ⟨rfl, trivial⟩ (rfl) (⟨Nat.zero_le _, RF⟩) ?_
  rintro ⟨k, FA, fc⟩ T1 h_k E_k J_k
  refine qP [_, _] rfl ?_
  obtain ⟨K1, K2⟩ := J_k
  refine qF ?_
  refine qF ?_
  refine qC rfl ?_
  refine qA (qB (v := .int .i64 _) rfl) ?_
  refine qV (v := .int .i64 _) rfl rfl (by simp only [cellA, (FB.ext E_k).c1]; rfl) ?_
  refine qA (qK (v := .bool _) rfl) ?_
  refine qA (qB (v := .bool _) rfl) ?_
  rcases Bool.eq_false_or_eq_true (decide (((a + k : Nat) : Int) < (n : Int))) with ht | ht
  ·skip
   have hlt : a + k < n := by have := of_decide_eq_true ht; omega
   refine qQ rfl ht ?_
   refine qI 1 (v := .bool _) rfl rfl rfl rfl ?_
   refine qQ rfl ht ?_
   refine qA (qK (v := .bool _) rfl) ?_
   refine qA (wX rfl ht (v := .bool _) rfl) ?_
   refine wA rfl (fun hd => ?_) (fun hd => ?_)
   ·skip
    refine qT ?_
    refine qF ?_
    refine qN ?_
    refine zB [false, false, true] rfl rfl rfl ?_
    refine qL (i := 0) rfl (by decide +kernel) ?_
    refine qV (v := .func _ _ _) rfl rfl (by simp only [cellA, E_k _ _ c3]; rfl) ?_
    refine qD (i := 1) rfl (by decide +kernel) (qB (v := .slice _ _ _) rfl) ?_
    refine qD (i := 3) rfl (by decide +kernel) (qB (v := .int .i64 _) rfl) ?_
    refine qD (i := 6) rfl (by decide +kernel) (qB (v := .int .i64 _) rfl) ?_
    refine qD (i := 7) rfl (by decide +kernel) (qO rfl (by omega)) ?_
    refine qD (i := 8) rfl (by decide +kernel) (qB (v := .int .i64 _) rfl) ?_
    refine qD (i := 9) rfl (by decide +kernel) (qO rfl (by omega)) ?_
    refine zD (i := 2) rfl (by decide +kernel) ?_
    refine op_fnV rfl rfl (cloneIntO begun B cB h_k (RB.ext E_k) (by omega)) ?_
    rintro _ h5 _ Vmn E5 ⟨a1, rfl, rfl, ha1⟩
    refine ⟨ext_outN rfl E5, ?_⟩
    refine qZ [_, _, _] rfl ?_
    refine zD (i := 4) rfl (by decide +kernel) ?_
    refine wG (zc := [_]) (vs := [(0, .int .i64 _)]) (cs := [_]) rfl rfl rfl rfl rfl rfl rfl fun b36 hb36 => ?_
    refine ⟨ext_newM hb36 _, ?_⟩
    refine qZ [_, _, _, _] rfl ?_
    refine zD (i := 5) rfl (by decide +kernel) ?_
    refine zK 2 ha1 rfl rfl rfl (fun V => rdP V (i := 3) rfl) rfl rfl rfl rfl rfl rfl rfl rfl rfl (by omega) rfl (by rw [wS (m := 1) (fun _ _ => rfl)]; simp; omega) fun a2 h2a E2a ha2 => ?_
    refine ⟨ext_wlm E2a _, ?_⟩
    refine qZ [_, _, _, _] rfl ?_
    have hfm : begun.flatMap intC ++ [Value.int .i64 ((a + k : Nat) : Int)] = (begun ++ [((a + k : Nat) : Int)]).flatMap intC := by rw [List.flatMap_append]; rfl
    obtain ⟨b2, len2, cap2, junk2, hl2, rfl⟩ := AccR.some ha2 (by simp)
    have e2 : len2 = (begun ++ [((a + k : Nat) : Int)]).length := by rw [hfm, wS (m := 1) (fun _ _ => rfl)] at hl2; omega
    subst e2
    refine dw_pubM 2 rfl ?_
    intro h6 E6 p6
    refine qZ [_, _, _, _] rfl ?_
    have R2 : Row h6 1 intC (some ⟨b2, 0, none⟩) (begun ++ [((a + k : Nat) : Int)]) := ⟨fun _ _ => rfl, by rw [← hfm]; exact AccR.rd ha2 (fun b o e => by cases e; exact p6)⟩
    refine wI (i := 10) rfl (by decide +kernel) (by decide +kernel) ?_
    refine zL [] [_, _] [_, _] (vs := [.slice _ _ _, .int .i64 _, .int .i64 _]) rfl rfl rfl (fnM_args (by simp only [List.cons.injEq, Value.int.injEq, true_and, and_true]; omega) (ih (a + k + 1) (begun ++ [((a + k : Nat) : Int)]) _ cap2 _ h6 _ (zP E0 (zP (zP (zP E_k E5) E2a) E6)) (FB.ext (zP (zP (zP E_k E5) E2a) E6)) R2 (by simp; omega) (by omega) ⟨FA, fc, rfl, K2.ext (zP (zP E5 E2a) E6)⟩)) ?_
    rintro _ h7 _ E7 ⟨FA2, fc2, rfl, R7⟩
    refine qZ [_, _, _, _] rfl ?_
    refine wW rfl ?_
    refine qC rfl ?_
    refine qA (qB (v := .int .i64 _) rfl) ?_
    refine qA (qO rfl (by omega)) ?_
    refine qA (qE (v := .int .i64 _) rfl) ?_
    refine ⟨(k + 1, FA2, fc2), ⟨intE (by omega), trivial⟩, rfl, rfl, (zP (zP (zP (zP E_k E5) E2a) E6) E7), fun h3 E3 => ⟨by omega, R7.ext E3⟩, by first | omega | (dsimp only; omega), ?_⟩
    repeat (first | exact qU _ _ _ | refine wB (by decide) ?_ | refine qS rfl ?_ | refine wN rfl ?_)
   ·skip
    have hd' : (grownM (fun i => combsM n m (i + 1) (begun ++ [(i : Int)])) p a o k).isSome = true := by simpa using hd
    have hst := grownM_stop hd' (n - a - k)
    rw [show k + (n - a - k) = n - a by omega, grownM_eq] at hst
    refine wU ?_
    refine qW (vs := []) Try.results63 trivial fun V => ?_
    exact ⟨_, [_, _], rfl, V, E_k, FA, fc, by rw [combsM, hst], by rw [combsM, hst]; exact K2⟩
  ·skip
   have hk : k = n - a := by have := of_decide_eq_false ht; omega
   subst hk
   rw [grownM_eq] at K2
   refine wQ rfl ht ?_
   refine wQ rfl ht ?_
   refine qA (wY rfl ht (v := .bool _) rfl) ?_
   refine zI rfl (rfl) ?_
   refine wU ?_
   refine qW (vs := []) Try.results63 trivial fun V => ?_
   exact ⟨_, [_, _], rfl, V, E_k, FA, fc, by rw [combsM, grownM_eq], by rw [combsM]; exact K2⟩
end Go.Proofs.Ytgjcepdhclmglaa
namespace Go.Proofs.Ytgjcepdhclmglaa
open Go Go.HL Go.Proofs Go.Wx
variable [Lvl]
set_option maxRecDepth 100000
set_option maxHeartbeats 4000000 in
theorem fewest_ok (n : Nat) (hn : n ≤ 7) (p : List Int → Bool) (fn : Fn) (fs cs : Array Value) (h : AH) (W : Will (.func fn fs cs) h p) :
  FnT Try.prog 50 #[.int .i64 n, .func fn fs cs] h (fun v h' => ∃ w, v = .tuple #[w, .bool (fewestP n p (n + 1)).isSome] ∧ SlR h' 1 intC ((fewestP n p (n + 1)).getD []) w) := by
 refine wL Try.func50 rfl Try.ntmps50 rfl ?_
 refine qF ?_
 refine qC rfl ?_
 refine zF (v := .int .i64 _) (cs := [_]) rfl rfl fun b2 hb2 => ?_
 refine qH [_] rfl ?_
 refine zF (v := _) (cs := [_]) rfl rfl fun b3 hb3 => ?_
 refine qH [_, _] rfl ?_
 refine qA (qE (v := .slice _ _ _) rfl) ?_
 refine qA (qE (v := .bool _) rfl) ?_
 refine xp_scope ?_
 refine qF ?_
 refine qC rfl ?_
 refine wO (cs := [_]) rfl rfl fun b6 hb6 => ?_
 refine qH [_, _, _] rfl ?_
 refine qF ?_
 refine qC rfl ?_
 refine wO (cs := [_]) rfl rfl fun b7 hb7 => ?_
 refine qH [_, _, _, _] rfl ?_
 refine qJ 3 (v := .bool _) (vs := [_]) (c' := [_]) rfl rfl rfl rfl rfl rfl rfl rfl rfl ?_
 refine qH [_, _, _, _] rfl ?_
 refine qF ?_
 refine qC rfl ?_
 refine wO (cs := [_]) rfl rfl fun b8 hb8 => ?_
 refine qH [_, _, _, _, _] rfl ?_
 refine qF ?_
 refine qC rfl ?_
 refine qA (pv_makeFunc (vs := []) (ws := [_, _, _, _, _]) rfl rfl) ?_
 refine qJ 4 (v := _) (vs := [_]) (c' := [_]) rfl rfl rfl rfl rfl rfl rfl rfl rfl ?_
 refine qH [_, _, _, _, _] rfl ?_
 refine qF ?_
 refine xp_label ?_
 refine zH 0 rfl ?_
 intro h1 E1 p1
 refine zH 1 rfl ?_
 intro h2 E2 p2
 refine zH 4 rfl ?_
 intro h3 E3 p3
 have FB : FewB h3 n (.func fn fs cs) b2 b3 b8 b6 b7 := ⟨(zP E2 E3) _ _ p1, ⟨_, E3 _ _ p2⟩, ⟨_, p3⟩⟩
 refine qF ?_
 refine qF ?_
 refine qC rfl ?_
 refine qV (v := .int .i64 _) rfl rfl (by simp only [cellA, FB.c1]; rfl) ?_
 refine qA (qO rfl (by omega)) ?_
 refine qA (qB (v := .int .i64 _) rfl) ?_
 refine qN ?_
 refine xp_loopL [9, 13, 14, 15, 16, 17, 18, 19, 20] 5 (α := Nat × Option Addr × Nat) (fun ⟨k, FA, fc⟩ => [(13, .int .i64 k)]) (fun ⟨k, FA, fc⟩ L => (L.set 2 (some (b6, .cells #[.slice FA ((fewestP n p k).getD []).length fc] 22 (0, 0)))).set 3 (some (b7, .cells #[.bool (fewestP n p k).isSome] 4 (0, 0)))) (fun ⟨k, FA, fc⟩ h_k => k ≤ n + 1 ∧ Row h_k 1 intC FA ((fewestP n p k).getD [])) (fun ⟨k, FA, fc⟩ => n + 1 - k) ((0, none, 0)) ⟨rfl, trivial⟩ (rfl) (⟨by omega, ⟨fun _ h => (by cases h), Rd.nil _ _⟩⟩) ?_
 rintro ⟨k, FA, fc⟩ T1 h_k E_k J_k
 refine qP [_, _, _, _, _] rfl ?_
 obtain ⟨K1, K2⟩ := J_k
 obtain ⟨t8, c8⟩ := (FB.ext E_k).c3
 refine qF ?_
 refine qC rfl ?_
 refine qA (qK (v := .bool _) rfl) ?_
 refine qF ?_
 refine wA rfl (fun ht => ?_) (fun ht => ?_)
 ·skip
  have hlt : k < n + 1 := by have := of_decide_eq_true ht; omega
  refine qT ?_
  refine qF ?_
  refine qN ?_
  refine qF ?_
  refine qC rfl ?_
  refine qA (qB (v := .int .i64 _) rfl) ?_
  refine qA (qE (v := .int .i64 _) rfl) ?_
  refine qF ?_
  refine qC rfl ?_
  refine qV (v := .func _ _ _) rfl rfl (by simp only [cellA, c8]; rfl) ?_
  refine qA (qB (v := .int .i64 _) rfl) ?_
  refine zL [_, _] [_, _] [_] (vs := [.slice _ _ _, .int .i64 _, .int .i64 _]) rfl rfl rfl ((fewest1_ok n hn p _ h W b2 b3 b8 b6 b7 k 0 [] none 0 (fewestP n p k) h_k _ (zP (zP (zP E1 E2) E3) E_k) (FB.ext E_k) ⟨fun _ h => (by cases h), Rd.nil _ _⟩ (by simp; omega) (by omega) ⟨FA, fc, rfl, K2⟩)) ?_
  rintro _ h7 _ E7 ⟨FA2, fc2, rfl, R7⟩
  refine qH [_, _, _, _, _] rfl ?_
  rw [← fewestP_succ] at R7
  refine qF ?_
  refine qC rfl ?_
  refine qI 3 (v := .bool _) rfl rfl rfl rfl ?_
  refine wA rfl (fun hd => ?_) (fun hd => ?_)
  ·skip
   have hd' : (fewestP n p (k + 1)).isSome = true := by rw [fewestP_succ]; exact hd
   have hst := fewestP_stop hd' (n - k)
   rw [show k + 1 + (n - k) = n + 1 by omega] at hst
   refine wU ?_
   refine qF ?_
   refine zB [] rfl rfl rfl ?_
   refine qL (i := 0) rfl (by decide +kernel) ?_
   refine qI 2 (v := .slice _ _ _) rfl rfl rfl rfl ?_
   refine qL (i := 1) rfl (by decide +kernel) ?_
   refine qI 3 (v := .bool _) rfl rfl rfl rfl ?_
   refine qD (i := 2) rfl (by decide +kernel) (qE (v := .slice _ _ _) rfl) ?_
   refine qD (i := 3) rfl (by decide +kernel) (qE (v := .bool _) rfl) ?_
   refine wW rfl ?_
   refine wK ?_
   refine qW (vs := [_, _]) Try.results50 ⟨qR rfl rfl, qR rfl rfl, trivial⟩ fun V => ?_
   refine ⟨(zP (zP (zP (zP (zP E1 E2) E3) E_k) E7) (wE V)), .slice FA2 ((fewestP n p (n + 1)).getD []).length fc2, ?_, FA2, fc2, rfl, ?_⟩
   ·rw [hst, fewestP_succ]; rfl
   ·rw [hst]; exact R7.ext (wE V)
  ·skip
   refine qT ?_
   refine qC rfl ?_
   refine qA (qO rfl (by omega)) ?_
   refine qA (qB (v := .int .i64 _) rfl) ?_
   refine ⟨(k + 1, FA2, fc2), ⟨rfl, trivial⟩, rfl, by rw [← fewestP_succ]; rfl, (zP E_k E7), fun h3 E3 => ⟨by omega, R7.ext E3⟩, by first | omega | (dsimp only; omega), ?_⟩
   repeat (first | exact qU _ _ _ | refine wB (by decide) ?_ | refine qS rfl ?_ | refine wN rfl ?_)
 ·skip
  have hk : k = n + 1 := by have := of_decide_eq_false ht; omega
  subst hk
  refine wU ?_
  refine qF ?_
  refine zB [] rfl rfl rfl ?_
  refine qL (i := 0) rfl (by decide +kernel) ?_
  refine qI 2 (v := .slice _ _ _) rfl rfl rfl rfl ?_
  refine qL (i := 1) rfl (by decide +kernel) ?_
  refine qI 3 (v := .bool _) rfl rfl rfl rfl ?_
  refine qD (i := 2) rfl (by decide +kernel) (qE (v := .slice _ _ _) rfl) ?_
  refine qD (i := 3) rfl (by decide +kernel) (qE (v := .bool _) rfl) ?_
  refine wW rfl ?_
  refine wK ?_
  refine qW (vs := [_, _]) Try.results50 ⟨qR rfl rfl, qR rfl rfl, trivial⟩ fun V => ?_
  exact ⟨(zP (zP (zP (zP E1 E2) E3) E_k) (wE V)), _, rfl, FA, fc, rfl, K2.ext (wE V)⟩
theorem cells_blk {h : AH} {b : Nat} {cs : List Value} {t : TypeId} (e : h b = some (.cells cs.toArray t (0, 0))) : Cells h b 0 cs := fun j u hu => by
 simp only [cellA, e, Nat.zero_add]
 simpa using hu
def waitM (w : Int) : Int := if inM w 0 6 then 0 else 1
theorem inspect1_ask (w : Int) (b1 : Nat) (h : AH) (e1 : h b1 = some (.cells #[.int .i64 w] 3 (0, 0))) :
  AskT (.func (.func 48) #[] #[.pointer (some ⟨b1, 0, none⟩)]) h (waitM w) := by
 intro h' E _
 refine callV_fn (caps := [.pointer (some ⟨b1, 0, none⟩)]) rfl ?_
 refine wL Try.func48 rfl Try.ntmps48 rfl ?_
 refine qF ?_
 refine qC rfl ?_
 refine qA (qE (v := .int .i64 _) rfl) ?_
 refine qF ?_
 refine qF ?_
 refine qC rfl ?_
 refine qV (v := .int .i64 _) rfl rfl (by simp only [cellA, E _ _ e1]; rfl) ?_
 refine wP (caps := []) (vs := [.int .i64 _, .int .i64 _, .int .i64 _]) rfl rfl rfl (in_ok _ _ _ h') ?_
 rintro _ h3 E3 rfl
 refine qA (qK (v := .bool _) rfl) ?_
 refine wA rfl (fun ht => ?_) (fun ht => ?_)
 ·skip
  refine qF ?_
  refine qC rfl ?_
  refine qA (qE (v := .int .i64 _) rfl) ?_
  refine wK ?_
  refine qW (vs := [_]) Try.results48 ⟨qR rfl rfl, trivial⟩ fun V => ?_
  refine ⟨(zP E3 (wE V)), intE ?_⟩
  unfold waitM inM
  rw [if_neg]
  simp at ht ⊢
  omega
 ·skip
  refine qT ?_
  refine qF ?_
  refine qC rfl ?_
  refine qA (qE (v := .int .i64 _) rfl) ?_
  refine wK ?_
  refine qW (vs := [_]) Try.results48 ⟨qR rfl rfl, trivial⟩ fun V => ?_
  refine ⟨(zP E3 (wE V)), intE ?_⟩
  unfold waitM inM
  rw [if_pos]
  simpa using ht
theorem inspect2_will (s : Season) (hw6 : s.heats.length ≤ 6) (A0 A1 A2 A3 : Option Addr) (c0 c1 c2 c3 : Nat) (m : Nat) (hm : m < 2 ^ 7) (w : Int) (b1 b2 b3 : Nat) (h : AH)
  (e1 : h b1 = some (.cells #[.slice A0 s.heats.length c0, .slice A1 s.damps.length c1, .slice A2 s.joints.length c2, .slice A3 s.reports.length c3] 29 (0, 0))) (e2 : ∃ t, h b2 = some (.cells #[.int .u64 (m : Nat)] t (0, 0))) (e3 : h b3 = some (.cells #[.int .i64 w] 3 (0, 0))) :
  Will (.func (.func 51) #[] #[.pointer (some ⟨b1, 0, none⟩), .pointer (some ⟨b2, 0, none⟩), .pointer (some ⟨b3, 0, none⟩)]) h (fun l => decide (unseenOf s.heats.length (listM m) l ≤ w)) := by
 intro h' E _ l B c RB hl
 obtain ⟨t2, e2⟩ := e2
 refine callV_fn (caps := [.pointer (some ⟨b1, 0, none⟩), .pointer (some ⟨b2, 0, none⟩), .pointer (some ⟨b3, 0, none⟩)]) rfl ?_
 refine wL Try.func51 rfl Try.ntmps51 rfl ?_
 refine qF ?_
 refine qC rfl ?_
 refine qA (qE (v := .bool _) rfl) ?_
 refine qF ?_
 refine zB [] rfl rfl rfl ?_
 refine qL (i := 0) rfl (by decide +kernel) ?_
 refine op_loadA (cs := [.slice _ _ _, .slice _ _ _, .slice _ _ _, .slice _ _ _]) rfl rfl rfl rfl (cells_blk (E _ _ e1)) ?_
 refine qL (i := 1) rfl (by decide +kernel) ?_
 refine qV (v := .int .u64 _) rfl rfl (by simp only [cellA, E _ _ e2]; rfl) ?_
 refine qD (i := 2) rfl (by decide +kernel) (qB (v := .slice _ _ _) rfl) ?_
 refine qL (i := 4) rfl (by decide +kernel) ?_
 refine qV (v := .int .i64 _) rfl rfl (by simp only [cellA, E _ _ e3]; rfl) ?_
 refine zD (i := 3) rfl (by decide +kernel) ?_
 refine wP (caps := []) (vs := [.agg #[.slice _ _ _, .slice _ _ _, .slice _ _ _, .slice _ _ _], .int .u64 _, .slice _ _ _]) rfl rfl rfl (unseen_ok s hw6 A0 A1 A2 A3 c0 c1 c2 c3 m hm l (by omega) B c h' RB) ?_
 rintro _ h3 E3 rfl
 refine ⟨ext_wlm E3 _, ?_⟩
 refine qD (i := 5) rfl (by decide +kernel) (qK (v := .bool _) rfl) ?_
 refine qD (i := 6) rfl (by decide +kernel) (qE (v := .bool _) rfl) ?_
 refine wW rfl ?_
 refine wK ?_
 refine qW (vs := [_]) Try.results51 ⟨qR rfl rfl, trivial⟩ fun V => ?_
 exact ⟨(zP E3 (wE V)), rfl⟩
def inspectE (s : Season) (w : Int) : Int := knownM s [waitM w]
def inspectL (s : Season) (w : Int) : List Int := if inspectE s w = 0 then (fewestP s.heats.length (fun l => decide (unseenOf s.heats.length (listM (failingM s)) l ≤ w)) (s.heats.length + 1)).getD [] else []
theorem failingM_lt {s : Season} (h6 : s.heats.length ≤ 6) : failingM s < 2 ^ 7 := Nat.lt_of_le_of_lt Nat.and_le_left (dangerM_lt h6 _)
theorem Inspect_ok (s : Season) (Sm : Small s) (w : Int) (A0 A1 A2 A3 : Option Addr) (c0 c1 c2 c3 : Nat) (h : AH) (R : SeasonR h A0 A1 A2 A3 s) :
  FnT Try.prog 38 #[seasonV A0 A1 A2 A3 c0 c1 c2 c3 s, .int .i64 w] h (fun v h' => ∃ u, v = .tuple #[u, .int .i64 (inspectE s w)] ∧ SlR h' 1 intC (inspectL s w) u) := by
 by_cases he : inspectE s w = 0
 ·have hk := knownM_zero he
  have SV := checkM_zero hk.1
  have hw6 := SV.b.w6
  refine wL Try.func38 rfl Try.ntmps38 rfl ?_
  refine qF ?_
  refine qC rfl ?_
  refine zF (v := .agg #[.slice _ _ _, .slice _ _ _, .slice _ _ _, .slice _ _ _]) (cs := [_, _, _, _]) rfl rfl fun b2 hb2 => ?_
  refine qH [_] rfl ?_
  refine zF (v := .int .i64 _) (cs := [_]) rfl rfl fun b3 hb3 => ?_
  refine qH [_, _] rfl ?_
  refine qA (qE (v := .slice _ _ _) rfl) ?_
  refine qA (qE (v := .int .i64 _) rfl) ?_
  refine zH 1 rfl ?_
  intro h1 E1 p1
  refine qF ?_
  refine qC rfl ?_
  refine qX 0 (vs := [.slice _ _ _, .slice _ _ _, .slice _ _ _, .slice _ _ _]) rfl rfl rfl rfl rfl ?_
  refine qA (pv_makeFunc (vs := []) (ws := [_]) rfl rfl) ?_
  refine wG (zc := [_]) (vs := [(0, _)]) (cs := [_]) rfl rfl rfl rfl rfl rfl rfl fun b14 hb14 => ?_
  refine qH [_, _, _] rfl ?_
  refine wp_pub 2 rfl rfl ?_
  intro h2 E2 p14
  refine qH [_, _, _] rfl ?_
  refine wP (caps := []) (vs := [.agg #[.slice _ _ _, .slice _ _ _, .slice _ _ _, .slice _ _ _], .slice _ _ _]) rfl rfl rfl (known_yes s A0 A1 A2 A3 c0 c1 c2 c3 h2 (R.ext (zP E1 E2)) Sm.h0 Sm.h1 Sm.h2 Sm.h3 [_] [_] _ _ (rowFn p14) rfl (by simp) (ask1 ((inspect1_ask w b3 _ p1).ext E2)) he) ?_
  rintro _ h3 E3 ⟨A, c, mf, fm, fl, A', c', mf', fm', fl', rfl, X, X'⟩
  refine qA (qB (v := .tuple #[.agg #[.slice _ _ _, .map _, .map _, .map _, .map _, .slice _ _ _, .map _, .map _, .map _, .map _], .int .i64 _]) rfl) ?_
  refine qA (qK (v := .agg #[.slice _ _ _, .map _, .map _, .map _, .map _, .slice _ _ _, .map _, .map _, .map _, .map _]) rfl) ?_
  refine qA (qK (v := .int .i64 _) rfl) ?_
  refine wO (cs := [_, _, _, _, _, _, _, _, _, _]) rfl rfl fun b6 hb6 => ?_
  refine qH [_, _, _, _] rfl ?_
  refine qJ 3 (v := .agg #[.slice _ _ _, .map _, .map _, .map _, .map _, .slice _ _ _, .map _, .map _, .map _, .map _]) (vs := [_, _, _, _, _, _, _, _, _, _]) (c' := [_, _, _, _, _, _, _, _, _, _]) rfl rfl rfl rfl rfl rfl rfl rfl rfl ?_
  refine qH [_, _, _, _] rfl ?_
  refine qA (qE (v := .int .i64 _) rfl) ?_
  refine qF ?_
  refine qF ?_
  refine qC rfl ?_
  refine qA (qB (v := .int .i64 _) rfl) ?_
  refine qA (qK (v := .bool _) rfl) ?_
  refine zI rfl (by decide) ?_
  refine qT ?_
  refine qF ?_
  refine qC rfl ?_
  refine qX 3 (vs := [.slice _ _ _, .map _, .map _, .map _, .map _, .slice _ _ _, .map _, .map _, .map _, .map _]) rfl rfl rfl rfl rfl ?_
  refine qX 0 (vs := [.slice _ _ _, .slice _ _ _, .slice _ _ _, .slice _ _ _]) rfl rfl rfl rfl rfl ?_
  refine wP (caps := []) (vs := [.agg #[.slice _ _ _, .map _, .map _, .map _, .map _, .slice _ _ _, .map _, .map _, .map _, .map _], .agg #[.slice _ _ _, .slice _ _ _, .slice _ _ _, .slice _ _ _]]) rfl rfl rfl (failing_ok s SV A c mf fm fl A' c' mf' fm' fl' A0 A1 A2 A3 c0 c1 c2 c3 h3 (R.ext (zP (zP E1 E2) E3)) X X') ?_
  rintro _ h4 E4 rfl
  refine wO (cs := [_]) rfl rfl fun b8 hb8 => ?_
  refine qH [_, _, _, _, _] rfl ?_
  refine qJ 4 (v := .int .u64 _) (vs := [_]) (c' := [_]) rfl rfl rfl rfl rfl rfl rfl rfl rfl ?_
  refine qH [_, _, _, _, _] rfl ?_
  refine zH 0 rfl ?_
  intro h5 E5 p5
  refine zH 4 rfl ?_
  intro h6 E6 p6
  refine qF ?_
  refine qC rfl ?_
  refine qA (qG rfl rfl rfl rfl _ rfl) ?_
  refine qV (v := .slice _ _ _) rfl rfl (by simp only [cellA, E6 _ _ p5]; rfl) ?_
  refine qA (wV rfl rfl) ?_
  refine qA (pv_makeFunc (vs := []) (ws := [_, _, _]) rfl rfl) ?_
  refine wP (caps := []) (vs := [.int .i64 _, _]) rfl rfl rfl (fewest_ok s.heats.length (by omega) _ _ _ _ h6 (inspect2_will s hw6 A0 A1 A2 A3 c0 c1 c2 c3 (failingM s) (failingM_lt hw6) w _ _ _ _ (E6 _ _ p5) ⟨_, p6⟩ ((zP (zP (zP (zP E2 E3) E4) E5) E6) _ _ p1))) ?_
  rintro _ h7 E7 ⟨u, rfl, B, cB, rfl, RB⟩
  refine qA (qB (v := .tuple #[.slice _ _ _, .bool _]) rfl) ?_
  refine qA (qK (v := .slice _ _ _) rfl) ?_
  refine qA (qK (v := .bool _) rfl) ?_
  refine qA (qE (v := .slice _ _ _) rfl) ?_
  refine qA (qE (v := .bool _) rfl) ?_
  refine qF ?_
  refine qC rfl ?_
  refine qA (qB (v := .slice _ _ _) rfl) ?_
  refine qA (qE (v := .slice _ _ _) rfl) ?_
  refine qA (qE (v := .int .i64 _) rfl) ?_
  refine wK ?_
  refine qW (vs := [_, _]) Try.results38 ⟨qR rfl rfl, qR rfl rfl, trivial⟩ fun V => ?_
  refine ⟨(zP (zP (zP (zP (zP (zP (zP E1 E2) E3) E4) E5) E6) E7) (wE V)), _, by rw [he]; rfl, B, cB, ?_, ?_⟩
  ·rw [inspectL, if_pos he]; rfl
  ·rw [inspectL, if_pos he]; exact RB.ext (wE V)
 ·skip
  refine wL Try.func38 rfl Try.ntmps38 rfl ?_
  refine qF ?_
  refine qC rfl ?_
  refine zF (v := .agg #[.slice _ _ _, .slice _ _ _, .slice _ _ _, .slice _ _ _]) (cs := [_, _, _, _]) rfl rfl fun b2 hb2 => ?_
  refine qH [_] rfl ?_
  refine zF (v := .int .i64 _) (cs := [_]) rfl rfl fun b3 hb3 => ?_
  refine qH [_, _] rfl ?_
  refine qA (qE (v := .slice _ _ _) rfl) ?_
  refine qA (qE (v := .int .i64 _) rfl) ?_
  refine zH 1 rfl ?_
  intro h1 E1 p1
  refine qF ?_
  refine qC rfl ?_
  refine qX 0 (vs := [.slice _ _ _, .slice _ _ _, .slice _ _ _, .slice _ _ _]) rfl rfl rfl rfl rfl ?_
  refine qA (pv_makeFunc (vs := []) (ws := [_]) rfl rfl) ?_
  refine wG (zc := [_]) (vs := [(0, _)]) (cs := [_]) rfl rfl rfl rfl rfl rfl rfl fun b14 hb14 => ?_
  refine qH [_, _, _] rfl ?_
  refine wp_pub 2 rfl rfl ?_
  intro h2 E2 p14
  refine qH [_, _, _] rfl ?_
  refine wP (caps := []) (vs := [.agg #[.slice _ _ _, .slice _ _ _, .slice _ _ _, .slice _ _ _], .slice _ _ _]) rfl rfl rfl (known_no s A0 A1 A2 A3 c0 c1 c2 c3 h2 (R.ext (zP E1 E2)) Sm.h0 Sm.h1 Sm.h2 Sm.h3 [_] [_] _ _ (rowFn p14) rfl (by simp) (ask1 ((inspect1_ask w b3 _ p1).ext E2)) he) ?_
  rintro _ h3 E3 rfl
  refine qA (qB (v := .tuple #[.agg #[.slice _ _ _, .map _, .map _, .map _, .map _, .slice _ _ _, .map _, .map _, .map _, .map _], .int .i64 _]) rfl) ?_
  refine qA (qK (v := .agg #[.slice _ _ _, .map _, .map _, .map _, .map _, .slice _ _ _, .map _, .map _, .map _, .map _]) rfl) ?_
  refine qA (qK (v := .int .i64 _) rfl) ?_
  refine wO (cs := [_, _, _, _, _, _, _, _, _, _]) rfl rfl fun b6 hb6 => ?_
  refine qH [_, _, _, _] rfl ?_
  refine qJ 3 (v := .agg #[.slice _ _ _, .map _, .map _, .map _, .map _, .slice _ _ _, .map _, .map _, .map _, .map _]) (vs := [_, _, _, _, _, _, _, _, _, _]) (c' := [_, _, _, _, _, _, _, _, _, _]) rfl rfl rfl rfl rfl rfl rfl rfl rfl ?_
  refine qH [_, _, _, _] rfl ?_
  refine qA (qE (v := .int .i64 _) rfl) ?_
  refine qF ?_
  refine qF ?_
  refine qC rfl ?_
  refine qA (qB (v := .int .i64 _) rfl) ?_
  refine qA (qK (v := .bool _) rfl) ?_
  refine xp_condT rfl (by simpa [inspectE] using he) ?_
  refine qF ?_
  refine qC rfl ?_
  refine qA (qB (v := .int .i64 _) rfl) ?_
  refine qA (qE (v := .slice _ _ _) rfl) ?_
  refine qA (qE (v := .int .i64 _) rfl) ?_
  refine wK ?_
  refine qW (vs := [_, _]) Try.results38 ⟨qR rfl rfl, qR rfl rfl, trivial⟩ fun V => ?_
  refine ⟨(zP (zP (zP E1 E2) E3) (wE V)), _, rfl, none, 0, ?_, ?_⟩
  ·rw [inspectL, if_neg he]; rfl
  ·rw [inspectL, if_neg he]; exact ⟨fun _ h => (by cases h), Rd.nil _ _⟩
end Go.Proofs.Ytgjcepdhclmglaa
namespace Go.Wx
open Go Go.HL
variable [Lvl]
def upR (r : Rg) (d : Int) : Rg := ⟨r.mn + d, r.mx + d⟩
def raisedN (l : List Rg) (a k : Nat) (d : Int) : List Rg := (List.range l.length).map fun i => if a ≤ i ∧ i < k then upR (l[i]?.getD ⟨0, 0⟩) d else l[i]?.getD ⟨0, 0⟩
theorem raisedN_len (l : List Rg) (a k : Nat) (d : Int) : (raisedN l a k d).length = l.length := by simp [raisedN]
theorem raisedN_get (l : List Rg) (a k : Nat) (d : Int) (i : Nat) : (raisedN l a k d)[i]? = (l[i]?).map fun r => if a ≤ i ∧ i < k then upR r d else r := by
 unfold raisedN
 rw [List.getElem?_map]
 by_cases hi : i < l.length
 ·simp [List.getElem?_range hi, List.getElem?_eq_getElem hi]
 ·rw [List.getElem?_eq_none (by simpa using hi), List.getElem?_eq_none (by omega)]; rfl
theorem raisedN_zero (l : List Rg) (a : Nat) (d : Int) : raisedN l a a d = l := by
 apply List.ext_getElem?
 intro i
 rw [raisedN_get]
 cases l[i]? with
 | none => rfl
 | some r => simp only [Option.map_some]; rw [if_neg (by omega)]
theorem raisedN_succ {l : List Rg} {a k : Nat} (d : Int) (ha : a ≤ k) (hk : k < l.length) : (raisedN l a k d).set k (upR l[k] d) = raisedN l a (k + 1) d := by
 apply List.ext_getElem?
 intro i
 rw [List.getElem?_set, raisedN_get, raisedN_len]
 by_cases hi : k = i
 ·subst hi
  rw [raisedN_get, List.getElem?_eq_getElem hk]
  simp [hk, ha]
 ·rw [if_neg hi, raisedN_get]
  cases l[i]? with
  | none => rfl
  | some r =>
   simp only [Option.map_some]
   congr 1
   by_cases h1 : a ≤ i ∧ i < k
   ·rw [if_pos h1, if_pos (by omega)]
   ·rw [if_neg h1, if_neg (by omega)]
theorem raisedN_at {l : List Rg} {a k : Nat} (d : Int) (hk : k < l.length) : (raisedN l a k d)[k]? = some l[k] := by
 rw [raisedN_get, List.getElem?_eq_getElem hk]
 simp
theorem rg_mn {junk : List Value} : ∀ {l : List Rg} {k : Nat} {r : Rg}, l[k]? = some r → (l.flatMap rgC ++ junk)[k * 2]? = some (.int .i64 r.mn)
 | x :: l, 0, r, h => by simp at h; subst h; rfl
 | x :: l, k + 1, r, h => by
  have := rg_mn (junk := junk) (l := l) (k := k) (r := r) (by simpa using h)
  rw [show (k + 1) * 2 = k * 2 + 1 + 1 by omega]
  simpa [rgC] using this
theorem rg_mx {junk : List Value} : ∀ {l : List Rg} {k : Nat} {r : Rg}, l[k]? = some r → (l.flatMap rgC ++ junk)[k * 2 + 1]? = some (.int .i64 r.mx)
 | x :: l, 0, r, h => by simp at h; subst h; rfl
 | x :: l, k + 1, r, h => by
  have := rg_mx (junk := junk) (l := l) (k := k) (r := r) (by simpa using h)
  rw [show (k + 1) * 2 + 1 = k * 2 + 1 + 1 + 1 by omega]
  simpa [rgC] using this
theorem rg_wr {junk : List Value} {x y : Int} : ∀ {l : List Rg} {k : Nat}, k < l.length → wrL (l.flatMap rgC ++ junk) (k * 2) [.int .i64 x, .int .i64 y] = (l.set k ⟨x, y⟩).flatMap rgC ++ junk
 | [], _, h => by simp at h
 | r :: l, 0, h => rfl
 | r :: l, k + 1, h => by
  have := rg_wr (junk := junk) (x := x) (y := y) (l := l) (k := k) (by simpa using h)
  rw [show (k + 1) * 2 = k * 2 + 1 + 1 by omega]
  simp only [wrL, List.flatMap_cons, List.set_cons_succ] at this ⊢
  simpa [rgC, wrL] using this
end Go.Wx
namespace Go.Proofs.Ytgjcepdhclmglaa
open Go Go.HL Go.Proofs Go.Wx
variable [Lvl]
set_option maxRecDepth 100000
theorem cloneRgO (l : List Rg) (A : Option Addr) (c : Nat) (h : AH) (R : Row h 2 rgC A l) (hl : l.length < 2 ^ 20) :
  FnM Try.prog (.func (.func 65) #[] ([] : List Value).toArray) [.slice A l.length c] h [] (fun v h' M' => ∃ a : Acc, M' = [a.p] ∧ v = .slice a.A a.n a.c ∧ AccR 41 2 (l.flatMap rgC) a) := by
 cases A with
 | none =>
  have h0 := R.none_nil (by omega)
  subst h0
  refine fnM_body rfl rfl Try.func65 rfl Try.ntmps65 rfl ?_
  refine qF ?_
  refine qC rfl ?_
  refine qA (qE (v := .slice _ _ _) rfl) ?_
  refine qF ?_
  refine qF ?_
  refine qC rfl ?_
  refine qA (qB (v := .slice _ _ _) rfl) ?_
  refine qA (qK (v := .bool _) rfl) ?_
  refine wA rfl (fun ht => ?_) (fun ht => ?_)
  ·skip
   refine qF ?_
   refine qC rfl ?_
   refine qA (qE (v := .slice _ _ _) rfl) ?_
   refine wK ?_
   refine qW (vs := [_]) Try.results65 ⟨qR rfl rfl, trivial⟩ fun V => ?_
   exact ⟨_, [none], rfl, V, (Ext.refl _), acc0, rfl, rfl, accR0⟩
  ·cases ht
 | some a =>
  refine fnM_body rfl rfl Try.func65 rfl Try.ntmps65 rfl ?_
  refine qF ?_
  refine qC rfl ?_
  refine qA (qE (v := .slice _ _ _) rfl) ?_
  refine qF ?_
  refine qF ?_
  refine qC rfl ?_
  refine qA (qB (v := .slice _ _ _) rfl) ?_
  refine qA (qK (v := .bool _) rfl) ?_
  refine wA rfl (fun ht => ?_) (fun ht => ?_)
  ·cases ht
  ·skip
   refine qT ?_
   refine qF ?_
   refine qC rfl ?_
   refine wG (zc := [_, _]) (vs := []) (cs := []) rfl rfl rfl rfl rfl rfl rfl fun b5 hb5 => ?_
   refine qH [_] rfl ?_
   refine qA (qB (v := .slice _ _ _) rfl) ?_
   refine zK 0 accR_new rfl rfl rfl (fun V => R.2.ext (wE V)) (wS R.1) (flat_plain rgP l) rfl rfl rfl rfl rfl rfl rfl (by omega) rfl (by rw [wS R.1, List.length_nil]; omega) fun a2 h1a E1a ha2 => ?_
   refine qH [_] rfl ?_
   refine qA (qE (v := .slice _ _ _) rfl) ?_
   refine wK ?_
   refine qW (vs := [_]) Try.results65 ⟨qR rfl rfl, trivial⟩ fun V => ?_
   exact ⟨_, [_], rfl, V, E1a, a2, rfl, rfl, ha2⟩
theorem raised_ok (l : List Rg) (hl0 : 0 < l.length) (hl : l.length < 2 ^ 20) (hr : ∀ r ∈ l, -2 ^ 40 ≤ r.mn ∧ r.mn ≤ 2 ^ 40 ∧ -2 ^ 40 ≤ r.mx ∧ r.mx ≤ 2 ^ 40) (a z : Nat) (haz : a ≤ z) (hz : z ≤ l.length) (z' : Int) (ez : z' = z - 1) (d : Int) (hd : -2 ^ 40 ≤ d ∧ d ≤ 2 ^ 40) (A : Option Addr) (c : Nat) (h : AH) (R : Row h 2 rgC A l) :
  FnM Try.prog (.func (.func 55) #[] ([] : List Value).toArray) [.slice A l.length c, .int .i64 a, .int .i64 z', .int .i64 d] h [] (fun v h' M' => ∃ b cap junk, M' = [some (b, .cells ((raisedN l a z d).flatMap rgC ++ junk).toArray 41 (0, 0))] ∧ v = .slice (some ⟨b, 0, none⟩) l.length cap) := by
 refine fnM_body rfl rfl Try.func55 rfl Try.ntmps55 rfl ?_
 refine qF ?_
 refine qC rfl ?_
 refine qA (qE (v := .slice _ _ _) rfl) ?_
 refine qF ?_
 refine qC rfl ?_
 refine qA (qB (v := .slice _ _ _) rfl) ?_
 refine zL [] [] [] rfl rfl rfl (cloneRgO l A c h R hl) ?_
 rintro _ h5 _ E5 ⟨a1, rfl, rfl, ha1⟩
 refine qH [_] rfl ?_
 obtain ⟨b2, len2, cap2, junk, hl2, rfl⟩ := AccR.some ha1 (by intro e; have := wS (l := l) (m := 2) (enc := rgC) (fun _ _ => rfl); rw [e] at this; simp at this; omega)
 have e2 : len2 = l.length := by rw [wS (m := 2) (fun _ _ => rfl)] at hl2; omega
 subst e2
 dsimp only
 refine qA (qE (v := .slice _ _ _) rfl) ?_
 refine qF ?_
 refine qF ?_
 refine qC rfl ?_
 refine qA (qB (v := .int .i64 _) rfl) ?_
 refine qA (qE (v := .int .i64 _) rfl) ?_
 refine qN ?_
 refine xp_loopL [9, 13, 14, 15, 16, 17, 18, 19, 20, 21, 22, 23, 24, 25, 26, 27, 28, 29, 30, 31, 32, 33, 34, 35] 1 (α := Nat) (fun k => [(9, .int .i64 (k : Int))]) (fun k L => L.set 0 (some (b2, .cells ((raisedN l a k d).flatMap rgC ++ junk).toArray 41 (0, 0)))) (fun k h_k => a ≤ k ∧ k ≤ z) (fun k => z - k) (a) ⟨rfl, trivial⟩ (by rw [raisedN_zero]; rfl) (⟨Nat.le_refl _, haz⟩) ?_
 rintro k T1 h_k E_k J_k
 refine qP [_] rfl ?_
 obtain ⟨K1, K2⟩ := J_k
 refine qF ?_
 refine qF ?_
 refine qC rfl ?_
 refine qA (qB (v := .int .i64 _) rfl) ?_
 refine qA (qB (v := .int .i64 _) rfl) ?_
 refine qA (qK (v := .bool _) rfl) ?_
 refine wA rfl (fun ht => ?_) (fun ht => ?_)
 ·skip
  have hkz : k < z := by have := of_decide_eq_true ht; omega
  have hkl : k < l.length := by omega
  have hrk := hr _ (List.getElem_mem hkl)
  have hat := raisedN_at (l := l) (a := a) (k := k) d hkl
  have hoff : 0 + (k : Int).toNat * 2 = k * 2 := by omega
  refine qT ?_
  refine qF ?_
  refine qN ?_
  refine zB [] rfl rfl rfl ?_
  refine qD (i := 0) rfl (by decide +kernel) (qB (v := .slice _ _ _) rfl) ?_
  refine qD (i := 1) rfl (by decide +kernel) (qB (v := .int .i64 _) rfl) ?_
  refine qD (i := 2) rfl (by decide +kernel) (qB (v := .slice _ _ _) rfl) ?_
  refine qD (i := 3) rfl (by decide +kernel) (qB (v := .int .i64 _) rfl) ?_
  refine qD (i := 4) rfl (by decide +kernel) (qM rfl rfl rfl rfl (by omega) (by omega)) ?_
  refine qD (i := 5) rfl (by decide +kernel) (qG rfl rfl rfl rfl _ rfl) ?_
  refine qL (i := 6) rfl (by decide +kernel) ?_
  refine qI 0 (v := .int .i64 l[k].mn) (off := 0 + (k : Int).toNat * 2) rfl rfl rfl (by rw [hoff]; simpa using rg_mn (junk := junk) hat) ?_
  refine qD (i := 7) rfl (by decide +kernel) (qB (v := .int .i64 _) rfl) ?_
  refine qD (i := 8) rfl (by decide +kernel) (qO rfl (by omega)) ?_
  refine qD (i := 9) rfl (by decide +kernel) (qB (v := .slice _ _ _) rfl) ?_
  refine qD (i := 10) rfl (by decide +kernel) (qB (v := .int .i64 _) rfl) ?_
  refine qD (i := 11) rfl (by decide +kernel) (qM rfl rfl rfl rfl (by omega) (by omega)) ?_
  refine qD (i := 12) rfl (by decide +kernel) (qG rfl rfl rfl rfl _ rfl) ?_
  refine qL (i := 13) rfl (by decide +kernel) ?_
  refine qI 0 (v := .int .i64 l[k].mx) (off := 0 + (k : Int).toNat * 2 + 1) rfl rfl rfl (by rw [hoff]; simpa using rg_mx (junk := junk) hat) ?_
  refine qD (i := 14) rfl (by decide +kernel) (qB (v := .int .i64 _) rfl) ?_
  refine qD (i := 15) rfl (by decide +kernel) (qO rfl (by omega)) ?_
  refine qD (i := 16) rfl (by decide +kernel) (pv_build (zc := [_, _]) (vs := [(0, .int .i64 _), (1, .int .i64 _)]) (cs := [_, _]) rfl rfl rfl rfl rfl rfl) ?_
  refine qD (i := 17) rfl (by decide +kernel) (qM rfl rfl rfl rfl (by omega) (by omega)) ?_
  have hkr : k < (raisedN l a k d).length := by rw [raisedN_len]; exact hkl
  refine wI (i := 18) rfl (by decide +kernel) (by decide +kernel) ?_
  refine qJ 0 (v := .agg #[.int .i64 _, .int .i64 _]) (vs := [.int .i64 (l[k].mn + d), .int .i64 (l[k].mx + d)]) (off := 0 + (k : Int).toNat * 2) (c' := (raisedN l a (k + 1) d).flatMap rgC ++ junk) rfl rfl rfl rfl rfl rfl (Nat.ble_eq_true_of_le (by show 0 + (k : Int).toNat * 2 + 2 ≤ _; rw [List.length_append, wS (m := 2) (fun _ _ => rfl), raisedN_len]; omega)) rfl (by rw [hoff, rg_wr hkr, ← raisedN_succ d K1 hkl]; rfl) ?_
  refine qZ [_] rfl ?_
  refine wW rfl ?_
  refine qC rfl ?_
  refine qA (qB (v := .int .i64 _) rfl) ?_
  refine qA (qO rfl (by omega)) ?_
  refine qA (qE (v := .int .i64 _) rfl) ?_
  refine ⟨k + 1, ⟨rfl, trivial⟩, rfl, rfl, E_k, fun h3 E3 => ⟨by omega, by omega⟩, by first | omega | (dsimp only; omega), ?_⟩
  repeat (first | exact qU _ _ _ | refine wB (by decide) ?_ | refine qS rfl ?_ | refine wN rfl ?_)
 ·skip
  have hk : k = z := by have := of_decide_eq_false ht; omega
  subst hk
  refine wU ?_
  refine qF ?_
  refine qC rfl ?_
  refine qA (qB (v := .slice _ _ _) rfl) ?_
  refine qA (qE (v := .slice _ _ _) rfl) ?_
  refine wK ?_
  refine qW (vs := [_]) Try.results55 ⟨qR rfl rfl, trivial⟩ fun V => ?_
  exact ⟨_, [_], rfl, V, (zP E5 E_k), b2, cap2, junk, rfl, rfl⟩
end Go.Proofs.Ytgjcepdhclmglaa
namespace Go.Wx
open Go Go.HL
variable [Lvl]
def capR (r : Rg) : Rg := ⟨min r.mn 100, min r.mx 100⟩
def capN (l : List Rg) (k : Nat) : List Rg := (l.take k).map capR ++ l.drop k
theorem capN_len (l : List Rg) (k : Nat) : (capN l k).length = l.length := by simp [capN]; omega
theorem capN_zero (l : List Rg) : capN l 0 = l := by simp [capN]
theorem capN_all (l : List Rg) : capN l l.length = l.map capR := by simp [capN]
theorem capN_at {l : List Rg} {k : Nat} (hk : k < l.length) : (capN l k)[k]? = some l[k] := by
 unfold capN
 rw [List.getElem?_append_right (by simp; omega)]
 simp [Nat.min_eq_left (Nat.le_of_lt hk), List.getElem?_eq_getElem hk]
theorem capN_succ {l : List Rg} {k : Nat} (hk : k < l.length) : (capN l k).set k (capR l[k]) = capN l (k + 1) := by
 unfold capN
 rw [List.set_append_right _ _ (by simp; omega), take_snoc hk, List.map_append]
 have : k - (List.map capR (List.take k l)).length = 0 := by simp; omega
 rw [this, List.drop_eq_getElem_cons hk, List.set_cons_zero, List.append_assoc]
 rfl
def warmL (l : List Rg) (z : Nat) (d : Int) : List Rg := (raisedN l 0 z d).map capR
theorem warmL_len (l : List Rg) (z : Nat) (d : Int) : (warmL l z d).length = l.length := by simp [warmL, raisedN_len]
def bare (s : Season) : Season := { s with reports := [] }
def warmS (s : Season) (n d : Int) : Season := if n = 1 then { s with heats := warmL s.heats s.heats.length d, reports := [] } else { s with damps := warmL s.damps s.heats.length d, reports := [] }
theorem warmS_1 (s : Season) (d : Int) : warmS s 1 d = { s with heats := warmL s.heats s.heats.length d, reports := [] } := if_pos rfl
theorem warmS_2 (s : Season) (d : Int) : warmS s 2 d = { s with damps := warmL s.damps s.heats.length d, reports := [] } := if_neg (by decide)
theorem mem_warmL {l : List Rg} {z : Nat} {d : Int} {r : Rg} (h : r ∈ warmL l z d) : ∃ x ∈ l, r = capR (upR x d) ∨ r = capR x := by
 unfold warmL at h
 obtain ⟨y, hy, rfl⟩ := List.mem_map.1 h
 obtain ⟨i, hi⟩ := List.mem_iff_getElem?.1 hy
 rw [raisedN_get] at hi
 cases hl : l[i]? with
 | none => rw [hl] at hi; cases hi
 | some x =>
  rw [hl] at hi
  refine ⟨x, List.mem_of_getElem? hl, ?_⟩
  simp only [Option.map_some, Option.some.injEq] at hi
  split at hi
  ·left; rw [hi]
  ·right; rw [hi]
theorem warmL_b {l : List Rg} {z : Nat} {d : Int} (hd : 0 ≤ d ∧ d ≤ 30) (hl : ∀ r ∈ l, RangeB r) (hr : ∀ r ∈ l, -50 ≤ r.mn ∧ r.mx ≤ 100) : (∀ r ∈ warmL l z d, RangeB r) ∧ ∀ r ∈ warmL l z d, -50 ≤ r.mn ∧ r.mx ≤ 100 := by
 constructor
 ·intro r h
  obtain ⟨x, hx, rfl | rfl⟩ := mem_warmL h
  ·obtain ⟨a1, a2, a3, a4⟩ := hl x hx; have := hr x hx; constructor <;> (simp only [capR, upR]; omega)
  ·obtain ⟨a1, a2, a3, a4⟩ := hl x hx; have := hr x hx; constructor <;> (simp only [capR]; omega)
 ·intro r h
  obtain ⟨x, hx, rfl | rfl⟩ := mem_warmL h
  ·obtain ⟨a1, a2, a3, a4⟩ := hl x hx; have := hr x hx; simp only [capR, upR]; omega
  ·obtain ⟨a1, a2, a3, a4⟩ := hl x hx; have := hr x hx; simp only [capR]; omega
theorem warmS_v {s : Season} (SV : SeasonV s) {n d : Int} (hd : 0 ≤ d ∧ d ≤ 30) : SeasonV (warmS s n d) := by
 obtain ⟨B, K, _, hr, dr⟩ := SV
 unfold warmS
 split
 ·have w := warmL_b (z := s.heats.length) hd B.hb hr
  exact ⟨⟨by show 1 ≤ (warmL _ _ _).length; rw [warmL_len]; exact B.w1, by show (warmL _ _ _).length ≤ 6; rw [warmL_len]; exact B.w6, by show s.damps.length = (warmL _ _ _).length; rw [warmL_len]; exact B.dl, w.1, B.db, B.j3, B.jb, by simp, fun r h => (by cases h)⟩, K, fun r h => (by cases h), w.2, dr⟩
 ·have w := warmL_b (z := s.heats.length) hd B.db dr
  exact ⟨⟨B.w1, B.w6, by show (warmL _ _ _).length = _; rw [warmL_len]; exact B.dl, B.hb, w.1, B.j3, B.jb, by simp, fun r h => (by cases h)⟩, K, fun r h => (by cases h), hr, w.2⟩
def tooWarm (s : Season) (j w : Nat) (n : Nat) : Bool := decide (failedM (warmS s (kindAt s j) ((n : Int) + 1)) j w ≠ 2)
def marginM (s : Season) (j w : Nat) : Nat := ((List.range 30).find? (tooWarm s j w)).getD 30
theorem find_range {p : Nat → Bool} {k n : Nat} (hn : n < k) (h1 : ∀ i, i < n → p i = false) (h2 : p n = true) : ((List.range k).find? p).getD k = n := by
 have : (List.range k).find? p = some n := by
  rw [List.find?_range_eq_some]
  exact ⟨h2, by simpa using hn, fun j hj => by simpa using h1 j hj⟩
 rw [this]; rfl
theorem find_range_none {p : Nat → Bool} {k : Nat} (h1 : ∀ i, i < k → p i = false) : ((List.range k).find? p).getD k = k := by
 have : (List.range k).find? p = none := by
  rw [List.find?_eq_none]
  intro x hx
  simp [h1 x (by simpa using hx)]
 rw [this]; rfl
theorem rg_cells {h : AH} {L : Pv} {i b : Nat} {l : List Rg} {junk : List Value} {t : TypeId} (hi : L[i]? = some (some (b, .cells (l.flatMap rgC ++ junk).toArray t (0, 0)))) (V : Valid h L) {k : Nat} {r : Rg} (hk : l[k]? = some r) : Cells (wl h L) b (k * 2) (rgC r) := by
 intro q u hu
 simp only [cellA, wl_get V hi]
 match q, hu with
 | 0, hu => cases hu; simpa using rg_mn (junk := junk) hk
 | 1, hu => cases hu; simpa using rg_mx (junk := junk) hk
 | q + 2, hu => simp [rgC] at hu
theorem rg_row {h : AH} {b : Nat} {l : List Rg} {junk : List Value} {t : TypeId} (hb : h b = some (.cells (l.flatMap rgC ++ junk).toArray t (0, 0))) : Row h 2 rgC (some ⟨b, 0, none⟩) l := by
 refine ⟨fun _ _ => rfl, fun _ => ⟨b, 0, rfl, fun q u hu => ?_⟩⟩
 simp only [cellA, hb, Nat.zero_add]
 have : (l.flatMap rgC ++ junk)[q]? = some u := by rw [List.getElem?_append_left (List.getElem?_eq_some_iff.1 hu).1]; exact hu
 simpa using this
end Go.Wx
namespace Go.Proofs.Ytgjcepdhclmglaa
open Go Go.HL Go.Proofs Go.Wx
variable [Lvl]
set_option maxRecDepth 100000
def marginE (s : Season) (j w : Int) : Int := if failedE s j w = 0 then (if failedV s j w = 2 then 0 else 11) else failedE s j w
def marginV (s : Season) (j w : Int) : Int := if marginE s j w = 0 then marginM s j.toNat w.toNat else 0
set_option maxHeartbeats 8000000 in
theorem Margin_ok (s : Season) (Sm : Small s) (joint week : Int) (A0 A1 A2 A3 : Option Addr) (c0 c1 c2 c3 : Nat) (h : AH) (R : SeasonR h A0 A1 A2 A3 s) :
  FnT Try.prog 39 #[seasonV A0 A1 A2 A3 c0 c1 c2 c3 s, .int .i64 joint, .int .i64 week] h (fun v _ => v = .tuple #[.int .i64 (marginV s joint week), .int .i64 (marginE s joint week)]) := by
 by_cases he : failedE s joint week = 0
 ·by_cases hv : failedV s joint week = 2
  ·have hm0 : marginE s joint week = 0 := by rw [marginE, if_pos he, if_pos hv]
   have hk := knownM_zero he
   have SV := checkM_zero hk.1
   have hw6 := SV.b.w6
   have hw1 := SV.b.w1
   have hdl := SV.b.dl
   have h2e := firstErr2 hk.2.1
   obtain ⟨j, rfl, hj⟩ := isJointM_zero h2e.1
   obtain ⟨w, rfl, hw⟩ := isWeekM_zero h2e.2
   have hka : kindAt s j = s.joints[j].kind := by simp [kindAt, List.getElem?_eq_getElem hj]
   have hsj := SV.b.j3
   have hsr := SV.b.rl
   have hval : marginV s j w = (marginM s j w : Int) := by rw [marginV, if_pos hm0]; simp
   refine wL Try.func39 rfl Try.ntmps39 rfl ?_
   refine qF ?_
   refine qC rfl ?_
   refine zF (v := .agg #[.slice _ _ _, .slice _ _ _, .slice _ _ _, .slice _ _ _]) (cs := [_, _, _, _]) rfl rfl fun b3 hb3 => ?_
   refine qH [_] rfl ?_
   refine qA (qE (v := .int .i64 _) rfl) ?_
   refine qA (qE (v := .int .i64 _) rfl) ?_
   refine qF ?_
   refine qC rfl ?_
   refine qX 0 (vs := [.slice _ _ _, .slice _ _ _, .slice _ _ _, .slice _ _ _]) rfl rfl rfl rfl rfl ?_
   refine qA (qB (v := .int .i64 _) rfl) ?_
   refine qA (qB (v := .int .i64 _) rfl) ?_
   refine wP (caps := []) (vs := [.agg #[.slice _ _ _, .slice _ _ _, .slice _ _ _, .slice _ _ _], .int .i64 _, .int .i64 _]) rfl rfl rfl (Failed_ok s Sm _ _ A0 A1 A2 A3 c0 c1 c2 c3 h R) ?_
   rintro _ h1 E1 rfl
   refine qA (qB (v := .tuple #[.int .i64 _, .int .i64 _]) rfl) ?_
   refine qA (qK (v := .int .i64 _) rfl) ?_
   refine qA (qK (v := .int .i64 _) rfl) ?_
   refine qA (qE (v := .int .i64 _) rfl) ?_
   refine qA (qE (v := .int .i64 _) rfl) ?_
   refine qF ?_
   refine qF ?_
   refine qC rfl ?_
   refine qA (qB (v := .int .i64 _) rfl) ?_
   refine qA (qK (v := .bool _) rfl) ?_
   refine zI rfl (by simp [he]) ?_
   refine qT ?_
   refine qF ?_
   refine qF ?_
   refine qC rfl ?_
   refine qA (qB (v := .int .i64 _) rfl) ?_
   refine qA (qK (v := .bool _) rfl) ?_
   refine zI rfl (by simp [hv]) ?_
   refine qT ?_
   refine qF ?_
   refine qC rfl ?_
   refine qX 0 (vs := [.slice _ _ _, .slice _ _ _, .slice _ _ _, .slice _ _ _]) rfl rfl rfl rfl rfl ?_
   refine wP (caps := []) (vs := [.agg #[.slice _ _ _, .slice _ _ _, .slice _ _ _, .slice _ _ _]]) rfl rfl rfl (clone_ok s A0 A1 A2 A3 c0 c1 c2 c3 h1 (R.ext E1) (by omega) (by omega) (by omega) (by omega)) ?_
   rintro _ h2 E2 ⟨B0, B1, B2, B3, d0, d1, d2, d3, rfl, R2⟩
   obtain ⟨g, off, hB2, hcj⟩ := R2.joints.at (by omega) hj
   refine qJ 0 (v := .agg #[.slice _ _ _, .slice _ _ _, .slice _ _ _, .slice _ _ _]) (vs := [_, _, _, _]) (c' := [_, _, _, _]) rfl rfl rfl rfl rfl rfl rfl rfl rfl ?_
   refine qH [_] rfl ?_
   refine qF ?_
   refine qC rfl ?_
   refine qA (qG rfl rfl rfl rfl 3 rfl) ?_
   refine qJ 0 (v := .slice _ _ _) (vs := [_]) (c' := [_, _, _, _]) rfl rfl rfl rfl rfl rfl rfl rfl rfl ?_
   refine qH [_] rfl ?_
   refine qF ?_
   refine qC rfl ?_
   refine qA (qG rfl rfl rfl rfl 2 rfl) ?_
   refine qI 0 (v := .slice _ _ _) rfl rfl rfl rfl ?_
   refine qA (qB (v := .int .i64 _) rfl) ?_
   refine qA (wM rfl hB2 rfl rfl rfl (by omega) (by omega)) ?_
   refine qA (qG rfl rfl rfl rfl _ rfl) ?_
   refine qV (v := .int .i64 _) rfl rfl (hcj 0 (.int .i64 s.joints[j].kind) rfl) ?_
   refine wP (caps := []) (vs := [.int .i64 _]) rfl rfl rfl (kindOf_ok _ h2) ?_
   rintro _ h3 E3 rfl
   rcases SV.kinds _ (List.getElem_mem hj) with hki | hki
   ·skip
    rw [hki] at hka ⊢
    refine qA (qE (v := _) rfl) ?_
    refine qF ?_
    refine qC rfl ?_
    refine qA (qE (v := .int .i64 _) rfl) ?_
    refine qF ?_
    refine qN ?_
    refine zN [11, 12, 13, 14, 15, 16, 17, 40, 41, 42, 43, 44, 45, 46, 47, 48, 49, 50, 51, 52, 53, 54, 55, 56, 57, 58, 59, 60, 61, 62, 63, 64, 65, 66, 67, 68, 69, 70, 71, 72, 73, 74, 75, 76, 77, 78, 79, 80, 81, 82, 83, 84, 85, 86] 1 (α := Nat) (fun n => [(11, .int .i64 n)]) (fun n => _) (fun n h_n => n ≤ 30 ∧ ∀ i, i < n → tooWarm s j w i = false) (fun n => 30 - n) (0) ⟨rfl, trivial⟩ (rfl) (⟨by omega, fun i hi => absurd hi (Nat.not_lt_zero i)⟩) ?_
    rintro n T1 h_n E_n J_n
    refine qP [_] rfl ?_
    obtain ⟨K1, K2⟩ := J_n
    have E2n := (zP E3 E_n)
    refine qF ?_
    refine qF ?_
    refine qC rfl ?_
    refine qA (qB (v := .int .i64 _) rfl) ?_
    refine qA (qK (v := .bool _) rfl) ?_
    refine wA rfl (fun ht => ?_) (fun ht => ?_)
    ·skip
     have hn : n < 30 := ltI (n := 30) ht
     have SVw : SeasonV ({ s with heats := warmL s.heats s.heats.length ((n : Int) + 1), reports := [] } : Season) := by rw [← warmS_1]; exact warmS_v SV (by omega)
     have hwl := warmL_len s.heats s.heats.length ((n : Int) + 1)
     have hrl := raisedN_len s.heats 0 s.heats.length ((n : Int) + 1)
     refine qT ?_
     refine qN ?_
     refine qF ?_
     refine zB [] rfl rfl rfl ?_
     refine qD (i := 0) rfl (by decide +kernel) (qB (v := _) rfl) ?_
     refine qL (i := 1) rfl (by decide +kernel) ?_
     refine qX 0 (vs := [.slice _ _ _, .slice _ _ _, .slice _ _ _, .slice _ _ _]) rfl rfl rfl rfl rfl ?_
     refine qD (i := 3) rfl (by decide +kernel) (qG rfl rfl rfl rfl 0 rfl) ?_
     refine qL (i := 4) rfl (by decide +kernel) ?_
     refine qI 0 (v := .slice _ _ _) rfl rfl rfl rfl ?_
     refine qD (i := 5) rfl (by decide +kernel) (wV rfl rfl) ?_
     refine qD (i := 6) rfl (by decide +kernel) (qO rfl (by omega)) ?_
     refine qD (i := 7) rfl (by decide +kernel) (qB (v := .int .i64 _) rfl) ?_
     refine qD (i := 8) rfl (by decide +kernel) (qO rfl (by omega)) ?_
     refine zD (i := 2) rfl (by decide +kernel) ?_
     refine op_invoke rfl (by kernel_rfl) rfl rfl (waxWeather_ok (bare s) B0 B1 B2 none d0 d1 d2 0 h_n) ?_
     rintro _ h4 E4 rfl
     refine ⟨ext_wlm E4 _, ?_⟩
     refine wI (i := 9) rfl (by decide +kernel) (by decide +kernel) ?_
     refine zL [_] [] [] rfl rfl rfl (raised_ok s.heats (by omega) (by omega) (fun r hr => by obtain ⟨a1, a2, a3, a4⟩ := SV.b.hb r hr; omega) 0 s.heats.length (Nat.zero_le _) (by omega) _ rfl ((n : Int) + 1) (by omega) B0 d0 h4 (R2.heats.ext (zP (zP E3 E_n) E4))) ?_
     rintro _ h5 _ E5 ⟨b4, cap4, junk4, rfl, ev⟩
     refine qZ [_, _] rfl ?_
     rw [← hwl] at ev
     subst ev
     refine qD (i := 10) rfl (by decide +kernel) (qE (v := .slice _ _ _) rfl) ?_
     refine wW rfl ?_
     refine qF ?_
     refine qF ?_
     refine qC rfl ?_
     refine qA (qB (v := .slice _ _ _) rfl) ?_
     refine qA (wV rfl rfl) ?_
     refine qA (qB (v := .int .i64 _) rfl) ?_
     refine qN ?_
     refine xp_loopL [13, 14, 54, 55, 56, 57, 58, 59, 60, 61, 62, 63, 64, 65, 66, 67, 68, 69] 2 (α := Nat) (fun k => [(54, .int .i64 k)]) (fun k L => L.set 1 (some (b4, .cells ((capN (raisedN s.heats 0 s.heats.length ((n : Int) + 1)) k).flatMap rgC ++ junk4).toArray 41 (0, 0)))) (fun k h_k => k ≤ (warmL s.heats s.heats.length ((n : Int) + 1)).length) (fun k => (warmL s.heats s.heats.length ((n : Int) + 1)).length - k) (0) ⟨rfl, trivial⟩ (by rw [capN_zero]; rfl) (Nat.zero_le _) ?_
     rintro k T2 h_k E_k J_k
     refine qP [_, _] rfl ?_
     refine qF ?_
     refine qC rfl ?_
     refine qA (qK (v := .bool _) rfl) ?_
     refine qF ?_
     refine wA rfl (fun hk2 => ?_) (fun hk2 => ?_)
     ·skip
      have hkw := ltI hk2
      have hkr : k < (raisedN s.heats 0 s.heats.length ((n : Int) + 1)).length := by omega
      have hkc : k < (capN (raisedN s.heats 0 s.heats.length ((n : Int) + 1)) k).length := by rw [capN_len]; exact hkr
      have hoff : 0 + (k : Int).toNat * 2 = k * 2 := by omega
      refine qT ?_
      refine qF ?_
      refine qN ?_
      refine qF ?_
      refine qC rfl ?_
      refine qA (qB (v := .int .i64 _) rfl) ?_
      refine qA (qM rfl rfl rfl rfl (by omega) (by omega)) ?_
      refine op_loadW (cs := [.int .i64 (raisedN s.heats 0 s.heats.length ((n : Int) + 1))[k].mn, .int .i64 (raisedN s.heats 0 s.heats.length ((n : Int) + 1))[k].mx]) (off := 0 + (k : Int).toNat * 2) rfl rfl rfl rfl (fun V => by rw [hoff]; exact rg_cells (i := 1) rfl V (capN_at hkr)) ?_
      refine wO (cs := [_, _]) rfl rfl fun b14 hb14 => ?_
      refine qH [_, _, _] rfl ?_
      refine qA (qE (v := .int .i64 _) rfl) ?_
      refine qJ 2 (v := .agg #[.int .i64 _, .int .i64 _]) (vs := [_, _]) (c' := [_, _]) rfl rfl rfl rfl rfl rfl rfl rfl rfl ?_
      refine qH [_, _, _] rfl ?_
      refine qC rfl ?_
      refine qA (qB (v := .slice _ _ _) rfl) ?_
      refine qA (qB (v := .int .i64 _) rfl) ?_
      refine qA (qG rfl rfl rfl rfl 0 rfl) ?_
      refine qI 2 (v := .int .i64 _) rfl rfl rfl rfl ?_
      refine qA (pv_min rfl rfl) ?_
      refine qA (qG rfl rfl rfl rfl 1 rfl) ?_
      refine qI 2 (v := .int .i64 _) rfl rfl rfl rfl ?_
      refine qA (pv_min rfl rfl) ?_
      refine qA (pv_build (zc := [_, _]) (vs := [(0, .int .i64 _), (1, .int .i64 _)]) (cs := [_, _]) rfl rfl rfl rfl rfl rfl) ?_
      refine qA (qM rfl rfl rfl rfl (by omega) (by omega)) ?_
      refine qJ 1 (v := .agg #[.int .i64 _, .int .i64 _]) (vs := [.int .i64 (min (raisedN s.heats 0 s.heats.length ((n : Int) + 1))[k].mn 100), .int .i64 (min (raisedN s.heats 0 s.heats.length ((n : Int) + 1))[k].mx 100)]) (off := 0 + (k : Int).toNat * 2) (c' := (capN (raisedN s.heats 0 s.heats.length ((n : Int) + 1)) (k + 1)).flatMap rgC ++ junk4) rfl rfl rfl rfl rfl rfl (Nat.ble_eq_true_of_le (by show 0 + (k : Int).toNat * 2 + 2 ≤ _; rw [List.length_append, wS (m := 2) (fun _ _ => rfl)]; omega)) rfl (by rw [hoff, rg_wr hkc, ← capN_succ hkr]; rfl) ?_
      refine qH [_, _, _] rfl ?_
      refine qC rfl ?_
      refine qA (qO rfl (by omega)) ?_
      refine qA (qB (v := .int .i64 _) rfl) ?_
      refine ⟨k + 1, ⟨rfl, trivial⟩, rfl, rfl, E_k, fun h3 E3 => hkw, by first | omega | (dsimp only; omega), ?_⟩
      repeat (first | exact qU _ _ _ | refine wB (by decide) ?_ | refine qS rfl ?_ | refine wN rfl ?_)
     ·skip
      have hk3 : k = (warmL s.heats s.heats.length ((n : Int) + 1)).length := by have := geI hk2; omega
      subst hk3
      have ecap : capN (raisedN s.heats 0 s.heats.length ((n : Int) + 1)) (warmL s.heats s.heats.length ((n : Int) + 1)).length = warmL s.heats s.heats.length ((n : Int) + 1) := by rw [hwl.trans (hrl.symm), capN_all]; rfl
      refine zH 1 rfl ?_
      intro h6 E6 p6
      rw [ecap] at p6
      have Rw : SeasonR h6 (some ⟨b4, 0, none⟩) B1 B2 none ({ s with heats := warmL s.heats s.heats.length ((n : Int) + 1), reports := [] } : Season) := ⟨rg_row p6, R2.damps.ext (zP (zP (zP (zP (zP E3 E_n) E4) E5) E_k) E6), R2.joints.ext (zP (zP (zP (zP (zP E3 E_n) E4) E5) E_k) E6), ⟨fun _ h => (by cases h), Rd.nil _ _⟩⟩
      refine wU ?_
      refine qF ?_
      refine qC rfl ?_
      refine qA (qB (v := _) rfl) ?_
      refine qX 0 (vs := [.slice _ _ _, .slice _ _ _, .slice _ _ _, .slice _ _ _]) rfl rfl rfl rfl rfl ?_
      refine qA (qB (v := .slice _ _ _) rfl) ?_
      refine op_invoke rfl (by kernel_rfl) rfl rfl (waxUnder_ok (bare s) B0 B1 B2 none (some ⟨b4, 0, none⟩) d0 d1 d2 0 _ cap4 h6) ?_
      rintro _ h7 E7 rfl
      refine wO (cs := [_, _, _, _]) rfl rfl fun b15 hb15 => ?_
      refine qH [_, _, _] rfl ?_
      refine qJ 2 (v := .agg #[.slice _ _ _, .slice _ _ _, .slice _ _ _, .slice _ _ _]) (vs := [_, _, _, _]) (c' := [_, _, _, _]) rfl rfl rfl rfl rfl rfl rfl rfl rfl ?_
      refine qH [_, _, _] rfl ?_
      refine qF ?_
      refine qF ?_
      refine qC rfl ?_
      refine qX 2 (vs := [.slice _ _ _, .slice _ _ _, .slice _ _ _, .slice _ _ _]) rfl rfl rfl rfl rfl ?_
      refine wP (caps := []) (vs := [.agg #[.slice _ _ _, .slice _ _ _, .slice _ _ _, .slice _ _ _]]) rfl rfl rfl (bothOf_ok ({ s with heats := warmL s.heats s.heats.length ((n : Int) + 1), reports := [] } : Season) SVw.b (some ⟨b4, 0, none⟩) B1 B2 none cap4 d1 d2 0 h7 (Rw.ext E7)) ?_
      rintro _ h8 E8 ⟨_, rfl, A, c, mf, fm, fl, A', c', mf', fm', fl', rfl, X, X'⟩
      refine qA (qB (v := .tuple #[.agg #[.slice _ _ _, .map _, .map _, .map _, .map _, .slice _ _ _, .map _, .map _, .map _, .map _], .bool _]) rfl) ?_
      refine qA (qK (v := .agg #[.slice _ _ _, .map _, .map _, .map _, .map _, .slice _ _ _, .map _, .map _, .map _, .map _]) rfl) ?_
      refine qA (qK (v := .bool _) rfl) ?_
      refine wO (cs := [_, _, _, _, _, _, _, _, _, _]) rfl rfl fun b16 hb16 => ?_
      refine qH [_, _, _, _] rfl ?_
      refine qJ 3 (v := .agg #[.slice _ _ _, .map _, .map _, .map _, .map _, .slice _ _ _, .map _, .map _, .map _, .map _]) (vs := [_, _, _, _, _, _, _, _, _, _]) (c' := [_, _, _, _, _, _, _, _, _, _]) rfl rfl rfl rfl rfl rfl rfl rfl rfl ?_
      refine qH [_, _, _, _] rfl ?_
      refine qA (qE (v := .bool _) rfl) ?_
      refine qF ?_
      refine qC rfl ?_
      refine qX 3 (vs := [.slice _ _ _, .map _, .map _, .map _, .map _, .slice _ _ _, .map _, .map _, .map _, .map _]) rfl rfl rfl rfl rfl ?_
      refine qX 2 (vs := [.slice _ _ _, .slice _ _ _, .slice _ _ _, .slice _ _ _]) rfl rfl rfl rfl rfl ?_
      refine qA (qB (v := .int .i64 _) rfl) ?_
      refine qA (qB (v := .int .i64 _) rfl) ?_
      refine wP (caps := []) (vs := [.agg #[.slice _ _ _, .map _, .map _, .map _, .map _, .slice _ _ _, .map _, .map _, .map _, .map _], .agg #[.slice _ _ _, .slice _ _ _, .slice _ _ _, .slice _ _ _], .int .i64 _, .int .i64 _]) rfl rfl rfl (failed_ok ({ s with heats := warmL s.heats s.heats.length ((n : Int) + 1), reports := [] } : Season) SVw j w hj (by show w < (warmL _ _ _).length; omega) A c mf fm fl A' c' mf' fm' fl' (some ⟨b4, 0, none⟩) B1 B2 none cap4 d1 d2 0 h8 (Rw.ext (zP E7 E8)) (X.ext (Ext.refl _)) (X'.ext (Ext.refl _))) ?_
      rintro _ h9 E9 rfl
      refine qA (qK (v := .bool _) rfl) ?_
      refine wA rfl (fun hf => ?_) (fun hf => ?_)
      ·skip
       refine wU ?_
       refine qF ?_
       refine qC rfl ?_
       refine qA (qB (v := .int .i64 _) rfl) ?_
       refine qA (qE (v := .int .i64 _) rfl) ?_
       refine qA (qE (v := .int .i64 _) rfl) ?_
       refine wK ?_
       refine qW (vs := [_, _]) Try.results39 ⟨qR rfl rfl, qR rfl rfl, trivial⟩ fun V => ?_
       refine ⟨(zP (zP (zP (zP (zP (zP (zP (zP (zP (zP (zP E1 E2) E3) E_n) E4) E5) E_k) E6) E7) E8) E9) (wE V)), ?_⟩
       rw [hm0, hval, marginM, find_range hn K2 (by rw [tooWarm, hka, warmS_1]; simpa using hf)]
       rfl
      ·skip
       have K3 : ∀ i, i < n + 1 → tooWarm s j w i = false := by
        intro i hi
        rcases Nat.lt_succ_iff_lt_or_eq.1 hi with h1 | h1
        ·exact K2 i h1
        ·rw [h1, tooWarm, hka, warmS_1]; simpa using hf
       refine qT ?_
       refine qC rfl ?_
       refine qA (qB (v := .int .i64 _) rfl) ?_
       refine qA (qO rfl (by omega)) ?_
       refine qA (qE (v := .int .i64 _) rfl) ?_
       refine ⟨n + 1, ⟨rfl, trivial⟩, rfl, rfl, (zP (zP (zP (zP (zP (zP (zP E_n E4) E5) E_k) E6) E7) E8) E9), fun h3 E3 => ⟨hn, K3⟩, by first | omega | (dsimp only; omega), ?_⟩
       repeat (first | exact qU _ _ _ | refine wB (by decide) ?_ | refine qS rfl ?_ | refine wN rfl ?_)
    ·skip
     have hn : n = 30 := by have := geI (n := 30) ht; omega
     subst hn
     refine wU ?_
     refine qF ?_
     refine qC rfl ?_
     refine qA (qB (v := .int .i64 _) rfl) ?_
     refine qA (qE (v := .int .i64 _) rfl) ?_
     refine qA (qE (v := .int .i64 _) rfl) ?_
     refine wK ?_
     refine qW (vs := [_, _]) Try.results39 ⟨qR rfl rfl, qR rfl rfl, trivial⟩ fun V => ?_
     refine ⟨(zP (zP (zP (zP E1 E2) E3) E_n) (wE V)), ?_⟩
     rw [hm0, hval, marginM, find_range_none K2]
     rfl
   ·skip
    rw [hki] at hka ⊢
    refine qA (qE (v := _) rfl) ?_
    refine qF ?_
    refine qC rfl ?_
    refine qA (qE (v := .int .i64 _) rfl) ?_
    refine qF ?_
    refine qN ?_
    refine zN [11, 12, 13, 14, 15, 16, 17, 40, 41, 42, 43, 44, 45, 46, 47, 48, 49, 50, 51, 52, 53, 54, 55, 56, 57, 58, 59, 60, 61, 62, 63, 64, 65, 66, 67, 68, 69, 70, 71, 72, 73, 74, 75, 76, 77, 78, 79, 80, 81, 82, 83, 84, 85, 86] 1 (α := Nat) (fun n => [(11, .int .i64 n)]) (fun n => _) (fun n h_n => n ≤ 30 ∧ ∀ i, i < n → tooWarm s j w i = false) (fun n => 30 - n) (0) ⟨rfl, trivial⟩ (rfl) (⟨by omega, fun i hi => absurd hi (Nat.not_lt_zero i)⟩) ?_
    rintro n T3 h_n E_n J_n
    refine qP [_] rfl ?_
    obtain ⟨K1, K2⟩ := J_n
    have E2n := (zP E3 E_n)
    refine qF ?_
    refine qF ?_
    refine qC rfl ?_
    refine qA (qB (v := .int .i64 _) rfl) ?_
    refine qA (qK (v := .bool _) rfl) ?_
    refine wA rfl (fun ht => ?_) (fun ht => ?_)
    ·skip
     have hn : n < 30 := ltI (n := 30) ht
     have SVw : SeasonV ({ s with damps := warmL s.damps s.heats.length ((n : Int) + 1), reports := [] } : Season) := by rw [← warmS_2]; exact warmS_v SV (by omega)
     have hwl := warmL_len s.damps s.heats.length ((n : Int) + 1)
     have hrl := raisedN_len s.damps 0 s.heats.length ((n : Int) + 1)
     refine qT ?_
     refine qN ?_
     refine qF ?_
     refine zB [] rfl rfl rfl ?_
     refine qD (i := 0) rfl (by decide +kernel) (qB (v := _) rfl) ?_
     refine qL (i := 1) rfl (by decide +kernel) ?_
     refine qX 0 (vs := [.slice _ _ _, .slice _ _ _, .slice _ _ _, .slice _ _ _]) rfl rfl rfl rfl rfl ?_
     refine qD (i := 3) rfl (by decide +kernel) (qG rfl rfl rfl rfl 0 rfl) ?_
     refine qL (i := 4) rfl (by decide +kernel) ?_
     refine qI 0 (v := .slice _ _ _) rfl rfl rfl rfl ?_
     refine qD (i := 5) rfl (by decide +kernel) (wV rfl rfl) ?_
     refine qD (i := 6) rfl (by decide +kernel) (qO rfl (by omega)) ?_
     refine qD (i := 7) rfl (by decide +kernel) (qB (v := .int .i64 _) rfl) ?_
     refine qD (i := 8) rfl (by decide +kernel) (qO rfl (by omega)) ?_
     refine zD (i := 2) rfl (by decide +kernel) ?_
     refine op_invoke rfl (by kernel_rfl) rfl rfl (leatherWeather_ok (bare s) B0 B1 B2 none d0 d1 d2 0 h_n) ?_
     rintro _ h4 E4 rfl
     refine ⟨ext_wlm E4 _, ?_⟩
     refine wI (i := 9) rfl (by decide +kernel) (by decide +kernel) ?_
     refine zL [_] [] [] rfl rfl rfl (raised_ok s.damps (by omega) (by omega) (fun r hr => by obtain ⟨a1, a2, a3, a4⟩ := SV.b.db r hr; omega) 0 s.heats.length (Nat.zero_le _) (by omega) _ rfl ((n : Int) + 1) (by omega) B1 d1 h4 (R2.damps.ext (zP (zP E3 E_n) E4))) ?_
     rintro _ h5 _ E5 ⟨b4, cap4, junk4, rfl, ev⟩
     refine qZ [_, _] rfl ?_
     rw [← hwl] at ev
     subst ev
     refine qD (i := 10) rfl (by decide +kernel) (qE (v := .slice _ _ _) rfl) ?_
     refine wW rfl ?_
     refine qF ?_
     refine qF ?_
     refine qC rfl ?_
     refine qA (qB (v := .slice _ _ _) rfl) ?_
     refine qA (wV rfl rfl) ?_
     refine qA (qB (v := .int .i64 _) rfl) ?_
     refine qN ?_
     refine xp_loopL [13, 14, 54, 55, 56, 57, 58, 59, 60, 61, 62, 63, 64, 65, 66, 67, 68, 69] 2 (α := Nat) (fun k => [(54, .int .i64 k)]) (fun k L => L.set 1 (some (b4, .cells ((capN (raisedN s.damps 0 s.heats.length ((n : Int) + 1)) k).flatMap rgC ++ junk4).toArray 41 (0, 0)))) (fun k h_k => k ≤ (warmL s.damps s.heats.length ((n : Int) + 1)).length) (fun k => (warmL s.damps s.heats.length ((n : Int) + 1)).length - k) (0) ⟨rfl, trivial⟩ (by rw [capN_zero]; rfl) (Nat.zero_le _) ?_
     rintro k T4 h_k E_k J_k
     refine qP [_, _] rfl ?_
     refine qF ?_
     refine qC rfl ?_
     refine qA (qK (v := .bool _) rfl) ?_
     refine qF ?_
     refine wA rfl (fun hk2 => ?_) (fun hk2 => ?_)
     ·skip
      have hkw := ltI hk2
      have hkr : k < (raisedN s.damps 0 s.heats.length ((n : Int) + 1)).length := by omega
      have hkc : k < (capN (raisedN s.damps 0 s.heats.length ((n : Int) + 1)) k).length := by rw [capN_len]; exact hkr
      have hoff : 0 + (k : Int).toNat * 2 = k * 2 := by omega
      refine qT ?_
      refine qF ?_
      refine qN ?_
      refine qF ?_
      refine qC rfl ?_
      refine qA (qB (v := .int .i64 _) rfl) ?_
      refine qA (qM rfl rfl rfl rfl (by omega) (by omega)) ?_
      refine op_loadW (cs := [.int .i64 (raisedN s.damps 0 s.heats.length ((n : Int) + 1))[k].mn, .int .i64 (raisedN s.damps 0 s.heats.length ((n : Int) + 1))[k].mx]) (off := 0 + (k : Int).toNat * 2) rfl rfl rfl rfl (fun V => by rw [hoff]; exact rg_cells (i := 1) rfl V (capN_at hkr)) ?_
      refine wO (cs := [_, _]) rfl rfl fun b14_1 hb14_1 => ?_
      refine qH [_, _, _] rfl ?_
      refine qA (qE (v := .int .i64 _) rfl) ?_
      refine qJ 2 (v := .agg #[.int .i64 _, .int .i64 _]) (vs := [_, _]) (c' := [_, _]) rfl rfl rfl rfl rfl rfl rfl rfl rfl ?_
      refine qH [_, _, _] rfl ?_
      refine qC rfl ?_
      refine qA (qB (v := .slice _ _ _) rfl) ?_
      refine qA (qB (v := .int .i64 _) rfl) ?_
      refine qA (qG rfl rfl rfl rfl 0 rfl) ?_
      refine qI 2 (v := .int .i64 _) rfl rfl rfl rfl ?_
      refine qA (pv_min rfl rfl) ?_
      refine qA (qG rfl rfl rfl rfl 1 rfl) ?_
      refine qI 2 (v := .int .i64 _) rfl rfl rfl rfl ?_
      refine qA (pv_min rfl rfl) ?_
      refine qA (pv_build (zc := [_, _]) (vs := [(0, .int .i64 _), (1, .int .i64 _)]) (cs := [_, _]) rfl rfl rfl rfl rfl rfl) ?_
      refine qA (qM rfl rfl rfl rfl (by omega) (by omega)) ?_
      refine qJ 1 (v := .agg #[.int .i64 _, .int .i64 _]) (vs := [.int .i64 (min (raisedN s.damps 0 s.heats.length ((n : Int) + 1))[k].mn 100), .int .i64 (min (raisedN s.damps 0 s.heats.length ((n : Int) + 1))[k].mx 100)]) (off := 0 + (k : Int).toNat * 2) (c' := (capN (raisedN s.damps 0 s.heats.length ((n : Int) + 1)) (k + 1)).flatMap rgC ++ junk4) rfl rfl rfl rfl rfl rfl (Nat.ble_eq_true_of_le (by show 0 + (k : Int).toNat * 2 + 2 ≤ _; rw [List.length_append, wS (m := 2) (fun _ _ => rfl)]; omega)) rfl (by rw [hoff, rg_wr hkc, ← capN_succ hkr]; rfl) ?_
      refine qH [_, _, _] rfl ?_
      refine qC rfl ?_
      refine qA (qO rfl (by omega)) ?_
      refine qA (qB (v := .int .i64 _) rfl) ?_
      refine ⟨k + 1, ⟨rfl, trivial⟩, rfl, rfl, E_k, fun h3 E3 => hkw, by first | omega | (dsimp only; omega), ?_⟩
      repeat (first | exact qU _ _ _ | refine wB (by decide) ?_ | refine qS rfl ?_ | refine wN rfl ?_)
     ·skip
      have hk3 : k = (warmL s.damps s.heats.length ((n : Int) + 1)).length := by have := geI hk2; omega
      subst hk3
      have ecap : capN (raisedN s.damps 0 s.heats.length ((n : Int) + 1)) (warmL s.damps s.heats.length ((n : Int) + 1)).length = warmL s.damps s.heats.length ((n : Int) + 1) := by rw [hwl.trans (hrl.symm), capN_all]; rfl
      refine zH 1 rfl ?_
      intro h6 E6 p6
      rw [ecap] at p6
      have Rw : SeasonR h6 B0 (some ⟨b4, 0, none⟩) B2 none ({ s with damps := warmL s.damps s.heats.length ((n : Int) + 1), reports := [] } : Season) := ⟨R2.heats.ext (zP (zP (zP (zP (zP E3 E_n) E4) E5) E_k) E6), rg_row p6, R2.joints.ext (zP (zP (zP (zP (zP E3 E_n) E4) E5) E_k) E6), ⟨fun _ h => (by cases h), Rd.nil _ _⟩⟩
      refine wU ?_
      refine qF ?_
      refine qC rfl ?_
      refine qA (qB (v := _) rfl) ?_
      refine qX 0 (vs := [.slice _ _ _, .slice _ _ _, .slice _ _ _, .slice _ _ _]) rfl rfl rfl rfl rfl ?_
      refine qA (qB (v := .slice _ _ _) rfl) ?_
      refine op_invoke rfl (by kernel_rfl) rfl rfl (leatherUnder_ok (bare s) B0 B1 B2 none (some ⟨b4, 0, none⟩) d0 d1 d2 0 _ cap4 h6) ?_
      rintro _ h7 E7 rfl
      refine wO (cs := [_, _, _, _]) rfl rfl fun b15_1 hb15_1 => ?_
      refine qH [_, _, _] rfl ?_
      refine qJ 2 (v := .agg #[.slice _ _ _, .slice _ _ _, .slice _ _ _, .slice _ _ _]) (vs := [_, _, _, _]) (c' := [_, _, _, _]) rfl rfl rfl rfl rfl rfl rfl rfl rfl ?_
      refine qH [_, _, _] rfl ?_
      refine qF ?_
      refine qF ?_
      refine qC rfl ?_
      refine qX 2 (vs := [.slice _ _ _, .slice _ _ _, .slice _ _ _, .slice _ _ _]) rfl rfl rfl rfl rfl ?_
      refine wP (caps := []) (vs := [.agg #[.slice _ _ _, .slice _ _ _, .slice _ _ _, .slice _ _ _]]) rfl rfl rfl (bothOf_ok ({ s with damps := warmL s.damps s.heats.length ((n : Int) + 1), reports := [] } : Season) SVw.b B0 (some ⟨b4, 0, none⟩) B2 none d0 cap4 d2 0 h7 (Rw.ext E7)) ?_
      rintro _ h8 E8 ⟨_, rfl, A, c, mf, fm, fl, A', c', mf', fm', fl', rfl, X, X'⟩
      refine qA (qB (v := .tuple #[.agg #[.slice _ _ _, .map _, .map _, .map _, .map _, .slice _ _ _, .map _, .map _, .map _, .map _], .bool _]) rfl) ?_
      refine qA (qK (v := .agg #[.slice _ _ _, .map _, .map _, .map _, .map _, .slice _ _ _, .map _, .map _, .map _, .map _]) rfl) ?_
      refine qA (qK (v := .bool _) rfl) ?_
      refine wO (cs := [_, _, _, _, _, _, _, _, _, _]) rfl rfl fun b16_1 hb16_1 => ?_
      refine qH [_, _, _, _] rfl ?_
      refine qJ 3 (v := .agg #[.slice _ _ _, .map _, .map _, .map _, .map _, .slice _ _ _, .map _, .map _, .map _, .map _]) (vs := [_, _, _, _, _, _, _, _, _, _]) (c' := [_, _, _, _, _, _, _, _, _, _]) rfl rfl rfl rfl rfl rfl rfl rfl rfl ?_
      refine qH [_, _, _, _] rfl ?_
      refine qA (qE (v := .bool _) rfl) ?_
      refine qF ?_
      refine qC rfl ?_
      refine qX 3 (vs := [.slice _ _ _, .map _, .map _, .map _, .map _, .slice _ _ _, .map _, .map _, .map _, .map _]) rfl rfl rfl rfl rfl ?_
      refine qX 2 (vs := [.slice _ _ _, .slice _ _ _, .slice _ _ _, .slice _ _ _]) rfl rfl rfl rfl rfl ?_
      refine qA (qB (v := .int .i64 _) rfl) ?_
      refine qA (qB (v := .int .i64 _) rfl) ?_
      refine wP (caps := []) (vs := [.agg #[.slice _ _ _, .map _, .map _, .map _, .map _, .slice _ _ _, .map _, .map _, .map _, .map _], .agg #[.slice _ _ _, .slice _ _ _, .slice _ _ _, .slice _ _ _], .int .i64 _, .int .i64 _]) rfl rfl rfl (failed_ok ({ s with damps := warmL s.damps s.heats.length ((n : Int) + 1), reports := [] } : Season) SVw j w hj (by exact hw) A c mf fm fl A' c' mf' fm' fl' B0 (some ⟨b4, 0, none⟩) B2 none d0 cap4 d2 0 h8 (Rw.ext (zP E7 E8)) (X.ext (Ext.refl _)) (X'.ext (Ext.refl _))) ?_
      rintro _ h9 E9 rfl
      refine qA (qK (v := .bool _) rfl) ?_
      refine wA rfl (fun hf => ?_) (fun hf => ?_)
      ·skip
       refine wU ?_
       refine qF ?_
       refine qC rfl ?_
       refine qA (qB (v := .int .i64 _) rfl) ?_
       refine qA (qE (v := .int .i64 _) rfl) ?_
       refine qA (qE (v := .int .i64 _) rfl) ?_
       refine wK ?_
       refine qW (vs := [_, _]) Try.results39 ⟨qR rfl rfl, qR rfl rfl, trivial⟩ fun V => ?_
       refine ⟨(zP (zP (zP (zP (zP (zP (zP (zP (zP (zP (zP E1 E2) E3) E_n) E4) E5) E_k) E6) E7) E8) E9) (wE V)), ?_⟩
       rw [hm0, hval, marginM, find_range hn K2 (by rw [tooWarm, hka, warmS_2]; simpa using hf)]
       rfl
      ·skip
       have K3 : ∀ i, i < n + 1 → tooWarm s j w i = false := by
        intro i hi
        rcases Nat.lt_succ_iff_lt_or_eq.1 hi with h1 | h1
        ·exact K2 i h1
        ·rw [h1, tooWarm, hka, warmS_2]; simpa using hf
       refine qT ?_
       refine qC rfl ?_
       refine qA (qB (v := .int .i64 _) rfl) ?_
       refine qA (qO rfl (by omega)) ?_
       refine qA (qE (v := .int .i64 _) rfl) ?_
       refine ⟨n + 1, ⟨rfl, trivial⟩, rfl, rfl, (zP (zP (zP (zP (zP (zP (zP E_n E4) E5) E_k) E6) E7) E8) E9), fun h3 E3 => ⟨hn, K3⟩, by first | omega | (dsimp only; omega), ?_⟩
       repeat (first | exact qU _ _ _ | refine wB (by decide) ?_ | refine qS rfl ?_ | refine wN rfl ?_)
    ·skip
     have hn : n = 30 := by have := geI (n := 30) ht; omega
     subst hn
     refine wU ?_
     refine qF ?_
     refine qC rfl ?_
     refine qA (qB (v := .int .i64 _) rfl) ?_
     refine qA (qE (v := .int .i64 _) rfl) ?_
     refine qA (qE (v := .int .i64 _) rfl) ?_
     refine wK ?_
     refine qW (vs := [_, _]) Try.results39 ⟨qR rfl rfl, qR rfl rfl, trivial⟩ fun V => ?_
     refine ⟨(zP (zP (zP (zP E1 E2) E3) E_n) (wE V)), ?_⟩
     rw [hm0, hval, marginM, find_range_none K2]
     rfl
  ·have hm0 : marginE s joint week = 11 := by rw [marginE, if_pos he, if_neg hv]
   refine wL Try.func39 rfl Try.ntmps39 rfl ?_
   refine qF ?_
   refine qC rfl ?_
   refine zF (v := .agg #[.slice _ _ _, .slice _ _ _, .slice _ _ _, .slice _ _ _]) (cs := [_, _, _, _]) rfl rfl fun b3 hb3 => ?_
   refine qH [_] rfl ?_
   refine qA (qE (v := .int .i64 _) rfl) ?_
   refine qA (qE (v := .int .i64 _) rfl) ?_
   refine qF ?_
   refine qC rfl ?_
   refine qX 0 (vs := [.slice _ _ _, .slice _ _ _, .slice _ _ _, .slice _ _ _]) rfl rfl rfl rfl rfl ?_
   refine qA (qB (v := .int .i64 _) rfl) ?_
   refine qA (qB (v := .int .i64 _) rfl) ?_
   refine wP (caps := []) (vs := [.agg #[.slice _ _ _, .slice _ _ _, .slice _ _ _, .slice _ _ _], .int .i64 _, .int .i64 _]) rfl rfl rfl (Failed_ok s Sm _ _ A0 A1 A2 A3 c0 c1 c2 c3 h R) ?_
   rintro _ h1 E1 rfl
   refine qA (qB (v := .tuple #[.int .i64 _, .int .i64 _]) rfl) ?_
   refine qA (qK (v := .int .i64 _) rfl) ?_
   refine qA (qK (v := .int .i64 _) rfl) ?_
   refine qA (qE (v := .int .i64 _) rfl) ?_
   refine qA (qE (v := .int .i64 _) rfl) ?_
   refine qF ?_
   refine qF ?_
   refine qC rfl ?_
   refine qA (qB (v := .int .i64 _) rfl) ?_
   refine qA (qK (v := .bool _) rfl) ?_
   refine zI rfl (by simp [he]) ?_
   refine qT ?_
   refine qF ?_
   refine qF ?_
   refine qC rfl ?_
   refine qA (qB (v := .int .i64 _) rfl) ?_
   refine qA (qK (v := .bool _) rfl) ?_
   refine xp_condT rfl (by simp [hv]) ?_
   refine qF ?_
   refine qC rfl ?_
   refine qA (qE (v := .int .i64 _) rfl) ?_
   refine qA (qE (v := .int .i64 _) rfl) ?_
   refine wK ?_
   refine qW (vs := [_, _]) Try.results39 ⟨qR rfl rfl, qR rfl rfl, trivial⟩ fun V => ?_
   refine ⟨(zP E1 (wE V)), ?_⟩
   rw [marginV, hm0]; rfl
 ·have hm0 : marginE s joint week = failedE s joint week := by rw [marginE, if_neg he]
  refine wL Try.func39 rfl Try.ntmps39 rfl ?_
  refine qF ?_
  refine qC rfl ?_
  refine zF (v := .agg #[.slice _ _ _, .slice _ _ _, .slice _ _ _, .slice _ _ _]) (cs := [_, _, _, _]) rfl rfl fun b3 hb3 => ?_
  refine qH [_] rfl ?_
  refine qA (qE (v := .int .i64 _) rfl) ?_
  refine qA (qE (v := .int .i64 _) rfl) ?_
  refine qF ?_
  refine qC rfl ?_
  refine qX 0 (vs := [.slice _ _ _, .slice _ _ _, .slice _ _ _, .slice _ _ _]) rfl rfl rfl rfl rfl ?_
  refine qA (qB (v := .int .i64 _) rfl) ?_
  refine qA (qB (v := .int .i64 _) rfl) ?_
  refine wP (caps := []) (vs := [.agg #[.slice _ _ _, .slice _ _ _, .slice _ _ _, .slice _ _ _], .int .i64 _, .int .i64 _]) rfl rfl rfl (Failed_ok s Sm _ _ A0 A1 A2 A3 c0 c1 c2 c3 h R) ?_
  rintro _ h1 E1 rfl
  refine qA (qB (v := .tuple #[.int .i64 _, .int .i64 _]) rfl) ?_
  refine qA (qK (v := .int .i64 _) rfl) ?_
  refine qA (qK (v := .int .i64 _) rfl) ?_
  refine qA (qE (v := .int .i64 _) rfl) ?_
  refine qA (qE (v := .int .i64 _) rfl) ?_
  refine qF ?_
  refine qF ?_
  refine qC rfl ?_
  refine qA (qB (v := .int .i64 _) rfl) ?_
  refine qA (qK (v := .bool _) rfl) ?_
  refine xp_condT rfl (by simp [he]) ?_
  refine qF ?_
  refine qC rfl ?_
  refine qA (qB (v := .int .i64 _) rfl) ?_
  refine qA (qE (v := .int .i64 _) rfl) ?_
  refine qA (qE (v := .int .i64 _) rfl) ?_
  refine wK ?_
  refine qW (vs := [_, _]) Try.results39 ⟨qR rfl rfl, qR rfl rfl, trivial⟩ fun V => ?_
  refine ⟨(zP E1 (wE V)), ?_⟩
  rw [marginV, hm0, if_neg he]; rfl
end Go.Proofs.Ytgjcepdhclmglaa
namespace Go.Proofs.Ytgjcepdhclmglaa
open Go Go.HL Go.Proofs Go.Wx
variable [Lvl]
set_option maxRecDepth 100000
theorem row_of_block {α : Type} {enc : α → List Value} {m : Nat} {l : List α} (hl : ∀ x ∈ l, (enc x).length = m) {h : AH} {b : Nat} {t : TypeId} (hb : h b = some (.cells (l.flatMap enc).toArray t (0, 0))) : Row h m enc (some ⟨b, 0, none⟩) l :=
 ⟨hl, fun _ => ⟨b, 0, rfl, cells_blk hb⟩⟩
def season0 : Season := ⟨[⟨20, 21⟩, ⟨28, 30⟩, ⟨10, 10⟩], [⟨50, 50⟩, ⟨50, 50⟩, ⟨50, 50⟩], [⟨1, ⟨30, 31⟩, ⟨10, 10⟩, ⟨1, 2⟩, ⟨9, 9⟩⟩, ⟨2, ⟨60, 60⟩, ⟨40, 40⟩, ⟨1, 1⟩, ⟨1, 2⟩⟩], []⟩
def told0 : Season := { season0 with reports := [⟨0, 1, true⟩] }
theorem to_ok (a b : Int) (h : AH) : FnT Try.prog 9 #[.int .i64 a, .int .i64 b] h (fun v _ => v = .agg #[.int .i64 a, .int .i64 b]) := by
 refine wL Try.func9 rfl Try.ntmps9 rfl ?_
 refine qF ?_
 refine qC rfl ?_
 refine wO (cs := [_, _]) rfl rfl fun b4 hb4 => ?_
 refine qH [_] rfl ?_
 refine qF ?_
 refine qC rfl ?_
 refine qA (qB (v := .int .i64 _) rfl) ?_
 refine qA (qB (v := .int .i64 _) rfl) ?_
 refine qA (pv_build (zc := [_, _]) (vs := [(0, .int .i64 _), (1, .int .i64 _)]) (cs := [_, _]) rfl rfl rfl rfl rfl rfl) ?_
 refine qJ 0 (v := .agg #[.int .i64 _, .int .i64 _]) (vs := [_, _]) (c' := [_, _]) rfl rfl rfl rfl rfl rfl rfl rfl rfl ?_
 refine qH [_] rfl ?_
 refine wK ?_
 refine qW (vs := [_]) Try.results9 ⟨resV_agg 0 rfl rfl rfl rfl rfl (vs := [.int .i64 _, .int .i64 _]) rfl, trivial⟩ fun V => ?_
 exact ⟨(wE V), rfl⟩
theorem season0_ok (h : AH) : FnT Try.prog 36 #[] h (fun v h' => SeasonS h' season0 v) := by
 refine wL Try.func36 rfl Try.ntmps36 rfl ?_
 refine qF ?_
 refine qC rfl ?_
 refine wO (cs := [_, _, _, _]) rfl rfl fun b0 hb0 => ?_
 refine qH [_] rfl ?_
 refine qF ?_
 refine qC rfl ?_
 refine wP (caps := []) (vs := [.int .i64 _, .int .i64 _]) rfl rfl rfl (to_ok _ _ h) ?_
 rintro _ h1 E1 rfl
 refine wP (caps := []) (vs := [.int .i64 _, .int .i64 _]) rfl rfl rfl (to_ok _ _ h1) ?_
 rintro _ h2 E2 rfl
 refine wP (caps := []) (vs := [.int .i64 _, .int .i64 _]) rfl rfl rfl (to_ok _ _ h2) ?_
 rintro _ h3 E3 rfl
 refine wG (zc := [_, _]) (vs := [(0, .agg #[.int .i64 _, .int .i64 _]), (1, .agg #[.int .i64 _, .int .i64 _]), (2, .agg #[.int .i64 _, .int .i64 _])]) (cs := [_, _, _, _, _, _]) rfl rfl rfl rfl rfl rfl rfl fun b4 hb4 => ?_
 refine qH [_, _] rfl ?_
 refine wP (caps := []) (vs := [.int .i64 _, .int .i64 _]) rfl rfl rfl (to_ok _ _ h3) ?_
 rintro _ h4 E4 rfl
 refine wP (caps := []) (vs := [.int .i64 _, .int .i64 _]) rfl rfl rfl (to_ok _ _ h4) ?_
 rintro _ h5 E5 rfl
 refine wP (caps := []) (vs := [.int .i64 _, .int .i64 _]) rfl rfl rfl (to_ok _ _ h5) ?_
 rintro _ h6 E6 rfl
 refine wG (zc := [_, _]) (vs := [(0, .agg #[.int .i64 _, .int .i64 _]), (1, .agg #[.int .i64 _, .int .i64 _]), (2, .agg #[.int .i64 _, .int .i64 _])]) (cs := [_, _, _, _, _, _]) rfl rfl rfl rfl rfl rfl rfl fun b8 hb8 => ?_
 refine qH [_, _, _] rfl ?_
 refine wP (caps := []) (vs := [.int .i64 _, .int .i64 _]) rfl rfl rfl (to_ok _ _ h6) ?_
 rintro _ h7 E7 rfl
 refine wP (caps := []) (vs := [.int .i64 _, .int .i64 _]) rfl rfl rfl (to_ok _ _ h7) ?_
 rintro _ h8 E8 rfl
 refine wP (caps := []) (vs := [.int .i64 _, .int .i64 _]) rfl rfl rfl (to_ok _ _ h8) ?_
 rintro _ h9 E9 rfl
 refine wP (caps := []) (vs := [.int .i64 _, .int .i64 _]) rfl rfl rfl (to_ok _ _ h9) ?_
 rintro _ h10 E10 rfl
 refine qA (pv_build (zc := [_, _, _, _, _, _, _, _, _]) (vs := [(0, .int .i64 _), (1, .agg #[.int .i64 _, .int .i64 _]), (2, .agg #[.int .i64 _, .int .i64 _]), (3, .agg #[.int .i64 _, .int .i64 _]), (4, .agg #[.int .i64 _, .int .i64 _])]) (cs := [_, _, _, _, _, _, _, _, _]) rfl rfl rfl rfl rfl rfl) ?_
 refine wP (caps := []) (vs := [.int .i64 _, .int .i64 _]) rfl rfl rfl (to_ok _ _ h10) ?_
 rintro _ h11 E11 rfl
 refine wP (caps := []) (vs := [.int .i64 _, .int .i64 _]) rfl rfl rfl (to_ok _ _ h11) ?_
 rintro _ h12 E12 rfl
 refine wP (caps := []) (vs := [.int .i64 _, .int .i64 _]) rfl rfl rfl (to_ok _ _ h12) ?_
 rintro _ h13 E13 rfl
 refine wP (caps := []) (vs := [.int .i64 _, .int .i64 _]) rfl rfl rfl (to_ok _ _ h13) ?_
 rintro _ h14 E14 rfl
 refine qA (pv_build (zc := [_, _, _, _, _, _, _, _, _]) (vs := [(0, .int .i64 _), (1, .agg #[.int .i64 _, .int .i64 _]), (2, .agg #[.int .i64 _, .int .i64 _]), (3, .agg #[.int .i64 _, .int .i64 _]), (4, .agg #[.int .i64 _, .int .i64 _])]) (cs := [_, _, _, _, _, _, _, _, _]) rfl rfl rfl rfl rfl rfl) ?_
 refine op_buildSliceR (zc := [_, _, _, _, _, _, _, _, _]) [[.int .i64 _, .int .i64 _, .int .i64 _, .int .i64 _, .int .i64 _, .int .i64 _, .int .i64 _, .int .i64 _, .int .i64 _], [.int .i64 _, .int .i64 _, .int .i64 _, .int .i64 _, .int .i64 _, .int .i64 _, .int .i64 _, .int .i64 _, .int .i64 _]] rfl rfl rfl rfl rfl rfl rfl rfl fun b19 hb19 => ?_
 refine qH [_, _, _, _] rfl ?_
 refine qA (pv_build (zc := [_, _, _, _]) (vs := [(0, .slice _ _ _), (1, .slice _ _ _), (2, .slice _ _ _)]) (cs := [_, _, _, _]) rfl rfl rfl rfl rfl rfl) ?_
 refine qJ 0 (v := .agg #[.slice _ _ _, .slice _ _ _, .slice _ _ _, .slice _ _ _]) (vs := [_, _, _, _]) (c' := [_, _, _, _]) rfl rfl rfl rfl rfl rfl rfl rfl rfl ?_
 refine qH [_, _, _, _] rfl ?_
 refine wK ?_
 refine qW (vs := [_]) Try.results36 ⟨resV_agg 0 rfl rfl rfl rfl rfl (vs := [.slice _ _ _, .slice _ _ _, .slice _ _ _, .slice _ _ _]) rfl, trivial⟩ fun V => ?_
 exact ⟨(zP (zP (zP (zP (zP (zP (zP (zP (zP (zP (zP (zP (zP (zP E1 E2) E3) E4) E5) E6) E7) E8) E9) E10) E11) E12) E13) E14) (wE V)), some ⟨b4, 0, none⟩, some ⟨b8, 0, none⟩, some ⟨b19, 0, none⟩, none, 3, 3, 2, 0, rfl, row_of_block (enc := rgC) (m := 2) (l := season0.heats) (fun _ _ => rfl) (wl_get V (i := 1) rfl), row_of_block (enc := rgC) (m := 2) (l := season0.damps) (fun _ _ => rfl) (wl_get V (i := 2) rfl), row_of_block (enc := jointC) (m := 9) (l := season0.joints) (fun _ _ => rfl) (wl_get V (i := 3) rfl), fun _ h => (by cases h), Rd.nil _ _⟩
theorem told0_ok (h : AH) : FnT Try.prog 37 #[] h (fun v h' => SeasonS h' told0 v) := by
 refine wL Try.func37 rfl Try.ntmps37 rfl ?_
 refine qF ?_
 refine qC rfl ?_
 refine wO (cs := [_, _, _, _]) rfl rfl fun b0 hb0 => ?_
 refine qH [_] rfl ?_
 refine qF ?_
 refine qC rfl ?_
 refine wP (caps := []) (vs := []) rfl rfl rfl (season0_ok h) ?_
 rintro _ h1 E1 ⟨A0, A1, A2, A3, c0, c1, c2, c3, rfl, R⟩
 refine wO (cs := [_, _, _, _]) rfl rfl fun b1 hb1 => ?_
 refine qH [_, _] rfl ?_
 refine qJ 1 (v := .agg #[.slice _ _ _, .slice _ _ _, .slice _ _ _, .slice _ _ _]) (vs := [_, _, _, _]) (c' := [_, _, _, _]) rfl rfl rfl rfl rfl rfl rfl rfl rfl ?_
 refine qH [_, _] rfl ?_
 refine qF ?_
 refine qC rfl ?_
 refine qA (pv_build (zc := [_, _, _]) (vs := [(1, .int .i64 _), (2, .bool _)]) (cs := [_, _, _]) rfl rfl rfl rfl rfl rfl) ?_
 refine wG (zc := [_, _, _]) (vs := [(0, .agg #[.int .i64 _, .int .i64 _, .bool _])]) (cs := [_, _, _]) rfl rfl rfl rfl rfl rfl rfl fun b4 hb4 => ?_
 refine qH [_, _, _] rfl ?_
 refine qA (qG rfl rfl rfl rfl 3 rfl) ?_
 refine qJ 1 (v := .slice _ _ _) (vs := [_]) (c' := [_, _, _, _]) rfl rfl rfl rfl rfl rfl rfl rfl rfl ?_
 refine qH [_, _, _] rfl ?_
 refine qF ?_
 refine qC rfl ?_
 refine qX 1 (vs := [.slice _ _ _, .slice _ _ _, .slice _ _ _, .slice _ _ _]) rfl rfl rfl rfl rfl ?_
 refine qJ 0 (v := .agg #[.slice _ _ _, .slice _ _ _, .slice _ _ _, .slice _ _ _]) (vs := [_, _, _, _]) (c' := [_, _, _, _]) rfl rfl rfl rfl rfl rfl rfl rfl rfl ?_
 refine qH [_, _, _] rfl ?_
 refine wK ?_
 refine qW (vs := [_]) Try.results37 ⟨resV_agg 0 rfl rfl rfl rfl rfl (vs := [.slice _ _ _, .slice _ _ _, .slice _ _ _, .slice _ _ _]) rfl, trivial⟩ fun V => ?_
 exact ⟨(zP E1 (wE V)), A0, A1, A2, some ⟨b4, 0, none⟩, c0, c1, c2, 1, rfl, R.heats.ext (wE V), R.damps.ext (wE V), R.joints.ext (wE V), row_of_block (enc := seenC) (m := 3) (l := told0.reports) (fun _ _ => rfl) (wl_get V (i := 2) rfl)⟩
theorem lawVerdict_ok (a b : Bool) (h : AH) : FnT Try.prog 19 #[.bool a, .bool b] h (fun v _ => v = .int .i64 (if b = false then 1 else if a = false then 2 else 3)) := by
 refine wL Try.func19 rfl Try.ntmps19 rfl ?_
 refine qF ?_
 refine qC rfl ?_
 refine qA (qE (v := .int .i64 _) rfl) ?_
 refine qF ?_
 refine qN ?_
 refine qF ?_
 refine qC rfl ?_
 refine qA (qB (v := .bool _) rfl) ?_
 refine qA (qK (v := .bool _) rfl) ?_
 refine qA (qE (v := .bool _) rfl) ?_
 refine wA rfl (fun hc1 => ?_) (fun hc1 => ?_)
 ·refine qF ?_
  refine qC rfl ?_
  refine qA (qE (v := .int .i64 _) rfl) ?_
  refine wK ?_
  refine qW (vs := [_]) Try.results19 ⟨qR rfl rfl, trivial⟩ fun V => ?_
  exact ⟨(wE V), intE (by simp_all)⟩
 ·refine qF ?_
  refine qC rfl ?_
  refine qA (qB (v := .bool _) rfl) ?_
  refine qA (qK (v := .bool _) rfl) ?_
  refine qA (qE (v := .bool _) rfl) ?_
  refine wA rfl (fun hc2 => ?_) (fun hc2 => ?_)
  ·refine qF ?_
   refine qC rfl ?_
   refine qA (qE (v := .int .i64 _) rfl) ?_
   refine wK ?_
   refine qW (vs := [_]) Try.results19 ⟨qR rfl rfl, trivial⟩ fun V => ?_
   exact ⟨(wE V), intE (by simp_all)⟩
  ·refine qT ?_
   refine qF ?_
   refine qC rfl ?_
   refine qA (qE (v := .int .i64 _) rfl) ?_
   refine wK ?_
   refine qW (vs := [_]) Try.results19 ⟨qR rfl rfl, trivial⟩ fun V => ?_
   exact ⟨(wE V), intE (by simp_all)⟩
theorem w_fails : failsL season0 0 = [1, 2, 3] ∧ failsE season0 0 = 0 := by decide +kernel
theorem w_first : firstL told0 = [1, 3] ∧ firstE told0 = 0 := by decide +kernel
theorem w_inspect : inspectL season0 0 = [1, 2] ∧ inspectE season0 0 = 0 := by decide +kernel
theorem w_margin : marginV season0 0 0 = 8 ∧ marginE season0 0 0 = 0 := by decide +kernel
theorem w_causes : causesL season0 0 = [3, 3, 2] := by decide +kernel
theorem small0 : Small season0 := ⟨by decide, by decide, by decide, by decide⟩
theorem smallT : Small told0 := ⟨by decide, by decide, by decide, by decide⟩
section
variable (A0 A1 A2 A3 : Option Addr) (c0 c1 c2 c3 : Nat) (h : AH)
theorem wFails (R : SeasonR h A0 A1 A2 A3 season0) : FnT Try.prog 16 #[seasonV A0 A1 A2 A3 c0 c1 c2 c3 season0, .int .i64 0] h (fun v h' => ∃ w, v = .tuple #[w, .int .i64 0] ∧ SlR h' 1 intC [1, 2, 3] w) := by
 have := Fails_ok season0 small0 0 A0 A1 A2 A3 c0 c1 c2 c3 h R
 rw [w_fails.1, w_fails.2] at this
 exact this
theorem wFirst (R : SeasonR h A0 A1 A2 A3 told0) : FnT Try.prog 12 #[seasonV A0 A1 A2 A3 c0 c1 c2 c3 told0] h (fun v h' => ∃ w, v = .tuple #[w, .int .i64 0] ∧ SlR h' 1 intC [1, 3] w) := by
 have := First_ok told0 smallT A0 A1 A2 A3 c0 c1 c2 c3 h R
 rw [w_first.1, w_first.2] at this
 exact this
theorem wInspect (R : SeasonR h A0 A1 A2 A3 season0) : FnT Try.prog 38 #[seasonV A0 A1 A2 A3 c0 c1 c2 c3 season0, .int .i64 0] h (fun v h' => ∃ w, v = .tuple #[w, .int .i64 0] ∧ SlR h' 1 intC [1, 2] w) := by
 have := Inspect_ok season0 small0 0 A0 A1 A2 A3 c0 c1 c2 c3 h R
 rw [w_inspect.1, w_inspect.2] at this
 exact this
theorem wMargin (R : SeasonR h A0 A1 A2 A3 season0) : FnT Try.prog 39 #[seasonV A0 A1 A2 A3 c0 c1 c2 c3 season0, .int .i64 0, .int .i64 0] h (fun v _ => v = .tuple #[.int .i64 8, .int .i64 0]) := by
 have := Margin_ok season0 small0 0 0 A0 A1 A2 A3 c0 c1 c2 c3 h R
 rw [w_margin.1, w_margin.2] at this
 exact this
theorem wCauses (R : SeasonR h A0 A1 A2 A3 season0) : FnT Try.prog 18 #[seasonV A0 A1 A2 A3 c0 c1 c2 c3 season0, .int .i64 0] h (fun v h' => ∃ w, v = .tuple #[w, .int .i64 0] ∧ SlR h' 1 intC [3, 3, 2] w) := by
 have := Causes_ok season0 small0 0 A0 A1 A2 A3 c0 c1 c2 c3 h R
 rw [w_causes, w_fails.2] at this
 exact this
end
end Go.Proofs.Ytgjcepdhclmglaa
namespace Go.Proofs.Ytgjcepdhclmglaa
open Go Go.HL Go.Proofs Go.Wx
variable [Lvl]
set_option maxRecDepth 100000
set_option maxHeartbeats 4000000 in
theorem warm_ok (h : AH) : FnT Try.prog 14 #[] h (fun v _ => v = .bool true) := by
 refine wL Try.func14 rfl Try.ntmps14 rfl ?_
 refine qF ?_
 refine qC rfl ?_
 refine qA (qE (v := .bool _) rfl) ?_
 refine qF ?_
 refine qC rfl ?_
 refine wP (caps := []) (vs := []) rfl rfl rfl (season0_ok h) ?_
 rintro _ h1 E1 ⟨A0, A1, A2, A3, c0, c1, c2, c3, rfl, R1⟩
 refine wP (caps := []) (vs := [.agg #[.slice _ _ _, .slice _ _ _, .slice _ _ _, .slice _ _ _], .int .i64 _]) rfl rfl rfl (wFails _ _ _ _ _ _ _ _ h1 R1) ?_
 rintro _ h2 E2 ⟨_, rfl, B2, d2, rfl, S2⟩
 refine qA (qB (v := .tuple #[.slice _ _ _, .int .i64 _]) rfl) ?_
 refine qA (qK (v := .slice _ _ _) rfl) ?_
 refine qA (qK (v := .int .i64 _) rfl) ?_
 refine qA (qE (v := .slice _ _ _) rfl) ?_
 refine qA (qE (v := .int .i64 _) rfl) ?_
 refine qF ?_
 refine qC rfl ?_
 refine wP (caps := []) (vs := []) rfl rfl rfl (told0_ok h2) ?_
 rintro _ h3 E3 ⟨A0, A1, A2, A3, c0, c1, c2, c3, rfl, R3⟩
 refine wP (caps := []) (vs := [.agg #[.slice _ _ _, .slice _ _ _, .slice _ _ _, .slice _ _ _]]) rfl rfl rfl (wFirst _ _ _ _ _ _ _ _ h3 R3) ?_
 rintro _ h4 E4 ⟨_, rfl, B4, d4, rfl, S4⟩
 refine qA (qB (v := .tuple #[.slice _ _ _, .int .i64 _]) rfl) ?_
 refine qA (qK (v := .slice _ _ _) rfl) ?_
 refine qA (qK (v := .int .i64 _) rfl) ?_
 refine qA (qE (v := .slice _ _ _) rfl) ?_
 refine qA (qE (v := .int .i64 _) rfl) ?_
 refine qF ?_
 refine qC rfl ?_
 refine wP (caps := []) (vs := []) rfl rfl rfl (season0_ok h4) ?_
 rintro _ h5 E5 ⟨A0, A1, A2, A3, c0, c1, c2, c3, rfl, R5⟩
 refine wP (caps := []) (vs := [.agg #[.slice _ _ _, .slice _ _ _, .slice _ _ _, .slice _ _ _], .int .i64 _]) rfl rfl rfl (wInspect _ _ _ _ _ _ _ _ h5 R5) ?_
 rintro _ h6 E6 ⟨_, rfl, B6, d6, rfl, S6⟩
 refine qA (qB (v := .tuple #[.slice _ _ _, .int .i64 _]) rfl) ?_
 refine qA (qK (v := .slice _ _ _) rfl) ?_
 refine qA (qK (v := .int .i64 _) rfl) ?_
 refine qA (qE (v := .slice _ _ _) rfl) ?_
 refine qA (qE (v := .int .i64 _) rfl) ?_
 refine qF ?_
 refine qC rfl ?_
 refine wP (caps := []) (vs := []) rfl rfl rfl (season0_ok h6) ?_
 rintro _ h7 E7 ⟨A0, A1, A2, A3, c0, c1, c2, c3, rfl, R7⟩
 refine wP (caps := []) (vs := [.agg #[.slice _ _ _, .slice _ _ _, .slice _ _ _, .slice _ _ _], .int .i64 _, .int .i64 _]) rfl rfl rfl (wMargin _ _ _ _ _ _ _ _ h7 R7) ?_
 rintro _ h8 E8 rfl
 refine qA (qB (v := .tuple #[.int .i64 _, .int .i64 _]) rfl) ?_
 refine qA (qK (v := .int .i64 _) rfl) ?_
 refine qA (qK (v := .int .i64 _) rfl) ?_
 refine qA (qE (v := .int .i64 _) rfl) ?_
 refine qA (qE (v := .int .i64 _) rfl) ?_
 refine qF ?_
 refine qC rfl ?_
 refine wP (caps := []) (vs := []) rfl rfl rfl (season0_ok h8) ?_
 rintro _ h9 E9 ⟨A0, A1, A2, A3, c0, c1, c2, c3, rfl, R9⟩
 refine wP (caps := []) (vs := [.agg #[.slice _ _ _, .slice _ _ _, .slice _ _ _, .slice _ _ _], .int .i64 _]) rfl rfl rfl (wCauses _ _ _ _ _ _ _ _ h9 R9) ?_
 rintro _ h10 E10 ⟨_, rfl, B10, d10, rfl, S10⟩
 refine qA (qB (v := .tuple #[.slice _ _ _, .int .i64 _]) rfl) ?_
 refine qA (qK (v := .slice _ _ _) rfl) ?_
 refine qA (qK (v := .int .i64 _) rfl) ?_
 refine qA (qE (v := .slice _ _ _) rfl) ?_
 refine qA (qE (v := .int .i64 _) rfl) ?_
 refine qF ?_
 refine qC rfl ?_
 refine qA (qB (v := .int .i64 _) rfl) ?_
 refine qA (qK (v := .bool _) rfl) ?_
 refine qA (qB (v := .bool _) rfl) ?_
 refine qQ rfl rfl ?_
 refine qA (qB (v := .int .i64 _) rfl) ?_
 refine qQ rfl rfl ?_
 refine qA (qK (v := .bool _) rfl) ?_
 refine qA (wX rfl rfl (v := .bool _) rfl) ?_
 refine qA (qB (v := .bool _) rfl) ?_
 refine qQ rfl rfl ?_
 refine qA (qB (v := .int .i64 _) rfl) ?_
 refine qQ rfl rfl ?_
 refine qA (qK (v := .bool _) rfl) ?_
 refine qA (wX rfl rfl (v := .bool _) rfl) ?_
 refine qA (qB (v := .bool _) rfl) ?_
 refine qQ rfl rfl ?_
 refine qA (qB (v := .int .i64 _) rfl) ?_
 refine qQ rfl rfl ?_
 refine qA (qK (v := .bool _) rfl) ?_
 refine qA (wX rfl rfl (v := .bool _) rfl) ?_
 refine qA (qB (v := .bool _) rfl) ?_
 refine qQ rfl rfl ?_
 refine qA (qB (v := .int .i64 _) rfl) ?_
 refine qQ rfl rfl ?_
 refine qA (qK (v := .bool _) rfl) ?_
 refine qA (wX rfl rfl (v := .bool _) rfl) ?_
 refine qA (qB (v := .bool _) rfl) ?_
 refine qQ rfl rfl ?_
 refine qA (qB (v := .int .i64 _) rfl) ?_
 refine qQ rfl rfl ?_
 refine qA (qK (v := .bool _) rfl) ?_
 refine qA (wX rfl rfl (v := .bool _) rfl) ?_
 refine qA (qB (v := .bool _) rfl) ?_
 refine qQ rfl rfl ?_
 refine qA (qB (v := .slice _ _ _) rfl) ?_
 refine qQ rfl rfl ?_
 refine wG (zc := [_]) (vs := [(0, .int .i64 _), (1, .int .i64 _), (2, .int .i64 _)]) (cs := [_, _, _]) rfl rfl rfl rfl rfl rfl rfl fun b60 hb60 => ?_
 refine qH [_] rfl ?_
 refine qQ rfl rfl ?_
 refine wp_pub 0 rfl rfl ?_
 intro g1 F1 p1
 refine qH [_] rfl ?_
 refine wP (caps := []) (vs := [.slice _ _ _, .slice _ _ _]) rfl rfl rfl (sameInts_ok [1, 2, 3] [1, 2, 3] _ _ _ _ g1 (S2.ext (zP (zP (zP (zP (zP (zP (zP (zP E3 E4) E5) E6) E7) E8) E9) E10) F1)) (row_of_block (enc := intC) (m := 1) (l := [1, 2, 3]) (fun _ _ => rfl) p1) (by decide)) ?_
 rintro _ g2 F2 rfl
 refine qA (wX rfl rfl (v := .bool _) rfl) ?_
 refine qA (qB (v := .bool _) rfl) ?_
 refine qQ rfl rfl ?_
 refine qA (qB (v := .slice _ _ _) rfl) ?_
 refine qQ rfl rfl ?_
 refine wG (zc := [_]) (vs := [(0, .int .i64 _), (1, .int .i64 _)]) (cs := [_, _]) rfl rfl rfl rfl rfl rfl rfl fun b65 hb65 => ?_
 refine qH [_, _] rfl ?_
 refine qQ rfl rfl ?_
 refine wp_pub 1 rfl rfl ?_
 intro g3 F3 p3
 refine qH [_, _] rfl ?_
 refine wP (caps := []) (vs := [.slice _ _ _, .slice _ _ _]) rfl rfl rfl (sameInts_ok [1, 3] [1, 3] _ _ _ _ g3 (S4.ext (zP (zP (zP (zP (zP (zP (zP (zP E5 E6) E7) E8) E9) E10) F1) F2) F3)) (row_of_block (enc := intC) (m := 1) (l := [1, 3]) (fun _ _ => rfl) p3) (by decide)) ?_
 rintro _ g4 F4 rfl
 refine qA (wX rfl rfl (v := .bool _) rfl) ?_
 refine qA (qB (v := .bool _) rfl) ?_
 refine qQ rfl rfl ?_
 refine qA (qB (v := .slice _ _ _) rfl) ?_
 refine qQ rfl rfl ?_
 refine wG (zc := [_]) (vs := [(0, .int .i64 _), (1, .int .i64 _)]) (cs := [_, _]) rfl rfl rfl rfl rfl rfl rfl fun b70 hb70 => ?_
 refine qH [_, _, _] rfl ?_
 refine qQ rfl rfl ?_
 refine wp_pub 2 rfl rfl ?_
 intro g5 F5 p5
 refine qH [_, _, _] rfl ?_
 refine wP (caps := []) (vs := [.slice _ _ _, .slice _ _ _]) rfl rfl rfl (sameInts_ok [1, 2] [1, 2] _ _ _ _ g5 (S6.ext (zP (zP (zP (zP (zP (zP (zP (zP E7 E8) E9) E10) F1) F2) F3) F4) F5)) (row_of_block (enc := intC) (m := 1) (l := [1, 2]) (fun _ _ => rfl) p5) (by decide)) ?_
 rintro _ g6 F6 rfl
 refine qA (wX rfl rfl (v := .bool _) rfl) ?_
 refine qA (qB (v := .bool _) rfl) ?_
 refine qQ rfl rfl ?_
 refine qA (qB (v := .slice _ _ _) rfl) ?_
 refine qQ rfl rfl ?_
 refine wG (zc := [_]) (vs := [(0, .int .i64 _), (1, .int .i64 _), (2, .int .i64 _)]) (cs := [_, _, _]) rfl rfl rfl rfl rfl rfl rfl fun b75 hb75 => ?_
 refine qH [_, _, _, _] rfl ?_
 refine qQ rfl rfl ?_
 refine wp_pub 3 rfl rfl ?_
 intro g7 F7 p7
 refine qH [_, _, _, _] rfl ?_
 refine wP (caps := []) (vs := [.slice _ _ _, .slice _ _ _]) rfl rfl rfl (sameInts_ok [3, 3, 2] [3, 3, 2] _ _ _ _ g7 (S10.ext (zP (zP (zP (zP (zP (zP F1 F2) F3) F4) F5) F6) F7)) (row_of_block (enc := intC) (m := 1) (l := [3, 3, 2]) (fun _ _ => rfl) p7) (by decide)) ?_
 rintro _ g8 F8 rfl
 refine qA (wX rfl rfl (v := .bool _) rfl) ?_
 refine qA (qE (v := .bool _) rfl) ?_
 refine wK ?_
 refine qW (vs := [_]) Try.results14 ⟨qR rfl rfl, trivial⟩ fun V => ?_
 exact ⟨(zP (zP (zP (zP (zP (zP (zP (zP (zP (zP (zP (zP (zP (zP (zP (zP (zP (zP E1 E2) E3) E4) E5) E6) E7) E8) E9) E10) F1) F2) F3) F4) F5) F6) F7) F8) (wE V)), rfl⟩
end Go.Proofs.Ytgjcepdhclmglaa
