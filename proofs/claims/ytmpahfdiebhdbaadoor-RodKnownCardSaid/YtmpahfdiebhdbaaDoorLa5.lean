/- An own logic over the model, its walks and its plain laws, joined of parts R13 R14 BB CD R15 R16 R17 R18 CC GP R19 GQ Rm Rn Ro R20 R21 U Uc Rp R23 R29 R30 R31 Rq R32 R25 R26 R33 R34 R35 R36 R37 R38 R39. Conditions: as each theorem states. -/
import Derived.Test.YtmpahfdiebhdbaaDoorLa4
import Derived.Test.YtmpahfdiebhdbaaDoorLa2
import Derived.Test.YtmpahfdiebhdbaaDoorLa1
import Derived.Test.YtmpahfdiebhdbaaDoorLa3
import Derived.Conc.LeavingOf
set_option linter.all false
namespace Go.Proofs.YtmpahfdiebhdbaaDoor
open Go Go.HL Go.Proofs Go.Wx Go.Rd
section
variable [Lvl]
set_option maxRecDepth 100000
def heard1M (m : MachP) (x : HeardP) : Int := if checkHandM m x.hand ≠ 0 then checkHandM m x.hand else checkSetM x.sounds m.levers
def checkHeardM (m : MachP) (hs : List HeardP) : Int := if chkM m ≠ 0 then chkM m else if hs.length > 5 then 6 else firstErr (heard1M m) hs
theorem checkHeard_zero {m : MachP} {hs : List HeardP} (h : checkHeardM m hs = 0) : MOK m ∧ hs.length ≤ 5 ∧ ∀ x ∈ hs, HeardOK m x := by
 unfold checkHeardM at h
 obtain ⟨a1, h⟩ := peel h (fun x => x)
 obtain ⟨a2, h⟩ := peel h (fun _ => by decide)
 have h3 := firstErr_zero h
 refine ⟨check_ok (by simpa using a1), by omega, fun x hx => ?_⟩
 have h4 := h3 x hx
 unfold heard1M at h4
 obtain ⟨a3, h4⟩ := peel h4 (fun x => x)
 exact ⟨(checkHand_ok0 (by simpa using a3)).2, checkSet_iff.1 h4⟩
def HLen (hs : List HeardP) : Prop := hs.length < 2 ^ 40 ∧ ∀ x ∈ hs, x.hand.buttons.length < 2 ^ 40 ∧ x.hand.on.length < 2 ^ 40 ∧ x.sounds.length < 2 ^ 40
theorem checkHeard_ok (m : MachP) (hs : List HeardP) (HN : HLen hs) (AB AQ AL AW UA : Option Addr) (cB cQ cL cW cU : Nat) (cs : List (List Value)) (h : AH) (RM : MachR h AB AQ AL AW m) (h0 : m.weights.length < 2 ^ 40) (R : Row h 3 id UA cs) (EL : Els h TU hs cs) :
  FnT Tryd.prog 43 #[machV AB AQ AL AW cB cQ cL cW m, .slice UA hs.length cU] h (fun v _ => v = .int .i64 (checkHeardM m hs)) := by
 have hn1 := HN.1
 refine wL Tryd.func43 rfl Tryd.ntmps43 rfl ?_
 refine qE ?_
 refine qC rfl ?_
 refine op_box (v := .agg #[.int .i64 _, .int .i64 _, .int .i64 _, .int .i64 _, .int .i64 _, .slice _ _ _, .slice _ _ _, .slice _ _ _, .slice _ _ _]) (cs := [_, _, _, _, _, _, _, _, _]) rfl rfl fun b2 hb2 => ?_
 refine qH [_] rfl ?_
 refine qA (qF (v := .int .i64 _) rfl) ?_
 refine qE ?_
 refine qE ?_
 refine qC rfl ?_
 refine wH 0 (vs := [.int .i64 _, .int .i64 _, .int .i64 _, .int .i64 _, .int .i64 _, .slice _ _ _, .slice _ _ _, .slice _ _ _, .slice _ _ _]) rfl rfl rfl rfl rfl ?_
 refine qV (caps := []) (vs := [.agg #[.int .i64 _, .int .i64 _, .int .i64 _, .int .i64 _, .int .i64 _, .slice _ _ _, .slice _ _ _, .slice _ _ _, .slice _ _ _]]) rfl rfl rfl (Check_ok m AB AQ AL AW cB cQ cL cW h (RM.ext (Ext.refl _)) h0) ?_
 rintro _ h1 E1 rfl
 refine qA (qF (v := .int .i64 _) rfl) ?_
 refine qE ?_
 refine qC rfl ?_
 refine qA (qD (v := .int .i64 _) rfl) ?_
 refine qA (qJ (v := .bool _) rfl) ?_
 refine wA rfl (fun hc => ?_) (fun hc => ?_)
 ·skip
  have hc' : chkM m ≠ 0 := by simpa using hc
  refine qE ?_
  refine qC rfl ?_
  refine qA (qD (v := .int .i64 _) rfl) ?_
  refine qA (qF (v := .int .i64 _) rfl) ?_
  refine wD ?_
  refine qS (vs := [_]) Tryd.results43 ⟨qM rfl rfl, trivial⟩ fun V => ?_
  exact ⟨(zL E1 (qZ V)), intE (by rw [checkHeardM, if_pos hc'])⟩
 ·skip
  have hc' : chkM m = 0 := by simpa using hc
  have lv := (check_ok hc').levers
  refine qP ?_
  refine qE ?_
  refine qE ?_
  refine qC rfl ?_
  refine qA (qD (v := .slice _ _ _) rfl) ?_
  refine qA (wP rfl rfl) ?_
  refine qA (qJ (v := .bool _) rfl) ?_
  refine wA rfl (fun h5 => ?_) (fun h5 => ?_)
  ·skip
   have h5' : hs.length > 5 := by simp at h5; omega
   refine qE ?_
   refine qC rfl ?_
   refine qA (qF (v := .int .i64 _) rfl) ?_
   refine wD ?_
   refine qS (vs := [_]) Tryd.results43 ⟨qM rfl rfl, trivial⟩ fun V => ?_
   exact ⟨(zL E1 (qZ V)), intE (by rw [checkHeardM, if_neg (by simp [hc']), if_pos h5'])⟩
  ·skip
   have h5' : ¬ hs.length > 5 := by simp at h5; omega
   have C : checkHeardM m hs = firstErr (heard1M m) hs := by rw [checkHeardM, if_neg (by simp [hc']), if_neg h5']
   refine qP ?_
   refine qE ?_
   refine qE ?_
   refine qC rfl ?_
   refine qA (qD (v := .slice _ _ _) rfl) ?_
   refine qA (wP rfl rfl) ?_
   refine qA (qD (v := .int .i64 _) rfl) ?_
   refine qT ?_
   refine xp_loopB [4, 7, 8, 9, 20, 21, 22, 23, 24, 25, 26, 27, 28, 29, 30, 31, 32, 33, 34, 35, 36, 37, 38, 39] 1 (α := Nat) (fun k => [(20, .int .i64 k)]) (fun k => _) (fun k h_k => k ≤ hs.length ∧ firstErr (heard1M m) (hs.take k) = 0) (fun k => hs.length - k) (0) ⟨rfl, trivial⟩ (rfl) (⟨Nat.zero_le _, rfl⟩) ?_
   rintro k T1 h_k E_k J_k
   refine wE [_] rfl ?_
   obtain ⟨K1, K2⟩ := J_k
   refine qE ?_
   refine qC rfl ?_
   refine qA (qJ (v := .bool _) rfl) ?_
   refine qE ?_
   refine wA rfl (fun hk => ?_) (fun hk => ?_)
   ·skip
    have hkl : k < hs.length := ltI hk
    obtain ⟨l1, l2, l3⟩ := HN.2 _ (List.getElem_mem hkl)
    obtain ⟨hkc, B0, O0, U0, e0, ⟨HA, cH, rfl, r1⟩, ⟨OA, cO, rfl, r2⟩, ⟨XA, cX, rfl, r3⟩⟩ := (EL.ext TU.mono (zL E1 E_k)).at hkl
    obtain ⟨g, off, hA, hc⟩ := (R.ext (zL E1 E_k)).at (by omega) hkc
    have hc : Cells h_k g (off + k * 3) [.slice HA hs[k].hand.buttons.length cH, .slice OA hs[k].hand.on.length cO, .slice XA hs[k].sounds.length cX] := by rw [← e0]; exact hc
    refine qP ?_
    refine qE ?_
    refine qT ?_
    refine qE ?_
    refine qC rfl ?_
    refine qA (wU rfl hA rfl rfl rfl (by omega) (by omega)) ?_
    refine op_loadA rfl rfl rfl rfl (hc) ?_
    refine wW (cs := [_, _, _]) rfl rfl fun b7 hb7 => ?_
    refine qH [_, _] rfl ?_
    refine wG 1 (v := .agg #[.slice _ _ _, .slice _ _ _, .slice _ _ _]) (vs := [_, _, _]) (c' := [_, _, _]) rfl rfl rfl rfl rfl rfl rfl rfl rfl ?_
    refine qH [_, _] rfl ?_
    refine qE ?_
    refine qE ?_
    refine qC rfl ?_
    refine wH 0 (vs := [.int .i64 _, .int .i64 _, .int .i64 _, .int .i64 _, .int .i64 _, .slice _ _ _, .slice _ _ _, .slice _ _ _, .slice _ _ _]) rfl rfl rfl rfl rfl ?_
    refine qA (qI rfl rfl rfl rfl 0 rfl) ?_
    refine wH 1 (vs := [.slice _ _ _, .slice _ _ _]) rfl rfl rfl rfl rfl ?_
    refine qV (caps := []) (vs := [.agg #[.int .i64 _, .int .i64 _, .int .i64 _, .int .i64 _, .int .i64 _, .slice _ _ _, .slice _ _ _, .slice _ _ _, .slice _ _ _], .agg #[.slice _ _ _, .slice _ _ _]]) rfl rfl rfl (checkHand_ok m hs[k].hand AB AQ AL AW HA OA cB cQ cL cW cH cO h_k (RM.ext (zL E1 E_k)) ⟨r1, r2⟩ h0 l1 l2) ?_
    rintro _ h3 E3 rfl
    refine qA (qF (v := .int .i64 _) rfl) ?_
    refine qE ?_
    refine qC rfl ?_
    refine qA (qD (v := .int .i64 _) rfl) ?_
    refine qA (qJ (v := .bool _) rfl) ?_
    refine wA rfl (fun hw => ?_) (fun hw => ?_)
    ·skip
     have hw' : checkHandM m hs[k].hand ≠ 0 := by simpa using hw
     have ew : heard1M m hs[k] = checkHandM m hs[k].hand := by rw [heard1M, if_pos hw']
     refine qE ?_
     refine qC rfl ?_
     refine qA (qD (v := .int .i64 _) rfl) ?_
     refine qA (qF (v := .int .i64 _) rfl) ?_
     refine wD ?_
     refine qS (vs := [_]) Tryd.results43 ⟨qM rfl rfl, trivial⟩ fun V => ?_
     refine ⟨(zL (zL (zL E1 E_k) E3) (qZ V)), intE ?_⟩
     rw [C, firstErr_stop hkl K2 (by rw [ew]; exact hw'), ew]
    ·skip
     have hw' : checkHandM m hs[k].hand = 0 := by simpa using hw
     have ew : heard1M m hs[k] = checkSetM hs[k].sounds m.levers := by rw [heard1M, if_neg (by simp [hw'])]
     refine qP ?_
     refine qE ?_
     refine qC rfl ?_
     refine qA (qI rfl rfl rfl rfl 2 rfl) ?_
     refine qN 1 (v := .slice _ _ _) rfl rfl rfl rfl ?_
     refine qA (qI rfl rfl rfl rfl 1 rfl) ?_
     refine qN 0 (v := .int .i64 _) rfl rfl rfl rfl ?_
     refine qV (caps := []) (vs := [.slice _ _ _, .int .i64 _]) rfl rfl rfl (checkSet_ok hs[k].sounds m.levers (by omega) XA cX h3 (r3.ext E3) l3) ?_
     rintro _ h4 E4 rfl
     refine qA (qF (v := .int .i64 _) rfl) ?_
     refine qE ?_
     refine qC rfl ?_
     refine qA (qD (v := .int .i64 _) rfl) ?_
     refine qA (qJ (v := .bool _) rfl) ?_
     refine wA rfl (fun hz => ?_) (fun hz => ?_)
     ·skip
      have hz' : checkSetM hs[k].sounds m.levers ≠ 0 := by simpa using hz
      refine qE ?_
      refine qC rfl ?_
      refine qA (qD (v := .int .i64 _) rfl) ?_
      refine qA (qF (v := .int .i64 _) rfl) ?_
      refine wD ?_
      refine qS (vs := [_]) Tryd.results43 ⟨qM rfl rfl, trivial⟩ fun V => ?_
      refine ⟨(zL (zL (zL (zL E1 E_k) E3) E4) (qZ V)), intE ?_⟩
      rw [C, firstErr_stop hkl K2 (by rw [ew]; exact hz'), ew]
     ·skip
      have hz' : checkSetM hs[k].sounds m.levers = 0 := by simpa using hz
      refine qP ?_
      refine qC rfl ?_
      refine qA (qX rfl (by omega)) ?_
      refine qA (qD (v := .int .i64 _) rfl) ?_
      refine ⟨k + 1, ⟨rfl, trivial⟩, rfl, rfl, (zL (zL E_k E3) E4), fun h3 E3 => ⟨hkl, firstErr_go hkl K2 (by rw [ew, hz'])⟩, by first | omega | (dsimp only; omega), ?_⟩
      repeat (first | exact wK _ _ _ | refine wM (by decide) ?_ | refine wJ rfl ?_ | refine wN rfl ?_)
   ·skip
    have hke : k = hs.length := by have := geI hk; omega
    subst hke
    rw [List.take_length] at K2
    refine zA ?_
    refine qE ?_
    refine qC rfl ?_
    refine qA (qF (v := .int .i64 _) rfl) ?_
    refine wD ?_
    refine qS (vs := [_]) Tryd.results43 ⟨qM rfl rfl, trivial⟩ fun V => ?_
    exact ⟨(zL (zL E1 E_k) (qZ V)), intE (by rw [C, K2])⟩
def suspN (m : MachP) (hs : List HeardP) : Nat → List Int
 | 0 => if explainsB m [] hs then [-1] else []
 | k + 1 => match (faultsM m)[k]? with
  | some f => if explainsB m [f] hs then suspN m hs k ++ [(k : Int)] else suspN m hs k
  | none => suspN m hs k
def suspectsM (m : MachP) (hs : List HeardP) : List Int := suspN m hs (faultsM m).length
theorem suspN_len (m : MachP) (hs : List HeardP) : ∀ k, (suspN m hs k).length ≤ k + 1
 | 0 => by unfold suspN; split <;> simp
 | k + 1 => by
  have := suspN_len m hs k
  unfold suspN
  split
  ·split
   ·rw [List.length_append]; simp; omega
   ·omega
  ·omega
theorem fsN_mem {c : Nat → FaultP} {k : Nat} {f : FaultP} (h : f ∈ fsN c k) : ∃ i, i < k ∧ f = c i := by
 unfold fsN at h
 obtain ⟨i, hi, e⟩ := List.mem_map.1 h
 exact ⟨i, List.mem_range.1 hi, e.symm⟩
theorem faults_fok {m : MachP} (M : MOK m) {f : FaultP} (h : f ∈ faultsM m) : FOK m f := by
 have := M.levers
 unfold faultsM fs3 fs2 fs1 at h
 simp only [List.mem_append] at h
 rcases h with ((h | h) | h) | h <;> obtain ⟨i, hi, rfl⟩ := fsN_mem h
 ·show (i : Int) < m.levers; omega
 ·show (i : Int) < m.levers; omega
 ·exact hi
 ·exact hi
theorem fill_fault (f : FaultP) : fillL (fun i => some (i * 1, 1)) ((List.range (1 * 1)).map fun i => ([Value.nilIface] : List Value)[i % ([Value.nilIface] : List Value).length]!) [(0, faultV f)] = some [faultV f] := by cases f <;> rfl
theorem row_f1 {h : AH} {b : Nat} {f : FaultP} {v : Value} {e : TypeId} {q : Nat × Nat} (hv : v = faultV f) (hb : h b = some (.cells #[v] e q)) : Row h 1 faultC (some ⟨b, 0, none⟩) [f] :=
 ⟨fun _ _ => rfl, fun _ => ⟨b, 0, rfl, cellsB (cs := [faultV f]) (by rw [← hv]; exact hb)⟩⟩
theorem suspects_ok (hph : Lvl.ph = true) (m : MachP) (M : MOK m) (hs : List HeardP) (X : ∀ x ∈ hs, HeardOK m x) (hl2 : hs.length < 2 ^ 40) (AB AQ AL AW UA : Option Addr) (cB cQ cL cW cU : Nat) (cs : List (List Value)) (h : AH) (RM : MachR h AB AQ AL AW m) (R : Row h 3 id UA cs) (EL : Els h TU hs cs) :
  FnT Tryd.prog 44 #[machV AB AQ AL AW cB cQ cL cW m, .slice UA hs.length cU] h (fun v h' => SlR h' 1 intC (suspectsM m hs) v) := by
 have lv := M.levers
 have pl := M.pl
 have ll := M.ll
 have fl := faults_len m
 refine wL Tryd.func44 rfl Tryd.ntmps44 rfl ?_
 refine qE ?_
 refine qC rfl ?_
 refine op_box (v := .agg #[.int .i64 _, .int .i64 _, .int .i64 _, .int .i64 _, .int .i64 _, .slice _ _ _, .slice _ _ _, .slice _ _ _, .slice _ _ _]) (cs := [_, _, _, _, _, _, _, _, _]) rfl rfl fun b2 hb2 => ?_
 refine qH [_] rfl ?_
 refine qA (qF (v := .slice _ _ _) rfl) ?_
 refine qE ?_
 refine qC rfl ?_
 refine qA (qF (v := .slice _ _ _) rfl) ?_
 refine goes_more ?_
 refine wE [_, _] rfl ?_
 refine xp_cutB [5, 8, 9, 10, 11, 12, 13] 2 (α := Acc) (fun a => [(5, .slice a.A a.n a.c)]) (fun a L => L.set 1 (a.p)) (fun a h_a => AccR 3 1 ((suspN m hs 0).flatMap intC) a) ?_ ?_
 ·skip
  refine qE ?_
  refine qC rfl ?_
  refine wH 0 (vs := [.int .i64 _, .int .i64 _, .int .i64 _, .int .i64 _, .int .i64 _, .slice _ _ _, .slice _ _ _, .slice _ _ _, .slice _ _ _]) rfl rfl rfl rfl rfl ?_
  refine qA (qD (v := .slice _ _ _) rfl) ?_
  refine qV (caps := []) (vs := [.agg #[.int .i64 _, .int .i64 _, .int .i64 _, .int .i64 _, .int .i64 _, .slice _ _ _, .slice _ _ _, .slice _ _ _, .slice _ _ _], .slice _ _ _, .slice _ _ _]) rfl rfl rfl (explains_ok hph m M [] (fun f hf => absurd hf List.not_mem_nil) (by decide) hs X hl2 AB AQ AL AW none UA cB cQ cL cW 0 cU cs h (RM.ext (Ext.refl _)) ⟨fun _ hx => absurd hx List.not_mem_nil, Rd.nil _ _⟩ (R.ext (Ext.refl _)) (EL.ext TU.mono (Ext.refl _))) ?_
  rintro _ h1 E1 rfl
  refine wA rfl (fun hx => ?_) (fun hx => ?_)
  ·skip
   refine qC rfl ?_
   refine qA (qD (v := .slice _ _ _) rfl) ?_
   refine qK (zc := [_]) (vs := [(0, .int .i64 _)]) (cs := [_]) rfl rfl rfl rfl rfl rfl rfl fun b12 hb12 => ?_
   refine qH [_, _, _] rfl ?_
   have ac0 : AccR 3 1 [] acc0 := accR0
   refine zF 1 ac0 rfl rfl rfl (fun V => rdP V (i := 2) rfl) rfl rfl rfl rfl rfl rfl rfl rfl rfl (by omega) rfl (by simp) fun a2 h2a E2a ha2 => ?_
   refine qH [_, _, _] rfl ?_
   refine qA (qF (v := .slice _ _ _) rfl) ?_
   refine ⟨a2, ⟨rfl, trivial⟩, rfl, rfl, (zL E1 E2a), fun h3 E3 => by rw [suspN, if_pos hx]; exact ha2, ?_⟩
   repeat (first | exact zG _ _ | exact wK _ _ _ | refine wM (by decide) ?_ | refine wJ rfl ?_ | refine wN rfl ?_)
  ·skip
   refine qP ?_
   refine ⟨acc0, ⟨rfl, trivial⟩, rfl, rfl, E1, fun h3 E3 => by rw [suspN, if_neg (by simp [hx])]; exact accR0, ?_⟩
   repeat (first | exact zG _ _ | exact wK _ _ _ | refine wM (by decide) ?_ | refine wJ rfl ?_ | refine wN rfl ?_)
 ·rintro a T1 h_a E_a J_a
  refine wE [_, _] rfl ?_
  refine qE ?_
  refine qE ?_
  refine qC rfl ?_
  refine wH 0 (vs := [.int .i64 _, .int .i64 _, .int .i64 _, .int .i64 _, .int .i64 _, .slice _ _ _, .slice _ _ _, .slice _ _ _, .slice _ _ _]) rfl rfl rfl rfl rfl ?_
  refine qV (caps := []) (vs := [.agg #[.int .i64 _, .int .i64 _, .int .i64 _, .int .i64 _, .int .i64 _, .slice _ _ _, .slice _ _ _, .slice _ _ _, .slice _ _ _]]) rfl rfl rfl (faults_ok m (by omega) (by omega) (by omega) AB AQ AL AW cB cQ cL cW h_a) ?_
  rintro _ h2 E2 ⟨FA, cF, rfl, RF⟩
  have hfok : ∀ f ∈ faultsM m, FOK m f := fun f hf => faults_fok M hf
  obtain ⟨fs, hfs⟩ : ∃ fs, fs = faultsM m := ⟨_, rfl⟩
  have hS : suspectsM m hs = suspN m hs fs.length := by rw [suspectsM, hfs]
  rw [hS]
  rw [← hfs] at RF fl hfok ⊢
  refine qA (wP rfl rfl) ?_
  refine qA (qD (v := .int .i64 _) rfl) ?_
  refine qT ?_
  refine xp_loopL [5, 6, 7, 17, 18, 19, 20, 21, 22, 23, 24, 25, 26, 27, 28, 29, 30, 31] 2 (α := Nat × Acc) (fun ⟨k, a⟩ => [(5, .slice a.A a.n a.c), (17, .int .i64 k)]) (fun ⟨k, a⟩ L => L.set 1 (a.p)) (fun ⟨k, a⟩ h_k => k ≤ fs.length ∧ AccR 3 1 ((suspN m hs k).flatMap intC) a) (fun ⟨k, a⟩ => fs.length - k) ((0, a)) ⟨rfl, rfl, trivial⟩ (rfl) (⟨Nat.zero_le _, J_a⟩) ?_
  rintro ⟨k, a⟩ T3 h_k E_k J_k
  refine wE [_, _] rfl ?_
  obtain ⟨K1, K2⟩ := J_k
  refine qE ?_
  refine qC rfl ?_
  refine qA (qJ (v := .bool _) rfl) ?_
  refine qE ?_
  refine wA rfl (fun hk => ?_) (fun hk => ?_)
  ·skip
   have hkl : k < fs.length := ltI hk
   obtain ⟨g, off, hA, hc⟩ := (RF.ext E_k).at (by omega) hkl
   have hfk := hfok _ (List.getElem_mem hkl)
   have hgk : (faultsM m)[k]? = some fs[k] := by rw [← hfs]; exact List.getElem?_eq_getElem hkl
   refine qP ?_
   refine qE ?_
   refine qT ?_
   refine qE ?_
   refine qC rfl ?_
   refine qA (qD (v := .int .i64 _) rfl) ?_
   refine qA (wU rfl hA rfl rfl rfl (by omega) (by omega)) ?_
   refine wT (v := _) rfl rfl ((hc) 0 _ rfl) ?_
   refine qA (qF (v := .int .i64 _) rfl) ?_
   refine qA (qF (v := _) rfl) ?_
   refine qE ?_
   refine qC rfl ?_
   refine wH 0 (vs := [.int .i64 _, .int .i64 _, .int .i64 _, .int .i64 _, .int .i64 _, .slice _ _ _, .slice _ _ _, .slice _ _ _, .slice _ _ _]) rfl rfl rfl rfl rfl ?_
   refine qA (qD (v := _) rfl) ?_
   refine qK (m := 1) (zc := [.nilIface]) (vs := [(0, faultV fs[k])]) (cs := [faultV fs[k]]) rfl rfl rfl rfl rfl rfl (fill_fault _) fun b24 hb24 => ?_
   refine qH [_, _, _] rfl ?_
   refine qA (qD (v := .slice _ _ _) rfl) ?_
   refine wp_pub 2 rfl rfl ?_
   intro h3 E3 hb24
   refine qH [_, _, _] rfl ?_
   refine qV (caps := []) (vs := [.agg #[.int .i64 _, .int .i64 _, .int .i64 _, .int .i64 _, .int .i64 _, .slice _ _ _, .slice _ _ _, .slice _ _ _, .slice _ _ _], .slice _ _ _, .slice _ _ _]) rfl rfl rfl (explains_ok hph m M [fs[k]] (fun f hf => by simp at hf; subst hf; exact hfk) (by show 1 < 2 ^ 20; decide) hs X hl2 AB AQ AL AW (some ⟨b24, 0, none⟩) UA cB cQ cL cW 1 cU cs h3 (RM.ext (zL (zL (zL E_a E2) E_k) E3)) (row_f1 rfl hb24) (R.ext (zL (zL (zL E_a E2) E_k) E3)) (EL.ext TU.mono (zL (zL (zL E_a E2) E_k) E3))) ?_
   rintro _ h4 E4 rfl
   refine wA rfl (fun hx => ?_) (fun hx => ?_)
   ·skip
    refine qC rfl ?_
    refine qA (qD (v := .slice _ _ _) rfl) ?_
    refine qA (qD (v := .int .i64 _) rfl) ?_
    refine qK (zc := [_]) (vs := [(0, .int .i64 _)]) (cs := [_]) rfl rfl rfl rfl rfl rfl rfl fun b29 hb29 => ?_
    refine qH [_, _, _, _] rfl ?_
    refine zF 1 K2 rfl rfl rfl (fun V => rdP V (i := 3) rfl) rfl rfl rfl rfl rfl rfl rfl rfl rfl (by omega) rfl (by rw [zE (m := 1) (fun _ _ => rfl)]; have := suspN_len m hs k; simp; omega) fun a2 h4a E4a ha2 => ?_
    refine qH [_, _, _, _] rfl ?_
    refine qA (qF (v := .slice _ _ _) rfl) ?_
    refine qC rfl ?_
    refine qA (qX rfl (by omega)) ?_
    refine qA (qD (v := .int .i64 _) rfl) ?_
    refine ⟨(k + 1, a2), ⟨rfl, rfl, trivial⟩, rfl, rfl, (zL (zL (zL E_k E3) E4) E4a), fun h3 E3 => ⟨hkl, by rw [suspN, hgk]; simp only; rw [if_pos hx, List.flatMap_append]; exact ha2⟩, by first | omega | (dsimp only; omega), ?_⟩
    repeat (first | exact wK _ _ _ | refine wM (by decide) ?_ | refine wJ rfl ?_ | refine wN rfl ?_)
   ·skip
    refine qP ?_
    refine qC rfl ?_
    refine qA (qX rfl (by omega)) ?_
    refine qA (qD (v := .int .i64 _) rfl) ?_
    refine ⟨(k + 1, a), ⟨rfl, rfl, trivial⟩, rfl, rfl, (zL (zL E_k E3) E4), fun h3 E3 => ⟨hkl, by rw [suspN, hgk]; simp only; rw [if_neg (by simp [hx])]; exact K2⟩, by first | omega | (dsimp only; omega), ?_⟩
    repeat (first | exact wK _ _ _ | refine wM (by decide) ?_ | refine wJ rfl ?_ | refine wN rfl ?_)
  ·skip
   have hke : k = fs.length := by have := geI hk; omega
   subst hke
   refine zA ?_
   refine qE ?_
   refine qC rfl ?_
   refine qA (qD (v := .slice _ _ _) rfl) ?_
   refine qA (qF (v := .slice _ _ _) rfl) ?_
   refine wD ?_
   refine qS (vs := [_]) Tryd.results44 ⟨qM rfl rfl, trivial⟩ fun V => ?_
   exact ⟨(zL (zL (zL E_a E2) E_k) (qZ V)), AccP.row (i := 1) K2 (by omega) (fun _ _ => rfl) V rfl⟩
def suspE (m : MachP) (hs : List HeardP) : Int := if checkHeardM m hs ≠ 0 then checkHeardM m hs else if (suspectsM m hs).length = 0 then 11 else 0
def suspL (m : MachP) (hs : List HeardP) : List Int := if suspE m hs = 0 then suspectsM m hs else []
theorem Suspects_ok (hph : Lvl.ph = true) (m : MachP) (hs : List HeardP) (HN : HLen hs) (AB AQ AL AW UA : Option Addr) (cB cQ cL cW cU : Nat) (cs : List (List Value)) (h : AH) (RM : MachR h AB AQ AL AW m) (h0 : m.weights.length < 2 ^ 40) (R : Row h 3 id UA cs) (EL : Els h TU hs cs) :
  FnT Tryd.prog 20 #[machV AB AQ AL AW cB cQ cL cW m, .slice UA hs.length cU] h (fun v h' => ∃ L, v = .tuple #[L, .int .i64 (suspE m hs)] ∧ SlR h' 1 intC (suspL m hs) L) := by
 refine wL Tryd.func20 rfl Tryd.ntmps20 rfl ?_
 refine qE ?_
 refine qC rfl ?_
 refine op_box (v := .agg #[.int .i64 _, .int .i64 _, .int .i64 _, .int .i64 _, .int .i64 _, .slice _ _ _, .slice _ _ _, .slice _ _ _, .slice _ _ _]) (cs := [_, _, _, _, _, _, _, _, _]) rfl rfl fun b2 hb2 => ?_
 refine qH [_] rfl ?_
 refine qA (qF (v := .slice _ _ _) rfl) ?_
 refine qA (qF (v := .int .i64 _) rfl) ?_
 refine qE ?_
 refine qE ?_
 refine qC rfl ?_
 refine wH 0 (vs := [.int .i64 _, .int .i64 _, .int .i64 _, .int .i64 _, .int .i64 _, .slice _ _ _, .slice _ _ _, .slice _ _ _, .slice _ _ _]) rfl rfl rfl rfl rfl ?_
 refine qA (qD (v := .slice _ _ _) rfl) ?_
 refine qV (caps := []) (vs := [.agg #[.int .i64 _, .int .i64 _, .int .i64 _, .int .i64 _, .int .i64 _, .slice _ _ _, .slice _ _ _, .slice _ _ _, .slice _ _ _], .slice _ _ _]) rfl rfl rfl (checkHeard_ok m hs HN AB AQ AL AW UA cB cQ cL cW cU cs h (RM.ext (Ext.refl _)) h0 (R.ext (Ext.refl _)) (EL.ext TU.mono (Ext.refl _))) ?_
 rintro _ h3 E3 rfl
 refine qA (qF (v := .int .i64 _) rfl) ?_
 refine qE ?_
 refine qC rfl ?_
 refine qA (qD (v := .int .i64 _) rfl) ?_
 refine qA (qJ (v := .bool _) rfl) ?_
 refine wA rfl (fun hc => ?_) (fun hc => ?_)
 ·skip
  have hc' : checkHeardM m hs ≠ 0 := by simpa using hc
  have e : suspE m hs = checkHeardM m hs := by rw [suspE, if_pos hc']
  refine qE ?_
  refine qC rfl ?_
  refine qA (qD (v := .int .i64 _) rfl) ?_
  refine qA (qF (v := .slice _ _ _) rfl) ?_
  refine qA (qF (v := .int .i64 _) rfl) ?_
  refine wD ?_
  refine qS (vs := [_, _]) Tryd.results20 ⟨qM rfl rfl, qM rfl rfl, trivial⟩ fun V => ?_
  refine ⟨(zL E3 (qZ V)), .slice none 0 0, by rw [e]; rfl, ?_⟩
  rw [suspL, e, if_neg hc']
  exact ⟨none, 0, rfl, fun _ _ => rfl, Rd.nil _ _⟩
 ·skip
  have hc' : checkHeardM m hs = 0 := by simpa using hc
  obtain ⟨M, hl5, X⟩ := checkHeard_zero hc'
  refine qP ?_
  refine qE ?_
  refine qC rfl ?_
  refine wH 0 (vs := [.int .i64 _, .int .i64 _, .int .i64 _, .int .i64 _, .int .i64 _, .slice _ _ _, .slice _ _ _, .slice _ _ _, .slice _ _ _]) rfl rfl rfl rfl rfl ?_
  refine qA (qD (v := .slice _ _ _) rfl) ?_
  refine qV (caps := []) (vs := [.agg #[.int .i64 _, .int .i64 _, .int .i64 _, .int .i64 _, .int .i64 _, .slice _ _ _, .slice _ _ _, .slice _ _ _, .slice _ _ _], .slice _ _ _]) rfl rfl rfl (suspects_ok hph m M hs X HN.1 AB AQ AL AW UA cB cQ cL cW cU cs h3 (RM.ext E3) (R.ext E3) (EL.ext TU.mono E3)) ?_
  rintro _ h4 E4 ⟨SA, cS, rfl, RS⟩
  refine qA (qF (v := .slice _ _ _) rfl) ?_
  refine qE ?_
  refine qE ?_
  refine qC rfl ?_
  refine qA (qD (v := .slice _ _ _) rfl) ?_
  refine qA (wP rfl rfl) ?_
  refine qA (qJ (v := .bool _) rfl) ?_
  refine wA rfl (fun hz => ?_) (fun hz => ?_)
  ·skip
   have hz' : (suspectsM m hs).length = 0 := by simpa using hz
   have e : suspE m hs = 11 := by rw [suspE, if_neg (by simp [hc']), if_pos hz']
   refine qE ?_
   refine qC rfl ?_
   refine qA (qF (v := .slice _ _ _) rfl) ?_
   refine qA (qF (v := .int .i64 _) rfl) ?_
   refine wD ?_
   refine qS (vs := [_, _]) Tryd.results20 ⟨qM rfl rfl, qM rfl rfl, trivial⟩ fun V => ?_
   refine ⟨(zL (zL E3 E4) (qZ V)), .slice none 0 0, by rw [e]; rfl, ?_⟩
   rw [suspL, e, if_neg (by decide)]
   exact ⟨none, 0, rfl, fun _ _ => rfl, Rd.nil _ _⟩
  ·skip
   have hz' : ¬ (suspectsM m hs).length = 0 := by simpa using hz
   have e : suspE m hs = 0 := by rw [suspE, if_neg (by simp [hc']), if_neg hz']
   refine qP ?_
   refine qE ?_
   refine qC rfl ?_
   refine qA (qD (v := .slice _ _ _) rfl) ?_
   refine qA (qF (v := .slice _ _ _) rfl) ?_
   refine qA (qF (v := .int .i64 _) rfl) ?_
   refine wD ?_
   refine qS (vs := [_, _]) Tryd.results20 ⟨qM rfl rfl, qM rfl rfl, trivial⟩ fun V => ?_
   refine ⟨(zL (zL E3 E4) (qZ V)), .slice SA (suspectsM m hs).length cS, by rw [e]; rfl, ?_⟩
   rw [suspL, e, if_pos rfl]
   exact ⟨SA, cS, rfl, RS.ext (qZ V)⟩
end
end Go.Proofs.YtmpahfdiebhdbaaDoor
namespace Go.Proofs.YtmpahfdiebhdbaaDoor
open Go Go.HL Go.Proofs Go.Wx Go.Rd
section
variable [Lvl]
set_option maxRecDepth 100000
theorem intP2 (x : Int) : (intC x).all plainB = true := rfl
theorem cloneIntF (l : List Int) (A : Option Addr) (c : Nat) (h : AH) (R : Row h 1 intC A l) (hl : l.length < 2 ^ 20) :
  FnM Tryd.prog (.func (.func 54) #[] ([] : List Value).toArray) [.slice A l.length c] h [] (fun v h' M' => ∃ p, M' = [p] ∧ ∃ a : Acc, p = a.p ∧ v = .slice a.A a.n a.c ∧ AccR 3 1 (l.flatMap intC) a) := by
 cases A with
 | none =>
  have h0 := R.none_nil (by omega)
  subst h0
  refine fnM_body rfl rfl Tryd.func54 rfl Tryd.ntmps54 rfl ?_
  refine qE ?_
  refine qC rfl ?_
  refine qA (qF (v := .slice _ _ _) rfl) ?_
  refine qE ?_
  refine qE ?_
  refine qC rfl ?_
  refine qA (qD (v := .slice _ _ _) rfl) ?_
  refine qA (qJ (v := .bool _) rfl) ?_
  refine wA rfl (fun ht => ?_) (fun ht => ?_)
  ·skip
   refine qE ?_
   refine qC rfl ?_
   refine qA (qF (v := .slice _ _ _) rfl) ?_
   refine wD ?_
   refine qS (vs := [_]) Tryd.results54 ⟨qM rfl rfl, trivial⟩ fun V => ?_
   exact ⟨_, [none], rfl, V, (Ext.refl _), none, rfl, acc0, rfl, rfl, accR0⟩
  ·cases ht
 | some a =>
  refine fnM_body rfl rfl Tryd.func54 rfl Tryd.ntmps54 rfl ?_
  refine qE ?_
  refine qC rfl ?_
  refine qA (qF (v := .slice _ _ _) rfl) ?_
  refine qE ?_
  refine qE ?_
  refine qC rfl ?_
  refine qA (qD (v := .slice _ _ _) rfl) ?_
  refine qA (qJ (v := .bool _) rfl) ?_
  refine wA rfl (fun ht => ?_) (fun ht => ?_)
  ·cases ht
  ·skip
   refine qP ?_
   refine qE ?_
   refine qC rfl ?_
   refine qK (zc := [_]) (vs := []) (cs := []) rfl rfl rfl rfl rfl rfl rfl fun b5 hb5 => ?_
   refine qH [_] rfl ?_
   refine qA (qD (v := .slice _ _ _) rfl) ?_
   refine zF 0 accR_new rfl rfl rfl (fun V => R.2.ext (qZ V)) (zE R.1) (flat_plain intP2 l) rfl rfl rfl rfl rfl rfl rfl (by omega) rfl (by rw [zE R.1, List.length_nil]; omega) fun a2 h1a E1a ha2 => ?_
   refine qH [_] rfl ?_
   refine qA (qF (v := .slice _ _ _) rfl) ?_
   refine wD ?_
   refine qS (vs := [_]) Tryd.results54 ⟨qM rfl rfl, trivial⟩ fun V => ?_
   exact ⟨_, [_], rfl, V, E1a, _, rfl, a2, rfl, rfl, ha2⟩
theorem cloneInt_ok (l : List Int) (A : Option Addr) (c : Nat) (h : AH) (R : Row h 1 intC A l) (hl : l.length < 2 ^ 20) :
  FnT Tryd.prog 54 #[.slice A l.length c] h (fun v h' => SlR h' 1 intC l v) := by
 cases A with
 | none =>
  have h0 := R.none_nil (by omega)
  subst h0
  refine wL Tryd.func54 rfl Tryd.ntmps54 rfl ?_
  refine qE ?_
  refine qC rfl ?_
  refine qA (qF (v := .slice _ _ _) rfl) ?_
  refine qE ?_
  refine qE ?_
  refine qC rfl ?_
  refine qA (qD (v := .slice _ _ _) rfl) ?_
  refine qA (qJ (v := .bool _) rfl) ?_
  refine wA rfl (fun ht => ?_) (fun ht => ?_)
  ·skip
   refine qE ?_
   refine qC rfl ?_
   refine qA (qF (v := .slice _ _ _) rfl) ?_
   refine wD ?_
   refine qS (vs := [_]) Tryd.results54 ⟨qM rfl rfl, trivial⟩ fun V => ?_
   exact ⟨(qZ V), none, 0, rfl, ⟨fun _ _ => rfl, Rd.nil _ _⟩⟩
  ·cases ht
 | some a =>
  refine wL Tryd.func54 rfl Tryd.ntmps54 rfl ?_
  refine qE ?_
  refine qC rfl ?_
  refine qA (qF (v := .slice _ _ _) rfl) ?_
  refine qE ?_
  refine qE ?_
  refine qC rfl ?_
  refine qA (qD (v := .slice _ _ _) rfl) ?_
  refine qA (qJ (v := .bool _) rfl) ?_
  refine wA rfl (fun ht => ?_) (fun ht => ?_)
  ·cases ht
  ·skip
   refine qP ?_
   refine qE ?_
   refine qC rfl ?_
   refine qK (zc := [_]) (vs := []) (cs := []) rfl rfl rfl rfl rfl rfl rfl fun b5 hb5 => ?_
   refine qH [_] rfl ?_
   refine qA (qD (v := .slice _ _ _) rfl) ?_
   refine zF 0 accR_new rfl rfl rfl (fun V => R.2.ext (qZ V)) (zE R.1) (flat_plain intP2 l) rfl rfl rfl rfl rfl rfl rfl (by omega) rfl (by rw [zE R.1, List.length_nil]; omega) fun a2 h1a E1a ha2 => ?_
   refine qH [_] rfl ?_
   refine qA (qF (v := .slice _ _ _) rfl) ?_
   refine wD ?_
   refine qS (vs := [_]) Tryd.results54 ⟨qM rfl rfl, trivial⟩ fun V => ?_
   exact ⟨(zL E1a (qZ V)), AccP.row (i := 0) ha2 (by omega) (fun _ _ => rfl) V rfl⟩
theorem fnM_args {P : Program} {y : Value} {vs vs' : List Value} {h : AH} {M : Pv} {R : Value → AH → Pv → Prop} (e : vs = vs') (c : FnM P y vs h M R) : FnM P y vs' h M R := e ▸ c
def TI (h : AH) (x : List Int) (v : Value) : Prop := SlR h 1 intC x v
structure ChoB (h : AH) (n : Nat) (y : Value) (b1 b2 b3 : Nat) : Prop where
 c1 : h b1 = some (.cells #[.int .i64 n] 3 (0, 0))
 c2 : ∃ t, h b2 = some (.cells #[y] t (0, 0))
 c3 : ∃ t, h b3 = some (.cells #[.func (.func 53) #[] #[.pointer (some ⟨b2, 0, none⟩), .pointer (some ⟨b1, 0, none⟩), .pointer (some ⟨b3, 0, none⟩)]] t (0, 0))
theorem ChoB.ext {h h' : AH} {n : Nat} {y : Value} {b1 b2 b3 : Nat} (B : ChoB h n y b1 b2 b3) (E : Ext h h') : ChoB h' n y b1 b2 b3 :=
 ⟨E _ _ B.c1, B.c2.imp fun _ e => E _ _ e, B.c3.imp fun _ e => E _ _ e⟩
def From (l : List Int) (a : Nat) : Prop := (l = [] ∧ a = 0) ∨ ∃ (l0 : List Int) (i : Nat), l = l0 ++ [(i : Int)] ∧ a = i + 1
set_option maxHeartbeats 4000000 in
theorem grow_ok (n : Nat) (hn : n ≤ 30) (all : List (List Int)) (y : Value) (I : Nat → AH → Pv → Prop) (F : AH → Pv → Prop) (hI : ∀ k h h' M, Ext h h' → I k h M → I k h' M) (hF : ∀ h h' M, Ext h h' → F h M → F h' M) (Y : YieldsS Tryd.prog y all TI I F) (b1 b2 b3 : Nat) :
  ∀ (m a : Nat) (l : List Int) (B : Option Addr) (cB k : Nat) (h : AH) (M : Pv), ChoB h n y b1 b2 b3 → Row h 1 intC B l → l.length + m ≤ 40 → From l a → a ≤ 40 → I k h M → (∀ j s, (choM n m a l)[j]? = some s → all[k + j]? = some s) →
   FnM Tryd.prog (.func (.func 53) #[] [.pointer (some ⟨b2, 0, none⟩), .pointer (some ⟨b1, 0, none⟩), .pointer (some ⟨b3, 0, none⟩)].toArray) [.slice B l.length cB, .int .i64 m] h M (fun v h' M' => (v = .bool true ∧ I (k + (choM n m a l).length) h' M') ∨ (v = .bool false ∧ F h' M')) := by
 intro m
 induction m with
 | zero =>
  intro a l B cB k h M CB RB hlm hfr ha hi hall
  obtain ⟨t2, c2⟩ := CB.c2
  refine fnM_body rfl rfl Tryd.func53 rfl Tryd.ntmps53 rfl ?_
  refine goes_front ?_
  refine qE ?_
  refine qC rfl ?_
  refine qA (qF (v := .bool _) rfl) ?_
  refine qE ?_
  refine qE ?_
  refine qC rfl ?_
  refine qA (qD (v := .int .i64 _) rfl) ?_
  refine qA (qJ (v := .bool _) rfl) ?_
  refine wY rfl (rfl) ?_
  refine qE ?_
  refine xp_dw [] rfl rfl rfl ?_
  refine wQ (i := 0) rfl (by decide +kernel) ?_
  refine wT (v := y) rfl rfl (by simp only [cellA, c2]; rfl) ?_
  refine qO (i := 1) rfl (by decide +kernel) (qD (v := .slice _ _ _) rfl) ?_
  refine dw_eff (i := 2) rfl (by decide +kernel) ?_
  refine qV (caps := []) (vs := [.slice _ _ _]) rfl rfl rfl (cloneInt_ok l B cB h RB (by omega)) ?_
  rintro _ h1 E1 S1
  refine ⟨ext_wlm E1 _, ?_⟩
  obtain ⟨A1, c1, rfl, R1⟩ := id S1
  refine dw_last (i := 3) rfl (by decide +kernel) (by decide +kernel) ?_
  refine op_fnM [_] _ (vs := _) rfl rfl rfl (Y k l _ h1 M (by have := hall 0 l rfl; simpa using this) S1 (hI _ _ _ _ E1 hi)) ?_
  rintro r h2 M2 E2 hr
  rcases hr with ⟨rfl, i2⟩ | ⟨rfl, f2⟩
  ·skip
   refine qO (i := 4) rfl (by decide +kernel) (qF (v := .bool _) rfl) ?_
   refine dw_end rfl ?_
   refine wD ?_
   refine qS (vs := [_]) Tryd.results53 ⟨qM rfl rfl, trivial⟩ fun V => ?_
   obtain ⟨h9, E9, e9, V9⟩ := wl_shed [_] _ V
   exact ⟨h9, _, e9, V9, zL (zL E1 E2) E9, .inl ⟨rfl, hI _ _ _ _ E9 i2⟩⟩
  ·skip
   refine qO (i := 4) rfl (by decide +kernel) (qF (v := .bool _) rfl) ?_
   refine dw_end rfl ?_
   refine wD ?_
   refine qS (vs := [_]) Tryd.results53 ⟨qM rfl rfl, trivial⟩ fun V => ?_
   obtain ⟨h9, E9, e9, V9⟩ := wl_shed [_] _ V
   exact ⟨h9, _, e9, V9, zL (zL E1 E2) E9, .inr ⟨rfl, hF _ _ _ E9 f2⟩⟩
 | succ m ih =>
  intro a l B cB k h M CB RB hlm hfr ha hi hall
  obtain ⟨t3, c3⟩ := CB.c3
  refine fnM_body rfl rfl Tryd.func53 rfl Tryd.ntmps53 rfl ?_
  refine goes_front ?_
  refine qE ?_
  refine qC rfl ?_
  refine qA (qF (v := .bool _) rfl) ?_
  refine qE ?_
  refine qE ?_
  refine qC rfl ?_
  refine qA (qD (v := .int .i64 _) rfl) ?_
  refine qA (qJ (v := .bool _) rfl) ?_
  refine wO rfl (by simp; omega) ?_
  refine qP ?_
  refine qE ?_
  refine qC rfl ?_
  refine qA (qF (v := .int .i64 _) rfl) ?_
  refine xp_cutB [8, 16, 17, 18, 19, 20, 21, 22, 23, 24, 25] (M.length + 1) (α := Unit) (fun u => [(8, .int .i64 (a : Int))]) (fun u L => L) (fun u h_u => True) ?_ ?_
  ·skip
   refine qE ?_
   refine qC rfl ?_
   refine qA (qD (v := .slice _ _ _) rfl) ?_
   refine qA (wP rfl rfl) ?_
   refine qA (qJ (v := .bool _) rfl) ?_
   rcases hfr with ⟨rfl, rfl⟩ | ⟨l0, i0, rfl, rfl⟩
   ·skip
    refine wO rfl (rfl) ?_
    refine qP ?_
    refine ⟨(), ⟨rfl, trivial⟩, rfl, by simp, (Ext.refl _), fun h3 E3 => by first | trivial | omega | (refine ⟨?_, ?_⟩ <;> omega), ?_⟩
    repeat (first | exact zG _ _ | exact wK _ _ _ | refine wM (by decide) ?_ | refine wJ rfl ?_ | refine wN rfl ?_)
   ·skip
    have hl0 : (l0 ++ [(i0 : Int)]).length = l0.length + 1 := by simp
    have hx : l0.length < (l0 ++ [(i0 : Int)]).length := by omega
    have hix : (((l0 ++ [(i0 : Int)]).length : Int) - 1).toNat = l0.length := by omega
    have hge : (l0 ++ [(i0 : Int)])[l0.length] = (i0 : Int) := by simp
    obtain ⟨g, off, hA, hc⟩ := RB.at (by omega) hx
    rw [hge] at hc
    have hc : Cells h g (off + (((l0 ++ [(i0 : Int)]).length : Int) - 1).toNat * 1) (intC (i0 : Int)) := by rw [hix]; exact hc
    refine wY rfl (by simp) ?_
    refine qC rfl ?_
    refine qA (qD (v := .slice _ _ _) rfl) ?_
    refine qA (qD (v := .slice _ _ _) rfl) ?_
    refine qA (wP rfl rfl) ?_
    refine qA (qX rfl (by omega)) ?_
    refine qA (wU rfl hA rfl rfl rfl (by omega) (by omega)) ?_
    refine wT (v := .int .i64 _) rfl rfl ((hc) 0 _ rfl) ?_
    refine qA (qX rfl (by omega)) ?_
    refine qA (qF (v := .int .i64 _) rfl) ?_
    refine ⟨(), ⟨rfl, trivial⟩, rfl, by simp, (Ext.refl _), fun h3 E3 => by first | trivial | omega | (refine ⟨?_, ?_⟩ <;> omega), ?_⟩
    repeat (first | exact zG _ _ | exact wK _ _ _ | refine wM (by decide) ?_ | refine wJ rfl ?_ | refine wN rfl ?_)
  ·rintro u T1 h_u E_u J_u
   refine wE (_ :: _) rfl ?_
   have hi := hI _ _ _ _ E_u hi
   have CB := CB.ext E_u
   have RB := RB.ext E_u
   have c3 := E_u _ _ c3
   obtain ⟨f, hfd⟩ : ∃ f, f = fun i : Nat => choM n m (i + 1) (l ++ [(i : Int)]) := ⟨_, rfl⟩
   have hcm : choM n (m + 1) a l = choP f a (n - a) := by rw [hfd]; rfl
   rw [hcm] at hall ⊢
   refine qE ?_
   refine qE ?_
   refine qC rfl ?_
   refine qA (qD (v := .int .i64 _) rfl) ?_
   refine qA (qF (v := .int .i64 _) rfl) ?_
   refine qT ?_
   refine xp_loopN [7, 9, 27, 28, 29, 30, 31, 32, 33, 34, 35, 36, 37, 38, 39, 40, 41] (α := Nat × Pv) (fun ⟨d, M'⟩ => [(9, .int .i64 ((a + d : Nat) : Int))]) (fun ⟨d, M'⟩ => none :: M') (fun ⟨d, M'⟩ h_d => d ≤ n - a ∧ I (k + (choP f a d).length) h_d M') (fun ⟨d, M'⟩ => n - a - d) ((0, M)) ⟨rfl, trivial⟩ (rfl) (⟨Nat.zero_le _, by rw [choP_zero]; exact hi⟩) ?_
   rintro ⟨d, M'⟩ T2 h_d E_d J_d
   refine wE (_ :: _) rfl ?_
   obtain ⟨K1, K2⟩ := J_d
   have CB' := CB.ext E_d
   refine qE ?_
   refine qE ?_
   refine qC rfl ?_
   refine qA (qD (v := .int .i64 _) rfl) ?_
   refine wT (v := .int .i64 n) rfl rfl (by simp only [cellA, CB'.c1]; rfl) ?_
   refine qA (qJ (v := .bool _) rfl) ?_
   refine wA rfl (fun hd => ?_) (fun hd => ?_)
   ·skip
    have hdl : a + d < n := ltI hd
    refine qP ?_
    refine qE ?_
    refine qT ?_
    refine qE ?_
    refine xp_dw [true] rfl rfl rfl ?_
    refine wQ (i := 0) rfl (by decide +kernel) ?_
    refine wT (v := .func _ _ _) rfl rfl (by simp only [cellA, E_d _ _ c3]; rfl) ?_
    refine qO (i := 1) rfl (by decide +kernel) (qD (v := .slice _ _ _) rfl) ?_
    refine qO (i := 3) rfl (by decide +kernel) (qD (v := .int .i64 _) rfl) ?_
    refine qO (i := 6) rfl (by decide +kernel) (qD (v := .int .i64 _) rfl) ?_
    refine qO (i := 7) rfl (by decide +kernel) (qX rfl (by omega)) ?_
    refine dw_eff (i := 2) rfl (by decide +kernel) ?_
    refine op_fnF 0 rfl rfl rfl (cloneIntF l B cB h_d (RB.ext E_d) (by omega)) ?_
    rintro _ h5 _ V5 E5 ⟨a1, rfl, rfl, ha1⟩
    refine ⟨ext_wlm E5 _, ?_⟩
    refine zI (_ :: _) rfl ?_
    refine dw_eff (i := 4) rfl (by decide +kernel) ?_
    refine op_open ?_
    refine qK (m := 1) (zc := [_]) (vs := [(_, .int .i64 _)]) (cs := [_]) rfl rfl rfl rfl rfl rfl rfl fun b36 hb36 => ?_
    refine ⟨rfl, _, _, rfl, fun h6 E6 hb6 => ?_⟩
    refine ⟨ext_wlm E6 _, ?_⟩
    refine dw_eff (i := 5) rfl (by decide +kernel) ?_
    refine zF 0 ha1 rfl rfl rfl (fun V => (row_one hb6).2.ext (qZ V)) rfl rfl rfl rfl rfl rfl rfl rfl rfl (by omega) rfl (by rw [zE (m := 1) (fun _ _ => rfl)]; simp [intC]; omega) fun a2 h3a E3a ha2 => ?_
    refine ⟨ext_wlm E3a _, ?_⟩
    refine zI (_ :: _) rfl ?_
    have hfm : l.flatMap intC ++ [Value.int .i64 ((a + d : Nat) : Int)] = (l ++ [((a + d : Nat) : Int)]).flatMap intC := by rw [List.flatMap_append]; rfl
    obtain ⟨gb, len2, cap2, junk2, hl2, rfl⟩ := AccR.some ha2 (by simp [intC])
    have e2 : len2 = (l ++ [((a + d : Nat) : Int)]).length := by rw [show List.flatMap intC [((a + d : Nat) : Int)] = [Value.int .i64 ((a + d : Nat) : Int)] from rfl, hfm, zE (m := 1) (fun _ _ => rfl)] at hl2; omega
    subst e2
    refine dw_pubM 0 rfl ?_
    intro h7 E7 p7
    refine zI (_ :: _) rfl ?_
    have R2 : Row h7 1 intC (some ⟨gb, 0, none⟩) (l ++ [((a + d : Nat) : Int)]) := ⟨fun _ _ => rfl, by rw [← hfm]; exact AccR.rd ha2 (fun b o e => by cases e; exact p7)⟩
    refine dw_last (i := 8) rfl (by decide +kernel) (by decide +kernel) ?_
    refine op_fnM [_] _ (vs := [.slice _ _ _, .int .i64 _]) rfl rfl rfl (fnM_args (by simp only [List.cons.injEq, Value.int.injEq, true_and, and_true]; omega) (ih (a + d + 1) (l ++ [((a + d : Nat) : Int)]) _ cap2 (k + (choP f a d).length) h7 M' (CB.ext (zL (zL (zL (zL E_d E5) E6) E3a) E7)) R2 (by simp; omega) (.inr ⟨l, a + d, rfl, rfl⟩) (by omega) (hI _ _ _ _ (zL (zL (zL E5 E6) E3a) E7) K2) (fun j s hj => by rw [Nat.add_assoc]; exact hall _ s (choP_at (by omega) (by rw [hfd]; exact hj))))) ?_
    rintro r h8 M8 E8 hr
    have hfl : f (a + d) = choM n m (a + d + 1) (l ++ [((a + d : Nat) : Int)]) := by rw [hfd]
    rcases hr with ⟨rfl, i2⟩ | ⟨rfl, f2⟩
    ·skip
     refine qO (i := 9) rfl (by decide +kernel) (qJ (v := .bool _) rfl) ?_
     refine dw_end rfl ?_
     refine wO rfl (rfl) ?_
     refine qP ?_
     refine qC rfl ?_
     refine qA (qD (v := .int .i64 _) rfl) ?_
     refine qA (qX rfl (by omega)) ?_
     refine qA (qF (v := .int .i64 _) rfl) ?_
     refine ⟨(d + 1, M8), ⟨intE (by omega), trivial⟩, rfl, rfl, (zL (zL (zL (zL (zL E_d E5) E6) E3a) E7) E8), ⟨by omega, by rw [choP_succ, List.length_append, ← Nat.add_assoc, hfl]; exact i2⟩, by first | omega | (dsimp only; omega), ?_⟩
     repeat (first | exact wK _ _ _ | refine wM (by decide) ?_ | refine wJ rfl ?_ | refine wN rfl ?_)
    ·skip
     refine qO (i := 9) rfl (by decide +kernel) (qJ (v := .bool _) rfl) ?_
     refine dw_end rfl ?_
     refine wY rfl (rfl) ?_
     refine qE ?_
     refine qC rfl ?_
     refine qA (qF (v := .bool _) rfl) ?_
     refine wD ?_
     refine qS (vs := [_]) Tryd.results53 ⟨qM rfl rfl, trivial⟩ fun V => ?_
     obtain ⟨h9, E9, e9, V9⟩ := wl_shed [_] _ V
     exact ⟨h9, _, e9, V9, zL (zL E_u (zL (zL (zL (zL (zL E_d E5) E6) E3a) E7) E8)) E9, .inr ⟨rfl, hF _ _ _ E9 f2⟩⟩
   ·skip
    have hde : d = n - a := by have := geI hd; omega
    subst hde
    refine zA ?_
    refine qE ?_
    refine qC rfl ?_
    refine qA (qF (v := .bool _) rfl) ?_
    refine wD ?_
    refine qS (vs := [_]) Tryd.results53 ⟨qM rfl rfl, trivial⟩ fun V => ?_
    obtain ⟨h9, E9, e9, V9⟩ := wl_shed [_] _ V
    exact ⟨h9, _, e9, V9, zL (zL E_u E_d) E9, .inl ⟨rfl, hI _ _ _ _ E9 K2⟩⟩
theorem choices1_ok (n : Nat) (hn : n ≤ 30) (b1 : Nat) (h0 : AH) (c1 : h0 b1 = some (.cells #[.int .i64 n] 3 (0, 0))) :
  IterS Tryd.prog (.func (.func 52) #[] #[.pointer (some ⟨b1, 0, none⟩)]) h0 (setsM n) TI := by
 intro fn fs cs I F hI hF Y h M E0 hi
 refine fnM_body (caps := [.pointer (some ⟨b1, 0, none⟩)]) rfl rfl Tryd.func52 rfl Tryd.ntmps52 rfl ?_
 refine goes_front ?_
 refine goes_front ?_
 refine qE ?_
 refine qC rfl ?_
 refine op_boxF 0 (v := _) (cs := [_]) rfl rfl rfl fun b2 hb2 => ?_
 refine qH (_ :: _ :: _) rfl ?_
 refine qE ?_
 refine qC rfl ?_
 refine op_allocF 1 (cs := [_]) rfl rfl rfl fun b3 hb3 => ?_
 refine qH (_ :: _ :: _) rfl ?_
 refine qE ?_
 refine qC rfl ?_
 refine qA (pv_makeFunc (vs := []) (ws := [_, _, _]) rfl rfl) ?_
 refine wG 1 (v := _) (vs := [_]) (c' := [_]) rfl rfl rfl rfl rfl rfl rfl rfl rfl ?_
 refine qH (_ :: _ :: _) rfl ?_
 refine qE ?_
 refine qC rfl ?_
 refine wp_pub 0 rfl rfl ?_
 intro h2 E2 p2
 refine qH (_ :: _ :: _) rfl ?_
 refine wp_pub 1 rfl rfl ?_
 intro h3 E3 p3
 refine qH (_ :: _ :: _) rfl ?_
 have C1 := E3 _ _ (E2 _ _ (E0 _ _ c1))
 have CB : ChoB h3 n (.func fn fs cs) b1 b2 b3 := ⟨C1, ⟨_, E3 _ _ p2⟩, ⟨_, p3⟩⟩
 refine wT (v := .int .i64 n) rfl rfl (by simp only [cellA, C1]; rfl) ?_
 refine qA (qX rfl (by omega)) ?_
 refine qA (qD (v := .int .i64 _) rfl) ?_
 refine qT ?_
 refine xp_loopN [4, 8, 9, 10, 11, 12, 13, 14, 15] (α := Nat × Pv) (fun ⟨d, M'⟩ => [(8, .int .i64 d)]) (fun ⟨d, M'⟩ => none :: none :: M') (fun ⟨d, M'⟩ h_d => d ≤ n + 1 ∧ I (choP (fun m => choM n m 0 []) 0 d).length h_d M') (fun ⟨d, M'⟩ => n + 1 - d) ((0, M)) ⟨rfl, trivial⟩ (rfl) (⟨Nat.zero_le _, hI _ _ _ _ (zL E2 E3) hi⟩) ?_
 rintro ⟨d, M'⟩ T1 h_d E_d J_d
 refine wE (_ :: _ :: _) rfl ?_
 obtain ⟨K1, K2⟩ := J_d
 have CB' := CB.ext E_d
 refine qE ?_
 refine qC rfl ?_
 refine qA (qJ (v := .bool _) rfl) ?_
 refine qE ?_
 refine wA rfl (fun hd => ?_) (fun hd => ?_)
 ·skip
  have hdl : d < n + 1 := by have := of_decide_eq_true hd; omega
  obtain ⟨t3, c3⟩ := CB'.c3
  refine qP ?_
  refine qE ?_
  refine qT ?_
  refine qE ?_
  refine qC rfl ?_
  refine qA (qD (v := .int .i64 _) rfl) ?_
  refine qA (qF (v := .int .i64 _) rfl) ?_
  refine qE ?_
  refine qC rfl ?_
  refine wT (v := .func _ _ _) rfl rfl (by simp only [cellA, c3]; rfl) ?_
  refine qA (qD (v := .int .i64 _) rfl) ?_
  refine op_fnM [_, _] _ (vs := [.slice _ _ _, .int .i64 _]) rfl rfl rfl (grow_ok n hn (setsM n) _ I F hI hF Y b1 b2 b3 d 0 [] none 0 (choP (fun m => choM n m 0 []) 0 d).length h_d M' CB' (row_nil _ _) (by simp; omega) (.inl ⟨rfl, rfl⟩) (by omega) K2 (fun j s hj => choP_at (f := fun m => choM n m 0 []) (by omega) (by simpa using hj))) ?_
  rintro r h8 M8 E8 hr
  rcases hr with ⟨rfl, i2⟩ | ⟨rfl, f2⟩
  ·skip
   refine qA (qJ (v := .bool _) rfl) ?_
   refine wO rfl (rfl) ?_
   refine qP ?_
   refine qC rfl ?_
   refine qA (qX rfl (by omega)) ?_
   refine qA (qD (v := .int .i64 _) rfl) ?_
   refine ⟨(d + 1, M8), ⟨rfl, trivial⟩, rfl, rfl, (zL E_d E8), ⟨by omega, by rw [choP_succ, List.length_append, Nat.zero_add]; exact i2⟩, by first | omega | (dsimp only; omega), ?_⟩
   repeat (first | exact wK _ _ _ | refine wM (by decide) ?_ | refine wJ rfl ?_ | refine wN rfl ?_)
  ·skip
   refine qA (qJ (v := .bool _) rfl) ?_
   refine wY rfl (rfl) ?_
   refine wD ?_
   refine qS (vs := []) Tryd.results52 trivial fun V => ?_
   obtain ⟨h9, E9, e9, V9⟩ := wl_shed [_, _] _ V
   exact ⟨h9, _, e9, V9, zL (zL (zL (zL E2 E3) E_d) E8) E9, .inr (hF _ _ _ E9 f2)⟩
 ·skip
  have hde : d = n + 1 := by have := of_decide_eq_false hd; omega
  subst hde
  refine zA ?_
  refine qS (vs := []) Tryd.results52 trivial fun V => ?_
  obtain ⟨h9, E9, e9, V9⟩ := wl_shed [_, _] _ V
  exact ⟨h9, _, e9, V9, zL (zL (zL E2 E3) E_d) E9, .inl (hI _ _ _ _ E9 K2)⟩
theorem choices_ok (n : Nat) (hn : n ≤ 30) (n' : Int) (en : n' = n) (h : AH) :
  FnT Tryd.prog 33 #[.int .i64 n'] h (fun v h' => IterS Tryd.prog v h' (setsM n) TI) := by
 subst en
 refine wL Tryd.func33 rfl Tryd.ntmps33 rfl ?_
 refine qE ?_
 refine qC rfl ?_
 refine op_box (v := .int .i64 _) (cs := [_]) rfl rfl fun b1 hb1 => ?_
 refine qH [_] rfl ?_
 refine qA (qF (v := _) rfl) ?_
 refine qE ?_
 refine qC rfl ?_
 refine qA (pv_makeFunc (vs := []) (ws := [_]) rfl rfl) ?_
 refine qA (qF (v := _) rfl) ?_
 refine wD ?_
 refine qS (vs := [_]) Tryd.results33 ⟨qM rfl rfl, trivial⟩ fun V => ?_
 exact ⟨(qZ V), choices1_ok n hn b1 _ (zC V (i := 0) rfl)⟩
end
end Go.Proofs.YtmpahfdiebhdbaaDoor
namespace Go.HL
open Go
variable [Lvl]
section
variable {P : Program} {n : Nat} {ops : Array Oper} {d : Option Tmp} {op : Op} {ty : TypeId} {ps : String} {af : Array Edge} {os : List Oper} {K : Sl → Pv → AH → Prop} {E : Value → Sl → Pv → AH → Prop} {S : Sl} {L : Pv} {h : AH}
end
end Go.HL
namespace Go.HL
open Go
variable [Lvl]
end Go.HL
namespace Go.Proofs.YtmpahfdiebhdbaaDoor
open Go Go.HL Go.Proofs Go.Wx Go.Rd
section
variable [Lvl]
set_option maxRecDepth 100000
theorem boolI {p q : Bool} (e : p = true ↔ q = true) : Value.bool p = Value.bool q := by rw [Bool.eq_iff_iff.2 e]
theorem sameInts_ok (a b : List Int) (A B : Option Addr) (ca cb : Nat) (h : AH) (Ra : Row h 1 intC A a) (Rb : Row h 1 intC B b) (ha : a.length < 2 ^ 40) :
  FnT Tryd.prog 9 #[.slice A a.length ca, .slice B b.length cb] h (fun v _ => v = .bool (decide (a = b))) := by
 refine wL Tryd.func9 rfl Tryd.ntmps9 rfl ?_
 refine qE ?_
 refine qC rfl ?_
 refine qA (qF (v := .bool _) rfl) ?_
 refine qE ?_
 refine qC rfl ?_
 refine qA (qD (v := .slice _ _ _) rfl) ?_
 refine qA (wP rfl rfl) ?_
 refine qA (qD (v := .slice _ _ _) rfl) ?_
 refine qA (wP rfl rfl) ?_
 refine qA (qJ (v := .bool _) rfl) ?_
 refine qA (qF (v := .bool _) rfl) ?_
 refine qE ?_
 refine qE ?_
 refine qC rfl ?_
 refine qA (qF (v := .int .i64 _) rfl) ?_
 refine qT ?_
 refine xp_loopM [5, 6, 12, 13, 14, 15, 16, 17, 18, 19, 20, 21, 22, 23, 24, 25, 26, 27, 28, 29] 0 (fun k : Nat => [(5, .bool (decide (a.length = b.length ∧ a.take k = b.take k))), (6, .int .i64 k)]) (fun k D L h' => D = [] ∧ k ≤ a.length ∧ Ext h h' ∧ L = []) (fun k => a.length - k) 0 ⟨by refine boolI ?_; simp; omega, rfl, trivial⟩ ⟨rfl, Nat.zero_le _, Ext.refl h, rfl⟩ ?_
 rintro k T D' L' h' ⟨rfl, hk, E, rfl⟩
 refine qE ?_
 refine qE ?_
 refine qC rfl ?_
 refine qA (qD (v := .bool _) rfl) ?_
 refine qA (qD (v := .bool _) rfl) ?_
 by_cases hp : a.length = b.length ∧ a.take k = b.take k
 ·have hb : decide (a.length = b.length ∧ a.take k = b.take k) = true := by simpa using hp
  refine qG rfl hb ?_
  refine qA (qD (v := .int .i64 _) rfl) ?_
  refine qG rfl hb ?_
  refine qA (qD (v := .slice _ _ _) rfl) ?_
  refine qG rfl hb ?_
  refine qA (wP rfl rfl) ?_
  refine qG rfl hb ?_
  refine qA (qJ (v := .bool _) rfl) ?_
  refine qA (wV rfl hb (v := .bool _) rfl) ?_
  refine wA rfl (fun ht => ?_) (fun ht => ?_)
  ·skip
   have hlt : k < a.length := by simpa using ht
   have hlt2 : k < b.length := by omega
   obtain ⟨g, off, rfl, hc⟩ := (Ra.ext E).at (by omega) hlt
   obtain ⟨g2, off2, rfl, hc2⟩ := (Rb.ext E).at (by omega) hlt2
   refine qP ?_
   refine qE ?_
   refine qT ?_
   refine xp_dw [] rfl rfl rfl ?_
   refine qO (i := 0) rfl (by decide +kernel) (qD (v := .slice _ _ _) rfl) ?_
   refine qO (i := 1) rfl (by decide +kernel) (qD (v := .int .i64 _) rfl) ?_
   refine qO (i := 2) rfl (by decide +kernel) (zJ rfl rfl rfl rfl (by omega) (by omega)) ?_
   refine wQ (i := 3) rfl (by decide +kernel) ?_
   refine wT rfl rfl (hc 0 (.int .i64 a[k]) rfl) ?_
   refine qO (i := 4) rfl (by decide +kernel) (qD (v := .slice _ _ _) rfl) ?_
   refine qO (i := 5) rfl (by decide +kernel) (qD (v := .int .i64 _) rfl) ?_
   refine qO (i := 6) rfl (by decide +kernel) (zJ rfl rfl rfl rfl (by omega) (by omega)) ?_
   refine wQ (i := 7) rfl (by decide +kernel) ?_
   refine wT rfl rfl (hc2 0 (.int .i64 b[k]) rfl) ?_
   refine qO (i := 8) rfl (by decide +kernel) (qJ (v := .bool _) rfl) ?_
   refine qO (i := 9) rfl (by decide +kernel) (qF (v := .bool _) rfl) ?_
   refine dw_end rfl ?_
   refine qC rfl ?_
   refine qA (qD (v := .int .i64 _) rfl) ?_
   refine qA (qX rfl (by omega)) ?_
   refine qA (qF (v := .int .i64 _) rfl) ?_
   refine ⟨k + 1, ⟨?_, rfl, trivial⟩, fun h3 E3 => ⟨rfl, by omega, E.trans E3, rfl⟩, by omega, ?_⟩
   ·refine boolI ?_
    have e1 := List.take_succ_eq_append_getElem hlt
    have e2 := List.take_succ_eq_append_getElem hlt2
    have e3 : (a.length = b.length ∧ b.take k ++ [a[k]] = b.take k ++ [b[k]]) ↔ a[k] = b[k] := ⟨fun e => by have := List.append_cancel_left e.2; injection this, fun e => ⟨hp.1, by rw [e]⟩⟩
    rw [e1, e2, hp.2, decide_eq_true_iff, e3]
    simp
   ·repeat (first | exact wK _ _ _ | refine wM (by decide) ?_ | refine wJ rfl ?_ | refine wN rfl ?_)
  ·skip
   refine zA ?_
   refine qE ?_
   refine qC rfl ?_
   refine qA (qD (v := .bool _) rfl) ?_
   refine qA (qF (v := .bool _) rfl) ?_
   refine wD ?_
   refine qS (vs := [_]) Tryd.results9 ⟨qM rfl rfl, trivial⟩ fun V => ?_
   refine ⟨E.trans (qZ V), boolI ?_⟩
   have : k = a.length := by simp at ht; omega
   subst this
   have h2 := hp.2
   rw [hp.1, List.take_length, ← hp.1, List.take_length] at h2
   simp [h2]
 ·have hb : decide (a.length = b.length ∧ a.take k = b.take k) = false := by simpa using hp
  refine qR rfl hb ?_
  refine qR rfl hb ?_
  refine qR rfl hb ?_
  refine qR rfl hb ?_
  refine qA (wI rfl hb (v := .bool _) rfl) ?_
  refine wA rfl (fun ht => ?_) (fun ht => ?_)
  ·cases ht
  ·skip
   refine zA ?_
   refine qE ?_
   refine qC rfl ?_
   refine qA (qD (v := .bool _) rfl) ?_
   refine qA (qF (v := .bool _) rfl) ?_
   refine wD ?_
   refine qS (vs := [_]) Tryd.results9 ⟨qM rfl rfl, trivial⟩ fun V => ?_
   refine ⟨E.trans (qZ V), boolI ?_⟩
   have : a ≠ b := fun e => hp (by rw [e]; exact ⟨rfl, rfl⟩)
   simp [this]
   exact fun x y => hp ⟨x, y⟩
end
end Go.Proofs.YtmpahfdiebhdbaaDoor
namespace Go.Proofs.YtmpahfdiebhdbaaDoor
open Go Go.HL Go.Proofs Go.Wx Go.Rd
section
variable [Lvl]
set_option maxRecDepth 100000
def pairsM (ls bs : List (List Int)) : List HandP := ls.flatMap fun b => bs.map fun o => ⟨b, o⟩
def handsM (m : MachP) : List HandP := pairsM (setsM m.buttons.length) (setsM m.regs.toNat)
theorem pairs_len (bs : List (List Int)) : ∀ ls : List (List Int), (pairsM ls bs).length = ls.length * bs.length
 | [] => by simp [pairsM]
 | a :: ls => by
  have := pairs_len bs ls
  unfold pairsM at this ⊢
  rw [List.flatMap_cons, List.length_append, this, List.length_map, List.length_cons, Nat.add_mul, Nat.one_mul, Nat.add_comm]
theorem pairs_at {bs : List (List Int)} {j : Nat} {b o : List Int} (h2 : bs[j]? = some o) : ∀ {ls : List (List Int)} {k : Nat}, ls[k]? = some b → (pairsM ls bs)[k * bs.length + j]? = some ⟨b, o⟩
 | [], k, h1 => by simp at h1
 | a :: ls, 0, h1 => by
  simp at h1
  subst h1
  have hj := (List.getElem?_eq_some_iff.1 h2).1
  unfold pairsM
  rw [List.flatMap_cons, List.getElem?_append_left (by simpa using hj)]
  simp [h2]
 | a :: ls, k + 1, h1 => by
  have := pairs_at h2 (ls := ls) (k := k) (by simpa using h1)
  unfold pairsM at this ⊢
  rw [List.flatMap_cons, List.getElem?_append_right (by simp [Nat.add_mul]; omega)]
  rw [show (k + 1) * bs.length + j - (bs.map fun o => (⟨a, o⟩ : HandP)).length = k * bs.length + j by simp [Nat.add_mul]; omega]
  exact this
def TA (h : AH) (a : HandP) (v : Value) : Prop := HandV h a v
set_option maxHeartbeats 4000000 in
theorem hands1_ok (m : MachP) (hb : m.buttons.length ≤ 30) (hr : 0 ≤ m.regs ∧ m.regs ≤ 30) (b1 : Nat) (AB AQ AL AW : Option Addr) (cB cQ cL cW : Nat) (h0 : AH)
  (CM : Cells h0 b1 0 [.int .i64 m.rods, .int .i64 m.levers, .int .i64 m.regs, .int .i64 m.travel, .int .i64 m.opn, .slice AB m.buttons.length cB, .slice AQ m.pins.length cQ, .slice AL m.links.length cL, .slice AW m.weights.length cW]) :
  IterS Tryd.prog (.func (.func 65) #[] #[.pointer (some ⟨b1, 0, none⟩)]) h0 (handsM m) TA := by
 intro fn fs cs I F hI hF Y h M E0 hi
 obtain ⟨R, hR⟩ : ∃ R, R = (setsM m.regs.toNat).length := ⟨_, rfl⟩
 refine fnM_body (caps := [.pointer (some ⟨b1, 0, none⟩)]) rfl rfl Tryd.func65 rfl Tryd.ntmps65 rfl ?_
 refine goes_front ?_
 refine goes_front ?_
 refine qE ?_
 refine qC rfl ?_
 refine op_boxF 0 (v := _) (cs := [_]) rfl rfl rfl fun b2 hb2 => ?_
 refine qH (_ :: _ :: _) rfl ?_
 refine qE ?_
 refine qC rfl ?_
 refine qA (qI rfl rfl rfl rfl _ rfl) ?_
 refine wp_pub 0 rfl rfl ?_
 intro h2 E2 p2
 refine qH (_ :: _ :: _) rfl ?_
 have CM2 := CM.ext (E0.trans E2)
 refine wT (v := .slice AB m.buttons.length cB) rfl rfl (CM2 5 _ rfl) ?_
 refine qA (wP rfl rfl) ?_
 refine qV (caps := []) (vs := [.int .i64 _]) rfl rfl rfl (choices_ok m.buttons.length hb _ rfl h2) ?_
 rintro y h4 E4 It
 refine qT ?_
 have p2' : ∀ {h'}, Ext h4 h' → h' b2 = some (.cells #[.func fn fs cs] 125 (0, 0)) := fun E => E _ _ (E4 _ _ p2)
 refine xp_rangeFuncF 0 rfl rfl ?_
 intro r l lp htm hpr has hbd V0
 refine CallV.mono (It (.yield l) #[] #[] (fun k h' M' => Ext h4 h' ∧ ∃ M2, M' = some (l, obL lp .ready none) :: none :: M2 ∧ I (k * R) h' M2) (fun h' M' => Ext h4 h' ∧ ∃ M2, M' = some (l, obL lp .done (some .ret)) :: none :: M2 ∧ F h' M2)
  (fun k h1 h2 M E I' => ⟨I'.1.trans E, I'.2.imp fun M2 ⟨e, i⟩ => ⟨e, hI _ _ _ _ E i⟩⟩) (fun h1 h2 M E I' => ⟨I'.1.trans E, I'.2.imp fun M2 ⟨e, i⟩ => ⟨e, hF _ _ _ E i⟩⟩) ?_ h4 _ (Ext.refl _) ⟨Ext.refl _, M, rfl, by rw [Nat.zero_mul]; exact hI _ _ _ _ (zL E2 E4) hi⟩ V0) ?_ (fun _ _ y => y)
 ·rintro k x v hc M' hk hT ⟨E5, M2, rfl, i5⟩
  obtain ⟨BA, cBA, rfl, RB⟩ := hT
  intro V
  refine callV_yield (zC V (i := 0) rfl) hpr rfl htm has hbd ?_
  refine round_enter (i := 0) (r := lp) ?_ V
  refine wE (_ :: _ :: _) rfl ?_
  refine qC rfl ?_
  refine op_allocF 1 (cs := [_]) rfl rfl rfl fun b3 hb3 => ?_
  refine qH (_ :: _ :: _) rfl ?_
  refine wG 1 (v := .slice _ _ _) (vs := [_]) (c' := [_]) rfl rfl rfl rfl rfl rfl rfl rfl rfl ?_
  refine qH (_ :: _ :: _) rfl ?_
  refine ⟨rfl, none, rfl, ?_⟩
  refine wE (_ :: _ :: _) rfl ?_
  refine qT ?_
  refine goes_pub 1 rfl ?_
  intro h6 E6 p6
  have CM6 := CM.ext (E0.trans (zL E2 (zL E4 (zL E5 E6))))
  refine qE ?_
  refine qC rfl ?_
  refine qA (qI rfl rfl rfl rfl _ rfl) ?_
  refine wT (v := .int .i64 m.regs) rfl rfl (CM6 2 _ rfl) ?_
  refine qV (caps := []) (vs := [.int .i64 _]) rfl rfl rfl (choices_ok m.regs.toNat (by omega) _ (by omega) h6) ?_
  rintro y2 h7 E7 It2
  refine qT ?_
  have p27 : ∃ t, h7 b2 = some (.cells #[.func fn fs cs] t (0, 0)) := ⟨_, E7 _ _ (E6 _ _ (E5 _ _ (p2' (Ext.refl _))))⟩
  have p67 : ∃ t, h7 b3 = some (.cells #[.slice BA x.length cBA] t (0, 0)) := ⟨_, E7 _ _ p6⟩
  have RB7 := RB.ext (zL E6 E7)
  refine xp_rangeFuncRF 1 0 rfl rfl rfl ?_
  intro l2 lp2 htm2 hpr2 has2 hbd2 V1
  refine CallV.mono (It2 (.yield l2) #[] #[] (fun j h' M' => Ext h7 h' ∧ ∃ M2, M' = some (l, obL lp .busy none) :: some (l2, obL lp2 .ready none) :: M2 ∧ I (k * R + j) h' M2) (fun h' M' => Ext h7 h' ∧ ∃ M2, M' = some (l, obL lp .busy none) :: some (l2, obL lp2 .done (some .ret)) :: M2 ∧ F h' M2)
   (fun k h1 h2 M E I' => ⟨I'.1.trans E, I'.2.imp fun M2 ⟨e, i⟩ => ⟨e, hI _ _ _ _ E i⟩⟩) (fun h1 h2 M E I' => ⟨I'.1.trans E, I'.2.imp fun M2 ⟨e, i⟩ => ⟨e, hF _ _ _ E i⟩⟩) ?_ h7 _ (Ext.refl _) ⟨Ext.refl _, M2, rfl, hI _ _ _ _ (zL E6 E7) i5⟩ V1) ?_ (fun _ _ y => y)
  ·rintro j z v hcc M' hj hT ⟨E8, M3, rfl, i8⟩
   obtain ⟨OA, cO, rfl, RO⟩ := hT
   obtain ⟨t2, p28⟩ := p27
   obtain ⟨t3, p68⟩ := p67
   intro V
   refine callV_yield (zC V (i := 1) rfl) hpr2 rfl htm2 has2 hbd2 ?_
   refine round_enter (i := 1) (r := lp2) ?_ V
   refine wE (_ :: _ :: _) rfl ?_
   refine qC rfl ?_
   refine qA (qF (v := .slice _ _ _) rfl) ?_
   refine ⟨rfl, none, rfl, ?_⟩
   refine wE (_ :: _ :: _) rfl ?_
   refine qT ?_
   refine qE ?_
   refine qC rfl ?_
   refine wT (v := .func fn fs cs) rfl rfl (by simp only [cellA, E8 _ _ p28]; rfl) ?_
   refine wT (v := .slice BA x.length cBA) rfl rfl (by simp only [cellA, E8 _ _ p68]; rfl) ?_
   refine qA (qD (v := .slice _ _ _) rfl) ?_
   refine qA (wX (zc := [_, _]) (vs := [(0, .slice _ _ _), (1, .slice _ _ _)]) (cs := [_, _]) rfl rfl rfl rfl rfl rfl) ?_
   refine op_fnM [_, _] _ (vs := [.agg #[_, _]]) rfl rfl rfl (Y (k * R + j) ⟨x, z⟩ _ hcc M3 (by rw [hR]; exact pairs_at hj hk) ⟨_, _, rfl, ⟨BA, cBA, rfl, RB7.ext E8⟩, ⟨OA, cO, rfl, RO⟩⟩ i8) ?_
   rintro r h9 M9 E9 hr
   rcases hr with ⟨rfl, i9⟩ | ⟨rfl, f9⟩
   ·skip
    refine qA (qJ (v := .bool _) rfl) ?_
    refine wO rfl (rfl) ?_
    refine qP ?_
    intro V2
    have V3 := valid_set (o' := obL lp2 .ready none) V2 (i := 1) rfl
    exact ⟨rfl, ⟨_, _, rfl⟩, _, _, rfl, V3, E9, .inl ⟨rfl, zL E8 E9, M9, rfl, i9⟩⟩
   ·skip
    refine qA (qJ (v := .bool _) rfl) ?_
    refine wY rfl (rfl) ?_
    refine wD ?_
    intro V2
    have V3 := valid_set (o' := obL lp2 .done (some .ret)) V2 (i := 1) rfl
    exact ⟨rfl, ⟨_, _, rfl⟩, _, _, rfl, V3, E9, .inr ⟨rfl, zL E8 E9, M9, rfl, f9⟩⟩
  ·rintro v H ⟨h', M', rfl, V', E', ⟨E8, M3, rfl, i8⟩ | ⟨E8, M3, rfl, f8⟩⟩
   ·refine ⟨h', _, .ready, none, rfl, V', rfl, by simp, fun h'' E'' => ?_⟩
    intro V2
    have V3 := valid_set (o' := obL lp .ready none) V2 (i := 0) rfl
    exact ⟨rfl, ⟨_, _, rfl⟩, _, _, rfl, V3, zL (zL E6 E7) (zL E' E''), .inl ⟨rfl, zL E5 (zL (zL E6 E7) (zL E' E'')), M3, rfl, by rw [Nat.add_mul, Nat.one_mul, hR]; rw [hR] at i8; exact hI _ _ _ _ E'' i8⟩⟩
   ·refine ⟨h', _, .done, some .ret, rfl, V', rfl, by simp, fun h'' E'' => ?_⟩
    refine wD ?_
    intro V2
    have V3 := valid_set (o' := obL lp .done (some .ret)) V2 (i := 0) rfl
    exact ⟨rfl, ⟨_, _, rfl⟩, _, _, rfl, V3, zL (zL E6 E7) (zL E' E''), .inr ⟨rfl, zL E5 (zL (zL E6 E7) (zL E' E'')), M3, rfl, hF _ _ _ E'' f8⟩⟩
 ·rintro v H ⟨h', M', rfl, V', E', ⟨E8, M3, rfl, i8⟩ | ⟨E8, M3, rfl, f8⟩⟩
  ·refine ⟨h', _, .ready, none, rfl, V', rfl, by simp, fun h'' E'' => ?_⟩
   refine res_listM (vs := []) rfl Tryd.results65 trivial fun hM EM V => ?_
   obtain ⟨h9, E9, e9, V9⟩ := wl_shed [_, _] _ V
   have EE : Ext h' h9 := zL E'' (zL EM E9)
   exact ⟨h9, M3, e9, V9, zL (zL E2 E4) (zL E' EE), .inl (hI _ _ _ _ EE (by unfold handsM; rw [pairs_len, ← hR]; exact i8))⟩
  ·refine ⟨h', _, .done, some .ret, rfl, V', rfl, by simp, fun h'' E'' => ?_⟩
   refine wD ?_
   refine res_listM (vs := []) rfl Tryd.results65 trivial fun hM EM V => ?_
   obtain ⟨h9, E9, e9, V9⟩ := wl_shed [_, _] _ V
   have EE : Ext h' h9 := zL E'' (zL EM E9)
   exact ⟨h9, M3, e9, V9, zL (zL E2 E4) (zL E' EE), .inr (hF _ _ _ EE f8)⟩
theorem hands_ok (m : MachP) (hb : m.buttons.length ≤ 30) (hr : 0 ≤ m.regs ∧ m.regs ≤ 30) (AB AQ AL AW : Option Addr) (cB cQ cL cW : Nat) (h : AH) :
  FnT Tryd.prog 47 #[machV AB AQ AL AW cB cQ cL cW m] h (fun v h' => IterS Tryd.prog v h' (handsM m) TA) := by
 refine wL Tryd.func47 rfl Tryd.ntmps47 rfl ?_
 refine qE ?_
 refine qC rfl ?_
 refine op_box (v := .agg #[.int .i64 _, .int .i64 _, .int .i64 _, .int .i64 _, .int .i64 _, .slice _ _ _, .slice _ _ _, .slice _ _ _, .slice _ _ _]) (cs := [_, _, _, _, _, _, _, _, _]) rfl rfl fun b1 hb1 => ?_
 refine qH [_] rfl ?_
 refine qA (qF (v := _) rfl) ?_
 refine qE ?_
 refine qC rfl ?_
 refine qA (pv_makeFunc (vs := []) (ws := [_]) rfl rfl) ?_
 refine qA (qF (v := _) rfl) ?_
 refine wD ?_
 refine qS (vs := [_]) Tryd.results47 ⟨qM rfl rfl, trivial⟩ fun V => ?_
 exact ⟨(qZ V), hands1_ok m hb hr b1 AB AQ AL AW cB cQ cL cW _ (cellsB (cs := [.int .i64 m.rods, .int .i64 m.levers, .int .i64 m.regs, .int .i64 m.travel, .int .i64 m.opn, .slice AB m.buttons.length cB, .slice AQ m.pins.length cQ, .slice AL m.links.length cL, .slice AW m.weights.length cW]) (zC V (i := 0) rfl))⟩
end
end Go.Proofs.YtmpahfdiebhdbaaDoor
namespace Go.Proofs.YtmpahfdiebhdbaaDoor
open Go Go.HL Go.Proofs Go.Wx Go.Rd
section
variable [Lvl]
set_option maxRecDepth 100000
def pickF (m : MachP) (n : Int) : List FaultP := if n < 0 then [] else ((faultsM m).drop n.toNat).take 1
def machL (m : MachP) (hs : List HeardP) : List (List FaultP) := (suspectsM m hs).map (pickF m)
def sndL (m : MachP) (ms : List (List FaultP)) (a : HandP) : List Nat := ms.map fun l => soundsB m l a
def worstN (ss : List Nat) : Nat → Nat
 | 0 => 0
 | k + 1 => max (worstN ss k) ((ss.take (k + 1)).reverse.count (ss.getD k 0))
def bestS (m : MachP) (ms : List (List FaultP)) (q : HandP × Nat) (a : HandP) : HandP × Nat := if worstN (sndL m ms a) ms.length < q.2 then (a, worstN (sndL m ms a) ms.length) else q
def bestN (m : MachP) (ms : List (List FaultP)) (k : Nat) : HandP × Nat := ((handsM m).take k).foldl (bestS m ms) (⟨[], []⟩, ms.length)
def testM (m : MachP) (hs : List HeardP) : HandP × Nat := bestN m (machL m hs) (handsM m).length
def testE (m : MachP) (hs : List HeardP) : Int := if checkHeardM m hs ≠ 0 then checkHeardM m hs else if (suspectsM m hs).length = 0 then 11 else if (testM m hs).2 = (machL m hs).length then 11 else 0
def testA (m : MachP) (hs : List HeardP) : HandP := if testE m hs = 0 then (testM m hs).1 else ⟨[], []⟩
def testN (m : MachP) (hs : List HeardP) : Int := if testE m hs = 0 then (testM m hs).2 else 0
theorem hand_nil (h : AH) : HandV h ⟨[], []⟩ (.agg #[.slice none 0 0, .slice none 0 0]) := ⟨_, _, rfl, ⟨none, 0, rfl, row_nil _ _⟩, ⟨none, 0, rfl, row_nil _ _⟩⟩
theorem susp_bd (m : MachP) (hs : List HeardP) : ∀ k, k ≤ (faultsM m).length → ∀ x ∈ suspN m hs k, -1 ≤ x ∧ x < k ∧ x < (faultsM m).length
 | 0, _, x, h => by
  unfold suspN at h
  split at h
  ·simp at h; subst h; omega
  ·exact absurd h List.not_mem_nil
 | k + 1, hk, x, h => by
  have ih := susp_bd m hs k (by omega)
  unfold suspN at h
  rw [List.getElem?_eq_getElem (by omega : k < (faultsM m).length)] at h
  simp only at h
  split at h
  ·rcases List.mem_append.1 h with h | h
   ·have := ih x h; omega
   ·simp at h; omega
  ·have := ih x h; omega
theorem pick_fok {m : MachP} (M : MOK m) (n : Int) : ∀ f ∈ pickF m n, FOK m f := by
 intro f hf
 unfold pickF at hf
 split at hf
 ·exact absurd hf List.not_mem_nil
 ·exact faults_fok M (List.mem_of_mem_drop (List.mem_of_mem_take hf))
def TB (m : MachP) (h : AH) (l : List FaultP) (c : List Value) : Prop := ∃ y, c = [y] ∧ BrkV h m l y
theorem TB.mono (m : MachP) : Mono (TB m) := fun h h' l c e ⟨y, hc, r⟩ => ⟨y, hc, r.ext e⟩
theorem tb_of {m : MachP} {h : AH} {l l' : List FaultP} (e : l' = l) {z1 z2 z3 z4 : Nat} (B : BrkP h m l z1 z2 z3 z4) : TB m h l' [brkY z1 z2 z3 z4] := by
 subst e
 exact ⟨_, rfl, _, _, _, _, rfl, B⟩
theorem row_part {α : Type} {enc : α → List Value} {h : AH} {A : Option Addr} {l : List α} {m q : Nat} (R : Row h m enc A l) (hq : q < l.length) : Row h m enc (A.map (·.add (q * m))) [l[q]] := by
 refine ⟨fun x hx => R.1 x (by simp at hx; subst hx; exact List.getElem_mem hq), fun hne => ?_⟩
 have hm : 0 < m := by
  rcases Nat.eq_zero_or_pos m with h0 | h0
  ·exact absurd (by simp; exact List.length_eq_zero_iff.1 (by rw [R.1 _ (List.getElem_mem hq), h0])) hne
  ·exact h0
 obtain ⟨g, off, rfl, c⟩ := R.at hm hq
 exact ⟨g, off + q * m, by rw [Option.map_some, add_none], by simpa using c⟩
theorem row_fnil (h : AH) (A : Option Addr) : Row h 1 faultC A ([] : List FaultP) := ⟨fun _ hx => absurd hx List.not_mem_nil, Rd.nil _ _⟩
abbrev lvV (x : Nat) : Value := .int .i64 x
theorem lvBeq (a b : Nat) : ((a : Int) == (b : Int)) = decide (a = b) := by
 by_cases h : a = b
 ·subst h; simp
 ·rw [decide_eq_false h, beq_eq_false_iff_ne]
  omega
theorem lvK : KeyT Tryd.prog 70 lvV := by
 refine ⟨fun e a => chk_int rfl, fun a b => ?_, fun td ht a b => ?_, ⟨_, rfl⟩, fun a => by simp [Instr.sameBits]⟩
 ·refine (eq_int (P := Tryd.prog) (t := 70) (d := 9999) rfl a b).trans ?_
  rw [lvBeq]
 ·cases ht
  right
  show some ((a : Int) == (b : Int)) = _
  rw [lvBeq]
theorem worst_le (ss : List Nat) : ∀ k, worstN ss k ≤ k
 | 0 => Nat.le_refl 0
 | k + 1 => by
  have := worst_le ss k
  have h2 : (ss.take (k + 1)).reverse.count (ss.getD k 0) ≤ k + 1 := Nat.le_trans List.count_le_length (by simp; omega)
  unfold worstN
  omega
theorem hands_hok {m : MachP} (rg : 0 ≤ m.regs ∧ m.regs ≤ 2) {k : Nat} {x : HandP} (h : (handsM m)[k]? = some x) : HOK m x := by
 have hm := List.mem_of_getElem? h
 unfold handsM pairsM at hm
 obtain ⟨b, hb, hm⟩ := List.mem_flatMap.1 hm
 obtain ⟨o, ho, rfl⟩ := List.mem_map.1 hm
 have s := setsM_set ho
 rw [Int.toNat_of_nonneg rg.1] at s
 exact ⟨setsM_set hb, s⟩
def TestI (m : MachP) (ms : List (List FaultP)) (p2 p10 : Nat × Obj) (b4 b5 l : Nat) (r : Loop) (h0 : AH) (k : Nat) (h : AH) (M : Pv) : Prop :=
 Ext h0 h ∧ ∃ (HA OA : Option Addr) (cH cO : Nat), HandR h HA OA (bestN m ms k).1 ∧
  M = [some p2, some (b4, .cells #[.slice HA (bestN m ms k).1.buttons.length cH, .slice OA (bestN m ms k).1.on.length cO] 34 (0, 0)), some (b5, .cells #[.int .i64 ((bestN m ms k).2 : Nat)] 3 (0, 0)), some p10, none, some (l, obL r .ready none)]
theorem TestI.ext {m : MachP} {ms : List (List FaultP)} {p2 p10 : Nat × Obj} {b4 b5 l : Nat} {r : Loop} {h0 : AH} {k : Nat} {h h' : AH} {M : Pv} (I : TestI m ms p2 p10 b4 b5 l r h0 k h M) (E : Ext h h') : TestI m ms p2 p10 b4 b5 l r h0 k h' M := by
 obtain ⟨E0, HA, OA, cH, cO, RH, e⟩ := I
 exact ⟨E0.trans E, HA, OA, cH, cO, RH.ext E, e⟩
theorem bestN_succ {m : MachP} {ms : List (List FaultP)} {k : Nat} {a : HandP} (h : (handsM m)[k]? = some a) : bestN m ms (k + 1) = bestS m ms (bestN m ms k) a := by
 unfold bestN
 rw [List.take_add_one, h, Option.toList_some, List.foldl_append]
 rfl
set_option maxHeartbeats 8000000 in
theorem Test_ok (hph : Lvl.ph = true) (m : MachP) (hs : List HeardP) (HN : HLen hs) (AB AQ AL AW UA : Option Addr) (cB cQ cL cW cU : Nat) (cs : List (List Value)) (h : AH) (RM : MachR h AB AQ AL AW m) (h0 : m.weights.length < 2 ^ 40) (R : Row h 3 id UA cs) (EL : Els h TU hs cs) :
  FnT Tryd.prog 22 #[machV AB AQ AL AW cB cQ cL cW m, .slice UA hs.length cU] h (fun v h' => ∃ H, v = .tuple #[H, .int .i64 (testN m hs), .int .i64 (testE m hs)] ∧ HandV h' (testA m hs) H) := by
 refine wL Tryd.func22 rfl Tryd.ntmps22 rfl ?_
 refine qE ?_
 refine qC rfl ?_
 refine op_box (v := .agg #[.int .i64 _, .int .i64 _, .int .i64 _, .int .i64 _, .int .i64 _, .slice _ _ _, .slice _ _ _, .slice _ _ _, .slice _ _ _]) (cs := [_, _, _, _, _, _, _, _, _]) rfl rfl fun b2 hb2 => ?_
 refine qH [_] rfl ?_
 refine wW (cs := [_, _]) rfl rfl fun b4 hb4 => ?_
 refine qH [_, _] rfl ?_
 refine wW (cs := [_]) rfl rfl fun b5 hb5 => ?_
 refine qH [_, _, _] rfl ?_
 refine qA (qF (v := .int .i64 _) rfl) ?_
 refine qE ?_
 refine qE ?_
 refine qC rfl ?_
 refine wH 0 (vs := [.int .i64 _, .int .i64 _, .int .i64 _, .int .i64 _, .int .i64 _, .slice _ _ _, .slice _ _ _, .slice _ _ _, .slice _ _ _]) rfl rfl rfl rfl rfl ?_
 refine qA (qD (v := .slice _ _ _) rfl) ?_
 refine qV (caps := []) (vs := [.agg #[.int .i64 _, .int .i64 _, .int .i64 _, .int .i64 _, .int .i64 _, .slice _ _ _, .slice _ _ _, .slice _ _ _, .slice _ _ _], .slice _ _ _]) rfl rfl rfl (checkHeard_ok m hs HN AB AQ AL AW UA cB cQ cL cW cU cs h (RM.ext (Ext.refl _)) h0 (R.ext (Ext.refl _)) (EL.ext TU.mono (Ext.refl _))) ?_
 rintro _ h3 E3 rfl
 refine qA (qF (v := .int .i64 _) rfl) ?_
 refine qE ?_
 refine qC rfl ?_
 refine qA (qD (v := .int .i64 _) rfl) ?_
 refine qA (qJ (v := .bool _) rfl) ?_
 refine wA rfl (fun hc => ?_) (fun hc => ?_)
 ·skip
  have hc' : checkHeardM m hs ≠ 0 := by simpa using hc
  have e : testE m hs = checkHeardM m hs := by rw [testE, if_pos hc']
  refine qE ?_
  refine qC rfl ?_
  refine qA (wX (zc := [_, _]) (vs := []) (cs := [_, _]) rfl rfl rfl rfl rfl rfl) ?_
  refine qA (qD (v := .int .i64 _) rfl) ?_
  refine wG 1 (v := .agg #[.slice _ _ _, .slice _ _ _]) (vs := [_, _]) (c' := [_, _]) rfl rfl rfl rfl rfl rfl rfl rfl rfl ?_
  refine qH [_, _, _] rfl ?_
  refine wG 2 (v := .int .i64 _) (vs := [_]) (c' := [_]) rfl rfl rfl rfl rfl rfl rfl rfl rfl ?_
  refine qH [_, _, _] rfl ?_
  refine qA (qF (v := .int .i64 _) rfl) ?_
  refine wD ?_
  refine qS (vs := [_, _, _]) Tryd.results22 ⟨resV_agg 1 rfl rfl rfl rfl rfl (vs := [.slice _ _ _, .slice _ _ _]) rfl, resV_one 2 rfl rfl rfl rfl (v := .int .i64 _) rfl, qM rfl rfl, trivial⟩ fun V => ?_
  refine ⟨(zL E3 (qZ V)), .agg #[.slice none 0 0, .slice none 0 0], by rw [testN, e, if_neg hc']; rfl, ?_⟩
  rw [testA, e, if_neg hc']
  exact hand_nil _
 ·skip
  have hc' : checkHeardM m hs = 0 := by simpa using hc
  obtain ⟨M, hl5, X⟩ := checkHeard_zero hc'
  have lv := M.levers
  have pl := M.pl
  have ll := M.ll
  have bl := M.bl
  have rg := M.regs
  have fl := faults_len m
  refine qP ?_
  refine qE ?_
  refine qC rfl ?_
  refine wH 0 (vs := [.int .i64 _, .int .i64 _, .int .i64 _, .int .i64 _, .int .i64 _, .slice _ _ _, .slice _ _ _, .slice _ _ _, .slice _ _ _]) rfl rfl rfl rfl rfl ?_
  refine qA (qD (v := .slice _ _ _) rfl) ?_
  refine qV (caps := []) (vs := [.agg #[.int .i64 _, .int .i64 _, .int .i64 _, .int .i64 _, .int .i64 _, .slice _ _ _, .slice _ _ _, .slice _ _ _, .slice _ _ _], .slice _ _ _]) rfl rfl rfl (suspects_ok hph m M hs X HN.1 AB AQ AL AW UA cB cQ cL cW cU cs h3 (RM.ext E3) (R.ext E3) (EL.ext TU.mono E3)) ?_
  rintro _ h4 E4 ⟨SA, cS, rfl, RS⟩
  refine qA (qF (v := .slice _ _ _) rfl) ?_
  refine qE ?_
  refine qE ?_
  refine qC rfl ?_
  refine qA (qD (v := .slice _ _ _) rfl) ?_
  refine qA (wP rfl rfl) ?_
  refine qA (qJ (v := .bool _) rfl) ?_
  refine wA rfl (fun hz => ?_) (fun hz => ?_)
  ·skip
   have hz' : (suspectsM m hs).length = 0 := by simpa using hz
   have e : testE m hs = 11 := by rw [testE, if_neg (by simp [hc']), if_pos hz']
   refine qE ?_
   refine qC rfl ?_
   refine qA (wX (zc := [_, _]) (vs := []) (cs := [_, _]) rfl rfl rfl rfl rfl rfl) ?_
   refine wG 1 (v := .agg #[.slice _ _ _, .slice _ _ _]) (vs := [_, _]) (c' := [_, _]) rfl rfl rfl rfl rfl rfl rfl rfl rfl ?_
   refine qH [_, _, _] rfl ?_
   refine wG 2 (v := .int .i64 _) (vs := [_]) (c' := [_]) rfl rfl rfl rfl rfl rfl rfl rfl rfl ?_
   refine qH [_, _, _] rfl ?_
   refine qA (qF (v := .int .i64 _) rfl) ?_
   refine wD ?_
   refine qS (vs := [_, _, _]) Tryd.results22 ⟨resV_agg 1 rfl rfl rfl rfl rfl (vs := [.slice _ _ _, .slice _ _ _]) rfl, resV_one 2 rfl rfl rfl rfl (v := .int .i64 _) rfl, qM rfl rfl, trivial⟩ fun V => ?_
   refine ⟨(zL (zL E3 E4) (qZ V)), .agg #[.slice none 0 0, .slice none 0 0], by rw [testN, e, if_neg (by decide)]; rfl, ?_⟩
   rw [testA, e, if_neg (by decide)]
   exact hand_nil _
  ·skip
   have hz' : ¬ (suspectsM m hs).length = 0 := by simpa using hz
   obtain ⟨ns, hns⟩ : ∃ ns, ns = suspectsM m hs := ⟨_, rfl⟩
   have hnb : ∀ x ∈ ns, -1 ≤ x ∧ x < (faultsM m).length := fun x hx => by rw [hns] at hx; have := susp_bd m hs _ (Nat.le_refl _) x hx; omega
   have hnl : ns.length ≤ (faultsM m).length + 1 := by rw [hns]; exact suspN_len m hs _
   have eE : testE m hs = if (testM m hs).2 = (machL m hs).length then 11 else 0 := by rw [testE, if_neg (by simp [hc']), if_neg hz']
   rw [← hns] at RS hz' ⊢
   refine qP ?_
   refine qE ?_
   refine qC rfl ?_
   refine wH 0 (vs := [.int .i64 _, .int .i64 _, .int .i64 _, .int .i64 _, .int .i64 _, .slice _ _ _, .slice _ _ _, .slice _ _ _, .slice _ _ _]) rfl rfl rfl rfl rfl ?_
   refine qV (caps := []) (vs := [.agg #[.int .i64 _, .int .i64 _, .int .i64 _, .int .i64 _, .int .i64 _, .slice _ _ _, .slice _ _ _, .slice _ _ _, .slice _ _ _]]) rfl rfl rfl (faults_okC m (by omega) (by omega) (by omega) AB AQ AL AW cB cQ cL cW h4) ?_
   rintro _ h5 E5 ⟨⟨FA, cF, rfl, RF⟩, hcF⟩
   have hcF : (faultsM m).length ≤ cF := hcF
   refine qA (qF (v := .slice _ _ _) rfl) ?_
   refine qE ?_
   refine qC rfl ?_
   refine wW (cs := [_]) rfl rfl fun b10 hb10 => ?_
   refine qH [_, _, _, _] rfl ?_
   refine qE ?_
   refine qE ?_
   refine qC rfl ?_
   refine qA (qD (v := .slice _ _ _) rfl) ?_
   refine qA (wP rfl rfl) ?_
   refine qA (qD (v := .int .i64 _) rfl) ?_
   refine qT ?_
   refine goes_more ?_
   refine wE [_, _, _, _, _] rfl ?_
   obtain ⟨T1, hT1⟩ : ∃ x : TypeId, x = 96 := ⟨_, rfl⟩
   refine xp_loopL [12, 37, 38, 39, 40, 41, 42, 43, 44, 45, 46, 47, 48, 49, 50, 51, 52, 53, 54, 55, 56, 57, 58] 5 (α := Nat × Acc × List (List Value)) (fun ⟨k, a, gs⟩ => [(37, .int .i64 k)]) (fun ⟨k, a, gs⟩ L => (L.set 3 (some (b10, .cells #[.slice a.A a.n a.c] 95 (0, 0)))).set 4 (a.p)) (fun ⟨k, a, gs⟩ h_k => k ≤ ns.length ∧ AccR 96 1 (gs.flatMap id) a ∧ Els h_k (TB m) ((ns.take k).map (pickF m)) gs ∧ ∀ x ∈ gs, x.length = 1) (fun ⟨k, a, gs⟩ => ns.length - k) ((0, acc0, [])) ⟨rfl, trivial⟩ (rfl) (⟨Nat.zero_le _, accR0, Els.nil _ _, fun _ hx => absurd hx List.not_mem_nil⟩) ?_
   rintro ⟨k, a, gs⟩ T1 h_k E_k J_k
   refine wE [_, _, _, _, _] rfl ?_
   obtain ⟨K1, K2, K3, K4⟩ := J_k
   refine qE ?_
   refine qC rfl ?_
   refine qA (qJ (v := .bool _) rfl) ?_
   refine qE ?_
   refine wA rfl (fun hk => ?_) (fun hk => ?_)
   ·skip
    have hkl : k < ns.length := ltI hk
    have hnk := hnb _ (List.getElem_mem hkl)
    have hgl : (gs.flatMap id).length = k := by rw [zE (enc := id) (m := 1) K4, K3.1]; simp; omega
    have htk : (ns.take (k + 1)).map (pickF m) = (ns.take k).map (pickF m) ++ [pickF m ns[k]] := by rw [take_snoc hkl, List.map_append]; rfl
    obtain ⟨g, off, hA, hc⟩ := (RS.ext (zL E5 E_k)).at (by omega) hkl
    refine qP ?_
    refine qE ?_
    refine qT ?_
    refine qE ?_
    refine qC rfl ?_
    refine qA (wU rfl hA rfl rfl rfl (by omega) (by omega)) ?_
    refine wT (v := .int .i64 _) rfl rfl ((hc) 0 _ rfl) ?_
    refine qA (qF (v := .int .i64 _) rfl) ?_
    refine qE ?_
    refine qE ?_
    refine qC rfl ?_
    refine qA (qD (v := .int .i64 _) rfl) ?_
    refine qA (qJ (v := .bool _) rfl) ?_
    refine wA rfl (fun hneg => ?_) (fun hneg => ?_)
    ·skip
     have hneg' : ns[k] < 0 := by simpa using hneg
     have hpk : pickF m ns[k] = [] := by rw [pickF, if_pos hneg']
     refine qE ?_
     refine xp_dw [] rfl rfl rfl ?_
     refine wQ (i := 0) rfl (by decide +kernel) ?_
     refine qN 3 (v := .slice _ _ _) rfl rfl rfl rfl ?_
     refine wQ (i := 1) rfl (by decide +kernel) ?_
     refine wH 0 (vs := [.int .i64 _, .int .i64 _, .int .i64 _, .int .i64 _, .int .i64 _, .slice _ _ _, .slice _ _ _, .slice _ _ _, .slice _ _ _]) rfl rfl rfl rfl rfl ?_
     refine dw_eff (i := 2) rfl (by decide +kernel) ?_
     refine qV (caps := []) (vs := [.agg #[.int .i64 _, .int .i64 _, .int .i64 _, .int .i64 _, .int .i64 _, .slice _ _ _, .slice _ _ _, .slice _ _ _, .slice _ _ _], .slice _ _ _]) rfl rfl rfl (broken_ok m M [] (fun f hf => absurd hf List.not_mem_nil) (by decide) AB AQ AL AW none cB cQ cL cW 0 h_k (RM.ext (zL (zL (zL E3 E4) E5) E_k)) (row_fnil _ _)) ?_
     rintro _ h6 E6 ⟨z1, z2, z3, z4, rfl, BB⟩
     refine ⟨ext_wlm E6 _, ?_⟩
     refine dw_eff (i := 3) rfl (by decide +kernel) ?_
     refine qK (zc := [_]) (vs := [(0, _)]) (cs := [_]) rfl rfl rfl rfl rfl rfl rfl fun b46 hb46 => ?_
     refine ⟨ext_new hb46 _, ?_⟩
     refine zI [_, _, _, _, _, _] rfl ?_
     refine dw_last (i := 4) rfl (by decide +kernel) (by decide +kernel) ?_
     refine zF 4 K2 rfl rfl rfl (fun V => rdP V (i := 5) rfl) rfl rfl rfl rfl rfl rfl rfl rfl rfl (by omega) rfl (by rw [hgl]; simp; omega) fun a2 h2a E2a ha2 => ?_
     refine zI [_, _, _, _, _, _] rfl ?_
     refine dw_last (i := 5) rfl (by decide +kernel) (by decide +kernel) ?_
     refine wG 3 (v := .slice _ _ _) (vs := [_]) (c' := [_]) rfl rfl rfl rfl rfl rfl rfl rfl rfl ?_
     refine zI [_, _, _, _, _, _] rfl ?_
     refine dw_end rfl ?_
     refine zA ?_
     refine qC rfl ?_
     refine qA (qX rfl (by omega)) ?_
     refine qA (qD (v := .int .i64 _) rfl) ?_
     refine ⟨(k + 1, a2, gs ++ [[brkY z1 z2 z3 z4]]), ⟨rfl, trivial⟩, rfl, rfl, (zL (zL E_k E6) E2a), fun h3 E3 => ⟨hkl, by rw [List.flatMap_append]; exact ha2, by rw [htk]; exact (Els.snoc (K3.ext (TB.mono m) (zL E6 E2a)) (tb_of hpk (BB.ext E2a))).ext (TB.mono m) E3, one_len K4 rfl⟩, by first | omega | (dsimp only; omega), ?_⟩
     repeat (first | exact wK _ _ _ | refine wM (by decide) ?_ | refine wJ rfl ?_ | refine wN rfl ?_)
    ·skip
     have hneg' : ¬ ns[k] < 0 := by simpa using hneg
     obtain ⟨q, hq⟩ : ∃ q : Nat, ns[k] = q := ⟨ns[k].toNat, by omega⟩
     have hqf : q < (faultsM m).length := by omega
     have hpk : pickF m ns[k] = [(faultsM m)[q]] := by rw [pickF, if_neg hneg', hq]; rw [Int.toNat_natCast, List.drop_eq_getElem_cons hqf]; rfl
     have hfq : ∀ f ∈ [(faultsM m)[q]], FOK m f := fun f hf => pick_fok M ns[k] f (by rw [hpk]; exact hf)
     have RF1 : Row h_k 1 faultC (FA.map (·.add (q * 1))) [(faultsM m)[q]] := row_part (RF.ext E_k) hqf
     refine qP ?_
     refine xp_dw [] rfl rfl rfl ?_
     refine wQ (i := 0) rfl (by decide +kernel) ?_
     refine qN 3 (v := .slice _ _ _) rfl rfl rfl rfl ?_
     refine wQ (i := 1) rfl (by decide +kernel) ?_
     refine wH 0 (vs := [.int .i64 _, .int .i64 _, .int .i64 _, .int .i64 _, .int .i64 _, .slice _ _ _, .slice _ _ _, .slice _ _ _, .slice _ _ _]) rfl rfl rfl rfl rfl ?_
     refine qO (i := 2) rfl (by decide +kernel) (qD (v := .slice _ _ _) rfl) ?_
     refine qO (i := 3) rfl (by decide +kernel) (qD (v := .int .i64 _) rfl) ?_
     refine qO (i := 4) rfl (by decide +kernel) (qD (v := .int .i64 _) rfl) ?_
     refine qO (i := 5) rfl (by decide +kernel) (qX rfl (by omega)) ?_
     refine qO (i := 6) rfl (by decide +kernel) (pv_sliceS q (q + 1) rfl rfl rfl (by omega) (by omega) rfl rfl (by omega) (by omega) (A' := FA.map (·.add (q * 1))) (l' := 1) (c' := cF - q) (by rw [if_neg (by omega)]; rfl) (by omega) rfl) ?_
     refine dw_eff (i := 7) rfl (by decide +kernel) ?_
     refine qV (caps := []) (vs := [_, .slice _ _ _]) rfl rfl rfl (broken_ok m M [(faultsM m)[q]] hfq (by show 1 < 2 ^ 20; decide) AB AQ AL AW _ cB cQ cL cW (cF - q) h_k (RM.ext (zL (zL (zL E3 E4) E5) E_k)) RF1) ?_
     rintro _ h6 E6 ⟨z1, z2, z3, z4, rfl, BB⟩
     refine ⟨ext_wlm E6 _, ?_⟩
     refine dw_eff (i := 8) rfl (by decide +kernel) ?_
     refine qK (zc := [_]) (vs := [(0, _)]) (cs := [_]) rfl rfl rfl rfl rfl rfl rfl fun b56 hb56 => ?_
     refine ⟨ext_new hb56 _, ?_⟩
     refine zI [_, _, _, _, _, _] rfl ?_
     refine dw_last (i := 9) rfl (by decide +kernel) (by decide +kernel) ?_
     refine zF 4 K2 rfl rfl rfl (fun V => rdP V (i := 5) rfl) rfl rfl rfl rfl rfl rfl rfl rfl rfl (by omega) rfl (by rw [hgl]; simp; omega) fun a2 h3a E3a ha2 => ?_
     refine zI [_, _, _, _, _, _] rfl ?_
     refine dw_last (i := 10) rfl (by decide +kernel) (by decide +kernel) ?_
     refine wG 3 (v := .slice _ _ _) (vs := [_]) (c' := [_]) rfl rfl rfl rfl rfl rfl rfl rfl rfl ?_
     refine zI [_, _, _, _, _, _] rfl ?_
     refine dw_end rfl ?_
     refine qC rfl ?_
     refine qA (qX rfl (by omega)) ?_
     refine qA (qD (v := .int .i64 _) rfl) ?_
     refine ⟨(k + 1, a2, gs ++ [[brkY z1 z2 z3 z4]]), ⟨rfl, trivial⟩, rfl, rfl, (zL (zL E_k E6) E3a), fun h3 E3 => ⟨hkl, by rw [List.flatMap_append]; exact ha2, by rw [htk]; exact (Els.snoc (K3.ext (TB.mono m) (zL E6 E3a)) (tb_of hpk (BB.ext E3a))).ext (TB.mono m) E3, one_len K4 rfl⟩, by first | omega | (dsimp only; omega), ?_⟩
     repeat (first | exact wK _ _ _ | refine wM (by decide) ?_ | refine wJ rfl ?_ | refine wN rfl ?_)
   ·skip
    have hke : k = ns.length := by have := geI hk; omega
    subst hke
    rw [List.take_length] at K3
    obtain ⟨ms, hms⟩ : ∃ ms, ms = ns.map (pickF m) := ⟨_, rfl⟩
    have hmh : machL m hs = ms := by rw [machL, ← hns, hms]
    have hml : ms.length = ns.length := by rw [hms, List.length_map]
    have hfm : ∀ l ∈ ms, ∀ f ∈ l, FOK m f := fun l hl f hf => by
     rw [hms] at hl
     obtain ⟨x, _, rfl⟩ := List.mem_map.1 hl
     exact pick_fok M x f hf
    rw [← hms] at K3
    have K3l := K3.1
    refine zA ?_
    obtain ⟨p7, A7, n7, c7⟩ := a
    obtain rfl : n7 = ms.length := by have := AccR.len K2; rw [zE (enc := id) (m := 1) K4] at this; dsimp only at this; omega
    dsimp only
    refine goes_pubO 4 rfl ?_
    intro g1 G1 P1
    refine wE [_, _, _, _, _] rfl ?_
    have RB : Row g1 1 id A7 gs := ⟨K4, AccR.rd K2 P1⟩
    have EB : Els g1 (TB m) ms gs := K3.ext (TB.mono m) G1
    refine qE ?_
    refine qC rfl ?_
    refine qN 3 (v := .slice _ _ _) rfl rfl rfl rfl ?_
    refine qA (wP rfl rfl) ?_
    refine wG 2 (v := .int .i64 _) (vs := [_]) (c' := [_]) rfl rfl rfl rfl rfl rfl rfl rfl rfl ?_
    refine qH [_, _, _, _, _] rfl ?_
    refine qE ?_
    refine qE ?_
    refine qC rfl ?_
    refine wH 0 (vs := [.int .i64 _, .int .i64 _, .int .i64 _, .int .i64 _, .int .i64 _, .slice _ _ _, .slice _ _ _, .slice _ _ _, .slice _ _ _]) rfl rfl rfl rfl rfl ?_
    refine qV (caps := []) (vs := [.agg #[.int .i64 _, .int .i64 _, .int .i64 _, .int .i64 _, .int .i64 _, .slice _ _ _, .slice _ _ _, .slice _ _ _, .slice _ _ _]]) rfl rfl rfl (hands_ok m (by omega) (by omega) AB AQ AL AW cB cQ cL cW g1) ?_
    rintro y h6 E6 It
    refine qT ?_
    refine xp_rangeFunc rfl ?_
    intro r l lp htm hpr has hbd V0
    refine CallV.mono (It (.yield l) #[] #[] (TestI m ms _ _ b4 b5 l lp h6) (fun _ _ => False) (fun k h1 h2 M E I => I.ext E) (fun _ _ _ _ f => f) ?_ h6 _ (Ext.refl _) ⟨Ext.refl _, none, none, 0, 0, ⟨row_nil _ _, row_nil _ _⟩, rfl⟩ V0) ?_ (fun _ _ y => y)
    ·rintro k x v hc M' hk hT ⟨E7, HA, OA, cH, cO, RH, rfl⟩
     obtain ⟨HB, OB, cHB, cOB, rfl, RX⟩ := HandV.open hT
     intro V
     refine callV_yield (zC V (i := 5) rfl) hpr rfl htm has hbd ?_
     refine round_enter (i := 5) (r := lp) ?_ V
     refine wE [_, _, _, _, _, _] rfl ?_
     refine qC rfl ?_
     refine wW (cs := [_, _]) rfl rfl fun b13 hb13 => ?_
     refine qH [_, _, _, _, _, _, _] rfl ?_
     refine wG 6 (v := .agg #[.slice _ _ _, .slice _ _ _]) (vs := [_, _]) (c' := [_, _]) rfl rfl rfl rfl rfl rfl rfl rfl rfl ?_
     refine qH [_, _, _, _, _, _, _] rfl ?_
     refine ⟨rfl, none, rfl, ?_⟩
     refine wE [_, _, _, _, _, _, _] rfl ?_
     refine qT ?_
     refine qE ?_
     refine qC rfl ?_
     refine op_makeMap fun b64 hb64 => ?_
     refine qH [_, _, _, _, _, _, _, _] rfl ?_
     refine qA (qF (v := .map _) rfl) ?_
     refine qE ?_
     refine qC rfl ?_
     refine qA (qF (v := .int .i64 _) rfl) ?_
     refine qE ?_
     refine qE ?_
     refine qC rfl ?_
     refine qN 3 (v := .slice _ _ _) rfl rfl rfl rfl ?_
     refine qA (wP rfl rfl) ?_
     refine qA (qD (v := .int .i64 _) rfl) ?_
     refine qT ?_
     have HX : HOK m x := hands_hok rg hk
     obtain ⟨ss, hss⟩ : ∃ ss, ss = sndL m ms x := ⟨_, rfl⟩
     have hsl : ss.length = ms.length := by rw [hss, sndL, List.length_map]
     have hwl := worst_le ss
     refine xp_loopL [15, 17, 18, 67, 68, 69, 70, 71, 72, 73, 74, 75, 76, 77, 78, 79, 80, 81, 82, 83] 8 (α := Nat) (fun j => [(67, .int .i64 j), (15, .int .i64 (worstN ss j : Nat))]) (fun j L => L.set 7 (some (b64, mapO (encs lvV (cntL (ss.take j).reverse))))) (fun j h_j => j ≤ ms.length) (fun j => ms.length - j) (0) ⟨rfl, rfl, trivial⟩ (rfl) (Nat.zero_le _) ?_
     rintro j T4 h_j E_j J_j
     refine wE [_, _, _, _, _, _, _, _] rfl ?_
     refine qE ?_
     refine qC rfl ?_
     refine qA (qJ (v := .bool _) rfl) ?_
     refine qE ?_
     refine wA rfl (fun hj => ?_) (fun hj => ?_)
     ·skip
      have hjl : j < ms.length := ltI hj
      have hsj : ss[j]'(by omega) = soundsB m ms[j] x := by simp [hss, sndL]
      have hsd : ss.getD j 0 = soundsB m ms[j] x := by rw [List.getD_eq_getElem?_getD, List.getElem?_eq_getElem (by omega)]; exact hsj
      have hrv : (ss.take (j + 1)).reverse = soundsB m ms[j] x :: (ss.take j).reverse := by rw [take_snoc (by omega : j < ss.length), List.reverse_append, hsj]; rfl
      have hct : (ss.take j).reverse.count (soundsB m ms[j] x) ≤ j := Nat.le_trans List.count_le_length (by simp; omega)
      obtain ⟨hjc, y0, e0, z1, z2, z3, z4, rfl, BB⟩ := (EB.ext (TB.mono m) (zL E6 (zL E7 E_j))).at hjl
      obtain ⟨g, off, hA, hcc⟩ := (RB.ext (zL E6 (zL E7 E_j))).at (by omega) hjc
      have hcc : Cells h_j g (off + j * 1) [brkY z1 z2 z3 z4] := by rw [← e0]; exact hcc
      refine qP ?_
      refine qE ?_
      refine qT ?_
      refine qE ?_
      refine qC rfl ?_
      refine qA (wU rfl hA rfl rfl rfl (by omega) (by omega)) ?_
      refine wT (v := .func _ _ _) rfl rfl (hcc 0 _ rfl) ?_
      refine qA (qF (v := _) rfl) ?_
      refine qE ?_
      refine qC rfl ?_
      refine qA (qD (v := _) rfl) ?_
      refine wH 6 (vs := [.slice _ _ _, .slice _ _ _]) rfl rfl rfl rfl rfl ?_
      refine qV  (vs := _) rfl rfl rfl (brk_ok hph m M ms[j] (hfm _ (List.getElem_mem hjl)) x HX z1 z2 z3 z4 HB OB cHB cOB h_j BB (RX.ext E_j)) ?_
      rintro _ h8 E8 rfl
      obtain ⟨s, hs'⟩ : ∃ s, s = soundsB m ms[j] x := ⟨_, rfl⟩
      rw [← hs'] at hrv hct hsd ⊢
      refine qA (qF (v := .int .i64 _) rfl) ?_
      refine qE ?_
      refine qC rfl ?_
      refine qA (qD (v := .map _) rfl) ?_
      refine qA (qD (v := .int .i64 _) rfl) ?_
      refine op_lookup 7 (a := s) (z := .int .i64 0) lvK rfl rfl rfl rfl rfl (cnt_find s (ss.take j).reverse) ?_
      refine qA (qX rfl (by omega)) ?_
      refine op_mapUpdate 7 (a := s) lvK rfl rfl rfl rfl rfl ?_
      refine qH [_, _, _, _, _, _, _, _] rfl ?_
      refine qC rfl ?_
      refine qA (qD (v := .int .i64 _) rfl) ?_
      refine qA (qD (v := .map _) rfl) ?_
      refine qA (qD (v := .int .i64 _) rfl) ?_
      refine op_lookup 7 (a := s) (z := .int .i64 0) (l := cntL (s :: (ss.take j).reverse)) lvK rfl rfl rfl rfl rfl (cnt_find s (s :: (ss.take j).reverse)) ?_
      refine qA (pv_max rfl rfl) ?_
      refine qA (qF (v := .int .i64 _) rfl) ?_
      refine qC rfl ?_
      refine qA (qX rfl (by omega)) ?_
      refine qA (qD (v := .int .i64 _) rfl) ?_
      refine ⟨j + 1, ⟨rfl, intE (by rw [worstN, hsd, hrv]; omega), trivial⟩, rfl, by rw [hrv]; rfl, (zL E_j E8), fun h3 E3 => hjl, by first | omega | (dsimp only; omega), ?_⟩
      repeat (first | exact wK _ _ _ | refine wM (by decide) ?_ | refine wJ rfl ?_ | refine wN rfl ?_)
     ·skip
      have hje : j = ms.length := by have := geI hj; omega
      subst hje
      have hb1 := bestN_succ hk (ms := ms)
      refine zA ?_
      refine qE ?_
      refine qC rfl ?_
      refine qA (qD (v := .int .i64 _) rfl) ?_
      refine qN 2 (v := .int .i64 _) rfl rfl rfl rfl ?_
      refine qA (qJ (v := .bool _) rfl) ?_
      refine wA rfl (fun hw => ?_) (fun hw => ?_)
      ·skip
       have hw' : worstN (sndL m ms x) ms.length < (bestN m ms k).2 := by rw [← hss]; have := of_decide_eq_true hw; omega
       rw [bestS, if_pos hw'] at hb1
       refine qC rfl ?_
       refine wH 6 (vs := [.slice _ _ _, .slice _ _ _]) rfl rfl rfl rfl rfl ?_
       refine qA (qD (v := .int .i64 _) rfl) ?_
       refine wG 1 (v := .agg #[.slice _ _ _, .slice _ _ _]) (vs := [_, _]) (c' := [_, _]) rfl rfl rfl rfl rfl rfl rfl rfl rfl ?_
       refine qH [_, _, _, _, _, _, _, _] rfl ?_
       refine wG 2 (v := .int .i64 _) (vs := [_]) (c' := [_]) rfl rfl rfl rfl rfl rfl rfl rfl rfl ?_
       refine qH [_, _, _, _, _, _, _, _] rfl ?_
       intro V2
       have V3 := valid_set (o' := obL lp .ready none) V2 (i := 5) rfl
       obtain ⟨h9, E9, e9, V9⟩ := wl_drop [_, _] [_, _, _, _, _, _] V3
       refine ⟨rfl, ⟨_, _, rfl⟩, h9, _, e9, V9, zL E_j E9, .inl ⟨rfl, zL E7 (zL E_j E9), HB, OB, cHB, cOB, ?_, ?_⟩⟩
       ·rw [hb1]; exact RX.ext (zL E_j E9)
       ·rw [hb1, ← hss]
      ·skip
       have hw' : ¬ worstN (sndL m ms x) ms.length < (bestN m ms k).2 := by rw [← hss]; have := of_decide_eq_false hw; omega
       rw [bestS, if_neg hw'] at hb1
       refine qP ?_
       intro V2
       have V3 := valid_set (o' := obL lp .ready none) V2 (i := 5) rfl
       obtain ⟨h9, E9, e9, V9⟩ := wl_drop [_, _] [_, _, _, _, _, _] V3
       refine ⟨rfl, ⟨_, _, rfl⟩, h9, _, e9, V9, zL E_j E9, .inl ⟨rfl, zL E7 (zL E_j E9), HA, OA, cH, cO, ?_, ?_⟩⟩
       ·rw [hb1]; exact RH.ext (zL E_j E9)
       ·rw [hb1]
    ·rintro v H ⟨h', M', rfl, V', E', ⟨E7, HA, OA, cH, cO, RH, rfl⟩ | f⟩
     ·refine ⟨h', [_, _, _, _, _], .ready, none, rfl, V', by simp, fun h'' E'' => ?_⟩
      refine wE [_, _, _, _, _] rfl ?_
      refine qE ?_
      refine qE ?_
      refine qC rfl ?_
      refine qN 2 (v := .int .i64 _) rfl rfl rfl rfl ?_
      refine qN 3 (v := .slice _ _ _) rfl rfl rfl rfl ?_
      refine qA (wP rfl rfl) ?_
      refine qA (qJ (v := .bool _) rfl) ?_
      have eT : testM m hs = bestN m ms (handsM m).length := by rw [testM, hmh]
      rw [hmh, eT] at eE
      refine wA rfl (fun hq => ?_) (fun hq => ?_)
      ·skip
       have hq' : (bestN m ms (handsM m).length).2 = ms.length := by simp at hq; omega
       rw [if_pos hq'] at eE
       refine qE ?_
       refine qC rfl ?_
       refine qA (wX (zc := [_, _]) (vs := []) (cs := [_, _]) rfl rfl rfl rfl rfl rfl) ?_
       refine wG 1 (v := .agg #[.slice _ _ _, .slice _ _ _]) (vs := [_, _]) (c' := [_, _]) rfl rfl rfl rfl rfl rfl rfl rfl rfl ?_
       refine qH [_, _, _, _, _] rfl ?_
       refine wG 2 (v := .int .i64 _) (vs := [_]) (c' := [_]) rfl rfl rfl rfl rfl rfl rfl rfl rfl ?_
       refine qH [_, _, _, _, _] rfl ?_
       refine qA (qF (v := .int .i64 _) rfl) ?_
       refine wD ?_
       refine res_listM (vs := [_, _, _]) rfl Tryd.results22 ⟨resV_agg 1 rfl rfl rfl rfl rfl (vs := [.slice _ _ _, .slice _ _ _]) rfl, resV_one 2 rfl rfl rfl rfl (v := .int .i64 _) rfl, qM rfl rfl, trivial⟩ fun hM EM V => ?_
       refine ⟨zL (zL (zL (zL (zL (zL (zL (zL E3 E4) E5) E_k) G1) E6) E') E'') (zL EM (qZ V)), .agg #[.slice none 0 0, .slice none 0 0], by rw [testN, eE, if_neg (by decide)]; rfl, ?_⟩
       rw [testA, eE, if_neg (by decide)]
       exact hand_nil _
      ·skip
       have hq' : ¬ (bestN m ms (handsM m).length).2 = ms.length := by simp at hq; omega
       rw [if_neg hq'] at eE
       refine qP ?_
       refine qE ?_
       refine xp_dw [] rfl rfl rfl ?_
       refine wQ (i := 0) rfl (by decide +kernel) ?_
       refine wH 1 (vs := [.slice _ _ _, .slice _ _ _]) rfl rfl rfl rfl rfl ?_
       refine wQ (i := 1) rfl (by decide +kernel) ?_
       refine qN 2 (v := .int .i64 _) rfl rfl rfl rfl ?_
       refine dw_eff (i := 2) rfl (by decide +kernel) ?_
       refine wG 1 (v := .agg #[.slice _ _ _, .slice _ _ _]) (vs := [_, _]) (c' := [_, _]) rfl rfl rfl rfl rfl rfl rfl rfl rfl ?_
       refine ⟨Ext.refl _, ?_⟩
       refine zI [_, _, _, _, _] rfl ?_
       refine dw_last (i := 3) rfl (by decide +kernel) (by decide +kernel) ?_
       refine wG 2 (v := .int .i64 _) (vs := [_]) (c' := [_]) rfl rfl rfl rfl rfl rfl rfl rfl rfl ?_
       refine zI [_, _, _, _, _] rfl ?_
       refine qO (i := 4) rfl (by decide +kernel) (qF (v := .int .i64 _) rfl) ?_
       refine dw_end rfl ?_
       refine wD ?_
       refine res_listM (vs := [_, _, _]) rfl Tryd.results22 ⟨resV_agg 1 rfl rfl rfl rfl rfl (vs := [.slice _ _ _, .slice _ _ _]) rfl, resV_one 2 rfl rfl rfl rfl (v := .int .i64 _) rfl, qM rfl rfl, trivial⟩ fun hM EM V => ?_
       refine ⟨zL (zL (zL (zL (zL (zL (zL (zL E3 E4) E5) E_k) G1) E6) E') E'') (zL EM (qZ V)), handV HA OA cH cO (bestN m ms (handsM m).length).1, by rw [testN, eE, if_pos rfl, eT]; rfl, ?_⟩
       rw [testA, eE, if_pos rfl, eT]
       exact (RH.ext (zL E'' (zL EM (qZ V)))).close
     ·exact f.elim
end
end Go.Proofs.YtmpahfdiebhdbaaDoor
namespace Go.Proofs.YtmpahfdiebhdbaaDoor
open Go Go.HL Go.Proofs Go.Wx Go.Rd
section
variable [Lvl]
set_option maxRecDepth 100000
def mach0 : MachP := ⟨3, 4, 1, 6, 2, [0, 1], [⟨0, 0, 2⟩, ⟨0, 1, 4⟩, ⟨1, 1, 3⟩, ⟨2, 2, 1⟩], [⟨0, 2, 0, 2⟩, ⟨1, 2, -1, 4⟩], [1, 2, 3, 4]⟩
theorem machine_ok (h : AH) : FnT Tryd.prog 4 #[] h (fun v h' => ∃ AB AQ AL AW cB cQ cL cW, v = machV AB AQ AL AW cB cQ cL cW mach0 ∧ MachR h' AB AQ AL AW mach0) := by
 refine wL Tryd.func4 rfl Tryd.ntmps4 rfl ?_
 refine qE ?_
 refine qC rfl ?_
 refine wW (cs := [_, _, _, _, _, _, _, _, _]) rfl rfl fun b0 hb0 => ?_
 refine qH [_] rfl ?_
 refine qE ?_
 refine qC rfl ?_
 refine qK (zc := [_]) (vs := [(0, .int .i64 _), (1, .int .i64 _)]) (cs := [_, _]) rfl rfl rfl rfl rfl rfl rfl fun b1 hb1 => ?_
 refine qH [_, _] rfl ?_
 refine qA (wX (zc := [_, _, _]) (vs := [(2, .int .i64 _)]) (cs := [_, _, _]) rfl rfl rfl rfl rfl rfl) ?_
 refine qA (wX (zc := [_, _, _]) (vs := [(1, .int .i64 _), (2, .int .i64 _)]) (cs := [_, _, _]) rfl rfl rfl rfl rfl rfl) ?_
 refine qA (wX (zc := [_, _, _]) (vs := [(0, .int .i64 _), (1, .int .i64 _), (2, .int .i64 _)]) (cs := [_, _, _]) rfl rfl rfl rfl rfl rfl) ?_
 refine qA (wX (zc := [_, _, _]) (vs := [(0, .int .i64 _), (1, .int .i64 _), (2, .int .i64 _)]) (cs := [_, _, _]) rfl rfl rfl rfl rfl rfl) ?_
 refine qK (zc := [_, _, _]) (vs := [(0, .agg #[.int .i64 _, .int .i64 _, .int .i64 _]), (1, .agg #[.int .i64 _, .int .i64 _, .int .i64 _]), (2, .agg #[.int .i64 _, .int .i64 _, .int .i64 _]), (3, .agg #[.int .i64 _, .int .i64 _, .int .i64 _])]) (cs := [_, _, _, _, _, _, _, _, _, _, _, _]) rfl rfl rfl rfl rfl rfl rfl fun b6 hb6 => ?_
 refine qH [_, _, _] rfl ?_
 refine qA (wX (zc := [_, _, _, _]) (vs := [(1, .int .i64 _), (3, .int .i64 _)]) (cs := [_, _, _, _]) rfl rfl rfl rfl rfl rfl) ?_
 refine qA (wX (zc := [_, _, _, _]) (vs := [(0, .int .i64 _), (1, .int .i64 _), (2, .int .i64 _), (3, .int .i64 _)]) (cs := [_, _, _, _]) rfl rfl rfl rfl rfl rfl) ?_
 refine qK (zc := [_, _, _, _]) (vs := [(0, .agg #[.int .i64 _, .int .i64 _, .int .i64 _, .int .i64 _]), (1, .agg #[.int .i64 _, .int .i64 _, .int .i64 _, .int .i64 _])]) (cs := [_, _, _, _, _, _, _, _]) rfl rfl rfl rfl rfl rfl rfl fun b9 hb9 => ?_
 refine qH [_, _, _, _] rfl ?_
 refine qK (zc := [_]) (vs := [(0, .int .i64 _), (1, .int .i64 _), (2, .int .i64 _), (3, .int .i64 _)]) (cs := [_, _, _, _]) rfl rfl rfl rfl rfl rfl rfl fun b10 hb10 => ?_
 refine qH [_, _, _, _, _] rfl ?_
 refine qA (wX (zc := [_, _, _, _, _, _, _, _, _]) (vs := [(0, .int .i64 _), (1, .int .i64 _), (2, .int .i64 _), (3, .int .i64 _), (4, .int .i64 _), (5, .slice _ _ _), (6, .slice _ _ _), (7, .slice _ _ _), (8, .slice _ _ _)]) (cs := [_, _, _, _, _, _, _, _, _]) rfl rfl rfl rfl rfl rfl) ?_
 refine wG 0 (v := .agg #[.int .i64 _, .int .i64 _, .int .i64 _, .int .i64 _, .int .i64 _, .slice _ _ _, .slice _ _ _, .slice _ _ _, .slice _ _ _]) (vs := [_, _, _, _, _, _, _, _, _]) (c' := [_, _, _, _, _, _, _, _, _]) rfl rfl rfl rfl rfl rfl rfl rfl rfl ?_
 refine qH [_, _, _, _, _] rfl ?_
 refine wD ?_
 refine qS (vs := [_]) Tryd.results4 ⟨resV_agg 0 rfl rfl rfl rfl rfl (vs := [.int .i64 _, .int .i64 _, .int .i64 _, .int .i64 _, .int .i64 _, .slice _ _ _, .slice _ _ _, .slice _ _ _, .slice _ _ _]) rfl, trivial⟩ fun V => ?_
 exact ⟨(qZ V), some ⟨b1, 0, none⟩, some ⟨b6, 0, none⟩, some ⟨b9, 0, none⟩, some ⟨b10, 0, none⟩, 2, 4, 2, 4, rfl, wS (enc := intC) (m := 1) (l := mach0.buttons) (fun _ _ => rfl) (zC V (i := 1) rfl), wS (enc := pinC) (m := 3) (l := mach0.pins) (fun _ _ => rfl) (zC V (i := 2) rfl), wS (enc := linkC) (m := 4) (l := mach0.links) (fun _ _ => rfl) (zC V (i := 3) rfl), wS (enc := intC) (m := 1) (l := mach0.weights) (fun _ _ => rfl) (zC V (i := 4) rfl)⟩
theorem pressed_ok (l : List Int) (A : Option Addr) (c : Nat) (h : AH) : FnT Tryd.prog 7 #[.slice A l.length c] h (fun v _ => v = handV A none c 0 ⟨l, []⟩) := by
 refine wL Tryd.func7 rfl Tryd.ntmps7 rfl ?_
 refine qE ?_
 refine qC rfl ?_
 refine wW (cs := [_, _]) rfl rfl fun b2 hb2 => ?_
 refine qH [_] rfl ?_
 refine qE ?_
 refine qC rfl ?_
 refine qA (qD (v := .slice _ _ _) rfl) ?_
 refine qA (wX (zc := [_, _]) (vs := [(0, .slice _ _ _)]) (cs := [_, _]) rfl rfl rfl rfl rfl rfl) ?_
 refine wG 0 (v := .agg #[.slice _ _ _, .slice _ _ _]) (vs := [_, _]) (c' := [_, _]) rfl rfl rfl rfl rfl rfl rfl rfl rfl ?_
 refine qH [_] rfl ?_
 refine wD ?_
 refine qS (vs := [_]) Tryd.results7 ⟨resV_agg 0 rfl rfl rfl rfl rfl (vs := [.slice _ _ _, .slice _ _ _]) rfl, trivial⟩ fun V => ?_
 exact ⟨(qZ V), rfl⟩
def heard0 (l : List Int) : List HeardP := [⟨⟨[0], []⟩, l⟩]
theorem sounded_ok (l : List Int) (A : Option Addr) (c : Nat) (h : AH) (R : Row h 1 intC A l) : FnT Tryd.prog 21 #[.slice A l.length c] h (fun v h' => ∃ UA cU cs, v = .slice UA (heard0 l).length cU ∧ Row h' 3 id UA cs ∧ Els h' TU (heard0 l) cs) := by
 refine wL Tryd.func21 rfl Tryd.ntmps21 rfl ?_
 refine qE ?_
 refine qC rfl ?_
 refine qA (qF (v := .slice _ _ _) rfl) ?_
 refine qE ?_
 refine qC rfl ?_
 refine qK (zc := [_]) (vs := [(0, .int .i64 _)]) (cs := [_]) rfl rfl rfl rfl rfl rfl rfl fun b3 hb3 => ?_
 refine qH [_] rfl ?_
 refine qV (caps := []) (vs := [.slice _ _ _]) rfl rfl rfl (pressed_ok [0] _ _ h) ?_
 rintro _ h3 E3 rfl
 refine qA (qD (v := .slice _ _ _) rfl) ?_
 refine qA (wX (zc := [_, _, _]) (vs := [(0, .agg #[.slice _ _ _, .slice _ _ _]), (1, .slice _ _ _)]) (cs := [_, _, _]) rfl rfl rfl rfl rfl rfl) ?_
 refine qK (zc := [_, _, _]) (vs := [(0, .agg #[.slice _ _ _, .slice _ _ _, .slice _ _ _])]) (cs := [_, _, _]) rfl rfl rfl rfl rfl rfl rfl fun b7 hb7 => ?_
 refine qH [_, _] rfl ?_
 refine qA (qF (v := .slice _ _ _) rfl) ?_
 refine wD ?_
 refine qS (vs := [_]) Tryd.results21 ⟨qM rfl rfl, trivial⟩ fun V => ?_
 refine ⟨(zL E3 (qZ V)), some ⟨b7, 0, none⟩, 1, [[.slice (some ⟨b3, 0, none⟩) 1 1, .slice none 0 0, .slice A l.length c]], rfl, wS (enc := id) (m := 3) (l := [[.slice (some ⟨b3, 0, none⟩) 1 1, .slice none 0 0, .slice A l.length c]]) (fun x hx => by simp at hx; subst hx; rfl) (zC V (i := 1) rfl), rfl, ?_⟩
 intro i x cc h1 h2
 match i, h1, h2 with
 | 0, h1, h2 =>
  cases h1; cases h2
  exact ⟨_, _, _, rfl, ⟨some ⟨b3, 0, none⟩, 1, rfl, wS (enc := intC) (m := 1) (l := [0]) (fun _ _ => rfl) (zC V (i := 0) rfl)⟩, ⟨none, 0, rfl, row_nil _ _⟩, ⟨A, c, rfl, R.ext (zL E3 (qZ V))⟩⟩
 | i + 1, h1, h2 => simp [heard0] at h1
theorem sameHands_ok (a b : HandP) (HA OA HB OB : Option Addr) (cA oA cB oB : Nat) (h : AH) (Ra : HandR h HA OA a) (Rb : HandR h HB OB b) (h1 : a.buttons.length < 2 ^ 40) (h2 : a.on.length < 2 ^ 40) :
  FnT Tryd.prog 23 #[handV HA OA cA oA a, handV HB OB cB oB b] h (fun v _ => v = .bool (decide (a.buttons = b.buttons) && decide (a.on = b.on))) := by
 refine wL Tryd.func23 rfl Tryd.ntmps23 rfl ?_
 refine qE ?_
 refine qC rfl ?_
 refine op_box (v := .agg #[.slice _ _ _, .slice _ _ _]) (cs := [_, _]) rfl rfl fun b2 hb2 => ?_
 refine qH [_] rfl ?_
 refine op_box (v := .agg #[.slice _ _ _, .slice _ _ _]) (cs := [_, _]) rfl rfl fun b3 hb3 => ?_
 refine qH [_, _] rfl ?_
 refine qA (qF (v := .bool _) rfl) ?_
 refine qE ?_
 refine qC rfl ?_
 refine qA (qI rfl rfl rfl rfl 0 rfl) ?_
 refine qN 0 (v := .slice _ _ _) rfl rfl rfl rfl ?_
 refine qA (qI rfl rfl rfl rfl 0 rfl) ?_
 refine qN 1 (v := .slice _ _ _) rfl rfl rfl rfl ?_
 refine qV (caps := []) (vs := [.slice _ _ _, .slice _ _ _]) rfl rfl rfl (sameInts_ok a.buttons b.buttons _ _ _ _ h (Ra.b.ext (Ext.refl _)) (Rb.b.ext (Ext.refl _)) h1) ?_
 rintro _ h3 E3 rfl
 refine qA (qD (v := .bool _) rfl) ?_
 by_cases hp : a.buttons = b.buttons
 ·have hb : decide (a.buttons = b.buttons) = true := by simpa using hp
  refine qG rfl hb ?_
  refine qA (qI rfl rfl rfl rfl 1 rfl) ?_
  refine qG rfl hb ?_
  refine qN 0 (v := .slice _ _ _) rfl rfl rfl rfl ?_
  refine qG rfl hb ?_
  refine qA (qI rfl rfl rfl rfl 1 rfl) ?_
  refine qG rfl hb ?_
  refine qN 1 (v := .slice _ _ _) rfl rfl rfl rfl ?_
  refine qG rfl hb ?_
  refine qV (caps := []) (vs := [.slice _ _ _, .slice _ _ _]) rfl rfl rfl (sameInts_ok a.on b.on _ _ _ _ h3 (Ra.o.ext E3) (Rb.o.ext E3) h2) ?_
  rintro _ h4 E4 rfl
  refine qA (wV rfl hb (v := .bool _) rfl) ?_
  refine qA (qF (v := .bool _) rfl) ?_
  refine wD ?_
  refine qS (vs := [_]) Tryd.results23 ⟨qM rfl rfl, trivial⟩ fun V => ?_
  exact ⟨(zL (zL E3 E4) (qZ V)), by rw [hb]; rfl⟩
 ·have hb : decide (a.buttons = b.buttons) = false := by simpa using hp
  refine qR rfl hb ?_
  refine qR rfl hb ?_
  refine qR rfl hb ?_
  refine qR rfl hb ?_
  refine qR rfl hb ?_
  refine qA (wI rfl hb (v := .bool _) rfl) ?_
  refine qA (qF (v := .bool _) rfl) ?_
  refine wD ?_
  refine qS (vs := [_]) Tryd.results23 ⟨qM rfl rfl, trivial⟩ fun V => ?_
  exact ⟨(zL E3 (qZ V)), by rw [hb]; rfl⟩
theorem take_eq {α : Type} {a b : List α} {k : Nat} (ha : k < a.length) (hb : k < b.length) (hl : a.length = b.length) (h : a.take k = b.take k) : (a.length = b.length ∧ a.take (k + 1) = b.take (k + 1)) ↔ a[k] = b[k] := by
 rw [List.take_succ_eq_append_getElem ha, List.take_succ_eq_append_getElem hb, h]
 exact ⟨fun e => by have := List.append_cancel_left e.2; injection this, fun e => ⟨hl, by rw [e]⟩⟩
theorem sameLists_ok (a b : List (List Int)) (A B : Option Addr) (ca cb : Nat) (cs ds : List (List Value)) (h : AH) (Ra : Row h 1 id A cs) (Ea : Els h TL a cs) (Rb : Row h 1 id B ds) (Eb : Els h TL b ds) (ha : a.length < 2 ^ 40) (hx : ∀ x ∈ a, x.length < 2 ^ 40) :
  FnT Tryd.prog 13 #[.slice A a.length ca, .slice B b.length cb] h (fun v _ => v = .bool (decide (a = b))) := by
 refine wL Tryd.func13 rfl Tryd.ntmps13 rfl ?_
 refine qE ?_
 refine qC rfl ?_
 refine qA (qF (v := .bool _) rfl) ?_
 refine qE ?_
 refine qC rfl ?_
 refine qA (qD (v := .slice _ _ _) rfl) ?_
 refine qA (wP rfl rfl) ?_
 refine qA (qD (v := .slice _ _ _) rfl) ?_
 refine qA (wP rfl rfl) ?_
 refine qA (qJ (v := .bool _) rfl) ?_
 refine qA (qF (v := .bool _) rfl) ?_
 refine qE ?_
 refine qE ?_
 refine qC rfl ?_
 refine qA (qF (v := .int .i64 _) rfl) ?_
 refine qT ?_
 refine xp_loopB [5, 6, 12, 13, 14, 15, 16, 17, 18, 19, 20, 21, 22, 23, 24, 25, 26, 27, 28, 29] 0 (α := Nat) (fun k => [(5, .bool (decide (a.length = b.length ∧ a.take k = b.take k))), (6, .int .i64 k)]) (fun k => _) (fun k h_k => k ≤ a.length) (fun k => a.length - k) (0) ⟨by refine boolI ?_; simp; omega, rfl, trivial⟩ (rfl) (Nat.zero_le _) ?_
 rintro k T1 h_k E_k J_k
 refine wE [] rfl ?_
 refine qE ?_
 refine qE ?_
 refine qC rfl ?_
 refine qA (qD (v := .bool _) rfl) ?_
 refine qA (qD (v := .bool _) rfl) ?_
 by_cases hp : a.length = b.length ∧ a.take k = b.take k
 ·have hb : decide (a.length = b.length ∧ a.take k = b.take k) = true := by simpa using hp
  refine qG rfl hb ?_
  refine qA (qD (v := .int .i64 _) rfl) ?_
  refine qG rfl hb ?_
  refine qA (qD (v := .slice _ _ _) rfl) ?_
  refine qG rfl hb ?_
  refine qA (wP rfl rfl) ?_
  refine qG rfl hb ?_
  refine qA (qJ (v := .bool _) rfl) ?_
  refine qA (wV rfl hb (v := .bool _) rfl) ?_
  refine wA rfl (fun ht => ?_) (fun ht => ?_)
  ·skip
   have hlt : k < a.length := by simpa using ht
   have hlt2 : k < b.length := by omega
   obtain ⟨hka, v1, e1, ⟨X1, c1, rfl, r1⟩⟩ := (Ea.ext TL.mono E_k).at hlt
   obtain ⟨hkb, v2, e2, ⟨X2, c2, rfl, r2⟩⟩ := (Eb.ext TL.mono E_k).at hlt2
   obtain ⟨g, off, hA, hc⟩ := (Ra.ext E_k).at (by omega) hka
   obtain ⟨g2, off2, hB, hd⟩ := (Rb.ext E_k).at (by omega) hkb
   have hc : Cells h_k g (off + k * 1) [.slice X1 a[k].length c1] := by rw [← e1]; exact hc
   have hd : Cells h_k g2 (off2 + k * 1) [.slice X2 b[k].length c2] := by rw [← e2]; exact hd
   refine qP ?_
   refine qE ?_
   refine qT ?_
   refine xp_dw [] rfl rfl rfl ?_
   refine qO (i := 0) rfl (by decide +kernel) (qD (v := .slice _ _ _) rfl) ?_
   refine qO (i := 1) rfl (by decide +kernel) (qD (v := .int .i64 _) rfl) ?_
   refine qO (i := 2) rfl (by decide +kernel) (wU rfl hA rfl rfl rfl (by omega) (by omega)) ?_
   refine wQ (i := 3) rfl (by decide +kernel) ?_
   refine wT (v := .slice _ _ _) rfl rfl ((hc) 0 _ rfl) ?_
   refine qO (i := 4) rfl (by decide +kernel) (qD (v := .slice _ _ _) rfl) ?_
   refine qO (i := 5) rfl (by decide +kernel) (qD (v := .int .i64 _) rfl) ?_
   refine qO (i := 6) rfl (by decide +kernel) (wU rfl hB rfl rfl rfl (by omega) (by omega)) ?_
   refine wQ (i := 7) rfl (by decide +kernel) ?_
   refine wT (v := .slice _ _ _) rfl rfl ((hd) 0 _ rfl) ?_
   refine dw_last (i := 8) rfl (by decide +kernel) (by decide +kernel) ?_
   refine qV (caps := []) (vs := [.slice _ _ _, .slice _ _ _]) rfl rfl rfl (sameInts_ok a[k] b[k] _ _ _ _ h_k r1 r2 (hx _ (List.getElem_mem hlt))) ?_
   rintro _ h4 E4 rfl
   refine qO (i := 9) rfl (by decide +kernel) (qF (v := .bool _) rfl) ?_
   refine dw_end rfl ?_
   refine qC rfl ?_
   refine qA (qD (v := .int .i64 _) rfl) ?_
   refine qA (qX rfl (by omega)) ?_
   refine qA (qF (v := .int .i64 _) rfl) ?_
   refine ⟨k + 1, ⟨boolI (by rw [decide_eq_true_iff, decide_eq_true_iff, take_eq hlt hlt2 hp.1 hp.2]), rfl, trivial⟩, rfl, rfl, (zL E_k E4), fun h3 E3 => hlt, by first | omega | (dsimp only; omega), ?_⟩
   repeat (first | exact wK _ _ _ | refine wM (by decide) ?_ | refine wJ rfl ?_ | refine wN rfl ?_)
  ·skip
   refine zA ?_
   refine qE ?_
   refine qC rfl ?_
   refine qA (qD (v := .bool _) rfl) ?_
   refine qA (qF (v := .bool _) rfl) ?_
   refine wD ?_
   refine qS (vs := [_]) Tryd.results13 ⟨qM rfl rfl, trivial⟩ fun V => ?_
   refine ⟨(zL E_k (qZ V)), boolI ?_⟩
   have : k = a.length := by simp at ht; omega
   subst this
   have h2 := hp.2
   rw [hp.1, List.take_length, ← hp.1, List.take_length] at h2
   simp [h2]
 ·have hb : decide (a.length = b.length ∧ a.take k = b.take k) = false := by simpa using hp
  refine qR rfl hb ?_
  refine qR rfl hb ?_
  refine qR rfl hb ?_
  refine qR rfl hb ?_
  refine qA (wI rfl hb (v := .bool _) rfl) ?_
  refine wA rfl (fun ht => ?_) (fun ht => ?_)
  ·cases ht
  ·skip
   refine zA ?_
   refine qE ?_
   refine qC rfl ?_
   refine qA (qD (v := .bool _) rfl) ?_
   refine qA (qF (v := .bool _) rfl) ?_
   refine wD ?_
   refine qS (vs := [_]) Tryd.results13 ⟨qM rfl rfl, trivial⟩ fun V => ?_
   refine ⟨(zL E_k (qZ V)), boolI ?_⟩
   have : a ≠ b := fun e => hp (by rw [e]; exact ⟨rfl, rfl⟩)
   simp [this]
   exact fun x y => hp ⟨x, y⟩
end
end Go.Proofs.YtmpahfdiebhdbaaDoor
namespace Go.HL
open Go
variable [Lvl]
variable {P : Program} {n : Nat} {ops : Array Oper} {i : Nat} {d : Option Tmp} {op : Op} {ty : TypeId} {ps : String} {af : Array Edge} {S : Sl} {L : Pv} {h : AH} {mask : List Bool} {X : Sl → AH → Prop} {dn ac : List Nat}
end Go.HL
namespace Go.HL
open Go
variable [Lvl]
section
variable {P : Program} {n : Nat} {ops : Array Oper}
theorem T1_fin {o : Oper} {S : Sl} {H : AH} {X : Sl → AH → Prop} (t : T1 P n ops o X S H) (f : Fin H) : T1 P n ops o (fun S' H' => Fin H' ∧ X S' H') S H := by
 unfold T1 at t ⊢
 split
 ·rename_i hg
  rw [hg] at t
  exact opW_fin t f
 ·rename_i j w hg
  rw [hg] at t
  obtain ⟨b, h1, h2, h3⟩ := t
  exact ⟨b, h1, fun e => opW_fin (h2 e) f, fun e => ⟨f, h3 e⟩⟩
theorem T1_guard {o : Oper} {j : Nat} {w : Bool} (hg : o.guard = some (j, w)) {S : Sl} {H : AH} {X : Sl → AH → Prop} :
  T1 P n ops o X S H ↔ (gval (ev n S (.tmp (((ops[j]?).bind (·.dst)).getD n))) = some w → T1 P n ops { o with guard := none } X S H) ∧ (gval (ev n S (.tmp (((ops[j]?).bind (·.dst)).getD n))) ≠ some w → X (put S o.dst undef) H) := by
 obtain ⟨d, op, ty, ps, af, gd⟩ := o
 simp only at hg
 subst hg
 constructor
 ·rintro ⟨b, h1, h2, h3⟩
  subst h1
  exact ⟨fun e => h2 e, fun e => h3 e⟩
 ·rintro ⟨h2, h3⟩
  exact ⟨_, rfl, fun e => h2 e, fun e => h3 e⟩
theorem el_left {d : Nat} : ∀ {a b : List Nat}, el d (a ++ b) = false → el d a = false
 | [], _, _ => rfl
 | x :: a, b, h => by
  rw [List.cons_append, zH, Bool.or_eq_false_iff] at h
  rw [zH, h.1, el_left h.2]
  rfl
theorem apart_bare {oi oj : Oper} (h : apart (ops := ops) oi oj = true) : apart (ops := ops) oi { oj with guard := none } = true := by
 unfold apart at h ⊢
 rw [Bool.and_eq_true] at h ⊢
 refine ⟨?_, h.2⟩
 have h1 := h.1
 cases hd : oi.dst with
 | none => rfl
 | some d =>
  rw [hd] at h1
  simp only [Bool.and_eq_true, Bool.not_eq_true'] at h1 ⊢
  refine ⟨?_, h1.2⟩
  have : reads ops { oj with guard := none } = opTmps oj.op ++ [] := rfl
  rw [this, List.append_nil]
  exact el_left h1.1
theorem guard_same {oi oj : Oper} {j : Nat} {w : Bool} (hg : oj.guard = some (j, w)) (hap : apart (ops := ops) oi oj = true) (S : Sl) (v : Value) :
  ev n (put S oi.dst v) (.tmp (((ops[j]?).bind (·.dst)).getD n)) = ev n S (.tmp (((ops[j]?).bind (·.dst)).getD n)) := by
 cases hd : (ops[j]?).bind (·.dst) with
 | none => simp [ev]
 | some d =>
  have := put_agree hap S v d (List.mem_append_right _ (by simp [guardT, hg, hd]))
  simp only [Option.getD_some, ev]
  rw [this]
theorem swap_freeG {oi oj : Oper} {S : Sl} {H : AH} {Y : Sl → AH → Prop} (hf : freeOp oj.op = true) (hap : apart (ops := ops) oi oj = true) (fH : Fin H)
  (t : T1 P n ops oi (fun S' H' => T1 P n ops oj Y S' H') S H) : T1 P n ops oj (fun S' H' => Ext H H' ∧ T1 P n ops oi Y S' H') S H := by
 cases hg : oj.guard with
 | none => exact swap_free hf hg hap fH t
 | some jw =>
  obtain ⟨j, w⟩ := jw
  rw [T1_guard hg]
  constructor
  ·intro hv
   refine swap_free (oj := { oj with guard := none }) hf rfl (apart_bare hap) fH ?_
   refine T1_mono' (fun v H' y => ?_) t
   exact ((T1_guard hg).1 y).1 (by rw [guard_same hg hap]; exact hv)
  ·intro hv
   refine ⟨Ext.refl H, ?_⟩
   have t2 : T1 P n ops oi (fun S' H' => Y (put S' oj.dst undef) H') S H := T1_mono' (fun v H' y => ((T1_guard hg).1 y).2 (by rw [guard_same hg hap]; exact hv)) t
   refine T1_agree (X := fun S' H' => Y (put S' oj.dst undef) H') (fun x hx => (put_agree (apart_symm hap) S undef x hx).symm) ?_ t2
   intro v H' y
   rw [put_swap hap S v undef] at y
   exact y
theorem take_anyG {X : Sl → AH → Prop} {i : Nat} {oi : Oper} (hoi : ops[i]? = some oi) :
  ∀ (m : Nat) (dn ac : List Nat) (G : Gh) (S : Sl) (H : AH), Fin H → (left ops dn).length = m + 1 → ready ops dn i = true → (∀ k, el k (blk ops i) = true → el k dn = false) → GT ops ac G H →
   (∀ g ∈ G, ∀ H1 H2, Ext H1 H2 → g.2 H1 → g.2 H2) →
   (∀ j oj, ops[j]? = some oj → j ≠ i → el j dn = false → el j (blk ops i) = false → freeOp oj.op = true ∧ apart (ops := ops) oi oj = true) →
   T1 P n ops oi (fun S' H' => GT ops (i :: ac) G H' ∧ WG P n ops m (i :: dn) (i :: ac) G X S' H') S H → WG P n ops (m + 1) dn ac G X S H := by
 intro m
 induction m with
 | zero =>
  intro dn ac G S H fH hl hr hal hgt hmo _ w j oj hoj hrj
  obtain ⟨hi, hdi⟩ := ready_lt hr
  obtain ⟨hj, hdj⟩ := ready_lt hrj
  by_cases hji : j = i
  ·subst hji
   rw [hoi] at hoj
   obtain rfl := Option.some.inj hoj
   exact w
  ·exact (left_two hi hj hdi hdj hji hl).elim
 | succ m ih =>
  intro dn ac G S H fH hl hr hal hgt hmo hfr w j oj hoj hrj
  obtain ⟨hi, hdi⟩ := ready_lt hr
  obtain ⟨hj, hdj⟩ := ready_lt hrj
  by_cases hji : j = i
  ·subst hji
   rw [hoi] at hoj
   obtain rfl := Option.some.inj hoj
   exact w
  ·have hnb := not_blk hrj hdi hal
   obtain ⟨hf, hap⟩ := hfr j oj hoj hji hdj hnb
   have w1 : T1 P n ops oi (fun S' H' => T1 P n ops oj (fun S2 H2 => GT ops (j :: i :: ac) G H2 ∧ WG P n ops m (j :: i :: dn) (j :: i :: ac) G X S2 H2) S' H') S H :=
    T1_mono (fun S' H' y => y.2 j oj hoj (ready_more hrj hji)) w
   have w2 := swap_freeG hf hap fH w1
   have w3 : T1 P n ops oj (fun S' H' => Fin H' ∧ Ext H H' ∧ T1 P n ops oi (fun S2 H2 => GT ops (j :: i :: ac) G H2 ∧ WG P n ops m (j :: i :: dn) (j :: i :: ac) G X S2 H2) S' H') S H := by
    exact T1_mono (fun S' H' y => ⟨y.1, y.2.1, y.2.2⟩) (T1_fin w2 fH)
   refine T1_mono ?_ w3
   rintro S' H' ⟨f', hE, y⟩
   have hpd : ∀ k, el k (j :: i :: dn) = el k (i :: j :: dn) := fun k => by simp only [zH]; cases (k == j) <;> cases (k == i) <;> rfl
   have hpa : ∀ k, el k (j :: i :: ac) = true → el k (i :: j :: ac) = true := fun k => by
    simp only [zH, Bool.or_eq_true]
    rintro (h | h | h)
    ·exact .inr (.inl h)
    ·exact .inl h
    ·exact .inr (.inr h)
   have hal' : ∀ k, el k (blk ops i) = true → el k (j :: dn) = false := fun k hk => by
    simp only [zH, hal k hk, Bool.or_false]
    cases hkj : (k == j) with
    | false => rfl
    | true => rw [beq_iff_eq] at hkj; subst hkj; rw [hk] at hnb; cases hnb
   have hgt' : GT ops (j :: ac) G H' := fun g hg2 a => hmo g hg2 H H' hE (hgt g hg2 (alive_less (fun k hk => by simp [zH, hk]) a))
   refine ⟨hgt', ?_⟩
   refine ih (j :: dn) (j :: ac) G S' H' f' (left_cons hj hdj hl) (ready_more hr (fun e => hji e.symm)) hal' hgt' hmo ?_ (T1_mono (fun S2 H2 z => ⟨GT_more hpa z.1, WG_perm m _ _ _ _ hpd hpa _ _ z.2⟩) y)
   intro k ok hok hki hdk hbk
   exact hfr k ok hok hki (by simp only [zH, Bool.or_eq_false_iff] at hdk; exact hdk.2) hbk
def okH (ops : Array Oper) (dn : List Nat) (i : Nat) : Bool :=
 ready ops dn i && (blk ops i).all (fun k => !el k dn) &&
 match ops[i]? with
 | some oi => (List.range ops.size).all fun j => j == i || el j dn || el j (blk ops i) || (match ops[j]? with | some oj => freeOp oj.op && apart (ops := ops) oi oj | none => true)
 | none => false
end
section
variable {P : Program} {n : Nat} {ops : Array Oper} {i : Nat} {d : Option Tmp} {op : Op} {ty : TypeId} {ps : String} {af : Array Edge} {S : Sl} {L : Pv} {h : AH} {mask : List Bool} {X : Sl → AH → Prop} {dn ac : List Nat}
theorem dw_effH {j : Nat} {want t : Bool} (hoi : ops[i]? = some ⟨d, op, ty, ps, af, some (j, want)⟩) (hok : okH ops dn i = true)
  (ht : ev n S (.tmp (((ops[j]?).bind (·.dst)).getD n)) = .bool t) (hb : t = want) (w : wpL P n ops [⟨d, op, ty, ps, af, none⟩] (fun S' L' h' => Ext (wl h (rmM mask L)) (wl h' (rmM mask L')) ∧ Dw P n ops mask X (i :: dn) (i :: ac) S' L' h') (fun _ _ _ _ => False) S L h) : Dw P n ops mask X dn ac S L h := by
 intro V G hG
 unfold okH at hok
 rw [hoi] at hok
 simp only [Bool.and_eq_true] at hok
 obtain ⟨⟨hr, hbl⟩, hap⟩ := hok
 obtain ⟨m, hm⟩ := left_pos hr
 obtain ⟨hi, hdi⟩ := ready_lt hr
 rw [hm]
 refine take_anyG hoi m dn ac G S (wl h L) (fin_wl V) hm hr ?_ ?_ (fun g hg => (hG g hg).2.1) ?_ ?_
 ·intro x hx
  have := List.all_eq_true.1 hbl x ((el_mem _ _).1 hx)
  simpa using this
 ·intro g hg _
  exact (hG g hg).2.1 _ _ (ext_rm V) (hG g hg).2.2
 ·intro j oj hoj hji hdj hbj
  have hjl : j < ops.size := (Array.getElem?_eq_some_iff.1 hoj).1
  have := List.all_eq_true.1 hap j (by simpa using hjl)
  rw [hoj, hdj, hbj] at this
  simp only [Bool.or_false, Bool.or_eq_true, beq_iff_eq, Bool.and_eq_true] at this
  exact this.resolve_left hji
 ·refine ⟨some t, by rw [ht]; rfl, fun _ => ?_, fun hn => absurd (congrArg some hb) hn⟩
  show opW P n ⟨d, op, ty, ps, af, none⟩ S (wl h L) _ noE
  refine opW_mono ?_ ?_ (w V)
  ·rintro v H ⟨L', h', rfl, V', hE, hD⟩
   have hG' : ∀ g ∈ G, ((∀ H, g.2 H) ∨ (isLd ops g.1 = true ∧ el g.1 (i :: dn) = true)) ∧ (∀ H1 H2, Ext H1 H2 → g.2 H1 → g.2 H2) ∧ g.2 (wl h' (rmM mask L')) := by
    intro g hg
    obtain ⟨h1, h2, h3⟩ := hG g hg
    exact ⟨h1.imp id (fun e => ⟨e.1, by simp [zH, e.2]⟩), h2, h2 _ _ hE h3⟩
   refine ⟨fun g hg _ => (hG' g hg).2.1 _ _ (ext_rm V') (hG' g hg).2.2, ?_⟩
   have := hD V' G hG'
   rw [left_cons hi hdi hm] at this
   exact this
  ·rintro v H ⟨L', h', rfl, V', y⟩; exact y
theorem dw_lastH {j : Nat} {want t : Bool} (hoi : ops[i]? = some ⟨d, op, ty, ps, af, some (j, want)⟩) (hok : okH ops dn i = true) (hl : okL ops dn i = true)
  (ht : ev n S (.tmp (((ops[j]?).bind (·.dst)).getD n)) = .bool t) (hb : t = want) (w : wpL P n ops [⟨d, op, ty, ps, af, none⟩] (fun S' L' h' => Dw P n ops mask X (i :: dn) (i :: ac) S' L' h') (fun _ _ _ _ => False) S L h) : Dw P n ops mask X dn ac S L h := by
 intro V G hG
 unfold okH at hok
 rw [hoi] at hok
 simp only [Bool.and_eq_true] at hok
 obtain ⟨⟨hr, hbl⟩, hap⟩ := hok
 obtain ⟨m, hm⟩ := left_pos hr
 obtain ⟨hi, hdi⟩ := ready_lt hr
 rw [hm]
 refine take_anyG hoi m dn ac G S (wl h L) (fin_wl V) hm hr ?_ ?_ (fun g hg => (hG g hg).2.1) ?_ ?_
 ·intro x hx
  have := List.all_eq_true.1 hbl x ((el_mem _ _).1 hx)
  simpa using this
 ·intro g hg _
  exact (hG g hg).2.1 _ _ (ext_rm V) (hG g hg).2.2
 ·intro j oj hoj hji hdj hbj
  have hjl : j < ops.size := (Array.getElem?_eq_some_iff.1 hoj).1
  have := List.all_eq_true.1 hap j (by simpa using hjl)
  rw [hoj, hdj, hbj] at this
  simp only [Bool.or_false, Bool.or_eq_true, beq_iff_eq, Bool.and_eq_true] at this
  exact this.resolve_left hji
 ·refine ⟨some t, by rw [ht]; rfl, fun _ => ?_, fun hn => absurd (congrArg some hb) hn⟩
  show opW P n ⟨d, op, ty, ps, af, none⟩ S (wl h L) _ noE
  refine opW_mono ?_ ?_ (w V)
  ·rintro v H ⟨L', h', rfl, V', hD⟩
   -- the facts that are still asked hold everywhere
   have hdead : ∀ g ∈ G, (∀ H, g.2 H) ∨ ¬ alive ops (i :: ac) g.1 := by
    intro g hg
    rcases (hG g hg).1 with h1 | ⟨h1, h2⟩
    ·exact .inl h1
    ·right
     intro a
     have := List.all_eq_true.1 hl g.1 ((el_mem _ _).1 h2)
     rw [h1] at this
     simp only [Bool.not_true, Bool.false_or] at this
     have := a i this
     simp [zH] at this
   refine ⟨fun g hg a => ((hdead g hg).resolve_right (fun n => n a)) _, ?_⟩
   have hall : ∀ (m : Nat) (dn' ac' : List Nat) (S' : Sl) (H' : AH), (∀ k, el k (i :: ac) = true → el k ac' = true) → WG P n ops m dn' ac' [] X S' H' → WG P n ops m dn' ac' G X S' H' := by
    intro m
    induction m with
    | zero => intro dn' ac' S' H' _ w; exact w
    | succ m ih =>
     intro dn' ac' S' H' hsub w j oj hoj hrj
     refine T1_mono (fun S2 H2 y => ⟨fun g hg a => ?_, ih _ _ _ _ (fun k hk => by simp [zH, hsub k hk]) y.2⟩) (w j oj hoj hrj)
     exact ((hdead g hg).resolve_right (fun n => n (alive_less (fun k hk => by simp [zH, hsub k hk]) a))) _
   have := hD V' [] (fun g hg => by cases hg)
   rw [left_cons hi hdi hm] at this
   exact hall m _ _ _ _ (fun _ h => h) this
  ·rintro v H ⟨L', h', rfl, V', y⟩; exact y
end
end Go.HL
namespace Go.Proofs.YtmpahfdiebhdbaaDoor
open Go Go.HL Go.Proofs Go.Wx Go.Rd
section
variable [Lvl]
set_option maxRecDepth 100000
theorem m0_hand : checkHandM mach0 ⟨[0, 1], []⟩ = 0 := by decide +kernel
theorem m0_lifts : liftsL mach0 ⟨[0, 1], []⟩ = [4, 3, 1, 0] := by decide +kernel
theorem m0_force : forceV mach0 ⟨[0, 1], []⟩ = 9 := by decide +kernel
theorem m0_hand2 : checkHandM mach0 ⟨[], [0]⟩ = 0 := by decide +kernel
theorem m0_chart : chartL mach0 [0] = [[0, 1, 2], [1]] := by decide +kernel
theorem m0_suspE : suspE mach0 (heard0 [0]) = 0 := by decide +kernel
theorem m0_suspL : suspL mach0 (heard0 [0]) = [1, 9] := by decide +kernel
theorem m0_testE : testE mach0 (heard0 [0]) = 0 := by decide +kernel
theorem m0_testN : testN mach0 (heard0 [0]) = 1 := by decide +kernel
theorem m0_testB : (testA mach0 (heard0 [0])).buttons = [1] := by decide +kernel
theorem m0_testO : (testA mach0 (heard0 [0])).on = [] := by decide +kernel
theorem m0_test : testA mach0 (heard0 [0]) = ⟨[1], []⟩ := by
 have h1 := m0_testB
 have h2 := m0_testO
 cases h : testA mach0 (heard0 [0]) with
 | mk b o => rw [h] at h1 h2; simp only at h1 h2; rw [h1, h2]
theorem hlen0 (l : List Int) (h : l.length < 2 ^ 40) : HLen (heard0 l) := ⟨by show 1 < 2 ^ 40; decide, fun x hx => by simp [heard0] at hx; subst hx; exact ⟨by show 1 < 2 ^ 40; decide, by show 0 < 2 ^ 40; decide, h⟩⟩
theorem rod_sounding (hph : Lvl.ph = true) (h : AH) : FnT Tryd.prog 5 #[] h (fun v _ => v = .bool true) := by
 have w0 : mach0.weights.length < 2 ^ 40 := by decide
 refine wL Tryd.func5 rfl Tryd.ntmps5 rfl ?_
 refine qE ?_
 refine qC rfl ?_
 refine qA (qF (v := .bool _) rfl) ?_
 refine qE ?_
 refine qC rfl ?_
 refine qV (caps := []) (vs := []) rfl rfl rfl (machine_ok h) ?_
 rintro _ h1 E1 ⟨AB1, AQ1, AL1, AW1, cB1, cQ1, cL1, cW1, rfl, M1⟩
 refine qK (zc := [_]) (vs := [(0, .int .i64 _), (1, .int .i64 _)]) (cs := [_, _]) rfl rfl rfl rfl rfl rfl rfl fun b14 hb14 => ?_
 refine qH [_] rfl ?_
 refine wp_pub 0 rfl rfl ?_
 intro h2 E2 p2
 refine qH [_] rfl ?_
 refine qV (caps := []) (vs := [.slice _ _ _]) rfl rfl rfl (pressed_ok [0, 1] _ _ h2) ?_
 rintro _ h3 E3 rfl
 have R2 : Row h2 1 intC (some ⟨b14, 0, none⟩) [0, 1] := wS (enc := intC) (m := 1) (l := [0, 1]) (fun _ _ => rfl) p2
 have H1 := Lifts_ok hph mach0 ⟨[0, 1], []⟩ AB1 AQ1 AL1 AW1 (some ⟨b14, 0, none⟩) none cB1 cQ1 cL1 cW1 2 0 h3 (M1.ext (zL E2 E3)) ⟨R2.ext E3, row_nil _ _⟩ w0 (by decide) (by decide)
 rw [m0_hand, m0_lifts] at H1
 refine qV (caps := []) (vs := [.agg #[.int .i64 _, .int .i64 _, .int .i64 _, .int .i64 _, .int .i64 _, .slice _ _ _, .slice _ _ _, .slice _ _ _, .slice _ _ _], .agg #[.slice _ _ _, .slice _ _ _]]) rfl rfl rfl (H1) ?_
 rintro _ h4 E4 ⟨_, rfl, A4, c4, rfl, S4⟩
 refine qA (qD (v := .tuple #[.slice _ _ _, .int .i64 _]) rfl) ?_
 refine qA (qJ (v := .slice _ _ _) rfl) ?_
 refine qA (qJ (v := .int .i64 _) rfl) ?_
 refine qA (qF (v := .slice _ _ _) rfl) ?_
 refine qA (qF (v := .int .i64 _) rfl) ?_
 refine qE ?_
 refine qC rfl ?_
 refine qV (caps := []) (vs := []) rfl rfl rfl (machine_ok h4) ?_
 rintro _ h5 E5 ⟨AB2, AQ2, AL2, AW2, cB2, cQ2, cL2, cW2, rfl, M2⟩
 refine qK (zc := [_]) (vs := [(0, .int .i64 _), (1, .int .i64 _)]) (cs := [_, _]) rfl rfl rfl rfl rfl rfl rfl fun b21 hb21 => ?_
 refine qH [_, _] rfl ?_
 refine wp_pub 1 rfl rfl ?_
 intro h6 E6 p6
 refine qH [_, _] rfl ?_
 refine qV (caps := []) (vs := [.slice _ _ _]) rfl rfl rfl (pressed_ok [0, 1] _ _ h6) ?_
 rintro _ h7 E7 rfl
 have R6 : Row h6 1 intC (some ⟨b21, 0, none⟩) [0, 1] := wS (enc := intC) (m := 1) (l := [0, 1]) (fun _ _ => rfl) p6
 have H2 := Force_ok hph mach0 ⟨[0, 1], []⟩ AB2 AQ2 AL2 AW2 (some ⟨b21, 0, none⟩) none cB2 cQ2 cL2 cW2 2 0 h7 (M2.ext (zL E6 E7)) ⟨R6.ext E7, row_nil _ _⟩ w0 (by decide) (by decide)
 rw [m0_hand, m0_force] at H2
 refine qV (caps := []) (vs := [.agg #[.int .i64 _, .int .i64 _, .int .i64 _, .int .i64 _, .int .i64 _, .slice _ _ _, .slice _ _ _, .slice _ _ _, .slice _ _ _], .agg #[.slice _ _ _, .slice _ _ _]]) rfl rfl rfl (H2) ?_
 rintro _ h8 E8 rfl
 refine qA (qD (v := .tuple #[.int .i64 _, .int .i64 _]) rfl) ?_
 refine qA (qJ (v := .int .i64 _) rfl) ?_
 refine qA (qJ (v := .int .i64 _) rfl) ?_
 refine qA (qF (v := .int .i64 _) rfl) ?_
 refine qA (qF (v := .int .i64 _) rfl) ?_
 refine qE ?_
 refine qC rfl ?_
 refine qV (caps := []) (vs := []) rfl rfl rfl (machine_ok h8) ?_
 rintro _ h9 E9 ⟨AB3, AQ3, AL3, AW3, cB3, cQ3, cL3, cW3, rfl, M3⟩
 refine qK (zc := [_]) (vs := [(0, .int .i64 _)]) (cs := [_]) rfl rfl rfl rfl rfl rfl rfl fun b28 hb28 => ?_
 refine qH [_, _, _] rfl ?_
 refine wp_pub 2 rfl rfl ?_
 intro h10 E10 p10
 refine qH [_, _, _] rfl ?_
 have R10 : Row h10 1 intC (some ⟨b28, 0, none⟩) [0] := wS (enc := intC) (m := 1) (l := [0]) (fun _ _ => rfl) p10
 have H3 := Chart_ok hph mach0 [0] AB3 AQ3 AL3 AW3 (some ⟨b28, 0, none⟩) cB3 cQ3 cL3 cW3 1 h10 (M3.ext E10) R10 w0 (by decide)
 rw [m0_hand2, m0_chart] at H3
 refine qV (caps := []) (vs := [.agg #[.int .i64 _, .int .i64 _, .int .i64 _, .int .i64 _, .int .i64 _, .slice _ _ _, .slice _ _ _, .slice _ _ _, .slice _ _ _], .slice _ _ _]) rfl rfl rfl (H3) ?_
 rintro _ h11 E11 ⟨_, rfl, S11⟩
 obtain ⟨cs11, A11, c11, rfl, R11, L11⟩ := SlX.els S11
 refine qA (qD (v := .tuple #[.slice _ _ _, .int .i64 _]) rfl) ?_
 refine qA (qJ (v := .slice _ _ _) rfl) ?_
 refine qA (qJ (v := .int .i64 _) rfl) ?_
 refine qA (qF (v := .slice _ _ _) rfl) ?_
 refine qA (qF (v := .int .i64 _) rfl) ?_
 refine qE ?_
 refine qC rfl ?_
 refine qV (caps := []) (vs := []) rfl rfl rfl (machine_ok h11) ?_
 rintro _ h12 E12 ⟨AB4, AQ4, AL4, AW4, cB4, cQ4, cL4, cW4, rfl, M4⟩
 refine qK (zc := [_]) (vs := [(0, .int .i64 _)]) (cs := [_]) rfl rfl rfl rfl rfl rfl rfl fun b34 hb34 => ?_
 refine qH [_, _, _, _] rfl ?_
 refine wp_pub 3 rfl rfl ?_
 intro h13 E13 p13
 refine qH [_, _, _, _] rfl ?_
 have R13 : Row h13 1 intC (some ⟨b34, 0, none⟩) [0] := wS (enc := intC) (m := 1) (l := [0]) (fun _ _ => rfl) p13
 refine qV (caps := []) (vs := [.slice _ _ _]) rfl rfl rfl (sounded_ok [0] _ _ h13 R13) ?_
 rintro _ h14 E14 ⟨UA4, cU4, cs4, rfl, RU4, EU4⟩
 have H4 := Suspects_ok hph mach0 (heard0 [0]) (hlen0 _ (by decide)) AB4 AQ4 AL4 AW4 UA4 cB4 cQ4 cL4 cW4 cU4 cs4 h14 (M4.ext (zL E13 E14)) w0 RU4 EU4
 rw [m0_suspE, m0_suspL] at H4
 refine qV (caps := []) (vs := [.agg #[.int .i64 _, .int .i64 _, .int .i64 _, .int .i64 _, .int .i64 _, .slice _ _ _, .slice _ _ _, .slice _ _ _, .slice _ _ _], .slice _ _ _]) rfl rfl rfl (H4) ?_
 rintro _ h15 E15 ⟨_, rfl, A15, c15, rfl, S15⟩
 refine qA (qD (v := .tuple #[.slice _ _ _, .int .i64 _]) rfl) ?_
 refine qA (qJ (v := .slice _ _ _) rfl) ?_
 refine qA (qJ (v := .int .i64 _) rfl) ?_
 refine qA (qF (v := .slice _ _ _) rfl) ?_
 refine qA (qF (v := .int .i64 _) rfl) ?_
 refine qE ?_
 refine qC rfl ?_
 refine qV (caps := []) (vs := []) rfl rfl rfl (machine_ok h15) ?_
 rintro _ h16 E16 ⟨AB5, AQ5, AL5, AW5, cB5, cQ5, cL5, cW5, rfl, M5⟩
 refine qK (zc := [_]) (vs := [(0, .int .i64 _)]) (cs := [_]) rfl rfl rfl rfl rfl rfl rfl fun b41 hb41 => ?_
 refine qH [_, _, _, _, _] rfl ?_
 refine wp_pub 4 rfl rfl ?_
 intro h17 E17 p17
 refine qH [_, _, _, _, _] rfl ?_
 have R17 : Row h17 1 intC (some ⟨b41, 0, none⟩) [0] := wS (enc := intC) (m := 1) (l := [0]) (fun _ _ => rfl) p17
 refine qV (caps := []) (vs := [.slice _ _ _]) rfl rfl rfl (sounded_ok [0] _ _ h17 R17) ?_
 rintro _ h18 E18 ⟨UA5, cU5, cs5, rfl, RU5, EU5⟩
 have H5 := Test_ok hph mach0 (heard0 [0]) (hlen0 _ (by decide)) AB5 AQ5 AL5 AW5 UA5 cB5 cQ5 cL5 cW5 cU5 cs5 h18 (M5.ext (zL E17 E18)) w0 RU5 EU5
 rw [m0_testE, m0_testN, m0_test] at H5
 refine qV (caps := []) (vs := [.agg #[.int .i64 _, .int .i64 _, .int .i64 _, .int .i64 _, .int .i64 _, .slice _ _ _, .slice _ _ _, .slice _ _ _, .slice _ _ _], .slice _ _ _]) rfl rfl rfl (H5) ?_
 rintro _ h19 E19 ⟨_, rfl, V19⟩
 obtain ⟨HA, OA, cH, cO, rfl, RH⟩ := HandV.open V19
 refine qA (qD (v := .tuple #[.agg #[.slice _ _ _, .slice _ _ _], .int .i64 _, .int .i64 _]) rfl) ?_
 refine qA (qJ (v := .agg #[.slice _ _ _, .slice _ _ _]) rfl) ?_
 refine qA (qJ (v := .int .i64 _) rfl) ?_
 refine qA (qJ (v := .int .i64 _) rfl) ?_
 refine wW (cs := [_, _]) rfl rfl fun b9 hb9 => ?_
 refine qH [_, _, _, _, _, _] rfl ?_
 refine wG 5 (v := .agg #[.slice _ _ _, .slice _ _ _]) (vs := [_, _]) (c' := [_, _]) rfl rfl rfl rfl rfl rfl rfl rfl rfl ?_
 refine qH [_, _, _, _, _, _] rfl ?_
 refine qA (qF (v := .int .i64 _) rfl) ?_
 refine qA (qF (v := .int .i64 _) rfl) ?_
 refine qE ?_
 refine xp_dw [] rfl rfl rfl ?_
 refine qO (i := 0) rfl (by decide +kernel) (qD (v := .int .i64 _) rfl) ?_
 refine qO (i := 1) rfl (by decide +kernel) (qJ (v := .bool _) rfl) ?_
 refine qO (i := 2) rfl (by decide +kernel) (qD (v := .bool _) rfl) ?_
 refine dw_pureG (i := 3) rfl (by decide +kernel) rfl rfl (qD (v := .int .i64 _) rfl) ?_
 refine dw_pureG (i := 4) rfl (by decide +kernel) rfl rfl (qJ (v := .bool _) rfl) ?_
 refine qO (i := 5) rfl (by decide +kernel) (wV rfl rfl (v := .bool _) rfl) ?_
 refine qO (i := 6) rfl (by decide +kernel) (qD (v := .bool _) rfl) ?_
 refine dw_pureG (i := 7) rfl (by decide +kernel) rfl rfl (qD (v := .int .i64 _) rfl) ?_
 refine dw_pureG (i := 8) rfl (by decide +kernel) rfl rfl (qJ (v := .bool _) rfl) ?_
 refine qO (i := 9) rfl (by decide +kernel) (wV rfl rfl (v := .bool _) rfl) ?_
 refine qO (i := 10) rfl (by decide +kernel) (qD (v := .bool _) rfl) ?_
 refine dw_pureG (i := 11) rfl (by decide +kernel) rfl rfl (qD (v := .int .i64 _) rfl) ?_
 refine dw_pureG (i := 12) rfl (by decide +kernel) rfl rfl (qJ (v := .bool _) rfl) ?_
 refine qO (i := 13) rfl (by decide +kernel) (wV rfl rfl (v := .bool _) rfl) ?_
 refine qO (i := 14) rfl (by decide +kernel) (qD (v := .bool _) rfl) ?_
 refine dw_pureG (i := 15) rfl (by decide +kernel) rfl rfl (qD (v := .int .i64 _) rfl) ?_
 refine dw_pureG (i := 16) rfl (by decide +kernel) rfl rfl (qJ (v := .bool _) rfl) ?_
 refine qO (i := 17) rfl (by decide +kernel) (wV rfl rfl (v := .bool _) rfl) ?_
 refine qO (i := 18) rfl (by decide +kernel) (qD (v := .bool _) rfl) ?_
 refine dw_pureG (i := 19) rfl (by decide +kernel) rfl rfl (qD (v := .int .i64 _) rfl) ?_
 refine dw_pureG (i := 20) rfl (by decide +kernel) rfl rfl (qJ (v := .bool _) rfl) ?_
 refine qO (i := 21) rfl (by decide +kernel) (wV rfl rfl (v := .bool _) rfl) ?_
 refine qO (i := 22) rfl (by decide +kernel) (qD (v := .bool _) rfl) ?_
 refine dw_pureG (i := 23) rfl (by decide +kernel) rfl rfl (qD (v := .int .i64 _) rfl) ?_
 refine dw_pureG (i := 24) rfl (by decide +kernel) rfl rfl (qJ (v := .bool _) rfl) ?_
 refine qO (i := 25) rfl (by decide +kernel) (wV rfl rfl (v := .bool _) rfl) ?_
 refine qO (i := 26) rfl (by decide +kernel) (qD (v := .bool _) rfl) ?_
 refine dw_pureG (i := 27) rfl (by decide +kernel) rfl rfl (qD (v := .slice _ _ _) rfl) ?_
 refine dw_lastH (i := 28) rfl (by decide +kernel) (by decide +kernel) rfl rfl ?_
 refine qK (zc := [_]) (vs := [(0, .int .i64 _), (1, .int .i64 _), (2, .int .i64 _), (3, .int .i64 _)]) (cs := [_, _, _, _]) rfl rfl rfl rfl rfl rfl rfl fun b75 hb75 => ?_
 refine zI [_, _, _, _, _, _, _] rfl ?_
 refine dw_pub 6 rfl ?_
 intro g1 F1 q1
 refine zI [_, _, _, _, _, _, _] rfl ?_
 refine dw_lastH (i := 29) rfl (by decide +kernel) (by decide +kernel) rfl rfl ?_
 refine qV (caps := []) (vs := [.slice _ _ _, .slice _ _ _]) rfl rfl rfl (sameInts_ok [4, 3, 1, 0] [4, 3, 1, 0] _ _ _ _ g1 (S4.ext (zL (zL (zL (zL (zL (zL (zL (zL (zL (zL (zL (zL (zL (zL (zL E5 E6) E7) E8) E9) E10) E11) E12) E13) E14) E15) E16) E17) E18) E19) F1)) (wS (enc := intC) (m := 1) (l := [4, 3, 1, 0]) (fun _ _ => rfl) q1) (by decide)) ?_
 rintro _ g2 F2 rfl
 refine qO (i := 30) rfl (by decide +kernel) (wV rfl rfl (v := .bool _) rfl) ?_
 refine qO (i := 31) rfl (by decide +kernel) (qD (v := .bool _) rfl) ?_
 refine dw_pureG (i := 32) rfl (by decide +kernel) rfl rfl (qD (v := .slice _ _ _) rfl) ?_
 refine dw_lastH (i := 33) rfl (by decide +kernel) (by decide +kernel) rfl rfl ?_
 refine qK (zc := [_]) (vs := [(0, .int .i64 _), (1, .int .i64 _), (2, .int .i64 _)]) (cs := [_, _, _]) rfl rfl rfl rfl rfl rfl rfl fun b80 hb80 => ?_
 refine zI [_, _, _, _, _, _, _, _] rfl ?_
 refine dw_lastH (i := 34) rfl (by decide +kernel) (by decide +kernel) rfl rfl ?_
 refine qK (zc := [_]) (vs := [(0, .int .i64 _)]) (cs := [_]) rfl rfl rfl rfl rfl rfl rfl fun b81 hb81 => ?_
 refine zI [_, _, _, _, _, _, _, _, _] rfl ?_
 refine dw_lastH (i := 35) rfl (by decide +kernel) (by decide +kernel) rfl rfl ?_
 refine qK (zc := [_]) (vs := [(0, .slice _ _ _), (1, .slice _ _ _)]) (cs := [_, _]) rfl rfl rfl rfl rfl rfl rfl fun b82 hb82 => ?_
 refine zI [_, _, _, _, _, _, _, _, _, _] rfl ?_
 refine dw_pub 7 rfl ?_
 intro g3 F3 q3
 refine zI [_, _, _, _, _, _, _, _, _, _] rfl ?_
 refine dw_pub 8 rfl ?_
 intro g4 F4 q4
 refine zI [_, _, _, _, _, _, _, _, _, _] rfl ?_
 refine dw_pub 9 rfl ?_
 intro g5 F5 q5
 refine zI [_, _, _, _, _, _, _, _, _, _] rfl ?_
 have RL : Row g5 1 id (some ⟨b82, 0, none⟩) [[.slice (some ⟨b80, 0, none⟩) 3 3], [.slice (some ⟨b81, 0, none⟩) 1 1]] := wS (enc := id) (m := 1) (l := [[.slice (some ⟨b80, 0, none⟩) 3 3], [.slice (some ⟨b81, 0, none⟩) 1 1]]) (fun x hx => by simp at hx; rcases hx with rfl | rfl <;> rfl) q5
 have EL : Els g5 TL [[0, 1, 2], [1]] [[.slice (some ⟨b80, 0, none⟩) 3 3], [.slice (some ⟨b81, 0, none⟩) 1 1]] := by
  refine ⟨rfl, fun i x c h1 h2 => ?_⟩
  match i, h1, h2 with
  | 0, h1, h2 => cases h1; cases h2; exact ⟨_, rfl, some ⟨b80, 0, none⟩, 3, rfl, (wS (enc := intC) (m := 1) (l := [0, 1, 2]) (fun _ _ => rfl) q3).ext (zL F4 F5)⟩
  | 1, h1, h2 => cases h1; cases h2; exact ⟨_, rfl, some ⟨b81, 0, none⟩, 1, rfl, (wS (enc := intC) (m := 1) (l := [1]) (fun _ _ => rfl) q4).ext F5⟩
  | i + 2, h1, h2 => simp at h1
 refine dw_lastH (i := 36) rfl (by decide +kernel) (by decide +kernel) rfl rfl ?_
 refine qV (caps := []) (vs := [.slice _ _ _, .slice _ _ _]) rfl rfl rfl (sameLists_ok [[0, 1, 2], [1]] [[0, 1, 2], [1]] _ _ _ _ cs11 _ g5 (R11.ext (zL (zL (zL (zL (zL (zL (zL (zL (zL (zL (zL (zL E12 E13) E14) E15) E16) E17) E18) E19) F1) F2) F3) F4) F5)) (L11.ext TL.mono (zL (zL (zL (zL (zL (zL (zL (zL (zL (zL (zL (zL E12 E13) E14) E15) E16) E17) E18) E19) F1) F2) F3) F4) F5)) RL EL (by decide) (by decide)) ?_
 rintro _ g6 F6 rfl
 refine qO (i := 37) rfl (by decide +kernel) (wV rfl rfl (v := .bool _) rfl) ?_
 refine qO (i := 38) rfl (by decide +kernel) (qD (v := .bool _) rfl) ?_
 refine dw_pureG (i := 39) rfl (by decide +kernel) rfl rfl (qD (v := .slice _ _ _) rfl) ?_
 refine dw_lastH (i := 40) rfl (by decide +kernel) (by decide +kernel) rfl rfl ?_
 refine qK (zc := [_]) (vs := [(0, .int .i64 _), (1, .int .i64 _)]) (cs := [_, _]) rfl rfl rfl rfl rfl rfl rfl fun b87 hb87 => ?_
 refine zI [_, _, _, _, _, _, _, _, _, _, _] rfl ?_
 refine dw_pub 10 rfl ?_
 intro g7 F7 q7
 refine zI [_, _, _, _, _, _, _, _, _, _, _] rfl ?_
 refine dw_lastH (i := 41) rfl (by decide +kernel) (by decide +kernel) rfl rfl ?_
 refine qV (caps := []) (vs := [.slice _ _ _, .slice _ _ _]) rfl rfl rfl (sameInts_ok [1, 9] [1, 9] _ _ _ _ g7 (S15.ext (zL (zL (zL (zL (zL (zL (zL (zL (zL (zL E16 E17) E18) E19) F1) F2) F3) F4) F5) F6) F7)) (wS (enc := intC) (m := 1) (l := [1, 9]) (fun _ _ => rfl) q7) (by decide)) ?_
 rintro _ g8 F8 rfl
 refine qO (i := 42) rfl (by decide +kernel) (wV rfl rfl (v := .bool _) rfl) ?_
 refine qO (i := 43) rfl (by decide +kernel) (qD (v := .bool _) rfl) ?_
 refine dw_loadG (i := 44) rfl (by decide +kernel) rfl rfl ?_
 refine wH 5 (vs := [.slice _ _ _, .slice _ _ _]) rfl rfl rfl rfl rfl ?_
 refine dw_effH (i := 45) rfl (by decide +kernel) rfl rfl ?_
 refine qK (zc := [_]) (vs := [(0, .int .i64 _)]) (cs := [_]) rfl rfl rfl rfl rfl rfl rfl fun b92 hb92 => ?_
 refine ⟨ext_new hb92 _, ?_⟩
 refine zI [_, _, _, _, _, _, _, _, _, _, _, _] rfl ?_
 refine dw_pub 11 rfl ?_
 intro g9 F9 q9
 refine zI [_, _, _, _, _, _, _, _, _, _, _, _] rfl ?_
 refine dw_effH (i := 46) rfl (by decide +kernel) rfl rfl ?_
 refine qV (caps := []) (vs := [.slice _ _ _]) rfl rfl rfl (pressed_ok [1] _ _ g9) ?_
 rintro _ g10 F10 rfl
 refine ⟨ext_wlm F10 _, ?_⟩
 refine dw_lastH (i := 47) rfl (by decide +kernel) (by decide +kernel) rfl rfl ?_
 refine qV (caps := []) (vs := [.agg _, .agg _]) rfl rfl rfl (sameHands_ok ⟨[1], []⟩ ⟨[1], []⟩ _ _ _ _ _ _ _ _ g10 (RH.ext (zL (zL (zL (zL (zL (zL (zL (zL (zL F1 F2) F3) F4) F5) F6) F7) F8) F9) F10)) ⟨(wS (enc := intC) (m := 1) (l := [1]) (fun _ _ => rfl) q9).ext F10, row_nil _ _⟩ (by decide) (by decide)) ?_
 rintro _ g11 F11 rfl
 refine qO (i := 48) rfl (by decide +kernel) (wV rfl rfl (v := .bool _) rfl) ?_
 refine qO (i := 49) rfl (by decide +kernel) (qF (v := .bool _) rfl) ?_
 refine dw_end rfl ?_
 refine wD ?_
 refine qS (vs := [_]) Tryd.results5 ⟨qM rfl rfl, trivial⟩ fun V => ?_
 exact ⟨(zL (zL (zL (zL (zL (zL (zL (zL (zL (zL (zL (zL (zL (zL (zL (zL (zL (zL (zL (zL (zL (zL (zL (zL (zL (zL (zL (zL (zL (zL E1 E2) E3) E4) E5) E6) E7) E8) E9) E10) E11) E12) E13) E14) E15) E16) E17) E18) E19) F1) F2) F3) F4) F5) F6) F7) F8) F9) F10) F11) (qZ V)), rfl⟩
end
end Go.Proofs.YtmpahfdiebhdbaaDoor
namespace Go.HL
open Go
variable [Lvl]
section
variable {P : Program} {n : Nat} {d : Option Tmp} {ty : TypeId} {ps : String} {af : Array Edge} {S : Sl} {t u : TypeId} {x y : Operand}
end
end Go.HL
namespace Go.Rd
open Go Go.HL Go.Wx
variable [Lvl]
def renL (s : Int → Int) (l : LinkP) : LinkP := ⟨s l.frm, s l.to, l.reg, l.lag⟩
structure RenR (s : Int → Int) (m m' : MachP) : Prop where
 rods : m'.rods = m.rods
 bd : ∀ r, 0 ≤ r → r < m.rods → 0 ≤ s r ∧ s r < m.rods
 btn : m'.buttons = m.buttons.map s
 links : m'.links = m.links.map (renL s)
structure Inv (s t : Int → Int) (n : Int) : Prop where
 sb : ∀ r, 0 ≤ r → r < n → 0 ≤ s r ∧ s r < n
 tb : ∀ r, 0 ≤ r → r < n → 0 ≤ t r ∧ t r < n
 ts : ∀ r, 0 ≤ r → r < n → t (s r) = r
 st : ∀ r, 0 ≤ r → r < n → s (t r) = r
end Go.Rd
namespace Go.Rd
open Go Go.HL Go.Wx
variable [Lvl]
end Go.Rd
namespace Go.Rd
open Go Go.HL Go.Wx
variable [Lvl]
end Go.Rd
namespace Go.Proofs.YtmpahfdiebhdbaaDoor
open Go Go.HL Go.Proofs Go.Wx Go.Rd
section
variable [Lvl]
set_option maxRecDepth 100000
structure Made (size pins links : Int) (m : MachP) : Prop where
 ok : MOK m
 rs : m.rods ≤ size
 ls : m.levers ≤ size
 bl : m.buttons.length ≤ 3
 pl : (m.pins.length : Int) ≤ pins
 ll : (m.links.length : Int) ≤ links
theorem mem_one {α : Type} {P : α → Prop} {l : List α} {z : α} (h : ∀ x ∈ l, P x) (hz : P z) : ∀ x ∈ l ++ [z], P x := fun x hx => by
 rcases List.mem_append.1 hx with hx | hx
 ·exact h x hx
 ·simp at hx; subst hx; exact hz
end
end Go.Proofs.YtmpahfdiebhdbaaDoor
namespace Go.Proofs.YtmpahfdiebhdbaaDoor
open Go Go.HL Go.Proofs Go.Wx Go.Rd
section
variable [Lvl]
set_option maxRecDepth 100000
end
end Go.Proofs.YtmpahfdiebhdbaaDoor
namespace Go.HL
open Go Go.Wx Go.RowKit
def lawK (t : Nat) (h0 : AH) : Post
 | .normal, S, D, L, h => D = [] ∧ (Valid h L → Ext h0 (wl h L)) ∧ S t = .bool true
 | .ret, S, D, L, h => D = [] ∧ (Valid h L → Ext h0 (wl h L)) ∧ S t = .bool true
 | _, _, _, _, _ => False
theorem below_of {w w' : World} (se : SameEnv w w') (e : Ext (absH w.heap) (absH w'.heap)) : Below w.heap.size w w' := by
 have hb : ∀ k, k < w.heap.size → w'.heap[k]? = w.heap[k]? := by
  intro k hk
  have h1 : absH w.heap k = some w.heap[k] := Array.getElem?_eq_getElem hk
  have h2 : w'.heap[k]? = some w.heap[k] := e k _ h1
  rw [h2]
  exact (Array.getElem?_eq_getElem hk).symm
 refine ⟨se.os, se.tape, se.output, ?_, hb⟩
 rcases Nat.lt_or_ge w'.heap.size w.heap.size with h1 | h1
 ·have h2 := hb w'.heap.size h1
  rw [Array.getElem?_eq_getElem h1] at h2
  simp at h2
 ·exact h1
variable [Lvl]
end Go.HL
namespace Go.HL
open Go Go.Wx Go.RowKit Go.Conc Go.ConcN
def RunsTrue (P : Program) (f : FuncId) (args : Array Value) (w : World) : Prop :=
 ∃ M last o w' t', runNT P (M + 1) (solo (G (Frame.enter P f args .normal) []) w) #[] = (.ended o w', t') ∧ runN P M (solo (G (Frame.enter P f args .normal) []) w) = .next last ∧ step P last = .ended o w' ∧
  Go.Conc.Good P (fun v W' => v = .bool true ∧ Below w.heap.size w W') last o w' t'
theorem runs_body {P : Program} {f : FuncId} {fn : Func} {c : Code} {args : Array Value} {n t : Nat} {w : World} (hf : P.funcs[f]? = some fn) (hb : fn.body = some c) (hn : fn.ntmps = n) (ha : Nat.ble args.size n = true) (hr : fn.results = #[.tmp t]) (ht : Nat.blt t n = true) (hi : P.inits.idxOf? f = none)
  (x : ∀ h, h = absH w.heap → @xp ⟨true, none, none⟩ P n none c (lawK t h) (argS args) [] [] h) :
  RunsTrue P f args w := by
 letI : Lvl := ⟨true, none, none⟩
 have he : Frame.enter P f args .normal = mk { (default : Frame) with fn := f, kind := .normal, roundOf := none } n (argS args) [] [.code c] := by
  simp [Frame.enter, mk, hf, hb, hn, enter_tmps n args (Nat.le_of_ble_eq_true ha)]
 have hres : ∀ (S : Sl) (w' : World), S t = .bool true → results fn (arr n S) = .pure (.bool true) := by
  intro S w' hs
  unfold results
  rw [hr, List.mapM_toArray]
  have e1 : (arr n S).getD t undef = .bool true := by rw [arr_getD, if_pos (Nat.lt_of_lt_of_le (Nat.lt_succ_self t) (Nat.le_of_ble_eq_true ht)), hs]
  show Sem.pure ((arr n S).getD t undef) = _
  rw [e1]
 have x1 := x _ rfl (absH w.heap) (by have := Fits.nil (valid_nil (Fin.abs w.heap)); rw [wl_nil] at this; exact this) { (default : Frame) with fn := f, kind := .normal, roundOf := none } rfl [] []
 have x2 : Rch P (fun fr cs' H => cs' = [] ∧ fr.mode = .returning ∧ fr.defers = [] ∧ fr.kind = .normal ∧ fr.fn = f ∧ (∃ S, fr.tmps = arr n S ∧ S t = .bool true) ∧ Ext (absH w.heap) H) (mk { (default : Frame) with fn := f, kind := .normal, roundOf := none } n (argS args) [] [.code c]) [] (absH w.heap) := by
  refine x1.bind ?_
  rintro fr cs' H ⟨rfl, e, S', D', L', h', V', kk, a⟩
  cases e with
  | normal =>
   obtain ⟨rfl, ex, hs⟩ := kk
   have a' : fr = mk { (default : Frame) with fn := f, kind := .normal, roundOf := none } n S' [] [] := a
   subst a'
   have hH : H = wl h' L' := by rw [V'.eq]; exact hun_nil _
   subst hH
   refine .ctl (fr' := { mk { (default : Frame) with fn := f, kind := .normal, roundOf := none } n S' [] [] with mode := .returning }) (cs' := []) (fun w => by simp [stepG, stepG.exec, mk]) (.done ⟨rfl, rfl, rfl, rfl, rfl, ⟨S', rfl, hs⟩, ex V'.valid⟩)
  | ret =>
   obtain ⟨rfl, ex, hs⟩ := kk
   obtain ⟨todo, rfl⟩ := a.1 rfl
   have hH : H = wl h' L' := by rw [V'.eq]; exact hun_nil _
   subst hH
   exact .done ⟨rfl, rfl, rfl, rfl, rfl, ⟨S', rfl, hs⟩, ex V'.valid⟩
  | _ => exact kk.elim
 unfold RunsTrue
 rw [he]
 refine x2.ends rfl rfl ?_
 rintro fr cs h w' ⟨rfl, hm, hd, hk, hfn, ⟨S, htm, hs⟩, ex⟩ se rfl
 have hr1 := hres S w' hs
 have hru : (results fn fr.tmps).runT P w' #[] = (.ok (.bool true) w', #[]) := by rw [htm, hr1]; rfl
 have hf' : P.funcs[fr.fn]? = some fn := by rw [hfn]; exact hf
 have hi' : P.inits.idxOf? fr.fn = none := by rw [hfn]; exact hi
 have h1 : stepG P true (G fr []) w' = unwind P true fr [] none w' := by
  simp [stepG, stepG.exec, hm]
 have h2 : unwind P true fr [] none w' = GStep.after (seen P fr.fn #[]) (.ended (.done (.bool true)) w') := by
  unfold unwind
  rw [hd]
  simp only [hm, hf', hru]
  unfold doReturn
  simp only [hk, hi']
  rfl
 refine ⟨rfl, .bool true, seen P fr.fn #[], ?_, fun e he => ?_, rfl, below_of se ex⟩
 ·rw [h1, h2]
  simp [GStep.after]
 ·simp [seen] at he
end Go.HL
namespace Go.Rd
open Go Go.HL Go.Wx
variable [Lvl]
theorem MOK.pins {m : MachP} (M : MOK m) : ∀ p ∈ m.pins, 0 ≤ p.lever ∧ 0 ≤ p.rod := fun p hp => ⟨(M.pin p hp).2.1.1, (M.pin p hp).1.1⟩
theorem MOK.cap {m : MachP} (M : MOK m) {ps : List PinP} {ls : List LinkP} (hp : ps.length ≤ 8) (hl : ls.length ≤ 4)
  (h1 : ∀ p ∈ ps, (0 ≤ p.rod ∧ p.rod < m.rods) ∧ (0 ≤ p.lever ∧ p.lever < m.levers) ∧ (0 ≤ p.lag ∧ p.lag ≤ m.travel))
  (h2 : ∀ l ∈ ls, (0 ≤ l.frm ∧ l.frm < m.rods) ∧ (0 ≤ l.to ∧ l.to < m.rods) ∧ l.frm ≠ l.to ∧ (-1 ≤ l.reg ∧ l.reg < m.regs) ∧ (1 ≤ l.lag ∧ l.lag ≤ m.travel)) : MOK { m with pins := ps, links := ls } :=
 ⟨M.rods, M.levers, M.regs, M.travel, M.opn, M.bl, M.btn, hp, h1, hl, h2, M.wl, M.wt⟩
end Go.Rd
namespace Go.Proofs.YtmpahfdiebhdbaaDoor
open Go Go.HL Go.Proofs Go.Wx Go.Rd
section
variable [Lvl]
set_option maxRecDepth 100000
theorem plain_take {cs : List Value} (k : Nat) (h : cs.all plainB = true) : (cs.take k).all plainB = true := by
 rw [List.all_eq_true] at h ⊢
 exact fun x hx => h x (List.mem_of_mem_take hx)
def turnsL (m : MachP) (a : HandP) : List Int := if checkHandM m a = 0 then (turnedM m a m.travel).take m.rods.toNat else []
theorem Turns_ok (hph : Lvl.ph = true) (m : MachP) (a : HandP) (AB AQ AL AW HA OA : Option Addr) (cB cQ cL cW cH cO : Nat) (h : AH) (RM : MachR h AB AQ AL AW m) (RH : HandR h HA OA a) (h0 : m.weights.length < 2 ^ 40) (h1 : a.buttons.length < 2 ^ 40) (h2 : a.on.length < 2 ^ 40) :
  FnT Tryd.prog 8 #[machV AB AQ AL AW cB cQ cL cW m, handV HA OA cH cO a] h (fun v h' => ∃ L, v = .tuple #[L, .int .i64 (checkHandM m a)] ∧ SlR h' 1 intC (turnsL m a) L) := by
 refine wL Tryd.func8 rfl Tryd.ntmps8 rfl ?_
 refine qE ?_
 refine qC rfl ?_
 refine op_box (v := .agg #[.int .i64 _, .int .i64 _, .int .i64 _, .int .i64 _, .int .i64 _, .slice _ _ _, .slice _ _ _, .slice _ _ _, .slice _ _ _]) (cs := [_, _, _, _, _, _, _, _, _]) rfl rfl fun b2 hb2 => ?_
 refine qH [_] rfl ?_
 refine op_box (v := .agg #[.slice _ _ _, .slice _ _ _]) (cs := [_, _]) rfl rfl fun b3 hb3 => ?_
 refine qH [_, _] rfl ?_
 refine qA (qF (v := .slice _ _ _) rfl) ?_
 refine qA (qF (v := .int .i64 _) rfl) ?_
 refine qE ?_
 refine qE ?_
 refine qC rfl ?_
 refine wH 0 (vs := [.int .i64 _, .int .i64 _, .int .i64 _, .int .i64 _, .int .i64 _, .slice _ _ _, .slice _ _ _, .slice _ _ _, .slice _ _ _]) rfl rfl rfl rfl rfl ?_
 refine wH 1 (vs := [.slice _ _ _, .slice _ _ _]) rfl rfl rfl rfl rfl ?_
 refine qV (caps := []) (vs := [.agg #[.int .i64 _, .int .i64 _, .int .i64 _, .int .i64 _, .int .i64 _, .slice _ _ _, .slice _ _ _, .slice _ _ _, .slice _ _ _], .agg #[.slice _ _ _, .slice _ _ _]]) rfl rfl rfl (checkHand_ok m a AB AQ AL AW HA OA cB cQ cL cW cH cO h (RM.ext (Ext.refl _)) (RH.ext (Ext.refl _)) h0 h1 h2) ?_
 rintro _ h3 E3 rfl
 refine qA (qF (v := .int .i64 _) rfl) ?_
 refine qE ?_
 refine qC rfl ?_
 refine qA (qD (v := .int .i64 _) rfl) ?_
 refine qA (qJ (v := .bool _) rfl) ?_
 refine wA rfl (fun hc => ?_) (fun hc => ?_)
 ·skip
  have hc' : checkHandM m a ≠ 0 := by simpa using hc
  refine qE ?_
  refine qC rfl ?_
  refine qA (qD (v := .int .i64 _) rfl) ?_
  refine qA (qF (v := .slice _ _ _) rfl) ?_
  refine qA (qF (v := .int .i64 _) rfl) ?_
  refine wD ?_
  refine qS (vs := [_, _]) Tryd.results8 ⟨qM rfl rfl, qM rfl rfl, trivial⟩ fun V => ?_
  exact ⟨(zL E3 (qZ V)), _, rfl, by rw [turnsL, if_neg hc']; exact ⟨none, 0, rfl, fun _ _ => rfl, Rd.nil _ _⟩⟩
 ·skip
  have hc' : checkHandM m a = 0 := by simpa using hc
  obtain ⟨M, H⟩ := checkHand_ok0 hc'
  have F := fit_of M H
  have tr := M.travel
  have rd := M.rods
  obtain ⟨t0, t1, t2, t3, t4, t5, et⟩ := len6 (turned_len m a m.travel)
  refine qP ?_
  refine qE ?_
  refine qC rfl ?_
  refine wH 0 (vs := [.int .i64 _, .int .i64 _, .int .i64 _, .int .i64 _, .int .i64 _, .slice _ _ _, .slice _ _ _, .slice _ _ _, .slice _ _ _]) rfl rfl rfl rfl rfl ?_
  refine wH 1 (vs := [.slice _ _ _, .slice _ _ _]) rfl rfl rfl rfl rfl ?_
  refine qA (qI rfl rfl rfl rfl 3 rfl) ?_
  refine qN 0 (v := .int .i64 _) rfl rfl rfl rfl ?_
  have TT := turned_ok (cB := cB) (cQ := cQ) (cL := cL) (cW := cW) (cH := cH) (cO := cO) hph F (by omega) tr.2 h3 (RH.ext E3) (RM.ext E3)
  rw [et] at TT
  refine qV (caps := []) (vs := [.agg #[.int .i64 _, .int .i64 _, .int .i64 _, .int .i64 _, .int .i64 _, .slice _ _ _, .slice _ _ _, .slice _ _ _, .slice _ _ _], .agg #[.slice _ _ _, .slice _ _ _], .int .i64 _]) rfl rfl rfl (TT) ?_
  rintro _ h4 E4 rfl
  refine wW (cs := [_, _, _, _, _, _]) rfl rfl fun b7 hb7 => ?_
  refine qH [_, _, _] rfl ?_
  refine wG 2 (v := .agg #[.int .i64 _, .int .i64 _, .int .i64 _, .int .i64 _, .int .i64 _, .int .i64 _]) (vs := [_, _, _, _, _, _]) (c' := [_, _, _, _, _, _]) rfl rfl rfl rfl rfl rfl rfl rfl rfl ?_
  refine qH [_, _, _] rfl ?_
  refine qE ?_
  refine qC rfl ?_
  refine qK (zc := [_]) (vs := []) (cs := []) rfl rfl rfl rfl rfl rfl rfl fun b19 hb19 => ?_
  refine qH [_, _, _, _] rfl ?_
  refine qA (qI rfl rfl rfl rfl 0 rfl) ?_
  refine qN 0 (v := .int .i64 _) rfl rfl rfl rfl ?_
  refine qA (pv_sliceAH m.rods.toNat rfl rfl (by omega) rfl rfl (by omega) (by omega)) ?_
  have hl6 : (List.take m.rods.toNat [Value.int .i64 t0, .int .i64 t1, .int .i64 t2, .int .i64 t3, .int .i64 t4, .int .i64 t5]).length = m.rods.toNat * 1 := by rw [List.length_take]; simp; omega
  refine zF 3 accR_new rfl rfl rfl (fun V => rd_take (rdP V (i := 2) rfl) m.rods.toNat) hl6 (plain_take m.rods.toNat rfl) rfl rfl rfl rfl rfl rfl rfl (by omega) rfl (by rw [hl6, List.length_nil]; omega) fun a2 h1a E1a ha2 => ?_
  refine qH [_, _, _, _] rfl ?_
  refine qA (qF (v := .slice _ _ _) rfl) ?_
  refine qA (qF (v := .int .i64 _) rfl) ?_
  refine wD ?_
  refine qS (vs := [_, _]) Tryd.results8 ⟨qM rfl rfl, qM rfl rfl, trivial⟩ fun V => ?_
  refine ⟨(zL (zL (zL E3 E4) E1a) (qZ V)), .slice a2.A a2.n a2.c, by rw [hc']; rfl, ?_⟩
  have e2 : ([] : List Value) ++ List.take m.rods.toNat [Value.int .i64 t0, .int .i64 t1, .int .i64 t2, .int .i64 t3, .int .i64 t4, .int .i64 t5] = (turnsL m a).flatMap intC := by rw [turnsL, if_pos hc', et, List.nil_append, flat_intC, tV, List.map_take]; rfl
  rw [e2] at ha2
  exact AccP.row (i := 3) ha2 (by omega) (fun _ _ => rfl) V rfl
end
end Go.Proofs.YtmpahfdiebhdbaaDoor
namespace Go.Proofs.YtmpahfdiebhdbaaDoor
open Go Go.HL Go.Proofs Go.Wx Go.Rd
section
variable [Lvl]
set_option maxRecDepth 100000
def toldC : FaultP → List Value
 | .shut i => [.int .i64 1, .int .i64 i]
 | .opn i => [.int .i64 2, .int .i64 i]
 | .pin i => [.int .i64 3, .int .i64 i]
 | .link i => [.int .i64 4, .int .i64 i]
theorem toldM (f : FaultP) : (toldC f).length = 2 := by cases f <;> rfl
theorem shutTold_ok (i : Nat) (h : AH) : FnT Tryd.prog 107 #[.int .i64 i] h (fun v _ => v = .agg (toldC (.shut i)).toArray) := by
 refine wL Tryd.func107 rfl Tryd.ntmps107 rfl ?_
 refine qE ?_
 refine qC rfl ?_
 refine wW (cs := [_, _]) rfl rfl fun b2 hb2 => ?_
 refine qH [_] rfl ?_
 refine qE ?_
 refine qC rfl ?_
 refine qA (qD (v := .int .i64 _) rfl) ?_
 refine qA (wX (zc := [_, _]) (vs := [(0, .int .i64 _), (1, .int .i64 _)]) (cs := [_, _]) rfl rfl rfl rfl rfl rfl) ?_
 refine wG 0 (v := .agg #[.int .i64 _, .int .i64 _]) (vs := [_, _]) (c' := [_, _]) rfl rfl rfl rfl rfl rfl rfl rfl rfl ?_
 refine qH [_] rfl ?_
 refine wD ?_
 refine qS (vs := [_]) Tryd.results107 ⟨resV_agg 0 rfl rfl rfl rfl rfl (vs := [.int .i64 _, .int .i64 _]) rfl, trivial⟩ fun V => ?_
 exact ⟨(qZ V), rfl⟩
theorem openTold_ok (i : Nat) (h : AH) : FnT Tryd.prog 108 #[.int .i64 i] h (fun v _ => v = .agg (toldC (.opn i)).toArray) := by
 refine wL Tryd.func108 rfl Tryd.ntmps108 rfl ?_
 refine qE ?_
 refine qC rfl ?_
 refine wW (cs := [_, _]) rfl rfl fun b2 hb2 => ?_
 refine qH [_] rfl ?_
 refine qE ?_
 refine qC rfl ?_
 refine qA (qD (v := .int .i64 _) rfl) ?_
 refine qA (wX (zc := [_, _]) (vs := [(0, .int .i64 _), (1, .int .i64 _)]) (cs := [_, _]) rfl rfl rfl rfl rfl rfl) ?_
 refine wG 0 (v := .agg #[.int .i64 _, .int .i64 _]) (vs := [_, _]) (c' := [_, _]) rfl rfl rfl rfl rfl rfl rfl rfl rfl ?_
 refine qH [_] rfl ?_
 refine wD ?_
 refine qS (vs := [_]) Tryd.results108 ⟨resV_agg 0 rfl rfl rfl rfl rfl (vs := [.int .i64 _, .int .i64 _]) rfl, trivial⟩ fun V => ?_
 exact ⟨(qZ V), rfl⟩
theorem pinTold_ok (i : Nat) (h : AH) : FnT Tryd.prog 106 #[.int .i64 i] h (fun v _ => v = .agg (toldC (.pin i)).toArray) := by
 refine wL Tryd.func106 rfl Tryd.ntmps106 rfl ?_
 refine qE ?_
 refine qC rfl ?_
 refine wW (cs := [_, _]) rfl rfl fun b2 hb2 => ?_
 refine qH [_] rfl ?_
 refine qE ?_
 refine qC rfl ?_
 refine qA (qD (v := .int .i64 _) rfl) ?_
 refine qA (wX (zc := [_, _]) (vs := [(0, .int .i64 _), (1, .int .i64 _)]) (cs := [_, _]) rfl rfl rfl rfl rfl rfl) ?_
 refine wG 0 (v := .agg #[.int .i64 _, .int .i64 _]) (vs := [_, _]) (c' := [_, _]) rfl rfl rfl rfl rfl rfl rfl rfl rfl ?_
 refine qH [_] rfl ?_
 refine wD ?_
 refine qS (vs := [_]) Tryd.results106 ⟨resV_agg 0 rfl rfl rfl rfl rfl (vs := [.int .i64 _, .int .i64 _]) rfl, trivial⟩ fun V => ?_
 exact ⟨(qZ V), rfl⟩
theorem linkTold_ok (i : Nat) (h : AH) : FnT Tryd.prog 109 #[.int .i64 i] h (fun v _ => v = .agg (toldC (.link i)).toArray) := by
 refine wL Tryd.func109 rfl Tryd.ntmps109 rfl ?_
 refine qE ?_
 refine qC rfl ?_
 refine wW (cs := [_, _]) rfl rfl fun b2 hb2 => ?_
 refine qH [_] rfl ?_
 refine qE ?_
 refine qC rfl ?_
 refine qA (qD (v := .int .i64 _) rfl) ?_
 refine qA (wX (zc := [_, _]) (vs := [(0, .int .i64 _), (1, .int .i64 _)]) (cs := [_, _]) rfl rfl rfl rfl rfl rfl) ?_
 refine wG 0 (v := .agg #[.int .i64 _, .int .i64 _]) (vs := [_, _]) (c' := [_, _]) rfl rfl rfl rfl rfl rfl rfl rfl rfl ?_
 refine qH [_] rfl ?_
 refine wD ?_
 refine qS (vs := [_]) Tryd.results109 ⟨resV_agg 0 rfl rfl rfl rfl rfl (vs := [.int .i64 _, .int .i64 _]) rfl, trivial⟩ fun V => ?_
 exact ⟨(qZ V), rfl⟩
theorem flat_snoc {l : List FaultP} {k : Nat} (h : k < l.length) : (l.take (k + 1)).flatMap toldC = (l.take k).flatMap toldC ++ toldC l[k] := by
 rw [take_snoc h, List.flatMap_append]
 simp
def faultsL (m : MachP) : List FaultP := if chkM m = 0 then faultsM m else []
set_option maxHeartbeats 4000000 in
theorem Faults_ok (m : MachP) (AB AQ AL AW : Option Addr) (cB cQ cL cW : Nat) (h : AH) (RM : MachR h AB AQ AL AW m) (h0 : m.weights.length < 2 ^ 40) :
  FnT Tryd.prog 38 #[machV AB AQ AL AW cB cQ cL cW m] h (fun v h' => ∃ L, v = .tuple #[L, .int .i64 (chkM m)] ∧ SlR h' 2 toldC (faultsL m) L) := by
 refine wL Tryd.func38 rfl Tryd.ntmps38 rfl ?_
 refine qE ?_
 refine qC rfl ?_
 refine op_box (v := .agg #[.int .i64 _, .int .i64 _, .int .i64 _, .int .i64 _, .int .i64 _, .slice _ _ _, .slice _ _ _, .slice _ _ _, .slice _ _ _]) (cs := [_, _, _, _, _, _, _, _, _]) rfl rfl fun b1 hb1 => ?_
 refine qH [_] rfl ?_
 refine qA (qF (v := .slice _ _ _) rfl) ?_
 refine qA (qF (v := .int .i64 _) rfl) ?_
 refine qE ?_
 refine qE ?_
 refine qC rfl ?_
 refine wH 0 (vs := [.int .i64 _, .int .i64 _, .int .i64 _, .int .i64 _, .int .i64 _, .slice _ _ _, .slice _ _ _, .slice _ _ _, .slice _ _ _]) rfl rfl rfl rfl rfl ?_
 refine qV (caps := []) (vs := [.agg #[.int .i64 _, .int .i64 _, .int .i64 _, .int .i64 _, .int .i64 _, .slice _ _ _, .slice _ _ _, .slice _ _ _, .slice _ _ _]]) rfl rfl rfl (Check_ok m AB AQ AL AW cB cQ cL cW h (RM.ext (Ext.refl _)) h0) ?_
 rintro _ h1 E1 rfl
 refine qA (qF (v := .int .i64 _) rfl) ?_
 refine qE ?_
 refine qC rfl ?_
 refine qA (qD (v := .int .i64 _) rfl) ?_
 refine qA (qJ (v := .bool _) rfl) ?_
 refine wA rfl (fun hc => ?_) (fun hc => ?_)
 ·skip
  have hc' : chkM m ≠ 0 := by simpa using hc
  refine qE ?_
  refine qC rfl ?_
  refine qA (qD (v := .int .i64 _) rfl) ?_
  refine qA (qF (v := .slice _ _ _) rfl) ?_
  refine qA (qF (v := .int .i64 _) rfl) ?_
  refine wD ?_
  refine qS (vs := [_, _]) Tryd.results38 ⟨qM rfl rfl, qM rfl rfl, trivial⟩ fun V => ?_
  exact ⟨(zL E1 (qZ V)), _, rfl, by rw [faultsL, if_neg hc']; exact ⟨none, 0, rfl, fun _ h => absurd h List.not_mem_nil, Rd.nil _ _⟩⟩
 ·skip
  have hc' : chkM m = 0 := by simpa using hc
  have M := check_ok hc'
  have lv := M.levers
  have pl := M.pl
  have ll := M.ll
  have fl := faults_len m
  refine qP ?_
  refine qE ?_
  refine qC rfl ?_
  refine qA (qF (v := .slice _ _ _) rfl) ?_
  refine qE ?_
  refine qE ?_
  refine qC rfl ?_
  refine wH 0 (vs := [.int .i64 _, .int .i64 _, .int .i64 _, .int .i64 _, .int .i64 _, .slice _ _ _, .slice _ _ _, .slice _ _ _, .slice _ _ _]) rfl rfl rfl rfl rfl ?_
  refine qV (caps := []) (vs := [.agg #[.int .i64 _, .int .i64 _, .int .i64 _, .int .i64 _, .int .i64 _, .slice _ _ _, .slice _ _ _, .slice _ _ _, .slice _ _ _]]) rfl rfl rfl (faults_ok m (by omega) (by omega) (by omega) AB AQ AL AW cB cQ cL cW h1) ?_
  rintro _ h2 E2 ⟨FA, cF, rfl, RF⟩
  obtain ⟨fs, hfs⟩ : ∃ fs, fs = faultsM m := ⟨_, rfl⟩
  have eF : faultsL m = fs := by rw [faultsL, if_pos hc', hfs]
  rw [← hfs] at RF fl ⊢
  refine qA (wP rfl rfl) ?_
  refine qA (qD (v := .int .i64 _) rfl) ?_
  refine qT ?_
  refine goes_more ?_
  refine wE [_, _] rfl ?_
  refine xp_loopL [5, 7, 16, 17, 18, 19, 20, 21, 22, 23, 24, 25] 2 (α := Nat × Acc) (fun ⟨k, a⟩ => [(5, .slice a.A a.n a.c), (16, .int .i64 k)]) (fun ⟨k, a⟩ L => L.set 1 (a.p)) (fun ⟨k, a⟩ h_k => k ≤ fs.length ∧ AccR 87 2 ((fs.take k).flatMap toldC) a) (fun ⟨k, a⟩ => fs.length - k) ((0, acc0)) ⟨rfl, rfl, trivial⟩ (rfl) (⟨Nat.zero_le _, accR0⟩) ?_
  rintro ⟨k, a⟩ T1 h_k E_k J_k
  refine wE [_, _] rfl ?_
  obtain ⟨K1, K2⟩ := J_k
  refine qE ?_
  refine qC rfl ?_
  refine qA (qJ (v := .bool _) rfl) ?_
  refine qE ?_
  refine wA rfl (fun hk => ?_) (fun hk => ?_)
  ·skip
   have hkl : k < fs.length := ltI hk
   obtain ⟨g, off, hA, hc⟩ := (RF.ext E_k).at (by omega) hkl
   have hN := flat_snoc hkl
   have hlen : ((fs.take k).flatMap toldC).length = k * 2 := by rw [zE (m := 2) (fun x _ => toldM x), List.length_take]; omega
   obtain ⟨fk, hfk⟩ : ∃ fk, fk = fs[k] := ⟨_, rfl⟩
   rw [← hfk] at hc hN
   rcases fk with i | i | i | i
   ·skip
    refine qP ?_
    refine qE ?_
    refine qT ?_
    refine qE ?_
    refine qC rfl ?_
    refine qA (wU rfl hA rfl rfl rfl (by omega) (by omega)) ?_
    refine wT (v := _) rfl rfl ((hc) 0 _ rfl) ?_
    refine qA (qF (v := _) rfl) ?_
    refine qC rfl ?_
    refine qA (qD (v := .slice _ _ _) rfl) ?_
    refine qA (qD (v := _) rfl) ?_
    refine op_invoke rfl (by kernel_rfl) rfl rfl (shutTold_ok i h_k) ?_
    rintro _ h3 E3 rfl
    refine qK (zc := [_, _]) (vs := [(0, .agg #[.int .i64 _, .int .i64 _])]) (cs := [_, _]) rfl rfl rfl rfl rfl rfl rfl fun b23 hb23 => ?_
    refine qH [_, _, _] rfl ?_
    refine zF 1 K2 rfl rfl rfl (fun V => rdP V (i := 2) rfl) rfl rfl rfl rfl rfl rfl rfl rfl rfl (by omega) rfl (by rw [hlen]; simp; omega) fun a2 h2a E2a ha2 => ?_
    refine qH [_, _, _] rfl ?_
    refine qA (qF (v := .slice _ _ _) rfl) ?_
    refine qC rfl ?_
    refine qA (qX rfl (by omega)) ?_
    refine qA (qD (v := .int .i64 _) rfl) ?_
    refine ⟨(k + 1, a2), ⟨rfl, rfl, trivial⟩, rfl, rfl, (zL (zL E_k E3) E2a), fun h3 E3 => ⟨hkl, by rw [hN]; exact ha2⟩, by first | omega | (dsimp only; omega), ?_⟩
    repeat (first | exact wK _ _ _ | refine wM (by decide) ?_ | refine wJ rfl ?_ | refine wN rfl ?_)
   ·skip
    refine qP ?_
    refine qE ?_
    refine qT ?_
    refine qE ?_
    refine qC rfl ?_
    refine qA (wU rfl hA rfl rfl rfl (by omega) (by omega)) ?_
    refine wT (v := _) rfl rfl ((hc) 0 _ rfl) ?_
    refine qA (qF (v := _) rfl) ?_
    refine qC rfl ?_
    refine qA (qD (v := .slice _ _ _) rfl) ?_
    refine qA (qD (v := _) rfl) ?_
    refine op_invoke rfl (by kernel_rfl) rfl rfl (openTold_ok i h_k) ?_
    rintro _ h3 E3 rfl
    refine qK (zc := [_, _]) (vs := [(0, .agg #[.int .i64 _, .int .i64 _])]) (cs := [_, _]) rfl rfl rfl rfl rfl rfl rfl fun b23_1 hb23_1 => ?_
    refine qH [_, _, _] rfl ?_
    refine zF 1 K2 rfl rfl rfl (fun V => rdP V (i := 2) rfl) rfl rfl rfl rfl rfl rfl rfl rfl rfl (by omega) rfl (by rw [hlen]; simp; omega) fun a2 h3a E3a ha2 => ?_
    refine qH [_, _, _] rfl ?_
    refine qA (qF (v := .slice _ _ _) rfl) ?_
    refine qC rfl ?_
    refine qA (qX rfl (by omega)) ?_
    refine qA (qD (v := .int .i64 _) rfl) ?_
    refine ⟨(k + 1, a2), ⟨rfl, rfl, trivial⟩, rfl, rfl, (zL (zL E_k E3) E3a), fun h3 E3 => ⟨hkl, by rw [hN]; exact ha2⟩, by first | omega | (dsimp only; omega), ?_⟩
    repeat (first | exact wK _ _ _ | refine wM (by decide) ?_ | refine wJ rfl ?_ | refine wN rfl ?_)
   ·skip
    refine qP ?_
    refine qE ?_
    refine qT ?_
    refine qE ?_
    refine qC rfl ?_
    refine qA (wU rfl hA rfl rfl rfl (by omega) (by omega)) ?_
    refine wT (v := _) rfl rfl ((hc) 0 _ rfl) ?_
    refine qA (qF (v := _) rfl) ?_
    refine qC rfl ?_
    refine qA (qD (v := .slice _ _ _) rfl) ?_
    refine qA (qD (v := _) rfl) ?_
    refine op_invoke rfl (by kernel_rfl) rfl rfl (pinTold_ok i h_k) ?_
    rintro _ h3 E3 rfl
    refine qK (zc := [_, _]) (vs := [(0, .agg #[.int .i64 _, .int .i64 _])]) (cs := [_, _]) rfl rfl rfl rfl rfl rfl rfl fun b23_2 hb23_2 => ?_
    refine qH [_, _, _] rfl ?_
    refine zF 1 K2 rfl rfl rfl (fun V => rdP V (i := 2) rfl) rfl rfl rfl rfl rfl rfl rfl rfl rfl (by omega) rfl (by rw [hlen]; simp; omega) fun a2 h4a E4a ha2 => ?_
    refine qH [_, _, _] rfl ?_
    refine qA (qF (v := .slice _ _ _) rfl) ?_
    refine qC rfl ?_
    refine qA (qX rfl (by omega)) ?_
    refine qA (qD (v := .int .i64 _) rfl) ?_
    refine ⟨(k + 1, a2), ⟨rfl, rfl, trivial⟩, rfl, rfl, (zL (zL E_k E3) E4a), fun h3 E3 => ⟨hkl, by rw [hN]; exact ha2⟩, by first | omega | (dsimp only; omega), ?_⟩
    repeat (first | exact wK _ _ _ | refine wM (by decide) ?_ | refine wJ rfl ?_ | refine wN rfl ?_)
   ·skip
    refine qP ?_
    refine qE ?_
    refine qT ?_
    refine qE ?_
    refine qC rfl ?_
    refine qA (wU rfl hA rfl rfl rfl (by omega) (by omega)) ?_
    refine wT (v := _) rfl rfl ((hc) 0 _ rfl) ?_
    refine qA (qF (v := _) rfl) ?_
    refine qC rfl ?_
    refine qA (qD (v := .slice _ _ _) rfl) ?_
    refine qA (qD (v := _) rfl) ?_
    refine op_invoke rfl (by kernel_rfl) rfl rfl (linkTold_ok i h_k) ?_
    rintro _ h3 E3 rfl
    refine qK (zc := [_, _]) (vs := [(0, .agg #[.int .i64 _, .int .i64 _])]) (cs := [_, _]) rfl rfl rfl rfl rfl rfl rfl fun b23_3 hb23_3 => ?_
    refine qH [_, _, _] rfl ?_
    refine zF 1 K2 rfl rfl rfl (fun V => rdP V (i := 2) rfl) rfl rfl rfl rfl rfl rfl rfl rfl rfl (by omega) rfl (by rw [hlen]; simp; omega) fun a2 h5a E5a ha2 => ?_
    refine qH [_, _, _] rfl ?_
    refine qA (qF (v := .slice _ _ _) rfl) ?_
    refine qC rfl ?_
    refine qA (qX rfl (by omega)) ?_
    refine qA (qD (v := .int .i64 _) rfl) ?_
    refine ⟨(k + 1, a2), ⟨rfl, rfl, trivial⟩, rfl, rfl, (zL (zL E_k E3) E5a), fun h3 E3 => ⟨hkl, by rw [hN]; exact ha2⟩, by first | omega | (dsimp only; omega), ?_⟩
    repeat (first | exact wK _ _ _ | refine wM (by decide) ?_ | refine wJ rfl ?_ | refine wN rfl ?_)
  ·skip
   have hke : k = fs.length := by have := geI hk; omega
   subst hke
   rw [List.take_length] at K2
   refine zA ?_
   refine qE ?_
   refine qC rfl ?_
   refine qA (qD (v := .slice _ _ _) rfl) ?_
   refine qA (qF (v := .slice _ _ _) rfl) ?_
   refine qA (qF (v := .int .i64 _) rfl) ?_
   refine wD ?_
   refine qS (vs := [_, _]) Tryd.results38 ⟨qM rfl rfl, qM rfl rfl, trivial⟩ fun V => ?_
   refine ⟨(zL (zL (zL E1 E2) E_k) (qZ V)), .slice a.A a.n a.c, by rw [hc']; rfl, ?_⟩
   rw [eF]
   exact AccP.row (i := 1) K2 (by omega) (fun x _ => toldM x) V rfl
def pickL (m : MachP) (l : List Int) : List FaultP := l.map fun n => (faultsM m).getD n.toNat (.shut 0)
theorem pickL_fok {m : MachP} (M : MOK m) {l : List Int} (h : ∀ n ∈ l, 0 ≤ n ∧ n < (faultsM m).length) : ∀ f ∈ pickL m l, FOK m f := by
 intro f hf
 obtain ⟨n, hn, rfl⟩ := List.mem_map.1 hf
 have := h n hn
 rw [List.getD_eq_getElem?_getD, List.getElem?_eq_getElem (by omega)]
 exact faults_fok M (List.getElem_mem _)
theorem pick_ok (fs : List FaultP) (hF : fs.length < 2 ^ 20) (l : List Int) (hl : l.length < 2 ^ 19) (hb : ∀ n ∈ l, 0 ≤ n ∧ n < fs.length) (FA A : Option Addr) (cF c : Nat) (h : AH) (RF : Row h 1 faultC FA fs) (R : Row h 1 intC A l) :
  FnT Tryd.prog 59 #[.slice FA fs.length cF, .slice A l.length c] h (fun v h' => SlR h' 1 faultC (l.map fun n => fs.getD n.toNat (.shut 0)) v) := by
 refine wL Tryd.func59 rfl Tryd.ntmps59 rfl ?_
 refine qE ?_
 refine qC rfl ?_
 refine qA (qF (v := .slice _ _ _) rfl) ?_
 refine qE ?_
 refine qC rfl ?_
 refine qA (qF (v := .slice _ _ _) rfl) ?_
 refine qE ?_
 refine qE ?_
 refine qC rfl ?_
 refine qA (qD (v := .slice _ _ _) rfl) ?_
 refine qA (wP rfl rfl) ?_
 refine qA (qD (v := .int .i64 _) rfl) ?_
 refine qT ?_
 refine goes_more ?_
 refine wE [_] rfl ?_
 refine xp_loopL [5, 7, 10, 11, 12, 13, 14, 15, 16, 17, 18, 19, 20, 21] 1 (α := Nat × Acc) (fun ⟨k, a⟩ => [(5, .slice a.A a.n a.c), (10, .int .i64 k)]) (fun ⟨k, a⟩ L => L.set 0 (a.p)) (fun ⟨k, a⟩ h_k => k ≤ l.length ∧ AccR 114 1 (((l.take k).map fun n => fs.getD n.toNat (.shut 0)).flatMap faultC) a) (fun ⟨k, a⟩ => l.length - k) ((0, acc0)) ⟨rfl, rfl, trivial⟩ (rfl) (⟨Nat.zero_le _, accR0⟩) ?_
 rintro ⟨k, a⟩ T1 h_k E_k J_k
 refine wE [_] rfl ?_
 obtain ⟨K1, K2⟩ := J_k
 refine qE ?_
 refine qC rfl ?_
 refine qA (qJ (v := .bool _) rfl) ?_
 refine qE ?_
 refine wA rfl (fun hk => ?_) (fun hk => ?_)
 ·skip
  have hkl : k < l.length := ltI hk
  have hbk := hb _ (List.getElem_mem hkl)
  have hlf : l[k].toNat < fs.length := by omega
  have hgd : fs.getD l[k].toNat (.shut 0) = fs[l[k].toNat] := by rw [List.getD_eq_getElem?_getD, List.getElem?_eq_getElem hlf]; rfl
  obtain ⟨g, off, hA, hc⟩ := (R.ext E_k).at (by omega) hkl
  obtain ⟨g2, off2, hB, hd⟩ := (RF.ext E_k).at (by omega) hlf
  rw [← hgd] at hd
  refine qP ?_
  refine qE ?_
  refine qT ?_
  refine qE ?_
  refine qC rfl ?_
  refine qA (wU rfl hA rfl rfl rfl (by omega) (by omega)) ?_
  refine wT (v := .int .i64 _) rfl rfl ((hc) 0 _ rfl) ?_
  refine qA (qF (v := .int .i64 _) rfl) ?_
  refine qC rfl ?_
  refine qA (qD (v := .slice _ _ _) rfl) ?_
  refine qA (qD (v := .slice _ _ _) rfl) ?_
  refine qA (qD (v := .int .i64 _) rfl) ?_
  refine qA (wU rfl hB rfl rfl rfl (by omega) (by omega)) ?_
  refine wT (v := _) rfl rfl ((hd) 0 _ rfl) ?_
  refine qK (m := 1) (zc := [.nilIface]) (vs := [(0, faultV (fs.getD l[k].toNat (.shut 0)))]) (cs := [faultV (fs.getD l[k].toNat (.shut 0))]) rfl rfl rfl rfl rfl rfl (fill_fault _) fun b19 hb19 => ?_
  refine qH [_, _] rfl ?_
  refine zF 0 K2 rfl rfl rfl (fun V => rdP V (i := 1) rfl) rfl (faultP (fs.getD l[k].toNat (.shut 0))) rfl rfl rfl rfl rfl rfl rfl (by omega) rfl (by rw [zE (m := 1) (fun _ _ => rfl)]; simp; omega) fun a2 h2a E2a ha2 => ?_
  refine qH [_, _] rfl ?_
  refine qA (qF (v := .slice _ _ _) rfl) ?_
  refine qC rfl ?_
  refine qA (qX rfl (by omega)) ?_
  refine qA (qD (v := .int .i64 _) rfl) ?_
  refine ⟨(k + 1, a2), ⟨rfl, rfl, trivial⟩, rfl, rfl, (zL E_k E2a), fun h3 E3 => ⟨hkl, by rw [take_snoc hkl, List.map_append, List.flatMap_append]; exact ha2⟩, by first | omega | (dsimp only; omega), ?_⟩
  repeat (first | exact wK _ _ _ | refine wM (by decide) ?_ | refine wJ rfl ?_ | refine wN rfl ?_)
 ·skip
  have hke : k = l.length := by have := geI hk; omega
  subst hke
  rw [List.take_length] at K2
  refine zA ?_
  refine qE ?_
  refine qC rfl ?_
  refine qA (qD (v := .slice _ _ _) rfl) ?_
  refine qA (qF (v := .slice _ _ _) rfl) ?_
  refine wD ?_
  refine qS (vs := [_]) Tryd.results59 ⟨qM rfl rfl, trivial⟩ fun V => ?_
  exact ⟨(zL E_k (qZ V)), AccP.row (i := 0) K2 (by omega) (fun _ _ => rfl) V rfl⟩
theorem soundsB_small {m : MachP} (M : MOK m) {l : List FaultP} (hf : ∀ f ∈ l, FOK m f) (a : HandP) : soundsB m l a < 2 ^ 60 := by
 have PF := pfit_of (brk_mok M l)
 have h1 := sounds_small PF a m.travel
 have h2 := brk_bits M.levers.2 hf
 unfold soundsB
 exact Nat.lt_of_le_of_lt Nat.and_le_left (Nat.or_lt_two_pow h1 (by omega))
def brokenE (m : MachP) (l : List Int) (a : HandP) : Int := if chkM m ≠ 0 then chkM m else if checkSetM l (faultsM m).length ≠ 0 then checkSetM l (faultsM m).length else checkHandM m a
def brokenL (m : MachP) (l : List Int) (a : HandP) : List Int := if brokenE m l a = 0 then listN (soundsB m (pickL m l) a) 6 else []
set_option maxHeartbeats 4000000 in
theorem Broken_ok (hph : Lvl.ph = true) (m : MachP) (l : List Int) (a : HandP) (AB AQ AL AW NA HA OA : Option Addr) (cB cQ cL cW cN cH cO : Nat) (h : AH) (RM : MachR h AB AQ AL AW m) (RN : Row h 1 intC NA l) (RH : HandR h HA OA a) (h0 : m.weights.length < 2 ^ 40) (hl : l.length < 2 ^ 19) (h1 : a.buttons.length < 2 ^ 40) (h2 : a.on.length < 2 ^ 40) :
  FnT Tryd.prog 39 #[machV AB AQ AL AW cB cQ cL cW m, .slice NA l.length cN, handV HA OA cH cO a] h (fun v h' => ∃ L, v = .tuple #[L, .int .i64 (brokenE m l a)] ∧ SlR h' 1 intC (brokenL m l a) L) := by
 refine wL Tryd.func39 rfl Tryd.ntmps39 rfl ?_
 refine qE ?_
 refine qC rfl ?_
 refine op_box (v := .agg #[.int .i64 _, .int .i64 _, .int .i64 _, .int .i64 _, .int .i64 _, .slice _ _ _, .slice _ _ _, .slice _ _ _, .slice _ _ _]) (cs := [_, _, _, _, _, _, _, _, _]) rfl rfl fun b3 hb3 => ?_
 refine qH [_] rfl ?_
 refine op_box (v := .agg #[.slice _ _ _, .slice _ _ _]) (cs := [_, _]) rfl rfl fun b5 hb5 => ?_
 refine qH [_, _] rfl ?_
 refine qA (qF (v := .slice _ _ _) rfl) ?_
 refine qA (qF (v := .int .i64 _) rfl) ?_
 refine qE ?_
 refine qE ?_
 refine qC rfl ?_
 refine wH 0 (vs := [.int .i64 _, .int .i64 _, .int .i64 _, .int .i64 _, .int .i64 _, .slice _ _ _, .slice _ _ _, .slice _ _ _, .slice _ _ _]) rfl rfl rfl rfl rfl ?_
 refine qV (caps := []) (vs := [.agg #[.int .i64 _, .int .i64 _, .int .i64 _, .int .i64 _, .int .i64 _, .slice _ _ _, .slice _ _ _, .slice _ _ _, .slice _ _ _]]) rfl rfl rfl (Check_ok m AB AQ AL AW cB cQ cL cW h (RM.ext (Ext.refl _)) h0) ?_
 rintro _ h3 E3 rfl
 refine qA (qF (v := .int .i64 _) rfl) ?_
 refine qE ?_
 refine qC rfl ?_
 refine qA (qD (v := .int .i64 _) rfl) ?_
 refine qA (qJ (v := .bool _) rfl) ?_
 refine wA rfl (fun hc => ?_) (fun hc => ?_)
 ·skip
  have hc' : chkM m ≠ 0 := by simpa using hc
  have e : brokenE m l a = chkM m := by rw [brokenE, if_pos hc']
  refine qE ?_
  refine qC rfl ?_
  refine qA (qD (v := .int .i64 _) rfl) ?_
  refine qA (qF (v := .slice _ _ _) rfl) ?_
  refine qA (qF (v := .int .i64 _) rfl) ?_
  refine wD ?_
  refine qS (vs := [_, _]) Tryd.results39 ⟨qM rfl rfl, qM rfl rfl, trivial⟩ fun V => ?_
  exact ⟨(zL E3 (qZ V)), .slice none 0 0, by rw [e]; rfl, by rw [brokenL, e, if_neg hc']; exact ⟨none, 0, rfl, row_nil _ _⟩⟩
 ·skip
  have hc' : chkM m = 0 := by simpa using hc
  have M := check_ok hc'
  have lv := M.levers
  have pl := M.pl
  have ll := M.ll
  have fl := faults_len m
  have e0 : brokenE m l a = if checkSetM l (faultsM m).length ≠ 0 then checkSetM l (faultsM m).length else checkHandM m a := by rw [brokenE, if_neg (by simp [hc'])]
  refine qP ?_
  refine qE ?_
  refine qC rfl ?_
  refine wH 0 (vs := [.int .i64 _, .int .i64 _, .int .i64 _, .int .i64 _, .int .i64 _, .slice _ _ _, .slice _ _ _, .slice _ _ _, .slice _ _ _]) rfl rfl rfl rfl rfl ?_
  refine qV (caps := []) (vs := [.agg #[.int .i64 _, .int .i64 _, .int .i64 _, .int .i64 _, .int .i64 _, .slice _ _ _, .slice _ _ _, .slice _ _ _, .slice _ _ _]]) rfl rfl rfl (faults_ok m (by omega) (by omega) (by omega) AB AQ AL AW cB cQ cL cW h3) ?_
  rintro _ h4 E4 ⟨FA, cF, rfl, RF⟩
  refine qA (qF (v := .slice _ _ _) rfl) ?_
  refine qE ?_
  refine qE ?_
  refine qC rfl ?_
  refine qA (qD (v := .slice _ _ _) rfl) ?_
  refine qA (qD (v := .slice _ _ _) rfl) ?_
  refine qA (wP rfl rfl) ?_
  refine qV (caps := []) (vs := [.slice _ _ _, .int .i64 _]) rfl rfl rfl (checkSet_ok l (faultsM m).length (by omega) NA cN h4 (RN.ext (zL E3 E4)) (by omega)) ?_
  rintro _ h5 E5 rfl
  refine qA (qF (v := .int .i64 _) rfl) ?_
  refine qE ?_
  refine qC rfl ?_
  refine qA (qD (v := .int .i64 _) rfl) ?_
  refine qA (qJ (v := .bool _) rfl) ?_
  refine wA rfl (fun hs => ?_) (fun hs => ?_)
  ·skip
   have hs' : checkSetM l (faultsM m).length ≠ 0 := by simpa using hs
   rw [if_pos hs'] at e0
   refine qE ?_
   refine qC rfl ?_
   refine qA (qD (v := .int .i64 _) rfl) ?_
   refine qA (qF (v := .slice _ _ _) rfl) ?_
   refine qA (qF (v := .int .i64 _) rfl) ?_
   refine wD ?_
   refine qS (vs := [_, _]) Tryd.results39 ⟨qM rfl rfl, qM rfl rfl, trivial⟩ fun V => ?_
   exact ⟨(zL (zL (zL E3 E4) E5) (qZ V)), .slice none 0 0, by rw [e0]; rfl, by rw [brokenL, e0, if_neg hs']; exact ⟨none, 0, rfl, row_nil _ _⟩⟩
  ·skip
   have hs' : checkSetM l (faultsM m).length = 0 := by simpa using hs
   rw [if_neg (by simp [hs'])] at e0
   have SO := checkSet_iff.1 hs'
   have hfo := pickL_fok M (fun n hn => SO.mem n hn)
   refine qP ?_
   refine qE ?_
   refine qE ?_
   refine qC rfl ?_
   refine wH 0 (vs := [.int .i64 _, .int .i64 _, .int .i64 _, .int .i64 _, .int .i64 _, .slice _ _ _, .slice _ _ _, .slice _ _ _, .slice _ _ _]) rfl rfl rfl rfl rfl ?_
   refine wH 1 (vs := [.slice _ _ _, .slice _ _ _]) rfl rfl rfl rfl rfl ?_
   refine qV (caps := []) (vs := [.agg #[.int .i64 _, .int .i64 _, .int .i64 _, .int .i64 _, .int .i64 _, .slice _ _ _, .slice _ _ _, .slice _ _ _, .slice _ _ _], .agg #[.slice _ _ _, .slice _ _ _]]) rfl rfl rfl (checkHand_ok m a AB AQ AL AW HA OA cB cQ cL cW cH cO h5 (RM.ext (zL (zL E3 E4) E5)) (RH.ext (zL (zL E3 E4) E5)) h0 h1 h2) ?_
   rintro _ h6 E6 rfl
   refine qA (qF (v := .int .i64 _) rfl) ?_
   refine qE ?_
   refine qC rfl ?_
   refine qA (qD (v := .int .i64 _) rfl) ?_
   refine qA (qJ (v := .bool _) rfl) ?_
   refine wA rfl (fun hd => ?_) (fun hd => ?_)
   ·skip
    have hd' : checkHandM m a ≠ 0 := by simpa using hd
    refine qE ?_
    refine qC rfl ?_
    refine qA (qD (v := .int .i64 _) rfl) ?_
    refine qA (qF (v := .slice _ _ _) rfl) ?_
    refine qA (qF (v := .int .i64 _) rfl) ?_
    refine wD ?_
    refine qS (vs := [_, _]) Tryd.results39 ⟨qM rfl rfl, qM rfl rfl, trivial⟩ fun V => ?_
    exact ⟨(zL (zL (zL (zL E3 E4) E5) E6) (qZ V)), .slice none 0 0, by rw [e0]; rfl, by rw [brokenL, e0, if_neg hd']; exact ⟨none, 0, rfl, row_nil _ _⟩⟩
   ·skip
    have hd' : checkHandM m a = 0 := by simpa using hd
    obtain ⟨_, H⟩ := checkHand_ok0 hd'
    rw [hd'] at e0
    refine qP ?_
    refine qE ?_
    refine xp_dw [] rfl rfl rfl ?_
    refine wQ (i := 0) rfl (by decide +kernel) ?_
    refine wH 0 (vs := [.int .i64 _, .int .i64 _, .int .i64 _, .int .i64 _, .int .i64 _, .slice _ _ _, .slice _ _ _, .slice _ _ _, .slice _ _ _]) rfl rfl rfl rfl rfl ?_
    refine qO (i := 1) rfl (by decide +kernel) (qD (v := .slice _ _ _) rfl) ?_
    refine qO (i := 2) rfl (by decide +kernel) (qD (v := .slice _ _ _) rfl) ?_
    refine wQ (i := 5) rfl (by decide +kernel) ?_
    refine wH 1 (vs := [.slice _ _ _, .slice _ _ _]) rfl rfl rfl rfl rfl ?_
    refine dw_eff (i := 3) rfl (by decide +kernel) ?_
    refine qV (caps := []) (vs := [.slice _ _ _, .slice _ _ _]) rfl rfl rfl (pick_ok (faultsM m) (by omega) l hl (fun n hn => SO.mem n hn) FA NA cF cN h6 (RF.ext (zL E5 E6)) (RN.ext (zL (zL (zL E3 E4) E5) E6))) ?_
    rintro _ h7 E7 ⟨PA, cP, rfl, RP⟩
    refine ⟨ext_wlm E7 _, ?_⟩
    refine dw_eff (i := 4) rfl (by decide +kernel) ?_
    refine qV (caps := []) (vs := [.agg #[.int .i64 _, .int .i64 _, .int .i64 _, .int .i64 _, .int .i64 _, .slice _ _ _, .slice _ _ _, .slice _ _ _, .slice _ _ _], .slice _ _ _]) rfl rfl rfl (broken_ok m M (pickL m l) hfo (by rw [pickL, List.length_map]; omega) AB AQ AL AW PA cB cQ cL cW cP h7 (RM.ext (zL (zL (zL (zL E3 E4) E5) E6) E7)) RP) ?_
    rintro _ h8 E8 ⟨z1, z2, z3, z4, rfl, BB⟩
    refine ⟨ext_wlm E8 _, ?_⟩
    refine dw_last (i := 6) rfl (by decide +kernel) (by decide +kernel) ?_
    refine qV  (vs := _) rfl rfl rfl (brk_ok hph m M (pickL m l) hfo a H z1 z2 z3 z4 HA OA cH cO h8 BB (RH.ext (zL (zL (zL (zL (zL E3 E4) E5) E6) E7) E8))) ?_
    rintro _ h9 E9 rfl
    refine dw_last (i := 7) rfl (by decide +kernel) (by decide +kernel) ?_
    refine qV (caps := []) (vs := [.int .i64 _]) rfl rfl rfl (list_ok (soundsB m (pickL m l) a) (soundsB_small M hfo a) h9) ?_
    rintro _ h10 E10 ⟨LA, cL2, rfl, RL⟩
    refine qO (i := 8) rfl (by decide +kernel) (qF (v := .slice _ _ _) rfl) ?_
    refine qO (i := 9) rfl (by decide +kernel) (qF (v := .int .i64 _) rfl) ?_
    refine dw_end rfl ?_
    refine wD ?_
    refine qS (vs := [_, _]) Tryd.results39 ⟨qM rfl rfl, qM rfl rfl, trivial⟩ fun V => ?_
    exact ⟨(zL (zL (zL (zL (zL (zL (zL (zL E3 E4) E5) E6) E7) E8) E9) E10) (qZ V)), .slice LA (listN (soundsB m (pickL m l) a) 6).length cL2, by rw [e0]; rfl, by rw [brokenL, e0, if_pos rfl]; exact ⟨LA, cL2, rfl, RL.ext (qZ V)⟩⟩
end
end Go.Proofs.YtmpahfdiebhdbaaDoor
namespace Go.Proofs.YtmpahfdiebhdbaaDoor
open Go Go.HL Go.Proofs Go.Wx Go.Rd
section
variable [Lvl]
set_option maxRecDepth 100000
end
end Go.Proofs.YtmpahfdiebhdbaaDoor
namespace Go.Proofs.YtmpahfdiebhdbaaDoor
open Go Go.HL Go.Proofs Go.Wx Go.Rd
section
variable [Lvl]
set_option maxRecDepth 100000
end
end Go.Proofs.YtmpahfdiebhdbaaDoor
namespace Go.Rd
open Go Go.HL Go.Wx
variable [Lvl]
end Go.Rd
namespace Go.Proofs.YtmpahfdiebhdbaaDoor
open Go Go.HL Go.Proofs Go.Wx Go.Rd
section
variable [Lvl]
set_option maxRecDepth 100000
end
end Go.Proofs.YtmpahfdiebhdbaaDoor
namespace Go.Proofs.YtmpahfdiebhdbaaDoor
open Go Go.HL Go.Proofs Go.Wx Go.Rd
section
variable [Lvl]
set_option maxRecDepth 100000
def fnd (p : Nat → Bool) : Nat → Nat → Option Nat
 | 0, _ => none
 | n + 1, k => if p k then some k else fnd p n (k + 1)
theorem fnd_some {p : Nat → Bool} : ∀ {n k d : Nat}, k ≤ d → d < k + n → p d = true → (∀ i, k ≤ i → i < d → p i = false) → fnd p n k = some d
 | 0, k, d, h1, h2, _, _ => by omega
 | n + 1, k, d, h1, h2, hp, hb => by
  unfold fnd
  by_cases hk : k = d
  ·subst hk; rw [if_pos hp]
  ·rw [if_neg (by rw [hb k (Nat.le_refl _) (by omega)]; decide)]
   exact fnd_some (by omega) (by omega) hp (fun i h3 h4 => hb i (by omega) h4)
theorem fnd_none {p : Nat → Bool} : ∀ {n k : Nat}, (∀ i, k ≤ i → i < k + n → p i = false) → fnd p n k = none
 | 0, _, _ => rfl
 | n + 1, k, h => by
  unfold fnd
  rw [if_neg (by rw [h k (Nat.le_refl _) (by omega)]; decide)]
  exact fnd_none (fun i h1 h2 => h i (by omega) (by omega))
def depthP (m : MachP) (on : List Int) (b v : Int) (d : Nat) : Bool := (soundsM m ⟨[b], on⟩ (d : Int)).testBit v.toNat
def depthO : Option Nat → Int × Int
 | some d => ((d : Int), 0)
 | none => (0, 11)
def depthR (m : MachP) (on : List Int) (b v : Int) : Int × Int :=
 if checkHandM m ⟨[], on⟩ ≠ 0 then (0, checkHandM m ⟨[], on⟩)
 else if !inM b 0 (m.buttons.length - 1) then (0, 3) else if !inM v 0 (m.levers - 1) then (0, 3)
 else depthO (fnd (depthP m on b v) (m.travel.toNat + 1) 0)
set_option maxHeartbeats 4000000 in
theorem Depth_ok (hph : Lvl.ph = true) (m : MachP) (on : List Int) (b v : Int) (AB AQ AL AW OA : Option Addr) (cB cQ cL cW cO : Nat) (h : AH) (RM : MachR h AB AQ AL AW m) (RO : Row h 1 intC OA on) (h0 : m.weights.length < 2 ^ 40) (h2 : on.length < 2 ^ 40) :
  FnT Tryd.prog 10 #[machV AB AQ AL AW cB cQ cL cW m, .slice OA on.length cO, .int .i64 b, .int .i64 v] h (fun w _ => w = .tuple #[.int .i64 (depthR m on b v).1, .int .i64 (depthR m on b v).2]) := by
 refine wL Tryd.func10 rfl Tryd.ntmps10 rfl ?_
 refine qE ?_
 refine qC rfl ?_
 refine op_box (v := .agg #[.int .i64 _, .int .i64 _, .int .i64 _, .int .i64 _, .int .i64 _, .slice _ _ _, .slice _ _ _, .slice _ _ _, .slice _ _ _]) (cs := [_, _, _, _, _, _, _, _, _]) rfl rfl fun b4 hb4 => ?_
 refine qH [_] rfl ?_
 refine qA (qF (v := .int .i64 _) rfl) ?_
 refine qA (qF (v := .int .i64 _) rfl) ?_
 refine qE ?_
 refine qE ?_
 refine qC rfl ?_
 refine wH 0 (vs := [.int .i64 _, .int .i64 _, .int .i64 _, .int .i64 _, .int .i64 _, .slice _ _ _, .slice _ _ _, .slice _ _ _, .slice _ _ _]) rfl rfl rfl rfl rfl ?_
 refine qA (qD (v := .slice _ _ _) rfl) ?_
 refine qA (wX (zc := [_, _]) (vs := [(1, .slice _ _ _)]) (cs := [_, _]) rfl rfl rfl rfl rfl rfl) ?_
 refine qV (caps := []) (vs := [.agg #[.int .i64 _, .int .i64 _, .int .i64 _, .int .i64 _, .int .i64 _, .slice _ _ _, .slice _ _ _, .slice _ _ _, .slice _ _ _], .agg #[.slice _ _ _, .slice _ _ _]]) rfl rfl rfl (checkHand_ok m ⟨[], on⟩ AB AQ AL AW none OA cB cQ cL cW 0 cO h (RM.ext (Ext.refl _)) ⟨row_nil _ _, RO.ext (Ext.refl _)⟩ h0 (by show 0 < 2 ^ 40; decide) h2) ?_
 rintro _ h3 E3 rfl
 refine qA (qF (v := .int .i64 _) rfl) ?_
 refine qE ?_
 refine qC rfl ?_
 refine qA (qD (v := .int .i64 _) rfl) ?_
 refine qA (qJ (v := .bool _) rfl) ?_
 refine wA rfl (fun hc => ?_) (fun hc => ?_)
 ·skip
  have hc' : checkHandM m ⟨[], on⟩ ≠ 0 := by simpa using hc
  refine qE ?_
  refine qC rfl ?_
  refine qA (qD (v := .int .i64 _) rfl) ?_
  refine qA (qF (v := .int .i64 _) rfl) ?_
  refine qA (qF (v := .int .i64 _) rfl) ?_
  refine wD ?_
  refine qS (vs := [_, _]) Tryd.results10 ⟨qM rfl rfl, qM rfl rfl, trivial⟩ fun V => ?_
  exact ⟨(zL E3 (qZ V)), by rw [depthR, if_pos hc']; rfl⟩
 ·skip
  have hc' : checkHandM m ⟨[], on⟩ = 0 := by simpa using hc
  obtain ⟨M, H⟩ := checkHand_ok0 hc'
  have PF := pfit_of M
  have tr := M.travel
  have bl := M.bl
  have lv := M.levers
  have eR : depthR m on b v = if !inM b 0 (m.buttons.length - 1) then (0, 3) else if !inM v 0 (m.levers - 1) then (0, 3) else depthO (fnd (depthP m on b v) (m.travel.toNat + 1) 0) := by rw [depthR, if_neg (by simp [hc'])]
  refine qP ?_
  refine qE ?_
  refine qE ?_
  refine qC rfl ?_
  refine qA (qD (v := .int .i64 _) rfl) ?_
  refine qA (qI rfl rfl rfl rfl 5 rfl) ?_
  refine qN 0 (v := .slice _ _ _) rfl rfl rfl rfl ?_
  refine qA (wP rfl rfl) ?_
  refine qA (qX rfl (by omega)) ?_
  refine qV (caps := []) (vs := [.int .i64 _, .int .i64 _, .int .i64 _]) rfl rfl rfl (within_ok b 0 (m.buttons.length - 1) h3) ?_
  rintro _ h4 E4 rfl
  refine qA (qJ (v := .bool _) rfl) ?_
  refine qA (qD (v := .bool _) rfl) ?_
  rcases Bool.eq_false_or_eq_true (inM b 0 (m.buttons.length - 1)) with e1 | e1
  ·skip
   have e1' : (!inM b 0 (m.buttons.length - 1)) = false := by rw [e1]; rfl
   refine qG rfl e1' ?_
   refine qA (qD (v := .int .i64 _) rfl) ?_
   refine qG rfl e1' ?_
   refine qA (qI rfl rfl rfl rfl 1 rfl) ?_
   refine qG rfl e1' ?_
   refine qN 0 (v := .int .i64 _) rfl rfl rfl rfl ?_
   refine qG rfl e1' ?_
   refine qA (qX rfl (by omega)) ?_
   refine qG rfl e1' ?_
   refine qV (caps := []) (vs := [.int .i64 _, .int .i64 _, .int .i64 _]) rfl rfl rfl (within_ok v 0 (m.levers - 1) h4) ?_
   rintro _ h5 E5 rfl
   refine qG rfl e1' ?_
   refine qA (qJ (v := .bool _) rfl) ?_
   refine qA (wI rfl e1' (v := .bool _) rfl) ?_
   refine wA rfl (fun e2 => ?_) (fun e2 => ?_)
   ·skip
    refine qE ?_
    refine qC rfl ?_
    refine qA (qF (v := .int .i64 _) rfl) ?_
    refine qA (qF (v := .int .i64 _) rfl) ?_
    refine wD ?_
    refine qS (vs := [_, _]) Tryd.results10 ⟨qM rfl rfl, qM rfl rfl, trivial⟩ fun V => ?_
    exact ⟨(zL (zL (zL E3 E4) E5) (qZ V)), by rw [eR, e1', e2]; rfl⟩
   ·skip
    have e1'' := inM_iff.1 e1
    have e2' : inM v 0 (m.levers - 1) = true := by simpa using e2
    have e2'' := inM_iff.1 e2'
    obtain ⟨q, rfl⟩ : ∃ q : Nat, b = q := ⟨b.toNat, by omega⟩
    have hql : q < m.buttons.length := by omega
    have Hq := hand1_ok H hql
    have eR2 : depthR m on q v = depthO (fnd (depthP m on q v) (m.travel.toNat + 1) 0) := by rw [eR, e1', e2]; rfl
    refine qP ?_
    refine qE ?_
    refine qC rfl ?_
    refine wH 0 (vs := [.int .i64 _, .int .i64 _, .int .i64 _, .int .i64 _, .int .i64 _, .slice _ _ _, .slice _ _ _, .slice _ _ _, .slice _ _ _]) rfl rfl rfl rfl rfl ?_
    refine qV (caps := []) (vs := [.agg #[.int .i64 _, .int .i64 _, .int .i64 _, .int .i64 _, .int .i64 _, .slice _ _ _, .slice _ _ _, .slice _ _ _, .slice _ _ _]]) rfl rfl rfl (sounding_ok m AB AQ AL AW cB cQ cL cW h5 (RM.ext (zL (zL E3 E4) E5))) ?_
    rintro _ h6 E6 ⟨bs, AB1, AQ1, AL1, AW1, cB1, cQ1, cL1, cW1, rfl, CM, RM1⟩
    refine qA (qF (v := _) rfl) ?_
    refine qE ?_
    refine qE ?_
    refine qC rfl ?_
    refine qA (qI rfl rfl rfl rfl 3 rfl) ?_
    refine qN 0 (v := .int .i64 _) rfl rfl rfl rfl ?_
    refine qA (qX rfl (by omega)) ?_
    refine qA (qD (v := .int .i64 _) rfl) ?_
    refine qT ?_
    refine xp_loopB [8, 9, 12, 40, 41, 42, 43, 44, 45, 46, 47, 48, 49, 50, 51, 52, 53] 1 (α := Nat) (fun d => [(40, .int .i64 d)]) (fun d => _) (fun d h_d => d ≤ m.travel.toNat + 1 ∧ ∀ i, 0 ≤ i → i < d → depthP m on q v i = false) (fun d => m.travel.toNat + 1 - d) (0) ⟨rfl, trivial⟩ (rfl) (⟨Nat.zero_le _, fun i _ h => by omega⟩) ?_
    rintro d T1 h_d E_d J_d
    refine wE [_] rfl ?_
    obtain ⟨K1, K2⟩ := J_d
    refine qE ?_
    refine qC rfl ?_
    refine qA (qJ (v := .bool _) rfl) ?_
    refine qE ?_
    refine wA rfl (fun hd => ?_) (fun hd => ?_)
    ·skip
     have hdl : (d : Int) < m.travel + 1 := of_decide_eq_true hd
     refine qP ?_
     refine qE ?_
     refine qT ?_
     refine qE ?_
     refine qC rfl ?_
     refine qA (qD (v := .int .i64 _) rfl) ?_
     refine qA (qF (v := .int .i64 _) rfl) ?_
     refine qE ?_
     refine qC rfl ?_
     refine qA (qD (v := _) rfl) ?_
     refine qA (qD (v := .int .i64 _) rfl) ?_
     refine qK (zc := [_]) (vs := [(0, .int .i64 _)]) (cs := [_]) rfl rfl rfl rfl rfl rfl rfl fun b45 hb45 => ?_
     refine qH [_, _] rfl ?_
     refine qA (qD (v := .slice _ _ _) rfl) ?_
     refine qA (wX (zc := [_, _]) (vs := [(0, .slice _ _ _), (1, .slice _ _ _)]) (cs := [_, _]) rfl rfl rfl rfl rfl rfl) ?_
     refine qA (qD (v := .int .i64 _) rfl) ?_
     refine wp_pub 1 rfl rfl ?_
     intro h7 E7 hb7
     refine qH [_, _] rfl ?_
     refine qV  (vs := _) rfl rfl rfl (snd_ok hph m ⟨[(q : Int)], on⟩ (fit_of M Hq) PF d (by omega) (by omega) bs AB1 AQ1 AL1 AW1 (some ⟨b45, 0, none⟩) OA cB1 cQ1 cL1 cW1 1 cO h7 (CM.ext (zL E_d E7)) (RM1.ext (zL E_d E7)) ⟨row_one hb7, RO.ext (zL (zL (zL (zL (zL E3 E4) E5) E6) E_d) E7)⟩) ?_
     rintro _ h8 E8 rfl
     refine qA (qD (v := .int .i64 _) rfl) ?_
     refine qV (caps := []) (vs := [.int .i64 _, .int .i64 _]) rfl rfl rfl (has_ok (soundsM m ⟨[(q : Int)], on⟩ d) v v.toNat (by omega) (sounds_small PF _ _) (by omega) h8) ?_
     rintro _ h9 E9 rfl
     refine wA rfl (fun hs => ?_) (fun hs => ?_)
     ·skip
      have hf : fnd (depthP m on q v) (m.travel.toNat + 1) 0 = some d := fnd_some (by omega) (by omega) hs K2
      refine qE ?_
      refine qC rfl ?_
      refine qA (qD (v := .int .i64 _) rfl) ?_
      refine qA (qF (v := .int .i64 _) rfl) ?_
      refine qA (qF (v := .int .i64 _) rfl) ?_
      refine wD ?_
      refine qS (vs := [_, _]) Tryd.results10 ⟨qM rfl rfl, qM rfl rfl, trivial⟩ fun V => ?_
      exact ⟨(zL (zL (zL (zL (zL (zL (zL (zL E3 E4) E5) E6) E_d) E7) E8) E9) (qZ V)), by rw [eR2, hf]; rfl⟩
     ·skip
      refine qP ?_
      refine qC rfl ?_
      refine qA (qX rfl (by omega)) ?_
      refine qA (qD (v := .int .i64 _) rfl) ?_
      refine ⟨d + 1, ⟨rfl, trivial⟩, rfl, rfl, (zL (zL (zL E_d E7) E8) E9), fun h3 E3 => ⟨by omega, fun i _ hi => (Nat.lt_succ_iff_lt_or_eq.1 hi).elim (K2 i (Nat.zero_le _)) (fun h => by subst h; exact hs)⟩, by first | omega | (dsimp only; omega), ?_⟩
      repeat (first | exact wK _ _ _ | refine wM (by decide) ?_ | refine wJ rfl ?_ | refine wN rfl ?_)
    ·skip
     have hf : fnd (depthP m on q v) (m.travel.toNat + 1) 0 = none := fnd_none (fun i h1 h2 => K2 i h1 (by have := of_decide_eq_false hd; omega))
     refine zA ?_
     refine qE ?_
     refine qC rfl ?_
     refine qA (qF (v := .int .i64 _) rfl) ?_
     refine qA (qF (v := .int .i64 _) rfl) ?_
     refine wD ?_
     refine qS (vs := [_, _]) Tryd.results10 ⟨qM rfl rfl, qM rfl rfl, trivial⟩ fun V => ?_
     exact ⟨(zL (zL (zL (zL (zL E3 E4) E5) E6) E_d) (qZ V)), by rw [eR2, hf]; rfl⟩
  ·skip
   have e1' : (!inM b 0 (m.buttons.length - 1)) = true := by rw [e1]; rfl
   refine qR rfl e1' ?_
   refine qR rfl e1' ?_
   refine qR rfl e1' ?_
   refine qR rfl e1' ?_
   refine qR rfl e1' ?_
   refine qR rfl e1' ?_
   refine qA (wV rfl e1' (v := .bool _) rfl) ?_
   refine wY rfl (rfl) ?_
   refine qE ?_
   refine qC rfl ?_
   refine qA (qF (v := .int .i64 _) rfl) ?_
   refine qA (qF (v := .int .i64 _) rfl) ?_
   refine wD ?_
   refine qS (vs := [_, _]) Tryd.results10 ⟨qM rfl rfl, qM rfl rfl, trivial⟩ fun V => ?_
   exact ⟨(zL (zL E3 E4) (qZ V)), by rw [eR, e1']; rfl⟩
end
end Go.Proofs.YtmpahfdiebhdbaaDoor
namespace Go.Proofs.YtmpahfdiebhdbaaDoor
open Go Go.HL Go.Proofs Go.Wx Go.Rd
section
variable [Lvl]
set_option maxRecDepth 100000
end
end Go.Proofs.YtmpahfdiebhdbaaDoor
namespace Go.Proofs.YtmpahfdiebhdbaaDoor
open Go Go.HL Go.Proofs Go.Wx Go.Rd
section
variable [Lvl]
set_option maxRecDepth 100000
end
end Go.Proofs.YtmpahfdiebhdbaaDoor
namespace Go.Proofs.YtmpahfdiebhdbaaDoor
open Go Go.HL Go.Proofs Go.Wx Go.Rd
section
variable [Lvl]
set_option maxRecDepth 100000
def chordP (m : MachP) (on levers s : List Int) : Bool := decide (soundsM m ⟨s, on⟩ m.travel = setM levers)
def chordO (m : MachP) (on levers : List Int) : Option (List Int) := (setsM m.buttons.length).find? (chordP m on levers)
def chordE (m : MachP) (on levers : List Int) : Int :=
 if checkHandM m ⟨[], on⟩ ≠ 0 then checkHandM m ⟨[], on⟩ else if checkSetM levers m.levers ≠ 0 then checkSetM levers m.levers else if (chordO m on levers).isSome then 0 else 11
def chordL (m : MachP) (on levers : List Int) : List Int := if chordE m on levers = 0 then (chordO m on levers).getD [] else []
theorem find_at {α : Type} {p : α → Bool} {l : List α} {k : Nat} {x : α} (hk : l[k]? = some x) (hp : p x = true) (h : ∀ i s, i < k → l[i]? = some s → p s = false) : l.find? p = some x := by
 obtain ⟨hl, rfl⟩ := List.getElem?_eq_some_iff.1 hk
 rw [List.find?_eq_some_iff_getElem]
 exact ⟨hp, k, hl, rfl, fun j hj => by rw [h j _ hj (List.getElem?_eq_getElem (by omega))]; rfl⟩
theorem find_no {α : Type} {p : α → Bool} {l : List α} (h : ∀ i s, i < l.length → l[i]? = some s → p s = false) : l.find? p = none := by
 rw [List.find?_eq_none]
 intro x hx
 obtain ⟨i, hi, rfl⟩ := List.getElem_of_mem hx
 rw [h i _ hi (List.getElem?_eq_getElem hi)]
 decide
def ChoI (P : List Int → Bool) (n : Nat) (p3 p4 p10 p11 : Nat × Obj) (b6 b7 l : Nat) (t6 t7 : TypeId) (r : Loop) (h0 : AH) (k : Nat) (h : AH) (M : Pv) : Prop :=
 Ext h0 h ∧ (∀ i s, i < k → (setsM n)[i]? = some s → P s = false) ∧
  M = [some p3, some p4, some (b6, .cells #[.slice none 0 0] t6 (0, 0)), some (b7, .cells #[.int .i64 0] t7 (0, 0)), some p10, some p11, some (l, obL r .ready none)]
def ChoF (P : List Int → Bool) (n : Nat) (p3 p4 p10 p11 : Nat × Obj) (b6 b7 l : Nat) (t6 t7 : TypeId) (r : Loop) (h0 : AH) (h : AH) (M : Pv) : Prop :=
 Ext h0 h ∧ ∃ (x : List Int) (BA : Option Addr) (cB : Nat), (setsM n).find? P = some x ∧ Row h 1 intC BA x ∧
  M = [some p3, some p4, some (b6, .cells #[.slice BA x.length cB] t6 (0, 0)), some (b7, .cells #[.int .i64 0] t7 (0, 0)), some p10, some p11, some (l, obL r .done (some .ret))]
theorem ChoI.ext {P : List Int → Bool} {n : Nat} {p3 p4 p10 p11 : Nat × Obj} {b6 b7 l : Nat} {t6 t7 : TypeId} {r : Loop} {h0 h h' : AH} {k : Nat} {M : Pv} (I : ChoI P n p3 p4 p10 p11 b6 b7 l t6 t7 r h0 k h M) (E : Ext h h') : ChoI P n p3 p4 p10 p11 b6 b7 l t6 t7 r h0 k h' M := ⟨I.1.trans E, I.2⟩
theorem ChoF.ext {P : List Int → Bool} {n : Nat} {p3 p4 p10 p11 : Nat × Obj} {b6 b7 l : Nat} {t6 t7 : TypeId} {r : Loop} {h0 h h' : AH} {M : Pv} (I : ChoF P n p3 p4 p10 p11 b6 b7 l t6 t7 r h0 h M) (E : Ext h h') : ChoF P n p3 p4 p10 p11 b6 b7 l t6 t7 r h0 h' M := by
 obtain ⟨E0, x, BA, cB, e1, R1, e2⟩ := I
 exact ⟨E0.trans E, x, BA, cB, e1, R1.ext E, e2⟩
set_option maxHeartbeats 4000000 in
theorem Chord_ok (hph : Lvl.ph = true) (m : MachP) (on levers : List Int) (AB AQ AL AW OA VA : Option Addr) (cB cQ cL cW cO cV : Nat) (h : AH) (RM : MachR h AB AQ AL AW m) (RO : Row h 1 intC OA on) (RV : Row h 1 intC VA levers) (h0 : m.weights.length < 2 ^ 40) (h1 : on.length < 2 ^ 40) (h2 : levers.length < 2 ^ 40) :
  FnT Tryd.prog 14 #[machV AB AQ AL AW cB cQ cL cW m, .slice OA on.length cO, .slice VA levers.length cV] h (fun v h' => ∃ L, v = .tuple #[L, .int .i64 (chordE m on levers)] ∧ SlR h' 1 intC (chordL m on levers) L) := by
 refine wL Tryd.func14 rfl Tryd.ntmps14 rfl ?_
 refine qE ?_
 refine qC rfl ?_
 refine op_box (v := .agg #[.int .i64 _, .int .i64 _, .int .i64 _, .int .i64 _, .int .i64 _, .slice _ _ _, .slice _ _ _, .slice _ _ _, .slice _ _ _]) (cs := [_, _, _, _, _, _, _, _, _]) rfl rfl fun b3 hb3 => ?_
 refine qH [_] rfl ?_
 refine op_box (v := .slice _ _ _) (cs := [_]) rfl rfl fun b4 hb4 => ?_
 refine qH [_, _] rfl ?_
 refine wW (cs := [_]) rfl rfl fun b6 hb6 => ?_
 refine qH [_, _, _] rfl ?_
 refine wW (cs := [_]) rfl rfl fun b7 hb7 => ?_
 refine qH [_, _, _, _] rfl ?_
 refine qE ?_
 refine qE ?_
 refine qC rfl ?_
 refine wH 0 (vs := [.int .i64 _, .int .i64 _, .int .i64 _, .int .i64 _, .int .i64 _, .slice _ _ _, .slice _ _ _, .slice _ _ _, .slice _ _ _]) rfl rfl rfl rfl rfl ?_
 refine qN 1 (v := .slice _ _ _) rfl rfl rfl rfl ?_
 refine qA (wX (zc := [_, _]) (vs := [(1, .slice _ _ _)]) (cs := [_, _]) rfl rfl rfl rfl rfl rfl) ?_
 refine qV (caps := []) (vs := [.agg #[.int .i64 _, .int .i64 _, .int .i64 _, .int .i64 _, .int .i64 _, .slice _ _ _, .slice _ _ _, .slice _ _ _, .slice _ _ _], .agg #[.slice _ _ _, .slice _ _ _]]) rfl rfl rfl (checkHand_ok m ⟨[], on⟩ AB AQ AL AW none OA cB cQ cL cW 0 cO h (RM.ext (Ext.refl _)) ⟨row_nil _ _, RO.ext (Ext.refl _)⟩ h0 (by show 0 < 2 ^ 40; decide) h1) ?_
 rintro _ h3 E3 rfl
 refine qA (qF (v := .int .i64 _) rfl) ?_
 refine qE ?_
 refine qC rfl ?_
 refine qA (qD (v := .int .i64 _) rfl) ?_
 refine qA (qJ (v := .bool _) rfl) ?_
 refine wA rfl (fun hc => ?_) (fun hc => ?_)
 ·skip
  have hc' : checkHandM m ⟨[], on⟩ ≠ 0 := by simpa using hc
  have eE : chordE m on levers = checkHandM m ⟨[], on⟩ := by rw [chordE, if_pos hc']
  refine qE ?_
  refine qC rfl ?_
  refine qA (qD (v := .int .i64 _) rfl) ?_
  refine wG 2 (v := .slice _ _ _) (vs := [_]) (c' := [_]) rfl rfl rfl rfl rfl rfl rfl rfl rfl ?_
  refine qH [_, _, _, _] rfl ?_
  refine wG 3 (v := .int .i64 _) (vs := [_]) (c' := [_]) rfl rfl rfl rfl rfl rfl rfl rfl rfl ?_
  refine qH [_, _, _, _] rfl ?_
  refine wD ?_
  refine qS (vs := [_, _]) Tryd.results14 ⟨resV_one 2 rfl rfl rfl rfl (v := .slice _ _ _) rfl, resV_one 3 rfl rfl rfl rfl (v := .int .i64 _) rfl, trivial⟩ fun V => ?_
  exact ⟨(zL E3 (qZ V)), _, by rw [eE]; rfl, none, 0, by rw [chordL, eE, if_neg hc']; rfl, by rw [chordL, eE, if_neg hc']; exact row_nil _ _⟩
 ·skip
  have hc' : checkHandM m ⟨[], on⟩ = 0 := by simpa using hc
  obtain ⟨M, H⟩ := checkHand_ok0 hc'
  have PF := pfit_of M
  have tr := M.travel
  have bl := M.bl
  have lv := M.levers
  refine qP ?_
  refine qE ?_
  refine qE ?_
  refine qC rfl ?_
  refine qA (qD (v := .slice _ _ _) rfl) ?_
  refine qA (qI rfl rfl rfl rfl 1 rfl) ?_
  refine qN 0 (v := .int .i64 _) rfl rfl rfl rfl ?_
  refine qV (caps := []) (vs := [.slice _ _ _, .int .i64 _]) rfl rfl rfl (checkSet_ok levers m.levers (by omega) VA cV h3 (RV.ext E3) h2) ?_
  rintro _ h4 E4 rfl
  refine qA (qF (v := .int .i64 _) rfl) ?_
  refine qE ?_
  refine qC rfl ?_
  refine qA (qD (v := .int .i64 _) rfl) ?_
  refine qA (qJ (v := .bool _) rfl) ?_
  refine wA rfl (fun hs => ?_) (fun hs => ?_)
  ·skip
   have hs' : checkSetM levers m.levers ≠ 0 := by simpa using hs
   have eE : chordE m on levers = checkSetM levers m.levers := by rw [chordE, if_neg (by simp [hc']), if_pos hs']
   refine qE ?_
   refine qC rfl ?_
   refine qA (qD (v := .int .i64 _) rfl) ?_
   refine wG 2 (v := .slice _ _ _) (vs := [_]) (c' := [_]) rfl rfl rfl rfl rfl rfl rfl rfl rfl ?_
   refine qH [_, _, _, _] rfl ?_
   refine wG 3 (v := .int .i64 _) (vs := [_]) (c' := [_]) rfl rfl rfl rfl rfl rfl rfl rfl rfl ?_
   refine qH [_, _, _, _] rfl ?_
   refine wD ?_
   refine qS (vs := [_, _]) Tryd.results14 ⟨resV_one 2 rfl rfl rfl rfl (v := .slice _ _ _) rfl, resV_one 3 rfl rfl rfl rfl (v := .int .i64 _) rfl, trivial⟩ fun V => ?_
   exact ⟨(zL (zL E3 E4) (qZ V)), _, by rw [eE]; rfl, none, 0, by rw [chordL, eE, if_neg hs']; rfl, by rw [chordL, eE, if_neg hs']; exact row_nil _ _⟩
  ·skip
   have hs' : checkSetM levers m.levers = 0 := by simpa using hs
   have S := checkSet_iff.1 hs'
   have eE : chordE m on levers = if (chordO m on levers).isSome then 0 else 11 := by rw [chordE, if_neg (by simp [hc']), if_neg (by simp [hs'])]
   refine qP ?_
   refine qE ?_
   refine xp_dw [] rfl rfl rfl ?_
   refine qO (i := 0) rfl (by decide +kernel) (qD (v := .slice _ _ _) rfl) ?_
   refine wQ (i := 2) rfl (by decide +kernel) ?_
   refine wH 0 (vs := [.int .i64 _, .int .i64 _, .int .i64 _, .int .i64 _, .int .i64 _, .slice _ _ _, .slice _ _ _, .slice _ _ _, .slice _ _ _]) rfl rfl rfl rfl rfl ?_
   refine dw_eff (i := 1) rfl (by decide +kernel) ?_
   refine qV (caps := []) (vs := [.slice _ _ _]) rfl rfl rfl (set_ok levers (fun x hx => by have := S.mem x hx; omega) VA cV h4 (RV.ext (zL E3 E4)) h2) ?_
   rintro _ h5 E5 rfl
   refine ⟨ext_wlm E5 _, ?_⟩
   refine dw_last (i := 3) rfl (by decide +kernel) (by decide +kernel) ?_
   refine qV (caps := []) (vs := [.agg #[.int .i64 _, .int .i64 _, .int .i64 _, .int .i64 _, .int .i64 _, .slice _ _ _, .slice _ _ _, .slice _ _ _, .slice _ _ _]]) rfl rfl rfl (sounding_ok m AB AQ AL AW cB cQ cL cW h5 (RM.ext (zL (zL E3 E4) E5))) ?_
   rintro _ h6 E6 ⟨bs, AB1, AQ1, AL1, AW1, cB1, cQ1, cL1, cW1, rfl, CM, RM1⟩
   refine dw_eff (i := 4) rfl (by decide +kernel) ?_
   refine wW (cs := [_]) rfl rfl fun b10 hb10 => ?_
   refine ⟨ext_new hb10 _, ?_⟩
   refine zI [_, _, _, _, _] rfl ?_
   refine dw_eff (i := 5) rfl (by decide +kernel) ?_
   refine wW (cs := [_]) rfl rfl fun b11 hb11 => ?_
   refine ⟨ext_new hb11 _, ?_⟩
   refine zI [_, _, _, _, _, _] rfl ?_
   refine dw_last (i := 6) rfl (by decide +kernel) (by decide +kernel) ?_
   refine wG 4 (v := .int .i64 _) (vs := [_]) (c' := [_]) rfl rfl rfl rfl rfl rfl rfl rfl rfl ?_
   refine zI [_, _, _, _, _, _] rfl ?_
   refine dw_last (i := 7) rfl (by decide +kernel) (by decide +kernel) ?_
   refine wG 5 (v := _) (vs := [_]) (c' := [_]) rfl rfl rfl rfl rfl rfl rfl rfl rfl ?_
   refine zI [_, _, _, _, _, _] rfl ?_
   refine dw_end rfl ?_
   refine qE ?_
   refine qE ?_
   refine qC rfl ?_
   refine qA (qI rfl rfl rfl rfl 5 rfl) ?_
   refine qN 0 (v := .slice _ _ _) rfl rfl rfl rfl ?_
   refine qA (wP rfl rfl) ?_
   refine qV (caps := []) (vs := [.int .i64 _]) rfl rfl rfl (choices_ok m.buttons.length (by omega) _ rfl h6) ?_
   rintro y h7 E7 It
   refine qT ?_
   have E07 := (zL (zL (zL (zL E3 E4) E5) E6) E7)
   have RO7 := RO.ext (zL (zL (zL (zL E3 E4) E5) E6) E7)
   have CM7 := CM.ext E7
   have RM7 := RM1.ext E7
   refine xp_rangeFunc rfl ?_
   intro r l lp htm hpr has hbd V0
   refine CallV.mono (It (.yield l) #[] #[] (ChoI (chordP m on levers) m.buttons.length (b3, .cells #[.int .i64 m.rods, .int .i64 m.levers, .int .i64 m.regs, .int .i64 m.travel, .int .i64 m.opn, .slice AB m.buttons.length cB, .slice AQ m.pins.length cQ, .slice AL m.links.length cL, .slice AW m.weights.length cW] 26 (0, 0)) (b4, .cells #[.slice OA on.length cO] 22 (0, 0)) (b10, .cells #[.int .i64 (setM levers : Nat)] 70 (0, 0)) (b11, .cells #[.func (.func 50) #[] #[.pointer (some ⟨bs, 0, none⟩)]] 68 (0, 0)) b6 b7 l 22 31 lp h7) (ChoF (chordP m on levers) m.buttons.length (b3, .cells #[.int .i64 m.rods, .int .i64 m.levers, .int .i64 m.regs, .int .i64 m.travel, .int .i64 m.opn, .slice AB m.buttons.length cB, .slice AQ m.pins.length cQ, .slice AL m.links.length cL, .slice AW m.weights.length cW] 26 (0, 0)) (b4, .cells #[.slice OA on.length cO] 22 (0, 0)) (b10, .cells #[.int .i64 (setM levers : Nat)] 70 (0, 0)) (b11, .cells #[.func (.func 50) #[] #[.pointer (some ⟨bs, 0, none⟩)]] 68 (0, 0)) b6 b7 l 22 31 lp h7) (fun k h1 h2 M E I => I.ext E) (fun h1 h2 M E I => I.ext E) ?_ h7 _ (Ext.refl _) ⟨Ext.refl _, fun i s hi => absurd hi (Nat.not_lt_zero _), rfl⟩ V0) ?_ (fun _ _ y => y)
   ·rintro k x v hcl M' hk hT ⟨E8, K1, rfl⟩
    obtain ⟨BA, cBA, rfl, RB⟩ := hT
    have HX : HOK m ⟨x, on⟩ := ⟨setsM_set (List.mem_of_getElem? hk), H.o⟩
    intro V
    refine callV_yield (zC V (i := 6) rfl) hpr rfl htm has hbd ?_
    refine round_enter (i := 6) (r := lp) ?_ V
    refine wE [_, _, _, _, _, _, _] rfl ?_
    refine qC rfl ?_
    refine qA (qF (v := .slice _ _ _) rfl) ?_
    refine ⟨rfl, none, rfl, ?_⟩
    refine wE [_, _, _, _, _, _, _] rfl ?_
    refine qT ?_
    refine qE ?_
    refine xp_dw [] rfl rfl rfl ?_
    refine wQ (i := 0) rfl (by decide +kernel) ?_
    refine qN 5 (v := _) rfl rfl rfl rfl ?_
    refine qO (i := 1) rfl (by decide +kernel) (qD (v := .slice _ _ _) rfl) ?_
    refine wQ (i := 2) rfl (by decide +kernel) ?_
    refine qN 1 (v := .slice _ _ _) rfl rfl rfl rfl ?_
    refine qO (i := 3) rfl (by decide +kernel) (wX (zc := [_, _]) (vs := [(0, .slice _ _ _), (1, .slice _ _ _)]) (cs := [_, _]) rfl rfl rfl rfl rfl rfl) ?_
    refine qO (i := 4) rfl (by decide +kernel) (qI rfl rfl rfl rfl 3 rfl) ?_
    refine wQ (i := 5) rfl (by decide +kernel) ?_
    refine qN 0 (v := .int .i64 _) rfl rfl rfl rfl ?_
    refine wQ (i := 7) rfl (by decide +kernel) ?_
    refine qN 4 (v := .int .i64 _) rfl rfl rfl rfl ?_
    refine dw_eff (i := 6) rfl (by decide +kernel) ?_
    refine qV  (vs := _) rfl rfl rfl (snd_ok hph m ⟨x, on⟩ (fit_of M HX) PF m.travel (by omega) tr.2 bs AB1 AQ1 AL1 AW1 BA OA cB1 cQ1 cL1 cW1 cBA cO hcl (CM7.ext (zL E8 (Ext.refl _))) (RM7.ext (zL E8 (Ext.refl _))) ⟨RB.ext (Ext.refl _), RO7.ext (zL E8 (Ext.refl _))⟩) ?_
    rintro _ h9 E9 rfl
    refine ⟨ext_wlm E9 _, ?_⟩
    refine qO (i := 8) rfl (by decide +kernel) (qJ (v := .bool _) rfl) ?_
    refine dw_end rfl ?_
    refine wA rfl (fun he => ?_) (fun he => ?_)
    ·skip
     have hp : chordP m on levers x = true := by simp at he; exact decide_eq_true (by omega)
     have hf := find_at hk hp K1
     refine qE ?_
     refine qC rfl ?_
     refine qA (qD (v := .slice _ _ _) rfl) ?_
     refine wG 2 (v := .slice _ _ _) (vs := [_]) (c' := [_]) rfl rfl rfl rfl rfl rfl rfl rfl rfl ?_
     refine qH [_, _, _, _, _, _, _] rfl ?_
     refine wG 3 (v := .int .i64 _) (vs := [_]) (c' := [_]) rfl rfl rfl rfl rfl rfl rfl rfl rfl ?_
     refine qH [_, _, _, _, _, _, _] rfl ?_
     refine wD ?_
     intro V2
     have V3 := valid_set (o' := obL lp .done (some .ret)) V2 (i := 6) rfl
     exact ⟨rfl, ⟨_, _, rfl⟩, _, _, rfl, V3, E9, .inr ⟨rfl, zL E8 E9, x, BA, cBA, hf, RB.ext E9, rfl⟩⟩
    ·skip
     have hp : chordP m on levers x = false := by simp at he; exact decide_eq_false (by omega)
     refine qP ?_
     intro V2
     have V3 := valid_set (o' := obL lp .ready none) V2 (i := 6) rfl
     exact ⟨rfl, ⟨_, _, rfl⟩, _, _, rfl, V3, E9, .inl ⟨rfl, zL E8 E9, fun i s hi hs => (Nat.lt_succ_iff_lt_or_eq.1 hi).elim (fun h => K1 i s h hs) (fun h => by subst h; rw [hk] at hs; cases hs; exact hp), rfl⟩⟩
   ·rintro v H ⟨h', M', rfl, V', E', ⟨E8, K1, rfl⟩ | ⟨E8, x, BA, cBA, hf, RB, rfl⟩⟩
    ·refine ⟨h', [_, _, _, _, _, _], .ready, none, rfl, V', by simp, fun h'' E'' => ?_⟩
     have eO : chordO m on levers = none := find_no K1
     rw [eO] at eE
     refine wE [_, _, _, _, _, _] rfl ?_
     refine qE ?_
     refine qC rfl ?_
     refine wG 2 (v := .slice _ _ _) (vs := [_]) (c' := [_]) rfl rfl rfl rfl rfl rfl rfl rfl rfl ?_
     refine qH [_, _, _, _, _, _] rfl ?_
     refine wG 3 (v := .int .i64 _) (vs := [_]) (c' := [_]) rfl rfl rfl rfl rfl rfl rfl rfl rfl ?_
     refine qH [_, _, _, _, _, _] rfl ?_
     refine wD ?_
     refine res_listM (vs := [_, _]) rfl Tryd.results14 ⟨resV_one 2 rfl rfl rfl rfl (v := .slice _ _ _) rfl, resV_one 3 rfl rfl rfl rfl (v := .int .i64 _) rfl, trivial⟩ fun hM EM V => ?_
     refine ⟨zL (zL (zL (zL (zL (zL (zL E3 E4) E5) E6) E7) E') E'') (zL EM (qZ V)), .slice none 0 0, by rw [eE]; rfl, none, 0, by rw [chordL, eE, if_neg (by decide)]; rfl, by rw [chordL, eE, if_neg (by decide)]; exact row_nil _ _⟩
    ·refine ⟨h', [_, _, _, _, _, _], .done, some .ret, rfl, V', by simp, fun h'' E'' => ?_⟩
     have eO : chordO m on levers = some x := hf
     have eE : chordE m on levers = 0 := by rw [eE, eO]; rfl
     have eL : chordL m on levers = x := by rw [chordL, if_pos eE, eO]; rfl
     refine wD ?_
     refine res_listM (vs := [.slice BA x.length cBA, .int .i64 0]) rfl Tryd.results14 ⟨resV_one 2 rfl rfl rfl rfl rfl, resV_one 3 rfl rfl rfl rfl rfl, trivial⟩ fun hM EM V => ?_
     exact ⟨zL E07 (zL E' (zL E'' (zL EM (qZ V)))), _, by rw [eE]; rfl, BA, cBA, by rw [eL], by rw [eL]; exact RB.ext (zL E'' (zL EM (qZ V)))⟩
end
end Go.Proofs.YtmpahfdiebhdbaaDoor
namespace Go.Proofs.YtmpahfdiebhdbaaDoor
open Go Go.HL Go.Proofs Go.Wx Go.Rd
section
variable [Lvl]
set_option maxRecDepth 100000
end
end Go.Proofs.YtmpahfdiebhdbaaDoor
namespace Go.Proofs.YtmpahfdiebhdbaaDoor
open Go Go.HL Go.Proofs Go.Wx Go.Rd
section
variable [Lvl]
set_option maxRecDepth 100000
end
end Go.Proofs.YtmpahfdiebhdbaaDoor
namespace Go.Proofs.YtmpahfdiebhdbaaDoor
open Go Go.HL Go.Proofs Go.Wx Go.Rd
section
variable [Lvl]
set_option maxRecDepth 100000
end
end Go.Proofs.YtmpahfdiebhdbaaDoor
namespace Go.Proofs.YtmpahfdiebhdbaaDoor
open Go Go.HL Go.Proofs Go.Wx Go.Rd
section
variable [Lvl]
set_option maxRecDepth 100000
end
end Go.Proofs.YtmpahfdiebhdbaaDoor
namespace Go.Proofs.YtmpahfdiebhdbaaDoor
open Go Go.HL Go.Proofs Go.Wx Go.Rd
section
variable [Lvl]
set_option maxRecDepth 100000
theorem flat_take {α : Type} (enc : α → List Value) (l : List α) (k : Nat) : (l.take k).flatMap enc = (l.flatMap enc).take ((l.take k).flatMap enc).length := by
 have e : l.flatMap enc = (l.take k).flatMap enc ++ (l.drop k).flatMap enc := by rw [← List.flatMap_append, List.take_append_drop]
 rw [e, List.take_left']
 rfl
theorem flat_drop {α : Type} (enc : α → List Value) (l : List α) (k : Nat) : (l.drop k).flatMap enc = (l.flatMap enc).drop ((l.take k).flatMap enc).length := by
 have e : l.flatMap enc = (l.take k).flatMap enc ++ (l.drop k).flatMap enc := by rw [← List.flatMap_append, List.take_append_drop]
 rw [e, List.drop_left']
 rfl
theorem row_take {α : Type} {enc : α → List Value} {h : AH} {A : Option Addr} {l : List α} {m : Nat} (R : Row h m enc A l) (k : Nat) : Row h m enc A (l.take k) :=
 ⟨fun x hx => R.1 x (take_mem hx), by rw [flat_take]; exact rd_take R.2 _⟩
theorem row_drop {α : Type} {enc : α → List Value} {h : AH} {A : Option Addr} {l : List α} {m k cap : Nat} (R : Row h m enc A l) (hk : k ≤ l.length) (hc : l.length ≤ cap) : Row h m enc (if cap = k then A else A.map (·.add (k * m))) (l.drop k) := by
 refine ⟨fun x hx => R.1 x (List.mem_of_mem_drop hx), ?_⟩
 split
 ·rw [List.drop_of_length_le (by omega)]
  exact Rd.nil _ _
 ·have e : ((l.take k).flatMap enc).length = k * m := by
   rw [zE (m := m) (fun x hx => R.1 x (take_mem hx)), List.length_take, Nat.min_eq_left hk]
  have := rd_drop R.2 (k * m)
  rw [flat_drop, e]
  exact this
end
end Go.Proofs.YtmpahfdiebhdbaaDoor
