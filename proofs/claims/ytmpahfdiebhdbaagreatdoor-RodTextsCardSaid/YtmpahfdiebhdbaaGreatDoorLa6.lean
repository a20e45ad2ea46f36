/- An own logic over the model, its walks and its plain laws, joined of parts R10 R11 R12 R13 R14 R15 R16 R17 R18 GP R19 Rm Rn Ro. Conditions: as each theorem states. -/
import Derived.Test.YtmpahfdiebhdbaaGreatDoorLa3
import Derived.Test.YtmpahfdiebhdbaaGreatDoorLa4
import Derived.Test.YtmpahfdiebhdbaaGreatDoorLa5
set_option linter.all false
namespace Go.Proofs.YtmpahfdiebhdbaaGreatDoor
open Go Go.HL Go.Proofs Go.Wx Go.Rd
section
variable [Lvl]
set_option maxRecDepth 100000
def faultV : FaultP → Value
 | .shut i => .iface 126 (.int .i64 i)
 | .opn i => .iface 127 (.int .i64 i)
 | .pin i => .iface 128 (.int .i64 i)
 | .link i => .iface 129 (.int .i64 i)
def faultC (f : FaultP) : List Value := [faultV f]
def fsN (c : Nat → FaultP) (k : Nat) : List FaultP := (List.range k).map c
theorem fsN_succ (c : Nat → FaultP) (k : Nat) : fsN c (k + 1) = fsN c k ++ [c k] := by simp [fsN, List.range_succ]
theorem fsN_len (c : Nat → FaultP) (k : Nat) : (fsN c k).length = k := by simp [fsN]
def fs1 (m : MachP) : List FaultP := fsN .shut m.levers.toNat
def fs2 (m : MachP) : List FaultP := fs1 m ++ fsN .opn m.levers.toNat
def fs3 (m : MachP) : List FaultP := fs2 m ++ fsN .pin m.pins.length
def faultsM (m : MachP) : List FaultP := fs3 m ++ fsN .link m.links.length
theorem faults_len (m : MachP) : (faultsM m).length = 2 * m.levers.toNat + m.pins.length + m.links.length := by
 simp [faultsM, fs3, fs2, fs1, fsN_len]; omega
theorem fa_step {l : List FaultP} {c : Nat → FaultP} {k : Nat} {a : Acc} (h : AccR 125 1 ((l ++ fsN c k).flatMap faultC ++ [faultV (c k)]) a) : AccR 125 1 ((l ++ fsN c (k + 1)).flatMap faultC) a := by
 rw [fsN_succ, ← List.append_assoc, List.flatMap_append]
 exact h
theorem fa_len {l : List FaultP} {c : Nat → FaultP} {k : Nat} : ((l ++ fsN c k).flatMap faultC).length = l.length + k := by
 rw [wU (m := 1) (fun _ _ => rfl), List.length_append, fsN_len, Nat.mul_one]
theorem faults_okC (m : MachP) (h1 : 0 ≤ m.levers ∧ m.levers ≤ 2 ^ 20) (h2 : m.pins.length ≤ 2 ^ 20) (h3 : m.links.length ≤ 2 ^ 20) (AB AQ AL AW : Option Addr) (cB cQ cL cW : Nat) (h : AH) :
  FnT Tryz.prog 48 #[machV AB AQ AL AW cB cQ cL cW m] h (fun v h' => SlR h' 1 faultC (faultsM m) v ∧ CapOK v) := by
 have hle : m.levers = ((m.levers.toNat : Nat) : Int) := by omega
 generalize hn : m.levers.toNat = n at *
 refine wH Tryz.func48 rfl Tryz.ntmps48 rfl ?_
 refine qE ?_
 refine qB rfl ?_
 refine op_box (v := .agg #[.int .i64 _, .int .i64 _, .int .i64 _, .int .i64 _, .int .i64 _, .slice _ _ _, .slice _ _ _, .slice _ _ _, .slice _ _ _]) (cs := [_, _, _, _, _, _, _, _, _]) rfl rfl fun b1 hb1 => ?_
 refine qN [_] rfl ?_
 refine qA (qD (v := .slice _ _ _) rfl) ?_
 refine qE ?_
 refine qB rfl ?_
 refine qA (qD (v := .slice _ _ _) rfl) ?_
 refine qE ?_
 refine qE ?_
 refine qB rfl ?_
 refine qA (qG rfl rfl rfl rfl 1 rfl) ?_
 refine qL 0 (v := .int .i64 _) rfl rfl rfl rfl ?_
 refine qA (qC (v := .int .i64 _) rfl) ?_
 refine qT ?_
 refine goes_more ?_
 refine qU [_, _] rfl ?_
 rw [hle]
 refine xp_loopL [3, 4, 10, 11, 12, 13, 14, 15, 16, 17, 18] 2 (α := Nat × Acc) (fun ⟨k, a⟩ => [(3, .slice a.A a.n a.c), (10, .int .i64 k)]) (fun ⟨k, a⟩ L => L.set 1 (a.p)) (fun ⟨k, a⟩ h_k => k ≤ n ∧ AccR 125 1 (([] ++ fsN .shut k).flatMap faultC) a) (fun ⟨k, a⟩ => n - k) ((0, acc0)) ⟨rfl, rfl, trivial⟩ (rfl) (⟨Nat.zero_le _, accR0⟩) ?_
 rintro ⟨k, a⟩ T1 h_k E_k J_k
 refine qU [_, _] rfl ?_
 obtain ⟨K1, K2⟩ := J_k
 refine qE ?_
 refine qB rfl ?_
 refine qA (qK (v := .bool _) rfl) ?_
 refine qE ?_
 refine qP rfl (fun hk => ?_) (fun hk => ?_)
 ·skip
  have hkl : k < n := ltI hk
  refine qO ?_
  refine qE ?_
  refine qT ?_
  refine qE ?_
  refine qB rfl ?_
  refine qA (qC (v := .int .i64 _) rfl) ?_
  refine qA (qD (v := .int .i64 _) rfl) ?_
  refine qB rfl ?_
  refine qA (qC (v := .slice _ _ _) rfl) ?_
  refine qA (qC (v := .int .i64 _) rfl) ?_
  refine qA (qK (v := _) rfl) ?_
  refine qX (zc := [_]) (vs := [(0, _)]) (cs := [_]) rfl rfl rfl rfl rfl rfl rfl fun b16 hb16 => ?_
  refine qN [_, _, _] rfl ?_
  refine zA 1 K2 rfl rfl rfl (fun V => rdP V (i := 2) rfl) rfl rfl rfl rfl rfl rfl rfl rfl rfl (by omega) rfl (by rw [fa_len]; simp; omega) fun a2 h2a E2a ha2 => ?_
  refine qN [_, _, _] rfl ?_
  refine qA (qD (v := .slice _ _ _) rfl) ?_
  refine qB rfl ?_
  refine qA (qS rfl (by omega)) ?_
  refine qA (qC (v := .int .i64 _) rfl) ?_
  refine ⟨(k + 1, a2), ⟨rfl, rfl, trivial⟩, rfl, rfl, (zL E_k E2a), fun h3 E3 => ⟨hkl, fa_step ha2⟩, by first | omega | (dsimp only; omega), ?_⟩
  repeat (first | exact qW _ _ _ | refine wA (by decide) ?_ | refine qV rfl ?_ | refine wB rfl ?_)
 ·skip
  have hke : k = n := by have := geI hk; omega
  have K3 : AccR 125 1 ((fs1 m).flatMap faultC) a := by rw [fs1, hn, ← hke]; exact K2
  have n1 : (fs1 m).length = n := by rw [fs1, fsN_len, hn]
  refine wS ?_
  refine qE ?_
  refine qE ?_
  refine qB rfl ?_
  refine qA (qG rfl rfl rfl rfl 1 rfl) ?_
  refine qL 0 (v := .int .i64 _) rfl rfl rfl rfl ?_
  refine qA (qC (v := .int .i64 _) rfl) ?_
  refine qT ?_
  refine xp_loopL [3, 5, 21, 22, 23, 24, 25, 26, 27, 28, 29] 2 (α := Nat × Acc) (fun ⟨j, a⟩ => [(3, .slice a.A a.n a.c), (21, .int .i64 j)]) (fun ⟨j, a⟩ L => L.set 1 (a.p)) (fun ⟨j, a⟩ h_j => j ≤ n ∧ AccR 125 1 ((fs1 m ++ fsN .opn j).flatMap faultC) a) (fun ⟨j, a⟩ => n - j) ((0, a)) ⟨rfl, rfl, trivial⟩ (rfl) (⟨Nat.zero_le _, by simpa [fsN] using K3⟩) ?_
  rintro ⟨j, a⟩ T3 h_j E_j J_j
  refine qU [_, _] rfl ?_
  obtain ⟨K4, K5⟩ := J_j
  refine qE ?_
  refine qB rfl ?_
  refine qA (qK (v := .bool _) rfl) ?_
  refine qE ?_
  refine qP rfl (fun hj => ?_) (fun hj => ?_)
  ·skip
   have hjl : j < n := ltI hj
   refine qO ?_
   refine qE ?_
   refine qT ?_
   refine qE ?_
   refine qB rfl ?_
   refine qA (qC (v := .int .i64 _) rfl) ?_
   refine qA (qD (v := .int .i64 _) rfl) ?_
   refine qB rfl ?_
   refine qA (qC (v := .slice _ _ _) rfl) ?_
   refine qA (qC (v := .int .i64 _) rfl) ?_
   refine qA (qK (v := _) rfl) ?_
   refine qX (zc := [_]) (vs := [(0, _)]) (cs := [_]) rfl rfl rfl rfl rfl rfl rfl fun b27 hb27 => ?_
   refine qN [_, _, _] rfl ?_
   refine zA 1 K5 rfl rfl rfl (fun V => rdP V (i := 2) rfl) rfl rfl rfl rfl rfl rfl rfl rfl rfl (by omega) rfl (by rw [fa_len]; simp; omega) fun a2 h4a E4a ha2 => ?_
   refine qN [_, _, _] rfl ?_
   refine qA (qD (v := .slice _ _ _) rfl) ?_
   refine qB rfl ?_
   refine qA (qS rfl (by omega)) ?_
   refine qA (qC (v := .int .i64 _) rfl) ?_
   refine ⟨(j + 1, a2), ⟨rfl, rfl, trivial⟩, rfl, rfl, (zL E_j E4a), fun h3 E3 => ⟨hjl, fa_step ha2⟩, by first | omega | (dsimp only; omega), ?_⟩
   repeat (first | exact qW _ _ _ | refine wA (by decide) ?_ | refine qV rfl ?_ | refine wB rfl ?_)
  ·skip
   have hje : j = n := by have := geI hj; omega
   have K6 : AccR 125 1 ((fs2 m).flatMap faultC) a := by rw [fs2, hn, ← hje]; exact K5
   have n2 : (fs2 m).length = n + n := by rw [fs2, List.length_append, n1, fsN_len, hn]
   refine wS ?_
   refine qE ?_
   refine qE ?_
   refine qB rfl ?_
   refine qA (qG rfl rfl rfl rfl 6 rfl) ?_
   refine qL 0 (v := .slice _ _ _) rfl rfl rfl rfl ?_
   refine qA (wP rfl rfl) ?_
   refine qA (qC (v := .int .i64 _) rfl) ?_
   refine qT ?_
   refine xp_loopL [3, 6, 33, 34, 35, 36, 37, 38, 39, 40, 41] 2 (α := Nat × Acc) (fun ⟨i, a⟩ => [(3, .slice a.A a.n a.c), (33, .int .i64 i)]) (fun ⟨i, a⟩ L => L.set 1 (a.p)) (fun ⟨i, a⟩ h_i => i ≤ m.pins.length ∧ AccR 125 1 ((fs2 m ++ fsN .pin i).flatMap faultC) a) (fun ⟨i, a⟩ => m.pins.length - i) ((0, a)) ⟨rfl, rfl, trivial⟩ (rfl) (⟨Nat.zero_le _, by simpa [fsN] using K6⟩) ?_
   rintro ⟨i, a⟩ T5 h_i E_i J_i
   refine qU [_, _] rfl ?_
   obtain ⟨K7, K8⟩ := J_i
   refine qE ?_
   refine qB rfl ?_
   refine qA (qK (v := .bool _) rfl) ?_
   refine qE ?_
   refine qP rfl (fun hi => ?_) (fun hi => ?_)
   ·skip
    have hil : i < m.pins.length := ltI hi
    refine qO ?_
    refine qE ?_
    refine qT ?_
    refine qE ?_
    refine qB rfl ?_
    refine qA (qC (v := .int .i64 _) rfl) ?_
    refine qA (qD (v := .int .i64 _) rfl) ?_
    refine qB rfl ?_
    refine qA (qC (v := .slice _ _ _) rfl) ?_
    refine qA (qC (v := .int .i64 _) rfl) ?_
    refine qA (qK (v := _) rfl) ?_
    refine qX (zc := [_]) (vs := [(0, _)]) (cs := [_]) rfl rfl rfl rfl rfl rfl rfl fun b39 hb39 => ?_
    refine qN [_, _, _] rfl ?_
    refine zA 1 K8 rfl rfl rfl (fun V => rdP V (i := 2) rfl) rfl rfl rfl rfl rfl rfl rfl rfl rfl (by omega) rfl (by rw [fa_len]; simp; omega) fun a2 h6a E6a ha2 => ?_
    refine qN [_, _, _] rfl ?_
    refine qA (qD (v := .slice _ _ _) rfl) ?_
    refine qB rfl ?_
    refine qA (qS rfl (by omega)) ?_
    refine qA (qC (v := .int .i64 _) rfl) ?_
    refine ⟨(i + 1, a2), ⟨rfl, rfl, trivial⟩, rfl, rfl, (zL E_i E6a), fun h3 E3 => ⟨hil, fa_step ha2⟩, by first | omega | (dsimp only; omega), ?_⟩
    repeat (first | exact qW _ _ _ | refine wA (by decide) ?_ | refine qV rfl ?_ | refine wB rfl ?_)
   ·skip
    have hie : i = m.pins.length := by have := geI hi; omega
    have K9 : AccR 125 1 ((fs3 m).flatMap faultC) a := by rw [fs3, ← hie]; exact K8
    have n3 : (fs3 m).length = n + n + m.pins.length := by rw [fs3, List.length_append, n2, fsN_len]
    refine wS ?_
    refine qE ?_
    refine qE ?_
    refine qB rfl ?_
    refine qA (qG rfl rfl rfl rfl 7 rfl) ?_
    refine qL 0 (v := .slice _ _ _) rfl rfl rfl rfl ?_
    refine qA (wP rfl rfl) ?_
    refine qA (qC (v := .int .i64 _) rfl) ?_
    refine qT ?_
    refine xp_loopL [3, 7, 45, 46, 47, 48, 49, 50, 51, 52, 53] 2 (α := Nat × Acc) (fun ⟨o, a⟩ => [(3, .slice a.A a.n a.c), (45, .int .i64 o)]) (fun ⟨o, a⟩ L => L.set 1 (a.p)) (fun ⟨o, a⟩ h_o => o ≤ m.links.length ∧ AccR 125 1 ((fs3 m ++ fsN .link o).flatMap faultC) a) (fun ⟨o, a⟩ => m.links.length - o) ((0, a)) ⟨rfl, rfl, trivial⟩ (rfl) (⟨Nat.zero_le _, by simpa [fsN] using K9⟩) ?_
    rintro ⟨o, a⟩ T7 h_o E_o J_o
    refine qU [_, _] rfl ?_
    obtain ⟨K10, K11⟩ := J_o
    refine qE ?_
    refine qB rfl ?_
    refine qA (qK (v := .bool _) rfl) ?_
    refine qE ?_
    refine qP rfl (fun ho => ?_) (fun ho => ?_)
    ·skip
     have hol : o < m.links.length := ltI ho
     refine qO ?_
     refine qE ?_
     refine qT ?_
     refine qE ?_
     refine qB rfl ?_
     refine qA (qC (v := .int .i64 _) rfl) ?_
     refine qA (qD (v := .int .i64 _) rfl) ?_
     refine qB rfl ?_
     refine qA (qC (v := .slice _ _ _) rfl) ?_
     refine qA (qC (v := .int .i64 _) rfl) ?_
     refine qA (qK (v := _) rfl) ?_
     refine qX (zc := [_]) (vs := [(0, _)]) (cs := [_]) rfl rfl rfl rfl rfl rfl rfl fun b51 hb51 => ?_
     refine qN [_, _, _] rfl ?_
     refine zA 1 K11 rfl rfl rfl (fun V => rdP V (i := 2) rfl) rfl rfl rfl rfl rfl rfl rfl rfl rfl (by omega) rfl (by rw [fa_len]; simp; omega) fun a2 h8a E8a ha2 => ?_
     refine qN [_, _, _] rfl ?_
     refine qA (qD (v := .slice _ _ _) rfl) ?_
     refine qB rfl ?_
     refine qA (qS rfl (by omega)) ?_
     refine qA (qC (v := .int .i64 _) rfl) ?_
     refine ⟨(o + 1, a2), ⟨rfl, rfl, trivial⟩, rfl, rfl, (zL E_o E8a), fun h3 E3 => ⟨hol, fa_step ha2⟩, by first | omega | (dsimp only; omega), ?_⟩
     repeat (first | exact qW _ _ _ | refine wA (by decide) ?_ | refine qV rfl ?_ | refine wB rfl ?_)
    ·skip
     have hoe : o = m.links.length := by have := geI ho; omega
     have K12 : AccR 125 1 ((faultsM m).flatMap faultC) a := by rw [faultsM, ← hoe]; exact K11
     refine wS ?_
     refine qE ?_
     refine qB rfl ?_
     refine qA (qC (v := .slice _ _ _) rfl) ?_
     refine qA (qD (v := .slice _ _ _) rfl) ?_
     refine qQ ?_
     refine qM (vs := [_]) Tryz.results48 ⟨qJ rfl rfl, trivial⟩ fun V => ?_
     exact ⟨(zL (zL (zL (zL E_k E_j) E_i) E_o) (qR V)), AccP.row (i := 1) K12 (by omega) (fun _ _ => rfl) V rfl, AccP.cap K12 (by decide)⟩
theorem faults_ok (m : MachP) (h1 : 0 ≤ m.levers ∧ m.levers ≤ 2 ^ 20) (h2 : m.pins.length ≤ 2 ^ 20) (h3 : m.links.length ≤ 2 ^ 20) (AB AQ AL AW : Option Addr) (cB cQ cL cW : Nat) (h : AH) :
  FnT Tryz.prog 48 #[machV AB AQ AL AW cB cQ cL cW m] h (fun v h' => SlR h' 1 faultC (faultsM m) v) :=
 CallT.mono (faults_okC m h1 h2 h3 AB AQ AL AW cB cQ cL cW h) (fun _ _ r => ⟨r.1, r.2.1⟩) (fun _ _ y => y)
theorem accR_new {e : TypeId} {m : Nat} {b : Nat} : AccR e m [] ⟨some (b, .cells ([] : List Value).toArray e (0, 0)), some ⟨b, 0, none⟩, 0, 0⟩ := accp_new
theorem pinP (x : PinP) : (pinC x).all plainB = true := rfl
theorem linkP (x : LinkP) : (linkC x).all plainB = true := rfl
theorem clonePinO (l : List PinP) (A : Option Addr) (c : Nat) (h : AH) (R : Row h 3 pinC A l) (hl : l.length < 2 ^ 20) :
  FnM Tryz.prog (.func (.func 68) #[] ([] : List Value).toArray) [.slice A l.length c] h [] (fun v h' M' => ∃ a : Acc, M' = [a.p] ∧ v = .slice a.A a.n a.c ∧ AccR 65 3 (l.flatMap pinC) a) := by
 cases A with
 | none =>
  have h0 := R.none_nil (by omega)
  subst h0
  refine fnM_body rfl rfl Tryz.func68 rfl Tryz.ntmps68 rfl ?_
  refine qE ?_
  refine qB rfl ?_
  refine qA (qD (v := .slice _ _ _) rfl) ?_
  refine qE ?_
  refine qE ?_
  refine qB rfl ?_
  refine qA (qC (v := .slice _ _ _) rfl) ?_
  refine qA (qK (v := .bool _) rfl) ?_
  refine qP rfl (fun ht => ?_) (fun ht => ?_)
  ·skip
   refine qE ?_
   refine qB rfl ?_
   refine qA (qD (v := .slice _ _ _) rfl) ?_
   refine qQ ?_
   refine qM (vs := [_]) Tryz.results68 ⟨qJ rfl rfl, trivial⟩ fun V => ?_
   exact ⟨_, [none], rfl, V, (Ext.refl _), acc0, rfl, rfl, accR0⟩
  ·cases ht
 | some a =>
  refine fnM_body rfl rfl Tryz.func68 rfl Tryz.ntmps68 rfl ?_
  refine qE ?_
  refine qB rfl ?_
  refine qA (qD (v := .slice _ _ _) rfl) ?_
  refine qE ?_
  refine qE ?_
  refine qB rfl ?_
  refine qA (qC (v := .slice _ _ _) rfl) ?_
  refine qA (qK (v := .bool _) rfl) ?_
  refine qP rfl (fun ht => ?_) (fun ht => ?_)
  ·cases ht
  ·skip
   refine qO ?_
   refine qE ?_
   refine qB rfl ?_
   refine qX (zc := [_, _, _]) (vs := []) (cs := []) rfl rfl rfl rfl rfl rfl rfl fun b5 hb5 => ?_
   refine qN [_] rfl ?_
   refine qA (qC (v := .slice _ _ _) rfl) ?_
   refine zA 0 accR_new rfl rfl rfl (fun V => R.2.ext (qR V)) (wU R.1) (flat_plain pinP l) rfl rfl rfl rfl rfl rfl rfl (by omega) rfl (by rw [wU R.1, List.length_nil]; omega) fun a2 h1a E1a ha2 => ?_
   refine qN [_] rfl ?_
   refine qA (qD (v := .slice _ _ _) rfl) ?_
   refine qQ ?_
   refine qM (vs := [_]) Tryz.results68 ⟨qJ rfl rfl, trivial⟩ fun V => ?_
   exact ⟨_, [_], rfl, V, E1a, a2, rfl, rfl, ha2⟩
theorem cloneLinkO (l : List LinkP) (A : Option Addr) (c : Nat) (h : AH) (R : Row h 4 linkC A l) (hl : l.length < 2 ^ 20) :
  FnM Tryz.prog (.func (.func 69) #[] ([] : List Value).toArray) [.slice A l.length c] h [] (fun v h' M' => ∃ a : Acc, M' = [a.p] ∧ v = .slice a.A a.n a.c ∧ AccR 67 4 (l.flatMap linkC) a) := by
 cases A with
 | none =>
  have h0 := R.none_nil (by omega)
  subst h0
  refine fnM_body rfl rfl Tryz.func69 rfl Tryz.ntmps69 rfl ?_
  refine qE ?_
  refine qB rfl ?_
  refine qA (qD (v := .slice _ _ _) rfl) ?_
  refine qE ?_
  refine qE ?_
  refine qB rfl ?_
  refine qA (qC (v := .slice _ _ _) rfl) ?_
  refine qA (qK (v := .bool _) rfl) ?_
  refine qP rfl (fun ht => ?_) (fun ht => ?_)
  ·skip
   refine qE ?_
   refine qB rfl ?_
   refine qA (qD (v := .slice _ _ _) rfl) ?_
   refine qQ ?_
   refine qM (vs := [_]) Tryz.results69 ⟨qJ rfl rfl, trivial⟩ fun V => ?_
   exact ⟨_, [none], rfl, V, (Ext.refl _), acc0, rfl, rfl, accR0⟩
  ·cases ht
 | some a =>
  refine fnM_body rfl rfl Tryz.func69 rfl Tryz.ntmps69 rfl ?_
  refine qE ?_
  refine qB rfl ?_
  refine qA (qD (v := .slice _ _ _) rfl) ?_
  refine qE ?_
  refine qE ?_
  refine qB rfl ?_
  refine qA (qC (v := .slice _ _ _) rfl) ?_
  refine qA (qK (v := .bool _) rfl) ?_
  refine qP rfl (fun ht => ?_) (fun ht => ?_)
  ·cases ht
  ·skip
   refine qO ?_
   refine qE ?_
   refine qB rfl ?_
   refine qX (zc := [_, _, _, _]) (vs := []) (cs := []) rfl rfl rfl rfl rfl rfl rfl fun b5 hb5 => ?_
   refine qN [_] rfl ?_
   refine qA (qC (v := .slice _ _ _) rfl) ?_
   refine zA 0 accR_new rfl rfl rfl (fun V => R.2.ext (qR V)) (wU R.1) (flat_plain linkP l) rfl rfl rfl rfl rfl rfl rfl (by omega) rfl (by rw [wU R.1, List.length_nil]; omega) fun a2 h1a E1a ha2 => ?_
   refine qN [_] rfl ?_
   refine qA (qD (v := .slice _ _ _) rfl) ?_
   refine qQ ?_
   refine qM (vs := [_]) Tryz.results69 ⟨qJ rfl rfl, trivial⟩ fun V => ?_
   exact ⟨_, [_], rfl, V, E1a, a2, rfl, rfl, ha2⟩
end
end Go.Proofs.YtmpahfdiebhdbaaGreatDoor
namespace Go.Proofs.YtmpahfdiebhdbaaGreatDoor
open Go Go.HL Go.Proofs Go.Wx Go.Rd
section
variable [Lvl]
set_option maxRecDepth 100000
def BrkP (h : AH) (m : MachP) (l : List FaultP) (b1 b2 b3 b4 : Nat) : Prop :=
 ∃ ys, cellA h ⟨b1, 0, none⟩ = some ys ∧ SndV h (brkM m l) ys ∧ cellA h ⟨b2, 3, none⟩ = some (.int .i64 m.travel) ∧ cellA h ⟨b3, 0, none⟩ = some (.int .i64 ((brkF m l).stay : Nat)) ∧ cellA h ⟨b4, 0, none⟩ = some (.int .i64 ((brkF m l).dumb : Nat))
theorem BrkP.ext {h h' : AH} {m : MachP} {l : List FaultP} {b1 b2 b3 b4 : Nat} (r : BrkP h m l b1 b2 b3 b4) (e : Ext h h') : BrkP h' m l b1 b2 b3 b4 := by
 obtain ⟨ys, c1, s, c2, c3, c4⟩ := r
 exact ⟨ys, e.cell c1, s.ext e, e.cell c2, e.cell c3, e.cell c4⟩
abbrev brkY (b1 b2 b3 b4 : Nat) : Value := .func (.func 70) #[] #[.pointer (some ⟨b1, 0, none⟩), .pointer (some ⟨b2, 0, none⟩), .pointer (some ⟨b3, 0, none⟩), .pointer (some ⟨b4, 0, none⟩)]
def BrkV (h : AH) (m : MachP) (l : List FaultP) (y : Value) : Prop := ∃ b1 b2 b3 b4, y = brkY b1 b2 b3 b4 ∧ BrkP h m l b1 b2 b3 b4
theorem BrkV.ext {h h' : AH} {m : MachP} {l : List FaultP} {y : Value} (r : BrkV h m l y) (e : Ext h h') : BrkV h' m l y := by
 obtain ⟨b1, b2, b3, b4, hy, p⟩ := r
 exact ⟨b1, b2, b3, b4, hy, p.ext e⟩
theorem AccR.parts {e : TypeId} {m : Nat} {cs : List Value} {a : Acc} (r : AccR e m cs a) (hc : cs ≠ []) : ∃ b len cap junk, a = ⟨some (b, .cells (cs ++ junk).toArray e (0, 0)), some ⟨b, 0, none⟩, len, cap⟩ ∧ cs.length = len * m ∧ ∀ cs' : List Value, cs'.length = cs.length → AccR e m cs' ⟨some (b, .cells (cs' ++ junk).toArray e (0, 0)), some ⟨b, 0, none⟩, len, cap⟩ := by
 obtain ⟨p, A, n, c⟩ := a
 rcases r with ⟨_, h, _⟩ | ⟨b, len, cap, junk, hl, ev, hpp, hx⟩
 ·exact absurd h hc
 ·injection ev with e1 e2 e3
  dsimp only at e1 e2 e3 hpp
  subst e1 e2 e3 hpp
  exact ⟨b, n, c, junk, rfl, hl, fun cs' h' => .inr ⟨b, n, c, junk, by rw [h', hl], rfl, rfl, by rw [List.length_append, h', ← List.length_append]; exact hx⟩⟩
theorem cell_own {h : AH} {L : Pv} {i b off : Nat} {c : Array Value} {e : TypeId} {f : Nat × Nat} {v : Value} (V : Valid h L) (hi : L[i]? = some (some (b, .cells c e f))) (hv : c[off]? = some v) : cellA (wl h L) ⟨b, off, none⟩ = some v := by
 simp [cellA, zK V hi, hv]
set_option maxHeartbeats 8000000 in
theorem broken_ok (m : MachP) (M : MOK m) (l : List FaultP) (hf : ∀ f ∈ l, FOK m f) (hl : l.length < 2 ^ 20) (AB AQ AL AW AF : Option Addr) (cB cQ cL cW cF : Nat) (h : AH) (R : MachR h AB AQ AL AW m) (RF : Row h 1 faultC AF l) :
  FnT Tryz.prog 49 #[machV AB AQ AL AW cB cQ cL cW m, .slice AF l.length cF] h (fun v h' => BrkV h' m l v) := by
 have hpl := M.pl
 have hll := M.ll
 have hlv := M.levers
 refine wH Tryz.func49 rfl Tryz.ntmps49 rfl ?_
 refine qE ?_
 refine qB rfl ?_
 refine op_box (v := .agg #[.int .i64 _, .int .i64 _, .int .i64 _, .int .i64 _, .int .i64 _, .slice _ _ _, .slice _ _ _, .slice _ _ _, .slice _ _ _]) (cs := [_, _, _, _, _, _, _, _, _]) rfl rfl fun b2 hb2 => ?_
 refine qN [_] rfl ?_
 refine qA (qD (v := _) rfl) ?_
 refine qE ?_
 refine xp_dw [] rfl rfl rfl ?_
 refine qI (i := 0) rfl (by decide +kernel) (qG rfl rfl rfl rfl 6 rfl) ?_
 refine wE (i := 1) rfl (by decide +kernel) ?_
 refine qL 0 (v := .slice _ _ _) rfl rfl rfl rfl ?_
 refine qI (i := 3) rfl (by decide +kernel) (qG rfl rfl rfl rfl 7 rfl) ?_
 refine wE (i := 4) rfl (by decide +kernel) ?_
 refine qL 0 (v := .slice _ _ _) rfl rfl rfl rfl ?_
 refine dw_eff (i := 2) rfl (by decide +kernel) ?_
 refine op_fnV rfl rfl (clonePinO m.pins AQ cQ h (R.q.ext (Ext.refl _)) (by omega)) ?_
 rintro _ h1 _ Vmn E1 ⟨a1, rfl, rfl, r1⟩
 refine ⟨ext_out Vmn E1, ?_⟩
 refine wN [_, _] rfl ?_
 refine wV (i := 5) rfl (by decide +kernel) (by decide +kernel) ?_
 refine op_fnMM [_, _] [] [] rfl rfl rfl (cloneLinkO m.links AL cL h1 (R.l.ext E1) (by omega)) ?_
 rintro _ h2 _ E2 ⟨a2, rfl, rfl, r2⟩
 refine wN [_, _, _] rfl ?_
 refine qI (i := 6) rfl (by decide +kernel) (qD (v := .slice _ _ _) rfl) ?_
 refine qI (i := 7) rfl (by decide +kernel) (qD (v := .slice _ _ _) rfl) ?_
 refine zI rfl ?_
 refine qE ?_
 refine qB rfl ?_
 refine zE (cs := [_]) rfl rfl fun b7 hb7 => ?_
 refine qN [_, _, _, _] rfl ?_
 refine zE (cs := [_]) rfl rfl fun b8 hb8 => ?_
 refine qN [_, _, _, _, _] rfl ?_
 refine qE ?_
 refine qE ?_
 refine qB rfl ?_
 refine qA (qC (v := .slice _ _ _) rfl) ?_
 refine qA (wP rfl rfl) ?_
 refine qA (qC (v := .int .i64 _) rfl) ?_
 refine qT ?_
 refine xp_loopL [10, 11, 12, 13, 14, 24, 25, 26, 27, 28, 29, 30, 31, 32, 33, 34, 35, 36, 37, 38, 39, 40, 41, 42, 43, 44, 45, 46, 47, 48, 49, 50, 51, 52, 53, 54, 55, 56, 57, 58, 59] 5 (α := Nat × Option (Nat × Obj) × Option (Nat × Obj)) (fun ⟨k, pp, lp⟩ => [(24, .int .i64 k)]) (fun ⟨k, pp, lp⟩ L => (((L.set 1 (pp)).set 2 (lp)).set 3 (some (b7, .cells #[.int .i64 ((brkF m (l.take k)).stay : Nat)] 93 (0, 0)))).set 4 (some (b8, .cells #[.int .i64 ((brkF m (l.take k)).dumb : Nat)] 93 (0, 0)))) (fun ⟨k, pp, lp⟩ h_k => k ≤ l.length ∧ AccR 65 3 ((brkF m (l.take k)).pins.flatMap pinC) ⟨pp, a1.A, a1.n, a1.c⟩ ∧ AccR 67 4 ((brkF m (l.take k)).links.flatMap linkC) ⟨lp, a2.A, a2.n, a2.c⟩) (fun ⟨k, pp, lp⟩ => l.length - k) ((0, a1.p, a2.p)) ⟨rfl, trivial⟩ (rfl) (⟨Nat.zero_le _, r1, r2⟩) ?_
 rintro ⟨k, pp, lp⟩ T1 h_k E_k J_k
 refine qU [_, _, _, _, _] rfl ?_
 obtain ⟨K1, K2, K3⟩ := J_k
 refine qE ?_
 refine qB rfl ?_
 refine qA (qK (v := .bool _) rfl) ?_
 refine qE ?_
 refine qP rfl (fun hk => ?_) (fun hk => ?_)
 ·skip
  have hkl : k < l.length := ltI hk
  obtain ⟨g, off, hA, hc⟩ := (RF.ext (zL (zL E1 E2) E_k)).at (by omega) hkl
  have hfk := hf _ (List.getElem_mem hkl)
  have hN := brkF_take (m := m) hkl
  have hbt := brk_bits hlv.2 (l := l.take k) (fun f hm => hf f (take_mem hm))
  have hpk := brk_pl m (l.take k)
  have hlk := brk_ll m (l.take k)
  generalize brkF m (l.take k) = bk at *
  obtain ⟨bp, bl, bs, bd⟩ := bk
  dsimp only at hbt hpk hlk K2 K3
  obtain ⟨fk, hfe⟩ : ∃ fk, fk = l[k] := ⟨_, rfl⟩
  rw [← hfe] at hc hfk hN
  dsimp only
  rcases fk with i | i | i | i
  ·skip
   have hi6 : (i : Int) < m.levers := hfk
   refine qO ?_
   refine qE ?_
   refine qT ?_
   refine qE ?_
   refine qB rfl ?_
   refine qA (wD rfl hA rfl rfl rfl (by omega) (by omega)) ?_
   refine wL (v := _) rfl rfl ((hc) 0 _ rfl) ?_
   refine qA (qD (v := _) rfl) ?_
   refine qE ?_
   refine qB rfl ?_
   refine qA (qC (v := _) rfl) ?_
   refine qT ?_
   refine qE ?_
   refine qB rfl ?_
   refine qA (qK (v := .tuple #[.int .i64 i, .bool true]) rfl) ?_
   refine qA (qK (v := .bool _) rfl) ?_
   refine qA (qK (v := .int .i64 _) rfl) ?_
   refine wW rfl (rfl) ?_
   refine qE ?_
   refine qB rfl ?_
   refine qA (qD (v := .int .i64 _) rfl) ?_
   refine qB rfl ?_
   refine qL 4 (v := .int .i64 _) rfl rfl rfl rfl ?_
   refine qA (qC (v := .int .i64 _) rfl) ?_
   refine wJ (caps := []) (vs := [.int .i64 _, .int .i64 _]) rfl rfl rfl (with_ok bd i i rfl (by omega) (by omega) h_k) ?_
   rintro _ h3 E3 rfl
   refine qY 4 (v := .int .i64 _) (vs := [_]) (c' := [_]) rfl rfl rfl rfl rfl rfl rfl rfl rfl ?_
   refine qN [_, _, _, _, _] rfl ?_
   refine qB rfl ?_
   refine qA (qS rfl (by omega)) ?_
   refine qA (qC (v := .int .i64 _) rfl) ?_
   refine ⟨(k + 1, pp, lp), ⟨rfl, trivial⟩, rfl, by rw [hN]; rfl, (zL E_k E3), fun h3 E3 => ⟨hkl, by rw [hN]; exact K2, by rw [hN]; exact K3⟩, by first | omega | (dsimp only; omega), ?_⟩
   repeat (first | exact qW _ _ _ | refine wA (by decide) ?_ | refine qV rfl ?_ | refine wB rfl ?_)
  ·skip
   have hi6 : (i : Int) < m.levers := hfk
   refine qO ?_
   refine qE ?_
   refine qT ?_
   refine qE ?_
   refine qB rfl ?_
   refine qA (wD rfl hA rfl rfl rfl (by omega) (by omega)) ?_
   refine wL (v := _) rfl rfl ((hc) 0 _ rfl) ?_
   refine qA (qD (v := _) rfl) ?_
   refine qE ?_
   refine qB rfl ?_
   refine qA (qC (v := _) rfl) ?_
   refine qT ?_
   refine qE ?_
   refine qB rfl ?_
   refine qA (qK (v := .tuple #[.int .i64 0, .bool false]) rfl) ?_
   refine qA (qK (v := .bool _) rfl) ?_
   refine qA (qK (v := .int .i64 _) rfl) ?_
   refine wT rfl (rfl) ?_
   refine qE ?_
   refine qB rfl ?_
   refine qA (qK (v := .tuple #[.int .i64 i, .bool true]) rfl) ?_
   refine qA (qK (v := .bool _) rfl) ?_
   refine qA (qK (v := .int .i64 _) rfl) ?_
   refine wW rfl (rfl) ?_
   refine qE ?_
   refine qB rfl ?_
   refine qA (qD (v := .int .i64 _) rfl) ?_
   refine qB rfl ?_
   refine qL 3 (v := .int .i64 _) rfl rfl rfl rfl ?_
   refine qA (qC (v := .int .i64 _) rfl) ?_
   refine wJ (caps := []) (vs := [.int .i64 _, .int .i64 _]) rfl rfl rfl (with_ok bs i i rfl (by omega) (by omega) h_k) ?_
   rintro _ h3 E3 rfl
   refine qY 3 (v := .int .i64 _) (vs := [_]) (c' := [_]) rfl rfl rfl rfl rfl rfl rfl rfl rfl ?_
   refine qN [_, _, _, _, _] rfl ?_
   refine qB rfl ?_
   refine qA (qS rfl (by omega)) ?_
   refine qA (qC (v := .int .i64 _) rfl) ?_
   refine ⟨(k + 1, pp, lp), ⟨rfl, trivial⟩, rfl, by rw [hN]; rfl, (zL E_k E3), fun h3 E3 => ⟨hkl, by rw [hN]; exact K2, by rw [hN]; exact K3⟩, by first | omega | (dsimp only; omega), ?_⟩
   repeat (first | exact qW _ _ _ | refine wA (by decide) ?_ | refine qV rfl ?_ | refine wB rfl ?_)
  ·skip
   have hi6 : i < m.pins.length := hfk
   have hib : i < bp.length := by omega
   have hfl : (bp.flatMap pinC).length = bp.length * 3 := wU (fun _ _ => rfl)
   obtain ⟨gb, len, cap, junk, ha, hlen, put⟩ := AccR.parts K2 (by intro e; rw [e] at hfl; simp at hfl; omega)
   injection ha with q1 q2 q3 q4
   subst q1
   rw [← q2, ← q3, ← q4] at put
   refine qO ?_
   refine qE ?_
   refine qT ?_
   refine qE ?_
   refine qB rfl ?_
   refine qA (wD rfl hA rfl rfl rfl (by omega) (by omega)) ?_
   refine wL (v := _) rfl rfl ((hc) 0 _ rfl) ?_
   refine qA (qD (v := _) rfl) ?_
   refine qE ?_
   refine qB rfl ?_
   refine qA (qC (v := _) rfl) ?_
   refine qT ?_
   refine qE ?_
   refine qB rfl ?_
   refine qA (qK (v := .tuple #[.int .i64 0, .bool false]) rfl) ?_
   refine qA (qK (v := .bool _) rfl) ?_
   refine qA (qK (v := .int .i64 _) rfl) ?_
   refine wT rfl (rfl) ?_
   refine qE ?_
   refine qB rfl ?_
   refine qA (qK (v := .tuple #[.int .i64 0, .bool false]) rfl) ?_
   refine qA (qK (v := .bool _) rfl) ?_
   refine qA (qK (v := .int .i64 _) rfl) ?_
   refine wT rfl (rfl) ?_
   refine qE ?_
   refine qB rfl ?_
   refine qA (qK (v := .tuple #[.int .i64 i, .bool true]) rfl) ?_
   refine qA (qK (v := .bool _) rfl) ?_
   refine qA (qK (v := .int .i64 _) rfl) ?_
   refine wW rfl (rfl) ?_
   refine qE ?_
   refine qB rfl ?_
   refine qA (qD (v := .int .i64 _) rfl) ?_
   refine qB rfl ?_
   refine qA (qC (v := .slice _ _ _) rfl) ?_
   refine qA (qC (v := .int .i64 _) rfl) ?_
   refine qA (qG rfl rfl rfl rfl 3 rfl) ?_
   refine qL 0 (v := .int .i64 _) rfl rfl rfl rfl ?_
   refine qA (wD (m := 3) rfl q2 rfl rfl rfl (by omega) (by omega)) ?_
   refine qA (qG rfl rfl rfl rfl _ rfl) ?_
   refine qY 1 (m := 1) (off := 0 + (i : Int).toNat * 3 + 2) (v := .int .i64 m.travel) (vs := [.int .i64 m.travel]) (c' := (lagP bp i m.travel).flatMap pinC ++ junk) rfl rfl rfl rfl rfl rfl (Nat.ble_eq_true_of_le (by rw [List.length_append, hfl]; omega)) rfl (by rw [show 0 + (i : Int).toNat * 3 + 2 = i * 3 + 2 by omega, pin_wr hib]) ?_
   refine qN [_, _, _, _, _] rfl ?_
   refine qB rfl ?_
   refine qA (qS rfl (by omega)) ?_
   refine qA (qC (v := .int .i64 _) rfl) ?_
   refine ⟨(k + 1, some (gb, .cells ((lagP bp i m.travel).flatMap pinC ++ junk).toArray 65 (0, 0)), lp), ⟨rfl, trivial⟩, rfl, by rw [hN]; rfl, E_k, fun h3 E3 => ⟨hkl, by rw [hN]; exact put _ (by rw [hfl, wU (m := 3) (fun _ _ => rfl)]; exact congrArg (· * 3) (lagP_len _ _ _)), by rw [hN]; exact K3⟩, by first | omega | (dsimp only; omega), ?_⟩
   repeat (first | exact qW _ _ _ | refine wA (by decide) ?_ | refine qV rfl ?_ | refine wB rfl ?_)
  ·skip
   have hi6 : i < m.links.length := hfk
   have hib : i < bl.length := by omega
   have hfl : (bl.flatMap linkC).length = bl.length * 4 := wU (fun _ _ => rfl)
   obtain ⟨gb, len, cap, junk, ha, hlen, put⟩ := AccR.parts K3 (by intro e; rw [e] at hfl; simp at hfl; omega)
   injection ha with q1 q2 q3 q4
   subst q1
   rw [← q2, ← q3, ← q4] at put
   refine qO ?_
   refine qE ?_
   refine qT ?_
   refine qE ?_
   refine qB rfl ?_
   refine qA (wD rfl hA rfl rfl rfl (by omega) (by omega)) ?_
   refine wL (v := _) rfl rfl ((hc) 0 _ rfl) ?_
   refine qA (qD (v := _) rfl) ?_
   refine qE ?_
   refine qB rfl ?_
   refine qA (qC (v := _) rfl) ?_
   refine qT ?_
   refine qE ?_
   refine qB rfl ?_
   refine qA (qK (v := .tuple #[.int .i64 0, .bool false]) rfl) ?_
   refine qA (qK (v := .bool _) rfl) ?_
   refine qA (qK (v := .int .i64 _) rfl) ?_
   refine wT rfl (rfl) ?_
   refine qE ?_
   refine qB rfl ?_
   refine qA (qK (v := .tuple #[.int .i64 0, .bool false]) rfl) ?_
   refine qA (qK (v := .bool _) rfl) ?_
   refine qA (qK (v := .int .i64 _) rfl) ?_
   refine wT rfl (rfl) ?_
   refine qE ?_
   refine qB rfl ?_
   refine qA (qK (v := .tuple #[.int .i64 0, .bool false]) rfl) ?_
   refine qA (qK (v := .bool _) rfl) ?_
   refine qA (qK (v := .int .i64 _) rfl) ?_
   refine wT rfl (rfl) ?_
   refine qE ?_
   refine qB rfl ?_
   refine qA (qK (v := .tuple #[.int .i64 i, .bool true]) rfl) ?_
   refine qA (qK (v := .bool _) rfl) ?_
   refine qA (qK (v := .int .i64 _) rfl) ?_
   refine wW rfl (rfl) ?_
   refine qE ?_
   refine qB rfl ?_
   refine qA (qD (v := .int .i64 _) rfl) ?_
   refine qB rfl ?_
   refine qA (qC (v := .slice _ _ _) rfl) ?_
   refine qA (qC (v := .int .i64 _) rfl) ?_
   refine qA (qG rfl rfl rfl rfl 3 rfl) ?_
   refine qL 0 (v := .int .i64 _) rfl rfl rfl rfl ?_
   refine qA (wD (m := 4) rfl q2 rfl rfl rfl (by omega) (by omega)) ?_
   refine qA (qG rfl rfl rfl rfl _ rfl) ?_
   refine qY 2 (m := 1) (off := 0 + (i : Int).toNat * 4 + 3) (v := .int .i64 m.travel) (vs := [.int .i64 m.travel]) (c' := (lagL bl i m.travel).flatMap linkC ++ junk) rfl rfl rfl rfl rfl rfl (Nat.ble_eq_true_of_le (by rw [List.length_append, hfl]; omega)) rfl (by rw [show 0 + (i : Int).toNat * 4 + 3 = i * 4 + 3 by omega, link_wr hib]) ?_
   refine qN [_, _, _, _, _] rfl ?_
   refine qB rfl ?_
   refine qA (qS rfl (by omega)) ?_
   refine qA (qC (v := .int .i64 _) rfl) ?_
   refine ⟨(k + 1, pp, some (gb, .cells ((lagL bl i m.travel).flatMap linkC ++ junk).toArray 67 (0, 0))), ⟨rfl, trivial⟩, rfl, by rw [hN]; rfl, E_k, fun h3 E3 => ⟨hkl, by rw [hN]; exact K2, by rw [hN]; exact put _ (by rw [hfl, wU (m := 4) (fun _ _ => rfl)]; exact congrArg (· * 4) (lagL_len _ _ _))⟩, by first | omega | (dsimp only; omega), ?_⟩
   repeat (first | exact qW _ _ _ | refine wA (by decide) ?_ | refine qV rfl ?_ | refine wB rfl ?_)
 ·skip
  have hke : k = l.length := by have := geI hk; omega
  subst hke
  rw [List.take_length] at K2 K3 ⊢
  obtain ⟨pp0, pA, pn, pcap⟩ := a1
  obtain ⟨lp0, lA, ln, lcap⟩ := a2
  dsimp only at K2 K3
  obtain rfl : pn = (brkF m l).pins.length := by have := AccR.len K2; rw [wU (m := 3) (fun _ _ => rfl)] at this; dsimp only at this; omega
  obtain rfl : ln = (brkF m l).links.length := by have := AccR.len K3; rw [wU (m := 4) (fun _ _ => rfl)] at this; dsimp only at this; omega
  dsimp only
  refine goes_pubO 1 rfl ?_
  intro h3 E3 P3
  refine qU [_, _, _, _, _] rfl ?_
  refine goes_pubO 2 rfl ?_
  intro h4 E4 P4
  refine qU [_, _, _, _, _] rfl ?_
  refine wS ?_
  refine qE ?_
  refine qB rfl ?_
  refine qA (qC (v := .slice _ _ _) rfl) ?_
  refine qA (qC (v := .slice _ _ _) rfl) ?_
  refine qA (qG rfl rfl rfl rfl 6 rfl) ?_
  refine qY 0 (v := .slice _ _ _) (vs := [_]) (c' := [_, _, _, _, _, _, _, _, _]) rfl rfl rfl rfl rfl rfl rfl rfl rfl ?_
  refine qN [_, _, _, _, _] rfl ?_
  refine qA (qG rfl rfl rfl rfl 7 rfl) ?_
  refine qY 0 (v := .slice _ _ _) (vs := [_]) (c' := [_, _, _, _, _, _, _, _, _]) rfl rfl rfl rfl rfl rfl rfl rfl rfl ?_
  refine qN [_, _, _, _, _] rfl ?_
  refine qE ?_
  refine qB rfl ?_
  refine wO 0 (vs := [.int .i64 _, .int .i64 _, .int .i64 _, .int .i64 _, .int .i64 _, .slice _ _ _, .slice _ _ _, .slice _ _ _, .slice _ _ _]) rfl rfl rfl rfl rfl ?_
  refine wJ (caps := []) (vs := [.agg #[.int .i64 _, .int .i64 _, .int .i64 _, .int .i64 _, .int .i64 _, .slice _ _ _, .slice _ _ _, .slice _ _ _, .slice _ _ _]]) rfl rfl rfl (sounding_ok (brkM m l) AB pA lA AW cB pcap lcap cW h4 ⟨R.b.ext (zL (zL (zL (zL E1 E2) E_k) E3) E4), ⟨fun _ _ => rfl, (AccR.rd K2 P3).ext E4⟩, ⟨fun _ _ => rfl, (AccR.rd K3 P4).ext (Ext.refl _)⟩, R.w.ext (zL (zL (zL (zL E1 E2) E_k) E3) E4)⟩) ?_
  rintro _ h5 E5 S5
  obtain ⟨bs, AB1, AQ1, AL1, AW1, cB1, cQ1, cL1, cW1, rfl, CM, RM1⟩ := id S5
  refine zE (cs := [_]) rfl rfl fun b15 hb15 => ?_
  refine qN [_, _, _, _, _, _] rfl ?_
  refine qY 5 (v := _) (vs := [_]) (c' := [_]) rfl rfl rfl rfl rfl rfl rfl rfl rfl ?_
  refine qN [_, _, _, _, _, _] rfl ?_
  refine qE ?_
  refine qB rfl ?_
  refine qA (pv_makeFunc (vs := []) (ws := [_, _, _, _]) rfl rfl) ?_
  refine qA (qD (v := _) rfl) ?_
  refine qQ ?_
  refine qM (vs := [_]) Tryz.results49 ⟨qJ rfl rfl, trivial⟩ fun V => ?_
  exact ⟨(zL (zL (zL (zL (zL (zL E1 E2) E_k) E3) E4) E5) (qR V)), b15, b2, b7, b8, rfl, _, cell_own V (i := 5) rfl rfl, S5.ext (qR V), cell_own V (i := 0) rfl rfl, cell_own V (i := 3) rfl rfl, cell_own V (i := 4) rfl rfl⟩
end
end Go.Proofs.YtmpahfdiebhdbaaGreatDoor
namespace Go.Proofs.YtmpahfdiebhdbaaGreatDoor
open Go Go.HL Go.Proofs Go.Wx Go.Rd
section
variable [Lvl]
set_option maxRecDepth 100000
theorem brk_ok (hph : Lvl.ph = true) (m : MachP) (M : MOK m) (l : List FaultP) (hf : ∀ f ∈ l, FOK m f) (a : HandP) (H : HOK m a) (b1 b2 b3 b4 : Nat) (HA OA : Option Addr) (cH cO : Nat) (h : AH) (B : BrkP h m l b1 b2 b3 b4) (RH : HandR h HA OA a) :
  FnT Tryz.prog 70 #[handV HA OA cH cO a, .pointer (some ⟨b1, 0, none⟩), .pointer (some ⟨b2, 0, none⟩), .pointer (some ⟨b3, 0, none⟩), .pointer (some ⟨b4, 0, none⟩)] h (fun v _ => v = .int .i64 (soundsB m l a : Nat)) := by
 obtain ⟨ys, c1, ⟨bs, AB, AQ, AL, AW, cB, cQ, cL, cW, rfl, CM, RM⟩, c2, c3, c4⟩ := B
 have M2 := brk_mok M l
 have H2 := brk_hok H l
 have PF := pfit_of M2
 have tr := M.travel
 have hbt := brk_bits M.levers.2 hf
 have hss := sounds_small PF a m.travel
 have h62 : soundsM (brkM m l) a m.travel ||| (brkF m l).stay < 2 ^ 60 := Nat.or_lt_two_pow hss (by omega)
 refine wH Tryz.func70 rfl Tryz.ntmps70 rfl ?_
 refine qE ?_
 refine qB rfl ?_
 refine op_box (v := .agg #[.slice _ _ _, .slice _ _ _]) (cs := [_, _]) rfl rfl fun b5 hb5 => ?_
 refine qN [_] rfl ?_
 refine qA (qD (v := .int .i64 _) rfl) ?_
 refine qE ?_
 refine xp_dw [] rfl rfl rfl ?_
 refine wE (i := 0) rfl (by decide +kernel) ?_
 refine wL (v := .func _ _ _) rfl rfl ((Ext.refl _).cell c1) ?_
 refine wE (i := 1) rfl (by decide +kernel) ?_
 refine wO 0 (vs := [.slice _ _ _, .slice _ _ _]) rfl rfl rfl rfl rfl ?_
 refine qI (i := 2) rfl (by decide +kernel) (qG rfl rfl rfl rfl _ rfl) ?_
 refine wE (i := 3) rfl (by decide +kernel) ?_
 refine wL (v := .int .i64 m.travel) rfl rfl ((Ext.refl _).cell c2) ?_
 refine wE (i := 5) rfl (by decide +kernel) ?_
 refine wL (v := .int .i64 ((brkF m l).stay : Nat)) rfl rfl ((Ext.refl _).cell c3) ?_
 refine wE (i := 7) rfl (by decide +kernel) ?_
 refine wL (v := .int .i64 ((brkF m l).dumb : Nat)) rfl rfl ((Ext.refl _).cell c4) ?_
 refine dw_eff (i := 4) rfl (by decide +kernel) ?_
 refine wJ  (vs := _) rfl rfl rfl (snd_ok hph (brkM m l) a (fit_of M2 H2) PF m.travel (by omega) tr.2 bs AB AQ AL AW HA OA cB cQ cL cW cH cO h (CM.ext (Ext.refl _)) (RM.ext (Ext.refl _)) (RH.ext (Ext.refl _))) ?_
 rintro _ h5 E5 rfl
 refine ⟨ext_wlm E5 _, ?_⟩
 refine qI (i := 6) rfl (by decide +kernel) (pv_val (i64_or (soundsM (brkM m l) a m.travel) (brkF m l).stay (by omega) (by omega)) rfl) ?_
 refine qI (i := 8) rfl (by decide +kernel) (pv_val (i64_andNot (soundsM (brkM m l) a m.travel ||| (brkF m l).stay) (brkF m l).dumb (by omega) (by omega)) rfl) ?_
 refine qI (i := 9) rfl (by decide +kernel) (qD (v := .int .i64 _) rfl) ?_
 refine zI rfl ?_
 refine qQ ?_
 refine qM (vs := [_]) Tryz.results70 ⟨qJ rfl rfl, trivial⟩ fun V => ?_
 exact ⟨(zL E5 (qR V)), rfl⟩
theorem cell_blk {h : AH} {b : Nat} {v : Value} {e : TypeId} {f : Nat × Nat} (hb : h b = some (.cells #[v] e f)) : cellA h ⟨b, 0, none⟩ = some v := by
 simp only [cellA, hb]
 rfl
structure HeardOK (m : MachP) (x : HeardP) : Prop where
 h : HOK m x.hand
 s : SetOK x.sounds m.levers
def against (m : MachP) (l : List FaultP) (x : HeardP) : Bool := ((soundsB m l x.hand : Nat) : Int) != ((setM x.sounds : Nat) : Int)
def explainsB (m : MachP) (l : List FaultP) (hs : List HeardP) : Bool := !hs.any (against m l)
theorem explains1_ok (hph : Lvl.ph = true) (m : MachP) (M : MOK m) (l : List FaultP) (hf : ∀ f ∈ l, FOK m f) (x : HeardP) (X : HeardOK m x) (b : Nat) (y : Value) (HA OA UA : Option Addr) (cH cO cU : Nat) (h : AH) (c1 : cellA h ⟨b, 0, none⟩ = some y) (B : BrkV h m l y)
  (RH : HandR h HA OA x.hand) (RU : Row h 1 intC UA x.sounds) :
  FnT Tryz.prog 84 #[.agg #[.slice HA x.hand.buttons.length cH, .slice OA x.hand.on.length cO, .slice UA x.sounds.length cU], .pointer (some ⟨b, 0, none⟩)] h (fun v _ => v = .bool (against m l x)) := by
 have lv := M.levers
 have us := set_len (below := m.levers.toNat) (by rw [Int.toNat_of_nonneg (by omega)]; exact X.s)
 obtain ⟨z1, z2, z3, z4, rfl, B⟩ := B
 refine wH Tryz.func84 rfl Tryz.ntmps84 rfl ?_
 refine qE ?_
 refine qB rfl ?_
 refine op_box (v := .agg #[.slice _ _ _, .slice _ _ _, .slice _ _ _]) (cs := [_, _, _]) rfl rfl fun b2 hb2 => ?_
 refine qN [_] rfl ?_
 refine qA (qD (v := .bool _) rfl) ?_
 refine qE ?_
 refine xp_dw [] rfl rfl rfl ?_
 refine wE (i := 0) rfl (by decide +kernel) ?_
 refine wL (v := .func _ _ _) rfl rfl ((Ext.refl _).cell c1) ?_
 refine qI (i := 1) rfl (by decide +kernel) (qG rfl rfl rfl rfl 0 rfl) ?_
 refine wE (i := 2) rfl (by decide +kernel) ?_
 refine wO 0 (vs := [.slice _ _ _, .slice _ _ _]) rfl rfl rfl rfl rfl ?_
 refine qI (i := 4) rfl (by decide +kernel) (qG rfl rfl rfl rfl 2 rfl) ?_
 refine wE (i := 5) rfl (by decide +kernel) ?_
 refine qL 0 (v := .slice _ _ _) rfl rfl rfl rfl ?_
 refine dw_eff (i := 3) rfl (by decide +kernel) ?_
 refine wJ  (vs := _) rfl rfl rfl (brk_ok hph m M l hf x.hand X.h z1 z2 z3 z4 HA OA cH cO h (B.ext (Ext.refl _)) (RH.ext (Ext.refl _))) ?_
 rintro _ h5 E5 rfl
 refine ⟨ext_wlm E5 _, ?_⟩
 refine wV (i := 6) rfl (by decide +kernel) (by decide +kernel) ?_
 refine wJ (caps := []) (vs := [.slice _ _ _]) rfl rfl rfl (set_ok x.sounds (fun z hz => by have := X.s.mem z hz; omega) UA cU h5 (RU.ext E5) (by omega)) ?_
 rintro _ h6 E6 rfl
 refine qI (i := 7) rfl (by decide +kernel) (qK (v := .bool _) rfl) ?_
 refine qI (i := 8) rfl (by decide +kernel) (qD (v := .bool _) rfl) ?_
 refine zI rfl ?_
 refine qQ ?_
 refine qM (vs := [_]) Tryz.results84 ⟨qJ rfl rfl, trivial⟩ fun V => ?_
 exact ⟨(zL (zL E5 E6) (qR V)), rfl⟩
abbrev expY (b : Nat) : Value := .func (.func 84) #[] #[.pointer (some ⟨b, 0, none⟩)]
theorem indexFunc_ok (hph : Lvl.ph = true) (m : MachP) (M : MOK m) (l : List FaultP) (hf : ∀ f ∈ l, FOK m f) (hs : List HeardP) (X : ∀ x ∈ hs, HeardOK m x) (hl : hs.length < 2 ^ 40) (b : Nat) (y : Value) (UA : Option Addr) (cU : Nat) (cs : List (List Value)) (h : AH) (c1 : cellA h ⟨b, 0, none⟩ = some y) (B : BrkV h m l y) (R : Row h 3 id UA cs) (EL : Els h TU hs cs) :
  FnT Tryz.prog 100 #[.slice UA hs.length cU, expY b] h (fun v _ => ∃ i : Int, v = .int .i64 i ∧ decide (i ≥ 0) = hs.any (against m l)) := by
 refine wH Tryz.func100 rfl Tryz.ntmps100 rfl ?_
 refine qE ?_
 refine qB rfl ?_
 refine qA (qD (v := .int .i64 _) rfl) ?_
 refine qE ?_
 refine qE ?_
 refine qB rfl ?_
 refine qA (qC (v := .slice _ _ _) rfl) ?_
 refine qA (wP rfl rfl) ?_
 refine qA (qC (v := .int .i64 _) rfl) ?_
 refine qT ?_
 refine zH [4, 5, 8, 9, 10, 11, 12, 13, 14, 15, 16, 17, 18] 0 (α := Nat) (fun k => [(8, .int .i64 k)]) (fun k => _) (fun k h_k => k ≤ hs.length ∧ (hs.take k).any (against m l) = false) (fun k => hs.length - k) (0) ⟨rfl, trivial⟩ (rfl) (⟨Nat.zero_le _, rfl⟩) ?_
 rintro k T1 h_k E_k J_k
 refine qU [] rfl ?_
 obtain ⟨K1, K2⟩ := J_k
 refine qE ?_
 refine qB rfl ?_
 refine qA (qK (v := .bool _) rfl) ?_
 refine qE ?_
 refine qP rfl (fun hk => ?_) (fun hk => ?_)
 ·skip
  have hkl : k < hs.length := ltI hk
  obtain ⟨hkc, B0, O0, U0, e0, ⟨HA, cH, rfl, r1⟩, ⟨OA, cO, rfl, r2⟩, ⟨XA, cX, rfl, r3⟩⟩ := (EL.ext TU.mono E_k).at hkl
  obtain ⟨g, off, hA, hc⟩ := (R.ext E_k).at (by omega) hkc
  have hc : Cells h_k g (off + k * 3) [.slice HA hs[k].hand.buttons.length cH, .slice OA hs[k].hand.on.length cO, .slice XA hs[k].sounds.length cX] := by rw [← e0]; exact hc
  refine qO ?_
  refine qE ?_
  refine qT ?_
  refine qE ?_
  refine qB rfl ?_
  refine qA (qC (v := .int .i64 _) rfl) ?_
  refine qA (qD (v := .int .i64 _) rfl) ?_
  refine qE ?_
  refine qB rfl ?_
  refine qA (qC (v := _) rfl) ?_
  refine qA (qC (v := .slice _ _ _) rfl) ?_
  refine qA (qC (v := .int .i64 _) rfl) ?_
  refine qA (wD rfl hA rfl rfl rfl (by omega) (by omega)) ?_
  refine op_loadA rfl rfl rfl rfl (hc) ?_
  refine wJ  (vs := _) rfl rfl rfl (explains1_ok hph m M l hf hs[k] (X _ (List.getElem_mem hkl)) b y HA OA XA cH cO cX h_k (E_k.cell c1) (B.ext E_k) ⟨r1, r2⟩ r3) ?_
  rintro _ h5 E5 rfl
  refine qP rfl (fun hp => ?_) (fun hp => ?_)
  ·skip
   refine qE ?_
   refine qB rfl ?_
   refine qA (qC (v := .int .i64 _) rfl) ?_
   refine qA (qD (v := .int .i64 _) rfl) ?_
   refine qQ ?_
   refine qM (vs := [_]) Tryz.results100 ⟨qJ rfl rfl, trivial⟩ fun V => ?_
   refine ⟨(zL (zL E_k E5) (qR V)), k, rfl, ?_⟩
   have : hs.any (against m l) = true := List.any_eq_true.2 ⟨_, List.getElem_mem hkl, hp⟩
   rw [this]
   exact decide_eq_true (by omega)
  ·skip
   refine qO ?_
   refine qB rfl ?_
   refine qA (qS rfl (by omega)) ?_
   refine qA (qC (v := .int .i64 _) rfl) ?_
   refine ⟨k + 1, ⟨rfl, trivial⟩, rfl, rfl, (zL E_k E5), fun h3 E3 => ⟨hkl, by rw [List.take_succ_eq_append_getElem hkl, List.any_append, K2]; simp [hp]⟩, by first | omega | (dsimp only; omega), ?_⟩
   repeat (first | exact qW _ _ _ | refine wA (by decide) ?_ | refine qV rfl ?_ | refine wB rfl ?_)
 ·skip
  have hke : k = hs.length := by have := geI hk; omega
  subst hke
  rw [List.take_length] at K2
  refine wS ?_
  refine qE ?_
  refine qB rfl ?_
  refine qA (qD (v := .int .i64 _) rfl) ?_
  refine qQ ?_
  refine qM (vs := [_]) Tryz.results100 ⟨qJ rfl rfl, trivial⟩ fun V => ?_
  exact ⟨(zL E_k (qR V)), -1, rfl, by rw [K2]; rfl⟩
theorem containsFunc_ok (hph : Lvl.ph = true) (m : MachP) (M : MOK m) (l : List FaultP) (hf : ∀ f ∈ l, FOK m f) (hs : List HeardP) (X : ∀ x ∈ hs, HeardOK m x) (hl : hs.length < 2 ^ 40) (b : Nat) (y : Value) (UA : Option Addr) (cU : Nat) (cs : List (List Value)) (h : AH) (c1 : cellA h ⟨b, 0, none⟩ = some y) (B : BrkV h m l y) (R : Row h 3 id UA cs) (EL : Els h TU hs cs) :
  FnT Tryz.prog 83 #[.slice UA hs.length cU, expY b] h (fun v _ => v = .bool (hs.any (against m l))) := by
 refine wH Tryz.func83 rfl Tryz.ntmps83 rfl ?_
 refine qE ?_
 refine qB rfl ?_
 refine qA (qD (v := .bool _) rfl) ?_
 refine qE ?_
 refine qB rfl ?_
 refine qA (qC (v := .slice _ _ _) rfl) ?_
 refine qA (qC (v := _) rfl) ?_
 refine wJ (caps := []) (vs := [.slice UA hs.length cU, expY b]) rfl rfl rfl (indexFunc_ok hph m M l hf hs X hl b y UA cU cs h ((Ext.refl _).cell c1) (B.ext (Ext.refl _)) (R.ext (Ext.refl _)) (EL.ext TU.mono (Ext.refl _))) ?_
 rintro _ h5 E5 ⟨i, rfl, hi⟩
 refine qA (qK (v := .bool _) rfl) ?_
 refine qA (qD (v := .bool _) rfl) ?_
 refine qQ ?_
 refine qM (vs := [_]) Tryz.results83 ⟨qJ rfl rfl, trivial⟩ fun V => ?_
 exact ⟨(zL E5 (qR V)), boolE hi⟩
theorem explains_ok (hph : Lvl.ph = true) (m : MachP) (M : MOK m) (l : List FaultP) (hf : ∀ f ∈ l, FOK m f) (hl : l.length < 2 ^ 20) (hs : List HeardP) (X : ∀ x ∈ hs, HeardOK m x) (hl2 : hs.length < 2 ^ 40) (AB AQ AL AW AF UA : Option Addr) (cB cQ cL cW cF cU : Nat) (cs : List (List Value)) (h : AH) (RM : MachR h AB AQ AL AW m) (RF : Row h 1 faultC AF l) (R : Row h 3 id UA cs) (EL : Els h TU hs cs) :
  FnT Tryz.prog 67 #[machV AB AQ AL AW cB cQ cL cW m, .slice AF l.length cF, .slice UA hs.length cU] h (fun v _ => v = .bool (explainsB m l hs)) := by
 refine wH Tryz.func67 rfl Tryz.ntmps67 rfl ?_
 refine qE ?_
 refine qB rfl ?_
 refine op_box (v := .agg #[.int .i64 _, .int .i64 _, .int .i64 _, .int .i64 _, .int .i64 _, .slice _ _ _, .slice _ _ _, .slice _ _ _, .slice _ _ _]) (cs := [_, _, _, _, _, _, _, _, _]) rfl rfl fun b3 hb3 => ?_
 refine qN [_] rfl ?_
 refine qA (qD (v := .bool _) rfl) ?_
 refine qE ?_
 refine qB rfl ?_
 refine wO 0 (vs := [.int .i64 _, .int .i64 _, .int .i64 _, .int .i64 _, .int .i64 _, .slice _ _ _, .slice _ _ _, .slice _ _ _, .slice _ _ _]) rfl rfl rfl rfl rfl ?_
 refine qA (qC (v := .slice _ _ _) rfl) ?_
 refine wJ (caps := []) (vs := [.agg #[.int .i64 _, .int .i64 _, .int .i64 _, .int .i64 _, .int .i64 _, .slice _ _ _, .slice _ _ _, .slice _ _ _, .slice _ _ _], .slice _ _ _]) rfl rfl rfl (broken_ok m M l hf hl AB AQ AL AW AF cB cQ cL cW cF h (RM.ext (Ext.refl _)) (RF.ext (Ext.refl _))) ?_
 rintro _ h5 E5 ⟨z1, z2, z3, z4, rfl, B⟩
 refine zE (cs := [_]) rfl rfl fun b7 hb7 => ?_
 refine qN [_, _] rfl ?_
 refine qY 1 (v := _) (vs := [_]) (c' := [_]) rfl rfl rfl rfl rfl rfl rfl rfl rfl ?_
 refine qN [_, _] rfl ?_
 refine qE ?_
 refine qB rfl ?_
 refine qA (qC (v := .slice _ _ _) rfl) ?_
 refine qA (pv_makeFunc (vs := []) (ws := [_]) rfl rfl) ?_
 refine wp_pub 1 rfl rfl ?_
 intro h6 E6 hb7
 refine qN [_, _] rfl ?_
 refine wJ (caps := []) (vs := [.slice UA hs.length cU, expY b7]) rfl rfl rfl (containsFunc_ok hph m M l hf hs X hl2 b7 (brkY z1 z2 z3 z4) UA cU cs h6 (cell_blk hb7) ⟨z1, z2, z3, z4, rfl, B.ext E6⟩ (R.ext (zL E5 E6)) (EL.ext TU.mono (zL E5 E6))) ?_
 rintro _ h7 E7 rfl
 refine qA (qK (v := .bool _) rfl) ?_
 refine qA (qD (v := .bool _) rfl) ?_
 refine qQ ?_
 refine qM (vs := [_]) Tryz.results67 ⟨qJ rfl rfl, trivial⟩ fun V => ?_
 exact ⟨(zL (zL (zL E5 E6) E7) (qR V)), rfl⟩
end
end Go.Proofs.YtmpahfdiebhdbaaGreatDoor
namespace Go.Proofs.YtmpahfdiebhdbaaGreatDoor
open Go Go.HL Go.Proofs Go.Wx Go.Rd
section
variable [Lvl]
set_option maxRecDepth 100000
def heard1M (m : MachP) (x : HeardP) : Int := if checkHandM m x.hand ≠ 0 then checkHandM m x.hand else checkSetM x.sounds m.levers
def checkHeardM (m : MachP) (hs : List HeardP) : Int := if chkM m ≠ 0 then chkM m else if hs.length > 5 then 6 else firstErr (heard1M m) hs
theorem checkHeard_zero {m : MachP} {hs : List HeardP} (h : checkHeardM m hs = 0) : MOK m ∧ hs.length ≤ 5 ∧ ∀ x ∈ hs, HeardOK m x := by
 unfold checkHeardM at h
 obtain ⟨a1, h⟩ := peel h (fun x => x)
 obtain ⟨a2, h⟩ := peel h (fun _ => by decide)
 have h3 := firstErr_zero h
 refine ⟨check_ok (by simpa using a1), by omega, fun x hx => ?_⟩
 have h4 := h3 x hx
 unfold heard1M at h4
 obtain ⟨a3, h4⟩ := peel h4 (fun x => x)
 exact ⟨(checkHand_ok0 (by simpa using a3)).2, checkSet_iff.1 h4⟩
def HLen (hs : List HeardP) : Prop := hs.length < 2 ^ 40 ∧ ∀ x ∈ hs, x.hand.buttons.length < 2 ^ 40 ∧ x.hand.on.length < 2 ^ 40 ∧ x.sounds.length < 2 ^ 40
theorem checkHeard_ok (m : MachP) (hs : List HeardP) (HN : HLen hs) (AB AQ AL AW UA : Option Addr) (cB cQ cL cW cU : Nat) (cs : List (List Value)) (h : AH) (RM : MachR h AB AQ AL AW m) (h0 : m.weights.length < 2 ^ 40) (R : Row h 3 id UA cs) (EL : Els h TU hs cs) :
  FnT Tryz.prog 46 #[machV AB AQ AL AW cB cQ cL cW m, .slice UA hs.length cU] h (fun v _ => v = .int .i64 (checkHeardM m hs)) := by
 have hn1 := HN.1
 refine wH Tryz.func46 rfl Tryz.ntmps46 rfl ?_
 refine qE ?_
 refine qB rfl ?_
 refine op_box (v := .agg #[.int .i64 _, .int .i64 _, .int .i64 _, .int .i64 _, .int .i64 _, .slice _ _ _, .slice _ _ _, .slice _ _ _, .slice _ _ _]) (cs := [_, _, _, _, _, _, _, _, _]) rfl rfl fun b2 hb2 => ?_
 refine qN [_] rfl ?_
 refine qA (qD (v := .int .i64 _) rfl) ?_
 refine qE ?_
 refine qE ?_
 refine qB rfl ?_
 refine wO 0 (vs := [.int .i64 _, .int .i64 _, .int .i64 _, .int .i64 _, .int .i64 _, .slice _ _ _, .slice _ _ _, .slice _ _ _, .slice _ _ _]) rfl rfl rfl rfl rfl ?_
 refine wJ (caps := []) (vs := [.agg #[.int .i64 _, .int .i64 _, .int .i64 _, .int .i64 _, .int .i64 _, .slice _ _ _, .slice _ _ _, .slice _ _ _, .slice _ _ _]]) rfl rfl rfl (Check_ok m AB AQ AL AW cB cQ cL cW h (RM.ext (Ext.refl _)) h0) ?_
 rintro _ h1 E1 rfl
 refine qA (qD (v := .int .i64 _) rfl) ?_
 refine qE ?_
 refine qB rfl ?_
 refine qA (qC (v := .int .i64 _) rfl) ?_
 refine qA (qK (v := .bool _) rfl) ?_
 refine qP rfl (fun hc => ?_) (fun hc => ?_)
 ·skip
  have hc' : chkM m ≠ 0 := by simpa using hc
  refine qE ?_
  refine qB rfl ?_
  refine qA (qC (v := .int .i64 _) rfl) ?_
  refine qA (qD (v := .int .i64 _) rfl) ?_
  refine qQ ?_
  refine qM (vs := [_]) Tryz.results46 ⟨qJ rfl rfl, trivial⟩ fun V => ?_
  exact ⟨(zL E1 (qR V)), intE (by rw [checkHeardM, if_pos hc'])⟩
 ·skip
  have hc' : chkM m = 0 := by simpa using hc
  have lv := (check_ok hc').levers
  refine qO ?_
  refine qE ?_
  refine qE ?_
  refine qB rfl ?_
  refine qA (qC (v := .slice _ _ _) rfl) ?_
  refine qA (wP rfl rfl) ?_
  refine qA (qK (v := .bool _) rfl) ?_
  refine qP rfl (fun h5 => ?_) (fun h5 => ?_)
  ·skip
   have h5' : hs.length > 5 := by simp at h5; omega
   refine qE ?_
   refine qB rfl ?_
   refine qA (qD (v := .int .i64 _) rfl) ?_
   refine qQ ?_
   refine qM (vs := [_]) Tryz.results46 ⟨qJ rfl rfl, trivial⟩ fun V => ?_
   exact ⟨(zL E1 (qR V)), intE (by rw [checkHeardM, if_neg (by simp [hc']), if_pos h5'])⟩
  ·skip
   have h5' : ¬ hs.length > 5 := by simp at h5; omega
   have C : checkHeardM m hs = firstErr (heard1M m) hs := by rw [checkHeardM, if_neg (by simp [hc']), if_neg h5']
   refine qO ?_
   refine qE ?_
   refine qE ?_
   refine qB rfl ?_
   refine qA (qC (v := .slice _ _ _) rfl) ?_
   refine qA (wP rfl rfl) ?_
   refine qA (qC (v := .int .i64 _) rfl) ?_
   refine qT ?_
   refine zH [4, 7, 8, 9, 20, 21, 22, 23, 24, 25, 26, 27, 28, 29, 30, 31, 32, 33, 34, 35, 36, 37, 38, 39] 1 (α := Nat) (fun k => [(20, .int .i64 k)]) (fun k => _) (fun k h_k => k ≤ hs.length ∧ firstErr (heard1M m) (hs.take k) = 0) (fun k => hs.length - k) (0) ⟨rfl, trivial⟩ (rfl) (⟨Nat.zero_le _, rfl⟩) ?_
   rintro k T1 h_k E_k J_k
   refine qU [_] rfl ?_
   obtain ⟨K1, K2⟩ := J_k
   refine qE ?_
   refine qB rfl ?_
   refine qA (qK (v := .bool _) rfl) ?_
   refine qE ?_
   refine qP rfl (fun hk => ?_) (fun hk => ?_)
   ·skip
    have hkl : k < hs.length := ltI hk
    obtain ⟨l1, l2, l3⟩ := HN.2 _ (List.getElem_mem hkl)
    obtain ⟨hkc, B0, O0, U0, e0, ⟨HA, cH, rfl, r1⟩, ⟨OA, cO, rfl, r2⟩, ⟨XA, cX, rfl, r3⟩⟩ := (EL.ext TU.mono (zL E1 E_k)).at hkl
    obtain ⟨g, off, hA, hc⟩ := (R.ext (zL E1 E_k)).at (by omega) hkc
    have hc : Cells h_k g (off + k * 3) [.slice HA hs[k].hand.buttons.length cH, .slice OA hs[k].hand.on.length cO, .slice XA hs[k].sounds.length cX] := by rw [← e0]; exact hc
    refine qO ?_
    refine qE ?_
    refine qT ?_
    refine qE ?_
    refine qB rfl ?_
    refine qA (wD rfl hA rfl rfl rfl (by omega) (by omega)) ?_
    refine op_loadA rfl rfl rfl rfl (hc) ?_
    refine zE (cs := [_, _, _]) rfl rfl fun b7 hb7 => ?_
    refine qN [_, _] rfl ?_
    refine qY 1 (v := .agg #[.slice _ _ _, .slice _ _ _, .slice _ _ _]) (vs := [_, _, _]) (c' := [_, _, _]) rfl rfl rfl rfl rfl rfl rfl rfl rfl ?_
    refine qN [_, _] rfl ?_
    refine qE ?_
    refine qE ?_
    refine qB rfl ?_
    refine wO 0 (vs := [.int .i64 _, .int .i64 _, .int .i64 _, .int .i64 _, .int .i64 _, .slice _ _ _, .slice _ _ _, .slice _ _ _, .slice _ _ _]) rfl rfl rfl rfl rfl ?_
    refine qA (qG rfl rfl rfl rfl 0 rfl) ?_
    refine wO 1 (vs := [.slice _ _ _, .slice _ _ _]) rfl rfl rfl rfl rfl ?_
    refine wJ (caps := []) (vs := [.agg #[.int .i64 _, .int .i64 _, .int .i64 _, .int .i64 _, .int .i64 _, .slice _ _ _, .slice _ _ _, .slice _ _ _, .slice _ _ _], .agg #[.slice _ _ _, .slice _ _ _]]) rfl rfl rfl (checkHand_ok m hs[k].hand AB AQ AL AW HA OA cB cQ cL cW cH cO h_k (RM.ext (zL E1 E_k)) ⟨r1, r2⟩ h0 l1 l2) ?_
    rintro _ h3 E3 rfl
    refine qA (qD (v := .int .i64 _) rfl) ?_
    refine qE ?_
    refine qB rfl ?_
    refine qA (qC (v := .int .i64 _) rfl) ?_
    refine qA (qK (v := .bool _) rfl) ?_
    refine qP rfl (fun hw => ?_) (fun hw => ?_)
    ·skip
     have hw' : checkHandM m hs[k].hand ≠ 0 := by simpa using hw
     have ew : heard1M m hs[k] = checkHandM m hs[k].hand := by rw [heard1M, if_pos hw']
     refine qE ?_
     refine qB rfl ?_
     refine qA (qC (v := .int .i64 _) rfl) ?_
     refine qA (qD (v := .int .i64 _) rfl) ?_
     refine qQ ?_
     refine qM (vs := [_]) Tryz.results46 ⟨qJ rfl rfl, trivial⟩ fun V => ?_
     refine ⟨(zL (zL (zL E1 E_k) E3) (qR V)), intE ?_⟩
     rw [C, zG hkl K2 (by rw [ew]; exact hw'), ew]
    ·skip
     have hw' : checkHandM m hs[k].hand = 0 := by simpa using hw
     have ew : heard1M m hs[k] = checkSetM hs[k].sounds m.levers := by rw [heard1M, if_neg (by simp [hw'])]
     refine qO ?_
     refine qE ?_
     refine qB rfl ?_
     refine qA (qG rfl rfl rfl rfl 2 rfl) ?_
     refine qL 1 (v := .slice _ _ _) rfl rfl rfl rfl ?_
     refine qA (qG rfl rfl rfl rfl 1 rfl) ?_
     refine qL 0 (v := .int .i64 _) rfl rfl rfl rfl ?_
     refine wJ (caps := []) (vs := [.slice _ _ _, .int .i64 _]) rfl rfl rfl (checkSet_ok hs[k].sounds m.levers (by omega) XA cX h3 (r3.ext E3) l3) ?_
     rintro _ h4 E4 rfl
     refine qA (qD (v := .int .i64 _) rfl) ?_
     refine qE ?_
     refine qB rfl ?_
     refine qA (qC (v := .int .i64 _) rfl) ?_
     refine qA (qK (v := .bool _) rfl) ?_
     refine qP rfl (fun hz => ?_) (fun hz => ?_)
     ·skip
      have hz' : checkSetM hs[k].sounds m.levers ≠ 0 := by simpa using hz
      refine qE ?_
      refine qB rfl ?_
      refine qA (qC (v := .int .i64 _) rfl) ?_
      refine qA (qD (v := .int .i64 _) rfl) ?_
      refine qQ ?_
      refine qM (vs := [_]) Tryz.results46 ⟨qJ rfl rfl, trivial⟩ fun V => ?_
      refine ⟨(zL (zL (zL (zL E1 E_k) E3) E4) (qR V)), intE ?_⟩
      rw [C, zG hkl K2 (by rw [ew]; exact hz'), ew]
     ·skip
      have hz' : checkSetM hs[k].sounds m.levers = 0 := by simpa using hz
      refine qO ?_
      refine qB rfl ?_
      refine qA (qS rfl (by omega)) ?_
      refine qA (qC (v := .int .i64 _) rfl) ?_
      refine ⟨k + 1, ⟨rfl, trivial⟩, rfl, rfl, (zL (zL E_k E3) E4), fun h3 E3 => ⟨hkl, firstErr_go hkl K2 (by rw [ew, hz'])⟩, by first | omega | (dsimp only; omega), ?_⟩
      repeat (first | exact qW _ _ _ | refine wA (by decide) ?_ | refine qV rfl ?_ | refine wB rfl ?_)
   ·skip
    have hke : k = hs.length := by have := geI hk; omega
    subst hke
    rw [List.take_length] at K2
    refine wS ?_
    refine qE ?_
    refine qB rfl ?_
    refine qA (qD (v := .int .i64 _) rfl) ?_
    refine qQ ?_
    refine qM (vs := [_]) Tryz.results46 ⟨qJ rfl rfl, trivial⟩ fun V => ?_
    exact ⟨(zL (zL E1 E_k) (qR V)), intE (by rw [C, K2])⟩
def suspN (m : MachP) (hs : List HeardP) : Nat → List Int
 | 0 => if explainsB m [] hs then [-1] else []
 | k + 1 => match (faultsM m)[k]? with
  | some f => if explainsB m [f] hs then suspN m hs k ++ [(k : Int)] else suspN m hs k
  | none => suspN m hs k
def suspectsM (m : MachP) (hs : List HeardP) : List Int := suspN m hs (faultsM m).length
theorem suspN_len (m : MachP) (hs : List HeardP) : ∀ k, (suspN m hs k).length ≤ k + 1
 | 0 => by unfold suspN; split <;> simp
 | k + 1 => by
  have := suspN_len m hs k
  unfold suspN
  split
  ·split
   ·rw [List.length_append]; simp; omega
   ·omega
  ·omega
theorem fsN_mem {c : Nat → FaultP} {k : Nat} {f : FaultP} (h : f ∈ fsN c k) : ∃ i, i < k ∧ f = c i := by
 unfold fsN at h
 obtain ⟨i, hi, e⟩ := List.mem_map.1 h
 exact ⟨i, List.mem_range.1 hi, e.symm⟩
theorem faults_fok {m : MachP} (M : MOK m) {f : FaultP} (h : f ∈ faultsM m) : FOK m f := by
 have := M.levers
 unfold faultsM fs3 fs2 fs1 at h
 simp only [List.mem_append] at h
 rcases h with ((h | h) | h) | h <;> obtain ⟨i, hi, rfl⟩ := fsN_mem h
 ·show (i : Int) < m.levers; omega
 ·show (i : Int) < m.levers; omega
 ·exact hi
 ·exact hi
theorem fill_fault (f : FaultP) : fillL (fun i => some (i * 1, 1)) ((List.range (1 * 1)).map fun i => ([Value.nilIface] : List Value)[i % ([Value.nilIface] : List Value).length]!) [(0, faultV f)] = some [faultV f] := by cases f <;> rfl
theorem row_f1 {h : AH} {b : Nat} {f : FaultP} {v : Value} {e : TypeId} {q : Nat × Nat} (hv : v = faultV f) (hb : h b = some (.cells #[v] e q)) : Row h 1 faultC (some ⟨b, 0, none⟩) [f] :=
 ⟨fun _ _ => rfl, fun _ => ⟨b, 0, rfl, cellsB (cs := [faultV f]) (by rw [← hv]; exact hb)⟩⟩
theorem suspects_ok (hph : Lvl.ph = true) (m : MachP) (M : MOK m) (hs : List HeardP) (X : ∀ x ∈ hs, HeardOK m x) (hl2 : hs.length < 2 ^ 40) (AB AQ AL AW UA : Option Addr) (cB cQ cL cW cU : Nat) (cs : List (List Value)) (h : AH) (RM : MachR h AB AQ AL AW m) (R : Row h 3 id UA cs) (EL : Els h TU hs cs) :
  FnT Tryz.prog 47 #[machV AB AQ AL AW cB cQ cL cW m, .slice UA hs.length cU] h (fun v h' => SlR h' 1 intC (suspectsM m hs) v) := by
 have lv := M.levers
 have pl := M.pl
 have ll := M.ll
 have fl := faults_len m
 refine wH Tryz.func47 rfl Tryz.ntmps47 rfl ?_
 refine qE ?_
 refine qB rfl ?_
 refine op_box (v := .agg #[.int .i64 _, .int .i64 _, .int .i64 _, .int .i64 _, .int .i64 _, .slice _ _ _, .slice _ _ _, .slice _ _ _, .slice _ _ _]) (cs := [_, _, _, _, _, _, _, _, _]) rfl rfl fun b2 hb2 => ?_
 refine qN [_] rfl ?_
 refine qA (qD (v := .slice _ _ _) rfl) ?_
 refine qE ?_
 refine qB rfl ?_
 refine qA (qD (v := .slice _ _ _) rfl) ?_
 refine goes_more ?_
 refine qU [_, _] rfl ?_
 refine xp_cutB [5, 8, 9, 10, 11, 12, 13] 2 (α := Acc) (fun a => [(5, .slice a.A a.n a.c)]) (fun a L => L.set 1 (a.p)) (fun a h_a => AccR 3 1 ((suspN m hs 0).flatMap intC) a) ?_ ?_
 ·skip
  refine qE ?_
  refine qB rfl ?_
  refine wO 0 (vs := [.int .i64 _, .int .i64 _, .int .i64 _, .int .i64 _, .int .i64 _, .slice _ _ _, .slice _ _ _, .slice _ _ _, .slice _ _ _]) rfl rfl rfl rfl rfl ?_
  refine qA (qC (v := .slice _ _ _) rfl) ?_
  refine wJ (caps := []) (vs := [.agg #[.int .i64 _, .int .i64 _, .int .i64 _, .int .i64 _, .int .i64 _, .slice _ _ _, .slice _ _ _, .slice _ _ _, .slice _ _ _], .slice _ _ _, .slice _ _ _]) rfl rfl rfl (explains_ok hph m M [] (fun f hf => absurd hf List.not_mem_nil) (by decide) hs X hl2 AB AQ AL AW none UA cB cQ cL cW 0 cU cs h (RM.ext (Ext.refl _)) ⟨fun _ hx => absurd hx List.not_mem_nil, Rd.nil _ _⟩ (R.ext (Ext.refl _)) (EL.ext TU.mono (Ext.refl _))) ?_
  rintro _ h1 E1 rfl
  refine qP rfl (fun hx => ?_) (fun hx => ?_)
  ·skip
   refine qB rfl ?_
   refine qA (qC (v := .slice _ _ _) rfl) ?_
   refine qX (zc := [_]) (vs := [(0, .int .i64 _)]) (cs := [_]) rfl rfl rfl rfl rfl rfl rfl fun b12 hb12 => ?_
   refine qN [_, _, _] rfl ?_
   have ac0 : AccR 3 1 [] acc0 := accR0
   refine zA 1 ac0 rfl rfl rfl (fun V => rdP V (i := 2) rfl) rfl rfl rfl rfl rfl rfl rfl rfl rfl (by omega) rfl (by simp) fun a2 h2a E2a ha2 => ?_
   refine qN [_, _, _] rfl ?_
   refine qA (qD (v := .slice _ _ _) rfl) ?_
   refine ⟨a2, ⟨rfl, trivial⟩, rfl, rfl, (zL E1 E2a), fun h3 E3 => by rw [suspN, if_pos hx]; exact ha2, ?_⟩
   repeat (first | exact wQ _ _ | exact qW _ _ _ | refine wA (by decide) ?_ | refine qV rfl ?_ | refine wB rfl ?_)
  ·skip
   refine qO ?_
   refine ⟨acc0, ⟨rfl, trivial⟩, rfl, rfl, E1, fun h3 E3 => by rw [suspN, if_neg (by simp [hx])]; exact accR0, ?_⟩
   repeat (first | exact wQ _ _ | exact qW _ _ _ | refine wA (by decide) ?_ | refine qV rfl ?_ | refine wB rfl ?_)
 ·rintro a T1 h_a E_a J_a
  refine qU [_, _] rfl ?_
  refine qE ?_
  refine qE ?_
  refine qB rfl ?_
  refine wO 0 (vs := [.int .i64 _, .int .i64 _, .int .i64 _, .int .i64 _, .int .i64 _, .slice _ _ _, .slice _ _ _, .slice _ _ _, .slice _ _ _]) rfl rfl rfl rfl rfl ?_
  refine wJ (caps := []) (vs := [.agg #[.int .i64 _, .int .i64 _, .int .i64 _, .int .i64 _, .int .i64 _, .slice _ _ _, .slice _ _ _, .slice _ _ _, .slice _ _ _]]) rfl rfl rfl (faults_ok m (by omega) (by omega) (by omega) AB AQ AL AW cB cQ cL cW h_a) ?_
  rintro _ h2 E2 ⟨FA, cF, rfl, RF⟩
  have hfok : ∀ f ∈ faultsM m, FOK m f := fun f hf => faults_fok M hf
  obtain ⟨fs, hfs⟩ : ∃ fs, fs = faultsM m := ⟨_, rfl⟩
  have hS : suspectsM m hs = suspN m hs fs.length := by rw [suspectsM, hfs]
  rw [hS]
  rw [← hfs] at RF fl hfok ⊢
  refine qA (wP rfl rfl) ?_
  refine qA (qC (v := .int .i64 _) rfl) ?_
  refine qT ?_
  refine xp_loopL [5, 6, 7, 17, 18, 19, 20, 21, 22, 23, 24, 25, 26, 27, 28, 29, 30, 31] 2 (α := Nat × Acc) (fun ⟨k, a⟩ => [(5, .slice a.A a.n a.c), (17, .int .i64 k)]) (fun ⟨k, a⟩ L => L.set 1 (a.p)) (fun ⟨k, a⟩ h_k => k ≤ fs.length ∧ AccR 3 1 ((suspN m hs k).flatMap intC) a) (fun ⟨k, a⟩ => fs.length - k) ((0, a)) ⟨rfl, rfl, trivial⟩ (rfl) (⟨Nat.zero_le _, J_a⟩) ?_
  rintro ⟨k, a⟩ T3 h_k E_k J_k
  refine qU [_, _] rfl ?_
  obtain ⟨K1, K2⟩ := J_k
  refine qE ?_
  refine qB rfl ?_
  refine qA (qK (v := .bool _) rfl) ?_
  refine qE ?_
  refine qP rfl (fun hk => ?_) (fun hk => ?_)
  ·skip
   have hkl : k < fs.length := ltI hk
   obtain ⟨g, off, hA, hc⟩ := (RF.ext E_k).at (by omega) hkl
   have hfk := hfok _ (List.getElem_mem hkl)
   have hgk : (faultsM m)[k]? = some fs[k] := by rw [← hfs]; exact List.getElem?_eq_getElem hkl
   refine qO ?_
   refine qE ?_
   refine qT ?_
   refine qE ?_
   refine qB rfl ?_
   refine qA (qC (v := .int .i64 _) rfl) ?_
   refine qA (wD rfl hA rfl rfl rfl (by omega) (by omega)) ?_
   refine wL (v := _) rfl rfl ((hc) 0 _ rfl) ?_
   refine qA (qD (v := .int .i64 _) rfl) ?_
   refine qA (qD (v := _) rfl) ?_
   refine qE ?_
   refine qB rfl ?_
   refine wO 0 (vs := [.int .i64 _, .int .i64 _, .int .i64 _, .int .i64 _, .int .i64 _, .slice _ _ _, .slice _ _ _, .slice _ _ _, .slice _ _ _]) rfl rfl rfl rfl rfl ?_
   refine qA (qC (v := _) rfl) ?_
   refine qX (m := 1) (zc := [.nilIface]) (vs := [(0, faultV fs[k])]) (cs := [faultV fs[k]]) rfl rfl rfl rfl rfl rfl (fill_fault _) fun b24 hb24 => ?_
   refine qN [_, _, _] rfl ?_
   refine qA (qC (v := .slice _ _ _) rfl) ?_
   refine wp_pub 2 rfl rfl ?_
   intro h3 E3 hb24
   refine qN [_, _, _] rfl ?_
   refine wJ (caps := []) (vs := [.agg #[.int .i64 _, .int .i64 _, .int .i64 _, .int .i64 _, .int .i64 _, .slice _ _ _, .slice _ _ _, .slice _ _ _, .slice _ _ _], .slice _ _ _, .slice _ _ _]) rfl rfl rfl (explains_ok hph m M [fs[k]] (fun f hf => by simp at hf; subst hf; exact hfk) (by show 1 < 2 ^ 20; decide) hs X hl2 AB AQ AL AW (some ⟨b24, 0, none⟩) UA cB cQ cL cW 1 cU cs h3 (RM.ext (zL (zL (zL E_a E2) E_k) E3)) (row_f1 rfl hb24) (R.ext (zL (zL (zL E_a E2) E_k) E3)) (EL.ext TU.mono (zL (zL (zL E_a E2) E_k) E3))) ?_
   rintro _ h4 E4 rfl
   refine qP rfl (fun hx => ?_) (fun hx => ?_)
   ·skip
    refine qB rfl ?_
    refine qA (qC (v := .slice _ _ _) rfl) ?_
    refine qA (qC (v := .int .i64 _) rfl) ?_
    refine qX (zc := [_]) (vs := [(0, .int .i64 _)]) (cs := [_]) rfl rfl rfl rfl rfl rfl rfl fun b29 hb29 => ?_
    refine qN [_, _, _, _] rfl ?_
    refine zA 1 K2 rfl rfl rfl (fun V => rdP V (i := 3) rfl) rfl rfl rfl rfl rfl rfl rfl rfl rfl (by omega) rfl (by rw [wU (m := 1) (fun _ _ => rfl)]; have := suspN_len m hs k; simp; omega) fun a2 h4a E4a ha2 => ?_
    refine qN [_, _, _, _] rfl ?_
    refine qA (qD (v := .slice _ _ _) rfl) ?_
    refine qB rfl ?_
    refine qA (qS rfl (by omega)) ?_
    refine qA (qC (v := .int .i64 _) rfl) ?_
    refine ⟨(k + 1, a2), ⟨rfl, rfl, trivial⟩, rfl, rfl, (zL (zL (zL E_k E3) E4) E4a), fun h3 E3 => ⟨hkl, by rw [suspN, hgk]; simp only; rw [if_pos hx, List.flatMap_append]; exact ha2⟩, by first | omega | (dsimp only; omega), ?_⟩
    repeat (first | exact qW _ _ _ | refine wA (by decide) ?_ | refine qV rfl ?_ | refine wB rfl ?_)
   ·skip
    refine qO ?_
    refine qB rfl ?_
    refine qA (qS rfl (by omega)) ?_
    refine qA (qC (v := .int .i64 _) rfl) ?_
    refine ⟨(k + 1, a), ⟨rfl, rfl, trivial⟩, rfl, rfl, (zL (zL E_k E3) E4), fun h3 E3 => ⟨hkl, by rw [suspN, hgk]; simp only; rw [if_neg (by simp [hx])]; exact K2⟩, by first | omega | (dsimp only; omega), ?_⟩
    repeat (first | exact qW _ _ _ | refine wA (by decide) ?_ | refine qV rfl ?_ | refine wB rfl ?_)
  ·skip
   have hke : k = fs.length := by have := geI hk; omega
   subst hke
   refine wS ?_
   refine qE ?_
   refine qB rfl ?_
   refine qA (qC (v := .slice _ _ _) rfl) ?_
   refine qA (qD (v := .slice _ _ _) rfl) ?_
   refine qQ ?_
   refine qM (vs := [_]) Tryz.results47 ⟨qJ rfl rfl, trivial⟩ fun V => ?_
   exact ⟨(zL (zL (zL E_a E2) E_k) (qR V)), AccP.row (i := 1) K2 (by omega) (fun _ _ => rfl) V rfl⟩
def suspE (m : MachP) (hs : List HeardP) : Int := if checkHeardM m hs ≠ 0 then checkHeardM m hs else if (suspectsM m hs).length = 0 then 11 else 0
def suspL (m : MachP) (hs : List HeardP) : List Int := if suspE m hs = 0 then suspectsM m hs else []
theorem Suspects_ok (hph : Lvl.ph = true) (m : MachP) (hs : List HeardP) (HN : HLen hs) (AB AQ AL AW UA : Option Addr) (cB cQ cL cW cU : Nat) (cs : List (List Value)) (h : AH) (RM : MachR h AB AQ AL AW m) (h0 : m.weights.length < 2 ^ 40) (R : Row h 3 id UA cs) (EL : Els h TU hs cs) :
  FnT Tryz.prog 20 #[machV AB AQ AL AW cB cQ cL cW m, .slice UA hs.length cU] h (fun v h' => ∃ L, v = .tuple #[L, .int .i64 (suspE m hs)] ∧ SlR h' 1 intC (suspL m hs) L) := by
 refine wH Tryz.func20 rfl Tryz.ntmps20 rfl ?_
 refine qE ?_
 refine qB rfl ?_
 refine op_box (v := .agg #[.int .i64 _, .int .i64 _, .int .i64 _, .int .i64 _, .int .i64 _, .slice _ _ _, .slice _ _ _, .slice _ _ _, .slice _ _ _]) (cs := [_, _, _, _, _, _, _, _, _]) rfl rfl fun b2 hb2 => ?_
 refine qN [_] rfl ?_
 refine qA (qD (v := .slice _ _ _) rfl) ?_
 refine qA (qD (v := .int .i64 _) rfl) ?_
 refine qE ?_
 refine qE ?_
 refine qB rfl ?_
 refine wO 0 (vs := [.int .i64 _, .int .i64 _, .int .i64 _, .int .i64 _, .int .i64 _, .slice _ _ _, .slice _ _ _, .slice _ _ _, .slice _ _ _]) rfl rfl rfl rfl rfl ?_
 refine qA (qC (v := .slice _ _ _) rfl) ?_
 refine wJ (caps := []) (vs := [.agg #[.int .i64 _, .int .i64 _, .int .i64 _, .int .i64 _, .int .i64 _, .slice _ _ _, .slice _ _ _, .slice _ _ _, .slice _ _ _], .slice _ _ _]) rfl rfl rfl (checkHeard_ok m hs HN AB AQ AL AW UA cB cQ cL cW cU cs h (RM.ext (Ext.refl _)) h0 (R.ext (Ext.refl _)) (EL.ext TU.mono (Ext.refl _))) ?_
 rintro _ h3 E3 rfl
 refine qA (qD (v := .int .i64 _) rfl) ?_
 refine qE ?_
 refine qB rfl ?_
 refine qA (qC (v := .int .i64 _) rfl) ?_
 refine qA (qK (v := .bool _) rfl) ?_
 refine qP rfl (fun hc => ?_) (fun hc => ?_)
 ·skip
  have hc' : checkHeardM m hs ≠ 0 := by simpa using hc
  have e : suspE m hs = checkHeardM m hs := by rw [suspE, if_pos hc']
  refine qE ?_
  refine qB rfl ?_
  refine qA (qC (v := .int .i64 _) rfl) ?_
  refine qA (qD (v := .slice _ _ _) rfl) ?_
  refine qA (qD (v := .int .i64 _) rfl) ?_
  refine qQ ?_
  refine qM (vs := [_, _]) Tryz.results20 ⟨qJ rfl rfl, qJ rfl rfl, trivial⟩ fun V => ?_
  refine ⟨(zL E3 (qR V)), .slice none 0 0, by rw [e]; rfl, ?_⟩
  rw [suspL, e, if_neg hc']
  exact ⟨none, 0, rfl, fun _ _ => rfl, Rd.nil _ _⟩
 ·skip
  have hc' : checkHeardM m hs = 0 := by simpa using hc
  obtain ⟨M, hl5, X⟩ := checkHeard_zero hc'
  refine qO ?_
  refine qE ?_
  refine qB rfl ?_
  refine wO 0 (vs := [.int .i64 _, .int .i64 _, .int .i64 _, .int .i64 _, .int .i64 _, .slice _ _ _, .slice _ _ _, .slice _ _ _, .slice _ _ _]) rfl rfl rfl rfl rfl ?_
  refine qA (qC (v := .slice _ _ _) rfl) ?_
  refine wJ (caps := []) (vs := [.agg #[.int .i64 _, .int .i64 _, .int .i64 _, .int .i64 _, .int .i64 _, .slice _ _ _, .slice _ _ _, .slice _ _ _, .slice _ _ _], .slice _ _ _]) rfl rfl rfl (suspects_ok hph m M hs X HN.1 AB AQ AL AW UA cB cQ cL cW cU cs h3 (RM.ext E3) (R.ext E3) (EL.ext TU.mono E3)) ?_
  rintro _ h4 E4 ⟨SA, cS, rfl, RS⟩
  refine qA (qD (v := .slice _ _ _) rfl) ?_
  refine qE ?_
  refine qE ?_
  refine qB rfl ?_
  refine qA (qC (v := .slice _ _ _) rfl) ?_
  refine qA (wP rfl rfl) ?_
  refine qA (qK (v := .bool _) rfl) ?_
  refine qP rfl (fun hz => ?_) (fun hz => ?_)
  ·skip
   have hz' : (suspectsM m hs).length = 0 := by simpa using hz
   have e : suspE m hs = 11 := by rw [suspE, if_neg (by simp [hc']), if_pos hz']
   refine qE ?_
   refine qB rfl ?_
   refine qA (qD (v := .slice _ _ _) rfl) ?_
   refine qA (qD (v := .int .i64 _) rfl) ?_
   refine qQ ?_
   refine qM (vs := [_, _]) Tryz.results20 ⟨qJ rfl rfl, qJ rfl rfl, trivial⟩ fun V => ?_
   refine ⟨(zL (zL E3 E4) (qR V)), .slice none 0 0, by rw [e]; rfl, ?_⟩
   rw [suspL, e, if_neg (by decide)]
   exact ⟨none, 0, rfl, fun _ _ => rfl, Rd.nil _ _⟩
  ·skip
   have hz' : ¬ (suspectsM m hs).length = 0 := by simpa using hz
   have e : suspE m hs = 0 := by rw [suspE, if_neg (by simp [hc']), if_neg hz']
   refine qO ?_
   refine qE ?_
   refine qB rfl ?_
   refine qA (qC (v := .slice _ _ _) rfl) ?_
   refine qA (qD (v := .slice _ _ _) rfl) ?_
   refine qA (qD (v := .int .i64 _) rfl) ?_
   refine qQ ?_
   refine qM (vs := [_, _]) Tryz.results20 ⟨qJ rfl rfl, qJ rfl rfl, trivial⟩ fun V => ?_
   refine ⟨(zL (zL E3 E4) (qR V)), .slice SA (suspectsM m hs).length cS, by rw [e]; rfl, ?_⟩
   rw [suspL, e, if_pos rfl]
   exact ⟨SA, cS, rfl, RS.ext (qR V)⟩
end
end Go.Proofs.YtmpahfdiebhdbaaGreatDoor
namespace Go.Proofs.YtmpahfdiebhdbaaGreatDoor
open Go Go.HL Go.Proofs Go.Wx Go.Rd
section
variable [Lvl]
set_option maxRecDepth 100000
theorem intP2 (x : Int) : (intC x).all plainB = true := rfl
theorem cloneIntF (l : List Int) (A : Option Addr) (c : Nat) (h : AH) (R : Row h 1 intC A l) (hl : l.length < 2 ^ 20) :
  FnM Tryz.prog (.func (.func 88) #[] ([] : List Value).toArray) [.slice A l.length c] h [] (fun v h' M' => ∃ p, M' = [p] ∧ ∃ a : Acc, p = a.p ∧ v = .slice a.A a.n a.c ∧ AccR 3 1 (l.flatMap intC) a) := by
 cases A with
 | none =>
  have h0 := R.none_nil (by omega)
  subst h0
  refine fnM_body rfl rfl Tryz.func88 rfl Tryz.ntmps88 rfl ?_
  refine qE ?_
  refine qB rfl ?_
  refine qA (qD (v := .slice _ _ _) rfl) ?_
  refine qE ?_
  refine qE ?_
  refine qB rfl ?_
  refine qA (qC (v := .slice _ _ _) rfl) ?_
  refine qA (qK (v := .bool _) rfl) ?_
  refine qP rfl (fun ht => ?_) (fun ht => ?_)
  ·skip
   refine qE ?_
   refine qB rfl ?_
   refine qA (qD (v := .slice _ _ _) rfl) ?_
   refine qQ ?_
   refine qM (vs := [_]) Tryz.results88 ⟨qJ rfl rfl, trivial⟩ fun V => ?_
   exact ⟨_, [none], rfl, V, (Ext.refl _), none, rfl, acc0, rfl, rfl, accR0⟩
  ·cases ht
 | some a =>
  refine fnM_body rfl rfl Tryz.func88 rfl Tryz.ntmps88 rfl ?_
  refine qE ?_
  refine qB rfl ?_
  refine qA (qD (v := .slice _ _ _) rfl) ?_
  refine qE ?_
  refine qE ?_
  refine qB rfl ?_
  refine qA (qC (v := .slice _ _ _) rfl) ?_
  refine qA (qK (v := .bool _) rfl) ?_
  refine qP rfl (fun ht => ?_) (fun ht => ?_)
  ·cases ht
  ·skip
   refine qO ?_
   refine qE ?_
   refine qB rfl ?_
   refine qX (zc := [_]) (vs := []) (cs := []) rfl rfl rfl rfl rfl rfl rfl fun b5 hb5 => ?_
   refine qN [_] rfl ?_
   refine qA (qC (v := .slice _ _ _) rfl) ?_
   refine zA 0 accR_new rfl rfl rfl (fun V => R.2.ext (qR V)) (wU R.1) (flat_plain intP2 l) rfl rfl rfl rfl rfl rfl rfl (by omega) rfl (by rw [wU R.1, List.length_nil]; omega) fun a2 h1a E1a ha2 => ?_
   refine qN [_] rfl ?_
   refine qA (qD (v := .slice _ _ _) rfl) ?_
   refine qQ ?_
   refine qM (vs := [_]) Tryz.results88 ⟨qJ rfl rfl, trivial⟩ fun V => ?_
   exact ⟨_, [_], rfl, V, E1a, _, rfl, a2, rfl, rfl, ha2⟩
theorem cloneInt_ok (l : List Int) (A : Option Addr) (c : Nat) (h : AH) (R : Row h 1 intC A l) (hl : l.length < 2 ^ 20) :
  FnT Tryz.prog 88 #[.slice A l.length c] h (fun v h' => SlR h' 1 intC l v) := by
 cases A with
 | none =>
  have h0 := R.none_nil (by omega)
  subst h0
  refine wH Tryz.func88 rfl Tryz.ntmps88 rfl ?_
  refine qE ?_
  refine qB rfl ?_
  refine qA (qD (v := .slice _ _ _) rfl) ?_
  refine qE ?_
  refine qE ?_
  refine qB rfl ?_
  refine qA (qC (v := .slice _ _ _) rfl) ?_
  refine qA (qK (v := .bool _) rfl) ?_
  refine qP rfl (fun ht => ?_) (fun ht => ?_)
  ·skip
   refine qE ?_
   refine qB rfl ?_
   refine qA (qD (v := .slice _ _ _) rfl) ?_
   refine qQ ?_
   refine qM (vs := [_]) Tryz.results88 ⟨qJ rfl rfl, trivial⟩ fun V => ?_
   exact ⟨(qR V), none, 0, rfl, ⟨fun _ _ => rfl, Rd.nil _ _⟩⟩
  ·cases ht
 | some a =>
  refine wH Tryz.func88 rfl Tryz.ntmps88 rfl ?_
  refine qE ?_
  refine qB rfl ?_
  refine qA (qD (v := .slice _ _ _) rfl) ?_
  refine qE ?_
  refine qE ?_
  refine qB rfl ?_
  refine qA (qC (v := .slice _ _ _) rfl) ?_
  refine qA (qK (v := .bool _) rfl) ?_
  refine qP rfl (fun ht => ?_) (fun ht => ?_)
  ·cases ht
  ·skip
   refine qO ?_
   refine qE ?_
   refine qB rfl ?_
   refine qX (zc := [_]) (vs := []) (cs := []) rfl rfl rfl rfl rfl rfl rfl fun b5 hb5 => ?_
   refine qN [_] rfl ?_
   refine qA (qC (v := .slice _ _ _) rfl) ?_
   refine zA 0 accR_new rfl rfl rfl (fun V => R.2.ext (qR V)) (wU R.1) (flat_plain intP2 l) rfl rfl rfl rfl rfl rfl rfl (by omega) rfl (by rw [wU R.1, List.length_nil]; omega) fun a2 h1a E1a ha2 => ?_
   refine qN [_] rfl ?_
   refine qA (qD (v := .slice _ _ _) rfl) ?_
   refine qQ ?_
   refine qM (vs := [_]) Tryz.results88 ⟨qJ rfl rfl, trivial⟩ fun V => ?_
   exact ⟨(zL E1a (qR V)), AccP.row (i := 0) ha2 (by omega) (fun _ _ => rfl) V rfl⟩
theorem fnM_args {P : Program} {y : Value} {vs vs' : List Value} {h : AH} {M : Pv} {R : Value → AH → Pv → Prop} (e : vs = vs') (c : FnM P y vs h M R) : FnM P y vs' h M R := e ▸ c
def TI (h : AH) (x : List Int) (v : Value) : Prop := SlR h 1 intC x v
structure ChoB (h : AH) (n : Nat) (y : Value) (b1 b2 b3 : Nat) : Prop where
 c1 : h b1 = some (.cells #[.int .i64 n] 3 (0, 0))
 c2 : ∃ t, h b2 = some (.cells #[y] t (0, 0))
 c3 : ∃ t, h b3 = some (.cells #[.func (.func 87) #[] #[.pointer (some ⟨b2, 0, none⟩), .pointer (some ⟨b1, 0, none⟩), .pointer (some ⟨b3, 0, none⟩)]] t (0, 0))
theorem ChoB.ext {h h' : AH} {n : Nat} {y : Value} {b1 b2 b3 : Nat} (B : ChoB h n y b1 b2 b3) (E : Ext h h') : ChoB h' n y b1 b2 b3 :=
 ⟨E _ _ B.c1, B.c2.imp fun _ e => E _ _ e, B.c3.imp fun _ e => E _ _ e⟩
def From (l : List Int) (a : Nat) : Prop := (l = [] ∧ a = 0) ∨ ∃ (l0 : List Int) (i : Nat), l = l0 ++ [(i : Int)] ∧ a = i + 1
set_option maxHeartbeats 4000000 in
theorem grow_ok (n : Nat) (hn : n ≤ 30) (all : List (List Int)) (y : Value) (I : Nat → AH → Pv → Prop) (F : AH → Pv → Prop) (hI : ∀ k h h' M, Ext h h' → I k h M → I k h' M) (hF : ∀ h h' M, Ext h h' → F h M → F h' M) (Y : YieldsS Tryz.prog y all TI I F) (b1 b2 b3 : Nat) :
  ∀ (m a : Nat) (l : List Int) (B : Option Addr) (cB k : Nat) (h : AH) (M : Pv), ChoB h n y b1 b2 b3 → Row h 1 intC B l → l.length + m ≤ 40 → From l a → a ≤ 40 → I k h M → (∀ j s, (choM n m a l)[j]? = some s → all[k + j]? = some s) →
   FnM Tryz.prog (.func (.func 87) #[] [.pointer (some ⟨b2, 0, none⟩), .pointer (some ⟨b1, 0, none⟩), .pointer (some ⟨b3, 0, none⟩)].toArray) [.slice B l.length cB, .int .i64 m] h M (fun v h' M' => (v = .bool true ∧ I (k + (choM n m a l).length) h' M') ∨ (v = .bool false ∧ F h' M')) := by
 intro m
 induction m with
 | zero =>
  intro a l B cB k h M CB RB hlm hfr ha hi hall
  obtain ⟨t2, c2⟩ := CB.c2
  refine fnM_body rfl rfl Tryz.func87 rfl Tryz.ntmps87 rfl ?_
  refine goes_front ?_
  refine qE ?_
  refine qB rfl ?_
  refine qA (qD (v := .bool _) rfl) ?_
  refine qE ?_
  refine qE ?_
  refine qB rfl ?_
  refine qA (qC (v := .int .i64 _) rfl) ?_
  refine qA (qK (v := .bool _) rfl) ?_
  refine wW rfl (rfl) ?_
  refine qE ?_
  refine xp_dw [] rfl rfl rfl ?_
  refine wE (i := 0) rfl (by decide +kernel) ?_
  refine wL (v := y) rfl rfl (by simp only [cellA, c2]; rfl) ?_
  refine qI (i := 1) rfl (by decide +kernel) (qC (v := .slice _ _ _) rfl) ?_
  refine dw_eff (i := 2) rfl (by decide +kernel) ?_
  refine wJ (caps := []) (vs := [.slice _ _ _]) rfl rfl rfl (cloneInt_ok l B cB h RB (by omega)) ?_
  rintro _ h1 E1 S1
  refine ⟨ext_wlm E1 _, ?_⟩
  obtain ⟨A1, c1, rfl, R1⟩ := id S1
  refine wV (i := 3) rfl (by decide +kernel) (by decide +kernel) ?_
  refine op_fnM [_] _ (vs := _) rfl rfl rfl (Y k l _ h1 M (by have := hall 0 l rfl; simpa using this) S1 (hI _ _ _ _ E1 hi)) ?_
  rintro r h2 M2 E2 hr
  rcases hr with ⟨rfl, i2⟩ | ⟨rfl, f2⟩
  ·skip
   refine qI (i := 4) rfl (by decide +kernel) (qD (v := .bool _) rfl) ?_
   refine zI rfl ?_
   refine qQ ?_
   refine qM (vs := [_]) Tryz.results87 ⟨qJ rfl rfl, trivial⟩ fun V => ?_
   obtain ⟨h9, E9, e9, V9⟩ := wl_shed [_] _ V
   exact ⟨h9, _, e9, V9, zL (zL E1 E2) E9, .inl ⟨rfl, hI _ _ _ _ E9 i2⟩⟩
  ·skip
   refine qI (i := 4) rfl (by decide +kernel) (qD (v := .bool _) rfl) ?_
   refine zI rfl ?_
   refine qQ ?_
   refine qM (vs := [_]) Tryz.results87 ⟨qJ rfl rfl, trivial⟩ fun V => ?_
   obtain ⟨h9, E9, e9, V9⟩ := wl_shed [_] _ V
   exact ⟨h9, _, e9, V9, zL (zL E1 E2) E9, .inr ⟨rfl, hF _ _ _ E9 f2⟩⟩
 | succ m ih =>
  intro a l B cB k h M CB RB hlm hfr ha hi hall
  obtain ⟨t3, c3⟩ := CB.c3
  refine fnM_body rfl rfl Tryz.func87 rfl Tryz.ntmps87 rfl ?_
  refine goes_front ?_
  refine qE ?_
  refine qB rfl ?_
  refine qA (qD (v := .bool _) rfl) ?_
  refine qE ?_
  refine qE ?_
  refine qB rfl ?_
  refine qA (qC (v := .int .i64 _) rfl) ?_
  refine qA (qK (v := .bool _) rfl) ?_
  refine wT rfl (by simp; omega) ?_
  refine qO ?_
  refine qE ?_
  refine qB rfl ?_
  refine qA (qD (v := .int .i64 _) rfl) ?_
  refine xp_cutB [8, 16, 17, 18, 19, 20, 21, 22, 23, 24, 25] (M.length + 1) (α := Unit) (fun u => [(8, .int .i64 (a : Int))]) (fun u L => L) (fun u h_u => True) ?_ ?_
  ·skip
   refine qE ?_
   refine qB rfl ?_
   refine qA (qC (v := .slice _ _ _) rfl) ?_
   refine qA (wP rfl rfl) ?_
   refine qA (qK (v := .bool _) rfl) ?_
   rcases hfr with ⟨rfl, rfl⟩ | ⟨l0, i0, rfl, rfl⟩
   ·skip
    refine wT rfl (rfl) ?_
    refine qO ?_
    refine ⟨(), ⟨rfl, trivial⟩, rfl, by simp, (Ext.refl _), fun h3 E3 => by first | trivial | omega | (refine ⟨?_, ?_⟩ <;> omega), ?_⟩
    repeat (first | exact wQ _ _ | exact qW _ _ _ | refine wA (by decide) ?_ | refine qV rfl ?_ | refine wB rfl ?_)
   ·skip
    have hl0 : (l0 ++ [(i0 : Int)]).length = l0.length + 1 := by simp
    have hx : l0.length < (l0 ++ [(i0 : Int)]).length := by omega
    have hix : (((l0 ++ [(i0 : Int)]).length : Int) - 1).toNat = l0.length := by omega
    have hge : (l0 ++ [(i0 : Int)])[l0.length] = (i0 : Int) := by simp
    obtain ⟨g, off, hA, hc⟩ := RB.at (by omega) hx
    rw [hge] at hc
    have hc : Cells h g (off + (((l0 ++ [(i0 : Int)]).length : Int) - 1).toNat * 1) (intC (i0 : Int)) := by rw [hix]; exact hc
    refine wW rfl (by simp) ?_
    refine qB rfl ?_
    refine qA (qC (v := .slice _ _ _) rfl) ?_
    refine qA (qC (v := .slice _ _ _) rfl) ?_
    refine qA (wP rfl rfl) ?_
    refine qA (qS rfl (by omega)) ?_
    refine qA (wD rfl hA rfl rfl rfl (by omega) (by omega)) ?_
    refine wL (v := .int .i64 _) rfl rfl ((hc) 0 _ rfl) ?_
    refine qA (qS rfl (by omega)) ?_
    refine qA (qD (v := .int .i64 _) rfl) ?_
    refine ⟨(), ⟨rfl, trivial⟩, rfl, by simp, (Ext.refl _), fun h3 E3 => by first | trivial | omega | (refine ⟨?_, ?_⟩ <;> omega), ?_⟩
    repeat (first | exact wQ _ _ | exact qW _ _ _ | refine wA (by decide) ?_ | refine qV rfl ?_ | refine wB rfl ?_)
  ·rintro u T1 h_u E_u J_u
   refine qU (_ :: _) rfl ?_
   have hi := hI _ _ _ _ E_u hi
   have CB := CB.ext E_u
   have RB := RB.ext E_u
   have c3 := E_u _ _ c3
   obtain ⟨f, hfd⟩ : ∃ f, f = fun i : Nat => choM n m (i + 1) (l ++ [(i : Int)]) := ⟨_, rfl⟩
   have hcm : choM n (m + 1) a l = choP f a (n - a) := by rw [hfd]; rfl
   rw [hcm] at hall ⊢
   refine qE ?_
   refine qE ?_
   refine qB rfl ?_
   refine qA (qC (v := .int .i64 _) rfl) ?_
   refine qA (qD (v := .int .i64 _) rfl) ?_
   refine qT ?_
   refine xp_loopN [7, 9, 27, 28, 29, 30, 31, 32, 33, 34, 35, 36, 37, 38, 39, 40, 41] (α := Nat × Pv) (fun ⟨d, M'⟩ => [(9, .int .i64 ((a + d : Nat) : Int))]) (fun ⟨d, M'⟩ => none :: M') (fun ⟨d, M'⟩ h_d => d ≤ n - a ∧ I (k + (choP f a d).length) h_d M') (fun ⟨d, M'⟩ => n - a - d) ((0, M)) ⟨rfl, trivial⟩ (rfl) (⟨Nat.zero_le _, by rw [choP_zero]; exact hi⟩) ?_
   rintro ⟨d, M'⟩ T2 h_d E_d J_d
   refine qU (_ :: _) rfl ?_
   obtain ⟨K1, K2⟩ := J_d
   have CB' := CB.ext E_d
   refine qE ?_
   refine qE ?_
   refine qB rfl ?_
   refine qA (qC (v := .int .i64 _) rfl) ?_
   refine wL (v := .int .i64 n) rfl rfl (by simp only [cellA, CB'.c1]; rfl) ?_
   refine qA (qK (v := .bool _) rfl) ?_
   refine qP rfl (fun hd => ?_) (fun hd => ?_)
   ·skip
    have hdl : a + d < n := ltI hd
    refine qO ?_
    refine qE ?_
    refine qT ?_
    refine qE ?_
    refine xp_dw [true] rfl rfl rfl ?_
    refine wE (i := 0) rfl (by decide +kernel) ?_
    refine wL (v := .func _ _ _) rfl rfl (by simp only [cellA, E_d _ _ c3]; rfl) ?_
    refine qI (i := 1) rfl (by decide +kernel) (qC (v := .slice _ _ _) rfl) ?_
    refine qI (i := 3) rfl (by decide +kernel) (qC (v := .int .i64 _) rfl) ?_
    refine qI (i := 6) rfl (by decide +kernel) (qC (v := .int .i64 _) rfl) ?_
    refine qI (i := 7) rfl (by decide +kernel) (qS rfl (by omega)) ?_
    refine dw_eff (i := 2) rfl (by decide +kernel) ?_
    refine op_fnF 0 rfl rfl rfl (cloneIntF l B cB h_d (RB.ext E_d) (by omega)) ?_
    rintro _ h5 _ V5 E5 ⟨a1, rfl, rfl, ha1⟩
    refine ⟨ext_wlm E5 _, ?_⟩
    refine wN (_ :: _) rfl ?_
    refine dw_eff (i := 4) rfl (by decide +kernel) ?_
    refine op_open ?_
    refine qX (m := 1) (zc := [_]) (vs := [(_, .int .i64 _)]) (cs := [_]) rfl rfl rfl rfl rfl rfl rfl fun b36 hb36 => ?_
    refine ⟨rfl, _, _, rfl, fun h6 E6 hb6 => ?_⟩
    refine ⟨ext_wlm E6 _, ?_⟩
    refine dw_eff (i := 5) rfl (by decide +kernel) ?_
    refine zA 0 ha1 rfl rfl rfl (fun V => (row_one hb6).2.ext (qR V)) rfl rfl rfl rfl rfl rfl rfl rfl rfl (by omega) rfl (by rw [wU (m := 1) (fun _ _ => rfl)]; simp [intC]; omega) fun a2 h3a E3a ha2 => ?_
    refine ⟨ext_wlm E3a _, ?_⟩
    refine wN (_ :: _) rfl ?_
    have hfm : l.flatMap intC ++ [Value.int .i64 ((a + d : Nat) : Int)] = (l ++ [((a + d : Nat) : Int)]).flatMap intC := by rw [List.flatMap_append]; rfl
    obtain ⟨gb, len2, cap2, junk2, hl2, rfl⟩ := AccR.some ha2 (by simp [intC])
    have e2 : len2 = (l ++ [((a + d : Nat) : Int)]).length := by rw [show List.flatMap intC [((a + d : Nat) : Int)] = [Value.int .i64 ((a + d : Nat) : Int)] from rfl, hfm, wU (m := 1) (fun _ _ => rfl)] at hl2; omega
    subst e2
    refine dw_pubM 0 rfl ?_
    intro h7 E7 p7
    refine wN (_ :: _) rfl ?_
    have R2 : Row h7 1 intC (some ⟨gb, 0, none⟩) (l ++ [((a + d : Nat) : Int)]) := ⟨fun _ _ => rfl, by rw [← hfm]; exact AccR.rd ha2 (fun b o e => by cases e; exact p7)⟩
    refine wV (i := 8) rfl (by decide +kernel) (by decide +kernel) ?_
    refine op_fnM [_] _ (vs := [.slice _ _ _, .int .i64 _]) rfl rfl rfl (fnM_args (by simp only [List.cons.injEq, Value.int.injEq, true_and, and_true]; omega) (ih (a + d + 1) (l ++ [((a + d : Nat) : Int)]) _ cap2 (k + (choP f a d).length) h7 M' (CB.ext (zL (zL (zL (zL E_d E5) E6) E3a) E7)) R2 (by simp; omega) (.inr ⟨l, a + d, rfl, rfl⟩) (by omega) (hI _ _ _ _ (zL (zL (zL E5 E6) E3a) E7) K2) (fun j s hj => by rw [Nat.add_assoc]; exact hall _ s (choP_at (by omega) (by rw [hfd]; exact hj))))) ?_
    rintro r h8 M8 E8 hr
    have hfl : f (a + d) = choM n m (a + d + 1) (l ++ [((a + d : Nat) : Int)]) := by rw [hfd]
    rcases hr with ⟨rfl, i2⟩ | ⟨rfl, f2⟩
    ·skip
     refine qI (i := 9) rfl (by decide +kernel) (qK (v := .bool _) rfl) ?_
     refine zI rfl ?_
     refine wT rfl (rfl) ?_
     refine qO ?_
     refine qB rfl ?_
     refine qA (qC (v := .int .i64 _) rfl) ?_
     refine qA (qS rfl (by omega)) ?_
     refine qA (qD (v := .int .i64 _) rfl) ?_
     refine ⟨(d + 1, M8), ⟨intE (by omega), trivial⟩, rfl, rfl, (zL (zL (zL (zL (zL E_d E5) E6) E3a) E7) E8), ⟨by omega, by rw [choP_succ, List.length_append, ← Nat.add_assoc, hfl]; exact i2⟩, by first | omega | (dsimp only; omega), ?_⟩
     repeat (first | exact qW _ _ _ | refine wA (by decide) ?_ | refine qV rfl ?_ | refine wB rfl ?_)
    ·skip
     refine qI (i := 9) rfl (by decide +kernel) (qK (v := .bool _) rfl) ?_
     refine zI rfl ?_
     refine wW rfl (rfl) ?_
     refine qE ?_
     refine qB rfl ?_
     refine qA (qD (v := .bool _) rfl) ?_
     refine qQ ?_
     refine qM (vs := [_]) Tryz.results87 ⟨qJ rfl rfl, trivial⟩ fun V => ?_
     obtain ⟨h9, E9, e9, V9⟩ := wl_shed [_] _ V
     exact ⟨h9, _, e9, V9, zL (zL E_u (zL (zL (zL (zL (zL E_d E5) E6) E3a) E7) E8)) E9, .inr ⟨rfl, hF _ _ _ E9 f2⟩⟩
   ·skip
    have hde : d = n - a := by have := geI hd; omega
    subst hde
    refine wS ?_
    refine qE ?_
    refine qB rfl ?_
    refine qA (qD (v := .bool _) rfl) ?_
    refine qQ ?_
    refine qM (vs := [_]) Tryz.results87 ⟨qJ rfl rfl, trivial⟩ fun V => ?_
    obtain ⟨h9, E9, e9, V9⟩ := wl_shed [_] _ V
    exact ⟨h9, _, e9, V9, zL (zL E_u E_d) E9, .inl ⟨rfl, hI _ _ _ _ E9 K2⟩⟩
theorem choices1_ok (n : Nat) (hn : n ≤ 30) (b1 : Nat) (h0 : AH) (c1 : h0 b1 = some (.cells #[.int .i64 n] 3 (0, 0))) :
  IterS Tryz.prog (.func (.func 86) #[] #[.pointer (some ⟨b1, 0, none⟩)]) h0 (setsM n) TI := by
 intro fn fs cs I F hI hF Y h M E0 hi
 refine fnM_body (caps := [.pointer (some ⟨b1, 0, none⟩)]) rfl rfl Tryz.func86 rfl Tryz.ntmps86 rfl ?_
 refine goes_front ?_
 refine goes_front ?_
 refine qE ?_
 refine qB rfl ?_
 refine op_boxF 0 (v := _) (cs := [_]) rfl rfl rfl fun b2 hb2 => ?_
 refine qN (_ :: _ :: _) rfl ?_
 refine qE ?_
 refine qB rfl ?_
 refine op_allocF 1 (cs := [_]) rfl rfl rfl fun b3 hb3 => ?_
 refine qN (_ :: _ :: _) rfl ?_
 refine qE ?_
 refine qB rfl ?_
 refine qA (pv_makeFunc (vs := []) (ws := [_, _, _]) rfl rfl) ?_
 refine qY 1 (v := _) (vs := [_]) (c' := [_]) rfl rfl rfl rfl rfl rfl rfl rfl rfl ?_
 refine qN (_ :: _ :: _) rfl ?_
 refine qE ?_
 refine qB rfl ?_
 refine wp_pub 0 rfl rfl ?_
 intro h2 E2 p2
 refine qN (_ :: _ :: _) rfl ?_
 refine wp_pub 1 rfl rfl ?_
 intro h3 E3 p3
 refine qN (_ :: _ :: _) rfl ?_
 have C1 := E3 _ _ (E2 _ _ (E0 _ _ c1))
 have CB : ChoB h3 n (.func fn fs cs) b1 b2 b3 := ⟨C1, ⟨_, E3 _ _ p2⟩, ⟨_, p3⟩⟩
 refine wL (v := .int .i64 n) rfl rfl (by simp only [cellA, C1]; rfl) ?_
 refine qA (qS rfl (by omega)) ?_
 refine qA (qC (v := .int .i64 _) rfl) ?_
 refine qT ?_
 refine xp_loopN [4, 8, 9, 10, 11, 12, 13, 14, 15] (α := Nat × Pv) (fun ⟨d, M'⟩ => [(8, .int .i64 d)]) (fun ⟨d, M'⟩ => none :: none :: M') (fun ⟨d, M'⟩ h_d => d ≤ n + 1 ∧ I (choP (fun m => choM n m 0 []) 0 d).length h_d M') (fun ⟨d, M'⟩ => n + 1 - d) ((0, M)) ⟨rfl, trivial⟩ (rfl) (⟨Nat.zero_le _, hI _ _ _ _ (zL E2 E3) hi⟩) ?_
 rintro ⟨d, M'⟩ T1 h_d E_d J_d
 refine qU (_ :: _ :: _) rfl ?_
 obtain ⟨K1, K2⟩ := J_d
 have CB' := CB.ext E_d
 refine qE ?_
 refine qB rfl ?_
 refine qA (qK (v := .bool _) rfl) ?_
 refine qE ?_
 refine qP rfl (fun hd => ?_) (fun hd => ?_)
 ·skip
  have hdl : d < n + 1 := by have := of_decide_eq_true hd; omega
  obtain ⟨t3, c3⟩ := CB'.c3
  refine qO ?_
  refine qE ?_
  refine qT ?_
  refine qE ?_
  refine qB rfl ?_
  refine qA (qC (v := .int .i64 _) rfl) ?_
  refine qA (qD (v := .int .i64 _) rfl) ?_
  refine qE ?_
  refine qB rfl ?_
  refine wL (v := .func _ _ _) rfl rfl (by simp only [cellA, c3]; rfl) ?_
  refine qA (qC (v := .int .i64 _) rfl) ?_
  refine op_fnM [_, _] _ (vs := [.slice _ _ _, .int .i64 _]) rfl rfl rfl (grow_ok n hn (setsM n) _ I F hI hF Y b1 b2 b3 d 0 [] none 0 (choP (fun m => choM n m 0 []) 0 d).length h_d M' CB' (row_nil _ _) (by simp; omega) (.inl ⟨rfl, rfl⟩) (by omega) K2 (fun j s hj => choP_at (f := fun m => choM n m 0 []) (by omega) (by simpa using hj))) ?_
  rintro r h8 M8 E8 hr
  rcases hr with ⟨rfl, i2⟩ | ⟨rfl, f2⟩
  ·skip
   refine qA (qK (v := .bool _) rfl) ?_
   refine wT rfl (rfl) ?_
   refine qO ?_
   refine qB rfl ?_
   refine qA (qS rfl (by omega)) ?_
   refine qA (qC (v := .int .i64 _) rfl) ?_
   refine ⟨(d + 1, M8), ⟨rfl, trivial⟩, rfl, rfl, (zL E_d E8), ⟨by omega, by rw [choP_succ, List.length_append, Nat.zero_add]; exact i2⟩, by first | omega | (dsimp only; omega), ?_⟩
   repeat (first | exact qW _ _ _ | refine wA (by decide) ?_ | refine qV rfl ?_ | refine wB rfl ?_)
  ·skip
   refine qA (qK (v := .bool _) rfl) ?_
   refine wW rfl (rfl) ?_
   refine qQ ?_
   refine qM (vs := []) Tryz.results86 trivial fun V => ?_
   obtain ⟨h9, E9, e9, V9⟩ := wl_shed [_, _] _ V
   exact ⟨h9, _, e9, V9, zL (zL (zL (zL E2 E3) E_d) E8) E9, .inr (hF _ _ _ E9 f2)⟩
 ·skip
  have hde : d = n + 1 := by have := of_decide_eq_false hd; omega
  subst hde
  refine wS ?_
  refine qM (vs := []) Tryz.results86 trivial fun V => ?_
  obtain ⟨h9, E9, e9, V9⟩ := wl_shed [_, _] _ V
  exact ⟨h9, _, e9, V9, zL (zL (zL E2 E3) E_d) E9, .inl (hI _ _ _ _ E9 K2)⟩
theorem choices_ok (n : Nat) (hn : n ≤ 30) (n' : Int) (en : n' = n) (h : AH) :
  FnT Tryz.prog 72 #[.int .i64 n'] h (fun v h' => IterS Tryz.prog v h' (setsM n) TI) := by
 subst en
 refine wH Tryz.func72 rfl Tryz.ntmps72 rfl ?_
 refine qE ?_
 refine qB rfl ?_
 refine op_box (v := .int .i64 _) (cs := [_]) rfl rfl fun b1 hb1 => ?_
 refine qN [_] rfl ?_
 refine qA (qD (v := _) rfl) ?_
 refine qE ?_
 refine qB rfl ?_
 refine qA (pv_makeFunc (vs := []) (ws := [_]) rfl rfl) ?_
 refine qA (qD (v := _) rfl) ?_
 refine qQ ?_
 refine qM (vs := [_]) Tryz.results72 ⟨qJ rfl rfl, trivial⟩ fun V => ?_
 exact ⟨(qR V), choices1_ok n hn b1 _ (zK V (i := 0) rfl)⟩
end
end Go.Proofs.YtmpahfdiebhdbaaGreatDoor
namespace Go.Proofs.YtmpahfdiebhdbaaGreatDoor
open Go Go.HL Go.Proofs Go.Wx Go.Rd
section
variable [Lvl]
set_option maxRecDepth 100000
theorem step_ok (b x : Nat) (h : AH) : FnM Tryz.prog (.func (.func 51) #[] ([] : List Value).toArray) [.pointer (some ⟨b, 0, none⟩)] h [some (b, .cells #[.int .u64 (x : Int)] 70 (0, 0))]
  (fun v h' M' => ∃ x' r : Nat, M' = [some (b, .cells #[.int .u64 (x' : Int)] 70 (0, 0))] ∧ v = .int .u64 (r : Int)) := by
 refine fnM_body rfl rfl Tryz.func51 rfl Tryz.ntmps51 rfl ?_
 refine qE ?_
 refine qB rfl ?_
 refine qA (qD (v := .int .u64 _) rfl) ?_
 refine qE ?_
 refine qB rfl ?_
 refine qA (qC (v := .pointer (some ⟨b, 0, none⟩)) rfl) ?_
 refine qA (qC (v := .pointer (some ⟨b, 0, none⟩)) rfl) ?_
 refine qA (qK (v := .pointer (some ⟨b, 0, none⟩)) rfl) ?_
 refine qA (qG rfl rfl rfl rfl 0 rfl) ?_
 refine qL 0 (v := .int .u64 _) rfl rfl rfl rfl ?_
 refine op_some rfl fun r1 hr1 => ?_
 refine op_some rfl fun r2 hr2 => ?_
 refine qA (qK (v := .pointer (some ⟨b, 0, none⟩)) rfl) ?_
 refine qA (qG rfl rfl rfl rfl 0 rfl) ?_
 refine qY 0 (v := .int .u64 _) (vs := [_]) (c' := [_]) rfl rfl rfl rfl rfl rfl rfl rfl rfl ?_
 refine qN [_] rfl ?_
 refine qE ?_
 refine qB rfl ?_
 refine qA (qC (v := .pointer (some ⟨b, 0, none⟩)) rfl) ?_
 refine qA (qK (v := .pointer (some ⟨b, 0, none⟩)) rfl) ?_
 refine qA (qG rfl rfl rfl rfl 0 rfl) ?_
 refine qL 0 (v := .int .u64 _) rfl rfl rfl rfl ?_
 refine qA (qD (v := .int .u64 _) rfl) ?_
 refine qE ?_
 refine qB rfl ?_
 refine qA (qC (v := .int .u64 _) rfl) ?_
 refine qA (qC (v := .int .u64 _) rfl) ?_
 refine qA (pv_shr _ 33 (.inr rfl) rfl rfl rfl rfl (by omega)) ?_
 refine op_some rfl fun r3 hr3 => ?_
 refine op_some rfl fun r4 hr4 => ?_
 refine qA (qD (v := .int .u64 _) rfl) ?_
 refine qE ?_
 refine qB rfl ?_
 refine qA (qC (v := .int .u64 _) rfl) ?_
 refine qA (qC (v := .int .u64 _) rfl) ?_
 refine qA (pv_shr _ 33 (.inr rfl) rfl rfl rfl rfl (by omega)) ?_
 refine op_some rfl fun r5 hr5 => ?_
 refine op_some rfl fun r6 hr6 => ?_
 refine qA (qD (v := .int .u64 _) rfl) ?_
 refine qE ?_
 refine qB rfl ?_
 refine qA (qC (v := .int .u64 _) rfl) ?_
 refine qA (qC (v := .int .u64 _) rfl) ?_
 refine qA (pv_shr _ 33 (.inr rfl) rfl rfl rfl rfl (by omega)) ?_
 refine op_some rfl fun r7 hr7 => ?_
 refine qA (qD (v := .int .u64 _) rfl) ?_
 refine qQ ?_
 refine qM (vs := [_]) Tryz.results51 ⟨qJ rfl rfl, trivial⟩ fun V => ?_
 exact ⟨_, [_], rfl, V, (Ext.refl _), r2, r7, rfl, rfl⟩
theorem Upto_ok (b x : Nat) (n : Int) (hn : n < 2 ^ 40) (h : AH) : FnM Tryz.prog (.func (.func 27) #[] ([] : List Value).toArray) [.pointer (some ⟨b, 0, none⟩), .int .i64 n] h [some (b, .cells #[.int .u64 (x : Int)] 70 (0, 0))]
  (fun v h' M' => ∃ (x' : Nat) (k : Int), M' = [some (b, .cells #[.int .u64 (x' : Int)] 70 (0, 0))] ∧ v = .int .i64 k ∧ 0 ≤ k ∧ k ≤ max n 0) := by
 refine fnM_body rfl rfl Tryz.func27 rfl Tryz.ntmps27 rfl ?_
 refine qE ?_
 refine qB rfl ?_
 refine qA (qD (v := .int .i64 _) rfl) ?_
 refine qE ?_
 refine qE ?_
 refine qB rfl ?_
 refine qA (qC (v := .int .i64 _) rfl) ?_
 refine qA (qK (v := .bool _) rfl) ?_
 refine qP rfl (fun ht => ?_) (fun ht => ?_)
 ·skip
  refine qE ?_
  refine qB rfl ?_
  refine qA (qD (v := .int .i64 _) rfl) ?_
  refine qQ ?_
  refine qM (vs := [_]) Tryz.results27 ⟨qJ rfl rfl, trivial⟩ fun V => ?_
  exact ⟨_, [_], rfl, V, (Ext.refl _), x, 0, rfl, rfl, by omega, by omega⟩
 ·skip
  have h1 : 1 ≤ n := by simpa using ht
  refine qO ?_
  refine qE ?_
  refine qB rfl ?_
  refine qA (qC (v := .pointer (some ⟨b, 0, none⟩)) rfl) ?_
  refine op_fnMM [] [_] [] (vs := _) rfl rfl rfl ((step_ok b x h)) ?_
  rintro _ h2 _ E2 ⟨x2, r, rfl, rfl⟩
  refine qN [_] rfl ?_
  refine qA (pv_shr _ 11 (.inr rfl) rfl rfl rfl rfl (by omega)) ?_
  refine qA (qC (v := .int .i64 _) rfl) ?_
  refine qA (qS rfl (by omega)) ?_
  refine qA (pv_val (intE (show IntKind.wrap .u64 (n + 1) = (((n + 1).toNat : Nat) : Int) by rw [IntWalk.u64_in _ (by omega)]; omega)) rfl) ?_
  refine qA (pv_rem (b := (n + 1).toNat) rfl rfl rfl (by omega)) ?_
  have hm : r / 2 ^ 11 % (n + 1).toNat < (n + 1).toNat := Nat.mod_lt _ (by omega)
  refine qA (pv_val (intE (show IntKind.wrap .i64 ((r / 2 ^ 11 % (n + 1).toNat : Nat) : Int) = ((r / 2 ^ 11 % (n + 1).toNat : Nat) : Int) by rw [IntWalk.i64_in _ (by omega)])) rfl) ?_
  refine qA (qD (v := .int .i64 _) rfl) ?_
  refine qQ ?_
  refine qM (vs := [_]) Tryz.results27 ⟨qJ rfl rfl, trivial⟩ fun V => ?_
  exact ⟨_, [_], rfl, V, E2, x2, _, rfl, rfl, by omega, by omega⟩
theorem Within_ok (b x : Nat) (lo hi : Int) (h1 : -2 ^ 30 ≤ lo) (h2 : lo ≤ hi) (h3 : hi ≤ 2 ^ 30) (h : AH) : FnM Tryz.prog (.func (.func 26) #[] ([] : List Value).toArray) [.pointer (some ⟨b, 0, none⟩), .int .i64 lo, .int .i64 hi] h [some (b, .cells #[.int .u64 (x : Int)] 70 (0, 0))]
  (fun v h' M' => ∃ (x' : Nat) (k : Int), M' = [some (b, .cells #[.int .u64 (x' : Int)] 70 (0, 0))] ∧ v = .int .i64 k ∧ lo ≤ k ∧ k ≤ hi) := by
 refine fnM_body rfl rfl Tryz.func26 rfl Tryz.ntmps26 rfl ?_
 refine qE ?_
 refine qB rfl ?_
 refine qA (qD (v := .int .i64 _) rfl) ?_
 refine qE ?_
 refine qB rfl ?_
 refine qA (qC (v := .int .i64 _) rfl) ?_
 refine qA (qC (v := .pointer (some ⟨b, 0, none⟩)) rfl) ?_
 refine qA (qC (v := .int .i64 _) rfl) ?_
 refine qA (qC (v := .int .i64 _) rfl) ?_
 refine qA (qS rfl (by omega)) ?_
 refine op_fnMM [] [_] [] (vs := [.pointer _, .int .i64 _]) rfl rfl rfl ((Upto_ok b x (hi - lo) (by omega) h)) ?_
 rintro _ h2 _ E2 ⟨x2, k, rfl, rfl, k1, k2⟩
 refine qN [_] rfl ?_
 refine qA (qS rfl (by omega)) ?_
 refine qA (qD (v := .int .i64 _) rfl) ?_
 refine qQ ?_
 refine qM (vs := [_]) Tryz.results26 ⟨qJ rfl rfl, trivial⟩ fun V => ?_
 exact ⟨_, [_], rfl, V, E2, x2, lo + k, rfl, rfl, by omega, by omega⟩
theorem NewPot_ok (l : List Int) (hl : l.length < 2 ^ 63) (A : Option Addr) (c : Nat) (h : AH) (R : Row h 1 intC A l) : FnM Tryz.prog (.func (.func 8) #[] ([] : List Value).toArray) [.slice A l.length c] h []
  (fun v h' M' => ∃ b x : Nat, M' = [some (b, .cells #[.int .u64 (x : Int)] 70 (0, 0))] ∧ v = .pointer (some ⟨b, 0, none⟩)) := by
 refine fnM_body rfl rfl Tryz.func8 rfl Tryz.ntmps8 rfl ?_
 refine qE ?_
 refine qB rfl ?_
 refine qA (qD (v := .pointer _) rfl) ?_
 refine qE ?_
 refine qB rfl ?_
 refine qA (zC (zc := [_]) (vs := [(0, .int .u64 _)]) (cs := [_]) rfl rfl rfl rfl rfl rfl) ?_
 refine op_box (v := .agg #[.int .u64 _]) (cs := [_]) rfl rfl fun b6 hb6 => ?_
 refine qN [_] rfl ?_
 refine qA (qD (v := .pointer (some ⟨b6, 0, none⟩)) rfl) ?_
 refine qE ?_
 refine qE ?_
 refine qB rfl ?_
 refine qA (qD (v := .int .i64 _) rfl) ?_
 refine qT ?_
 refine xp_loopL [4, 7, 8, 9, 10, 11, 12, 13, 14, 15, 16, 17, 18, 19, 20, 21, 22, 23, 24, 25, 26, 27, 28, 29, 30, 31, 32, 33, 34, 35, 36, 37, 38, 39] 1 (α := Nat × Nat) (fun ⟨k, x⟩ => [(4, .int .i64 k)]) (fun ⟨k, x⟩ L => L.set 0 (some (b6, .cells #[.int .u64 (x : Int)] 70 (0, 0)))) (fun ⟨k, x⟩ h_k => k ≤ l.length) (fun ⟨k, x⟩ => l.length - k) ((0, 2611923443488327891)) ⟨rfl, trivial⟩ (rfl) (Nat.zero_le _) ?_
 rintro ⟨k, x⟩ T1 h_k E_k J_k
 refine qU [_] rfl ?_
 refine qE ?_
 refine qE ?_
 refine qB rfl ?_
 refine qA (qC (v := .int .i64 _) rfl) ?_
 refine qA (qC (v := .slice _ _ _) rfl) ?_
 refine qA (wP rfl rfl) ?_
 refine qA (qK (v := .bool _) rfl) ?_
 refine qP rfl (fun ht => ?_) (fun ht => ?_)
 ·skip
  have hlt := ltI ht
  obtain ⟨g, off, hA, hc⟩ := (R.ext E_k).at (by omega) hlt
  refine qO ?_
  refine qE ?_
  refine qT ?_
  refine qE ?_
  refine xp_dw [] rfl rfl rfl ?_
  refine qI (i := 0) rfl (by decide +kernel) (qC (v := .pointer (some ⟨b6, 0, none⟩)) rfl) ?_
  refine qI (i := 1) rfl (by decide +kernel) (qC (v := .pointer (some ⟨b6, 0, none⟩)) rfl) ?_
  refine qI (i := 2) rfl (by decide +kernel) (qK (v := .pointer (some ⟨b6, 0, none⟩)) rfl) ?_
  refine qI (i := 3) rfl (by decide +kernel) (qG rfl rfl rfl rfl 0 rfl) ?_
  refine wE (i := 4) rfl (by decide +kernel) ?_
  refine qL 0 (v := .int .u64 _) rfl rfl rfl rfl ?_
  refine qI (i := 5) rfl (by decide +kernel) (qC (v := .slice _ _ _) rfl) ?_
  refine qI (i := 6) rfl (by decide +kernel) (qC (v := .int .i64 _) rfl) ?_
  refine qI (i := 7) rfl (by decide +kernel) (wD rfl hA rfl rfl rfl (by omega) (by omega)) ?_
  refine wE (i := 8) rfl (by decide +kernel) ?_
  refine wL (v := .int .i64 _) rfl rfl ((hc) 0 _ rfl) ?_
  refine dw_some (i := 9) rfl (by decide +kernel) rfl fun r1 hr1 => ?_
  refine dw_some (i := 10) rfl (by decide +kernel) rfl fun r2 hr2 => ?_
  refine dw_some (i := 11) rfl (by decide +kernel) rfl fun r3 hr3 => ?_
  refine qI (i := 12) rfl (by decide +kernel) (qK (v := .pointer (some ⟨b6, 0, none⟩)) rfl) ?_
  refine qI (i := 13) rfl (by decide +kernel) (qG rfl rfl rfl rfl 0 rfl) ?_
  refine wV (i := 14) rfl (by decide +kernel) (by decide +kernel) ?_
  refine qY 0 (v := .int .u64 _) (vs := [_]) (c' := [_]) rfl rfl rfl rfl rfl rfl rfl rfl rfl ?_
  refine wN [_] rfl ?_
  refine zI rfl ?_
  refine xp_dw [] rfl rfl rfl ?_
  refine qI (i := 0) rfl (by decide +kernel) (qC (v := .pointer (some ⟨b6, 0, none⟩)) rfl) ?_
  refine qI (i := 1) rfl (by decide +kernel) (qC (v := .pointer (some ⟨b6, 0, none⟩)) rfl) ?_
  refine qI (i := 2) rfl (by decide +kernel) (qK (v := .pointer (some ⟨b6, 0, none⟩)) rfl) ?_
  refine qI (i := 3) rfl (by decide +kernel) (qG rfl rfl rfl rfl 0 rfl) ?_
  refine wE (i := 4) rfl (by decide +kernel) ?_
  refine qL 0 (v := .int .u64 _) rfl rfl rfl rfl ?_
  refine qI (i := 5) rfl (by decide +kernel) (qC (v := .pointer (some ⟨b6, 0, none⟩)) rfl) ?_
  refine qI (i := 6) rfl (by decide +kernel) (qK (v := .pointer (some ⟨b6, 0, none⟩)) rfl) ?_
  refine qI (i := 7) rfl (by decide +kernel) (qG rfl rfl rfl rfl 0 rfl) ?_
  refine wE (i := 8) rfl (by decide +kernel) ?_
  refine qL 0 (v := .int .u64 _) rfl rfl rfl rfl ?_
  refine qI (i := 9) rfl (by decide +kernel) (pv_shr _ 32 (.inr rfl) rfl rfl rfl rfl (by omega)) ?_
  refine dw_some (i := 10) rfl (by decide +kernel) rfl fun r4 hr4 => ?_
  refine qI (i := 11) rfl (by decide +kernel) (qK (v := .pointer (some ⟨b6, 0, none⟩)) rfl) ?_
  refine qI (i := 12) rfl (by decide +kernel) (qG rfl rfl rfl rfl 0 rfl) ?_
  refine wV (i := 13) rfl (by decide +kernel) (by decide +kernel) ?_
  refine qY 0 (v := .int .u64 _) (vs := [_]) (c' := [_]) rfl rfl rfl rfl rfl rfl rfl rfl rfl ?_
  refine wN [_] rfl ?_
  refine zI rfl ?_
  refine qB rfl ?_
  refine qA (qC (v := .int .i64 _) rfl) ?_
  refine qA (qS rfl (by omega)) ?_
  refine qA (qD (v := .int .i64 _) rfl) ?_
  refine ⟨(k + 1, r4), ⟨rfl, trivial⟩, rfl, rfl, E_k, fun h3 E3 => hlt, by first | omega | (dsimp only; omega), ?_⟩
  repeat (first | exact qW _ _ _ | refine wA (by decide) ?_ | refine qV rfl ?_ | refine wB rfl ?_)
 ·skip
  refine wS ?_
  refine qE ?_
  refine qB rfl ?_
  refine qA (qC (v := .pointer (some ⟨b6, 0, none⟩)) rfl) ?_
  refine qA (qD (v := .pointer (some ⟨b6, 0, none⟩)) rfl) ?_
  refine qQ ?_
  refine qM (vs := [_]) Tryz.results8 ⟨qJ rfl rfl, trivial⟩ fun V => ?_
  exact ⟨_, [_], rfl, V, E_k, b6, x, rfl, rfl⟩
theorem boolI {p q : Bool} (e : p = true ↔ q = true) : Value.bool p = Value.bool q := by rw [Bool.eq_iff_iff.2 e]
theorem sameInts_ok (a b : List Int) (A B : Option Addr) (ca cb : Nat) (h : AH) (Ra : Row h 1 intC A a) (Rb : Row h 1 intC B b) (ha : a.length < 2 ^ 40) :
  FnT Tryz.prog 23 #[.slice A a.length ca, .slice B b.length cb] h (fun v _ => v = .bool (decide (a = b))) := by
 refine wH Tryz.func23 rfl Tryz.ntmps23 rfl ?_
 refine qE ?_
 refine qB rfl ?_
 refine qA (qD (v := .bool _) rfl) ?_
 refine qE ?_
 refine qB rfl ?_
 refine qA (qC (v := .slice _ _ _) rfl) ?_
 refine qA (wP rfl rfl) ?_
 refine qA (qC (v := .slice _ _ _) rfl) ?_
 refine qA (wP rfl rfl) ?_
 refine qA (qK (v := .bool _) rfl) ?_
 refine qA (qD (v := .bool _) rfl) ?_
 refine qE ?_
 refine qE ?_
 refine qB rfl ?_
 refine qA (qD (v := .int .i64 _) rfl) ?_
 refine qT ?_
 refine xp_loopM [5, 6, 12, 13, 14, 15, 16, 17, 18, 19, 20, 21, 22, 23, 24, 25, 26, 27, 28, 29] 0 (fun k : Nat => [(5, .bool (decide (a.length = b.length ∧ a.take k = b.take k))), (6, .int .i64 k)]) (fun k D L h' => D = [] ∧ k ≤ a.length ∧ Ext h h' ∧ L = []) (fun k => a.length - k) 0 ⟨by refine boolI ?_; simp; omega, rfl, trivial⟩ ⟨rfl, Nat.zero_le _, Ext.refl h, rfl⟩ ?_
 rintro k T D' L' h' ⟨rfl, hk, E, rfl⟩
 refine qE ?_
 refine qE ?_
 refine qB rfl ?_
 refine qA (qC (v := .bool _) rfl) ?_
 refine qA (qC (v := .bool _) rfl) ?_
 by_cases hp : a.length = b.length ∧ a.take k = b.take k
 ·have hb : decide (a.length = b.length ∧ a.take k = b.take k) = true := by simpa using hp
  refine qF rfl hb ?_
  refine qA (qC (v := .int .i64 _) rfl) ?_
  refine qF rfl hb ?_
  refine qA (qC (v := .slice _ _ _) rfl) ?_
  refine qF rfl hb ?_
  refine qA (wP rfl rfl) ?_
  refine qF rfl hb ?_
  refine qA (qK (v := .bool _) rfl) ?_
  refine qA (qZ rfl hb (v := .bool _) rfl) ?_
  refine qP rfl (fun ht => ?_) (fun ht => ?_)
  ·skip
   have hlt : k < a.length := by simpa using ht
   have hlt2 : k < b.length := by omega
   obtain ⟨g, off, rfl, hc⟩ := (Ra.ext E).at (by omega) hlt
   obtain ⟨g2, off2, rfl, hc2⟩ := (Rb.ext E).at (by omega) hlt2
   refine qO ?_
   refine qE ?_
   refine qT ?_
   refine xp_dw [] rfl rfl rfl ?_
   refine qI (i := 0) rfl (by decide +kernel) (qC (v := .slice _ _ _) rfl) ?_
   refine qI (i := 1) rfl (by decide +kernel) (qC (v := .int .i64 _) rfl) ?_
   refine qI (i := 2) rfl (by decide +kernel) (pv_index rfl rfl rfl rfl (by omega) (by omega)) ?_
   refine wE (i := 3) rfl (by decide +kernel) ?_
   refine wL rfl rfl (hc 0 (.int .i64 a[k]) rfl) ?_
   refine qI (i := 4) rfl (by decide +kernel) (qC (v := .slice _ _ _) rfl) ?_
   refine qI (i := 5) rfl (by decide +kernel) (qC (v := .int .i64 _) rfl) ?_
   refine qI (i := 6) rfl (by decide +kernel) (pv_index rfl rfl rfl rfl (by omega) (by omega)) ?_
   refine wE (i := 7) rfl (by decide +kernel) ?_
   refine wL rfl rfl (hc2 0 (.int .i64 b[k]) rfl) ?_
   refine qI (i := 8) rfl (by decide +kernel) (qK (v := .bool _) rfl) ?_
   refine qI (i := 9) rfl (by decide +kernel) (qD (v := .bool _) rfl) ?_
   refine zI rfl ?_
   refine qB rfl ?_
   refine qA (qC (v := .int .i64 _) rfl) ?_
   refine qA (qS rfl (by omega)) ?_
   refine qA (qD (v := .int .i64 _) rfl) ?_
   refine ⟨k + 1, ⟨?_, rfl, trivial⟩, fun h3 E3 => ⟨rfl, by omega, E.trans E3, rfl⟩, by omega, ?_⟩
   ·refine boolI ?_
    have e1 := List.take_succ_eq_append_getElem hlt
    have e2 := List.take_succ_eq_append_getElem hlt2
    have e3 : (a.length = b.length ∧ b.take k ++ [a[k]] = b.take k ++ [b[k]]) ↔ a[k] = b[k] := ⟨fun e => by have := List.append_cancel_left e.2; injection this, fun e => ⟨hp.1, by rw [e]⟩⟩
    rw [e1, e2, hp.2, decide_eq_true_iff, e3]
    simp
   ·repeat (first | exact qW _ _ _ | refine wA (by decide) ?_ | refine qV rfl ?_ | refine wB rfl ?_)
  ·skip
   refine wS ?_
   refine qE ?_
   refine qB rfl ?_
   refine qA (qC (v := .bool _) rfl) ?_
   refine qA (qD (v := .bool _) rfl) ?_
   refine qQ ?_
   refine qM (vs := [_]) Tryz.results23 ⟨qJ rfl rfl, trivial⟩ fun V => ?_
   refine ⟨E.trans (qR V), boolI ?_⟩
   have : k = a.length := by simp at ht; omega
   subst this
   have h2 := hp.2
   rw [hp.1, List.take_length, ← hp.1, List.take_length] at h2
   simp [h2]
 ·have hb : decide (a.length = b.length ∧ a.take k = b.take k) = false := by simpa using hp
  refine qH rfl hb ?_
  refine qH rfl hb ?_
  refine qH rfl hb ?_
  refine qH rfl hb ?_
  refine qA (wI rfl hb (v := .bool _) rfl) ?_
  refine qP rfl (fun ht => ?_) (fun ht => ?_)
  ·cases ht
  ·skip
   refine wS ?_
   refine qE ?_
   refine qB rfl ?_
   refine qA (qC (v := .bool _) rfl) ?_
   refine qA (qD (v := .bool _) rfl) ?_
   refine qQ ?_
   refine qM (vs := [_]) Tryz.results23 ⟨qJ rfl rfl, trivial⟩ fun V => ?_
   refine ⟨E.trans (qR V), boolI ?_⟩
   have : a ≠ b := fun e => hp (by rw [e]; exact ⟨rfl, rfl⟩)
   simp [this]
   exact fun x y => hp ⟨x, y⟩
end
end Go.Proofs.YtmpahfdiebhdbaaGreatDoor
namespace Go.Proofs.YtmpahfdiebhdbaaGreatDoor
open Go Go.HL Go.Proofs Go.Wx Go.Rd
section
variable [Lvl]
set_option maxRecDepth 100000
def pairsM (ls bs : List (List Int)) : List HandP := ls.flatMap fun b => bs.map fun o => ⟨b, o⟩
def handsM (m : MachP) : List HandP := pairsM (setsM m.buttons.length) (setsM m.regs.toNat)
theorem pairs_len (bs : List (List Int)) : ∀ ls : List (List Int), (pairsM ls bs).length = ls.length * bs.length
 | [] => by simp [pairsM]
 | a :: ls => by
  have := pairs_len bs ls
  unfold pairsM at this ⊢
  rw [List.flatMap_cons, List.length_append, this, List.length_map, List.length_cons, Nat.add_mul, Nat.one_mul, Nat.add_comm]
theorem pairs_at {bs : List (List Int)} {j : Nat} {b o : List Int} (h2 : bs[j]? = some o) : ∀ {ls : List (List Int)} {k : Nat}, ls[k]? = some b → (pairsM ls bs)[k * bs.length + j]? = some ⟨b, o⟩
 | [], k, h1 => by simp at h1
 | a :: ls, 0, h1 => by
  simp at h1
  subst h1
  have hj := (List.getElem?_eq_some_iff.1 h2).1
  unfold pairsM
  rw [List.flatMap_cons, List.getElem?_append_left (by simpa using hj)]
  simp [h2]
 | a :: ls, k + 1, h1 => by
  have := pairs_at h2 (ls := ls) (k := k) (by simpa using h1)
  unfold pairsM at this ⊢
  rw [List.flatMap_cons, List.getElem?_append_right (by simp [Nat.add_mul]; omega)]
  rw [show (k + 1) * bs.length + j - (bs.map fun o => (⟨a, o⟩ : HandP)).length = k * bs.length + j by simp [Nat.add_mul]; omega]
  exact this
def TA (h : AH) (a : HandP) (v : Value) : Prop := HandV h a v
set_option maxHeartbeats 4000000 in
theorem hands1_ok (m : MachP) (hb : m.buttons.length ≤ 30) (hr : 0 ≤ m.regs ∧ m.regs ≤ 30) (b1 : Nat) (AB AQ AL AW : Option Addr) (cB cQ cL cW : Nat) (h0 : AH)
  (CM : Cells h0 b1 0 [.int .i64 m.rods, .int .i64 m.levers, .int .i64 m.regs, .int .i64 m.travel, .int .i64 m.opn, .slice AB m.buttons.length cB, .slice AQ m.pins.length cQ, .slice AL m.links.length cL, .slice AW m.weights.length cW]) :
  IterS Tryz.prog (.func (.func 71) #[] #[.pointer (some ⟨b1, 0, none⟩)]) h0 (handsM m) TA := by
 intro fn fs cs I F hI hF Y h M E0 hi
 obtain ⟨R, hR⟩ : ∃ R, R = (setsM m.regs.toNat).length := ⟨_, rfl⟩
 refine fnM_body (caps := [.pointer (some ⟨b1, 0, none⟩)]) rfl rfl Tryz.func71 rfl Tryz.ntmps71 rfl ?_
 refine goes_front ?_
 refine goes_front ?_
 refine qE ?_
 refine qB rfl ?_
 refine op_boxF 0 (v := _) (cs := [_]) rfl rfl rfl fun b2 hb2 => ?_
 refine qN (_ :: _ :: _) rfl ?_
 refine qE ?_
 refine qB rfl ?_
 refine qA (qG rfl rfl rfl rfl _ rfl) ?_
 refine wp_pub 0 rfl rfl ?_
 intro h2 E2 p2
 refine qN (_ :: _ :: _) rfl ?_
 have CM2 := CM.ext (E0.trans E2)
 refine wL (v := .slice AB m.buttons.length cB) rfl rfl (CM2 5 _ rfl) ?_
 refine qA (wP rfl rfl) ?_
 refine wJ (caps := []) (vs := [.int .i64 _]) rfl rfl rfl (choices_ok m.buttons.length hb _ rfl h2) ?_
 rintro y h4 E4 It
 refine qT ?_
 have p2' : ∀ {h'}, Ext h4 h' → h' b2 = some (.cells #[.func fn fs cs] 132 (0, 0)) := fun E => E _ _ (E4 _ _ p2)
 refine xp_rangeFuncF 0 rfl rfl ?_
 intro r l lp htm hpr has hbd V0
 refine CallV.mono (It (.yield l) #[] #[] (fun k h' M' => Ext h4 h' ∧ ∃ M2, M' = some (l, obL lp .ready none) :: none :: M2 ∧ I (k * R) h' M2) (fun h' M' => Ext h4 h' ∧ ∃ M2, M' = some (l, obL lp .done (some .ret)) :: none :: M2 ∧ F h' M2)
  (fun k h1 h2 M E I' => ⟨I'.1.trans E, I'.2.imp fun M2 ⟨e, i⟩ => ⟨e, hI _ _ _ _ E i⟩⟩) (fun h1 h2 M E I' => ⟨I'.1.trans E, I'.2.imp fun M2 ⟨e, i⟩ => ⟨e, hF _ _ _ E i⟩⟩) ?_ h4 _ (Ext.refl _) ⟨Ext.refl _, M, rfl, by rw [Nat.zero_mul]; exact hI _ _ _ _ (zL E2 E4) hi⟩ V0) ?_ (fun _ _ y => y)
 ·rintro k x v hc M' hk hT ⟨E5, M2, rfl, i5⟩
  obtain ⟨BA, cBA, rfl, RB⟩ := hT
  intro V
  refine callV_yield (zK V (i := 0) rfl) hpr rfl htm has hbd ?_
  refine round_enter (i := 0) (r := lp) ?_ V
  refine qU (_ :: _ :: _) rfl ?_
  refine qB rfl ?_
  refine op_allocF 1 (cs := [_]) rfl rfl rfl fun b3 hb3 => ?_
  refine qN (_ :: _ :: _) rfl ?_
  refine qY 1 (v := .slice _ _ _) (vs := [_]) (c' := [_]) rfl rfl rfl rfl rfl rfl rfl rfl rfl ?_
  refine qN (_ :: _ :: _) rfl ?_
  refine ⟨rfl, none, rfl, ?_⟩
  refine qU (_ :: _ :: _) rfl ?_
  refine qT ?_
  refine goes_pub 1 rfl ?_
  intro h6 E6 p6
  have CM6 := CM.ext (E0.trans (zL E2 (zL E4 (zL E5 E6))))
  refine qE ?_
  refine qB rfl ?_
  refine qA (qG rfl rfl rfl rfl _ rfl) ?_
  refine wL (v := .int .i64 m.regs) rfl rfl (CM6 2 _ rfl) ?_
  refine wJ (caps := []) (vs := [.int .i64 _]) rfl rfl rfl (choices_ok m.regs.toNat (by omega) _ (by omega) h6) ?_
  rintro y2 h7 E7 It2
  refine qT ?_
  have p27 : ∃ t, h7 b2 = some (.cells #[.func fn fs cs] t (0, 0)) := ⟨_, E7 _ _ (E6 _ _ (E5 _ _ (p2' (Ext.refl _))))⟩
  have p67 : ∃ t, h7 b3 = some (.cells #[.slice BA x.length cBA] t (0, 0)) := ⟨_, E7 _ _ p6⟩
  have RB7 := RB.ext (zL E6 E7)
  refine xp_rangeFuncRF 1 0 rfl rfl rfl ?_
  intro l2 lp2 htm2 hpr2 has2 hbd2 V1
  refine CallV.mono (It2 (.yield l2) #[] #[] (fun j h' M' => Ext h7 h' ∧ ∃ M2, M' = some (l, obL lp .busy none) :: some (l2, obL lp2 .ready none) :: M2 ∧ I (k * R + j) h' M2) (fun h' M' => Ext h7 h' ∧ ∃ M2, M' = some (l, obL lp .busy none) :: some (l2, obL lp2 .done (some .ret)) :: M2 ∧ F h' M2)
   (fun k h1 h2 M E I' => ⟨I'.1.trans E, I'.2.imp fun M2 ⟨e, i⟩ => ⟨e, hI _ _ _ _ E i⟩⟩) (fun h1 h2 M E I' => ⟨I'.1.trans E, I'.2.imp fun M2 ⟨e, i⟩ => ⟨e, hF _ _ _ E i⟩⟩) ?_ h7 _ (Ext.refl _) ⟨Ext.refl _, M2, rfl, hI _ _ _ _ (zL E6 E7) i5⟩ V1) ?_ (fun _ _ y => y)
  ·rintro j z v hcc M' hj hT ⟨E8, M3, rfl, i8⟩
   obtain ⟨OA, cO, rfl, RO⟩ := hT
   obtain ⟨t2, p28⟩ := p27
   obtain ⟨t3, p68⟩ := p67
   intro V
   refine callV_yield (zK V (i := 1) rfl) hpr2 rfl htm2 has2 hbd2 ?_
   refine round_enter (i := 1) (r := lp2) ?_ V
   refine qU (_ :: _ :: _) rfl ?_
   refine qB rfl ?_
   refine qA (qD (v := .slice _ _ _) rfl) ?_
   refine ⟨rfl, none, rfl, ?_⟩
   refine qU (_ :: _ :: _) rfl ?_
   refine qT ?_
   refine qE ?_
   refine qB rfl ?_
   refine wL (v := .func fn fs cs) rfl rfl (by simp only [cellA, E8 _ _ p28]; rfl) ?_
   refine wL (v := .slice BA x.length cBA) rfl rfl (by simp only [cellA, E8 _ _ p68]; rfl) ?_
   refine qA (qC (v := .slice _ _ _) rfl) ?_
   refine qA (zC (zc := [_, _]) (vs := [(0, .slice _ _ _), (1, .slice _ _ _)]) (cs := [_, _]) rfl rfl rfl rfl rfl rfl) ?_
   refine op_fnM [_, _] _ (vs := [.agg #[_, _]]) rfl rfl rfl (Y (k * R + j) ⟨x, z⟩ _ hcc M3 (by rw [hR]; exact pairs_at hj hk) ⟨_, _, rfl, ⟨BA, cBA, rfl, RB7.ext E8⟩, ⟨OA, cO, rfl, RO⟩⟩ i8) ?_
   rintro r h9 M9 E9 hr
   rcases hr with ⟨rfl, i9⟩ | ⟨rfl, f9⟩
   ·skip
    refine qA (qK (v := .bool _) rfl) ?_
    refine wT rfl (rfl) ?_
    refine qO ?_
    intro V2
    have V3 := valid_set (o' := obL lp2 .ready none) V2 (i := 1) rfl
    exact ⟨rfl, ⟨_, _, rfl⟩, _, _, rfl, V3, E9, .inl ⟨rfl, zL E8 E9, M9, rfl, i9⟩⟩
   ·skip
    refine qA (qK (v := .bool _) rfl) ?_
    refine wW rfl (rfl) ?_
    refine qQ ?_
    intro V2
    have V3 := valid_set (o' := obL lp2 .done (some .ret)) V2 (i := 1) rfl
    exact ⟨rfl, ⟨_, _, rfl⟩, _, _, rfl, V3, E9, .inr ⟨rfl, zL E8 E9, M9, rfl, f9⟩⟩
  ·rintro v H ⟨h', M', rfl, V', E', ⟨E8, M3, rfl, i8⟩ | ⟨E8, M3, rfl, f8⟩⟩
   ·refine ⟨h', _, .ready, none, rfl, V', rfl, by simp, fun h'' E'' => ?_⟩
    intro V2
    have V3 := valid_set (o' := obL lp .ready none) V2 (i := 0) rfl
    exact ⟨rfl, ⟨_, _, rfl⟩, _, _, rfl, V3, zL (zL E6 E7) (zL E' E''), .inl ⟨rfl, zL E5 (zL (zL E6 E7) (zL E' E'')), M3, rfl, by rw [Nat.add_mul, Nat.one_mul, hR]; rw [hR] at i8; exact hI _ _ _ _ E'' i8⟩⟩
   ·refine ⟨h', _, .done, some .ret, rfl, V', rfl, by simp, fun h'' E'' => ?_⟩
    refine qQ ?_
    intro V2
    have V3 := valid_set (o' := obL lp .done (some .ret)) V2 (i := 0) rfl
    exact ⟨rfl, ⟨_, _, rfl⟩, _, _, rfl, V3, zL (zL E6 E7) (zL E' E''), .inr ⟨rfl, zL E5 (zL (zL E6 E7) (zL E' E'')), M3, rfl, hF _ _ _ E'' f8⟩⟩
 ·rintro v H ⟨h', M', rfl, V', E', ⟨E8, M3, rfl, i8⟩ | ⟨E8, M3, rfl, f8⟩⟩
  ·refine ⟨h', _, .ready, none, rfl, V', rfl, by simp, fun h'' E'' => ?_⟩
   refine res_listM (vs := []) rfl Tryz.results71 trivial fun hM EM V => ?_
   obtain ⟨h9, E9, e9, V9⟩ := wl_shed [_, _] _ V
   have EE : Ext h' h9 := zL E'' (zL EM E9)
   exact ⟨h9, M3, e9, V9, zL (zL E2 E4) (zL E' EE), .inl (hI _ _ _ _ EE (by unfold handsM; rw [pairs_len, ← hR]; exact i8))⟩
  ·refine ⟨h', _, .done, some .ret, rfl, V', rfl, by simp, fun h'' E'' => ?_⟩
   refine qQ ?_
   refine res_listM (vs := []) rfl Tryz.results71 trivial fun hM EM V => ?_
   obtain ⟨h9, E9, e9, V9⟩ := wl_shed [_, _] _ V
   have EE : Ext h' h9 := zL E'' (zL EM E9)
   exact ⟨h9, M3, e9, V9, zL (zL E2 E4) (zL E' EE), .inr (hF _ _ _ EE f8)⟩
theorem hands_ok (m : MachP) (hb : m.buttons.length ≤ 30) (hr : 0 ≤ m.regs ∧ m.regs ≤ 30) (AB AQ AL AW : Option Addr) (cB cQ cL cW : Nat) (h : AH) :
  FnT Tryz.prog 50 #[machV AB AQ AL AW cB cQ cL cW m] h (fun v h' => IterS Tryz.prog v h' (handsM m) TA) := by
 refine wH Tryz.func50 rfl Tryz.ntmps50 rfl ?_
 refine qE ?_
 refine qB rfl ?_
 refine op_box (v := .agg #[.int .i64 _, .int .i64 _, .int .i64 _, .int .i64 _, .int .i64 _, .slice _ _ _, .slice _ _ _, .slice _ _ _, .slice _ _ _]) (cs := [_, _, _, _, _, _, _, _, _]) rfl rfl fun b1 hb1 => ?_
 refine qN [_] rfl ?_
 refine qA (qD (v := _) rfl) ?_
 refine qE ?_
 refine qB rfl ?_
 refine qA (pv_makeFunc (vs := []) (ws := [_]) rfl rfl) ?_
 refine qA (qD (v := _) rfl) ?_
 refine qQ ?_
 refine qM (vs := [_]) Tryz.results50 ⟨qJ rfl rfl, trivial⟩ fun V => ?_
 exact ⟨(qR V), hands1_ok m hb hr b1 AB AQ AL AW cB cQ cL cW _ (cellsB (cs := [.int .i64 m.rods, .int .i64 m.levers, .int .i64 m.regs, .int .i64 m.travel, .int .i64 m.opn, .slice AB m.buttons.length cB, .slice AQ m.pins.length cQ, .slice AL m.links.length cL, .slice AW m.weights.length cW]) (zK V (i := 0) rfl))⟩
end
end Go.Proofs.YtmpahfdiebhdbaaGreatDoor
namespace Go.Proofs.YtmpahfdiebhdbaaGreatDoor
open Go Go.HL Go.Proofs Go.Wx Go.Rd
section
variable [Lvl]
set_option maxRecDepth 100000
def pickF (m : MachP) (n : Int) : List FaultP := if n < 0 then [] else ((faultsM m).drop n.toNat).take 1
def machL (m : MachP) (hs : List HeardP) : List (List FaultP) := (suspectsM m hs).map (pickF m)
def sndL (m : MachP) (ms : List (List FaultP)) (a : HandP) : List Nat := ms.map fun l => soundsB m l a
def worstN (ss : List Nat) : Nat → Nat
 | 0 => 0
 | k + 1 => max (worstN ss k) ((ss.take (k + 1)).reverse.count (ss.getD k 0))
def bestS (m : MachP) (ms : List (List FaultP)) (q : HandP × Nat) (a : HandP) : HandP × Nat := if worstN (sndL m ms a) ms.length < q.2 then (a, worstN (sndL m ms a) ms.length) else q
def bestN (m : MachP) (ms : List (List FaultP)) (k : Nat) : HandP × Nat := ((handsM m).take k).foldl (bestS m ms) (⟨[], []⟩, ms.length)
def testM (m : MachP) (hs : List HeardP) : HandP × Nat := bestN m (machL m hs) (handsM m).length
def testE (m : MachP) (hs : List HeardP) : Int := if checkHeardM m hs ≠ 0 then checkHeardM m hs else if (suspectsM m hs).length = 0 then 11 else if (testM m hs).2 = (machL m hs).length then 11 else 0
def testA (m : MachP) (hs : List HeardP) : HandP := if testE m hs = 0 then (testM m hs).1 else ⟨[], []⟩
def testN (m : MachP) (hs : List HeardP) : Int := if testE m hs = 0 then (testM m hs).2 else 0
theorem hand_nil (h : AH) : HandV h ⟨[], []⟩ (.agg #[.slice none 0 0, .slice none 0 0]) := ⟨_, _, rfl, ⟨none, 0, rfl, row_nil _ _⟩, ⟨none, 0, rfl, row_nil _ _⟩⟩
theorem susp_bd (m : MachP) (hs : List HeardP) : ∀ k, k ≤ (faultsM m).length → ∀ x ∈ suspN m hs k, -1 ≤ x ∧ x < k ∧ x < (faultsM m).length
 | 0, _, x, h => by
  unfold suspN at h
  split at h
  ·simp at h; subst h; omega
  ·exact absurd h List.not_mem_nil
 | k + 1, hk, x, h => by
  have ih := susp_bd m hs k (by omega)
  unfold suspN at h
  rw [List.getElem?_eq_getElem (by omega : k < (faultsM m).length)] at h
  simp only at h
  split at h
  ·rcases List.mem_append.1 h with h | h
   ·have := ih x h; omega
   ·simp at h; omega
  ·have := ih x h; omega
theorem pick_fok {m : MachP} (M : MOK m) (n : Int) : ∀ f ∈ pickF m n, FOK m f := by
 intro f hf
 unfold pickF at hf
 split at hf
 ·exact absurd hf List.not_mem_nil
 ·exact faults_fok M (List.mem_of_mem_drop (List.mem_of_mem_take hf))
def TB (m : MachP) (h : AH) (l : List FaultP) (c : List Value) : Prop := ∃ y, c = [y] ∧ BrkV h m l y
theorem TB.mono (m : MachP) : Mono (TB m) := fun h h' l c e ⟨y, hc, r⟩ => ⟨y, hc, r.ext e⟩
theorem tb_of {m : MachP} {h : AH} {l l' : List FaultP} (e : l' = l) {z1 z2 z3 z4 : Nat} (B : BrkP h m l z1 z2 z3 z4) : TB m h l' [brkY z1 z2 z3 z4] := by
 subst e
 exact ⟨_, rfl, _, _, _, _, rfl, B⟩
theorem row_part {α : Type} {enc : α → List Value} {h : AH} {A : Option Addr} {l : List α} {m q : Nat} (R : Row h m enc A l) (hq : q < l.length) : Row h m enc (A.map (·.add (q * m))) [l[q]] := by
 refine ⟨fun x hx => R.1 x (by simp at hx; subst hx; exact List.getElem_mem hq), fun hne => ?_⟩
 have hm : 0 < m := by
  rcases Nat.eq_zero_or_pos m with h0 | h0
  ·exact absurd (by simp; exact List.length_eq_zero_iff.1 (by rw [R.1 _ (List.getElem_mem hq), h0])) hne
  ·exact h0
 obtain ⟨g, off, rfl, c⟩ := R.at hm hq
 exact ⟨g, off + q * m, by rw [Option.map_some, add_none], by simpa using c⟩
theorem row_fnil (h : AH) (A : Option Addr) : Row h 1 faultC A ([] : List FaultP) := ⟨fun _ hx => absurd hx List.not_mem_nil, Rd.nil _ _⟩
abbrev lvV (x : Nat) : Value := .int .i64 x
theorem lvBeq (a b : Nat) : ((a : Int) == (b : Int)) = decide (a = b) := by
 by_cases h : a = b
 ·subst h; simp
 ·rw [decide_eq_false h, beq_eq_false_iff_ne]
  omega
theorem lvK : KeyT Tryz.prog 93 lvV := by
 refine ⟨fun e a => chk_int rfl, fun a b => ?_, fun td ht a b => ?_, ⟨_, rfl⟩, fun a => by simp [Instr.sameBits]⟩
 ·refine (eq_int (P := Tryz.prog) (t := 93) (d := 9999) rfl a b).trans ?_
  rw [lvBeq]
 ·cases ht
  right
  show some ((a : Int) == (b : Int)) = _
  rw [lvBeq]
theorem worst_le (ss : List Nat) : ∀ k, worstN ss k ≤ k
 | 0 => Nat.le_refl 0
 | k + 1 => by
  have := worst_le ss k
  have h2 : (ss.take (k + 1)).reverse.count (ss.getD k 0) ≤ k + 1 := Nat.le_trans List.count_le_length (by simp; omega)
  unfold worstN
  omega
theorem hands_hok {m : MachP} (rg : 0 ≤ m.regs ∧ m.regs ≤ 2) {k : Nat} {x : HandP} (h : (handsM m)[k]? = some x) : HOK m x := by
 have hm := List.mem_of_getElem? h
 unfold handsM pairsM at hm
 obtain ⟨b, hb, hm⟩ := List.mem_flatMap.1 hm
 obtain ⟨o, ho, rfl⟩ := List.mem_map.1 hm
 have s := setsM_set ho
 rw [Int.toNat_of_nonneg rg.1] at s
 exact ⟨setsM_set hb, s⟩
def TestI (m : MachP) (ms : List (List FaultP)) (p2 p10 : Nat × Obj) (b4 b5 l : Nat) (r : Loop) (h0 : AH) (k : Nat) (h : AH) (M : Pv) : Prop :=
 Ext h0 h ∧ ∃ (HA OA : Option Addr) (cH cO : Nat), HandR h HA OA (bestN m ms k).1 ∧
  M = [some p2, some (b4, .cells #[.slice HA (bestN m ms k).1.buttons.length cH, .slice OA (bestN m ms k).1.on.length cO] 29 (0, 0)), some (b5, .cells #[.int .i64 ((bestN m ms k).2 : Nat)] 3 (0, 0)), some p10, none, some (l, obL r .ready none)]
theorem TestI.ext {m : MachP} {ms : List (List FaultP)} {p2 p10 : Nat × Obj} {b4 b5 l : Nat} {r : Loop} {h0 : AH} {k : Nat} {h h' : AH} {M : Pv} (I : TestI m ms p2 p10 b4 b5 l r h0 k h M) (E : Ext h h') : TestI m ms p2 p10 b4 b5 l r h0 k h' M := by
 obtain ⟨E0, HA, OA, cH, cO, RH, e⟩ := I
 exact ⟨E0.trans E, HA, OA, cH, cO, RH.ext E, e⟩
theorem bestN_succ {m : MachP} {ms : List (List FaultP)} {k : Nat} {a : HandP} (h : (handsM m)[k]? = some a) : bestN m ms (k + 1) = bestS m ms (bestN m ms k) a := by
 unfold bestN
 rw [List.take_add_one, h, Option.toList_some, List.foldl_append]
 rfl
set_option maxHeartbeats 8000000 in
theorem Test_ok (hph : Lvl.ph = true) (m : MachP) (hs : List HeardP) (HN : HLen hs) (AB AQ AL AW UA : Option Addr) (cB cQ cL cW cU : Nat) (cs : List (List Value)) (h : AH) (RM : MachR h AB AQ AL AW m) (h0 : m.weights.length < 2 ^ 40) (R : Row h 3 id UA cs) (EL : Els h TU hs cs) :
  FnT Tryz.prog 22 #[machV AB AQ AL AW cB cQ cL cW m, .slice UA hs.length cU] h (fun v h' => ∃ H, v = .tuple #[H, .int .i64 (testN m hs), .int .i64 (testE m hs)] ∧ HandV h' (testA m hs) H) := by
 refine wH Tryz.func22 rfl Tryz.ntmps22 rfl ?_
 refine qE ?_
 refine qB rfl ?_
 refine op_box (v := .agg #[.int .i64 _, .int .i64 _, .int .i64 _, .int .i64 _, .int .i64 _, .slice _ _ _, .slice _ _ _, .slice _ _ _, .slice _ _ _]) (cs := [_, _, _, _, _, _, _, _, _]) rfl rfl fun b2 hb2 => ?_
 refine qN [_] rfl ?_
 refine zE (cs := [_, _]) rfl rfl fun b4 hb4 => ?_
 refine qN [_, _] rfl ?_
 refine zE (cs := [_]) rfl rfl fun b5 hb5 => ?_
 refine qN [_, _, _] rfl ?_
 refine qA (qD (v := .int .i64 _) rfl) ?_
 refine qE ?_
 refine qE ?_
 refine qB rfl ?_
 refine wO 0 (vs := [.int .i64 _, .int .i64 _, .int .i64 _, .int .i64 _, .int .i64 _, .slice _ _ _, .slice _ _ _, .slice _ _ _, .slice _ _ _]) rfl rfl rfl rfl rfl ?_
 refine qA (qC (v := .slice _ _ _) rfl) ?_
 refine wJ (caps := []) (vs := [.agg #[.int .i64 _, .int .i64 _, .int .i64 _, .int .i64 _, .int .i64 _, .slice _ _ _, .slice _ _ _, .slice _ _ _, .slice _ _ _], .slice _ _ _]) rfl rfl rfl (checkHeard_ok m hs HN AB AQ AL AW UA cB cQ cL cW cU cs h (RM.ext (Ext.refl _)) h0 (R.ext (Ext.refl _)) (EL.ext TU.mono (Ext.refl _))) ?_
 rintro _ h3 E3 rfl
 refine qA (qD (v := .int .i64 _) rfl) ?_
 refine qE ?_
 refine qB rfl ?_
 refine qA (qC (v := .int .i64 _) rfl) ?_
 refine qA (qK (v := .bool _) rfl) ?_
 refine qP rfl (fun hc => ?_) (fun hc => ?_)
 ·skip
  have hc' : checkHeardM m hs ≠ 0 := by simpa using hc
  have e : testE m hs = checkHeardM m hs := by rw [testE, if_pos hc']
  refine qE ?_
  refine qB rfl ?_
  refine qA (zC (zc := [_, _]) (vs := []) (cs := [_, _]) rfl rfl rfl rfl rfl rfl) ?_
  refine qA (qC (v := .int .i64 _) rfl) ?_
  refine qY 1 (v := .agg #[.slice _ _ _, .slice _ _ _]) (vs := [_, _]) (c' := [_, _]) rfl rfl rfl rfl rfl rfl rfl rfl rfl ?_
  refine qN [_, _, _] rfl ?_
  refine qY 2 (v := .int .i64 _) (vs := [_]) (c' := [_]) rfl rfl rfl rfl rfl rfl rfl rfl rfl ?_
  refine qN [_, _, _] rfl ?_
  refine qA (qD (v := .int .i64 _) rfl) ?_
  refine qQ ?_
  refine qM (vs := [_, _, _]) Tryz.results22 ⟨resV_agg 1 rfl rfl rfl rfl rfl (vs := [.slice _ _ _, .slice _ _ _]) rfl, resV_one 2 rfl rfl rfl rfl (v := .int .i64 _) rfl, qJ rfl rfl, trivial⟩ fun V => ?_
  refine ⟨(zL E3 (qR V)), .agg #[.slice none 0 0, .slice none 0 0], by rw [testN, e, if_neg hc']; rfl, ?_⟩
  rw [testA, e, if_neg hc']
  exact hand_nil _
 ·skip
  have hc' : checkHeardM m hs = 0 := by simpa using hc
  obtain ⟨M, hl5, X⟩ := checkHeard_zero hc'
  have lv := M.levers
  have pl := M.pl
  have ll := M.ll
  have bl := M.bl
  have rg := M.regs
  have fl := faults_len m
  refine qO ?_
  refine qE ?_
  refine qB rfl ?_
  refine wO 0 (vs := [.int .i64 _, .int .i64 _, .int .i64 _, .int .i64 _, .int .i64 _, .slice _ _ _, .slice _ _ _, .slice _ _ _, .slice _ _ _]) rfl rfl rfl rfl rfl ?_
  refine qA (qC (v := .slice _ _ _) rfl) ?_
  refine wJ (caps := []) (vs := [.agg #[.int .i64 _, .int .i64 _, .int .i64 _, .int .i64 _, .int .i64 _, .slice _ _ _, .slice _ _ _, .slice _ _ _, .slice _ _ _], .slice _ _ _]) rfl rfl rfl (suspects_ok hph m M hs X HN.1 AB AQ AL AW UA cB cQ cL cW cU cs h3 (RM.ext E3) (R.ext E3) (EL.ext TU.mono E3)) ?_
  rintro _ h4 E4 ⟨SA, cS, rfl, RS⟩
  refine qA (qD (v := .slice _ _ _) rfl) ?_
  refine qE ?_
  refine qE ?_
  refine qB rfl ?_
  refine qA (qC (v := .slice _ _ _) rfl) ?_
  refine qA (wP rfl rfl) ?_
  refine qA (qK (v := .bool _) rfl) ?_
  refine qP rfl (fun hz => ?_) (fun hz => ?_)
  ·skip
   have hz' : (suspectsM m hs).length = 0 := by simpa using hz
   have e : testE m hs = 11 := by rw [testE, if_neg (by simp [hc']), if_pos hz']
   refine qE ?_
   refine qB rfl ?_
   refine qA (zC (zc := [_, _]) (vs := []) (cs := [_, _]) rfl rfl rfl rfl rfl rfl) ?_
   refine qY 1 (v := .agg #[.slice _ _ _, .slice _ _ _]) (vs := [_, _]) (c' := [_, _]) rfl rfl rfl rfl rfl rfl rfl rfl rfl ?_
   refine qN [_, _, _] rfl ?_
   refine qY 2 (v := .int .i64 _) (vs := [_]) (c' := [_]) rfl rfl rfl rfl rfl rfl rfl rfl rfl ?_
   refine qN [_, _, _] rfl ?_
   refine qA (qD (v := .int .i64 _) rfl) ?_
   refine qQ ?_
   refine qM (vs := [_, _, _]) Tryz.results22 ⟨resV_agg 1 rfl rfl rfl rfl rfl (vs := [.slice _ _ _, .slice _ _ _]) rfl, resV_one 2 rfl rfl rfl rfl (v := .int .i64 _) rfl, qJ rfl rfl, trivial⟩ fun V => ?_
   refine ⟨(zL (zL E3 E4) (qR V)), .agg #[.slice none 0 0, .slice none 0 0], by rw [testN, e, if_neg (by decide)]; rfl, ?_⟩
   rw [testA, e, if_neg (by decide)]
   exact hand_nil _
  ·skip
   have hz' : ¬ (suspectsM m hs).length = 0 := by simpa using hz
   obtain ⟨ns, hns⟩ : ∃ ns, ns = suspectsM m hs := ⟨_, rfl⟩
   have hnb : ∀ x ∈ ns, -1 ≤ x ∧ x < (faultsM m).length := fun x hx => by rw [hns] at hx; have := susp_bd m hs _ (Nat.le_refl _) x hx; omega
   have hnl : ns.length ≤ (faultsM m).length + 1 := by rw [hns]; exact suspN_len m hs _
   have eE : testE m hs = if (testM m hs).2 = (machL m hs).length then 11 else 0 := by rw [testE, if_neg (by simp [hc']), if_neg hz']
   rw [← hns] at RS hz' ⊢
   refine qO ?_
   refine qE ?_
   refine qB rfl ?_
   refine wO 0 (vs := [.int .i64 _, .int .i64 _, .int .i64 _, .int .i64 _, .int .i64 _, .slice _ _ _, .slice _ _ _, .slice _ _ _, .slice _ _ _]) rfl rfl rfl rfl rfl ?_
   refine wJ (caps := []) (vs := [.agg #[.int .i64 _, .int .i64 _, .int .i64 _, .int .i64 _, .int .i64 _, .slice _ _ _, .slice _ _ _, .slice _ _ _, .slice _ _ _]]) rfl rfl rfl (faults_okC m (by omega) (by omega) (by omega) AB AQ AL AW cB cQ cL cW h4) ?_
   rintro _ h5 E5 ⟨⟨FA, cF, rfl, RF⟩, hcF⟩
   have hcF : (faultsM m).length ≤ cF := hcF
   refine qA (qD (v := .slice _ _ _) rfl) ?_
   refine qE ?_
   refine qB rfl ?_
   refine zE (cs := [_]) rfl rfl fun b10 hb10 => ?_
   refine qN [_, _, _, _] rfl ?_
   refine qE ?_
   refine qE ?_
   refine qB rfl ?_
   refine qA (qC (v := .slice _ _ _) rfl) ?_
   refine qA (wP rfl rfl) ?_
   refine qA (qC (v := .int .i64 _) rfl) ?_
   refine qT ?_
   refine goes_more ?_
   refine qU [_, _, _, _, _] rfl ?_
   obtain ⟨T1, hT1⟩ : ∃ x : TypeId, x = 102 := ⟨_, rfl⟩
   refine xp_loopL [12, 37, 38, 39, 40, 41, 42, 43, 44, 45, 46, 47, 48, 49, 50, 51, 52, 53, 54, 55, 56, 57, 58] 5 (α := Nat × Acc × List (List Value)) (fun ⟨k, a, gs⟩ => [(37, .int .i64 k)]) (fun ⟨k, a, gs⟩ L => (L.set 3 (some (b10, .cells #[.slice a.A a.n a.c] 101 (0, 0)))).set 4 (a.p)) (fun ⟨k, a, gs⟩ h_k => k ≤ ns.length ∧ AccR 102 1 (gs.flatMap id) a ∧ Els h_k (TB m) ((ns.take k).map (pickF m)) gs ∧ ∀ x ∈ gs, x.length = 1) (fun ⟨k, a, gs⟩ => ns.length - k) ((0, acc0, [])) ⟨rfl, trivial⟩ (rfl) (⟨Nat.zero_le _, accR0, Els.nil _ _, fun _ hx => absurd hx List.not_mem_nil⟩) ?_
   rintro ⟨k, a, gs⟩ T1 h_k E_k J_k
   refine qU [_, _, _, _, _] rfl ?_
   obtain ⟨K1, K2, K3, K4⟩ := J_k
   refine qE ?_
   refine qB rfl ?_
   refine qA (qK (v := .bool _) rfl) ?_
   refine qE ?_
   refine qP rfl (fun hk => ?_) (fun hk => ?_)
   ·skip
    have hkl : k < ns.length := ltI hk
    have hnk := hnb _ (List.getElem_mem hkl)
    have hgl : (gs.flatMap id).length = k := by rw [wU (enc := id) (m := 1) K4, K3.1]; simp; omega
    have htk : (ns.take (k + 1)).map (pickF m) = (ns.take k).map (pickF m) ++ [pickF m ns[k]] := by rw [take_snoc hkl, List.map_append]; rfl
    obtain ⟨g, off, hA, hc⟩ := (RS.ext (zL E5 E_k)).at (by omega) hkl
    refine qO ?_
    refine qE ?_
    refine qT ?_
    refine qE ?_
    refine qB rfl ?_
    refine qA (wD rfl hA rfl rfl rfl (by omega) (by omega)) ?_
    refine wL (v := .int .i64 _) rfl rfl ((hc) 0 _ rfl) ?_
    refine qA (qD (v := .int .i64 _) rfl) ?_
    refine qE ?_
    refine qE ?_
    refine qB rfl ?_
    refine qA (qC (v := .int .i64 _) rfl) ?_
    refine qA (qK (v := .bool _) rfl) ?_
    refine qP rfl (fun hneg => ?_) (fun hneg => ?_)
    ·skip
     have hneg' : ns[k] < 0 := by simpa using hneg
     have hpk : pickF m ns[k] = [] := by rw [pickF, if_pos hneg']
     refine qE ?_
     refine xp_dw [] rfl rfl rfl ?_
     refine wE (i := 0) rfl (by decide +kernel) ?_
     refine qL 3 (v := .slice _ _ _) rfl rfl rfl rfl ?_
     refine wE (i := 1) rfl (by decide +kernel) ?_
     refine wO 0 (vs := [.int .i64 _, .int .i64 _, .int .i64 _, .int .i64 _, .int .i64 _, .slice _ _ _, .slice _ _ _, .slice _ _ _, .slice _ _ _]) rfl rfl rfl rfl rfl ?_
     refine dw_eff (i := 2) rfl (by decide +kernel) ?_
     refine wJ (caps := []) (vs := [.agg #[.int .i64 _, .int .i64 _, .int .i64 _, .int .i64 _, .int .i64 _, .slice _ _ _, .slice _ _ _, .slice _ _ _, .slice _ _ _], .slice _ _ _]) rfl rfl rfl (broken_ok m M [] (fun f hf => absurd hf List.not_mem_nil) (by decide) AB AQ AL AW none cB cQ cL cW 0 h_k (RM.ext (zL (zL (zL E3 E4) E5) E_k)) (row_fnil _ _)) ?_
     rintro _ h6 E6 ⟨z1, z2, z3, z4, rfl, BB⟩
     refine ⟨ext_wlm E6 _, ?_⟩
     refine dw_eff (i := 3) rfl (by decide +kernel) ?_
     refine qX (zc := [_]) (vs := [(0, _)]) (cs := [_]) rfl rfl rfl rfl rfl rfl rfl fun b46 hb46 => ?_
     refine ⟨ext_new hb46 _, ?_⟩
     refine wN [_, _, _, _, _, _] rfl ?_
     refine wV (i := 4) rfl (by decide +kernel) (by decide +kernel) ?_
     refine zA 4 K2 rfl rfl rfl (fun V => rdP V (i := 5) rfl) rfl rfl rfl rfl rfl rfl rfl rfl rfl (by omega) rfl (by rw [hgl]; simp; omega) fun a2 h2a E2a ha2 => ?_
     refine wN [_, _, _, _, _, _] rfl ?_
     refine wV (i := 5) rfl (by decide +kernel) (by decide +kernel) ?_
     refine qY 3 (v := .slice _ _ _) (vs := [_]) (c' := [_]) rfl rfl rfl rfl rfl rfl rfl rfl rfl ?_
     refine wN [_, _, _, _, _, _] rfl ?_
     refine zI rfl ?_
     refine wS ?_
     refine qB rfl ?_
     refine qA (qS rfl (by omega)) ?_
     refine qA (qC (v := .int .i64 _) rfl) ?_
     refine ⟨(k + 1, a2, gs ++ [[brkY z1 z2 z3 z4]]), ⟨rfl, trivial⟩, rfl, rfl, (zL (zL E_k E6) E2a), fun h3 E3 => ⟨hkl, by rw [List.flatMap_append]; exact ha2, by rw [htk]; exact (Els.snoc (K3.ext (TB.mono m) (zL E6 E2a)) (tb_of hpk (BB.ext E2a))).ext (TB.mono m) E3, one_len K4 rfl⟩, by first | omega | (dsimp only; omega), ?_⟩
     repeat (first | exact qW _ _ _ | refine wA (by decide) ?_ | refine qV rfl ?_ | refine wB rfl ?_)
    ·skip
     have hneg' : ¬ ns[k] < 0 := by simpa using hneg
     obtain ⟨q, hq⟩ : ∃ q : Nat, ns[k] = q := ⟨ns[k].toNat, by omega⟩
     have hqf : q < (faultsM m).length := by omega
     have hpk : pickF m ns[k] = [(faultsM m)[q]] := by rw [pickF, if_neg hneg', hq]; rw [Int.toNat_natCast, List.drop_eq_getElem_cons hqf]; rfl
     have hfq : ∀ f ∈ [(faultsM m)[q]], FOK m f := fun f hf => pick_fok M ns[k] f (by rw [hpk]; exact hf)
     have RF1 : Row h_k 1 faultC (FA.map (·.add (q * 1))) [(faultsM m)[q]] := row_part (RF.ext E_k) hqf
     refine qO ?_
     refine xp_dw [] rfl rfl rfl ?_
     refine wE (i := 0) rfl (by decide +kernel) ?_
     refine qL 3 (v := .slice _ _ _) rfl rfl rfl rfl ?_
     refine wE (i := 1) rfl (by decide +kernel) ?_
     refine wO 0 (vs := [.int .i64 _, .int .i64 _, .int .i64 _, .int .i64 _, .int .i64 _, .slice _ _ _, .slice _ _ _, .slice _ _ _, .slice _ _ _]) rfl rfl rfl rfl rfl ?_
     refine qI (i := 2) rfl (by decide +kernel) (qC (v := .slice _ _ _) rfl) ?_
     refine qI (i := 3) rfl (by decide +kernel) (qC (v := .int .i64 _) rfl) ?_
     refine qI (i := 4) rfl (by decide +kernel) (qC (v := .int .i64 _) rfl) ?_
     refine qI (i := 5) rfl (by decide +kernel) (qS rfl (by omega)) ?_
     refine qI (i := 6) rfl (by decide +kernel) (pv_sliceS q (q + 1) rfl rfl rfl (by omega) (by omega) rfl rfl (by omega) (by omega) (A' := FA.map (·.add (q * 1))) (l' := 1) (c' := cF - q) (by rw [if_neg (by omega)]; rfl) (by omega) rfl) ?_
     refine dw_eff (i := 7) rfl (by decide +kernel) ?_
     refine wJ (caps := []) (vs := [_, .slice _ _ _]) rfl rfl rfl (broken_ok m M [(faultsM m)[q]] hfq (by show 1 < 2 ^ 20; decide) AB AQ AL AW _ cB cQ cL cW (cF - q) h_k (RM.ext (zL (zL (zL E3 E4) E5) E_k)) RF1) ?_
     rintro _ h6 E6 ⟨z1, z2, z3, z4, rfl, BB⟩
     refine ⟨ext_wlm E6 _, ?_⟩
     refine dw_eff (i := 8) rfl (by decide +kernel) ?_
     refine qX (zc := [_]) (vs := [(0, _)]) (cs := [_]) rfl rfl rfl rfl rfl rfl rfl fun b56 hb56 => ?_
     refine ⟨ext_new hb56 _, ?_⟩
     refine wN [_, _, _, _, _, _] rfl ?_
     refine wV (i := 9) rfl (by decide +kernel) (by decide +kernel) ?_
     refine zA 4 K2 rfl rfl rfl (fun V => rdP V (i := 5) rfl) rfl rfl rfl rfl rfl rfl rfl rfl rfl (by omega) rfl (by rw [hgl]; simp; omega) fun a2 h3a E3a ha2 => ?_
     refine wN [_, _, _, _, _, _] rfl ?_
     refine wV (i := 10) rfl (by decide +kernel) (by decide +kernel) ?_
     refine qY 3 (v := .slice _ _ _) (vs := [_]) (c' := [_]) rfl rfl rfl rfl rfl rfl rfl rfl rfl ?_
     refine wN [_, _, _, _, _, _] rfl ?_
     refine zI rfl ?_
     refine qB rfl ?_
     refine qA (qS rfl (by omega)) ?_
     refine qA (qC (v := .int .i64 _) rfl) ?_
     refine ⟨(k + 1, a2, gs ++ [[brkY z1 z2 z3 z4]]), ⟨rfl, trivial⟩, rfl, rfl, (zL (zL E_k E6) E3a), fun h3 E3 => ⟨hkl, by rw [List.flatMap_append]; exact ha2, by rw [htk]; exact (Els.snoc (K3.ext (TB.mono m) (zL E6 E3a)) (tb_of hpk (BB.ext E3a))).ext (TB.mono m) E3, one_len K4 rfl⟩, by first | omega | (dsimp only; omega), ?_⟩
     repeat (first | exact qW _ _ _ | refine wA (by decide) ?_ | refine qV rfl ?_ | refine wB rfl ?_)
   ·skip
    have hke : k = ns.length := by have := geI hk; omega
    subst hke
    rw [List.take_length] at K3
    obtain ⟨ms, hms⟩ : ∃ ms, ms = ns.map (pickF m) := ⟨_, rfl⟩
    have hmh : machL m hs = ms := by rw [machL, ← hns, hms]
    have hml : ms.length = ns.length := by rw [hms, List.length_map]
    have hfm : ∀ l ∈ ms, ∀ f ∈ l, FOK m f := fun l hl f hf => by
     rw [hms] at hl
     obtain ⟨x, _, rfl⟩ := List.mem_map.1 hl
     exact pick_fok M x f hf
    rw [← hms] at K3
    have K3l := K3.1
    refine wS ?_
    obtain ⟨p7, A7, n7, c7⟩ := a
    obtain rfl : n7 = ms.length := by have := AccR.len K2; rw [wU (enc := id) (m := 1) K4] at this; dsimp only at this; omega
    dsimp only
    refine goes_pubO 4 rfl ?_
    intro g1 G1 P1
    refine qU [_, _, _, _, _] rfl ?_
    have RB : Row g1 1 id A7 gs := ⟨K4, AccR.rd K2 P1⟩
    have EB : Els g1 (TB m) ms gs := K3.ext (TB.mono m) G1
    refine qE ?_
    refine qB rfl ?_
    refine qL 3 (v := .slice _ _ _) rfl rfl rfl rfl ?_
    refine qA (wP rfl rfl) ?_
    refine qY 2 (v := .int .i64 _) (vs := [_]) (c' := [_]) rfl rfl rfl rfl rfl rfl rfl rfl rfl ?_
    refine qN [_, _, _, _, _] rfl ?_
    refine qE ?_
    refine qE ?_
    refine qB rfl ?_
    refine wO 0 (vs := [.int .i64 _, .int .i64 _, .int .i64 _, .int .i64 _, .int .i64 _, .slice _ _ _, .slice _ _ _, .slice _ _ _, .slice _ _ _]) rfl rfl rfl rfl rfl ?_
    refine wJ (caps := []) (vs := [.agg #[.int .i64 _, .int .i64 _, .int .i64 _, .int .i64 _, .int .i64 _, .slice _ _ _, .slice _ _ _, .slice _ _ _, .slice _ _ _]]) rfl rfl rfl (hands_ok m (by omega) (by omega) AB AQ AL AW cB cQ cL cW g1) ?_
    rintro y h6 E6 It
    refine qT ?_
    refine xp_rangeFunc rfl ?_
    intro r l lp htm hpr has hbd V0
    refine CallV.mono (It (.yield l) #[] #[] (TestI m ms _ _ b4 b5 l lp h6) (fun _ _ => False) (fun k h1 h2 M E I => I.ext E) (fun _ _ _ _ f => f) ?_ h6 _ (Ext.refl _) ⟨Ext.refl _, none, none, 0, 0, ⟨row_nil _ _, row_nil _ _⟩, rfl⟩ V0) ?_ (fun _ _ y => y)
    ·rintro k x v hc M' hk hT ⟨E7, HA, OA, cH, cO, RH, rfl⟩
     obtain ⟨HB, OB, cHB, cOB, rfl, RX⟩ := HandV.open hT
     intro V
     refine callV_yield (zK V (i := 5) rfl) hpr rfl htm has hbd ?_
     refine round_enter (i := 5) (r := lp) ?_ V
     refine qU [_, _, _, _, _, _] rfl ?_
     refine qB rfl ?_
     refine zE (cs := [_, _]) rfl rfl fun b13 hb13 => ?_
     refine qN [_, _, _, _, _, _, _] rfl ?_
     refine qY 6 (v := .agg #[.slice _ _ _, .slice _ _ _]) (vs := [_, _]) (c' := [_, _]) rfl rfl rfl rfl rfl rfl rfl rfl rfl ?_
     refine qN [_, _, _, _, _, _, _] rfl ?_
     refine ⟨rfl, none, rfl, ?_⟩
     refine qU [_, _, _, _, _, _, _] rfl ?_
     refine qT ?_
     refine qE ?_
     refine qB rfl ?_
     refine op_makeMap fun b64 hb64 => ?_
     refine qN [_, _, _, _, _, _, _, _] rfl ?_
     refine qA (qD (v := .map _) rfl) ?_
     refine qE ?_
     refine qB rfl ?_
     refine qA (qD (v := .int .i64 _) rfl) ?_
     refine qE ?_
     refine qE ?_
     refine qB rfl ?_
     refine qL 3 (v := .slice _ _ _) rfl rfl rfl rfl ?_
     refine qA (wP rfl rfl) ?_
     refine qA (qC (v := .int .i64 _) rfl) ?_
     refine qT ?_
     have HX : HOK m x := hands_hok rg hk
     obtain ⟨ss, hss⟩ : ∃ ss, ss = sndL m ms x := ⟨_, rfl⟩
     have hsl : ss.length = ms.length := by rw [hss, sndL, List.length_map]
     have hwl := worst_le ss
     refine xp_loopL [15, 17, 18, 67, 68, 69, 70, 71, 72, 73, 74, 75, 76, 77, 78, 79, 80, 81, 82, 83] 8 (α := Nat) (fun j => [(67, .int .i64 j), (15, .int .i64 (worstN ss j : Nat))]) (fun j L => L.set 7 (some (b64, mapO (encs lvV (cntL (ss.take j).reverse))))) (fun j h_j => j ≤ ms.length) (fun j => ms.length - j) (0) ⟨rfl, rfl, trivial⟩ (rfl) (Nat.zero_le _) ?_
     rintro j T4 h_j E_j J_j
     refine qU [_, _, _, _, _, _, _, _] rfl ?_
     refine qE ?_
     refine qB rfl ?_
     refine qA (qK (v := .bool _) rfl) ?_
     refine qE ?_
     refine qP rfl (fun hj => ?_) (fun hj => ?_)
     ·skip
      have hjl : j < ms.length := ltI hj
      have hsj : ss[j]'(by omega) = soundsB m ms[j] x := by simp [hss, sndL]
      have hsd : ss.getD j 0 = soundsB m ms[j] x := by rw [List.getD_eq_getElem?_getD, List.getElem?_eq_getElem (by omega)]; exact hsj
      have hrv : (ss.take (j + 1)).reverse = soundsB m ms[j] x :: (ss.take j).reverse := by rw [take_snoc (by omega : j < ss.length), List.reverse_append, hsj]; rfl
      have hct : (ss.take j).reverse.count (soundsB m ms[j] x) ≤ j := Nat.le_trans List.count_le_length (by simp; omega)
      obtain ⟨hjc, y0, e0, z1, z2, z3, z4, rfl, BB⟩ := (EB.ext (TB.mono m) (zL E6 (zL E7 E_j))).at hjl
      obtain ⟨g, off, hA, hcc⟩ := (RB.ext (zL E6 (zL E7 E_j))).at (by omega) hjc
      have hcc : Cells h_j g (off + j * 1) [brkY z1 z2 z3 z4] := by rw [← e0]; exact hcc
      refine qO ?_
      refine qE ?_
      refine qT ?_
      refine qE ?_
      refine qB rfl ?_
      refine qA (wD rfl hA rfl rfl rfl (by omega) (by omega)) ?_
      refine wL (v := .func _ _ _) rfl rfl (hcc 0 _ rfl) ?_
      refine qA (qD (v := _) rfl) ?_
      refine qE ?_
      refine qB rfl ?_
      refine qA (qC (v := _) rfl) ?_
      refine wO 6 (vs := [.slice _ _ _, .slice _ _ _]) rfl rfl rfl rfl rfl ?_
      refine wJ  (vs := _) rfl rfl rfl (brk_ok hph m M ms[j] (hfm _ (List.getElem_mem hjl)) x HX z1 z2 z3 z4 HB OB cHB cOB h_j BB (RX.ext E_j)) ?_
      rintro _ h8 E8 rfl
      obtain ⟨s, hs'⟩ : ∃ s, s = soundsB m ms[j] x := ⟨_, rfl⟩
      rw [← hs'] at hrv hct hsd ⊢
      refine qA (qD (v := .int .i64 _) rfl) ?_
      refine qE ?_
      refine qB rfl ?_
      refine qA (qC (v := .map _) rfl) ?_
      refine qA (qC (v := .int .i64 _) rfl) ?_
      refine op_lookup 7 (a := s) (z := .int .i64 0) lvK rfl rfl rfl rfl rfl (cnt_find s (ss.take j).reverse) ?_
      refine qA (qS rfl (by omega)) ?_
      refine op_mapUpdate 7 (a := s) lvK rfl rfl rfl rfl rfl ?_
      refine qN [_, _, _, _, _, _, _, _] rfl ?_
      refine qB rfl ?_
      refine qA (qC (v := .int .i64 _) rfl) ?_
      refine qA (qC (v := .map _) rfl) ?_
      refine qA (qC (v := .int .i64 _) rfl) ?_
      refine op_lookup 7 (a := s) (z := .int .i64 0) (l := cntL (s :: (ss.take j).reverse)) lvK rfl rfl rfl rfl rfl (cnt_find s (s :: (ss.take j).reverse)) ?_
      refine qA (pv_max rfl rfl) ?_
      refine qA (qD (v := .int .i64 _) rfl) ?_
      refine qB rfl ?_
      refine qA (qS rfl (by omega)) ?_
      refine qA (qC (v := .int .i64 _) rfl) ?_
      refine ⟨j + 1, ⟨rfl, intE (by rw [worstN, hsd, hrv]; omega), trivial⟩, rfl, by rw [hrv]; rfl, (zL E_j E8), fun h3 E3 => hjl, by first | omega | (dsimp only; omega), ?_⟩
      repeat (first | exact qW _ _ _ | refine wA (by decide) ?_ | refine qV rfl ?_ | refine wB rfl ?_)
     ·skip
      have hje : j = ms.length := by have := geI hj; omega
      subst hje
      have hb1 := bestN_succ hk (ms := ms)
      refine wS ?_
      refine qE ?_
      refine qB rfl ?_
      refine qA (qC (v := .int .i64 _) rfl) ?_
      refine qL 2 (v := .int .i64 _) rfl rfl rfl rfl ?_
      refine qA (qK (v := .bool _) rfl) ?_
      refine qP rfl (fun hw => ?_) (fun hw => ?_)
      ·skip
       have hw' : worstN (sndL m ms x) ms.length < (bestN m ms k).2 := by rw [← hss]; have := of_decide_eq_true hw; omega
       rw [bestS, if_pos hw'] at hb1
       refine qB rfl ?_
       refine wO 6 (vs := [.slice _ _ _, .slice _ _ _]) rfl rfl rfl rfl rfl ?_
       refine qA (qC (v := .int .i64 _) rfl) ?_
       refine qY 1 (v := .agg #[.slice _ _ _, .slice _ _ _]) (vs := [_, _]) (c' := [_, _]) rfl rfl rfl rfl rfl rfl rfl rfl rfl ?_
       refine qN [_, _, _, _, _, _, _, _] rfl ?_
       refine qY 2 (v := .int .i64 _) (vs := [_]) (c' := [_]) rfl rfl rfl rfl rfl rfl rfl rfl rfl ?_
       refine qN [_, _, _, _, _, _, _, _] rfl ?_
       intro V2
       have V3 := valid_set (o' := obL lp .ready none) V2 (i := 5) rfl
       obtain ⟨h9, E9, e9, V9⟩ := wl_drop [_, _] [_, _, _, _, _, _] V3
       refine ⟨rfl, ⟨_, _, rfl⟩, h9, _, e9, V9, zL E_j E9, .inl ⟨rfl, zL E7 (zL E_j E9), HB, OB, cHB, cOB, ?_, ?_⟩⟩
       ·rw [hb1]; exact RX.ext (zL E_j E9)
       ·rw [hb1, ← hss]
      ·skip
       have hw' : ¬ worstN (sndL m ms x) ms.length < (bestN m ms k).2 := by rw [← hss]; have := of_decide_eq_false hw; omega
       rw [bestS, if_neg hw'] at hb1
       refine qO ?_
       intro V2
       have V3 := valid_set (o' := obL lp .ready none) V2 (i := 5) rfl
       obtain ⟨h9, E9, e9, V9⟩ := wl_drop [_, _] [_, _, _, _, _, _] V3
       refine ⟨rfl, ⟨_, _, rfl⟩, h9, _, e9, V9, zL E_j E9, .inl ⟨rfl, zL E7 (zL E_j E9), HA, OA, cH, cO, ?_, ?_⟩⟩
       ·rw [hb1]; exact RH.ext (zL E_j E9)
       ·rw [hb1]
    ·rintro v H ⟨h', M', rfl, V', E', ⟨E7, HA, OA, cH, cO, RH, rfl⟩ | f⟩
     ·refine ⟨h', [_, _, _, _, _], .ready, none, rfl, V', by simp, fun h'' E'' => ?_⟩
      refine qU [_, _, _, _, _] rfl ?_
      refine qE ?_
      refine qE ?_
      refine qB rfl ?_
      refine qL 2 (v := .int .i64 _) rfl rfl rfl rfl ?_
      refine qL 3 (v := .slice _ _ _) rfl rfl rfl rfl ?_
      refine qA (wP rfl rfl) ?_
      refine qA (qK (v := .bool _) rfl) ?_
      have eT : testM m hs = bestN m ms (handsM m).length := by rw [testM, hmh]
      rw [hmh, eT] at eE
      refine qP rfl (fun hq => ?_) (fun hq => ?_)
      ·skip
       have hq' : (bestN m ms (handsM m).length).2 = ms.length := by simp at hq; omega
       rw [if_pos hq'] at eE
       refine qE ?_
       refine qB rfl ?_
       refine qA (zC (zc := [_, _]) (vs := []) (cs := [_, _]) rfl rfl rfl rfl rfl rfl) ?_
       refine qY 1 (v := .agg #[.slice _ _ _, .slice _ _ _]) (vs := [_, _]) (c' := [_, _]) rfl rfl rfl rfl rfl rfl rfl rfl rfl ?_
       refine qN [_, _, _, _, _] rfl ?_
       refine qY 2 (v := .int .i64 _) (vs := [_]) (c' := [_]) rfl rfl rfl rfl rfl rfl rfl rfl rfl ?_
       refine qN [_, _, _, _, _] rfl ?_
       refine qA (qD (v := .int .i64 _) rfl) ?_
       refine qQ ?_
       refine res_listM (vs := [_, _, _]) rfl Tryz.results22 ⟨resV_agg 1 rfl rfl rfl rfl rfl (vs := [.slice _ _ _, .slice _ _ _]) rfl, resV_one 2 rfl rfl rfl rfl (v := .int .i64 _) rfl, qJ rfl rfl, trivial⟩ fun hM EM V => ?_
       refine ⟨zL (zL (zL (zL (zL (zL (zL (zL E3 E4) E5) E_k) G1) E6) E') E'') (zL EM (qR V)), .agg #[.slice none 0 0, .slice none 0 0], by rw [testN, eE, if_neg (by decide)]; rfl, ?_⟩
       rw [testA, eE, if_neg (by decide)]
       exact hand_nil _
      ·skip
       have hq' : ¬ (bestN m ms (handsM m).length).2 = ms.length := by simp at hq; omega
       rw [if_neg hq'] at eE
       refine qO ?_
       refine qE ?_
       refine xp_dw [] rfl rfl rfl ?_
       refine wE (i := 0) rfl (by decide +kernel) ?_
       refine wO 1 (vs := [.slice _ _ _, .slice _ _ _]) rfl rfl rfl rfl rfl ?_
       refine wE (i := 1) rfl (by decide +kernel) ?_
       refine qL 2 (v := .int .i64 _) rfl rfl rfl rfl ?_
       refine dw_eff (i := 2) rfl (by decide +kernel) ?_
       refine qY 1 (v := .agg #[.slice _ _ _, .slice _ _ _]) (vs := [_, _]) (c' := [_, _]) rfl rfl rfl rfl rfl rfl rfl rfl rfl ?_
       refine ⟨Ext.refl _, ?_⟩
       refine wN [_, _, _, _, _] rfl ?_
       refine wV (i := 3) rfl (by decide +kernel) (by decide +kernel) ?_
       refine qY 2 (v := .int .i64 _) (vs := [_]) (c' := [_]) rfl rfl rfl rfl rfl rfl rfl rfl rfl ?_
       refine wN [_, _, _, _, _] rfl ?_
       refine qI (i := 4) rfl (by decide +kernel) (qD (v := .int .i64 _) rfl) ?_
       refine zI rfl ?_
       refine qQ ?_
       refine res_listM (vs := [_, _, _]) rfl Tryz.results22 ⟨resV_agg 1 rfl rfl rfl rfl rfl (vs := [.slice _ _ _, .slice _ _ _]) rfl, resV_one 2 rfl rfl rfl rfl (v := .int .i64 _) rfl, qJ rfl rfl, trivial⟩ fun hM EM V => ?_
       refine ⟨zL (zL (zL (zL (zL (zL (zL (zL E3 E4) E5) E_k) G1) E6) E') E'') (zL EM (qR V)), handV HA OA cH cO (bestN m ms (handsM m).length).1, by rw [testN, eE, if_pos rfl, eT]; rfl, ?_⟩
       rw [testA, eE, if_pos rfl, eT]
       exact (RH.ext (zL E'' (zL EM (qR V)))).close
     ·exact f.elim
end
end Go.Proofs.YtmpahfdiebhdbaaGreatDoor
namespace Go.Proofs.YtmpahfdiebhdbaaGreatDoor
open Go Go.HL Go.Proofs Go.Wx Go.Rd
section
variable [Lvl]
set_option maxRecDepth 100000
def mach0 : MachP := ⟨3, 4, 1, 6, 2, [0, 1], [⟨0, 0, 2⟩, ⟨0, 1, 4⟩, ⟨1, 1, 3⟩, ⟨2, 2, 1⟩], [⟨0, 2, 0, 2⟩, ⟨1, 2, -1, 4⟩], [1, 2, 3, 4]⟩
theorem machine_ok (h : AH) : FnT Tryz.prog 16 #[] h (fun v h' => ∃ AB AQ AL AW cB cQ cL cW, v = machV AB AQ AL AW cB cQ cL cW mach0 ∧ MachR h' AB AQ AL AW mach0) := by
 refine wH Tryz.func16 rfl Tryz.ntmps16 rfl ?_
 refine qE ?_
 refine qB rfl ?_
 refine zE (cs := [_, _, _, _, _, _, _, _, _]) rfl rfl fun b0 hb0 => ?_
 refine qN [_] rfl ?_
 refine qE ?_
 refine qB rfl ?_
 refine qX (zc := [_]) (vs := [(0, .int .i64 _), (1, .int .i64 _)]) (cs := [_, _]) rfl rfl rfl rfl rfl rfl rfl fun b1 hb1 => ?_
 refine qN [_, _] rfl ?_
 refine qA (zC (zc := [_, _, _]) (vs := [(2, .int .i64 _)]) (cs := [_, _, _]) rfl rfl rfl rfl rfl rfl) ?_
 refine qA (zC (zc := [_, _, _]) (vs := [(1, .int .i64 _), (2, .int .i64 _)]) (cs := [_, _, _]) rfl rfl rfl rfl rfl rfl) ?_
 refine qA (zC (zc := [_, _, _]) (vs := [(0, .int .i64 _), (1, .int .i64 _), (2, .int .i64 _)]) (cs := [_, _, _]) rfl rfl rfl rfl rfl rfl) ?_
 refine qA (zC (zc := [_, _, _]) (vs := [(0, .int .i64 _), (1, .int .i64 _), (2, .int .i64 _)]) (cs := [_, _, _]) rfl rfl rfl rfl rfl rfl) ?_
 refine qX (zc := [_, _, _]) (vs := [(0, .agg #[.int .i64 _, .int .i64 _, .int .i64 _]), (1, .agg #[.int .i64 _, .int .i64 _, .int .i64 _]), (2, .agg #[.int .i64 _, .int .i64 _, .int .i64 _]), (3, .agg #[.int .i64 _, .int .i64 _, .int .i64 _])]) (cs := [_, _, _, _, _, _, _, _, _, _, _, _]) rfl rfl rfl rfl rfl rfl rfl fun b6 hb6 => ?_
 refine qN [_, _, _] rfl ?_
 refine qA (zC (zc := [_, _, _, _]) (vs := [(1, .int .i64 _), (3, .int .i64 _)]) (cs := [_, _, _, _]) rfl rfl rfl rfl rfl rfl) ?_
 refine qA (zC (zc := [_, _, _, _]) (vs := [(0, .int .i64 _), (1, .int .i64 _), (2, .int .i64 _), (3, .int .i64 _)]) (cs := [_, _, _, _]) rfl rfl rfl rfl rfl rfl) ?_
 refine qX (zc := [_, _, _, _]) (vs := [(0, .agg #[.int .i64 _, .int .i64 _, .int .i64 _, .int .i64 _]), (1, .agg #[.int .i64 _, .int .i64 _, .int .i64 _, .int .i64 _])]) (cs := [_, _, _, _, _, _, _, _]) rfl rfl rfl rfl rfl rfl rfl fun b9 hb9 => ?_
 refine qN [_, _, _, _] rfl ?_
 refine qX (zc := [_]) (vs := [(0, .int .i64 _), (1, .int .i64 _), (2, .int .i64 _), (3, .int .i64 _)]) (cs := [_, _, _, _]) rfl rfl rfl rfl rfl rfl rfl fun b10 hb10 => ?_
 refine qN [_, _, _, _, _] rfl ?_
 refine qA (zC (zc := [_, _, _, _, _, _, _, _, _]) (vs := [(0, .int .i64 _), (1, .int .i64 _), (2, .int .i64 _), (3, .int .i64 _), (4, .int .i64 _), (5, .slice _ _ _), (6, .slice _ _ _), (7, .slice _ _ _), (8, .slice _ _ _)]) (cs := [_, _, _, _, _, _, _, _, _]) rfl rfl rfl rfl rfl rfl) ?_
 refine qY 0 (v := .agg #[.int .i64 _, .int .i64 _, .int .i64 _, .int .i64 _, .int .i64 _, .slice _ _ _, .slice _ _ _, .slice _ _ _, .slice _ _ _]) (vs := [_, _, _, _, _, _, _, _, _]) (c' := [_, _, _, _, _, _, _, _, _]) rfl rfl rfl rfl rfl rfl rfl rfl rfl ?_
 refine qN [_, _, _, _, _] rfl ?_
 refine qQ ?_
 refine qM (vs := [_]) Tryz.results16 ⟨resV_agg 0 rfl rfl rfl rfl rfl (vs := [.int .i64 _, .int .i64 _, .int .i64 _, .int .i64 _, .int .i64 _, .slice _ _ _, .slice _ _ _, .slice _ _ _, .slice _ _ _]) rfl, trivial⟩ fun V => ?_
 exact ⟨(qR V), some ⟨b1, 0, none⟩, some ⟨b6, 0, none⟩, some ⟨b9, 0, none⟩, some ⟨b10, 0, none⟩, 2, 4, 2, 4, rfl, wX (enc := intC) (m := 1) (l := mach0.buttons) (fun _ _ => rfl) (zK V (i := 1) rfl), wX (enc := pinC) (m := 3) (l := mach0.pins) (fun _ _ => rfl) (zK V (i := 2) rfl), wX (enc := linkC) (m := 4) (l := mach0.links) (fun _ _ => rfl) (zK V (i := 3) rfl), wX (enc := intC) (m := 1) (l := mach0.weights) (fun _ _ => rfl) (zK V (i := 4) rfl)⟩
theorem pressed_ok (l : List Int) (A : Option Addr) (c : Nat) (h : AH) : FnT Tryz.prog 17 #[.slice A l.length c] h (fun v _ => v = handV A none c 0 ⟨l, []⟩) := by
 refine wH Tryz.func17 rfl Tryz.ntmps17 rfl ?_
 refine qE ?_
 refine qB rfl ?_
 refine zE (cs := [_, _]) rfl rfl fun b2 hb2 => ?_
 refine qN [_] rfl ?_
 refine qE ?_
 refine qB rfl ?_
 refine qA (qC (v := .slice _ _ _) rfl) ?_
 refine qA (zC (zc := [_, _]) (vs := [(0, .slice _ _ _)]) (cs := [_, _]) rfl rfl rfl rfl rfl rfl) ?_
 refine qY 0 (v := .agg #[.slice _ _ _, .slice _ _ _]) (vs := [_, _]) (c' := [_, _]) rfl rfl rfl rfl rfl rfl rfl rfl rfl ?_
 refine qN [_] rfl ?_
 refine qQ ?_
 refine qM (vs := [_]) Tryz.results17 ⟨resV_agg 0 rfl rfl rfl rfl rfl (vs := [.slice _ _ _, .slice _ _ _]) rfl, trivial⟩ fun V => ?_
 exact ⟨(qR V), rfl⟩
def heard0 (l : List Int) : List HeardP := [⟨⟨[0], []⟩, l⟩]
theorem sounded_ok (l : List Int) (A : Option Addr) (c : Nat) (h : AH) (R : Row h 1 intC A l) : FnT Tryz.prog 21 #[.slice A l.length c] h (fun v h' => ∃ UA cU cs, v = .slice UA (heard0 l).length cU ∧ Row h' 3 id UA cs ∧ Els h' TU (heard0 l) cs) := by
 refine wH Tryz.func21 rfl Tryz.ntmps21 rfl ?_
 refine qE ?_
 refine qB rfl ?_
 refine qA (qD (v := .slice _ _ _) rfl) ?_
 refine qE ?_
 refine qB rfl ?_
 refine qX (zc := [_]) (vs := [(0, .int .i64 _)]) (cs := [_]) rfl rfl rfl rfl rfl rfl rfl fun b3 hb3 => ?_
 refine qN [_] rfl ?_
 refine wJ (caps := []) (vs := [.slice _ _ _]) rfl rfl rfl (pressed_ok [0] _ _ h) ?_
 rintro _ h3 E3 rfl
 refine qA (qC (v := .slice _ _ _) rfl) ?_
 refine qA (zC (zc := [_, _, _]) (vs := [(0, .agg #[.slice _ _ _, .slice _ _ _]), (1, .slice _ _ _)]) (cs := [_, _, _]) rfl rfl rfl rfl rfl rfl) ?_
 refine qX (zc := [_, _, _]) (vs := [(0, .agg #[.slice _ _ _, .slice _ _ _, .slice _ _ _])]) (cs := [_, _, _]) rfl rfl rfl rfl rfl rfl rfl fun b7 hb7 => ?_
 refine qN [_, _] rfl ?_
 refine qA (qD (v := .slice _ _ _) rfl) ?_
 refine qQ ?_
 refine qM (vs := [_]) Tryz.results21 ⟨qJ rfl rfl, trivial⟩ fun V => ?_
 refine ⟨(zL E3 (qR V)), some ⟨b7, 0, none⟩, 1, [[.slice (some ⟨b3, 0, none⟩) 1 1, .slice none 0 0, .slice A l.length c]], rfl, wX (enc := id) (m := 3) (l := [[.slice (some ⟨b3, 0, none⟩) 1 1, .slice none 0 0, .slice A l.length c]]) (fun x hx => by simp at hx; subst hx; rfl) (zK V (i := 1) rfl), rfl, ?_⟩
 intro i x cc h1 h2
 match i, h1, h2 with
 | 0, h1, h2 =>
  cases h1; cases h2
  exact ⟨_, _, _, rfl, ⟨some ⟨b3, 0, none⟩, 1, rfl, wX (enc := intC) (m := 1) (l := [0]) (fun _ _ => rfl) (zK V (i := 0) rfl)⟩, ⟨none, 0, rfl, row_nil _ _⟩, ⟨A, c, rfl, R.ext (zL E3 (qR V))⟩⟩
 | i + 1, h1, h2 => simp [heard0] at h1
theorem sameHands_ok (a b : HandP) (HA OA HB OB : Option Addr) (cA oA cB oB : Nat) (h : AH) (Ra : HandR h HA OA a) (Rb : HandR h HB OB b) (h1 : a.buttons.length < 2 ^ 40) (h2 : a.on.length < 2 ^ 40) :
  FnT Tryz.prog 25 #[handV HA OA cA oA a, handV HB OB cB oB b] h (fun v _ => v = .bool (decide (a.buttons = b.buttons) && decide (a.on = b.on))) := by
 refine wH Tryz.func25 rfl Tryz.ntmps25 rfl ?_
 refine qE ?_
 refine qB rfl ?_
 refine op_box (v := .agg #[.slice _ _ _, .slice _ _ _]) (cs := [_, _]) rfl rfl fun b2 hb2 => ?_
 refine qN [_] rfl ?_
 refine op_box (v := .agg #[.slice _ _ _, .slice _ _ _]) (cs := [_, _]) rfl rfl fun b3 hb3 => ?_
 refine qN [_, _] rfl ?_
 refine qA (qD (v := .bool _) rfl) ?_
 refine qE ?_
 refine qB rfl ?_
 refine qA (qG rfl rfl rfl rfl 0 rfl) ?_
 refine qL 0 (v := .slice _ _ _) rfl rfl rfl rfl ?_
 refine qA (qG rfl rfl rfl rfl 0 rfl) ?_
 refine qL 1 (v := .slice _ _ _) rfl rfl rfl rfl ?_
 refine wJ (caps := []) (vs := [.slice _ _ _, .slice _ _ _]) rfl rfl rfl (sameInts_ok a.buttons b.buttons _ _ _ _ h (Ra.b.ext (Ext.refl _)) (Rb.b.ext (Ext.refl _)) h1) ?_
 rintro _ h3 E3 rfl
 refine qA (qC (v := .bool _) rfl) ?_
 by_cases hp : a.buttons = b.buttons
 ·have hb : decide (a.buttons = b.buttons) = true := by simpa using hp
  refine qF rfl hb ?_
  refine qA (qG rfl rfl rfl rfl 1 rfl) ?_
  refine qF rfl hb ?_
  refine qL 0 (v := .slice _ _ _) rfl rfl rfl rfl ?_
  refine qF rfl hb ?_
  refine qA (qG rfl rfl rfl rfl 1 rfl) ?_
  refine qF rfl hb ?_
  refine qL 1 (v := .slice _ _ _) rfl rfl rfl rfl ?_
  refine qF rfl hb ?_
  refine wJ (caps := []) (vs := [.slice _ _ _, .slice _ _ _]) rfl rfl rfl (sameInts_ok a.on b.on _ _ _ _ h3 (Ra.o.ext E3) (Rb.o.ext E3) h2) ?_
  rintro _ h4 E4 rfl
  refine qA (qZ rfl hb (v := .bool _) rfl) ?_
  refine qA (qD (v := .bool _) rfl) ?_
  refine qQ ?_
  refine qM (vs := [_]) Tryz.results25 ⟨qJ rfl rfl, trivial⟩ fun V => ?_
  exact ⟨(zL (zL E3 E4) (qR V)), by rw [hb]; rfl⟩
 ·have hb : decide (a.buttons = b.buttons) = false := by simpa using hp
  refine qH rfl hb ?_
  refine qH rfl hb ?_
  refine qH rfl hb ?_
  refine qH rfl hb ?_
  refine qH rfl hb ?_
  refine qA (wI rfl hb (v := .bool _) rfl) ?_
  refine qA (qD (v := .bool _) rfl) ?_
  refine qQ ?_
  refine qM (vs := [_]) Tryz.results25 ⟨qJ rfl rfl, trivial⟩ fun V => ?_
  exact ⟨(zL E3 (qR V)), by rw [hb]; rfl⟩
theorem take_eq {α : Type} {a b : List α} {k : Nat} (ha : k < a.length) (hb : k < b.length) (hl : a.length = b.length) (h : a.take k = b.take k) : (a.length = b.length ∧ a.take (k + 1) = b.take (k + 1)) ↔ a[k] = b[k] := by
 rw [List.take_succ_eq_append_getElem ha, List.take_succ_eq_append_getElem hb, h]
 exact ⟨fun e => by have := List.append_cancel_left e.2; injection this, fun e => ⟨hl, by rw [e]⟩⟩
theorem sameLists_ok (a b : List (List Int)) (A B : Option Addr) (ca cb : Nat) (cs ds : List (List Value)) (h : AH) (Ra : Row h 1 id A cs) (Ea : Els h TL a cs) (Rb : Row h 1 id B ds) (Eb : Els h TL b ds) (ha : a.length < 2 ^ 40) (hx : ∀ x ∈ a, x.length < 2 ^ 40) :
  FnT Tryz.prog 24 #[.slice A a.length ca, .slice B b.length cb] h (fun v _ => v = .bool (decide (a = b))) := by
 refine wH Tryz.func24 rfl Tryz.ntmps24 rfl ?_
 refine qE ?_
 refine qB rfl ?_
 refine qA (qD (v := .bool _) rfl) ?_
 refine qE ?_
 refine qB rfl ?_
 refine qA (qC (v := .slice _ _ _) rfl) ?_
 refine qA (wP rfl rfl) ?_
 refine qA (qC (v := .slice _ _ _) rfl) ?_
 refine qA (wP rfl rfl) ?_
 refine qA (qK (v := .bool _) rfl) ?_
 refine qA (qD (v := .bool _) rfl) ?_
 refine qE ?_
 refine qE ?_
 refine qB rfl ?_
 refine qA (qD (v := .int .i64 _) rfl) ?_
 refine qT ?_
 refine zH [5, 6, 12, 13, 14, 15, 16, 17, 18, 19, 20, 21, 22, 23, 24, 25, 26, 27, 28, 29] 0 (α := Nat) (fun k => [(5, .bool (decide (a.length = b.length ∧ a.take k = b.take k))), (6, .int .i64 k)]) (fun k => _) (fun k h_k => k ≤ a.length) (fun k => a.length - k) (0) ⟨by refine boolI ?_; simp; omega, rfl, trivial⟩ (rfl) (Nat.zero_le _) ?_
 rintro k T1 h_k E_k J_k
 refine qU [] rfl ?_
 refine qE ?_
 refine qE ?_
 refine qB rfl ?_
 refine qA (qC (v := .bool _) rfl) ?_
 refine qA (qC (v := .bool _) rfl) ?_
 by_cases hp : a.length = b.length ∧ a.take k = b.take k
 ·have hb : decide (a.length = b.length ∧ a.take k = b.take k) = true := by simpa using hp
  refine qF rfl hb ?_
  refine qA (qC (v := .int .i64 _) rfl) ?_
  refine qF rfl hb ?_
  refine qA (qC (v := .slice _ _ _) rfl) ?_
  refine qF rfl hb ?_
  refine qA (wP rfl rfl) ?_
  refine qF rfl hb ?_
  refine qA (qK (v := .bool _) rfl) ?_
  refine qA (qZ rfl hb (v := .bool _) rfl) ?_
  refine qP rfl (fun ht => ?_) (fun ht => ?_)
  ·skip
   have hlt : k < a.length := by simpa using ht
   have hlt2 : k < b.length := by omega
   obtain ⟨hka, v1, e1, ⟨X1, c1, rfl, r1⟩⟩ := (Ea.ext TL.mono E_k).at hlt
   obtain ⟨hkb, v2, e2, ⟨X2, c2, rfl, r2⟩⟩ := (Eb.ext TL.mono E_k).at hlt2
   obtain ⟨g, off, hA, hc⟩ := (Ra.ext E_k).at (by omega) hka
   obtain ⟨g2, off2, hB, hd⟩ := (Rb.ext E_k).at (by omega) hkb
   have hc : Cells h_k g (off + k * 1) [.slice X1 a[k].length c1] := by rw [← e1]; exact hc
   have hd : Cells h_k g2 (off2 + k * 1) [.slice X2 b[k].length c2] := by rw [← e2]; exact hd
   refine qO ?_
   refine qE ?_
   refine qT ?_
   refine xp_dw [] rfl rfl rfl ?_
   refine qI (i := 0) rfl (by decide +kernel) (qC (v := .slice _ _ _) rfl) ?_
   refine qI (i := 1) rfl (by decide +kernel) (qC (v := .int .i64 _) rfl) ?_
   refine qI (i := 2) rfl (by decide +kernel) (wD rfl hA rfl rfl rfl (by omega) (by omega)) ?_
   refine wE (i := 3) rfl (by decide +kernel) ?_
   refine wL (v := .slice _ _ _) rfl rfl ((hc) 0 _ rfl) ?_
   refine qI (i := 4) rfl (by decide +kernel) (qC (v := .slice _ _ _) rfl) ?_
   refine qI (i := 5) rfl (by decide +kernel) (qC (v := .int .i64 _) rfl) ?_
   refine qI (i := 6) rfl (by decide +kernel) (wD rfl hB rfl rfl rfl (by omega) (by omega)) ?_
   refine wE (i := 7) rfl (by decide +kernel) ?_
   refine wL (v := .slice _ _ _) rfl rfl ((hd) 0 _ rfl) ?_
   refine wV (i := 8) rfl (by decide +kernel) (by decide +kernel) ?_
   refine wJ (caps := []) (vs := [.slice _ _ _, .slice _ _ _]) rfl rfl rfl (sameInts_ok a[k] b[k] _ _ _ _ h_k r1 r2 (hx _ (List.getElem_mem hlt))) ?_
   rintro _ h4 E4 rfl
   refine qI (i := 9) rfl (by decide +kernel) (qD (v := .bool _) rfl) ?_
   refine zI rfl ?_
   refine qB rfl ?_
   refine qA (qC (v := .int .i64 _) rfl) ?_
   refine qA (qS rfl (by omega)) ?_
   refine qA (qD (v := .int .i64 _) rfl) ?_
   refine ⟨k + 1, ⟨boolI (by rw [decide_eq_true_iff, decide_eq_true_iff, take_eq hlt hlt2 hp.1 hp.2]), rfl, trivial⟩, rfl, rfl, (zL E_k E4), fun h3 E3 => hlt, by first | omega | (dsimp only; omega), ?_⟩
   repeat (first | exact qW _ _ _ | refine wA (by decide) ?_ | refine qV rfl ?_ | refine wB rfl ?_)
  ·skip
   refine wS ?_
   refine qE ?_
   refine qB rfl ?_
   refine qA (qC (v := .bool _) rfl) ?_
   refine qA (qD (v := .bool _) rfl) ?_
   refine qQ ?_
   refine qM (vs := [_]) Tryz.results24 ⟨qJ rfl rfl, trivial⟩ fun V => ?_
   refine ⟨(zL E_k (qR V)), boolI ?_⟩
   have : k = a.length := by simp at ht; omega
   subst this
   have h2 := hp.2
   rw [hp.1, List.take_length, ← hp.1, List.take_length] at h2
   simp [h2]
 ·have hb : decide (a.length = b.length ∧ a.take k = b.take k) = false := by simpa using hp
  refine qH rfl hb ?_
  refine qH rfl hb ?_
  refine qH rfl hb ?_
  refine qH rfl hb ?_
  refine qA (wI rfl hb (v := .bool _) rfl) ?_
  refine qP rfl (fun ht => ?_) (fun ht => ?_)
  ·cases ht
  ·skip
   refine wS ?_
   refine qE ?_
   refine qB rfl ?_
   refine qA (qC (v := .bool _) rfl) ?_
   refine qA (qD (v := .bool _) rfl) ?_
   refine qQ ?_
   refine qM (vs := [_]) Tryz.results24 ⟨qJ rfl rfl, trivial⟩ fun V => ?_
   refine ⟨(zL E_k (qR V)), boolI ?_⟩
   have : a ≠ b := fun e => hp (by rw [e]; exact ⟨rfl, rfl⟩)
   simp [this]
   exact fun x y => hp ⟨x, y⟩
end
end Go.Proofs.YtmpahfdiebhdbaaGreatDoor
namespace Go.HL
open Go
variable [Lvl]
section
variable {P : Program} {n : Nat} {ops : Array Oper}
theorem T1_fin {o : Oper} {S : Sl} {H : AH} {X : Sl → AH → Prop} (t : T1 P n ops o X S H) (f : Fin H) : T1 P n ops o (fun S' H' => Fin H' ∧ X S' H') S H := by
 unfold T1 at t ⊢
 split
 ·rename_i hg
  rw [hg] at t
  exact opW_fin t f
 ·rename_i j w hg
  rw [hg] at t
  obtain ⟨b, h1, h2, h3⟩ := t
  exact ⟨b, h1, fun e => opW_fin (h2 e) f, fun e => ⟨f, h3 e⟩⟩
theorem T1_guard {o : Oper} {j : Nat} {w : Bool} (hg : o.guard = some (j, w)) {S : Sl} {H : AH} {X : Sl → AH → Prop} :
  T1 P n ops o X S H ↔ (gval (ev n S (.tmp (((ops[j]?).bind (·.dst)).getD n))) = some w → T1 P n ops { o with guard := none } X S H) ∧ (gval (ev n S (.tmp (((ops[j]?).bind (·.dst)).getD n))) ≠ some w → X (put S o.dst undef) H) := by
 obtain ⟨d, op, ty, ps, af, gd⟩ := o
 simp only at hg
 subst hg
 constructor
 ·rintro ⟨b, h1, h2, h3⟩
  subst h1
  exact ⟨fun e => h2 e, fun e => h3 e⟩
 ·rintro ⟨h2, h3⟩
  exact ⟨_, rfl, fun e => h2 e, fun e => h3 e⟩
theorem el_left {d : Nat} : ∀ {a b : List Nat}, el d (a ++ b) = false → el d a = false
 | [], _, _ => rfl
 | x :: a, b, h => by
  rw [List.cons_append, zJ, Bool.or_eq_false_iff] at h
  rw [zJ, h.1, el_left h.2]
  rfl
theorem apart_bare {oi oj : Oper} (h : apart (ops := ops) oi oj = true) : apart (ops := ops) oi { oj with guard := none } = true := by
 unfold apart at h ⊢
 rw [Bool.and_eq_true] at h ⊢
 refine ⟨?_, h.2⟩
 have h1 := h.1
 cases hd : oi.dst with
 | none => rfl
 | some d =>
  rw [hd] at h1
  simp only [Bool.and_eq_true, Bool.not_eq_true'] at h1 ⊢
  refine ⟨?_, h1.2⟩
  have : reads ops { oj with guard := none } = opTmps oj.op ++ [] := rfl
  rw [this, List.append_nil]
  exact el_left h1.1
theorem guard_same {oi oj : Oper} {j : Nat} {w : Bool} (hg : oj.guard = some (j, w)) (hap : apart (ops := ops) oi oj = true) (S : Sl) (v : Value) :
  ev n (put S oi.dst v) (.tmp (((ops[j]?).bind (·.dst)).getD n)) = ev n S (.tmp (((ops[j]?).bind (·.dst)).getD n)) := by
 cases hd : (ops[j]?).bind (·.dst) with
 | none => simp [ev]
 | some d =>
  have := put_agree hap S v d (List.mem_append_right _ (by simp [guardT, hg, hd]))
  simp only [Option.getD_some, ev]
  rw [this]
theorem swap_freeG {oi oj : Oper} {S : Sl} {H : AH} {Y : Sl → AH → Prop} (hf : freeOp oj.op = true) (hap : apart (ops := ops) oi oj = true) (fH : Fin H)
  (t : T1 P n ops oi (fun S' H' => T1 P n ops oj Y S' H') S H) : T1 P n ops oj (fun S' H' => Ext H H' ∧ T1 P n ops oi Y S' H') S H := by
 cases hg : oj.guard with
 | none => exact swap_free hf hg hap fH t
 | some jw =>
  obtain ⟨j, w⟩ := jw
  rw [T1_guard hg]
  constructor
  ·intro hv
   refine swap_free (oj := { oj with guard := none }) hf rfl (apart_bare hap) fH ?_
   refine T1_mono' (fun v H' y => ?_) t
   exact ((T1_guard hg).1 y).1 (by rw [guard_same hg hap]; exact hv)
  ·intro hv
   refine ⟨Ext.refl H, ?_⟩
   have t2 : T1 P n ops oi (fun S' H' => Y (put S' oj.dst undef) H') S H := T1_mono' (fun v H' y => ((T1_guard hg).1 y).2 (by rw [guard_same hg hap]; exact hv)) t
   refine T1_agree (X := fun S' H' => Y (put S' oj.dst undef) H') (fun x hx => (put_agree (apart_symm hap) S undef x hx).symm) ?_ t2
   intro v H' y
   rw [put_swap hap S v undef] at y
   exact y
theorem take_anyG {X : Sl → AH → Prop} {i : Nat} {oi : Oper} (hoi : ops[i]? = some oi) :
  ∀ (m : Nat) (dn ac : List Nat) (G : Gh) (S : Sl) (H : AH), Fin H → (left ops dn).length = m + 1 → ready ops dn i = true → (∀ k, el k (blk ops i) = true → el k dn = false) → GT ops ac G H →
   (∀ g ∈ G, ∀ H1 H2, Ext H1 H2 → g.2 H1 → g.2 H2) →
   (∀ j oj, ops[j]? = some oj → j ≠ i → el j dn = false → el j (blk ops i) = false → freeOp oj.op = true ∧ apart (ops := ops) oi oj = true) →
   T1 P n ops oi (fun S' H' => GT ops (i :: ac) G H' ∧ WG P n ops m (i :: dn) (i :: ac) G X S' H') S H → WG P n ops (m + 1) dn ac G X S H := by
 intro m
 induction m with
 | zero =>
  intro dn ac G S H fH hl hr hal hgt hmo _ w j oj hoj hrj
  obtain ⟨hi, hdi⟩ := ready_lt hr
  obtain ⟨hj, hdj⟩ := ready_lt hrj
  by_cases hji : j = i
  ·subst hji
   rw [hoi] at hoj
   obtain rfl := Option.some.inj hoj
   exact w
  ·exact (left_two hi hj hdi hdj hji hl).elim
 | succ m ih =>
  intro dn ac G S H fH hl hr hal hgt hmo hfr w j oj hoj hrj
  obtain ⟨hi, hdi⟩ := ready_lt hr
  obtain ⟨hj, hdj⟩ := ready_lt hrj
  by_cases hji : j = i
  ·subst hji
   rw [hoi] at hoj
   obtain rfl := Option.some.inj hoj
   exact w
  ·have hnb := not_blk hrj hdi hal
   obtain ⟨hf, hap⟩ := hfr j oj hoj hji hdj hnb
   have w1 : T1 P n ops oi (fun S' H' => T1 P n ops oj (fun S2 H2 => GT ops (j :: i :: ac) G H2 ∧ WG P n ops m (j :: i :: dn) (j :: i :: ac) G X S2 H2) S' H') S H :=
    T1_mono (fun S' H' y => y.2 j oj hoj (ready_more hrj hji)) w
   have w2 := swap_freeG hf hap fH w1
   have w3 : T1 P n ops oj (fun S' H' => Fin H' ∧ Ext H H' ∧ T1 P n ops oi (fun S2 H2 => GT ops (j :: i :: ac) G H2 ∧ WG P n ops m (j :: i :: dn) (j :: i :: ac) G X S2 H2) S' H') S H := by
    exact T1_mono (fun S' H' y => ⟨y.1, y.2.1, y.2.2⟩) (T1_fin w2 fH)
   refine T1_mono ?_ w3
   rintro S' H' ⟨f', hE, y⟩
   have hpd : ∀ k, el k (j :: i :: dn) = el k (i :: j :: dn) := fun k => by simp only [zJ]; cases (k == j) <;> cases (k == i) <;> rfl
   have hpa : ∀ k, el k (j :: i :: ac) = true → el k (i :: j :: ac) = true := fun k => by
    simp only [zJ, Bool.or_eq_true]
    rintro (h | h | h)
    ·exact .inr (.inl h)
    ·exact .inl h
    ·exact .inr (.inr h)
   have hal' : ∀ k, el k (blk ops i) = true → el k (j :: dn) = false := fun k hk => by
    simp only [zJ, hal k hk, Bool.or_false]
    cases hkj : (k == j) with
    | false => rfl
    | true => rw [beq_iff_eq] at hkj; subst hkj; rw [hk] at hnb; cases hnb
   have hgt' : GT ops (j :: ac) G H' := fun g hg2 a => hmo g hg2 H H' hE (hgt g hg2 (alive_less (fun k hk => by simp [zJ, hk]) a))
   refine ⟨hgt', ?_⟩
   refine ih (j :: dn) (j :: ac) G S' H' f' (left_cons hj hdj hl) (ready_more hr (fun e => hji e.symm)) hal' hgt' hmo ?_ (T1_mono (fun S2 H2 z => ⟨GT_more hpa z.1, WG_perm m _ _ _ _ hpd hpa _ _ z.2⟩) y)
   intro k ok hok hki hdk hbk
   exact hfr k ok hok hki (by simp only [zJ, Bool.or_eq_false_iff] at hdk; exact hdk.2) hbk
def okH (ops : Array Oper) (dn : List Nat) (i : Nat) : Bool :=
 ready ops dn i && (blk ops i).all (fun k => !el k dn) &&
 match ops[i]? with
 | some oi => (List.range ops.size).all fun j => j == i || el j dn || el j (blk ops i) || (match ops[j]? with | some oj => freeOp oj.op && apart (ops := ops) oi oj | none => true)
 | none => false
end
section
variable {P : Program} {n : Nat} {ops : Array Oper} {i : Nat} {d : Option Tmp} {op : Op} {ty : TypeId} {ps : String} {af : Array Edge} {S : Sl} {L : Pv} {h : AH} {mask : List Bool} {X : Sl → AH → Prop} {dn ac : List Nat}
theorem dw_effH {j : Nat} {want t : Bool} (hoi : ops[i]? = some ⟨d, op, ty, ps, af, some (j, want)⟩) (hok : okH ops dn i = true)
  (ht : ev n S (.tmp (((ops[j]?).bind (·.dst)).getD n)) = .bool t) (hb : t = want) (w : wpL P n ops [⟨d, op, ty, ps, af, none⟩] (fun S' L' h' => Ext (wl h (rmM mask L)) (wl h' (rmM mask L')) ∧ Dw P n ops mask X (i :: dn) (i :: ac) S' L' h') (fun _ _ _ _ => False) S L h) : Dw P n ops mask X dn ac S L h := by
 intro V G hG
 unfold okH at hok
 rw [hoi] at hok
 simp only [Bool.and_eq_true] at hok
 obtain ⟨⟨hr, hbl⟩, hap⟩ := hok
 obtain ⟨m, hm⟩ := left_pos hr
 obtain ⟨hi, hdi⟩ := ready_lt hr
 rw [hm]
 refine take_anyG hoi m dn ac G S (wl h L) (fin_wl V) hm hr ?_ ?_ (fun g hg => (hG g hg).2.1) ?_ ?_
 ·intro x hx
  have := List.all_eq_true.1 hbl x ((el_mem _ _).1 hx)
  simpa using this
 ·intro g hg _
  exact (hG g hg).2.1 _ _ (ext_rm V) (hG g hg).2.2
 ·intro j oj hoj hji hdj hbj
  have hjl : j < ops.size := (Array.getElem?_eq_some_iff.1 hoj).1
  have := List.all_eq_true.1 hap j (by simpa using hjl)
  rw [hoj, hdj, hbj] at this
  simp only [Bool.or_false, Bool.or_eq_true, beq_iff_eq, Bool.and_eq_true] at this
  exact this.resolve_left hji
 ·refine ⟨some t, by rw [ht]; rfl, fun _ => ?_, fun hn => absurd (congrArg some hb) hn⟩
  show opW P n ⟨d, op, ty, ps, af, none⟩ S (wl h L) _ noE
  refine opW_mono ?_ ?_ (w V)
  ·rintro v H ⟨L', h', rfl, V', hE, hD⟩
   have hG' : ∀ g ∈ G, ((∀ H, g.2 H) ∨ (isLd ops g.1 = true ∧ el g.1 (i :: dn) = true)) ∧ (∀ H1 H2, Ext H1 H2 → g.2 H1 → g.2 H2) ∧ g.2 (wl h' (rmM mask L')) := by
    intro g hg
    obtain ⟨h1, h2, h3⟩ := hG g hg
    exact ⟨h1.imp id (fun e => ⟨e.1, by simp [zJ, e.2]⟩), h2, h2 _ _ hE h3⟩
   refine ⟨fun g hg _ => (hG' g hg).2.1 _ _ (ext_rm V') (hG' g hg).2.2, ?_⟩
   have := hD V' G hG'
   rw [left_cons hi hdi hm] at this
   exact this
  ·rintro v H ⟨L', h', rfl, V', y⟩; exact y
theorem dw_lastH {j : Nat} {want t : Bool} (hoi : ops[i]? = some ⟨d, op, ty, ps, af, some (j, want)⟩) (hok : okH ops dn i = true) (hl : okL ops dn i = true)
  (ht : ev n S (.tmp (((ops[j]?).bind (·.dst)).getD n)) = .bool t) (hb : t = want) (w : wpL P n ops [⟨d, op, ty, ps, af, none⟩] (fun S' L' h' => Dw P n ops mask X (i :: dn) (i :: ac) S' L' h') (fun _ _ _ _ => False) S L h) : Dw P n ops mask X dn ac S L h := by
 intro V G hG
 unfold okH at hok
 rw [hoi] at hok
 simp only [Bool.and_eq_true] at hok
 obtain ⟨⟨hr, hbl⟩, hap⟩ := hok
 obtain ⟨m, hm⟩ := left_pos hr
 obtain ⟨hi, hdi⟩ := ready_lt hr
 rw [hm]
 refine take_anyG hoi m dn ac G S (wl h L) (fin_wl V) hm hr ?_ ?_ (fun g hg => (hG g hg).2.1) ?_ ?_
 ·intro x hx
  have := List.all_eq_true.1 hbl x ((el_mem _ _).1 hx)
  simpa using this
 ·intro g hg _
  exact (hG g hg).2.1 _ _ (ext_rm V) (hG g hg).2.2
 ·intro j oj hoj hji hdj hbj
  have hjl : j < ops.size := (Array.getElem?_eq_some_iff.1 hoj).1
  have := List.all_eq_true.1 hap j (by simpa using hjl)
  rw [hoj, hdj, hbj] at this
  simp only [Bool.or_false, Bool.or_eq_true, beq_iff_eq, Bool.and_eq_true] at this
  exact this.resolve_left hji
 ·refine ⟨some t, by rw [ht]; rfl, fun _ => ?_, fun hn => absurd (congrArg some hb) hn⟩
  show opW P n ⟨d, op, ty, ps, af, none⟩ S (wl h L) _ noE
  refine opW_mono ?_ ?_ (w V)
  ·rintro v H ⟨L', h', rfl, V', hD⟩
   -- the facts that are still asked hold everywhere
   have hdead : ∀ g ∈ G, (∀ H, g.2 H) ∨ ¬ alive ops (i :: ac) g.1 := by
    intro g hg
    rcases (hG g hg).1 with h1 | ⟨h1, h2⟩
    ·exact .inl h1
    ·right
     intro a
     have := List.all_eq_true.1 hl g.1 ((el_mem _ _).1 h2)
     rw [h1] at this
     simp only [Bool.not_true, Bool.false_or] at this
     have := a i this
     simp [zJ] at this
   refine ⟨fun g hg a => ((hdead g hg).resolve_right (fun n => n a)) _, ?_⟩
   have hall : ∀ (m : Nat) (dn' ac' : List Nat) (S' : Sl) (H' : AH), (∀ k, el k (i :: ac) = true → el k ac' = true) → WG P n ops m dn' ac' [] X S' H' → WG P n ops m dn' ac' G X S' H' := by
    intro m
    induction m with
    | zero => intro dn' ac' S' H' _ w; exact w
    | succ m ih =>
     intro dn' ac' S' H' hsub w j oj hoj hrj
     refine T1_mono (fun S2 H2 y => ⟨fun g hg a => ?_, ih _ _ _ _ (fun k hk => by simp [zJ, hsub k hk]) y.2⟩) (w j oj hoj hrj)
     exact ((hdead g hg).resolve_right (fun n => n (alive_less (fun k hk => by simp [zJ, hsub k hk]) a))) _
   have := hD V' [] (fun g hg => by cases hg)
   rw [left_cons hi hdi hm] at this
   exact hall m _ _ _ _ (fun _ h => h) this
  ·rintro v H ⟨L', h', rfl, V', y⟩; exact y
end
end Go.HL
namespace Go.Proofs.YtmpahfdiebhdbaaGreatDoor
open Go Go.HL Go.Proofs Go.Wx Go.Rd
section
variable [Lvl]
set_option maxRecDepth 100000
theorem m0_hand : checkHandM mach0 ⟨[0, 1], []⟩ = 0 := by decide +kernel
theorem m0_lifts : liftsL mach0 ⟨[0, 1], []⟩ = [4, 3, 1, 0] := by decide +kernel
theorem m0_force : forceV mach0 ⟨[0, 1], []⟩ = 9 := by decide +kernel
theorem m0_hand2 : checkHandM mach0 ⟨[], [0]⟩ = 0 := by decide +kernel
theorem m0_chart : chartL mach0 [0] = [[0, 1, 2], [1]] := by decide +kernel
theorem m0_suspE : suspE mach0 (heard0 [0]) = 0 := by decide +kernel
theorem m0_suspL : suspL mach0 (heard0 [0]) = [1, 9] := by decide +kernel
theorem m0_testE : testE mach0 (heard0 [0]) = 0 := by decide +kernel
theorem m0_testN : testN mach0 (heard0 [0]) = 1 := by decide +kernel
theorem m0_testB : (testA mach0 (heard0 [0])).buttons = [1] := by decide +kernel
theorem m0_testO : (testA mach0 (heard0 [0])).on = [] := by decide +kernel
theorem m0_test : testA mach0 (heard0 [0]) = ⟨[1], []⟩ := by
 have h1 := m0_testB
 have h2 := m0_testO
 cases h : testA mach0 (heard0 [0]) with
 | mk b o => rw [h] at h1 h2; simp only at h1 h2; rw [h1, h2]
theorem hlen0 (l : List Int) (h : l.length < 2 ^ 40) : HLen (heard0 l) := ⟨by show 1 < 2 ^ 40; decide, fun x hx => by simp [heard0] at hx; subst hx; exact ⟨by show 1 < 2 ^ 40; decide, by show 0 < 2 ^ 40; decide, h⟩⟩
theorem rod_sounding (hph : Lvl.ph = true) (h : AH) : FnT Tryz.prog 6 #[] h (fun v _ => v = .bool true) := by
 have w0 : mach0.weights.length < 2 ^ 40 := by decide
 refine wH Tryz.func6 rfl Tryz.ntmps6 rfl ?_
 refine qE ?_
 refine qB rfl ?_
 refine qA (qD (v := .bool _) rfl) ?_
 refine qE ?_
 refine qB rfl ?_
 refine wJ (caps := []) (vs := []) rfl rfl rfl (machine_ok h) ?_
 rintro _ h1 E1 ⟨AB1, AQ1, AL1, AW1, cB1, cQ1, cL1, cW1, rfl, M1⟩
 refine qX (zc := [_]) (vs := [(0, .int .i64 _), (1, .int .i64 _)]) (cs := [_, _]) rfl rfl rfl rfl rfl rfl rfl fun b14 hb14 => ?_
 refine qN [_] rfl ?_
 refine wp_pub 0 rfl rfl ?_
 intro h2 E2 p2
 refine qN [_] rfl ?_
 refine wJ (caps := []) (vs := [.slice _ _ _]) rfl rfl rfl (pressed_ok [0, 1] _ _ h2) ?_
 rintro _ h3 E3 rfl
 have R2 : Row h2 1 intC (some ⟨b14, 0, none⟩) [0, 1] := wX (enc := intC) (m := 1) (l := [0, 1]) (fun _ _ => rfl) p2
 have H1 := Lifts_ok hph mach0 ⟨[0, 1], []⟩ AB1 AQ1 AL1 AW1 (some ⟨b14, 0, none⟩) none cB1 cQ1 cL1 cW1 2 0 h3 (M1.ext (zL E2 E3)) ⟨R2.ext E3, row_nil _ _⟩ w0 (by decide) (by decide)
 rw [m0_hand, m0_lifts] at H1
 refine wJ (caps := []) (vs := [.agg #[.int .i64 _, .int .i64 _, .int .i64 _, .int .i64 _, .int .i64 _, .slice _ _ _, .slice _ _ _, .slice _ _ _, .slice _ _ _], .agg #[.slice _ _ _, .slice _ _ _]]) rfl rfl rfl (H1) ?_
 rintro _ h4 E4 ⟨_, rfl, A4, c4, rfl, S4⟩
 refine qA (qC (v := .tuple #[.slice _ _ _, .int .i64 _]) rfl) ?_
 refine qA (qK (v := .slice _ _ _) rfl) ?_
 refine qA (qK (v := .int .i64 _) rfl) ?_
 refine qA (qD (v := .slice _ _ _) rfl) ?_
 refine qA (qD (v := .int .i64 _) rfl) ?_
 refine qE ?_
 refine qB rfl ?_
 refine wJ (caps := []) (vs := []) rfl rfl rfl (machine_ok h4) ?_
 rintro _ h5 E5 ⟨AB2, AQ2, AL2, AW2, cB2, cQ2, cL2, cW2, rfl, M2⟩
 refine qX (zc := [_]) (vs := [(0, .int .i64 _), (1, .int .i64 _)]) (cs := [_, _]) rfl rfl rfl rfl rfl rfl rfl fun b21 hb21 => ?_
 refine qN [_, _] rfl ?_
 refine wp_pub 1 rfl rfl ?_
 intro h6 E6 p6
 refine qN [_, _] rfl ?_
 refine wJ (caps := []) (vs := [.slice _ _ _]) rfl rfl rfl (pressed_ok [0, 1] _ _ h6) ?_
 rintro _ h7 E7 rfl
 have R6 : Row h6 1 intC (some ⟨b21, 0, none⟩) [0, 1] := wX (enc := intC) (m := 1) (l := [0, 1]) (fun _ _ => rfl) p6
 have H2 := Force_ok hph mach0 ⟨[0, 1], []⟩ AB2 AQ2 AL2 AW2 (some ⟨b21, 0, none⟩) none cB2 cQ2 cL2 cW2 2 0 h7 (M2.ext (zL E6 E7)) ⟨R6.ext E7, row_nil _ _⟩ w0 (by decide) (by decide)
 rw [m0_hand, m0_force] at H2
 refine wJ (caps := []) (vs := [.agg #[.int .i64 _, .int .i64 _, .int .i64 _, .int .i64 _, .int .i64 _, .slice _ _ _, .slice _ _ _, .slice _ _ _, .slice _ _ _], .agg #[.slice _ _ _, .slice _ _ _]]) rfl rfl rfl (H2) ?_
 rintro _ h8 E8 rfl
 refine qA (qC (v := .tuple #[.int .i64 _, .int .i64 _]) rfl) ?_
 refine qA (qK (v := .int .i64 _) rfl) ?_
 refine qA (qK (v := .int .i64 _) rfl) ?_
 refine qA (qD (v := .int .i64 _) rfl) ?_
 refine qA (qD (v := .int .i64 _) rfl) ?_
 refine qE ?_
 refine qB rfl ?_
 refine wJ (caps := []) (vs := []) rfl rfl rfl (machine_ok h8) ?_
 rintro _ h9 E9 ⟨AB3, AQ3, AL3, AW3, cB3, cQ3, cL3, cW3, rfl, M3⟩
 refine qX (zc := [_]) (vs := [(0, .int .i64 _)]) (cs := [_]) rfl rfl rfl rfl rfl rfl rfl fun b28 hb28 => ?_
 refine qN [_, _, _] rfl ?_
 refine wp_pub 2 rfl rfl ?_
 intro h10 E10 p10
 refine qN [_, _, _] rfl ?_
 have R10 : Row h10 1 intC (some ⟨b28, 0, none⟩) [0] := wX (enc := intC) (m := 1) (l := [0]) (fun _ _ => rfl) p10
 have H3 := Chart_ok hph mach0 [0] AB3 AQ3 AL3 AW3 (some ⟨b28, 0, none⟩) cB3 cQ3 cL3 cW3 1 h10 (M3.ext E10) R10 w0 (by decide)
 rw [m0_hand2, m0_chart] at H3
 refine wJ (caps := []) (vs := [.agg #[.int .i64 _, .int .i64 _, .int .i64 _, .int .i64 _, .int .i64 _, .slice _ _ _, .slice _ _ _, .slice _ _ _, .slice _ _ _], .slice _ _ _]) rfl rfl rfl (H3) ?_
 rintro _ h11 E11 ⟨_, rfl, S11⟩
 obtain ⟨cs11, A11, c11, rfl, R11, L11⟩ := SlX.els S11
 refine qA (qC (v := .tuple #[.slice _ _ _, .int .i64 _]) rfl) ?_
 refine qA (qK (v := .slice _ _ _) rfl) ?_
 refine qA (qK (v := .int .i64 _) rfl) ?_
 refine qA (qD (v := .slice _ _ _) rfl) ?_
 refine qA (qD (v := .int .i64 _) rfl) ?_
 refine qE ?_
 refine qB rfl ?_
 refine wJ (caps := []) (vs := []) rfl rfl rfl (machine_ok h11) ?_
 rintro _ h12 E12 ⟨AB4, AQ4, AL4, AW4, cB4, cQ4, cL4, cW4, rfl, M4⟩
 refine qX (zc := [_]) (vs := [(0, .int .i64 _)]) (cs := [_]) rfl rfl rfl rfl rfl rfl rfl fun b34 hb34 => ?_
 refine qN [_, _, _, _] rfl ?_
 refine wp_pub 3 rfl rfl ?_
 intro h13 E13 p13
 refine qN [_, _, _, _] rfl ?_
 have R13 : Row h13 1 intC (some ⟨b34, 0, none⟩) [0] := wX (enc := intC) (m := 1) (l := [0]) (fun _ _ => rfl) p13
 refine wJ (caps := []) (vs := [.slice _ _ _]) rfl rfl rfl (sounded_ok [0] _ _ h13 R13) ?_
 rintro _ h14 E14 ⟨UA4, cU4, cs4, rfl, RU4, EU4⟩
 have H4 := Suspects_ok hph mach0 (heard0 [0]) (hlen0 _ (by decide)) AB4 AQ4 AL4 AW4 UA4 cB4 cQ4 cL4 cW4 cU4 cs4 h14 (M4.ext (zL E13 E14)) w0 RU4 EU4
 rw [m0_suspE, m0_suspL] at H4
 refine wJ (caps := []) (vs := [.agg #[.int .i64 _, .int .i64 _, .int .i64 _, .int .i64 _, .int .i64 _, .slice _ _ _, .slice _ _ _, .slice _ _ _, .slice _ _ _], .slice _ _ _]) rfl rfl rfl (H4) ?_
 rintro _ h15 E15 ⟨_, rfl, A15, c15, rfl, S15⟩
 refine qA (qC (v := .tuple #[.slice _ _ _, .int .i64 _]) rfl) ?_
 refine qA (qK (v := .slice _ _ _) rfl) ?_
 refine qA (qK (v := .int .i64 _) rfl) ?_
 refine qA (qD (v := .slice _ _ _) rfl) ?_
 refine qA (qD (v := .int .i64 _) rfl) ?_
 refine qE ?_
 refine qB rfl ?_
 refine wJ (caps := []) (vs := []) rfl rfl rfl (machine_ok h15) ?_
 rintro _ h16 E16 ⟨AB5, AQ5, AL5, AW5, cB5, cQ5, cL5, cW5, rfl, M5⟩
 refine qX (zc := [_]) (vs := [(0, .int .i64 _)]) (cs := [_]) rfl rfl rfl rfl rfl rfl rfl fun b41 hb41 => ?_
 refine qN [_, _, _, _, _] rfl ?_
 refine wp_pub 4 rfl rfl ?_
 intro h17 E17 p17
 refine qN [_, _, _, _, _] rfl ?_
 have R17 : Row h17 1 intC (some ⟨b41, 0, none⟩) [0] := wX (enc := intC) (m := 1) (l := [0]) (fun _ _ => rfl) p17
 refine wJ (caps := []) (vs := [.slice _ _ _]) rfl rfl rfl (sounded_ok [0] _ _ h17 R17) ?_
 rintro _ h18 E18 ⟨UA5, cU5, cs5, rfl, RU5, EU5⟩
 have H5 := Test_ok hph mach0 (heard0 [0]) (hlen0 _ (by decide)) AB5 AQ5 AL5 AW5 UA5 cB5 cQ5 cL5 cW5 cU5 cs5 h18 (M5.ext (zL E17 E18)) w0 RU5 EU5
 rw [m0_testE, m0_testN, m0_test] at H5
 refine wJ (caps := []) (vs := [.agg #[.int .i64 _, .int .i64 _, .int .i64 _, .int .i64 _, .int .i64 _, .slice _ _ _, .slice _ _ _, .slice _ _ _, .slice _ _ _], .slice _ _ _]) rfl rfl rfl (H5) ?_
 rintro _ h19 E19 ⟨_, rfl, V19⟩
 obtain ⟨HA, OA, cH, cO, rfl, RH⟩ := HandV.open V19
 refine qA (qC (v := .tuple #[.agg #[.slice _ _ _, .slice _ _ _], .int .i64 _, .int .i64 _]) rfl) ?_
 refine qA (qK (v := .agg #[.slice _ _ _, .slice _ _ _]) rfl) ?_
 refine qA (qK (v := .int .i64 _) rfl) ?_
 refine qA (qK (v := .int .i64 _) rfl) ?_
 refine zE (cs := [_, _]) rfl rfl fun b9 hb9 => ?_
 refine qN [_, _, _, _, _, _] rfl ?_
 refine qY 5 (v := .agg #[.slice _ _ _, .slice _ _ _]) (vs := [_, _]) (c' := [_, _]) rfl rfl rfl rfl rfl rfl rfl rfl rfl ?_
 refine qN [_, _, _, _, _, _] rfl ?_
 refine qA (qD (v := .int .i64 _) rfl) ?_
 refine qA (qD (v := .int .i64 _) rfl) ?_
 refine qE ?_
 refine xp_dw [] rfl rfl rfl ?_
 refine qI (i := 0) rfl (by decide +kernel) (qC (v := .int .i64 _) rfl) ?_
 refine qI (i := 1) rfl (by decide +kernel) (qK (v := .bool _) rfl) ?_
 refine qI (i := 2) rfl (by decide +kernel) (qC (v := .bool _) rfl) ?_
 refine dw_pureG (i := 3) rfl (by decide +kernel) rfl rfl (qC (v := .int .i64 _) rfl) ?_
 refine dw_pureG (i := 4) rfl (by decide +kernel) rfl rfl (qK (v := .bool _) rfl) ?_
 refine qI (i := 5) rfl (by decide +kernel) (qZ rfl rfl (v := .bool _) rfl) ?_
 refine qI (i := 6) rfl (by decide +kernel) (qC (v := .bool _) rfl) ?_
 refine dw_pureG (i := 7) rfl (by decide +kernel) rfl rfl (qC (v := .int .i64 _) rfl) ?_
 refine dw_pureG (i := 8) rfl (by decide +kernel) rfl rfl (qK (v := .bool _) rfl) ?_
 refine qI (i := 9) rfl (by decide +kernel) (qZ rfl rfl (v := .bool _) rfl) ?_
 refine qI (i := 10) rfl (by decide +kernel) (qC (v := .bool _) rfl) ?_
 refine dw_pureG (i := 11) rfl (by decide +kernel) rfl rfl (qC (v := .int .i64 _) rfl) ?_
 refine dw_pureG (i := 12) rfl (by decide +kernel) rfl rfl (qK (v := .bool _) rfl) ?_
 refine qI (i := 13) rfl (by decide +kernel) (qZ rfl rfl (v := .bool _) rfl) ?_
 refine qI (i := 14) rfl (by decide +kernel) (qC (v := .bool _) rfl) ?_
 refine dw_pureG (i := 15) rfl (by decide +kernel) rfl rfl (qC (v := .int .i64 _) rfl) ?_
 refine dw_pureG (i := 16) rfl (by decide +kernel) rfl rfl (qK (v := .bool _) rfl) ?_
 refine qI (i := 17) rfl (by decide +kernel) (qZ rfl rfl (v := .bool _) rfl) ?_
 refine qI (i := 18) rfl (by decide +kernel) (qC (v := .bool _) rfl) ?_
 refine dw_pureG (i := 19) rfl (by decide +kernel) rfl rfl (qC (v := .int .i64 _) rfl) ?_
 refine dw_pureG (i := 20) rfl (by decide +kernel) rfl rfl (qK (v := .bool _) rfl) ?_
 refine qI (i := 21) rfl (by decide +kernel) (qZ rfl rfl (v := .bool _) rfl) ?_
 refine qI (i := 22) rfl (by decide +kernel) (qC (v := .bool _) rfl) ?_
 refine dw_pureG (i := 23) rfl (by decide +kernel) rfl rfl (qC (v := .int .i64 _) rfl) ?_
 refine dw_pureG (i := 24) rfl (by decide +kernel) rfl rfl (qK (v := .bool _) rfl) ?_
 refine qI (i := 25) rfl (by decide +kernel) (qZ rfl rfl (v := .bool _) rfl) ?_
 refine qI (i := 26) rfl (by decide +kernel) (qC (v := .bool _) rfl) ?_
 refine dw_pureG (i := 27) rfl (by decide +kernel) rfl rfl (qC (v := .slice _ _ _) rfl) ?_
 refine dw_lastH (i := 28) rfl (by decide +kernel) (by decide +kernel) rfl rfl ?_
 refine qX (zc := [_]) (vs := [(0, .int .i64 _), (1, .int .i64 _), (2, .int .i64 _), (3, .int .i64 _)]) (cs := [_, _, _, _]) rfl rfl rfl rfl rfl rfl rfl fun b75 hb75 => ?_
 refine wN [_, _, _, _, _, _, _] rfl ?_
 refine dw_pub 6 rfl ?_
 intro g1 F1 q1
 refine wN [_, _, _, _, _, _, _] rfl ?_
 refine dw_lastH (i := 29) rfl (by decide +kernel) (by decide +kernel) rfl rfl ?_
 refine wJ (caps := []) (vs := [.slice _ _ _, .slice _ _ _]) rfl rfl rfl (sameInts_ok [4, 3, 1, 0] [4, 3, 1, 0] _ _ _ _ g1 (S4.ext (zL (zL (zL (zL (zL (zL (zL (zL (zL (zL (zL (zL (zL (zL (zL E5 E6) E7) E8) E9) E10) E11) E12) E13) E14) E15) E16) E17) E18) E19) F1)) (wX (enc := intC) (m := 1) (l := [4, 3, 1, 0]) (fun _ _ => rfl) q1) (by decide)) ?_
 rintro _ g2 F2 rfl
 refine qI (i := 30) rfl (by decide +kernel) (qZ rfl rfl (v := .bool _) rfl) ?_
 refine qI (i := 31) rfl (by decide +kernel) (qC (v := .bool _) rfl) ?_
 refine dw_pureG (i := 32) rfl (by decide +kernel) rfl rfl (qC (v := .slice _ _ _) rfl) ?_
 refine dw_lastH (i := 33) rfl (by decide +kernel) (by decide +kernel) rfl rfl ?_
 refine qX (zc := [_]) (vs := [(0, .int .i64 _), (1, .int .i64 _), (2, .int .i64 _)]) (cs := [_, _, _]) rfl rfl rfl rfl rfl rfl rfl fun b80 hb80 => ?_
 refine wN [_, _, _, _, _, _, _, _] rfl ?_
 refine dw_lastH (i := 34) rfl (by decide +kernel) (by decide +kernel) rfl rfl ?_
 refine qX (zc := [_]) (vs := [(0, .int .i64 _)]) (cs := [_]) rfl rfl rfl rfl rfl rfl rfl fun b81 hb81 => ?_
 refine wN [_, _, _, _, _, _, _, _, _] rfl ?_
 refine dw_lastH (i := 35) rfl (by decide +kernel) (by decide +kernel) rfl rfl ?_
 refine qX (zc := [_]) (vs := [(0, .slice _ _ _), (1, .slice _ _ _)]) (cs := [_, _]) rfl rfl rfl rfl rfl rfl rfl fun b82 hb82 => ?_
 refine wN [_, _, _, _, _, _, _, _, _, _] rfl ?_
 refine dw_pub 7 rfl ?_
 intro g3 F3 q3
 refine wN [_, _, _, _, _, _, _, _, _, _] rfl ?_
 refine dw_pub 8 rfl ?_
 intro g4 F4 q4
 refine wN [_, _, _, _, _, _, _, _, _, _] rfl ?_
 refine dw_pub 9 rfl ?_
 intro g5 F5 q5
 refine wN [_, _, _, _, _, _, _, _, _, _] rfl ?_
 have RL : Row g5 1 id (some ⟨b82, 0, none⟩) [[.slice (some ⟨b80, 0, none⟩) 3 3], [.slice (some ⟨b81, 0, none⟩) 1 1]] := wX (enc := id) (m := 1) (l := [[.slice (some ⟨b80, 0, none⟩) 3 3], [.slice (some ⟨b81, 0, none⟩) 1 1]]) (fun x hx => by simp at hx; rcases hx with rfl | rfl <;> rfl) q5
 have EL : Els g5 TL [[0, 1, 2], [1]] [[.slice (some ⟨b80, 0, none⟩) 3 3], [.slice (some ⟨b81, 0, none⟩) 1 1]] := by
  refine ⟨rfl, fun i x c h1 h2 => ?_⟩
  match i, h1, h2 with
  | 0, h1, h2 => cases h1; cases h2; exact ⟨_, rfl, some ⟨b80, 0, none⟩, 3, rfl, (wX (enc := intC) (m := 1) (l := [0, 1, 2]) (fun _ _ => rfl) q3).ext (zL F4 F5)⟩
  | 1, h1, h2 => cases h1; cases h2; exact ⟨_, rfl, some ⟨b81, 0, none⟩, 1, rfl, (wX (enc := intC) (m := 1) (l := [1]) (fun _ _ => rfl) q4).ext F5⟩
  | i + 2, h1, h2 => simp at h1
 refine dw_lastH (i := 36) rfl (by decide +kernel) (by decide +kernel) rfl rfl ?_
 refine wJ (caps := []) (vs := [.slice _ _ _, .slice _ _ _]) rfl rfl rfl (sameLists_ok [[0, 1, 2], [1]] [[0, 1, 2], [1]] _ _ _ _ cs11 _ g5 (R11.ext (zL (zL (zL (zL (zL (zL (zL (zL (zL (zL (zL (zL E12 E13) E14) E15) E16) E17) E18) E19) F1) F2) F3) F4) F5)) (L11.ext TL.mono (zL (zL (zL (zL (zL (zL (zL (zL (zL (zL (zL (zL E12 E13) E14) E15) E16) E17) E18) E19) F1) F2) F3) F4) F5)) RL EL (by decide) (by decide)) ?_
 rintro _ g6 F6 rfl
 refine qI (i := 37) rfl (by decide +kernel) (qZ rfl rfl (v := .bool _) rfl) ?_
 refine qI (i := 38) rfl (by decide +kernel) (qC (v := .bool _) rfl) ?_
 refine dw_pureG (i := 39) rfl (by decide +kernel) rfl rfl (qC (v := .slice _ _ _) rfl) ?_
 refine dw_lastH (i := 40) rfl (by decide +kernel) (by decide +kernel) rfl rfl ?_
 refine qX (zc := [_]) (vs := [(0, .int .i64 _), (1, .int .i64 _)]) (cs := [_, _]) rfl rfl rfl rfl rfl rfl rfl fun b87 hb87 => ?_
 refine wN [_, _, _, _, _, _, _, _, _, _, _] rfl ?_
 refine dw_pub 10 rfl ?_
 intro g7 F7 q7
 refine wN [_, _, _, _, _, _, _, _, _, _, _] rfl ?_
 refine dw_lastH (i := 41) rfl (by decide +kernel) (by decide +kernel) rfl rfl ?_
 refine wJ (caps := []) (vs := [.slice _ _ _, .slice _ _ _]) rfl rfl rfl (sameInts_ok [1, 9] [1, 9] _ _ _ _ g7 (S15.ext (zL (zL (zL (zL (zL (zL (zL (zL (zL (zL E16 E17) E18) E19) F1) F2) F3) F4) F5) F6) F7)) (wX (enc := intC) (m := 1) (l := [1, 9]) (fun _ _ => rfl) q7) (by decide)) ?_
 rintro _ g8 F8 rfl
 refine qI (i := 42) rfl (by decide +kernel) (qZ rfl rfl (v := .bool _) rfl) ?_
 refine qI (i := 43) rfl (by decide +kernel) (qC (v := .bool _) rfl) ?_
 refine dw_loadG (i := 44) rfl (by decide +kernel) rfl rfl ?_
 refine wO 5 (vs := [.slice _ _ _, .slice _ _ _]) rfl rfl rfl rfl rfl ?_
 refine dw_effH (i := 45) rfl (by decide +kernel) rfl rfl ?_
 refine qX (zc := [_]) (vs := [(0, .int .i64 _)]) (cs := [_]) rfl rfl rfl rfl rfl rfl rfl fun b92 hb92 => ?_
 refine ⟨ext_new hb92 _, ?_⟩
 refine wN [_, _, _, _, _, _, _, _, _, _, _, _] rfl ?_
 refine dw_pub 11 rfl ?_
 intro g9 F9 q9
 refine wN [_, _, _, _, _, _, _, _, _, _, _, _] rfl ?_
 refine dw_effH (i := 46) rfl (by decide +kernel) rfl rfl ?_
 refine wJ (caps := []) (vs := [.slice _ _ _]) rfl rfl rfl (pressed_ok [1] _ _ g9) ?_
 rintro _ g10 F10 rfl
 refine ⟨ext_wlm F10 _, ?_⟩
 refine dw_lastH (i := 47) rfl (by decide +kernel) (by decide +kernel) rfl rfl ?_
 refine wJ (caps := []) (vs := [.agg _, .agg _]) rfl rfl rfl (sameHands_ok ⟨[1], []⟩ ⟨[1], []⟩ _ _ _ _ _ _ _ _ g10 (RH.ext (zL (zL (zL (zL (zL (zL (zL (zL (zL F1 F2) F3) F4) F5) F6) F7) F8) F9) F10)) ⟨(wX (enc := intC) (m := 1) (l := [1]) (fun _ _ => rfl) q9).ext F10, row_nil _ _⟩ (by decide) (by decide)) ?_
 rintro _ g11 F11 rfl
 refine qI (i := 48) rfl (by decide +kernel) (qZ rfl rfl (v := .bool _) rfl) ?_
 refine qI (i := 49) rfl (by decide +kernel) (qD (v := .bool _) rfl) ?_
 refine zI rfl ?_
 refine qQ ?_
 refine qM (vs := [_]) Tryz.results6 ⟨qJ rfl rfl, trivial⟩ fun V => ?_
 exact ⟨(zL (zL (zL (zL (zL (zL (zL (zL (zL (zL (zL (zL (zL (zL (zL (zL (zL (zL (zL (zL (zL (zL (zL (zL (zL (zL (zL (zL (zL (zL E1 E2) E3) E4) E5) E6) E7) E8) E9) E10) E11) E12) E13) E14) E15) E16) E17) E18) E19) F1) F2) F3) F4) F5) F6) F7) F8) F9) F10) F11) (qR V)), rfl⟩
end
end Go.Proofs.YtmpahfdiebhdbaaGreatDoor
namespace Go.Rd
open Go Go.HL Go.Wx
variable [Lvl]
def renL (s : Int → Int) (l : LinkP) : LinkP := ⟨s l.frm, s l.to, l.reg, l.lag⟩
structure RenR (s : Int → Int) (m m' : MachP) : Prop where
 rods : m'.rods = m.rods
 bd : ∀ r, 0 ≤ r → r < m.rods → 0 ≤ s r ∧ s r < m.rods
 btn : m'.buttons = m.buttons.map s
 links : m'.links = m.links.map (renL s)
structure Inv (s t : Int → Int) (n : Int) : Prop where
 sb : ∀ r, 0 ≤ r → r < n → 0 ≤ s r ∧ s r < n
 tb : ∀ r, 0 ≤ r → r < n → 0 ≤ t r ∧ t r < n
 ts : ∀ r, 0 ≤ r → r < n → t (s r) = r
 st : ∀ r, 0 ≤ r → r < n → s (t r) = r
end Go.Rd
namespace Go.Rd
open Go Go.HL Go.Wx
variable [Lvl]
end Go.Rd
namespace Go.Rd
open Go Go.HL Go.Wx
variable [Lvl]
end Go.Rd
