/- An own logic over the model, its walks and its plain laws, joined of parts X3 X4 X5 Z2 X6 Z3 Xc CC X7. Conditions: as each theorem states. -/
import Derived.Test.YtmpahfdiebhdbaaGreatDoorLa4
import Derived.Test.YtmpahfdiebhdbaaGreatDoorLa2
set_option linter.all false
namespace Go.Proofs.YtmpahfdiebhdbaaGreatDoor
open Go Go.HL Go.Proofs Go.Wx Go.Rd
section
variable [Lvl]
set_option maxRecDepth 100000
structure Errs (h : AH) : Prop where
 syn : ∃ t p, Rd h (some ⟨1, 0, none⟩) [.iface t p]
 rng : ∃ t p, Rd h (some ⟨2, 0, none⟩) [.iface t p]
theorem Errs.ext {h h' : AH} (e : Errs h) (E : Ext h h') : Errs h' := by
 obtain ⟨⟨t, p, a⟩, ⟨t2, p2, b⟩⟩ := e
 exact ⟨⟨t, p, a.ext E⟩, ⟨t2, p2, b.ext E⟩⟩
theorem lies_byte (k : Nat) : liesAt Tryz.prog Tryz.prog.depth 5 (k / Tryz.prog.cellsOf 5) 0 5 k = true := by
 obtain ⟨d, hd⟩ : ∃ d, Tryz.prog.depth = d + 1 := ⟨_, rfl⟩
 have hc : Tryz.prog.cellsOf 5 = 1 := by kernel_rfl
 rw [hd]
 unfold liesAt rowAt
 rw [hd, hc, Nat.div_one]
 simp only [Nat.zero_div, Nat.zero_mod, Nat.zero_add]
 have hs : sameLayout Tryz.prog (d + 1) 5 5 = true := by
  unfold sameLayout
  simp
 simp [hs, hc]
theorem Clone_ok (l : List UInt8) (h : AH) (hl : l.length < 2 ^ 20) : FnT Tryz.prog 107 #[.string (bs l)] h (fun v _ => v = .string (bs l)) := by
 refine wH Tryz.func107 rfl Tryz.ntmps107 rfl ?_
 refine qE ?_
 refine qB rfl ?_
 refine qA (qD (v := .string _) rfl) ?_
 refine qE ?_
 refine qE ?_
 refine qB rfl ?_
 refine qA (qC (v := .string _) rfl) ?_
 refine qA (zF rfl rfl) ?_
 refine qA (qK (v := .bool _) rfl) ?_
 refine qP rfl (fun hc => ?_) (fun hc => ?_)
 ·skip
  have hc' : l = [] := by
   have : (l.length : Int) = 0 := by simpa using hc
   exact List.eq_nil_of_length_eq_zero (by omega)
  refine qE ?_
  refine qB rfl ?_
  refine qA (qD (v := .string _) rfl) ?_
  refine qQ ?_
  refine qM (vs := [_]) Tryz.results107 ⟨qJ rfl rfl, trivial⟩ fun V => ?_
  exact ⟨(qR V), by rw [hc']; rfl⟩
 ·skip
  have hc' : 0 < l.length := by
   have : ¬ (l.length : Int) = 0 := by simpa using hc
   omega
  refine qO ?_
  refine qE ?_
  refine qB rfl ?_
  refine qA (qC (v := .string _) rfl) ?_
  refine qA (zF rfl rfl) ?_
  refine op_makeOne (len := l.length) rfl rfl rfl rfl rfl rfl rfl rfl rfl (by omega) rfl fun a3 ha3 => ?_
  refine qN [_] rfl ?_
  refine qA (qD (v := .slice _ _ _) rfl) ?_
  refine qE ?_
  refine qB rfl ?_
  refine qA (qC (v := .slice _ _ _) rfl) ?_
  refine qA (qC (v := .string _) rfl) ?_
  refine op_copyS 0 (dl := l.length) rfl rfl rfl rfl (List.length_replicate ..) rfl rfl ?_
  refine qN [_] rfl ?_
  refine qE ?_
  refine qB rfl ?_
  refine qA (qC (v := .slice _ _ _) rfl) ?_
  refine qA (pv_index rfl rfl rfl rfl (by omega) (by omega)) ?_
  refine qA (qC (v := .slice _ _ _) rfl) ?_
  refine qA (wP rfl rfl) ?_
  refine op_usS 0 l rfl rfl rfl rfl hc' (by omega) rfl (lies_byte _) ?_
  refine qN [_] rfl ?_
  refine qA (qD (v := .string _) rfl) ?_
  refine qQ ?_
  refine qM (vs := [_]) Tryz.results107 ⟨qJ rfl rfl, trivial⟩ fun V => ?_
  exact ⟨(qR V), rfl⟩
theorem synErr_ok (f l : List UInt8) (h : AH) (ER : Errs h) (hl : l.length < 2 ^ 20) : FnT Tryz.prog 94 #[.string (bs f), .string (bs l)] h (fun v _ => ∃ a, v = .pointer (some a)) := by
 obtain ⟨t, p, R0⟩ := ER.syn
 obtain ⟨g, off, hA, hc⟩ := R0 (by simp)
 cases hA
 refine wH Tryz.func94 rfl Tryz.ntmps94 rfl ?_
 refine qE ?_
 refine qB rfl ?_
 refine qA (qD (v := .pointer _) rfl) ?_
 refine qE ?_
 refine xp_dw [] rfl rfl rfl ?_
 refine qI (i := 0) rfl (by decide +kernel) (qC (v := .string _) rfl) ?_
 refine qI (i := 1) rfl (by decide +kernel) (qC (v := .string _) rfl) ?_
 refine wE (i := 3) rfl (by decide +kernel) ?_
 refine wL (v := _) rfl rfl ((hc) 0 _ rfl) ?_
 refine dw_eff (i := 2) rfl (by decide +kernel) ?_
 refine wJ (caps := []) (vs := [.string _]) rfl rfl rfl (Clone_ok l h hl) ?_
 rintro _ h1 E1 rfl
 refine ⟨ext_wlm E1 _, ?_⟩
 refine qI (i := 4) rfl (by decide +kernel) (zC (zc := [_, _, _]) (vs := [(0, .string _), (1, .string _), (2, _)]) (cs := [_, _, _]) rfl rfl rfl rfl rfl rfl) ?_
 refine wV (i := 5) rfl (by decide +kernel) (by decide +kernel) ?_
 refine op_box (v := .agg #[.string _, .string _, _]) (cs := [_, _, _]) rfl rfl fun b10 hb10 => ?_
 refine wN [_] rfl ?_
 refine qI (i := 6) rfl (by decide +kernel) (qD (v := .pointer (some ⟨b10, 0, none⟩)) rfl) ?_
 refine zI rfl ?_
 refine qQ ?_
 refine qM (vs := [_]) Tryz.results94 ⟨qJ rfl rfl, trivial⟩ fun V => ?_
 exact ⟨(zL E1 (qR V)), _, rfl⟩
theorem rngErr_ok (f l : List UInt8) (h : AH) (ER : Errs h) (hl : l.length < 2 ^ 20) : FnT Tryz.prog 95 #[.string (bs f), .string (bs l)] h (fun v _ => ∃ a, v = .pointer (some a)) := by
 obtain ⟨t, p, R0⟩ := ER.rng
 obtain ⟨g, off, hA, hc⟩ := R0 (by simp)
 cases hA
 refine wH Tryz.func95 rfl Tryz.ntmps95 rfl ?_
 refine qE ?_
 refine qB rfl ?_
 refine qA (qD (v := .pointer _) rfl) ?_
 refine qE ?_
 refine xp_dw [] rfl rfl rfl ?_
 refine qI (i := 0) rfl (by decide +kernel) (qC (v := .string _) rfl) ?_
 refine qI (i := 1) rfl (by decide +kernel) (qC (v := .string _) rfl) ?_
 refine wE (i := 3) rfl (by decide +kernel) ?_
 refine wL (v := _) rfl rfl ((hc) 0 _ rfl) ?_
 refine dw_eff (i := 2) rfl (by decide +kernel) ?_
 refine wJ (caps := []) (vs := [.string _]) rfl rfl rfl (Clone_ok l h hl) ?_
 rintro _ h1 E1 rfl
 refine ⟨ext_wlm E1 _, ?_⟩
 refine qI (i := 4) rfl (by decide +kernel) (zC (zc := [_, _, _]) (vs := [(0, .string _), (1, .string _), (2, _)]) (cs := [_, _, _]) rfl rfl rfl rfl rfl rfl) ?_
 refine wV (i := 5) rfl (by decide +kernel) (by decide +kernel) ?_
 refine op_box (v := .agg #[.string _, .string _, _]) (cs := [_, _, _]) rfl rfl fun b10 hb10 => ?_
 refine wN [_] rfl ?_
 refine qI (i := 6) rfl (by decide +kernel) (qD (v := .pointer (some ⟨b10, 0, none⟩)) rfl) ?_
 refine zI rfl ?_
 refine qQ ?_
 refine qM (vs := [_]) Tryz.results95 ⟨qJ rfl rfl, trivial⟩ fun V => ?_
 exact ⟨(zL E1 (qR V)), _, rfl⟩
abbrev errV (k : Int) : Value := .iface 148 (.int .i64 k)
theorem toErr2_ok (f l : List UInt8) (h : AH) (ER : Errs h) (hl : l.length < 2 ^ 20) : FnT Tryz.prog 77 #[.string (bs f), .string (bs l), .int .i64 0, .int .i64 0, errV 2] h (fun v _ => ∃ t p, v = .iface t p) := by
 refine wH Tryz.func77 rfl Tryz.ntmps77 rfl ?_
 refine qE ?_
 refine qB rfl ?_
 refine qA (qD (v := _) rfl) ?_
 refine qE ?_
 refine qE ?_
 refine qB rfl ?_
 refine qA (qC (v := _) rfl) ?_
 refine qT ?_
 refine qE ?_
 refine qB rfl ?_
 refine qA (qK (v := _) rfl) ?_
 refine qA (qK (v := .bool _) rfl) ?_
 refine qA (qD (v := .bool _) rfl) ?_
 refine wW rfl (rfl) ?_
 refine qE ?_
 refine qB rfl ?_
 refine qA (qC (v := .string _) rfl) ?_
 refine qA (qC (v := .string _) rfl) ?_
 refine wJ (caps := []) (vs := [.string _, .string _]) rfl rfl rfl (synErr_ok f l h (ER.ext (Ext.refl _)) hl) ?_
 rintro _ h1 E1 ⟨a, rfl⟩
 refine qA (qK (v := _) rfl) ?_
 refine qA (qD (v := _) rfl) ?_
 refine qQ ?_
 refine qM (vs := [_]) Tryz.results77 ⟨qJ rfl rfl, trivial⟩ fun V => ?_
 exact ⟨(zL E1 (qR V)), _, _, rfl⟩
theorem toErr1_ok (f l : List UInt8) (h : AH) (ER : Errs h) (hl : l.length < 2 ^ 20) : FnT Tryz.prog 77 #[.string (bs f), .string (bs l), .int .i64 0, .int .i64 0, errV 1] h (fun v _ => ∃ t p, v = .iface t p) := by
 refine wH Tryz.func77 rfl Tryz.ntmps77 rfl ?_
 refine qE ?_
 refine qB rfl ?_
 refine qA (qD (v := _) rfl) ?_
 refine qE ?_
 refine qE ?_
 refine qB rfl ?_
 refine qA (qC (v := _) rfl) ?_
 refine qT ?_
 refine qE ?_
 refine qB rfl ?_
 refine qA (qK (v := _) rfl) ?_
 refine qA (qK (v := .bool _) rfl) ?_
 refine qA (qD (v := .bool _) rfl) ?_
 refine wT rfl (rfl) ?_
 refine qE ?_
 refine qB rfl ?_
 refine qA (qK (v := _) rfl) ?_
 refine qA (qK (v := .bool _) rfl) ?_
 refine qA (qD (v := .bool _) rfl) ?_
 refine wW rfl (rfl) ?_
 refine qE ?_
 refine qB rfl ?_
 refine qA (qC (v := .string _) rfl) ?_
 refine qA (qC (v := .string _) rfl) ?_
 refine wJ (caps := []) (vs := [.string _, .string _]) rfl rfl rfl (rngErr_ok f l h (ER.ext (Ext.refl _)) hl) ?_
 rintro _ h1 E1 ⟨a, rfl⟩
 refine qA (qK (v := _) rfl) ?_
 refine qA (qD (v := _) rfl) ?_
 refine qQ ?_
 refine qM (vs := [_]) Tryz.results77 ⟨qJ rfl rfl, trivial⟩ fun V => ?_
 exact ⟨(zL E1 (qR V)), _, _, rfl⟩
def ErrV (e : Value) : Prop := e = .nilIface ∨ e = errV 1 ∨ e = errV 2
theorem lower_ok (c : Int) (h : AH) : FnT Tryz.prog 114 #[.int .u8 c] h (fun v _ => ∃ x : Int, v = .int .u8 x) := by
 refine wH Tryz.func114 rfl Tryz.ntmps114 rfl ?_
 refine qE ?_
 refine qB rfl ?_
 refine qA (qD (v := .int .u8 _) rfl) ?_
 refine qE ?_
 refine qB rfl ?_
 refine qA (qC (v := .int .u8 _) rfl) ?_
 refine qA (qK (v := .int .u8 _) rfl) ?_
 refine qA (qD (v := .int .u8 _) rfl) ?_
 refine qQ ?_
 refine qM (vs := [_]) Tryz.results114 ⟨qJ rfl rfl, trivial⟩ fun V => ?_
 exact ⟨(qR V), _, rfl⟩
theorem ParseUint_ok (l : List UInt8) (h : AH) (hl : l.length < 2 ^ 20) : FnT Tryz.prog 106 #[.string (bs l), .int .i64 10, .int .i64 0] h (fun v _ => ∃ (r : Nat) (e : Value), v = .tuple #[.int .u64 r, e] ∧ ErrV e) := by
 refine wH Tryz.func106 rfl Tryz.ntmps106 rfl ?_
 refine qE ?_
 refine qB rfl ?_
 refine qA (qD (v := .int .u64 _) rfl) ?_
 refine qA (qD (v := _) rfl) ?_
 refine qE ?_
 refine qE ?_
 refine qB rfl ?_
 refine qA (qC (v := .string _) rfl) ?_
 refine qA (pv_streq rfl rfl) ?_
 refine qP rfl (fun h0 => ?_) (fun h0 => ?_)
 ·skip
  refine qE ?_
  refine qB rfl ?_
  refine qA (qK (v := _) rfl) ?_
  refine qA (qD (v := .int .u64 _) rfl) ?_
  refine qA (qD (v := _) rfl) ?_
  refine qQ ?_
  refine qM (vs := [_, _]) Tryz.results106 ⟨qJ rfl rfl, qJ rfl rfl, trivial⟩ fun V => ?_
  exact ⟨(qR V), 0, _, rfl, .inr (.inr rfl)⟩
 ·skip
  refine qO ?_
  refine qE ?_
  refine qB rfl ?_
  refine qA (qC (v := .int .i64 _) rfl) ?_
  refine qA (qK (v := .bool _) rfl) ?_
  refine qA (qD (v := .bool _) rfl) ?_
  refine qE ?_
  refine qB rfl ?_
  refine qA (qC (v := .string _) rfl) ?_
  refine qA (qD (v := .string _) rfl) ?_
  refine qE ?_
  refine qT ?_
  refine qE ?_
  refine qB rfl ?_
  refine qA (qC (v := .int .i64 _) rfl) ?_
  refine qA (qK (v := .bool _) rfl) ?_
  refine qA (qC (v := .bool _) rfl) ?_
  refine qF rfl rfl ?_
  refine qA (qC (v := .int .i64 _) rfl) ?_
  refine qF rfl rfl ?_
  refine qA (qK (v := .bool _) rfl) ?_
  refine qA (qZ rfl rfl (v := .bool _) rfl) ?_
  refine qA (qD (v := .bool _) rfl) ?_
  refine wW rfl (rfl) ?_
  refine qO ?_
  refine qE ?_
  refine qE ?_
  refine qB rfl ?_
  refine qA (qC (v := .int .i64 _) rfl) ?_
  refine qA (qK (v := .bool _) rfl) ?_
  refine wW rfl (rfl) ?_
  refine qB rfl ?_
  refine qA (qD (v := .int .i64 _) rfl) ?_
  refine qE ?_
  refine qB rfl ?_
  refine qA (qD (v := .int .u64 _) rfl) ?_
  refine qE ?_
  refine qE ?_
  refine qB rfl ?_
  refine qA (qC (v := .int .i64 _) rfl) ?_
  refine qT ?_
  refine qE ?_
  refine qB rfl ?_
  refine qA (qK (v := .bool _) rfl) ?_
  refine qA (qD (v := .bool _) rfl) ?_
  refine wW rfl (rfl) ?_
  refine qB rfl ?_
  refine qA (qD (v := .int .u64 _) rfl) ?_
  refine qE ?_
  refine qB rfl ?_
  refine qA (qC (v := .int .i64 _) rfl) ?_
  refine qA (qK (v := .int _ 64) rfl) ?_
  refine qA (qK (v := .int .u64 0) rfl) ?_
  refine qA (qK (v := .int .u64 18446744073709551615) rfl) ?_
  refine qA (qD (v := .int .u64 _) rfl) ?_
  refine qE ?_
  refine qB rfl ?_
  refine qA (qD (v := .bool _) rfl) ?_
  refine qE ?_
  refine qB rfl ?_
  refine qA (qD (v := .int .u64 _) rfl) ?_
  refine qE ?_
  refine qE ?_
  refine qB rfl ?_
  refine qA (qC (v := .string _) rfl) ?_
  refine op_open ?_
  refine op_s2b l rfl rfl rfl rfl fun b cap junk f hb => ?_
  refine ⟨rfl, _, _, rfl, fun h2 E2 hb2 => ?_⟩
  refine qA (wP rfl rfl) ?_
  refine qA (qC (v := .int .i64 _) rfl) ?_
  refine qT ?_
  refine zH [6, 7, 12, 13, 15, 16, 17, 101, 102, 103, 104, 105, 106, 107, 108, 109, 110, 111, 112, 113, 114, 115, 116, 117, 118, 119, 120, 121, 122, 123, 124, 125, 126, 127, 128, 129, 130, 131, 132, 133, 134, 135, 136, 137, 138, 139, 140, 141, 142, 143, 144, 145, 146, 147, 148, 149, 150, 151, 152, 153, 154, 155, 156, 157, 158, 159, 160, 161, 162, 163] 0 (α := Nat × Nat) (fun ⟨k, r⟩ => [(101, .int .i64 k), (13, .int .u64 r), (12, .bool false)]) (fun ⟨k, r⟩ => _) (fun ⟨k, r⟩ h_k => k ≤ l.length) (fun ⟨k, r⟩ => l.length - k) ((0, 0)) ⟨rfl, rfl, rfl, trivial⟩ (rfl) (Nat.zero_le _) ?_
  rintro ⟨k, r⟩ T1 h_k E_k J_k
  refine qU [] rfl ?_
  refine qE ?_
  refine qB rfl ?_
  refine qA (qK (v := .bool _) rfl) ?_
  refine qE ?_
  refine qP rfl (fun hk => ?_) (fun hk => ?_)
  ·skip
   have hkl : k < l.length := ltI hk
   have hcell := (cells_front hb2).ext E_k k (.int .u8 l[k].toNat) (by rw [byC_map, List.getElem?_map, List.getElem?_eq_getElem hkl]; rfl)
   refine qO ?_
   refine qE ?_
   refine qT ?_
   refine qE ?_
   refine qB rfl ?_
   refine qA (pv_index (m := 1) rfl rfl rfl rfl (by omega) (by omega)) ?_
   refine wL (v := .int .u8 l[k].toNat) rfl rfl (by show cellA _ ⟨_, 0 + (k : Int).toNat * 1, none⟩ = _; rw [Int.toNat_natCast, Nat.mul_one]; exact hcell) ?_
   refine qA (qD (v := .int .u8 _) rfl) ?_
   refine qE ?_
   refine qB rfl ?_
   refine qA (qD (v := .int .u8 _) rfl) ?_
   refine xp_cutB [6, 7, 12, 16, 105, 106, 107, 108, 109, 110, 111, 112, 113, 114, 115, 116, 117, 118, 119, 120, 121, 122, 123, 124, 125, 126, 127, 128, 129, 130, 131, 132, 133] 0 (α := Int) (fun x => [(16, .int .u8 x), (12, .bool false)]) (fun x L => L) (fun x h_x => True) ?_ ?_
   ·skip
    refine qT ?_
    refine xp_cutB [106, 107, 108, 109, 110, 111] 0 (α := Unit) (fun u3 => [(106, .bool (((l[k].toNat : Int) == 95) && (false)))]) (fun u3 L => L) (fun u3 h_u3 => True) ?_ ?_
    ·rcases Bool.eq_false_or_eq_true ((l[k].toNat : Int) == 95) with hg3 | hg3
     ·refine qB rfl ?_
      refine qA (qC (v := .int .u8 _) rfl) ?_
      refine qA (qK (v := .bool _) rfl) ?_
      refine qA (qC (v := .bool _) rfl) ?_
      refine qF rfl hg3 ?_
      refine qA (qC (v := .bool _) rfl) ?_
      refine qA (qZ rfl hg3 (v := .bool _) rfl) ?_
      refine qA (qD (v := .bool _) rfl) ?_
      refine ⟨(), ⟨(by show Value.bool _ = _; rw [hg3]; rfl), trivial⟩, rfl, rfl, (Ext.refl _), fun h3 E3 => by first | trivial | omega | (refine ⟨?_, ?_⟩ <;> omega), ?_⟩
      repeat (first | exact wQ _ _ | exact qW _ _ _ | refine wA (by decide) ?_ | refine qV rfl ?_ | refine wB rfl ?_)
     ·refine qB rfl ?_
      refine qA (qC (v := .int .u8 _) rfl) ?_
      refine qA (qK (v := .bool _) rfl) ?_
      refine qA (qC (v := .bool _) rfl) ?_
      refine qH rfl hg3 ?_
      refine qA (wI rfl hg3 (v := .bool _) rfl) ?_
      refine qA (qD (v := .bool _) rfl) ?_
      refine ⟨(), ⟨(by show Value.bool _ = _; rw [hg3]; rfl), trivial⟩, rfl, rfl, (Ext.refl _), fun h3 E3 => by first | trivial | omega | (refine ⟨?_, ?_⟩ <;> omega), ?_⟩
      repeat (first | exact wQ _ _ | exact qW _ _ _ | refine wA (by decide) ?_ | refine qV rfl ?_ | refine wB rfl ?_)
    rintro u3 T4 h_u3 E_u3 J_u3
    refine qU [] rfl ?_
    refine wT rfl ((by simp)) ?_
    refine xp_cutB [112, 113, 114, 115, 116, 117, 118] 0 (α := Unit) (fun u5 => [(112, .bool ((decide ((48 : Int) ≤ l[k].toNat)) && (decide ((l[k].toNat : Int) ≤ 57))))]) (fun u5 L => L) (fun u5 h_u5 => True) ?_ ?_
    ·rcases Bool.eq_false_or_eq_true (decide ((48 : Int) ≤ l[k].toNat)) with hg5 | hg5
     ·refine qB rfl ?_
      refine qA (qC (v := .int .u8 _) rfl) ?_
      refine qA (qK (v := .bool _) rfl) ?_
      refine qA (qC (v := .bool _) rfl) ?_
      refine qF rfl hg5 ?_
      refine qA (qC (v := .int .u8 _) rfl) ?_
      refine qF rfl hg5 ?_
      refine qA (qK (v := .bool _) rfl) ?_
      refine qA (qZ rfl hg5 (v := .bool _) rfl) ?_
      refine qA (qD (v := .bool _) rfl) ?_
      refine ⟨(), ⟨(by show Value.bool _ = _; rw [hg5]; rfl), trivial⟩, rfl, rfl, (Ext.refl _), fun h3 E3 => by first | trivial | omega | (refine ⟨?_, ?_⟩ <;> omega), ?_⟩
      repeat (first | exact wQ _ _ | exact qW _ _ _ | refine wA (by decide) ?_ | refine qV rfl ?_ | refine wB rfl ?_)
     ·refine qB rfl ?_
      refine qA (qC (v := .int .u8 _) rfl) ?_
      refine qA (qK (v := .bool _) rfl) ?_
      refine qA (qC (v := .bool _) rfl) ?_
      refine qH rfl hg5 ?_
      refine qH rfl hg5 ?_
      refine qA (wI rfl hg5 (v := .bool _) rfl) ?_
      refine qA (qD (v := .bool _) rfl) ?_
      refine ⟨(), ⟨(by show Value.bool _ = _; rw [hg5]; rfl), trivial⟩, rfl, rfl, (Ext.refl _), fun h3 E3 => by first | trivial | omega | (refine ⟨?_, ?_⟩ <;> omega), ?_⟩
      repeat (first | exact wQ _ _ | exact qW _ _ _ | refine wA (by decide) ?_ | refine qV rfl ?_ | refine wB rfl ?_)
    rintro u5 T6 h_u5 E_u5 J_u5
    refine qU [] rfl ?_
    refine qP rfl (fun hd => ?_) (fun hd => ?_)
    ·skip
     refine qB rfl ?_
     refine qA (qC (v := .int .u8 _) rfl) ?_
     refine qA (qK (v := .int .u8 _) rfl) ?_
     refine qA (qD (v := .int .u8 _) rfl) ?_
     refine ⟨_, ⟨rfl, rfl, trivial⟩, rfl, rfl, (zL E_u3 E_u5), fun h3 E3 => by first | trivial | omega | (refine ⟨?_, ?_⟩ <;> omega), ?_⟩
     repeat (first | exact wQ _ _ | exact qW _ _ _ | refine wA (by decide) ?_ | refine qV rfl ?_ | refine wB rfl ?_)
    ·skip
     refine xp_cutB [121, 122, 123, 124, 125, 126, 127, 128, 129] 0 (α := Bool) (fun q => [(121, .bool q)]) (fun q L => L) (fun q h_q => True) ?_ ?_
     ·skip
      refine qB rfl ?_
      refine qA (qC (v := .int .u8 _) rfl) ?_
      refine wJ (caps := []) (vs := [.int .u8 _]) rfl rfl rfl (lower_ok _ h_u5) ?_
      rintro _ h3 E3 ⟨x1, rfl⟩
      refine qA (qK (v := .bool _) rfl) ?_
      refine qA (qC (v := .bool _) rfl) ?_
      rcases Bool.eq_false_or_eq_true (decide ((97 : Int) ≤ x1)) with hg | hg
      ·skip
       refine qF rfl hg ?_
       refine qA (qC (v := .int .u8 _) rfl) ?_
       refine qF rfl hg ?_
       refine wJ (caps := []) (vs := [.int .u8 _]) rfl rfl rfl (lower_ok _ h3) ?_
       rintro _ h4 E4 ⟨x2, rfl⟩
       refine qF rfl hg ?_
       refine qA (qK (v := .bool _) rfl) ?_
       refine qA (qZ rfl hg (v := .bool _) rfl) ?_
       refine qA (qD (v := .bool _) rfl) ?_
       refine ⟨_, ⟨rfl, trivial⟩, rfl, rfl, (zL E3 E4), fun h3 E3 => by first | trivial | omega | (refine ⟨?_, ?_⟩ <;> omega), ?_⟩
       repeat (first | exact wQ _ _ | exact qW _ _ _ | refine wA (by decide) ?_ | refine qV rfl ?_ | refine wB rfl ?_)
      ·skip
       refine qH rfl hg ?_
       refine qH rfl hg ?_
       refine qH rfl hg ?_
       refine qA (wI rfl hg (v := .bool _) rfl) ?_
       refine qA (qD (v := .bool _) rfl) ?_
       refine ⟨_, ⟨rfl, trivial⟩, rfl, rfl, E3, fun h3 E3 => by first | trivial | omega | (refine ⟨?_, ?_⟩ <;> omega), ?_⟩
       repeat (first | exact wQ _ _ | exact qW _ _ _ | refine wA (by decide) ?_ | refine qV rfl ?_ | refine wB rfl ?_)
     ·rintro q T7 h_q E_q J_q
      refine qU [] rfl ?_
      refine qP rfl (fun hq => ?_) (fun hq => ?_)
      ·skip
       refine qB rfl ?_
       refine qA (qC (v := .int .u8 _) rfl) ?_
       refine wJ (caps := []) (vs := [.int .u8 _]) rfl rfl rfl (lower_ok _ h_q) ?_
       rintro _ h5 E5 ⟨x3, rfl⟩
       refine qA (qK (v := .int .u8 _) rfl) ?_
       refine qA (qK (v := .int .u8 _) rfl) ?_
       refine qA (qD (v := .int .u8 _) rfl) ?_
       refine ⟨_, ⟨rfl, rfl, trivial⟩, rfl, rfl, (zL (zL (zL E_u3 E_u5) E_q) E5), fun h3 E3 => by first | trivial | omega | (refine ⟨?_, ?_⟩ <;> omega), ?_⟩
       repeat (first | exact wQ _ _ | exact qW _ _ _ | refine wA (by decide) ?_ | refine qV rfl ?_ | refine wB rfl ?_)
      ·skip
       refine qE ?_
       refine qB rfl ?_
       refine qA (qK (v := _) rfl) ?_
       refine qA (qD (v := .int .u64 _) rfl) ?_
       refine qA (qD (v := _) rfl) ?_
       refine qQ ?_
       refine qM (vs := [_, _]) Tryz.results106 ⟨qJ rfl rfl, qJ rfl rfl, trivial⟩ fun V => ?_
       exact ⟨(zL (zL (zL (zL (zL E2 E_k) E_u3) E_u5) E_q) (qR V)), 0, _, rfl, .inr (.inr rfl)⟩
   ·rintro x T2 h_x E_x J_x
    refine qU [] rfl ?_
    refine qE ?_
    refine qE ?_
    refine qB rfl ?_
    refine qA (qC (v := .int .u8 _) rfl) ?_
    refine qA (qC (v := .int .i64 _) rfl) ?_
    refine qA (pv_conv (z' := 10) rfl rfl rfl rfl) ?_
    refine qA (qK (v := .bool _) rfl) ?_
    refine qP rfl (fun hx => ?_) (fun hx => ?_)
    ·skip
     refine qE ?_
     refine qB rfl ?_
     refine qA (qK (v := _) rfl) ?_
     refine qA (qD (v := .int .u64 _) rfl) ?_
     refine qA (qD (v := _) rfl) ?_
     refine qQ ?_
     refine qM (vs := [_, _]) Tryz.results106 ⟨qJ rfl rfl, qJ rfl rfl, trivial⟩ fun V => ?_
     exact ⟨(zL (zL (zL E2 E_k) E_x) (qR V)), 0, _, rfl, .inr (.inr rfl)⟩
    ·skip
     refine qO ?_
     refine qE ?_
     refine qE ?_
     refine qB rfl ?_
     refine qA (qC (v := .int .u64 _) rfl) ?_
     refine qA (qC (v := .int .u64 _) rfl) ?_
     refine qA (qK (v := .bool _) rfl) ?_
     refine qP rfl (fun hy => ?_) (fun hy => ?_)
     ·skip
      refine qE ?_
      refine qB rfl ?_
      refine qA (qC (v := .int .u64 _) rfl) ?_
      refine qA (qK (v := _) rfl) ?_
      refine qA (qD (v := .int .u64 _) rfl) ?_
      refine qA (qD (v := _) rfl) ?_
      refine qQ ?_
      refine qM (vs := [_, _]) Tryz.results106 ⟨qJ rfl rfl, qJ rfl rfl, trivial⟩ fun V => ?_
      exact ⟨(zL (zL (zL E2 E_k) E_x) (qR V)), 18446744073709551615, _, rfl, .inr (.inl rfl)⟩
     ·skip
      refine qO ?_
      refine qE ?_
      refine qB rfl ?_
      refine qA (qC (v := .int .u64 _) rfl) ?_
      refine qA (qC (v := .int .i64 _) rfl) ?_
      refine qA (pv_conv (z' := 10) rfl rfl rfl rfl) ?_
      refine op_some rfl fun r1 hr1 => ?_
      refine qA (qD (v := .int .u64 _) rfl) ?_
      refine qE ?_
      refine qB rfl ?_
      refine qA (qC (v := .int .u64 _) rfl) ?_
      refine qA (qC (v := .int .u8 _) rfl) ?_
      refine op_some rfl fun r2 hr2 => ?_
      refine op_some rfl fun r3 hr3 => ?_
      refine qA (qD (v := .int .u64 _) rfl) ?_
      refine qE ?_
      refine xp_cutB [152, 153, 154, 155, 156, 157, 158, 159] 0 (α := Unit) (fun u8 => [(159, .bool ((decide ((r3 : Int) < r1)) || (decide ((r3 : Int) > 18446744073709551615))))]) (fun u8 L => L) (fun u8 h_u8 => True) ?_ ?_
      ·rcases Bool.eq_false_or_eq_true (decide ((r3 : Int) < r1)) with hg8 | hg8
       ·refine qB rfl ?_
        refine qA (qC (v := .int .u64 _) rfl) ?_
        refine qA (qC (v := .int .u64 _) rfl) ?_
        refine qA (qK (v := .bool _) rfl) ?_
        refine qA (qC (v := .bool _) rfl) ?_
        refine qH rfl hg8 ?_
        refine qH rfl hg8 ?_
        refine qH rfl hg8 ?_
        refine qA (qZ rfl hg8 (v := .bool _) rfl) ?_
        refine ⟨(), ⟨(by show Value.bool _ = _; rw [hg8]; rfl), trivial⟩, rfl, rfl, (Ext.refl _), fun h3 E3 => by first | trivial | omega | (refine ⟨?_, ?_⟩ <;> omega), ?_⟩
        repeat (first | exact wQ _ _ | exact qW _ _ _ | refine wA (by decide) ?_ | refine qV rfl ?_ | refine wB rfl ?_)
       ·refine qB rfl ?_
        refine qA (qC (v := .int .u64 _) rfl) ?_
        refine qA (qC (v := .int .u64 _) rfl) ?_
        refine qA (qK (v := .bool _) rfl) ?_
        refine qA (qC (v := .bool _) rfl) ?_
        refine qF rfl hg8 ?_
        refine qA (qC (v := .int .u64 _) rfl) ?_
        refine qF rfl hg8 ?_
        refine qA (qC (v := .int .u64 _) rfl) ?_
        refine qF rfl hg8 ?_
        refine qA (qK (v := .bool _) rfl) ?_
        refine qA (wI rfl hg8 (v := .bool _) rfl) ?_
        refine ⟨(), ⟨(by show Value.bool _ = _; rw [hg8]; rfl), trivial⟩, rfl, rfl, (Ext.refl _), fun h3 E3 => by first | trivial | omega | (refine ⟨?_, ?_⟩ <;> omega), ?_⟩
        repeat (first | exact wQ _ _ | exact qW _ _ _ | refine wA (by decide) ?_ | refine qV rfl ?_ | refine wB rfl ?_)
      rintro u8 T9 h_u8 E_u8 J_u8
      refine qU [] rfl ?_
      refine qP rfl (fun hz => ?_) (fun hz => ?_)
      ·skip
       refine qE ?_
       refine qB rfl ?_
       refine qA (qC (v := .int .u64 _) rfl) ?_
       refine qA (qK (v := _) rfl) ?_
       refine qA (qD (v := .int .u64 _) rfl) ?_
       refine qA (qD (v := _) rfl) ?_
       refine qQ ?_
       refine qM (vs := [_, _]) Tryz.results106 ⟨qJ rfl rfl, qJ rfl rfl, trivial⟩ fun V => ?_
       exact ⟨(zL (zL (zL (zL E2 E_k) E_x) E_u8) (qR V)), 18446744073709551615, _, rfl, .inr (.inl rfl)⟩
      ·skip
       refine qO ?_
       refine qB rfl ?_
       refine qA (qC (v := .int .u64 _) rfl) ?_
       refine qA (qD (v := .int .u64 _) rfl) ?_
       refine qB rfl ?_
       refine qA (qS rfl (by omega)) ?_
       refine qA (qC (v := .int .i64 _) rfl) ?_
       refine ⟨(k + 1, r3), ⟨rfl, rfl, rfl, trivial⟩, rfl, rfl, (zL (zL E_k E_x) E_u8), fun h3 E3 => hkl, by first | omega | (dsimp only; omega), ?_⟩
       repeat (first | exact qW _ _ _ | refine wA (by decide) ?_ | refine qV rfl ?_ | refine wB rfl ?_)
  ·skip
   refine wS ?_
   refine qE ?_
   refine qE ?_
   refine qB rfl ?_
   refine qA (qC (v := .bool _) rfl) ?_
   refine qA (qC (v := .bool _) rfl) ?_
   refine qH rfl rfl ?_
   refine qH rfl rfl ?_
   refine qH rfl rfl ?_
   refine qA (wI rfl rfl (v := .bool _) rfl) ?_
   refine wT rfl (rfl) ?_
   refine qO ?_
   refine qE ?_
   refine qB rfl ?_
   refine qA (qC (v := .int .u64 _) rfl) ?_
   refine qA (qD (v := .int .u64 _) rfl) ?_
   refine qA (qD (v := _) rfl) ?_
   refine qQ ?_
   refine qM (vs := [_, _]) Tryz.results106 ⟨qJ rfl rfl, qJ rfl rfl, trivial⟩ fun V => ?_
   exact ⟨(zL (zL E2 E_k) (qR V)), r, _, rfl, .inl rfl⟩
end
end Go.Proofs.YtmpahfdiebhdbaaGreatDoor
namespace Go.Proofs.YtmpahfdiebhdbaaGreatDoor
open Go Go.HL Go.Proofs Go.Wx Go.Rd
section
variable [Lvl]
set_option maxRecDepth 100000
theorem u8_eqI {c k : UInt8} (h : ((c.toNat : Int) == (k.toNat : Int)) = true) : c = k := UInt8.toNat_inj.1 (Int.ofNat.inj (by simpa using h))
theorem ParseInt_ok (l : List UInt8) (h : AH) (hl : l.length < 2 ^ 20) : FnT Tryz.prog 93 #[.string (bs l), .int .i64 10, .int .i64 0] h (fun v _ => ∃ (r : Int) (e : Value), v = .tuple #[.int .i64 r, e] ∧ ErrV e ∧ (l = [] → e = errV 2)) := by
 refine wH Tryz.func93 rfl Tryz.ntmps93 rfl ?_
 refine qE ?_
 refine qB rfl ?_
 refine qA (qD (v := .int .i64 _) rfl) ?_
 refine qA (qD (v := _) rfl) ?_
 refine qE ?_
 refine qE ?_
 refine qB rfl ?_
 refine qA (qC (v := .string _) rfl) ?_
 refine qA (pv_streq rfl rfl) ?_
 refine qP rfl (fun h0 => ?_) (fun h0 => ?_)
 ·skip
  refine qE ?_
  refine qB rfl ?_
  refine qA (qK (v := _) rfl) ?_
  refine qA (qD (v := .int .i64 _) rfl) ?_
  refine qA (qD (v := _) rfl) ?_
  refine qQ ?_
  refine qM (vs := [_, _]) Tryz.results93 ⟨qJ rfl rfl, qJ rfl rfl, trivial⟩ fun V => ?_
  exact ⟨(qR V), 0, _, rfl, .inr (.inr rfl), fun _ => rfl⟩
 ·skip
  have h0' : ¬ l = [] := of_decide_eq_false h0
  obtain ⟨c, l2, hcl⟩ : ∃ c l2, l = c :: l2 := by
   cases l with
   | nil => exact absurd rfl h0'
   | cons c l2 => exact ⟨c, l2, rfl⟩
  have hll : l2.length + 1 = l.length := by rw [hcl]; rfl
  refine qO ?_
  refine qE ?_
  refine qB rfl ?_
  refine qA (qD (v := .bool _) rfl) ?_
  refine xp_cutB [0, 8, 15, 16, 17, 18, 19, 20, 21, 22, 23, 24] 0 (α := Bool × List UInt8) (fun ⟨ng, s2⟩ => [(0, .string (bs s2)), (8, .bool ng)]) (fun ⟨ng, s2⟩ L => L) (fun ⟨ng, s2⟩ h_ng => s2.length ≤ l.length) ?_ ?_
  ·skip
   refine qE ?_
   refine qB rfl ?_
   refine qA (qC (v := .string _) rfl) ?_
   refine qA (pv_stridx (c := c) 0 rfl rfl rfl rfl (by rw [hcl]; rfl)) ?_
   refine qT ?_
   refine qE ?_
   refine qB rfl ?_
   refine qA (qK (v := .bool _) rfl) ?_
   refine qA (qD (v := .bool _) rfl) ?_
   refine qP rfl (fun hp => ?_) (fun hp => ?_)
   ·skip
    refine qB rfl ?_
    refine qA (qC (v := .string _) rfl) ?_
    refine qA (pv_strcut 1 l.length rfl rfl (.inr ⟨_, _, rfl, rfl⟩) (.inl ⟨rfl, rfl⟩) (by omega) (Nat.le_refl _)) ?_
    refine qA (qD (v := .string _) rfl) ?_
    refine ⟨(false, (l.take l.length).drop 1), ⟨rfl, rfl, trivial⟩, rfl, rfl, (Ext.refl _), fun h3 E3 => by show ((l.take l.length).drop 1).length ≤ _; rw [List.length_drop, List.length_take]; omega, ?_⟩
    repeat (first | exact wQ _ _ | exact qW _ _ _ | refine wA (by decide) ?_ | refine qV rfl ?_ | refine wB rfl ?_)
   ·skip
    refine qE ?_
    refine qB rfl ?_
    refine qA (qK (v := .bool _) rfl) ?_
    refine qA (qD (v := .bool _) rfl) ?_
    refine qP rfl (fun hm => ?_) (fun hm => ?_)
    ·skip
     refine qE ?_
     refine qB rfl ?_
     refine qA (qC (v := .string _) rfl) ?_
     refine qA (pv_strcut 1 l.length rfl rfl (.inr ⟨_, _, rfl, rfl⟩) (.inl ⟨rfl, rfl⟩) (by omega) (Nat.le_refl _)) ?_
     refine qA (qD (v := .string _) rfl) ?_
     refine qB rfl ?_
     refine qA (qD (v := .bool _) rfl) ?_
     refine ⟨(true, (l.take l.length).drop 1), ⟨rfl, rfl, trivial⟩, rfl, rfl, (Ext.refl _), fun h3 E3 => by show ((l.take l.length).drop 1).length ≤ _; rw [List.length_drop, List.length_take]; omega, ?_⟩
     repeat (first | exact wQ _ _ | exact qW _ _ _ | refine wA (by decide) ?_ | refine qV rfl ?_ | refine wB rfl ?_)
    ·skip
     refine qO ?_
     refine ⟨(false, l), ⟨rfl, rfl, trivial⟩, rfl, rfl, (Ext.refl _), fun h3 E3 => Nat.le_refl _, ?_⟩
     repeat (first | exact wQ _ _ | exact qW _ _ _ | refine wA (by decide) ?_ | refine qV rfl ?_ | refine wB rfl ?_)
  ·rintro ⟨ng, s2⟩ T1 h_ng E_ng J_ng
   refine qU [] rfl ?_
   refine qE ?_
   refine qB rfl ?_
   refine qA (qD (v := .int .u64 _) rfl) ?_
   refine qE ?_
   refine qB rfl ?_
   refine qA (qC (v := .string _) rfl) ?_
   refine qA (qC (v := .int .i64 _) rfl) ?_
   refine qA (qC (v := .int .i64 _) rfl) ?_
   refine wJ (caps := []) (vs := [.string _, .int .i64 _, .int .i64 _]) rfl rfl rfl (ParseUint_ok s2 h_ng (by omega)) ?_
   rintro _ h1 E1 ⟨r, e, rfl, he⟩
   refine qA (qC (v := .tuple #[.int .u64 _, _]) rfl) ?_
   refine qA (qK (v := .int .u64 _) rfl) ?_
   refine qA (qK (v := _) rfl) ?_
   refine qA (qD (v := .int .u64 _) rfl) ?_
   refine qA (qD (v := _) rfl) ?_
   rcases he with rfl | rfl | rfl
   ·skip
    refine qE ?_
    refine qE ?_
    refine qB rfl ?_
    refine qA (qC (v := _) rfl) ?_
    refine qA (qK (v := .bool _) rfl) ?_
    refine qA (qC (v := .bool _) rfl) ?_
    refine qH rfl rfl ?_
    refine qH rfl rfl ?_
    refine qH rfl rfl ?_
    refine qA (wI rfl rfl (v := .bool _) rfl) ?_
    refine wT rfl (rfl) ?_
    refine qO ?_
    refine qE ?_
    refine qE ?_
    refine qB rfl ?_
    refine qA (qC (v := .int .i64 _) rfl) ?_
    refine qA (qK (v := .bool _) rfl) ?_
    refine wW rfl (rfl) ?_
    refine qB rfl ?_
    refine qA (qD (v := .int .i64 _) rfl) ?_
    refine qE ?_
    refine qB rfl ?_
    refine qA (qC (v := .int .i64 _) rfl) ?_
    refine qA (qS rfl (by omega)) ?_
    refine qA (qK (v := .int _ 63) rfl) ?_
    refine qA (qK (v := .int .u64 9223372036854775808) rfl) ?_
    refine qA (qD (v := .int .u64 _) rfl) ?_
    cases ng
    ·skip
     refine qE ?_
     refine qE ?_
     refine qB rfl ?_
     refine qA (qC (v := .bool _) rfl) ?_
     refine qA (qK (v := .bool _) rfl) ?_
     refine qA (qC (v := .bool _) rfl) ?_
     refine qF rfl rfl ?_
     refine qA (qC (v := .int .u64 _) rfl) ?_
     refine qF rfl rfl ?_
     refine qA (qC (v := .int .u64 _) rfl) ?_
     refine qF rfl rfl ?_
     refine qA (qK (v := .bool _) rfl) ?_
     refine qA (qZ rfl rfl (v := .bool _) rfl) ?_
     refine qP rfl (fun hx => ?_) (fun hx => ?_)
     ·skip
      refine qE ?_
      refine qB rfl ?_
      refine qA (qC (v := .int .u64 _) rfl) ?_
      refine qA (qK (v := .int .u64 9223372036854775807) rfl) ?_
      refine qA (qK (v := .int .i64 9223372036854775807) rfl) ?_
      refine qA (qK (v := _) rfl) ?_
      refine qA (qD (v := .int .i64 _) rfl) ?_
      refine qA (qD (v := _) rfl) ?_
      refine qQ ?_
      refine qM (vs := [_, _]) Tryz.results93 ⟨qJ rfl rfl, qJ rfl rfl, trivial⟩ fun V => ?_
      exact ⟨(zL (zL E_ng E1) (qR V)), _, _, rfl, .inr (.inl rfl), fun e => absurd e h0'⟩
     ·skip
      refine qO ?_
      refine qE ?_
      refine qE ?_
      refine qB rfl ?_
      refine qA (qC (v := .bool _) rfl) ?_
      refine qA (qC (v := .bool _) rfl) ?_
      refine qH rfl rfl ?_
      refine qH rfl rfl ?_
      refine qH rfl rfl ?_
      refine qA (wI rfl rfl (v := .bool _) rfl) ?_
      refine wT rfl (rfl) ?_
      refine qO ?_
      refine qE ?_
      refine qB rfl ?_
      refine qA (qC (v := .int .u64 _) rfl) ?_
      refine qA (qK (v := .int .i64 _) rfl) ?_
      refine qA (qD (v := .int .i64 _) rfl) ?_
      refine qE ?_
      refine qE ?_
      refine qB rfl ?_
      refine qA (qC (v := .bool _) rfl) ?_
      refine wT rfl (rfl) ?_
      refine qO ?_
      refine qE ?_
      refine qB rfl ?_
      refine qA (qC (v := .int .i64 _) rfl) ?_
      refine qA (qD (v := .int .i64 _) rfl) ?_
      refine qA (qD (v := _) rfl) ?_
      refine qQ ?_
      refine qM (vs := [_, _]) Tryz.results93 ⟨qJ rfl rfl, qJ rfl rfl, trivial⟩ fun V => ?_
      exact ⟨(zL (zL E_ng E1) (qR V)), _, _, rfl, .inl rfl, fun e => absurd e h0'⟩
    ·skip
     refine qE ?_
     refine qE ?_
     refine qB rfl ?_
     refine qA (qC (v := .bool _) rfl) ?_
     refine qA (qK (v := .bool _) rfl) ?_
     refine qA (qC (v := .bool _) rfl) ?_
     refine qH rfl rfl ?_
     refine qH rfl rfl ?_
     refine qH rfl rfl ?_
     refine qA (wI rfl rfl (v := .bool _) rfl) ?_
     refine wT rfl (rfl) ?_
     refine qO ?_
     refine qE ?_
     refine qE ?_
     refine qB rfl ?_
     refine qA (qC (v := .bool _) rfl) ?_
     refine qA (qC (v := .bool _) rfl) ?_
     refine qF rfl rfl ?_
     refine qA (qC (v := .int .u64 _) rfl) ?_
     refine qF rfl rfl ?_
     refine qA (qC (v := .int .u64 _) rfl) ?_
     refine qF rfl rfl ?_
     refine qA (qK (v := .bool _) rfl) ?_
     refine qA (qZ rfl rfl (v := .bool _) rfl) ?_
     refine qP rfl (fun hx => ?_) (fun hx => ?_)
     ·skip
      refine qE ?_
      refine qB rfl ?_
      refine qA (qC (v := .int .u64 _) rfl) ?_
      refine qA (qK (v := .int .i64 (-9223372036854775808)) rfl) ?_
      refine qA (qK (v := .int .i64 (-9223372036854775808)) rfl) ?_
      refine qA (qK (v := _) rfl) ?_
      refine qA (qD (v := .int .i64 _) rfl) ?_
      refine qA (qD (v := _) rfl) ?_
      refine qQ ?_
      refine qM (vs := [_, _]) Tryz.results93 ⟨qJ rfl rfl, qJ rfl rfl, trivial⟩ fun V => ?_
      exact ⟨(zL (zL E_ng E1) (qR V)), _, _, rfl, .inr (.inl rfl), fun e => absurd e h0'⟩
     ·skip
      refine qO ?_
      refine qE ?_
      refine qB rfl ?_
      refine qA (qC (v := .int .u64 _) rfl) ?_
      refine qA (qK (v := .int .i64 _) rfl) ?_
      refine qA (qD (v := .int .i64 _) rfl) ?_
      refine qE ?_
      refine qE ?_
      refine qB rfl ?_
      refine qA (qC (v := .bool _) rfl) ?_
      refine wW rfl (rfl) ?_
      refine qB rfl ?_
      refine qA (qC (v := .int .i64 _) rfl) ?_
      refine qA (qK (v := .int .i64 _) rfl) ?_
      refine qA (qD (v := .int .i64 _) rfl) ?_
      refine qE ?_
      refine qB rfl ?_
      refine qA (qC (v := .int .i64 _) rfl) ?_
      refine qA (qD (v := .int .i64 _) rfl) ?_
      refine qA (qD (v := _) rfl) ?_
      refine qQ ?_
      refine qM (vs := [_, _]) Tryz.results93 ⟨qJ rfl rfl, qJ rfl rfl, trivial⟩ fun V => ?_
      exact ⟨(zL (zL E_ng E1) (qR V)), _, _, rfl, .inl rfl, fun e => absurd e h0'⟩
   ·skip
    refine qE ?_
    refine qE ?_
    refine qB rfl ?_
    refine qA (qC (v := _) rfl) ?_
    refine qA (qK (v := .bool _) rfl) ?_
    refine qA (qC (v := .bool _) rfl) ?_
    refine qF rfl rfl ?_
    refine qA (qC (v := _) rfl) ?_
    refine qF rfl rfl ?_
    refine qA (qK (v := _) rfl) ?_
    refine qF rfl rfl ?_
    refine qA (qK (v := .bool _) rfl) ?_
    refine qA (qZ rfl rfl (v := .bool _) rfl) ?_
    refine wT rfl (rfl) ?_
    refine qO ?_
    refine qE ?_
    refine qE ?_
    refine qB rfl ?_
    refine qA (qC (v := .int .i64 _) rfl) ?_
    refine qA (qK (v := .bool _) rfl) ?_
    refine wW rfl (rfl) ?_
    refine qB rfl ?_
    refine qA (qD (v := .int .i64 _) rfl) ?_
    refine qE ?_
    refine qB rfl ?_
    refine qA (qC (v := .int .i64 _) rfl) ?_
    refine qA (qS rfl (by omega)) ?_
    refine qA (qK (v := .int _ 63) rfl) ?_
    refine qA (qK (v := .int .u64 9223372036854775808) rfl) ?_
    refine qA (qD (v := .int .u64 _) rfl) ?_
    cases ng
    ·skip
     refine qE ?_
     refine qE ?_
     refine qB rfl ?_
     refine qA (qC (v := .bool _) rfl) ?_
     refine qA (qK (v := .bool _) rfl) ?_
     refine qA (qC (v := .bool _) rfl) ?_
     refine qF rfl rfl ?_
     refine qA (qC (v := .int .u64 _) rfl) ?_
     refine qF rfl rfl ?_
     refine qA (qC (v := .int .u64 _) rfl) ?_
     refine qF rfl rfl ?_
     refine qA (qK (v := .bool _) rfl) ?_
     refine qA (qZ rfl rfl (v := .bool _) rfl) ?_
     refine qP rfl (fun hx => ?_) (fun hx => ?_)
     ·skip
      refine qE ?_
      refine qB rfl ?_
      refine qA (qC (v := .int .u64 _) rfl) ?_
      refine qA (qK (v := .int .u64 9223372036854775807) rfl) ?_
      refine qA (qK (v := .int .i64 9223372036854775807) rfl) ?_
      refine qA (qK (v := _) rfl) ?_
      refine qA (qD (v := .int .i64 _) rfl) ?_
      refine qA (qD (v := _) rfl) ?_
      refine qQ ?_
      refine qM (vs := [_, _]) Tryz.results93 ⟨qJ rfl rfl, qJ rfl rfl, trivial⟩ fun V => ?_
      exact ⟨(zL (zL E_ng E1) (qR V)), _, _, rfl, .inr (.inl rfl), fun e => absurd e h0'⟩
     ·skip
      refine qO ?_
      refine qE ?_
      refine qE ?_
      refine qB rfl ?_
      refine qA (qC (v := .bool _) rfl) ?_
      refine qA (qC (v := .bool _) rfl) ?_
      refine qH rfl rfl ?_
      refine qH rfl rfl ?_
      refine qH rfl rfl ?_
      refine qA (wI rfl rfl (v := .bool _) rfl) ?_
      refine wT rfl (rfl) ?_
      refine qO ?_
      refine qE ?_
      refine qB rfl ?_
      refine qA (qC (v := .int .u64 _) rfl) ?_
      refine qA (qK (v := .int .i64 _) rfl) ?_
      refine qA (qD (v := .int .i64 _) rfl) ?_
      refine qE ?_
      refine qE ?_
      refine qB rfl ?_
      refine qA (qC (v := .bool _) rfl) ?_
      refine wT rfl (rfl) ?_
      refine qO ?_
      refine qE ?_
      refine qB rfl ?_
      refine qA (qC (v := .int .i64 _) rfl) ?_
      refine qA (qD (v := .int .i64 _) rfl) ?_
      refine qA (qD (v := _) rfl) ?_
      refine qQ ?_
      refine qM (vs := [_, _]) Tryz.results93 ⟨qJ rfl rfl, qJ rfl rfl, trivial⟩ fun V => ?_
      exact ⟨(zL (zL E_ng E1) (qR V)), _, _, rfl, .inl rfl, fun e => absurd e h0'⟩
    ·skip
     refine qE ?_
     refine qE ?_
     refine qB rfl ?_
     refine qA (qC (v := .bool _) rfl) ?_
     refine qA (qK (v := .bool _) rfl) ?_
     refine qA (qC (v := .bool _) rfl) ?_
     refine qH rfl rfl ?_
     refine qH rfl rfl ?_
     refine qH rfl rfl ?_
     refine qA (wI rfl rfl (v := .bool _) rfl) ?_
     refine wT rfl (rfl) ?_
     refine qO ?_
     refine qE ?_
     refine qE ?_
     refine qB rfl ?_
     refine qA (qC (v := .bool _) rfl) ?_
     refine qA (qC (v := .bool _) rfl) ?_
     refine qF rfl rfl ?_
     refine qA (qC (v := .int .u64 _) rfl) ?_
     refine qF rfl rfl ?_
     refine qA (qC (v := .int .u64 _) rfl) ?_
     refine qF rfl rfl ?_
     refine qA (qK (v := .bool _) rfl) ?_
     refine qA (qZ rfl rfl (v := .bool _) rfl) ?_
     refine qP rfl (fun hx => ?_) (fun hx => ?_)
     ·skip
      refine qE ?_
      refine qB rfl ?_
      refine qA (qC (v := .int .u64 _) rfl) ?_
      refine qA (qK (v := .int .i64 (-9223372036854775808)) rfl) ?_
      refine qA (qK (v := .int .i64 (-9223372036854775808)) rfl) ?_
      refine qA (qK (v := _) rfl) ?_
      refine qA (qD (v := .int .i64 _) rfl) ?_
      refine qA (qD (v := _) rfl) ?_
      refine qQ ?_
      refine qM (vs := [_, _]) Tryz.results93 ⟨qJ rfl rfl, qJ rfl rfl, trivial⟩ fun V => ?_
      exact ⟨(zL (zL E_ng E1) (qR V)), _, _, rfl, .inr (.inl rfl), fun e => absurd e h0'⟩
     ·skip
      refine qO ?_
      refine qE ?_
      refine qB rfl ?_
      refine qA (qC (v := .int .u64 _) rfl) ?_
      refine qA (qK (v := .int .i64 _) rfl) ?_
      refine qA (qD (v := .int .i64 _) rfl) ?_
      refine qE ?_
      refine qE ?_
      refine qB rfl ?_
      refine qA (qC (v := .bool _) rfl) ?_
      refine wW rfl (rfl) ?_
      refine qB rfl ?_
      refine qA (qC (v := .int .i64 _) rfl) ?_
      refine qA (qK (v := .int .i64 _) rfl) ?_
      refine qA (qD (v := .int .i64 _) rfl) ?_
      refine qE ?_
      refine qB rfl ?_
      refine qA (qC (v := .int .i64 _) rfl) ?_
      refine qA (qD (v := .int .i64 _) rfl) ?_
      refine qA (qD (v := _) rfl) ?_
      refine qQ ?_
      refine qM (vs := [_, _]) Tryz.results93 ⟨qJ rfl rfl, qJ rfl rfl, trivial⟩ fun V => ?_
      exact ⟨(zL (zL E_ng E1) (qR V)), _, _, rfl, .inl rfl, fun e => absurd e h0'⟩
   ·skip
    refine qE ?_
    refine qE ?_
    refine qB rfl ?_
    refine qA (qC (v := _) rfl) ?_
    refine qA (qK (v := .bool _) rfl) ?_
    refine qA (qC (v := .bool _) rfl) ?_
    refine qF rfl rfl ?_
    refine qA (qC (v := _) rfl) ?_
    refine qF rfl rfl ?_
    refine qA (qK (v := _) rfl) ?_
    refine qF rfl rfl ?_
    refine qA (qK (v := .bool _) rfl) ?_
    refine qA (qZ rfl rfl (v := .bool _) rfl) ?_
    refine wW rfl (rfl) ?_
    refine qE ?_
    refine qB rfl ?_
    refine qA (qC (v := _) rfl) ?_
    refine qA (qD (v := .int .i64 _) rfl) ?_
    refine qA (qD (v := _) rfl) ?_
    refine qQ ?_
    refine qM (vs := [_, _]) Tryz.results93 ⟨qJ rfl rfl, qJ rfl rfl, trivial⟩ fun V => ?_
    exact ⟨(zL (zL E_ng E1) (qR V)), _, _, rfl, .inr (.inr rfl), fun e => absurd e h0'⟩
def AtoR (l : List UInt8) (n : Int) (e : Value) : Prop := ErrV e ∧ (l.length < 19 → ∀ m, atoiF l = some m → n = m ∧ e = .nilIface) ∧ (l.length < 19 → atoiF l = none → e ≠ .nilIface)
set_option maxHeartbeats 1000000 in
theorem atoi1_ok (l : List UInt8) (h : AH) (hl : l.length < 2 ^ 20) : FnT Tryz.prog 76 #[.string (bs l)] h (fun v _ => ∃ (n : Int) (e : Value), v = .tuple #[.int .i64 n, e] ∧ AtoR l n e) := by
 refine wH Tryz.func76 rfl Tryz.ntmps76 rfl ?_
 refine qE ?_
 refine qB rfl ?_
 refine qA (qD (v := .int .i64 _) rfl) ?_
 refine qA (qD (v := _) rfl) ?_
 refine qE ?_
 refine qB rfl ?_
 refine qA (qC (v := .string _) rfl) ?_
 refine qA (zF rfl rfl) ?_
 refine qA (qD (v := .int .i64 _) rfl) ?_
 refine qE ?_
 refine qE ?_
 refine qB rfl ?_
 refine qA (qC (v := .bool _) rfl) ?_
 by_cases h0 : l = []
 ·have g0 : decide ((0 : Int) < l.length) = false := by rw [h0]; rfl
  refine qH rfl rfl ?_
  refine qH rfl rfl ?_
  refine qH rfl rfl ?_
  refine guard_un rfl ?_
  refine guard_un rfl ?_
  refine qH rfl rfl ?_
  refine qA (wI rfl rfl (v := .bool _) rfl) ?_
  refine qA (qC (v := .bool _) rfl) ?_
  refine qF rfl rfl ?_
  refine qA (qC (v := .bool _) rfl) ?_
  refine qF rfl rfl ?_
  refine qA (qC (v := .int .i64 _) rfl) ?_
  refine qF rfl rfl ?_
  refine qA (qK (v := .bool _) rfl) ?_
  refine qF rfl rfl ?_
  refine qA (qC (v := .bool _) rfl) ?_
  refine qH rfl g0 ?_
  refine qH rfl g0 ?_
  refine qF rfl rfl ?_
  refine qA (wI rfl g0 (v := .bool _) rfl) ?_
  refine qF rfl rfl ?_
  refine qA (qZ rfl rfl (v := .bool _) rfl) ?_
  refine qA (wI rfl rfl (v := .bool _) rfl) ?_
  refine wT rfl (rfl) ?_
  refine qO ?_
  refine qE ?_
  refine qB rfl ?_
  refine qA (qC (v := .string _) rfl) ?_
  refine wJ (caps := []) (vs := [.string _, .int .i64 _, .int .i64 _]) rfl rfl rfl (ParseInt_ok l h hl) ?_
  rintro _ h1 E1 ⟨r, e, rfl, he, hz⟩
  refine qA (qC (v := .tuple #[.int .i64 _, _]) rfl) ?_
  refine qA (qK (v := .int .i64 _) rfl) ?_
  refine qA (qK (v := _) rfl) ?_
  refine qA (qD (v := .int .i64 _) rfl) ?_
  refine qA (qD (v := _) rfl) ?_
  refine qE ?_
  refine qB rfl ?_
  refine qA (qC (v := .int .i64 _) rfl) ?_
  refine qA (qC (v := _) rfl) ?_
  refine qA (qD (v := .int .i64 _) rfl) ?_
  refine qA (qD (v := _) rfl) ?_
  refine qQ ?_
  refine qM (vs := [_, _]) Tryz.results76 ⟨qJ rfl rfl, qJ rfl rfl, trivial⟩ fun V => ?_
  exact ⟨(zL E1 (qR V)), r, e, rfl, he, (fun _ => (by intro m hm; rw [h0] at hm; cases hm)), fun _ _ => (by rw [hz h0]; simp)⟩
 ·skip
  obtain ⟨c, l2, hcl⟩ : ∃ c l2, l = c :: l2 := by
   cases l with
   | nil => exact absurd rfl h0
   | cons c l2 => exact ⟨c, l2, rfl⟩
  have hll : l2.length + 1 = l.length := by rw [hcl]; rfl
  have g0 : decide ((0 : Int) < l.length) = true := decide_eq_true (by omega)
  refine qH rfl rfl ?_
  refine qH rfl rfl ?_
  refine qH rfl rfl ?_
  refine guard_un rfl ?_
  refine guard_un rfl ?_
  refine qH rfl rfl ?_
  refine qA (wI rfl rfl (v := .bool _) rfl) ?_
  refine qA (qC (v := .bool _) rfl) ?_
  refine qF rfl rfl ?_
  refine qA (qC (v := .bool _) rfl) ?_
  refine qF rfl rfl ?_
  refine qA (qC (v := .int .i64 _) rfl) ?_
  refine qF rfl rfl ?_
  refine qA (qK (v := .bool _) rfl) ?_
  refine qF rfl rfl ?_
  refine qA (qC (v := .bool _) rfl) ?_
  refine qF rfl g0 ?_
  refine qA (qC (v := .int .i64 _) rfl) ?_
  refine qF rfl g0 ?_
  refine qA (qK (v := .bool _) rfl) ?_
  refine qF rfl rfl ?_
  refine qA (qZ rfl g0 (v := .bool _) rfl) ?_
  refine qF rfl rfl ?_
  refine qA (qZ rfl rfl (v := .bool _) rfl) ?_
  refine qA (wI rfl rfl (v := .bool _) rfl) ?_
  refine qP rfl (fun h19 => ?_) (fun h19 => ?_)
  ·skip
   have h19' : l.length < 19 := by have := of_decide_eq_true h19; omega
   refine qE ?_
   refine qB rfl ?_
   refine qA (qC (v := .string _) rfl) ?_
   refine qA (qD (v := .string _) rfl) ?_
   refine xp_cutB [0, 2, 3, 32, 33, 34, 35, 36, 37, 38, 39, 40, 41, 42, 43, 44, 45] 0 (α := List UInt8) (fun s2 => [(0, .string (bs s2)), (5, .string (bs l))]) (fun s2 L => L) (fun s2 h_s2 => (c = 45 ∨ c = 43 → s2 = l2 ∧ l2 ≠ []) ∧ (¬ (c = 45 ∨ c = 43) → s2 = l)) ?_ ?_
   ·skip
    refine qE ?_
    refine qB rfl ?_
    refine qA (qC (v := .string _) rfl) ?_
    refine qA (pv_stridx (c := c) 0 rfl rfl rfl rfl (by rw [hcl]; rfl)) ?_
    refine qA (qK (v := .bool _) rfl) ?_
    refine qA (qC (v := .bool _) rfl) ?_
    rcases Bool.eq_false_or_eq_true ((c.toNat : Int) == 45) with hg | hg
    ·skip
     have hsg : c = 45 ∨ c = 43 := .inl (u8_eqI (k := 45) hg)
     refine qH rfl hg ?_
     refine qH rfl hg ?_
     refine qH rfl hg ?_
     refine qA (qZ rfl hg (v := .bool _) rfl) ?_
     refine wW rfl (rfl) ?_
     refine qE ?_
     refine qB rfl ?_
     refine qA (qC (v := .string _) rfl) ?_
     refine qA (pv_strcut 1 l.length rfl rfl (.inr ⟨_, _, rfl, rfl⟩) (.inl ⟨rfl, rfl⟩) (by omega) (Nat.le_refl _)) ?_
     have hl2 : (l.take l.length).drop 1 = l2 := by rw [List.take_length, hcl]; rfl
     rw [hl2]
     refine qA (qD (v := .string _) rfl) ?_
     refine qE ?_
     refine qB rfl ?_
     refine qA (qC (v := .string _) rfl) ?_
     refine qA (zF rfl rfl) ?_
     refine qA (qK (v := .bool _) rfl) ?_
     refine qP rfl (fun hz => ?_) (fun hz => ?_)
     ·skip
      have hz' : l2 = [] := by
       have := of_decide_eq_true hz
       exact List.eq_nil_of_length_eq_zero (by omega)
      have hnone : atoiF l = none := by rw [hcl, atoiF_cons, if_pos hsg, if_pos hz']
      refine qE ?_
      refine qB rfl ?_
      refine qA (qK (v := _) rfl) ?_
      refine qA (qD (v := .int .i64 _) rfl) ?_
      refine qA (qD (v := _) rfl) ?_
      refine qQ ?_
      refine qM (vs := [_, _]) Tryz.results76 ⟨qJ rfl rfl, qJ rfl rfl, trivial⟩ fun V => ?_
      exact ⟨(qR V), 0, errV 2, rfl, .inr (.inr rfl), (fun _ m hm => by rw [hnone] at hm; cases hm), fun _ _ => (by intro h9; cases h9)⟩
     ·skip
      have hz' : ¬ l2 = [] := by
       rintro rfl
       have := of_decide_eq_false hz
       simp at this
      refine qO ?_
      refine ⟨l2, ⟨rfl, rfl, trivial⟩, rfl, rfl, (Ext.refl _), fun h3 E3 => ⟨fun _ => ⟨rfl, hz'⟩, fun h => absurd hsg h⟩, ?_⟩
      repeat (first | exact wQ _ _ | exact qW _ _ _ | refine wA (by decide) ?_ | refine qV rfl ?_ | refine wB rfl ?_)
    ·skip
     refine qF rfl hg ?_
     refine qA (qC (v := .string _) rfl) ?_
     refine qF rfl hg ?_
     refine qA (pv_stridx (c := c) 0 rfl rfl rfl rfl (by rw [hcl]; rfl)) ?_
     refine qF rfl hg ?_
     refine qA (qK (v := .bool _) rfl) ?_
     refine qA (wI rfl hg (v := .bool _) rfl) ?_
     refine qP rfl (fun hg2 => ?_) (fun hg2 => ?_)
     ·skip
      have hsg : c = 45 ∨ c = 43 := .inr (u8_eqI (k := 43) hg2)
      refine qE ?_
      refine qB rfl ?_
      refine qA (qC (v := .string _) rfl) ?_
      refine qA (pv_strcut 1 l.length rfl rfl (.inr ⟨_, _, rfl, rfl⟩) (.inl ⟨rfl, rfl⟩) (by omega) (Nat.le_refl _)) ?_
      have hl2 : (l.take l.length).drop 1 = l2 := by rw [List.take_length, hcl]; rfl
      rw [hl2]
      refine qA (qD (v := .string _) rfl) ?_
      refine qE ?_
      refine qB rfl ?_
      refine qA (qC (v := .string _) rfl) ?_
      refine qA (zF rfl rfl) ?_
      refine qA (qK (v := .bool _) rfl) ?_
      refine qP rfl (fun hz => ?_) (fun hz => ?_)
      ·skip
       have hz' : l2 = [] := by
        have := of_decide_eq_true hz
        exact List.eq_nil_of_length_eq_zero (by omega)
       have hnone : atoiF l = none := by rw [hcl, atoiF_cons, if_pos hsg, if_pos hz']
       refine qE ?_
       refine qB rfl ?_
       refine qA (qK (v := _) rfl) ?_
       refine qA (qD (v := .int .i64 _) rfl) ?_
       refine qA (qD (v := _) rfl) ?_
       refine qQ ?_
       refine qM (vs := [_, _]) Tryz.results76 ⟨qJ rfl rfl, qJ rfl rfl, trivial⟩ fun V => ?_
       exact ⟨(qR V), 0, errV 2, rfl, .inr (.inr rfl), (fun _ m hm => by rw [hnone] at hm; cases hm), fun _ _ => (by intro h9; cases h9)⟩
      ·skip
       have hz' : ¬ l2 = [] := by
        rintro rfl
        have := of_decide_eq_false hz
        simp at this
       refine qO ?_
       refine ⟨l2, ⟨rfl, rfl, trivial⟩, rfl, rfl, (Ext.refl _), fun h3 E3 => ⟨fun _ => ⟨rfl, hz'⟩, fun h => absurd hsg h⟩, ?_⟩
       repeat (first | exact wQ _ _ | exact qW _ _ _ | refine wA (by decide) ?_ | refine qV rfl ?_ | refine wB rfl ?_)
     ·skip
      refine qO ?_
      refine ⟨l, ⟨rfl, rfl, trivial⟩, rfl, rfl, (Ext.refl _), fun h3 E3 => ⟨fun h => absurd h (fun h => h.elim (fun e => by rw [e] at hg; exact absurd hg (by decide)) (fun e => by rw [e] at hg2; exact absurd hg2 (by decide))), fun _ => rfl⟩, ?_⟩
      repeat (first | exact wQ _ _ | exact qW _ _ _ | refine wA (by decide) ?_ | refine qV rfl ?_ | refine wB rfl ?_)
   ·rintro s2 T1 h_s2 E_s2 J_s2
    refine qU [] rfl ?_
    obtain ⟨JA, JB⟩ := J_s2
    have hs2 : s2.length ≤ l.length := by
     by_cases hsg : c = 45 ∨ c = 43
     ·rw [(JA hsg).1]; omega
     ·rw [JB hsg]; exact Nat.le_refl _
    have hat : atoiF l = (digsV s2 0).map fun m : Nat => if c = 45 then -(m : Int) else (m : Int) := by
     rw [hcl, atoiF_cons]
     by_cases hsg : c = 45 ∨ c = 43
     ·rw [if_pos hsg, if_neg (JA hsg).2, (JA hsg).1]
     ·have h45 : ¬ c = 45 := fun e => hsg (.inl e)
      rw [if_neg hsg, JB hsg, hcl]
      simp only [h45, if_false]
    refine qE ?_
    refine qB rfl ?_
    refine qA (qD (v := .int .i64 _) rfl) ?_
    refine qE ?_
    refine qE ?_
    refine qB rfl ?_
    refine qA (qC (v := .string _) rfl) ?_
    refine op_open ?_
    refine op_s2b s2 rfl rfl rfl rfl fun b cap junk f hb => ?_
    refine ⟨rfl, _, _, rfl, fun h2 E2 hb2 => ?_⟩
    refine qA (wP rfl rfl) ?_
    refine qA (qC (v := .int .i64 _) rfl) ?_
    refine qT ?_
    refine zH [2, 3, 6, 8, 49, 50, 51, 52, 53, 54, 55, 56, 57, 58, 59, 60, 61, 62, 63] 0 (α := Nat × Nat) (fun ⟨k, n⟩ => [(49, .int .i64 k), (6, .int .i64 n)]) (fun ⟨k, n⟩ => _) (fun ⟨k, n⟩ h_k => k ≤ s2.length ∧ digsV s2 0 = digsV (s2.drop k) n ∧ n < 10 ^ k) (fun ⟨k, n⟩ => s2.length - k) ((0, 0)) ⟨rfl, rfl, trivial⟩ (rfl) (⟨Nat.zero_le _, rfl, by decide⟩) ?_
    rintro ⟨k, n⟩ T2 h_k E_k J_k
    refine qU [] rfl ?_
    obtain ⟨K1, K2, K3⟩ := J_k
    have hp10 : 10 ^ k ≤ 10 ^ 18 := Nat.pow_le_pow_right (by decide) (by omega)
    refine qE ?_
    refine qB rfl ?_
    refine qA (qK (v := .bool _) rfl) ?_
    refine qE ?_
    refine qP rfl (fun hk => ?_) (fun hk => ?_)
    ·skip
     have hkl : k < s2.length := ltI hk
     have hp17 : 10 ^ k ≤ 10 ^ 17 := Nat.pow_le_pow_right (by decide) (by omega)
     rw [List.drop_eq_getElem_cons hkl, digsV_cons] at K2
     have hdl := dv_lt s2[k]
     have hcell := (cells_front hb2).ext E_k k (.int .u8 s2[k].toNat) (by rw [byC_map, List.getElem?_map, List.getElem?_eq_getElem hkl]; rfl)
     refine qO ?_
     refine qE ?_
     refine qT ?_
     refine qE ?_
     refine qB rfl ?_
     refine qA (pv_index (m := 1) rfl rfl rfl rfl (by omega) (by omega)) ?_
     refine wL (v := .int .u8 s2[k].toNat) rfl rfl (by show cellA _ ⟨_, 0 + (k : Int).toNat * 1, none⟩ = _; rw [Int.toNat_natCast, Nat.mul_one]; exact hcell) ?_
     refine qA (qD (v := .int .u8 _) rfl) ?_
     refine qE ?_
     refine qB rfl ?_
     refine qA (qC (v := .int .u8 _) rfl) ?_
     refine qA (pv_w (r := ((dv s2[k] : Nat) : Int)) rfl (by have := u8_sub s2[k] 48; exact this)) ?_
     refine qA (qD (v := .int .u8 _) rfl) ?_
     refine qE ?_
     refine qE ?_
     refine qB rfl ?_
     refine qA (qC (v := .int .u8 _) rfl) ?_
     refine qA (qK (v := .bool _) rfl) ?_
     refine qP rfl (fun hd => ?_) (fun hd => ?_)
     ·skip
      have hD : isD s2[k] = false := by
       have := of_decide_eq_true hd
       cases e : isD s2[k] with
       | false => rfl
       | true => have := dv_le e; omega
      have hnone : atoiF l = none := by rw [hat, K2, hD]; rfl
      refine qE ?_
      refine qB rfl ?_
      refine qA (qK (v := _) rfl) ?_
      refine qA (qD (v := .int .i64 _) rfl) ?_
      refine qA (qD (v := _) rfl) ?_
      refine qQ ?_
      refine qM (vs := [_, _]) Tryz.results76 ⟨qJ rfl rfl, qJ rfl rfl, trivial⟩ fun V => ?_
      exact ⟨(zL (zL (zL E_s2 E2) E_k) (qR V)), 0, errV 2, rfl, .inr (.inr rfl), (fun _ m hm => by rw [hnone] at hm; cases hm), fun _ _ => (by intro h9; cases h9)⟩
     ·skip
      have hD9 : dv s2[k] ≤ 9 := by have := of_decide_eq_false hd; omega
      have hD : isD s2[k] = true := Nat.ble_eq_true_of_le hD9
      rw [if_pos hD] at K2
      refine qO ?_
      refine qB rfl ?_
      refine qA (qC (v := .int .i64 _) rfl) ?_
      refine qA (qS rfl (by omega)) ?_
      refine qA (qC (v := .int .u8 _) rfl) ?_
      refine qA (pv_conv (z' := ((dv s2[k] : Nat) : Int)) rfl rfl rfl (i64_nat _ (by omega))) ?_
      refine qA (qS rfl (by omega)) ?_
      refine qA (qD (v := .int .i64 _) rfl) ?_
      refine qB rfl ?_
      refine qA (qS rfl (by omega)) ?_
      refine qA (qC (v := .int .i64 _) rfl) ?_
      refine ⟨(k + 1, n * 10 + dv s2[k]), ⟨rfl, intE (by push_cast; rfl), trivial⟩, rfl, rfl, E_k, fun h3 E3 => ⟨hkl, K2, by rw [Nat.pow_succ]; omega⟩, by first | omega | (dsimp only; omega), ?_⟩
      repeat (first | exact qW _ _ _ | refine wA (by decide) ?_ | refine qV rfl ?_ | refine wB rfl ?_)
    ·skip
     have hke : k = s2.length := by have := geI hk; omega
     subst hke
     rw [List.drop_length] at K2
     have hsome : atoiF l = some (if c = 45 then -(n : Int) else (n : Int)) := by rw [hat, K2]; rfl
     refine wS ?_
     refine qE ?_
     refine qE ?_
     refine qB rfl ?_
     refine qA (qC (v := .string _) rfl) ?_
     refine qA (pv_stridx (c := c) 0 rfl rfl rfl rfl (by rw [hcl]; rfl)) ?_
     refine qA (qK (v := .bool _) rfl) ?_
     refine qP rfl (fun h45 => ?_) (fun h45 => ?_)
     ·skip
      have hc45 : c = 45 := u8_eqI (k := 45) h45
      refine qB rfl ?_
      refine qA (qC (v := .int .i64 _) rfl) ?_
      refine qA (qS rfl (by omega)) ?_
      refine qA (qD (v := .int .i64 _) rfl) ?_
      refine qE ?_
      refine qB rfl ?_
      refine qA (qC (v := .int .i64 _) rfl) ?_
      refine qA (qD (v := .int .i64 _) rfl) ?_
      refine qA (qD (v := _) rfl) ?_
      refine qQ ?_
      refine qM (vs := [_, _]) Tryz.results76 ⟨qJ rfl rfl, qJ rfl rfl, trivial⟩ fun V => ?_
      exact ⟨(zL (zL (zL E_s2 E2) E_k) (qR V)), 0 - (n : Int), _, rfl, .inl rfl, (fun _ m hm => ⟨by rw [hsome, if_pos hc45] at hm; have := Option.some.inj hm; omega, rfl⟩), fun _ hm => by rw [hsome] at hm; cases hm⟩
     ·skip
      have hc45 : ¬ c = 45 := by
       rintro rfl
       simp at h45
      refine qO ?_
      refine qE ?_
      refine qB rfl ?_
      refine qA (qC (v := .int .i64 _) rfl) ?_
      refine qA (qD (v := .int .i64 _) rfl) ?_
      refine qA (qD (v := _) rfl) ?_
      refine qQ ?_
      refine qM (vs := [_, _]) Tryz.results76 ⟨qJ rfl rfl, qJ rfl rfl, trivial⟩ fun V => ?_
      exact ⟨(zL (zL (zL E_s2 E2) E_k) (qR V)), (n : Int), _, rfl, .inl rfl, (fun _ m hm => ⟨by rw [hsome, if_neg hc45] at hm; exact Option.some.inj hm, rfl⟩), fun _ hm => by rw [hsome] at hm; cases hm⟩
  ·skip
   have h19' : ¬ l.length < 19 := by have := of_decide_eq_false h19; omega
   refine qO ?_
   refine qE ?_
   refine qB rfl ?_
   refine qA (qC (v := .string _) rfl) ?_
   refine wJ (caps := []) (vs := [.string _, .int .i64 _, .int .i64 _]) rfl rfl rfl (ParseInt_ok l h hl) ?_
   rintro _ h1 E1 ⟨r, e, rfl, he, hz⟩
   refine qA (qC (v := .tuple #[.int .i64 _, _]) rfl) ?_
   refine qA (qK (v := .int .i64 _) rfl) ?_
   refine qA (qK (v := _) rfl) ?_
   refine qA (qD (v := .int .i64 _) rfl) ?_
   refine qA (qD (v := _) rfl) ?_
   refine qE ?_
   refine qB rfl ?_
   refine qA (qC (v := .int .i64 _) rfl) ?_
   refine qA (qC (v := _) rfl) ?_
   refine qA (qD (v := .int .i64 _) rfl) ?_
   refine qA (qD (v := _) rfl) ?_
   refine qQ ?_
   refine qM (vs := [_, _]) Tryz.results76 ⟨qJ rfl rfl, qJ rfl rfl, trivial⟩ fun V => ?_
   exact ⟨(zL E1 (qR V)), r, e, rfl, he, fun h => absurd h h19', fun h => absurd h h19'⟩
def AtoV (l : List UInt8) (n : Int) (e : Value) : Prop := (e = .nilIface ∨ ∃ t p, e = .iface t p) ∧ (l.length < 19 → ∀ m, atoiF l = some m → n = m ∧ e = .nilIface) ∧ (l.length < 19 → atoiF l = none → e ≠ .nilIface)
theorem Atoi_ok (l : List UInt8) (h : AH) (ER : Errs h) (hl : l.length < 2 ^ 20) : FnT Tryz.prog 58 #[.string (bs l)] h (fun v _ => ∃ (n : Int) (e : Value), v = .tuple #[.int .i64 n, e] ∧ AtoV l n e) := by
 refine wH Tryz.func58 rfl Tryz.ntmps58 rfl ?_
 refine qE ?_
 refine qB rfl ?_
 refine qA (qD (v := .int .i64 _) rfl) ?_
 refine qA (qD (v := _) rfl) ?_
 refine qE ?_
 refine qB rfl ?_
 refine qA (qC (v := .string _) rfl) ?_
 refine wJ (caps := []) (vs := [.string _]) rfl rfl rfl (atoi1_ok l h hl) ?_
 rintro _ h1 E1 ⟨n, e, rfl, he, hA, hB⟩
 refine qA (qC (v := .tuple #[.int .i64 _, _]) rfl) ?_
 refine qA (qK (v := .int .i64 _) rfl) ?_
 refine qA (qK (v := _) rfl) ?_
 refine qA (qD (v := .int .i64 _) rfl) ?_
 refine qA (qD (v := _) rfl) ?_
 rcases he with rfl | rfl | rfl
 ·refine qE ?_
  refine qE ?_
  refine qB rfl ?_
  refine qA (qC (v := _) rfl) ?_
  refine qA (qK (v := .bool _) rfl) ?_
  refine wT rfl (rfl) ?_
  refine qO ?_
  refine qE ?_
  refine qB rfl ?_
  refine qA (qC (v := .int .i64 _) rfl) ?_
  refine qA (qD (v := .int .i64 _) rfl) ?_
  refine qA (qD (v := _) rfl) ?_
  refine qQ ?_
  refine qM (vs := [_, _]) Tryz.results58 ⟨qJ rfl rfl, qJ rfl rfl, trivial⟩ fun V => ?_
  exact ⟨(zL E1 (qR V)), n, _, rfl, .inl rfl, hA, hB⟩
 ·skip
  refine qE ?_
  refine qE ?_
  refine qB rfl ?_
  refine qA (qC (v := _) rfl) ?_
  refine qA (qK (v := .bool _) rfl) ?_
  refine wW rfl (rfl) ?_
  refine qE ?_
  refine qB rfl ?_
  refine qA (qC (v := .int .i64 _) rfl) ?_
  refine qA (qC (v := .string _) rfl) ?_
  refine qA (qC (v := _) rfl) ?_
  refine wJ (caps := []) (vs := [.string _, .string _, .int .i64 _, .int .i64 _, _]) rfl rfl rfl (toErr1_ok [65, 116, 111, 105] l h1 (ER.ext E1) hl) ?_
  rintro _ h2 E2 ⟨t, p, rfl⟩
  refine qA (qD (v := .int .i64 _) rfl) ?_
  refine qA (qD (v := _) rfl) ?_
  refine qQ ?_
  refine qM (vs := [_, _]) Tryz.results58 ⟨qJ rfl rfl, qJ rfl rfl, trivial⟩ fun V => ?_
  exact ⟨(zL (zL E1 E2) (qR V)), n, _, rfl, .inr ⟨_, _, rfl⟩, (fun hl m hm => absurd (hA hl m hm).2 (by intro h9; cases h9)), fun _ _ => (by intro h9; cases h9)⟩
 ·skip
  refine qE ?_
  refine qE ?_
  refine qB rfl ?_
  refine qA (qC (v := _) rfl) ?_
  refine qA (qK (v := .bool _) rfl) ?_
  refine wW rfl (rfl) ?_
  refine qE ?_
  refine qB rfl ?_
  refine qA (qC (v := .int .i64 _) rfl) ?_
  refine qA (qC (v := .string _) rfl) ?_
  refine qA (qC (v := _) rfl) ?_
  refine wJ (caps := []) (vs := [.string _, .string _, .int .i64 _, .int .i64 _, _]) rfl rfl rfl (toErr2_ok [65, 116, 111, 105] l h1 (ER.ext E1) hl) ?_
  rintro _ h2 E2 ⟨t, p, rfl⟩
  refine qA (qD (v := .int .i64 _) rfl) ?_
  refine qA (qD (v := _) rfl) ?_
  refine qQ ?_
  refine qM (vs := [_, _]) Tryz.results58 ⟨qJ rfl rfl, qJ rfl rfl, trivial⟩ fun V => ?_
  exact ⟨(zL (zL E1 E2) (qR V)), n, _, rfl, .inr ⟨_, _, rfl⟩, (fun hl m hm => absurd (hA hl m hm).2 (by intro h9; cases h9)), fun _ _ => (by intro h9; cases h9)⟩
end
end Go.Proofs.YtmpahfdiebhdbaaGreatDoor
namespace Go.Proofs.YtmpahfdiebhdbaaGreatDoor
open Go Go.HL Go.Proofs Go.Wx Go.Rd
section
variable [Lvl]
set_option maxRecDepth 100000
def NumsV (h : AH) (r : Option (List Int)) (v : Value) : Prop := ∃ (A : Option Addr) (n c : Nat), v = .tuple #[.slice A n c, .bool r.isSome] ∧ ∀ l, r = some l → n = l.length ∧ Row h 1 intC A l
theorem atoV_num {w : List UInt8} {n : Int} {e : Value} (a : AtoV w n e) {k : Nat} (h : numR w = some k) : n = k ∧ e = .nilIface := by
 obtain ⟨h1, h2, h3, h4⟩ := of_numR h
 exact a.2.1 (by omega) _ h1
set_option maxHeartbeats 1000000 in
theorem numbers_ok (w : List (List UInt8)) (many : Nat) (below : Int) (A : Option Addr) (c : Nat) (h : AH) (R : Row h 1 strC A w) (PW : Pow h) (ER : Errs h) (hw : ∀ x ∈ w, x.length < 2 ^ 20) (hl : w.length < 2 ^ 20) (hm : many < 100) (hb : -1 ≤ below ∧ below < 100) :
  FnT Tryz.prog 34 #[.slice A w.length c, .int .i64 many, .int .i64 below] h (fun v h' => NumsV h' (numsR below many w) v) := by
 refine wH Tryz.func34 rfl Tryz.ntmps34 rfl ?_
 refine qE ?_
 refine qB rfl ?_
 refine qA (qD (v := .slice _ _ _) rfl) ?_
 refine qA (qD (v := .bool _) rfl) ?_
 refine qE ?_
 refine qE ?_
 refine qB rfl ?_
 refine qA (qC (v := .slice _ _ _) rfl) ?_
 refine qA (wP rfl rfl) ?_
 refine qA (qC (v := .int .i64 _) rfl) ?_
 refine qA (qK (v := .bool _) rfl) ?_
 refine qP rfl (fun hc => ?_) (fun hc => ?_)
 ·skip
  have hc' : ¬ w.length = many := by
   have : ¬ (w.length : Int) = many := by simpa using hc
   omega
  have hn : numsR below many w = none := if_neg hc'
  refine qE ?_
  refine qB rfl ?_
  refine qA (qD (v := .slice _ _ _) rfl) ?_
  refine qA (qD (v := .bool _) rfl) ?_
  refine qQ ?_
  refine qM (vs := [_, _]) Tryz.results34 ⟨qJ rfl rfl, qJ rfl rfl, trivial⟩ fun V => ?_
  exact ⟨(qR V), _, _, _, by rw [hn]; rfl, fun l e => by rw [hn] at e; cases e⟩
 ·skip
  have hc' : w.length = many := by
   have : (w.length : Int) = many := by simpa using hc
   omega
  have hn : numsR below many w = numsFrom below 0 w := if_pos hc'
  refine goes_more ?_
  refine qU [_] rfl ?_
  refine qO ?_
  refine qE ?_
  refine qB rfl ?_
  refine qA (qD (v := .slice _ _ _) rfl) ?_
  refine qE ?_
  refine qE ?_
  refine qB rfl ?_
  refine qA (qC (v := .slice _ _ _) rfl) ?_
  refine qA (wP rfl rfl) ?_
  refine qA (qC (v := .int .i64 _) rfl) ?_
  refine qT ?_
  refine xp_loopL [6, 7, 8, 9, 10, 11, 12, 19, 20, 21, 22, 23, 24, 25, 26, 27, 28, 29, 30, 31, 32, 33, 34, 35, 36, 37, 38, 39, 40, 41, 42, 43, 44, 45, 46, 47, 48, 49, 50, 51, 52, 53, 54, 55, 56, 57, 58, 59, 60] 1 (α := Nat × Acc × List Int) (fun ⟨k, a, ls⟩ => [(19, .int .i64 k), (8, .slice a.A a.n a.c)]) (fun ⟨k, a, ls⟩ L => L.set 0 (a.p)) (fun ⟨k, a, ls⟩ h_k => k ≤ w.length ∧ numsFrom below 0 (w.take k) = some ls ∧ AccR 3 1 (ls.flatMap intC) a) (fun ⟨k, a, ls⟩ => w.length - k) ((0, acc0, [])) ⟨rfl, rfl, trivial⟩ (rfl) (⟨Nat.zero_le _, rfl, accR0⟩) ?_
  rintro ⟨k, a, ls⟩ T1 h_k E_k J_k
  refine qU [_] rfl ?_
  obtain ⟨K1, K2, KA⟩ := J_k
  have hLk : ls.length = k := by rw [numsFrom_len K2, List.length_take]; omega
  have hfl : (ls.flatMap intC).length = k := by rw [wU (m := 1) (fun _ _ => rfl)]; omega
  refine qE ?_
  refine qB rfl ?_
  refine qA (qK (v := .bool _) rfl) ?_
  refine qE ?_
  refine qP rfl (fun hk => ?_) (fun hk => ?_)
  ·skip
   have hkl : k < w.length := ltI hk
   have hwl := hw _ (List.getElem_mem hkl)
   have hst := nums_step hkl K2
   obtain ⟨g, off, hA, hcl⟩ := (R.ext E_k).at (by omega) hkl
   refine qO ?_
   refine qE ?_
   refine qT ?_
   refine qE ?_
   refine qB rfl ?_
   refine qA (qC (v := .int .i64 _) rfl) ?_
   refine qA (wD rfl hA rfl rfl rfl (by omega) (by omega)) ?_
   refine wL (v := .string _) rfl rfl ((hcl) 0 _ rfl) ?_
   refine qA (qD (v := .int .i64 _) rfl) ?_
   refine qA (qD (v := .string _) rfl) ?_
   refine qE ?_
   refine qB rfl ?_
   refine qA (qC (v := .string _) rfl) ?_
   refine wJ (caps := []) (vs := [.string _]) rfl rfl rfl (Atoi_ok w[k] h_k (ER.ext E_k) hwl) ?_
   rintro _ h1 E1 ⟨n, e, rfl, AV⟩
   refine qA (qC (v := .tuple #[.int .i64 _, _]) rfl) ?_
   refine qA (qK (v := .int .i64 _) rfl) ?_
   refine qA (qK (v := _) rfl) ?_
   refine qA (qD (v := .int .i64 _) rfl) ?_
   refine qA (qD (v := _) rfl) ?_
   refine qE ?_
   refine xp_cutB [29, 30, 31, 32, 33, 34, 35] 1 (α := Unit) (fun u2 => [(35, .bool (((k : Int) == below) && (decide (w[k] = [45, 49]))))]) (fun u2 L => L) (fun u2 h_u2 => True) ?_ ?_
   ·rcases Bool.eq_false_or_eq_true ((k : Int) == below) with hg2 | hg2
    ·refine qB rfl ?_
     refine qA (qC (v := .int .i64 _) rfl) ?_
     refine qA (qC (v := .int .i64 _) rfl) ?_
     refine qA (qK (v := .bool _) rfl) ?_
     refine qA (qC (v := .bool _) rfl) ?_
     refine qF rfl hg2 ?_
     refine qA (qC (v := .string _) rfl) ?_
     refine qF rfl hg2 ?_
     refine qA (pv_streq rfl rfl) ?_
     refine qA (qZ rfl hg2 (v := .bool _) rfl) ?_
     refine ⟨(), ⟨(by show Value.bool _ = _; rw [hg2]; rfl), trivial⟩, rfl, rfl, (Ext.refl _), fun h3 E3 => by first | trivial | omega | (refine ⟨?_, ?_⟩ <;> omega), ?_⟩
     repeat (first | exact wQ _ _ | exact qW _ _ _ | refine wA (by decide) ?_ | refine qV rfl ?_ | refine wB rfl ?_)
    ·refine qB rfl ?_
     refine qA (qC (v := .int .i64 _) rfl) ?_
     refine qA (qC (v := .int .i64 _) rfl) ?_
     refine qA (qK (v := .bool _) rfl) ?_
     refine qA (qC (v := .bool _) rfl) ?_
     refine qH rfl hg2 ?_
     refine qH rfl hg2 ?_
     refine qA (wI rfl hg2 (v := .bool _) rfl) ?_
     refine ⟨(), ⟨(by show Value.bool _ = _; rw [hg2]; rfl), trivial⟩, rfl, rfl, (Ext.refl _), fun h3 E3 => by first | trivial | omega | (refine ⟨?_, ?_⟩ <;> omega), ?_⟩
     repeat (first | exact wQ _ _ | exact qW _ _ _ | refine wA (by decide) ?_ | refine qV rfl ?_ | refine wB rfl ?_)
   rintro u2 T3 h_u2 E_u2 J_u2
   refine qU [_] rfl ?_
   refine qP rfl (fun hb1 => ?_) (fun hb1 => ?_)
   ·skip
    have hnum : numW (decide ((k : Int) = below)) w[k] = some (-1) := by
     unfold numW
     rw [if_pos]
     simpa using hb1
    rw [hnum] at hst
    refine qE ?_
    refine qB rfl ?_
    refine qA (qC (v := .slice _ _ _) rfl) ?_
    refine qX (zc := [_]) (vs := [(0, .int .i64 _)]) (cs := [_]) rfl rfl rfl rfl rfl rfl rfl fun b37 hb37 => ?_
    refine qN [_, _] rfl ?_
    refine zA 0 KA rfl rfl rfl (fun V => rdP V (i := 1) rfl) rfl rfl rfl rfl rfl rfl rfl rfl rfl (by omega) rfl (by rw [hfl]; simp only [List.length_cons, List.length_nil]; omega) fun a2 h4a E4a ha2 => ?_
    refine qN [_, _] rfl ?_
    refine qA (qD (v := .slice _ _ _) rfl) ?_
    refine wS ?_
    refine qB rfl ?_
    refine qA (qS rfl (by omega)) ?_
    refine qA (qC (v := .int .i64 _) rfl) ?_
    refine ⟨(k + 1, a2, ls ++ [-1]), ⟨rfl, rfl, trivial⟩, rfl, rfl, (zL (zL (zL E_k E1) E_u2) E4a), fun h3 E3 => ⟨hkl, hst, by rw [List.flatMap_append]; exact ha2⟩, by first | omega | (dsimp only; omega), ?_⟩
    repeat (first | exact qW _ _ _ | refine wA (by decide) ?_ | refine qV rfl ?_ | refine wB rfl ?_)
   ·skip
    have hnum : numW (decide ((k : Int) = below)) w[k] = (numR w[k]).map fun n : Nat => (n : Int) := by
     unfold numW
     rw [if_neg]
     simpa using hb1
    rw [hnum] at hst
    refine qO ?_
    refine qE ?_
    refine xp_cutB [39, 40, 41, 42, 43, 44, 45, 46, 47, 48, 49, 50, 51, 52, 53, 54, 55] 1 (α := Unit) (fun u => [(55, .bool (numR w[k]).isNone)]) (fun u L => L) (fun u h_u => True) ?_ ?_
    ·skip
     rcases AV.1 with he | ⟨t, p, he⟩
     ·skip
      by_cases hn0 : n < 0
      ·have hng : decide (n < 0) = true := decide_eq_true hn0
       have hnone : numR w[k] = none := by
        cases q : numR w[k] with
        | none => rfl
        | some m => have := (atoV_num AV q).1; omega
       subst he
       refine qB rfl ?_
       refine qA (qC (v := _) rfl) ?_
       refine qA (qK (v := .bool _) rfl) ?_
       refine qA (qC (v := .bool _) rfl) ?_
       refine qF rfl rfl ?_
       refine qA (qC (v := .int .i64 _) rfl) ?_
       refine qF rfl rfl ?_
       refine qA (qK (v := .bool _) rfl) ?_
       refine qA (wI rfl rfl (v := .bool _) rfl) ?_
       refine qA (qC (v := .bool _) rfl) ?_
       refine qH rfl hng ?_
       refine qH rfl hng ?_
       refine qH rfl hng ?_
       refine qA (qZ rfl hng (v := .bool _) rfl) ?_
       refine qA (qC (v := .bool _) rfl) ?_
       refine qH rfl rfl ?_
       refine qH rfl rfl ?_
       refine qH rfl rfl ?_
       refine qH rfl rfl ?_
       refine qA (qZ rfl rfl (v := .bool _) rfl) ?_
       refine ⟨(), ⟨(by rw [hnone]; rfl), trivial⟩, rfl, rfl, (Ext.refl _), fun h3 E3 => by first | trivial | omega | (refine ⟨?_, ?_⟩ <;> omega), ?_⟩
       repeat (first | exact wQ _ _ | exact qW _ _ _ | refine wA (by decide) ?_ | refine qV rfl ?_ | refine wB rfl ?_)
      ·skip
       have hng : decide (n < 0) = false := decide_eq_false hn0
       by_cases hl3 : (w[k].length : Int) > 3
       ·have hlg : decide ((w[k].length : Int) > 3) = true := decide_eq_true hl3
        have hnone : numR w[k] = none := by
         unfold numR
         rw [if_pos (.inr (.inl (by omega)))]
        subst he
        refine qB rfl ?_
        refine qA (qC (v := _) rfl) ?_
        refine qA (qK (v := .bool _) rfl) ?_
        refine qA (qC (v := .bool _) rfl) ?_
        refine qF rfl rfl ?_
        refine qA (qC (v := .int .i64 _) rfl) ?_
        refine qF rfl rfl ?_
        refine qA (qK (v := .bool _) rfl) ?_
        refine qA (wI rfl rfl (v := .bool _) rfl) ?_
        refine qA (qC (v := .bool _) rfl) ?_
        refine qF rfl hng ?_
        refine qA (qC (v := .string _) rfl) ?_
        refine qF rfl hng ?_
        refine qA (zF rfl rfl) ?_
        refine qF rfl hng ?_
        refine qA (qK (v := .bool _) rfl) ?_
        refine qA (wI rfl hng (v := .bool _) rfl) ?_
        refine qA (qC (v := .bool _) rfl) ?_
        refine qH rfl hlg ?_
        refine qH rfl hlg ?_
        refine qH rfl hlg ?_
        refine qH rfl hlg ?_
        refine qA (qZ rfl hlg (v := .bool _) rfl) ?_
        refine ⟨(), ⟨(by rw [hnone]; rfl), trivial⟩, rfl, rfl, (Ext.refl _), fun h3 E3 => by first | trivial | omega | (refine ⟨?_, ?_⟩ <;> omega), ?_⟩
        repeat (first | exact wQ _ _ | exact qW _ _ _ | refine wA (by decide) ?_ | refine qV rfl ?_ | refine wB rfl ?_)
       ·skip
        have hlg : decide ((w[k].length : Int) > 3) = false := decide_eq_false hl3
        subst he
        obtain ⟨m, hm1⟩ : ∃ m, atoiF w[k] = some m := by
         cases q : atoiF w[k] with
         | some m => exact ⟨m, rfl⟩
         | none => exact absurd rfl (AV.2.2 (by omega) q)
        have hmn := (AV.2.1 (by omega) m hm1).1
        subst hmn
        have hab := atoi_abs hm1
        have hp3 : 10 ^ w[k].length ≤ 10 ^ 3 := Nat.pow_le_pow_right (by decide) (by omega)
        refine qB rfl ?_
        refine qA (qC (v := _) rfl) ?_
        refine qA (qK (v := .bool _) rfl) ?_
        refine qA (qC (v := .bool _) rfl) ?_
        refine qF rfl rfl ?_
        refine qA (qC (v := .int .i64 _) rfl) ?_
        refine qF rfl rfl ?_
        refine qA (qK (v := .bool _) rfl) ?_
        refine qA (wI rfl rfl (v := .bool _) rfl) ?_
        refine qA (qC (v := .bool _) rfl) ?_
        refine qF rfl hng ?_
        refine qA (qC (v := .string _) rfl) ?_
        refine qF rfl hng ?_
        refine qA (zF rfl rfl) ?_
        refine qF rfl hng ?_
        refine qA (qK (v := .bool _) rfl) ?_
        refine qA (wI rfl hng (v := .bool _) rfl) ?_
        refine qA (qC (v := .bool _) rfl) ?_
        refine qF rfl hlg ?_
        refine qA (qC (v := .int .i64 _) rfl) ?_
        refine qF rfl hlg ?_
        refine wJ (caps := []) (vs := [.int .i64 _]) rfl rfl rfl (itoaE_ok n h_u2 (PW.ext (zL (zL E_k E1) E_u2)) (by omega)) ?_
        rintro _ h2 E2 rfl
        refine qF rfl hlg ?_
        refine qA (qC (v := .string _) rfl) ?_
        refine qF rfl hlg ?_
        refine qA (pv_strne rfl rfl) ?_
        refine qA (wI rfl hlg (v := .bool _) rfl) ?_
        have hfin : Value.bool (!decide (itoaL n = w[k])) = Value.bool (numR w[k]).isNone := by
         by_cases hi : itoaL n = w[k]
         ·rw [decide_eq_true hi, numR_of hm1 (by omega) (by omega) hi]; rfl
         ·rw [decide_eq_false hi]
          cases q : numR w[k] with
          | none => rfl
          | some m =>
           have h1 := of_numR q
           have h2 := (atoV_num AV q).1
           subst h2
           exact absurd h1.2.2.1 hi
        refine ⟨(), ⟨hfin, trivial⟩, rfl, rfl, E2, fun h3 E3 => by first | trivial | omega | (refine ⟨?_, ?_⟩ <;> omega), ?_⟩
        repeat (first | exact wQ _ _ | exact qW _ _ _ | refine wA (by decide) ?_ | refine qV rfl ?_ | refine wB rfl ?_)
     ·skip
      have hnone : numR w[k] = none := by
       cases q : numR w[k] with
       | none => rfl
       | some m => have := (atoV_num AV q).2; rw [he] at this; cases this
      subst he
      refine qB rfl ?_
      refine qA (qC (v := _) rfl) ?_
      refine qA (qK (v := .bool _) rfl) ?_
      refine qA (qC (v := .bool _) rfl) ?_
      refine qH rfl rfl ?_
      refine qH rfl rfl ?_
      refine qA (qZ rfl rfl (v := .bool _) rfl) ?_
      refine qA (qC (v := .bool _) rfl) ?_
      refine qH rfl rfl ?_
      refine qH rfl rfl ?_
      refine qH rfl rfl ?_
      refine qA (qZ rfl rfl (v := .bool _) rfl) ?_
      refine qA (qC (v := .bool _) rfl) ?_
      refine qH rfl rfl ?_
      refine qH rfl rfl ?_
      refine qH rfl rfl ?_
      refine qH rfl rfl ?_
      refine qA (qZ rfl rfl (v := .bool _) rfl) ?_
      refine ⟨(), ⟨(by rw [hnone]; rfl), trivial⟩, rfl, rfl, (Ext.refl _), fun h3 E3 => by first | trivial | omega | (refine ⟨?_, ?_⟩ <;> omega), ?_⟩
      repeat (first | exact wQ _ _ | exact qW _ _ _ | refine wA (by decide) ?_ | refine qV rfl ?_ | refine wB rfl ?_)
    ·rintro u T5 h_u E_u J_u
     refine qU [_] rfl ?_
     refine qP rfl (fun hbad => ?_) (fun hbad => ?_)
     ·skip
      have hnone : numR w[k] = none := by simpa using hbad
      have hnn : numsR below many w = none := by rw [hn]; exact nums_stop (k := k + 1) (by rw [hst, hnone]; rfl)
      refine qE ?_
      refine qB rfl ?_
      refine qA (qD (v := .slice _ _ _) rfl) ?_
      refine qA (qD (v := .bool _) rfl) ?_
      refine qQ ?_
      refine qM (vs := [_, _]) Tryz.results34 ⟨qJ rfl rfl, qJ rfl rfl, trivial⟩ fun V => ?_
      exact ⟨(zL (zL (zL (zL E_k E1) E_u2) E_u) (qR V)), _, _, _, by rw [hnn]; rfl, fun l e => by rw [hnn] at e; cases e⟩
     ·skip
      obtain ⟨m, hm1⟩ : ∃ m, numR w[k] = some m := by
       cases q : numR w[k] with
       | some m => exact ⟨m, rfl⟩
       | none => rw [q] at hbad; cases hbad
      obtain ⟨hmn, _⟩ := atoV_num AV hm1
      subst hmn
      rw [hm1] at hst
      refine qO ?_
      refine qB rfl ?_
      refine qA (qC (v := .slice _ _ _) rfl) ?_
      refine qA (qC (v := .int .i64 _) rfl) ?_
      refine qX (zc := [_]) (vs := [(0, .int .i64 _)]) (cs := [_]) rfl rfl rfl rfl rfl rfl rfl fun b58 hb58 => ?_
      refine qN [_, _] rfl ?_
      refine zA 0 KA rfl rfl rfl (fun V => rdP V (i := 1) rfl) rfl rfl rfl rfl rfl rfl rfl rfl rfl (by omega) rfl (by rw [hfl]; simp only [List.length_cons, List.length_nil]; omega) fun a2 h6a E6a ha2 => ?_
      refine qN [_, _] rfl ?_
      refine qA (qD (v := .slice _ _ _) rfl) ?_
      refine qB rfl ?_
      refine qA (qS rfl (by omega)) ?_
      refine qA (qC (v := .int .i64 _) rfl) ?_
      refine ⟨(k + 1, a2, ls ++ [(m : Int)]), ⟨rfl, rfl, trivial⟩, rfl, rfl, (zL (zL (zL (zL E_k E1) E_u2) E_u) E6a), fun h3 E3 => ⟨hkl, hst, by rw [List.flatMap_append]; exact ha2⟩, by first | omega | (dsimp only; omega), ?_⟩
      repeat (first | exact qW _ _ _ | refine wA (by decide) ?_ | refine qV rfl ?_ | refine wB rfl ?_)
  ·skip
   have hke : k = w.length := by have := geI hk; omega
   subst hke
   rw [List.take_length] at K2
   refine wS ?_
   refine qE ?_
   refine qB rfl ?_
   refine qA (qC (v := .slice _ _ _) rfl) ?_
   refine qA (qD (v := .slice _ _ _) rfl) ?_
   refine qA (qD (v := .bool _) rfl) ?_
   refine qQ ?_
   refine qM (vs := [_, _]) Tryz.results34 ⟨qJ rfl rfl, qJ rfl rfl, trivial⟩ fun V => ?_
   obtain ⟨A9, c9, e9, R9⟩ := AccP.row (m := 1) (enc := intC) (i := 0) (l := ls) KA (by omega) (fun _ _ => rfl) V rfl
   exact ⟨(zL E_k (qR V)), A9, ls.length, c9, by rw [hn, K2, ← e9]; rfl, fun l e => by rw [hn, K2] at e; cases e; exact ⟨rfl, R9⟩⟩
end
end Go.Proofs.YtmpahfdiebhdbaaGreatDoor
namespace Go.Proofs.YtmpahfdiebhdbaaGreatDoor
open Go Go.HL Go.Proofs Go.Wx Go.Rd
section
variable [Lvl]
set_option maxRecDepth 100000
def NumV (w : List UInt8) (v : Value) : Prop := ∃ n : Int, v = .tuple #[.int .i64 n, .bool (numR w).isSome] ∧ ∀ m, numR w = some m → n = (m : Int)
set_option maxHeartbeats 1000000 in
theorem numberR_ok (w : List UInt8) (h : AH) : FnT Tryz.prog 60 #[.string (bs w)] h (fun v _ => NumV w v) := by
 refine wH Tryz.func60 rfl Tryz.ntmps60 rfl ?_
 refine qE ?_
 refine qB rfl ?_
 refine qA (qD (v := .int .i64 _) rfl) ?_
 refine qA (qD (v := .bool _) rfl) ?_
 refine qE ?_
 refine xp_cutB [6, 7, 8, 9, 10, 11, 12, 13, 14, 15, 16, 17, 18, 19, 20, 21, 22, 23] 0 (α := Unit) (fun u => [(23, .bool (decide (w.length < 1 ∨ w.length > 3 ∨ (w.head? = some 48 ∧ w.length > 1))))]) (fun u L => L) (fun u h_u => True) ?_ ?_
 ·skip
  by_cases h1 : w.length < 1
  ·have g1 : decide ((w.length : Int) < 1) = true := decide_eq_true (by omega)
   refine qB rfl ?_
   refine qA (qC (v := .string _) rfl) ?_
   refine qA (zF rfl rfl) ?_
   refine qA (qK (v := .bool _) rfl) ?_
   refine qA (qC (v := .bool _) rfl) ?_
   refine qH rfl g1 ?_
   refine qH rfl g1 ?_
   refine qH rfl g1 ?_
   refine qA (qZ rfl g1 (v := .bool _) rfl) ?_
   refine qA (qC (v := .bool _) rfl) ?_
   refine qH rfl rfl ?_
   refine qH rfl rfl ?_
   refine qH rfl rfl ?_
   refine qH rfl rfl ?_
   refine guard_un rfl ?_
   refine guard_un rfl ?_
   refine guard_un rfl ?_
   refine qH rfl rfl ?_
   refine qA (qZ rfl rfl (v := .bool _) rfl) ?_
   refine ⟨(), ⟨boolE (decide_eq_true (.inl h1)).symm, trivial⟩, rfl, rfl, (Ext.refl _), fun h3 E3 => by first | trivial | omega | (refine ⟨?_, ?_⟩ <;> omega), ?_⟩
   repeat (first | exact wQ _ _ | exact qW _ _ _ | refine wA (by decide) ?_ | refine qV rfl ?_ | refine wB rfl ?_)
  ·skip
   have g1 : decide ((w.length : Int) < 1) = false := decide_eq_false (by omega)
   by_cases h3 : w.length > 3
   ·have g3 : decide ((w.length : Int) > 3) = true := decide_eq_true (by omega)
    refine qB rfl ?_
    refine qA (qC (v := .string _) rfl) ?_
    refine qA (zF rfl rfl) ?_
    refine qA (qK (v := .bool _) rfl) ?_
    refine qA (qC (v := .bool _) rfl) ?_
    refine qF rfl g1 ?_
    refine qA (qC (v := .string _) rfl) ?_
    refine qF rfl g1 ?_
    refine qA (zF rfl rfl) ?_
    refine qF rfl g1 ?_
    refine qA (qK (v := .bool _) rfl) ?_
    refine qA (wI rfl g1 (v := .bool _) rfl) ?_
    refine qA (qC (v := .bool _) rfl) ?_
    refine qH rfl g3 ?_
    refine qH rfl g3 ?_
    refine qH rfl g3 ?_
    refine qH rfl g3 ?_
    refine guard_un rfl ?_
    refine guard_un rfl ?_
    refine guard_un rfl ?_
    refine qH rfl g3 ?_
    refine qA (qZ rfl g3 (v := .bool _) rfl) ?_
    refine ⟨(), ⟨boolE (decide_eq_true (.inr (.inl h3))).symm, trivial⟩, rfl, rfl, (Ext.refl _), fun h3 E3 => by first | trivial | omega | (refine ⟨?_, ?_⟩ <;> omega), ?_⟩
    repeat (first | exact wQ _ _ | exact qW _ _ _ | refine wA (by decide) ?_ | refine qV rfl ?_ | refine wB rfl ?_)
   ·skip
    have g3 : decide ((w.length : Int) > 3) = false := decide_eq_false (by omega)
    obtain ⟨c, r, hcr⟩ : ∃ c r, w = c :: r := by
     cases w with
     | nil => simp at h1
     | cons c r => exact ⟨c, r, rfl⟩
    have hh : w.head? = some c := by rw [hcr]; rfl
    by_cases hc : c = 48
    ·have gc : ((c.toNat : Int) == 48) = true := by rw [hc]; rfl
     refine qB rfl ?_
     refine qA (qC (v := .string _) rfl) ?_
     refine qA (zF rfl rfl) ?_
     refine qA (qK (v := .bool _) rfl) ?_
     refine qA (qC (v := .bool _) rfl) ?_
     refine qF rfl g1 ?_
     refine qA (qC (v := .string _) rfl) ?_
     refine qF rfl g1 ?_
     refine qA (zF rfl rfl) ?_
     refine qF rfl g1 ?_
     refine qA (qK (v := .bool _) rfl) ?_
     refine qA (wI rfl g1 (v := .bool _) rfl) ?_
     refine qA (qC (v := .bool _) rfl) ?_
     refine qF rfl g3 ?_
     refine qA (qC (v := .string _) rfl) ?_
     refine qF rfl g3 ?_
     refine qA (pv_stridx (c := c) 0 rfl rfl rfl rfl (by rw [hcr]; rfl)) ?_
     refine qF rfl g3 ?_
     refine qA (qK (v := .bool _) rfl) ?_
     refine qF rfl g3 ?_
     refine qA (qC (v := .bool _) rfl) ?_
     refine qF rfl gc ?_
     refine qA (qC (v := .string _) rfl) ?_
     refine qF rfl gc ?_
     refine qA (zF rfl rfl) ?_
     refine qF rfl gc ?_
     refine qA (qK (v := .bool _) rfl) ?_
     refine qF rfl g3 ?_
     refine qA (qZ rfl gc (v := .bool _) rfl) ?_
     refine qA (wI rfl g3 (v := .bool _) rfl) ?_
     have hfin : decide ((w.length : Int) > 1) = decide (w.length < 1 ∨ w.length > 3 ∨ (w.head? = some 48 ∧ w.length > 1)) := by
      rw [hh, hc]
      by_cases h9 : w.length > 1
      ·rw [decide_eq_true (by omega), decide_eq_true (.inr (.inr ⟨rfl, h9⟩))]
      ·rw [decide_eq_false (by omega), decide_eq_false (by rintro (e | e | ⟨_, e⟩) <;> omega)]
     refine ⟨(), ⟨boolE hfin, trivial⟩, rfl, rfl, (Ext.refl _), fun h3 E3 => by first | trivial | omega | (refine ⟨?_, ?_⟩ <;> omega), ?_⟩
     repeat (first | exact wQ _ _ | exact qW _ _ _ | refine wA (by decide) ?_ | refine qV rfl ?_ | refine wB rfl ?_)
    ·skip
     have gc : ((c.toNat : Int) == 48) = false := by
      have : ¬ (c.toNat : Int) = 48 := fun e => hc (UInt8.toNat_inj.1 (Int.ofNat.inj e))
      simpa using this
     refine qB rfl ?_
     refine qA (qC (v := .string _) rfl) ?_
     refine qA (zF rfl rfl) ?_
     refine qA (qK (v := .bool _) rfl) ?_
     refine qA (qC (v := .bool _) rfl) ?_
     refine qF rfl g1 ?_
     refine qA (qC (v := .string _) rfl) ?_
     refine qF rfl g1 ?_
     refine qA (zF rfl rfl) ?_
     refine qF rfl g1 ?_
     refine qA (qK (v := .bool _) rfl) ?_
     refine qA (wI rfl g1 (v := .bool _) rfl) ?_
     refine qA (qC (v := .bool _) rfl) ?_
     refine qF rfl g3 ?_
     refine qA (qC (v := .string _) rfl) ?_
     refine qF rfl g3 ?_
     refine qA (pv_stridx (c := c) 0 rfl rfl rfl rfl (by rw [hcr]; rfl)) ?_
     refine qF rfl g3 ?_
     refine qA (qK (v := .bool _) rfl) ?_
     refine qF rfl g3 ?_
     refine qA (qC (v := .bool _) rfl) ?_
     refine qH rfl gc ?_
     refine qH rfl gc ?_
     refine qH rfl gc ?_
     refine qF rfl g3 ?_
     refine qA (wI rfl gc (v := .bool _) rfl) ?_
     refine qA (wI rfl g3 (v := .bool _) rfl) ?_
     have hfin : false = decide (w.length < 1 ∨ w.length > 3 ∨ (w.head? = some 48 ∧ w.length > 1)) := by
      rw [hh, decide_eq_false]
      rintro (e | e | ⟨e, _⟩)
      ·exact h1 e
      ·exact h3 e
      ·exact hc (Option.some.inj e)
     refine ⟨(), ⟨boolE hfin, trivial⟩, rfl, rfl, (Ext.refl _), fun h3 E3 => by first | trivial | omega | (refine ⟨?_, ?_⟩ <;> omega), ?_⟩
     repeat (first | exact wQ _ _ | exact qW _ _ _ | refine wA (by decide) ?_ | refine qV rfl ?_ | refine wB rfl ?_)
 ·rintro u T1 h_u E_u J_u
  refine qU [] rfl ?_
  refine qP rfl (fun hb => ?_) (fun hb => ?_)
  ·skip
   have hb' := of_decide_eq_true hb
   have hn : numR w = none := if_pos hb'
   refine qE ?_
   refine qB rfl ?_
   refine qA (qD (v := .int .i64 _) rfl) ?_
   refine qA (qD (v := .bool _) rfl) ?_
   refine qQ ?_
   refine qM (vs := [_, _]) Tryz.results60 ⟨qJ rfl rfl, qJ rfl rfl, trivial⟩ fun V => ?_
   exact ⟨(zL E_u (qR V)), 0, by rw [hn]; rfl, fun m hm => by rw [hn] at hm; cases hm⟩
  ·skip
   have hb' : ¬ (w.length < 1 ∨ w.length > 3 ∨ (w.head? = some 48 ∧ w.length > 1)) := of_decide_eq_false hb
   have hn : numR w = digsV w 0 := if_neg hb'
   have hl3 : w.length ≤ 3 := by omega
   refine qO ?_
   refine qE ?_
   refine qB rfl ?_
   refine qA (qD (v := .int .i64 _) rfl) ?_
   refine qE ?_
   refine qE ?_
   refine qB rfl ?_
   refine qA (qD (v := .int .i64 _) rfl) ?_
   refine qT ?_
   refine zH [2, 3, 4, 5, 24, 25, 26, 27, 28, 29, 30, 31, 32, 33, 34, 35, 36, 37, 38, 39, 40, 41, 42, 43, 44, 45, 46, 47] 0 (α := Nat × Nat) (fun ⟨k, n⟩ => [(5, .int .i64 k), (4, .int .i64 n)]) (fun ⟨k, n⟩ => _) (fun ⟨k, n⟩ h_k => k ≤ w.length ∧ digsV w 0 = digsV (w.drop k) n ∧ n < 10 ^ k) (fun ⟨k, n⟩ => w.length - k) ((0, 0)) ⟨rfl, rfl, trivial⟩ (rfl) (⟨Nat.zero_le _, rfl, by decide⟩) ?_
   rintro ⟨k, n⟩ T2 h_k E_k J_k
   refine qU [] rfl ?_
   obtain ⟨K1, K2, K3⟩ := J_k
   have hp3 : 10 ^ k ≤ 10 ^ 3 := Nat.pow_le_pow_right (by decide) (by omega)
   refine qE ?_
   refine qE ?_
   refine qB rfl ?_
   refine qA (qC (v := .int .i64 _) rfl) ?_
   refine qA (qC (v := .string _) rfl) ?_
   refine qA (zF rfl rfl) ?_
   refine qA (qK (v := .bool _) rfl) ?_
   refine qP rfl (fun hk => ?_) (fun hk => ?_)
   ·skip
    have hkl : k < w.length := ltI hk
    rw [List.drop_eq_getElem_cons hkl, digsV_cons] at K2
    have hdl := dv_lt w[k]
    have hiff := isD_iff w[k]
    refine qO ?_
    refine qE ?_
    refine qT ?_
    refine qE ?_
    refine xp_cutB [30, 31, 32, 33, 34, 35, 36, 37, 38, 39] 0 (α := Unit) (fun u2 => [(39, .bool (!isD w[k]))]) (fun u2 L => L) (fun u2 h_u2 => True) ?_ ?_
    ·skip
     refine qB rfl ?_
     refine qA (qC (v := .string _) rfl) ?_
     refine qA (qC (v := .int .i64 _) rfl) ?_
     refine qA (pv_stridx (c := w[k]) k rfl rfl rfl rfl (List.getElem?_eq_getElem hkl)) ?_
     refine qA (qK (v := .bool _) rfl) ?_
     refine qA (qC (v := .bool _) rfl) ?_
     by_cases hlo : w[k].toNat < 48
     ·have g : decide ((w[k].toNat : Int) < 48) = true := decide_eq_true (by omega)
      refine qH rfl g ?_
      refine qH rfl g ?_
      refine qH rfl g ?_
      refine qH rfl g ?_
      refine qA (qZ rfl g (v := .bool _) rfl) ?_
      refine ⟨(), ⟨boolE (by rw [hiff, decide_eq_false (by omega)]; rfl), trivial⟩, rfl, rfl, (Ext.refl _), fun h3 E3 => by first | trivial | omega | (refine ⟨?_, ?_⟩ <;> omega), ?_⟩
      repeat (first | exact wQ _ _ | exact qW _ _ _ | refine wA (by decide) ?_ | refine qV rfl ?_ | refine wB rfl ?_)
     ·skip
      have g : decide ((w[k].toNat : Int) < 48) = false := decide_eq_false (by omega)
      refine qF rfl g ?_
      refine qA (qC (v := .string _) rfl) ?_
      refine qF rfl g ?_
      refine qA (qC (v := .int .i64 _) rfl) ?_
      refine qF rfl g ?_
      refine qA (pv_stridx (c := w[k]) k rfl rfl rfl rfl (List.getElem?_eq_getElem hkl)) ?_
      refine qF rfl g ?_
      refine qA (qK (v := .bool _) rfl) ?_
      refine qA (wI rfl g (v := .bool _) rfl) ?_
      have hfin : decide ((w[k].toNat : Int) > 57) = !isD w[k] := by
       rw [hiff, decide_eq_true (by omega : 48 ≤ w[k].toNat), Bool.true_and]
       by_cases h9 : w[k].toNat ≤ 57
       ·rw [decide_eq_true h9, decide_eq_false (by omega)]; rfl
       ·rw [decide_eq_false h9, decide_eq_true (by omega)]; rfl
      refine ⟨(), ⟨boolE hfin, trivial⟩, rfl, rfl, (Ext.refl _), fun h3 E3 => by first | trivial | omega | (refine ⟨?_, ?_⟩ <;> omega), ?_⟩
      repeat (first | exact wQ _ _ | exact qW _ _ _ | refine wA (by decide) ?_ | refine qV rfl ?_ | refine wB rfl ?_)
    ·rintro u2 T3 h_u2 E_u2 J_u2
     refine qU [] rfl ?_
     refine qP rfl (fun hd => ?_) (fun hd => ?_)
     ·skip
      have hD : isD w[k] = false := by simpa using hd
      have hnn : numR w = none := by rw [hn, K2, hD]; rfl
      refine qE ?_
      refine qB rfl ?_
      refine qA (qD (v := .int .i64 _) rfl) ?_
      refine qA (qD (v := .bool _) rfl) ?_
      refine qQ ?_
      refine qM (vs := [_, _]) Tryz.results60 ⟨qJ rfl rfl, qJ rfl rfl, trivial⟩ fun V => ?_
      exact ⟨(zL (zL (zL E_u E_k) E_u2) (qR V)), 0, by rw [hnn]; rfl, fun m hm => by rw [hnn] at hm; cases hm⟩
     ·skip
      have hD : isD w[k] = true := by simpa using hd
      have hD9 := dv_le hD
      rw [if_pos hD] at K2
      refine qO ?_
      refine qB rfl ?_
      refine qA (qC (v := .int .i64 _) rfl) ?_
      refine qA (qS rfl (by omega)) ?_
      refine qA (qC (v := .string _) rfl) ?_
      refine qA (qC (v := .int .i64 _) rfl) ?_
      refine qA (pv_stridx (c := w[k]) k rfl rfl rfl rfl (List.getElem?_eq_getElem hkl)) ?_
      refine qA (pv_w (r := ((dv w[k] : Nat) : Int)) rfl (by have := u8_sub w[k] 48; exact this)) ?_
      refine qA (pv_conv (z' := ((dv w[k] : Nat) : Int)) rfl rfl rfl (i64_nat _ (by omega))) ?_
      refine qA (qS rfl (by omega)) ?_
      refine qA (qD (v := .int .i64 _) rfl) ?_
      refine qB rfl ?_
      refine qA (qC (v := .int .i64 _) rfl) ?_
      refine qA (qS rfl (by omega)) ?_
      refine qA (qD (v := .int .i64 _) rfl) ?_
      refine ⟨(k + 1, n * 10 + dv w[k]), ⟨rfl, intE (by push_cast; omega), trivial⟩, rfl, rfl, (zL E_k E_u2), fun h3 E3 => ⟨hkl, K2, by rw [Nat.pow_succ]; omega⟩, by first | omega | (dsimp only; omega), ?_⟩
      repeat (first | exact qW _ _ _ | refine wA (by decide) ?_ | refine qV rfl ?_ | refine wB rfl ?_)
   ·skip
    have hke : k = w.length := by have := geI hk; omega
    subst hke
    rw [List.drop_length] at K2
    have hs : numR w = some n := by rw [hn, K2]; rfl
    refine wS ?_
    refine qE ?_
    refine qB rfl ?_
    refine qA (qC (v := .int .i64 _) rfl) ?_
    refine qA (qD (v := .int .i64 _) rfl) ?_
    refine qA (qD (v := .bool _) rfl) ?_
    refine qQ ?_
    refine qM (vs := [_, _]) Tryz.results60 ⟨qJ rfl rfl, qJ rfl rfl, trivial⟩ fun V => ?_
    exact ⟨(zL (zL E_u E_k) (qR V)), (n : Int), by rw [hs]; rfl, fun m hm => by rw [hs] at hm; cases hm; rfl⟩
set_option maxHeartbeats 1000000 in
theorem numbersR_ok (word : List UInt8) (w : List (List UInt8)) (many : Nat) (A : Option Addr) (c : Nat) (h : AH) (R : Row h 1 strC A w) (hl : w.length < 2 ^ 20) (hm : many < 100) :
  FnT Tryz.prog 39 #[.string (bs word), .slice A w.length c, .int .i64 many] h (fun v h' => NumsV h' (numsR (belR word) many w) v) := by
 have hbel : belR word = if word = [76] then 2 else -1 := rfl
 refine wH Tryz.func39 rfl Tryz.ntmps39 rfl ?_
 refine qE ?_
 refine qB rfl ?_
 refine qA (qD (v := .slice _ _ _) rfl) ?_
 refine qA (qD (v := .bool _) rfl) ?_
 refine qE ?_
 refine qE ?_
 refine qB rfl ?_
 refine qA (qC (v := .slice _ _ _) rfl) ?_
 refine qA (wP rfl rfl) ?_
 refine qA (qC (v := .int .i64 _) rfl) ?_
 refine qA (qK (v := .bool _) rfl) ?_
 refine qP rfl (fun hc => ?_) (fun hc => ?_)
 ·skip
  have hc' : ¬ w.length = many := by
   have : ¬ (w.length : Int) = many := by simpa using hc
   omega
  have hn : numsR (belR word) many w = none := if_neg hc'
  refine qE ?_
  refine qB rfl ?_
  refine qA (qD (v := .slice _ _ _) rfl) ?_
  refine qA (qD (v := .bool _) rfl) ?_
  refine qQ ?_
  refine qM (vs := [_, _]) Tryz.results39 ⟨qJ rfl rfl, qJ rfl rfl, trivial⟩ fun V => ?_
  exact ⟨(qR V), _, _, _, by rw [hn]; rfl, fun l e => by rw [hn] at e; cases e⟩
 ·skip
  have hc' : w.length = many := by
   have : (w.length : Int) = many := by simpa using hc
   omega
  have hn : numsR (belR word) many w = numsFrom (belR word) 0 w := if_pos hc'
  refine goes_more ?_
  refine qU [_] rfl ?_
  refine qO ?_
  refine qE ?_
  refine qB rfl ?_
  refine qA (qD (v := .slice _ _ _) rfl) ?_
  refine qE ?_
  refine qE ?_
  refine qB rfl ?_
  refine qA (qD (v := .int .i64 _) rfl) ?_
  refine qT ?_
  refine xp_loopL [6, 7, 8, 9, 10, 11, 16, 17, 18, 19, 20, 21, 22, 23, 24, 25, 26, 27, 28, 29, 30, 31, 32, 33, 34, 35, 36, 37, 38, 39, 40, 41, 42, 43, 44, 45, 46, 47, 48] 1 (α := Nat × Acc × List Int) (fun ⟨k, a, ls⟩ => [(9, .int .i64 k), (8, .slice a.A a.n a.c)]) (fun ⟨k, a, ls⟩ L => L.set 0 (a.p)) (fun ⟨k, a, ls⟩ h_k => k ≤ w.length ∧ numsFrom (belR word) 0 (w.take k) = some ls ∧ AccR 3 1 (ls.flatMap intC) a) (fun ⟨k, a, ls⟩ => w.length - k) ((0, acc0, [])) ⟨rfl, rfl, trivial⟩ (rfl) (⟨Nat.zero_le _, rfl, accR0⟩) ?_
  rintro ⟨k, a, ls⟩ T1 h_k E_k J_k
  refine qU [_] rfl ?_
  obtain ⟨K1, K2, KA⟩ := J_k
  have hLk : ls.length = k := by rw [numsFrom_len K2, List.length_take]; omega
  have hfl : (ls.flatMap intC).length = k := by rw [wU (m := 1) (fun _ _ => rfl)]; omega
  refine qE ?_
  refine qE ?_
  refine qB rfl ?_
  refine qA (qC (v := .int .i64 _) rfl) ?_
  refine qA (qC (v := .slice _ _ _) rfl) ?_
  refine qA (wP rfl rfl) ?_
  refine qA (qK (v := .bool _) rfl) ?_
  refine qP rfl (fun hk => ?_) (fun hk => ?_)
  ·skip
   have hkl : k < w.length := ltI hk
   have hst := nums_step hkl K2
   obtain ⟨g, off, hA, hcl⟩ := (R.ext E_k).at (by omega) hkl
   refine qO ?_
   refine qE ?_
   refine qT ?_
   refine qE ?_
   refine qB rfl ?_
   refine qA (qC (v := .slice _ _ _) rfl) ?_
   refine qA (qC (v := .int .i64 _) rfl) ?_
   refine qA (wD rfl hA rfl rfl rfl (by omega) (by omega)) ?_
   refine wL (v := .string _) rfl rfl ((hcl) 0 _ rfl) ?_
   refine wJ (caps := []) (vs := [.string _]) rfl rfl rfl (numberR_ok w[k] h_k) ?_
   rintro _ h1 E1 ⟨n, rfl, hN⟩
   refine qA (qC (v := .tuple #[.int .i64 _, .bool _]) rfl) ?_
   refine qA (qK (v := .int .i64 _) rfl) ?_
   refine qA (qK (v := .bool _) rfl) ?_
   refine qA (qD (v := .int .i64 _) rfl) ?_
   refine qA (qD (v := .bool _) rfl) ?_
   refine xp_cutB [10, 11, 30, 31, 32, 33, 34, 35, 36, 37, 38, 39, 40, 41, 42] 1 (α := Int) (fun n2 => [(10, .int .i64 n2), (11, .bool (numW (decide ((k : Int) = belR word)) w[k]).isSome)]) (fun n2 L => L) (fun n2 h_n2 => ∀ m, numW (decide ((k : Int) = belR word)) w[k] = some m → n2 = m) ?_ ?_
   ·skip
    by_cases hw : word = [76]
    ·have gw : decide (word = [76]) = true := decide_eq_true hw
     by_cases h2 : k = 2
     ·have g2 : ((k : Int) == 2) = true := by rw [h2]; rfl
      have hb : decide ((k : Int) = belR word) = true := by rw [hbel, if_pos hw, h2]; rfl
      refine qE ?_
      refine qB rfl ?_
      refine qA (qC (v := .string _) rfl) ?_
      refine qA (pv_streq rfl rfl) ?_
      refine qA (qC (v := .bool _) rfl) ?_
      refine qF rfl gw ?_
      refine qA (qC (v := .int .i64 _) rfl) ?_
      refine qF rfl gw ?_
      refine qA (qK (v := .bool _) rfl) ?_
      refine qA (qZ rfl gw (v := .bool _) rfl) ?_
      refine qA (qC (v := .bool _) rfl) ?_
      refine qF rfl g2 ?_
      refine qA (qC (v := .slice _ _ _) rfl) ?_
      refine qF rfl g2 ?_
      refine qA (qC (v := .int .i64 _) rfl) ?_
      refine qF rfl g2 ?_
      refine qA (wD rfl hA rfl rfl rfl (by omega) (by omega)) ?_
      refine qF rfl g2 ?_
      refine wL (v := .string (bs w[k])) rfl rfl ((hcl.ext (by first | exact Ext.refl _ | exact E1)) 0 _ rfl) ?_
      refine qF rfl g2 ?_
      refine qA (pv_streq rfl rfl) ?_
      refine qA (qZ rfl g2 (v := .bool _) rfl) ?_
      refine qP rfl (fun hm1 => ?_) (fun hm1 => ?_)
      ·skip
       have hm1' := of_decide_eq_true hm1
       have hnum : numW (decide ((k : Int) = belR word)) w[k] = some (-1) := by unfold numW; rw [if_pos ⟨hb, hm1'⟩]
       refine qB rfl ?_
       refine qA (qD (v := .int .i64 _) rfl) ?_
       refine qA (qD (v := .bool _) rfl) ?_
       refine ⟨(-1), ⟨rfl, boolE (by rw [hnum]; rfl), trivial⟩, rfl, rfl, (Ext.refl _), fun h3 E3 => fun m hm => by rw [hnum] at hm; cases hm; rfl, ?_⟩
       repeat (first | exact wQ _ _ | exact qW _ _ _ | refine wA (by decide) ?_ | refine qV rfl ?_ | refine wB rfl ?_)
      ·skip
       have hm1' : ¬ w[k] = [45, 49] := of_decide_eq_false hm1
       have hnum : numW (decide ((k : Int) = belR word)) w[k] = (numR w[k]).map fun n : Nat => (n : Int) := by unfold numW; rw [if_neg (fun e => hm1' e.2)]
       refine qO ?_
       refine ⟨n, ⟨rfl, boolE (by rw [hnum]; cases numR w[k] <;> rfl), trivial⟩, rfl, rfl, (Ext.refl _), fun h3 E3 => fun m hm => by rw [hnum] at hm; obtain ⟨q, q1, q2⟩ := Option.map_eq_some_iff.1 hm; rw [← q2]; exact hN q q1, ?_⟩
       repeat (first | exact wQ _ _ | exact qW _ _ _ | refine wA (by decide) ?_ | refine qV rfl ?_ | refine wB rfl ?_)
     ·skip
      have g2 : ((k : Int) == 2) = false := by
       have : ¬ (k : Int) = 2 := by omega
       simpa using this
      have hb : decide ((k : Int) = belR word) = false := by rw [hbel, if_pos hw]; exact decide_eq_false (by omega)
      have hnum : numW (decide ((k : Int) = belR word)) w[k] = (numR w[k]).map fun n : Nat => (n : Int) := by unfold numW; rw [if_neg (fun e => by rw [hb] at e; exact absurd e.1 (by decide))]
      refine qE ?_
      refine qB rfl ?_
      refine qA (qC (v := .string _) rfl) ?_
      refine qA (pv_streq rfl rfl) ?_
      refine qA (qC (v := .bool _) rfl) ?_
      refine qF rfl gw ?_
      refine qA (qC (v := .int .i64 _) rfl) ?_
      refine qF rfl gw ?_
      refine qA (qK (v := .bool _) rfl) ?_
      refine qA (qZ rfl gw (v := .bool _) rfl) ?_
      refine qA (qC (v := .bool _) rfl) ?_
      refine qH rfl g2 ?_
      refine qH rfl g2 ?_
      refine qH rfl g2 ?_
      refine qH rfl g2 ?_
      refine qH rfl g2 ?_
      refine qA (wI rfl g2 (v := .bool _) rfl) ?_
      refine wT rfl (rfl) ?_
      refine qO ?_
      refine ⟨n, ⟨rfl, boolE (by rw [hnum]; cases numR w[k] <;> rfl), trivial⟩, rfl, rfl, (Ext.refl _), fun h3 E3 => fun m hm => by rw [hnum] at hm; obtain ⟨q, q1, q2⟩ := Option.map_eq_some_iff.1 hm; rw [← q2]; exact hN q q1, ?_⟩
      repeat (first | exact wQ _ _ | exact qW _ _ _ | refine wA (by decide) ?_ | refine qV rfl ?_ | refine wB rfl ?_)
    ·skip
     have gw : decide (word = [76]) = false := decide_eq_false hw
     have hb : decide ((k : Int) = belR word) = false := by rw [hbel, if_neg hw]; exact decide_eq_false (by omega)
     have hnum : numW (decide ((k : Int) = belR word)) w[k] = (numR w[k]).map fun n : Nat => (n : Int) := by unfold numW; rw [if_neg (fun e => by rw [hb] at e; exact absurd e.1 (by decide))]
     refine qE ?_
     refine qB rfl ?_
     refine qA (qC (v := .string _) rfl) ?_
     refine qA (pv_streq rfl rfl) ?_
     refine qA (qC (v := .bool _) rfl) ?_
     refine qH rfl gw ?_
     refine qH rfl gw ?_
     refine qA (wI rfl gw (v := .bool _) rfl) ?_
     refine qA (qC (v := .bool _) rfl) ?_
     refine qH rfl rfl ?_
     refine qH rfl rfl ?_
     refine qH rfl rfl ?_
     refine qH rfl rfl ?_
     refine qH rfl rfl ?_
     refine qA (wI rfl rfl (v := .bool _) rfl) ?_
     refine wT rfl (rfl) ?_
     refine qO ?_
     refine ⟨n, ⟨rfl, boolE (by rw [hnum]; cases numR w[k] <;> rfl), trivial⟩, rfl, rfl, (Ext.refl _), fun h3 E3 => fun m hm => by rw [hnum] at hm; obtain ⟨q, q1, q2⟩ := Option.map_eq_some_iff.1 hm; rw [← q2]; exact hN q q1, ?_⟩
     repeat (first | exact wQ _ _ | exact qW _ _ _ | refine wA (by decide) ?_ | refine qV rfl ?_ | refine wB rfl ?_)
   ·rintro n2 T2 h_n2 E_n2 J_n2
    refine qU [_] rfl ?_
    refine qE ?_
    refine qE ?_
    refine qB rfl ?_
    refine qA (qC (v := .bool _) rfl) ?_
    refine qA (qK (v := .bool _) rfl) ?_
    refine qP rfl (fun hbad => ?_) (fun hbad => ?_)
    ·skip
     have hnone : numW (decide ((k : Int) = belR word)) w[k] = none := by simpa using hbad
     have hnn : numsR (belR word) many w = none := by rw [hn]; exact nums_stop (k := k + 1) (by rw [hst, hnone]; rfl)
     refine qE ?_
     refine qB rfl ?_
     refine qA (qD (v := .slice _ _ _) rfl) ?_
     refine qA (qD (v := .bool _) rfl) ?_
     refine qQ ?_
     refine qM (vs := [_, _]) Tryz.results39 ⟨qJ rfl rfl, qJ rfl rfl, trivial⟩ fun V => ?_
     exact ⟨(zL (zL (zL E_k E1) E_n2) (qR V)), _, _, _, by rw [hnn]; rfl, fun l e => by rw [hnn] at e; cases e⟩
    ·skip
     obtain ⟨m, hm1⟩ : ∃ m, numW (decide ((k : Int) = belR word)) w[k] = some m := by
      cases q : numW (decide ((k : Int) = belR word)) w[k] with
      | some m => exact ⟨m, rfl⟩
      | none => rw [q] at hbad; cases hbad
     obtain rfl := J_n2 m hm1
     rw [hm1] at hst
     refine qO ?_
     refine qB rfl ?_
     refine qA (qC (v := .slice _ _ _) rfl) ?_
     refine qA (qC (v := .int .i64 _) rfl) ?_
     refine qX (zc := [_]) (vs := [(0, .int .i64 _)]) (cs := [_]) rfl rfl rfl rfl rfl rfl rfl fun b47 hb47 => ?_
     refine qN [_, _] rfl ?_
     refine zA 0 KA rfl rfl rfl (fun V => rdP V (i := 1) rfl) rfl rfl rfl rfl rfl rfl rfl rfl rfl (by omega) rfl (by rw [hfl]; simp only [List.length_cons, List.length_nil]; omega) fun a2 h3a E3a ha2 => ?_
     refine qN [_, _] rfl ?_
     refine qA (qD (v := .slice _ _ _) rfl) ?_
     refine qB rfl ?_
     refine qA (qC (v := .int .i64 _) rfl) ?_
     refine qA (qS rfl (by omega)) ?_
     refine qA (qD (v := .int .i64 _) rfl) ?_
     refine ⟨(k + 1, a2, ls ++ [n2]), ⟨rfl, rfl, trivial⟩, rfl, rfl, (zL (zL (zL E_k E1) E_n2) E3a), fun h3 E3 => ⟨hkl, hst, by rw [List.flatMap_append]; exact ha2⟩, by first | omega | (dsimp only; omega), ?_⟩
     repeat (first | exact qW _ _ _ | refine wA (by decide) ?_ | refine qV rfl ?_ | refine wB rfl ?_)
  ·skip
   have hke : k = w.length := by have := geI hk; omega
   subst hke
   rw [List.take_length] at K2
   refine wS ?_
   refine qE ?_
   refine qB rfl ?_
   refine qA (qC (v := .slice _ _ _) rfl) ?_
   refine qA (qD (v := .slice _ _ _) rfl) ?_
   refine qA (qD (v := .bool _) rfl) ?_
   refine qQ ?_
   refine qM (vs := [_, _]) Tryz.results39 ⟨qJ rfl rfl, qJ rfl rfl, trivial⟩ fun V => ?_
   obtain ⟨A9, c9, e9, R9⟩ := AccP.row (m := 1) (enc := intC) (i := 0) (l := ls) KA (by omega) (fun _ _ => rfl) V rfl
   exact ⟨(zL E_k (qR V)), A9, ls.length, c9, by rw [hn, K2, ← e9]; rfl, fun l e => by rw [hn, K2] at e; cases e; exact ⟨rfl, R9⟩⟩
end
end Go.Proofs.YtmpahfdiebhdbaaGreatDoor
namespace Go.Proofs.YtmpahfdiebhdbaaGreatDoor
open Go Go.HL Go.Proofs Go.Wx Go.Rd
structure MAcc where
 aB : Acc
 aQ : Acc
 aL : Acc
 aW : Acc
abbrev mCells (m : MachP) (x : MAcc) : List Value := [.int .i64 m.rods, .int .i64 m.levers, .int .i64 m.regs, .int .i64 m.travel, .int .i64 m.opn, .slice x.aB.A x.aB.n x.aB.c, .slice x.aQ.A x.aQ.n x.aQ.c, .slice x.aL.A x.aL.n x.aL.c, .slice x.aW.A x.aW.n x.aW.c]
abbrev mPv (bm : Nat) (m : MachP) (x : MAcc) : Pv := [some (bm, .cells (mCells m x).toArray 26 (0, 0)), x.aB.p, x.aQ.p, x.aL.p, x.aW.p]
structure AccM (m : MachP) (x : MAcc) : Prop where
 b : AccR 3 1 (m.buttons.flatMap intC) x.aB
 q : AccR 65 3 (m.pins.flatMap pinC) x.aQ
 l : AccR 67 4 (m.links.flatMap linkC) x.aL
 w : AccR 3 1 (m.weights.flatMap intC) x.aW
structure LenM (m : MachP) (k : Nat) : Prop where
 b : m.buttons.length ≤ k
 q : m.pins.length ≤ k
 l : m.links.length ≤ k
 w : m.weights.length ≤ k
section
variable [Lvl]
set_option maxRecDepth 100000
set_option maxHeartbeats 2000000 in
theorem take_ok (bm : Nat) (m : MachP) (x : MAcc) (w : List UInt8) (ws : List (List UInt8)) (A : Option Addr) (c k : Nat) (h : AH) (R : Row h 1 strC A ws) (PW : Pow h) (ER : Errs h) (hw : ∀ x ∈ ws, x.length < 2 ^ 20) (hl : ws.length < 2 ^ 20) (AM : AccM m x) (LM : LenM m k) (hk : k < 2 ^ 18) (hkd : 1 ≤ (kindR w).1) :
  FnM Tryz.prog (.func (.func 36) #[] ([] : List Value).toArray) [.pointer (some ⟨bm, 0, none⟩), .string (bs w), .slice A ws.length c] h (mPv bm m x)
  (fun v h' M' => v = .bool (numsR (belR w) (kindR w).2 ws).isSome ∧ ∃ x', M' = mPv bm (match numsR (belR w) (kindR w).2 ws with | some l => takeM m (kindR w).1 l | none => m) x' ∧ AccM (match numsR (belR w) (kindR w).2 ws with | some l => takeM m (kindR w).1 l | none => m) x') := by
 have lb := LM.b
 have lq := LM.q
 have ll := LM.l
 have lw := LM.w
 refine fnM_body rfl rfl Tryz.func36 rfl Tryz.ntmps36 rfl ?_
 refine qE ?_
 refine qB rfl ?_
 refine qA (qD (v := .bool _) rfl) ?_
 refine qE ?_
 refine qB rfl ?_
 refine qA (qD (v := .slice _ _ _) rfl) ?_
 refine qE ?_
 refine qB rfl ?_
 refine qA (qD (v := .bool _) rfl) ?_
 refine qE ?_
 refine qE ?_
 refine qB rfl ?_
 refine qA (qC (v := .string _) rfl) ?_
 refine qT ?_
 refine qE ?_
 refine qB rfl ?_
 refine qA (pv_streq rfl rfl) ?_
 refine qA (qD (v := .bool _) rfl) ?_
 refine qP rfl (fun h66 => ?_) (fun h66 => ?_)
 ·skip
  have hw' : w = [66] := of_decide_eq_true h66
  subst hw'
  refine qE ?_
  refine qB rfl ?_
  refine qA (qC (v := .slice _ _ _) rfl) ?_
  refine wJ (caps := []) (vs := [.slice _ _ _, .int .i64 _, .int .i64 _]) rfl rfl rfl (numbers_ok ws 1 (-1) A c h (R.ext (Ext.refl _)) (PW.ext (Ext.refl _)) (ER.ext (Ext.refl _)) hw hl (by decide) (by decide)) ?_
  rintro _ h2 E2 ⟨A2, n2, c2, rfl, hR⟩
  refine qA (qC (v := .tuple #[.slice _ _ _, .bool _]) rfl) ?_
  refine qA (qK (v := .slice _ _ _) rfl) ?_
  refine qA (qK (v := .bool _) rfl) ?_
  refine qA (qD (v := .slice _ _ _) rfl) ?_
  refine qA (qD (v := .bool _) rfl) ?_
  refine qE ?_
  refine qB rfl ?_
  refine qA (qC (v := .bool _) rfl) ?_
  refine qP rfl (fun hi => ?_) (fun hi => ?_)
  ·skip
   obtain ⟨l, hnl⟩ := Option.isSome_iff_exists.1 hi
   obtain ⟨rfl, RA⟩ := hR l hnl
   have hll : l.length = 1 := by
    unfold numsR at hnl
    split at hnl
    ·rename_i hlen; rw [numsFrom_len hnl, hlen]
    ·cases hnl
   have e1 : numsR (belR [66]) (kindR [66]).2 ws = some l := hnl
   match l, hll with
   | [a], _ =>
    obtain ⟨g0, f0, hA0, hc0⟩ := RA.at (by decide) (i := 0) (by simp)
    refine xp_dw [] rfl rfl rfl ?_
    refine qI (i := 0) rfl (by decide +kernel) (qC (v := .pointer (some ⟨bm, 0, none⟩)) rfl) ?_
    refine qI (i := 1) rfl (by decide +kernel) (qC (v := .pointer (some ⟨bm, 0, none⟩)) rfl) ?_
    refine qI (i := 2) rfl (by decide +kernel) (qK (v := .pointer (some ⟨bm, 0, none⟩)) rfl) ?_
    refine qI (i := 3) rfl (by decide +kernel) (qG rfl rfl rfl rfl 5 rfl) ?_
    refine wE (i := 4) rfl (by decide +kernel) ?_
    refine qL 0 (v := .slice _ _ _) rfl rfl rfl rfl ?_
    refine qI (i := 5) rfl (by decide +kernel) (qC (v := .slice _ _ _) rfl) ?_
    refine qI (i := 6) rfl (by decide +kernel) (wD rfl hA0 rfl rfl rfl (by simp) (by simp)) ?_
    refine wE (i := 7) rfl (by decide +kernel) ?_
    refine wL (v := .int .i64 _) rfl rfl ((hc0) 0 _ rfl) ?_
    refine dw_eff (i := 8) rfl (by decide +kernel) ?_
    refine qX (zc := [_]) (vs := [(0, .int .i64 _)]) (cs := [_]) rfl rfl rfl rfl rfl rfl rfl fun b26 hb26 => ?_
    refine ⟨ext_new hb26 _, ?_⟩
    refine wN [_, _, _, _, _, _] rfl ?_
    refine wV (i := 9) rfl (by decide +kernel) (by decide +kernel) ?_
    refine zA 1 AM.b rfl rfl rfl (fun V => rdP V (i := 5) rfl) rfl rfl rfl rfl rfl rfl rfl rfl rfl (by omega) rfl (by rw [wU (m := 1) (fun _ _ => rfl)]; simp only [List.length_cons, List.length_nil]; omega) fun a2 h1a E1a ha2 => ?_
    refine wN [_, _, _, _, _, _] rfl ?_
    refine qI (i := 10) rfl (by decide +kernel) (qK (v := .pointer (some ⟨bm, 0, none⟩)) rfl) ?_
    refine qI (i := 11) rfl (by decide +kernel) (qG rfl rfl rfl rfl 5 rfl) ?_
    refine wV (i := 12) rfl (by decide +kernel) (by decide +kernel) ?_
    refine qY 0 (v := .slice _ _ _) (vs := [_]) (c' := [_, _, _, _, _, _, _, _, _]) rfl rfl rfl rfl rfl rfl rfl rfl rfl ?_
    refine wN [_, _, _, _, _, _] rfl ?_
    refine zI rfl ?_
    refine qE ?_
    refine qB rfl ?_
    refine qA (qC (v := .bool _) rfl) ?_
    refine qA (qD (v := .bool _) rfl) ?_
    refine qQ ?_
    refine qM (vs := [_]) Tryz.results36 ⟨qJ rfl rfl, trivial⟩ fun V => ?_
    obtain ⟨h9, E9, e9, V9⟩ := wl_drop [_] [_, _, _, _, _] V
    refine ⟨h9, _, e9, V9, zL (zL E2 E1a) E9, rfl, ⟨a2, x.aQ, x.aL, x.aW⟩, by rw [e1]; rfl, ?_⟩
    rw [e1]
    exact ⟨by show AccR _ 1 ((m.buttons ++ [_]).flatMap intC) a2; rw [List.flatMap_append]; exact ha2, AM.q, AM.l, AM.w⟩
  ·skip
   have e0 : numsR (-1) 1 ws = none := by simpa using hi
   have e1 : numsR (belR [66]) (kindR [66]).2 ws = none := e0
   refine qO ?_
   refine qE ?_
   refine qB rfl ?_
   refine qA (qC (v := .bool _) rfl) ?_
   refine qA (qD (v := .bool _) rfl) ?_
   refine qQ ?_
   refine qM (vs := [_]) Tryz.results36 ⟨qJ rfl rfl, trivial⟩ fun V => ?_
   exact ⟨_, _, rfl, V, E2, rfl, x, by rw [e1], by rw [e1]; exact AM⟩
 ·skip
  have n66 : ¬ w = [66] := of_decide_eq_false h66
  refine qE ?_
  refine qB rfl ?_
  refine qA (pv_streq rfl rfl) ?_
  refine qA (qD (v := .bool _) rfl) ?_
  refine qP rfl (fun h80 => ?_) (fun h80 => ?_)
  ·skip
   have hw' : w = [80] := of_decide_eq_true h80
   subst hw'
   refine qE ?_
   refine qB rfl ?_
   refine qA (qC (v := .slice _ _ _) rfl) ?_
   refine wJ (caps := []) (vs := [.slice _ _ _, .int .i64 _, .int .i64 _]) rfl rfl rfl (numbers_ok ws 3 (-1) A c h (R.ext (Ext.refl _)) (PW.ext (Ext.refl _)) (ER.ext (Ext.refl _)) hw hl (by decide) (by decide)) ?_
   rintro _ h2 E2 ⟨A2, n2, c2, rfl, hR⟩
   refine qA (qC (v := .tuple #[.slice _ _ _, .bool _]) rfl) ?_
   refine qA (qK (v := .slice _ _ _) rfl) ?_
   refine qA (qK (v := .bool _) rfl) ?_
   refine qA (qD (v := .slice _ _ _) rfl) ?_
   refine qA (qD (v := .bool _) rfl) ?_
   refine qE ?_
   refine qB rfl ?_
   refine qA (qC (v := .bool _) rfl) ?_
   refine qP rfl (fun hi => ?_) (fun hi => ?_)
   ·skip
    obtain ⟨l, hnl⟩ := Option.isSome_iff_exists.1 hi
    obtain ⟨rfl, RA⟩ := hR l hnl
    have hll : l.length = 3 := by
     unfold numsR at hnl
     split at hnl
     ·rename_i hlen; rw [numsFrom_len hnl, hlen]
     ·cases hnl
    have e1 : numsR (belR [80]) (kindR [80]).2 ws = some l := hnl
    match l, hll with
    | [a, b, c], _ =>
     obtain ⟨g0, f0, hA0, hc0⟩ := RA.at (by decide) (i := 0) (by simp)
     obtain ⟨g1, f1, hA1, hc1⟩ := RA.at (by decide) (i := 1) (by simp)
     obtain ⟨g2, f2, hA2, hc2⟩ := RA.at (by decide) (i := 2) (by simp)
     refine xp_dw [] rfl rfl rfl ?_
     refine qI (i := 0) rfl (by decide +kernel) (qC (v := .pointer (some ⟨bm, 0, none⟩)) rfl) ?_
     refine qI (i := 1) rfl (by decide +kernel) (qC (v := .pointer (some ⟨bm, 0, none⟩)) rfl) ?_
     refine qI (i := 2) rfl (by decide +kernel) (qK (v := .pointer (some ⟨bm, 0, none⟩)) rfl) ?_
     refine qI (i := 3) rfl (by decide +kernel) (qG rfl rfl rfl rfl 6 rfl) ?_
     refine wE (i := 4) rfl (by decide +kernel) ?_
     refine qL 0 (v := .slice _ _ _) rfl rfl rfl rfl ?_
     refine qI (i := 5) rfl (by decide +kernel) (qC (v := .slice _ _ _) rfl) ?_
     refine qI (i := 6) rfl (by decide +kernel) (wD rfl hA0 rfl rfl rfl (by simp) (by simp)) ?_
     refine wE (i := 7) rfl (by decide +kernel) ?_
     refine wL (v := .int .i64 _) rfl rfl ((hc0) 0 _ rfl) ?_
     refine qI (i := 8) rfl (by decide +kernel) (qC (v := .slice _ _ _) rfl) ?_
     refine qI (i := 9) rfl (by decide +kernel) (wD rfl hA1 rfl rfl rfl (by simp) (by simp)) ?_
     refine wE (i := 10) rfl (by decide +kernel) ?_
     refine wL (v := .int .i64 _) rfl rfl ((hc1) 0 _ rfl) ?_
     refine qI (i := 11) rfl (by decide +kernel) (qC (v := .slice _ _ _) rfl) ?_
     refine qI (i := 12) rfl (by decide +kernel) (wD rfl hA2 rfl rfl rfl (by simp) (by simp)) ?_
     refine wE (i := 13) rfl (by decide +kernel) ?_
     refine wL (v := .int .i64 _) rfl rfl ((hc2) 0 _ rfl) ?_
     refine qI (i := 14) rfl (by decide +kernel) (zC (zc := [_, _, _]) (vs := [(0, .int .i64 _), (1, .int .i64 _), (2, .int .i64 _)]) (cs := [_, _, _]) rfl rfl rfl rfl rfl rfl) ?_
     refine dw_eff (i := 15) rfl (by decide +kernel) ?_
     refine qX (zc := [_, _, _]) (vs := [(0, .agg #[.int .i64 _, .int .i64 _, .int .i64 _])]) (cs := [_, _, _]) rfl rfl rfl rfl rfl rfl rfl fun b53 hb53 => ?_
     refine ⟨ext_new hb53 _, ?_⟩
     refine wN [_, _, _, _, _, _] rfl ?_
     refine wV (i := 16) rfl (by decide +kernel) (by decide +kernel) ?_
     refine zA 2 AM.q rfl rfl rfl (fun V => rdP V (i := 5) rfl) rfl rfl rfl rfl rfl rfl rfl rfl rfl (by omega) rfl (by rw [wU (m := 3) (fun _ _ => rfl)]; simp only [List.length_cons, List.length_nil]; omega) fun a2 h2a E2a ha2 => ?_
     refine wN [_, _, _, _, _, _] rfl ?_
     refine qI (i := 17) rfl (by decide +kernel) (qK (v := .pointer (some ⟨bm, 0, none⟩)) rfl) ?_
     refine qI (i := 18) rfl (by decide +kernel) (qG rfl rfl rfl rfl 6 rfl) ?_
     refine wV (i := 19) rfl (by decide +kernel) (by decide +kernel) ?_
     refine qY 0 (v := .slice _ _ _) (vs := [_]) (c' := [_, _, _, _, _, _, _, _, _]) rfl rfl rfl rfl rfl rfl rfl rfl rfl ?_
     refine wN [_, _, _, _, _, _] rfl ?_
     refine zI rfl ?_
     refine qE ?_
     refine qB rfl ?_
     refine qA (qC (v := .bool _) rfl) ?_
     refine qA (qD (v := .bool _) rfl) ?_
     refine qQ ?_
     refine qM (vs := [_]) Tryz.results36 ⟨qJ rfl rfl, trivial⟩ fun V => ?_
     obtain ⟨h9, E9, e9, V9⟩ := wl_drop [_] [_, _, _, _, _] V
     refine ⟨h9, _, e9, V9, zL (zL E2 E2a) E9, rfl, ⟨x.aB, a2, x.aL, x.aW⟩, by rw [e1]; rfl, ?_⟩
     rw [e1]
     exact ⟨AM.b, by show AccR _ 3 ((m.pins ++ [_]).flatMap pinC) a2; rw [List.flatMap_append]; exact ha2, AM.l, AM.w⟩
   ·skip
    have e0 : numsR (-1) 3 ws = none := by simpa using hi
    have e1 : numsR (belR [80]) (kindR [80]).2 ws = none := e0
    refine qO ?_
    refine qE ?_
    refine qB rfl ?_
    refine qA (qC (v := .bool _) rfl) ?_
    refine qA (qD (v := .bool _) rfl) ?_
    refine qQ ?_
    refine qM (vs := [_]) Tryz.results36 ⟨qJ rfl rfl, trivial⟩ fun V => ?_
    exact ⟨_, _, rfl, V, E2, rfl, x, by rw [e1], by rw [e1]; exact AM⟩
  ·skip
   have n80 : ¬ w = [80] := of_decide_eq_false h80
   refine qE ?_
   refine qB rfl ?_
   refine qA (pv_streq rfl rfl) ?_
   refine qA (qD (v := .bool _) rfl) ?_
   refine qP rfl (fun h76 => ?_) (fun h76 => ?_)
   ·skip
    have hw' : w = [76] := of_decide_eq_true h76
    subst hw'
    refine qE ?_
    refine qB rfl ?_
    refine qA (qC (v := .slice _ _ _) rfl) ?_
    refine wJ (caps := []) (vs := [.slice _ _ _, .int .i64 _, .int .i64 _]) rfl rfl rfl (numbers_ok ws 4 (2) A c h (R.ext (Ext.refl _)) (PW.ext (Ext.refl _)) (ER.ext (Ext.refl _)) hw hl (by decide) (by decide)) ?_
    rintro _ h2 E2 ⟨A2, n2, c2, rfl, hR⟩
    refine qA (qC (v := .tuple #[.slice _ _ _, .bool _]) rfl) ?_
    refine qA (qK (v := .slice _ _ _) rfl) ?_
    refine qA (qK (v := .bool _) rfl) ?_
    refine qA (qD (v := .slice _ _ _) rfl) ?_
    refine qA (qD (v := .bool _) rfl) ?_
    refine qE ?_
    refine qB rfl ?_
    refine qA (qC (v := .bool _) rfl) ?_
    refine qP rfl (fun hi => ?_) (fun hi => ?_)
    ·skip
     obtain ⟨l, hnl⟩ := Option.isSome_iff_exists.1 hi
     obtain ⟨rfl, RA⟩ := hR l hnl
     have hll : l.length = 4 := by
      unfold numsR at hnl
      split at hnl
      ·rename_i hlen; rw [numsFrom_len hnl, hlen]
      ·cases hnl
     have e1 : numsR (belR [76]) (kindR [76]).2 ws = some l := hnl
     match l, hll with
     | [a, b, c, d], _ =>
      obtain ⟨g0, f0, hA0, hc0⟩ := RA.at (by decide) (i := 0) (by simp)
      obtain ⟨g1, f1, hA1, hc1⟩ := RA.at (by decide) (i := 1) (by simp)
      obtain ⟨g2, f2, hA2, hc2⟩ := RA.at (by decide) (i := 2) (by simp)
      obtain ⟨g3, f3, hA3, hc3⟩ := RA.at (by decide) (i := 3) (by simp)
      refine xp_dw [] rfl rfl rfl ?_
      refine qI (i := 0) rfl (by decide +kernel) (qC (v := .pointer (some ⟨bm, 0, none⟩)) rfl) ?_
      refine qI (i := 1) rfl (by decide +kernel) (qC (v := .pointer (some ⟨bm, 0, none⟩)) rfl) ?_
      refine qI (i := 2) rfl (by decide +kernel) (qK (v := .pointer (some ⟨bm, 0, none⟩)) rfl) ?_
      refine qI (i := 3) rfl (by decide +kernel) (qG rfl rfl rfl rfl 7 rfl) ?_
      refine wE (i := 4) rfl (by decide +kernel) ?_
      refine qL 0 (v := .slice _ _ _) rfl rfl rfl rfl ?_
      refine qI (i := 5) rfl (by decide +kernel) (qC (v := .slice _ _ _) rfl) ?_
      refine qI (i := 6) rfl (by decide +kernel) (wD rfl hA0 rfl rfl rfl (by simp) (by simp)) ?_
      refine wE (i := 7) rfl (by decide +kernel) ?_
      refine wL (v := .int .i64 _) rfl rfl ((hc0) 0 _ rfl) ?_
      refine qI (i := 8) rfl (by decide +kernel) (qC (v := .slice _ _ _) rfl) ?_
      refine qI (i := 9) rfl (by decide +kernel) (wD rfl hA1 rfl rfl rfl (by simp) (by simp)) ?_
      refine wE (i := 10) rfl (by decide +kernel) ?_
      refine wL (v := .int .i64 _) rfl rfl ((hc1) 0 _ rfl) ?_
      refine qI (i := 11) rfl (by decide +kernel) (qC (v := .slice _ _ _) rfl) ?_
      refine qI (i := 12) rfl (by decide +kernel) (wD rfl hA2 rfl rfl rfl (by simp) (by simp)) ?_
      refine wE (i := 13) rfl (by decide +kernel) ?_
      refine wL (v := .int .i64 _) rfl rfl ((hc2) 0 _ rfl) ?_
      refine qI (i := 14) rfl (by decide +kernel) (qC (v := .slice _ _ _) rfl) ?_
      refine qI (i := 15) rfl (by decide +kernel) (wD rfl hA3 rfl rfl rfl (by simp) (by simp)) ?_
      refine wE (i := 16) rfl (by decide +kernel) ?_
      refine wL (v := .int .i64 _) rfl rfl ((hc3) 0 _ rfl) ?_
      refine qI (i := 17) rfl (by decide +kernel) (zC (zc := [_, _, _, _]) (vs := [(0, .int .i64 _), (1, .int .i64 _), (2, .int .i64 _), (3, .int .i64 _)]) (cs := [_, _, _, _]) rfl rfl rfl rfl rfl rfl) ?_
      refine dw_eff (i := 18) rfl (by decide +kernel) ?_
      refine qX (zc := [_, _, _, _]) (vs := [(0, .agg #[.int .i64 _, .int .i64 _, .int .i64 _, .int .i64 _])]) (cs := [_, _, _, _]) rfl rfl rfl rfl rfl rfl rfl fun b83 hb83 => ?_
      refine ⟨ext_new hb83 _, ?_⟩
      refine wN [_, _, _, _, _, _] rfl ?_
      refine wV (i := 19) rfl (by decide +kernel) (by decide +kernel) ?_
      refine zA 3 AM.l rfl rfl rfl (fun V => rdP V (i := 5) rfl) rfl rfl rfl rfl rfl rfl rfl rfl rfl (by omega) rfl (by rw [wU (m := 4) (fun _ _ => rfl)]; simp only [List.length_cons, List.length_nil]; omega) fun a2 h3a E3a ha2 => ?_
      refine wN [_, _, _, _, _, _] rfl ?_
      refine qI (i := 20) rfl (by decide +kernel) (qK (v := .pointer (some ⟨bm, 0, none⟩)) rfl) ?_
      refine qI (i := 21) rfl (by decide +kernel) (qG rfl rfl rfl rfl 7 rfl) ?_
      refine wV (i := 22) rfl (by decide +kernel) (by decide +kernel) ?_
      refine qY 0 (v := .slice _ _ _) (vs := [_]) (c' := [_, _, _, _, _, _, _, _, _]) rfl rfl rfl rfl rfl rfl rfl rfl rfl ?_
      refine wN [_, _, _, _, _, _] rfl ?_
      refine zI rfl ?_
      refine qE ?_
      refine qB rfl ?_
      refine qA (qC (v := .bool _) rfl) ?_
      refine qA (qD (v := .bool _) rfl) ?_
      refine qQ ?_
      refine qM (vs := [_]) Tryz.results36 ⟨qJ rfl rfl, trivial⟩ fun V => ?_
      obtain ⟨h9, E9, e9, V9⟩ := wl_drop [_] [_, _, _, _, _] V
      refine ⟨h9, _, e9, V9, zL (zL E2 E3a) E9, rfl, ⟨x.aB, x.aQ, a2, x.aW⟩, by rw [e1]; rfl, ?_⟩
      rw [e1]
      exact ⟨AM.b, AM.q, by show AccR _ 4 ((m.links ++ [_]).flatMap linkC) a2; rw [List.flatMap_append]; exact ha2, AM.w⟩
    ·skip
     have e0 : numsR (2) 4 ws = none := by simpa using hi
     have e1 : numsR (belR [76]) (kindR [76]).2 ws = none := e0
     refine qO ?_
     refine qE ?_
     refine qB rfl ?_
     refine qA (qC (v := .bool _) rfl) ?_
     refine qA (qD (v := .bool _) rfl) ?_
     refine qQ ?_
     refine qM (vs := [_]) Tryz.results36 ⟨qJ rfl rfl, trivial⟩ fun V => ?_
     exact ⟨_, _, rfl, V, E2, rfl, x, by rw [e1], by rw [e1]; exact AM⟩
   ·skip
    have n76 : ¬ w = [76] := of_decide_eq_false h76
    refine qE ?_
    refine qB rfl ?_
    refine qA (pv_streq rfl rfl) ?_
    refine qA (qD (v := .bool _) rfl) ?_
    refine qP rfl (fun h87 => ?_) (fun h87 => ?_)
    ·skip
     have hw' : w = [87] := of_decide_eq_true h87
     subst hw'
     refine qE ?_
     refine qB rfl ?_
     refine qA (qC (v := .slice _ _ _) rfl) ?_
     refine wJ (caps := []) (vs := [.slice _ _ _, .int .i64 _, .int .i64 _]) rfl rfl rfl (numbers_ok ws 1 (-1) A c h (R.ext (Ext.refl _)) (PW.ext (Ext.refl _)) (ER.ext (Ext.refl _)) hw hl (by decide) (by decide)) ?_
     rintro _ h2 E2 ⟨A2, n2, c2, rfl, hR⟩
     refine qA (qC (v := .tuple #[.slice _ _ _, .bool _]) rfl) ?_
     refine qA (qK (v := .slice _ _ _) rfl) ?_
     refine qA (qK (v := .bool _) rfl) ?_
     refine qA (qD (v := .slice _ _ _) rfl) ?_
     refine qA (qD (v := .bool _) rfl) ?_
     refine qE ?_
     refine qB rfl ?_
     refine qA (qC (v := .bool _) rfl) ?_
     refine qP rfl (fun hi => ?_) (fun hi => ?_)
     ·skip
      obtain ⟨l, hnl⟩ := Option.isSome_iff_exists.1 hi
      obtain ⟨rfl, RA⟩ := hR l hnl
      have hll : l.length = 1 := by
       unfold numsR at hnl
       split at hnl
       ·rename_i hlen; rw [numsFrom_len hnl, hlen]
       ·cases hnl
      have e1 : numsR (belR [87]) (kindR [87]).2 ws = some l := hnl
      match l, hll with
      | [a], _ =>
       obtain ⟨g0, f0, hA0, hc0⟩ := RA.at (by decide) (i := 0) (by simp)
       refine xp_dw [] rfl rfl rfl ?_
       refine qI (i := 0) rfl (by decide +kernel) (qC (v := .pointer (some ⟨bm, 0, none⟩)) rfl) ?_
       refine qI (i := 1) rfl (by decide +kernel) (qC (v := .pointer (some ⟨bm, 0, none⟩)) rfl) ?_
       refine qI (i := 2) rfl (by decide +kernel) (qK (v := .pointer (some ⟨bm, 0, none⟩)) rfl) ?_
       refine qI (i := 3) rfl (by decide +kernel) (qG rfl rfl rfl rfl 8 rfl) ?_
       refine wE (i := 4) rfl (by decide +kernel) ?_
       refine qL 0 (v := .slice _ _ _) rfl rfl rfl rfl ?_
       refine qI (i := 5) rfl (by decide +kernel) (qC (v := .slice _ _ _) rfl) ?_
       refine qI (i := 6) rfl (by decide +kernel) (wD rfl hA0 rfl rfl rfl (by simp) (by simp)) ?_
       refine wE (i := 7) rfl (by decide +kernel) ?_
       refine wL (v := .int .i64 _) rfl rfl ((hc0) 0 _ rfl) ?_
       refine dw_eff (i := 8) rfl (by decide +kernel) ?_
       refine qX (zc := [_]) (vs := [(0, .int .i64 _)]) (cs := [_]) rfl rfl rfl rfl rfl rfl rfl fun b103 hb103 => ?_
       refine ⟨ext_new hb103 _, ?_⟩
       refine wN [_, _, _, _, _, _] rfl ?_
       refine wV (i := 9) rfl (by decide +kernel) (by decide +kernel) ?_
       refine zA 4 AM.w rfl rfl rfl (fun V => rdP V (i := 5) rfl) rfl rfl rfl rfl rfl rfl rfl rfl rfl (by omega) rfl (by rw [wU (m := 1) (fun _ _ => rfl)]; simp only [List.length_cons, List.length_nil]; omega) fun a2 h4a E4a ha2 => ?_
       refine wN [_, _, _, _, _, _] rfl ?_
       refine qI (i := 10) rfl (by decide +kernel) (qK (v := .pointer (some ⟨bm, 0, none⟩)) rfl) ?_
       refine qI (i := 11) rfl (by decide +kernel) (qG rfl rfl rfl rfl 8 rfl) ?_
       refine wV (i := 12) rfl (by decide +kernel) (by decide +kernel) ?_
       refine qY 0 (v := .slice _ _ _) (vs := [_]) (c' := [_, _, _, _, _, _, _, _, _]) rfl rfl rfl rfl rfl rfl rfl rfl rfl ?_
       refine wN [_, _, _, _, _, _] rfl ?_
       refine zI rfl ?_
       refine qE ?_
       refine qB rfl ?_
       refine qA (qC (v := .bool _) rfl) ?_
       refine qA (qD (v := .bool _) rfl) ?_
       refine qQ ?_
       refine qM (vs := [_]) Tryz.results36 ⟨qJ rfl rfl, trivial⟩ fun V => ?_
       obtain ⟨h9, E9, e9, V9⟩ := wl_drop [_] [_, _, _, _, _] V
       refine ⟨h9, _, e9, V9, zL (zL E2 E4a) E9, rfl, ⟨x.aB, x.aQ, x.aL, a2⟩, by rw [e1]; rfl, ?_⟩
       rw [e1]
       exact ⟨AM.b, AM.q, AM.l, by show AccR _ 1 ((m.weights ++ [_]).flatMap intC) a2; rw [List.flatMap_append]; exact ha2⟩
     ·skip
      have e0 : numsR (-1) 1 ws = none := by simpa using hi
      have e1 : numsR (belR [87]) (kindR [87]).2 ws = none := e0
      refine qO ?_
      refine qE ?_
      refine qB rfl ?_
      refine qA (qC (v := .bool _) rfl) ?_
      refine qA (qD (v := .bool _) rfl) ?_
      refine qQ ?_
      refine qM (vs := [_]) Tryz.results36 ⟨qJ rfl rfl, trivial⟩ fun V => ?_
      exact ⟨_, _, rfl, V, E2, rfl, x, by rw [e1], by rw [e1]; exact AM⟩
    ·skip
     have n87 : ¬ w = [87] := of_decide_eq_false h87
     refine qE ?_
     refine qB rfl ?_
     refine qA (pv_streq rfl rfl) ?_
     refine qA (qD (v := .bool _) rfl) ?_
     refine qP rfl (fun h69 => ?_) (fun h69 => ?_)
     ·skip
      have hw' : w = [69] := of_decide_eq_true h69
      subst hw'
      refine qB rfl ?_
      refine qA (qC (v := .slice _ _ _) rfl) ?_
      refine wJ (caps := []) (vs := [.slice _ _ _, .int .i64 _, .int .i64 _]) rfl rfl rfl (numbers_ok ws 0 (-1) A c h (R.ext (Ext.refl _)) (PW.ext (Ext.refl _)) (ER.ext (Ext.refl _)) hw hl (by decide) (by decide)) ?_
      rintro _ h2 E2 ⟨A2, n2, c2, rfl, hR⟩
      refine qA (qC (v := .tuple #[.slice _ _ _, .bool _]) rfl) ?_
      refine qA (qK (v := .slice _ _ _) rfl) ?_
      refine qA (qK (v := .bool _) rfl) ?_
      refine qA (qD (v := .bool _) rfl) ?_
      refine qE ?_
      refine qB rfl ?_
      refine qA (qC (v := .bool _) rfl) ?_
      refine qA (qD (v := .bool _) rfl) ?_
      refine qQ ?_
      refine qM (vs := [_]) Tryz.results36 ⟨qJ rfl rfl, trivial⟩ fun V => ?_
      have hm : (match numsR (belR [69]) (kindR [69]).2 ws with | some l => takeM m (kindR [69]).1 l | none => m) = m := by
       cases q : numsR (belR [69]) (kindR [69]).2 ws with
       | none => rfl
       | some l =>
        have hll : l.length = 0 := by
         unfold numsR at q
         split at q
         ·rename_i hlen; rw [numsFrom_len q, hlen]; rfl
         ·cases q
        rw [List.eq_nil_of_length_eq_zero hll]
        rfl
      exact ⟨_, _, rfl, V, E2, rfl, x, by rw [hm], by rw [hm]; exact AM⟩
     ·skip
      exfalso
      have n69 : ¬ w = [69] := of_decide_eq_false h69
      unfold kindR at hkd
      by_cases q : w = [77]
      ·rw [if_pos q] at hkd; exact absurd hkd (by decide)
      ·rw [if_neg q, if_neg n66, if_neg n80, if_neg n76, if_neg n87, if_neg n69] at hkd
       exact absurd hkd (by decide)
end
end Go.Proofs.YtmpahfdiebhdbaaGreatDoor
namespace Go.Proofs.YtmpahfdiebhdbaaGreatDoor
open Go Go.HL Go.Proofs Go.Wx Go.Rd
section
variable [Lvl]
set_option maxRecDepth 100000
set_option maxHeartbeats 2000000 in
theorem takeR_ok (bm : Nat) (m : MachP) (x : MAcc) (w : List UInt8) (l : List Int) (A : Option Addr) (c k : Nat) (h : AH) (RA : Row h 1 intC A l) (AM : AccM m x) (LM : LenM m k) (hk : k < 2 ^ 18) (hkd : 0 ≤ (kindR w).1) (hll : l.length = (kindR w).2) :
  FnM Tryz.prog (.func (.func 40) #[] ([] : List Value).toArray) [.pointer (some ⟨bm, 0, none⟩), .string (bs w), .slice A l.length c] h (mPv bm m x)
  (fun v h' M' => ∃ x', M' = mPv bm (takeM m (kindR w).1 l) x' ∧ AccM (takeM m (kindR w).1 l) x') := by
 have lb := LM.b
 have lq := LM.q
 have ll := LM.l
 have lw := LM.w
 refine fnM_body rfl rfl Tryz.func40 rfl Tryz.ntmps40 rfl ?_
 refine qE ?_
 refine qB rfl ?_
 refine qA (qC (v := .string _) rfl) ?_
 refine qT ?_
 refine qE ?_
 refine qB rfl ?_
 refine qA (pv_streq rfl rfl) ?_
 refine qA (qD (v := .bool _) rfl) ?_
 refine qP rfl (fun h77 => ?_) (fun h77 => ?_)
 ·skip
  have hw' : w = [77] := of_decide_eq_true h77
  subst hw'
  match l, hll with
  | [n0, n1, n2, n3, n4], _ =>
   obtain ⟨g0, f0, hA0, hc0⟩ := RA.at (by decide) (i := 0) (by simp)
   obtain ⟨g1, f1, hA1, hc1⟩ := RA.at (by decide) (i := 1) (by simp)
   obtain ⟨g2, f2, hA2, hc2⟩ := RA.at (by decide) (i := 2) (by simp)
   obtain ⟨g3, f3, hA3, hc3⟩ := RA.at (by decide) (i := 3) (by simp)
   obtain ⟨g4, f4, hA4, hc4⟩ := RA.at (by decide) (i := 4) (by simp)
   refine xp_dw [] rfl rfl rfl ?_
   refine qI (i := 0) rfl (by decide +kernel) (qC (v := .pointer (some ⟨bm, 0, none⟩)) rfl) ?_
   refine qI (i := 1) rfl (by decide +kernel) (qC (v := .pointer (some ⟨bm, 0, none⟩)) rfl) ?_
   refine qI (i := 2) rfl (by decide +kernel) (qC (v := .pointer (some ⟨bm, 0, none⟩)) rfl) ?_
   refine qI (i := 3) rfl (by decide +kernel) (qC (v := .pointer (some ⟨bm, 0, none⟩)) rfl) ?_
   refine qI (i := 4) rfl (by decide +kernel) (qC (v := .pointer (some ⟨bm, 0, none⟩)) rfl) ?_
   refine qI (i := 5) rfl (by decide +kernel) (qC (v := .slice _ _ _) rfl) ?_
   refine qI (i := 6) rfl (by decide +kernel) (wD rfl hA0 rfl rfl rfl (by simp) (by simp)) ?_
   refine wE (i := 7) rfl (by decide +kernel) ?_
   refine wL (v := .int .i64 _) rfl rfl ((hc0) 0 _ rfl) ?_
   refine qI (i := 8) rfl (by decide +kernel) (qC (v := .slice _ _ _) rfl) ?_
   refine qI (i := 9) rfl (by decide +kernel) (wD rfl hA1 rfl rfl rfl (by simp) (by simp)) ?_
   refine wE (i := 10) rfl (by decide +kernel) ?_
   refine wL (v := .int .i64 _) rfl rfl ((hc1) 0 _ rfl) ?_
   refine qI (i := 11) rfl (by decide +kernel) (qC (v := .slice _ _ _) rfl) ?_
   refine qI (i := 12) rfl (by decide +kernel) (wD rfl hA2 rfl rfl rfl (by simp) (by simp)) ?_
   refine wE (i := 13) rfl (by decide +kernel) ?_
   refine wL (v := .int .i64 _) rfl rfl ((hc2) 0 _ rfl) ?_
   refine qI (i := 14) rfl (by decide +kernel) (qC (v := .slice _ _ _) rfl) ?_
   refine qI (i := 15) rfl (by decide +kernel) (wD rfl hA3 rfl rfl rfl (by simp) (by simp)) ?_
   refine wE (i := 16) rfl (by decide +kernel) ?_
   refine wL (v := .int .i64 _) rfl rfl ((hc3) 0 _ rfl) ?_
   refine qI (i := 17) rfl (by decide +kernel) (qC (v := .slice _ _ _) rfl) ?_
   refine qI (i := 18) rfl (by decide +kernel) (wD rfl hA4 rfl rfl rfl (by simp) (by simp)) ?_
   refine wE (i := 19) rfl (by decide +kernel) ?_
   refine wL (v := .int .i64 _) rfl rfl ((hc4) 0 _ rfl) ?_
   refine qI (i := 20) rfl (by decide +kernel) (qK (v := .pointer (some ⟨bm, 0, none⟩)) rfl) ?_
   refine qI (i := 21) rfl (by decide +kernel) (qG rfl rfl rfl rfl 0 rfl) ?_
   refine wV (i := 22) rfl (by decide +kernel) (by decide +kernel) ?_
   refine qY 0 (v := .int .i64 _) (vs := [_]) (c' := [_, _, _, _, _, _, _, _, _]) rfl rfl rfl rfl rfl rfl rfl rfl rfl ?_
   refine wN [_, _, _, _, _] rfl ?_
   refine qI (i := 23) rfl (by decide +kernel) (qK (v := .pointer (some ⟨bm, 0, none⟩)) rfl) ?_
   refine qI (i := 24) rfl (by decide +kernel) (qG rfl rfl rfl rfl 1 rfl) ?_
   refine wV (i := 25) rfl (by decide +kernel) (by decide +kernel) ?_
   refine qY 0 (v := .int .i64 _) (vs := [_]) (c' := [_, _, _, _, _, _, _, _, _]) rfl rfl rfl rfl rfl rfl rfl rfl rfl ?_
   refine wN [_, _, _, _, _] rfl ?_
   refine qI (i := 26) rfl (by decide +kernel) (qK (v := .pointer (some ⟨bm, 0, none⟩)) rfl) ?_
   refine qI (i := 27) rfl (by decide +kernel) (qG rfl rfl rfl rfl 2 rfl) ?_
   refine wV (i := 28) rfl (by decide +kernel) (by decide +kernel) ?_
   refine qY 0 (v := .int .i64 _) (vs := [_]) (c' := [_, _, _, _, _, _, _, _, _]) rfl rfl rfl rfl rfl rfl rfl rfl rfl ?_
   refine wN [_, _, _, _, _] rfl ?_
   refine qI (i := 29) rfl (by decide +kernel) (qK (v := .pointer (some ⟨bm, 0, none⟩)) rfl) ?_
   refine qI (i := 30) rfl (by decide +kernel) (qG rfl rfl rfl rfl 3 rfl) ?_
   refine wV (i := 31) rfl (by decide +kernel) (by decide +kernel) ?_
   refine qY 0 (v := .int .i64 _) (vs := [_]) (c' := [_, _, _, _, _, _, _, _, _]) rfl rfl rfl rfl rfl rfl rfl rfl rfl ?_
   refine wN [_, _, _, _, _] rfl ?_
   refine qI (i := 32) rfl (by decide +kernel) (qK (v := .pointer (some ⟨bm, 0, none⟩)) rfl) ?_
   refine qI (i := 33) rfl (by decide +kernel) (qG rfl rfl rfl rfl 4 rfl) ?_
   refine wV (i := 34) rfl (by decide +kernel) (by decide +kernel) ?_
   refine qY 0 (v := .int .i64 _) (vs := [_]) (c' := [_, _, _, _, _, _, _, _, _]) rfl rfl rfl rfl rfl rfl rfl rfl rfl ?_
   refine wN [_, _, _, _, _] rfl ?_
   refine zI rfl ?_
   refine qM (vs := []) Tryz.results40 trivial fun V => ?_
   exact ⟨_, _, rfl, V, (Ext.refl _), x, rfl, ⟨AM.b, AM.q, AM.l, AM.w⟩⟩
 ·skip
  have n77 : ¬ w = [77] := of_decide_eq_false h77
  refine qE ?_
  refine qB rfl ?_
  refine qA (pv_streq rfl rfl) ?_
  refine qA (qD (v := .bool _) rfl) ?_
  refine qP rfl (fun h66 => ?_) (fun h66 => ?_)
  ·skip
   have hw' : w = [66] := of_decide_eq_true h66
   subst hw'
   match l, hll with
   | [a], _ =>
    obtain ⟨g0, f0, hA0, hc0⟩ := RA.at (by decide) (i := 0) (by simp)
    refine xp_dw [] rfl rfl rfl ?_
    refine qI (i := 0) rfl (by decide +kernel) (qC (v := .pointer (some ⟨bm, 0, none⟩)) rfl) ?_
    refine qI (i := 1) rfl (by decide +kernel) (qC (v := .pointer (some ⟨bm, 0, none⟩)) rfl) ?_
    refine qI (i := 2) rfl (by decide +kernel) (qK (v := .pointer (some ⟨bm, 0, none⟩)) rfl) ?_
    refine qI (i := 3) rfl (by decide +kernel) (qG rfl rfl rfl rfl 5 rfl) ?_
    refine wE (i := 4) rfl (by decide +kernel) ?_
    refine qL 0 (v := .slice _ _ _) rfl rfl rfl rfl ?_
    refine qI (i := 5) rfl (by decide +kernel) (qC (v := .slice _ _ _) rfl) ?_
    refine qI (i := 6) rfl (by decide +kernel) (wD rfl hA0 rfl rfl rfl (by simp) (by simp)) ?_
    refine wE (i := 7) rfl (by decide +kernel) ?_
    refine wL (v := .int .i64 _) rfl rfl ((hc0) 0 _ rfl) ?_
    refine dw_eff (i := 8) rfl (by decide +kernel) ?_
    refine qX (zc := [_]) (vs := [(0, .int .i64 _)]) (cs := [_]) rfl rfl rfl rfl rfl rfl rfl fun b49 hb49 => ?_
    refine ⟨ext_new hb49 _, ?_⟩
    refine wN [_, _, _, _, _, _] rfl ?_
    refine wV (i := 9) rfl (by decide +kernel) (by decide +kernel) ?_
    refine zA 1 AM.b rfl rfl rfl (fun V => rdP V (i := 5) rfl) rfl rfl rfl rfl rfl rfl rfl rfl rfl (by omega) rfl (by rw [wU (m := 1) (fun _ _ => rfl)]; simp only [List.length_cons, List.length_nil]; omega) fun a2 h1a E1a ha2 => ?_
    refine wN [_, _, _, _, _, _] rfl ?_
    refine qI (i := 10) rfl (by decide +kernel) (qK (v := .pointer (some ⟨bm, 0, none⟩)) rfl) ?_
    refine qI (i := 11) rfl (by decide +kernel) (qG rfl rfl rfl rfl 5 rfl) ?_
    refine wV (i := 12) rfl (by decide +kernel) (by decide +kernel) ?_
    refine qY 0 (v := .slice _ _ _) (vs := [_]) (c' := [_, _, _, _, _, _, _, _, _]) rfl rfl rfl rfl rfl rfl rfl rfl rfl ?_
    refine wN [_, _, _, _, _, _] rfl ?_
    refine zI rfl ?_
    refine qM (vs := []) Tryz.results40 trivial fun V => ?_
    obtain ⟨h9, E9, e9, V9⟩ := wl_drop [_] [_, _, _, _, _] V
    refine ⟨h9, _, e9, V9, zL E1a E9, ⟨a2, x.aQ, x.aL, x.aW⟩, rfl, ?_⟩
    exact ⟨by show AccR _ 1 ((m.buttons ++ [_]).flatMap intC) a2; rw [List.flatMap_append]; exact ha2, AM.q, AM.l, AM.w⟩
  ·skip
   have n66 : ¬ w = [66] := of_decide_eq_false h66
   refine qE ?_
   refine qB rfl ?_
   refine qA (pv_streq rfl rfl) ?_
   refine qA (qD (v := .bool _) rfl) ?_
   refine qP rfl (fun h80 => ?_) (fun h80 => ?_)
   ·skip
    have hw' : w = [80] := of_decide_eq_true h80
    subst hw'
    match l, hll with
    | [a, b, c], _ =>
     obtain ⟨g0, f0, hA0, hc0⟩ := RA.at (by decide) (i := 0) (by simp)
     obtain ⟨g1, f1, hA1, hc1⟩ := RA.at (by decide) (i := 1) (by simp)
     obtain ⟨g2, f2, hA2, hc2⟩ := RA.at (by decide) (i := 2) (by simp)
     refine xp_dw [] rfl rfl rfl ?_
     refine qI (i := 0) rfl (by decide +kernel) (qC (v := .pointer (some ⟨bm, 0, none⟩)) rfl) ?_
     refine qI (i := 1) rfl (by decide +kernel) (qC (v := .pointer (some ⟨bm, 0, none⟩)) rfl) ?_
     refine qI (i := 2) rfl (by decide +kernel) (qK (v := .pointer (some ⟨bm, 0, none⟩)) rfl) ?_
     refine qI (i := 3) rfl (by decide +kernel) (qG rfl rfl rfl rfl 6 rfl) ?_
     refine wE (i := 4) rfl (by decide +kernel) ?_
     refine qL 0 (v := .slice _ _ _) rfl rfl rfl rfl ?_
     refine qI (i := 5) rfl (by decide +kernel) (qC (v := .slice _ _ _) rfl) ?_
     refine qI (i := 6) rfl (by decide +kernel) (wD rfl hA0 rfl rfl rfl (by simp) (by simp)) ?_
     refine wE (i := 7) rfl (by decide +kernel) ?_
     refine wL (v := .int .i64 _) rfl rfl ((hc0) 0 _ rfl) ?_
     refine qI (i := 8) rfl (by decide +kernel) (qC (v := .slice _ _ _) rfl) ?_
     refine qI (i := 9) rfl (by decide +kernel) (wD rfl hA1 rfl rfl rfl (by simp) (by simp)) ?_
     refine wE (i := 10) rfl (by decide +kernel) ?_
     refine wL (v := .int .i64 _) rfl rfl ((hc1) 0 _ rfl) ?_
     refine qI (i := 11) rfl (by decide +kernel) (qC (v := .slice _ _ _) rfl) ?_
     refine qI (i := 12) rfl (by decide +kernel) (wD rfl hA2 rfl rfl rfl (by simp) (by simp)) ?_
     refine wE (i := 13) rfl (by decide +kernel) ?_
     refine wL (v := .int .i64 _) rfl rfl ((hc2) 0 _ rfl) ?_
     refine qI (i := 14) rfl (by decide +kernel) (zC (zc := [_, _, _]) (vs := [(0, .int .i64 _), (1, .int .i64 _), (2, .int .i64 _)]) (cs := [_, _, _]) rfl rfl rfl rfl rfl rfl) ?_
     refine dw_eff (i := 15) rfl (by decide +kernel) ?_
     refine qX (zc := [_, _, _]) (vs := [(0, .agg #[.int .i64 _, .int .i64 _, .int .i64 _])]) (cs := [_, _, _]) rfl rfl rfl rfl rfl rfl rfl fun b70 hb70 => ?_
     refine ⟨ext_new hb70 _, ?_⟩
     refine wN [_, _, _, _, _, _] rfl ?_
     refine wV (i := 16) rfl (by decide +kernel) (by decide +kernel) ?_
     refine zA 2 AM.q rfl rfl rfl (fun V => rdP V (i := 5) rfl) rfl rfl rfl rfl rfl rfl rfl rfl rfl (by omega) rfl (by rw [wU (m := 3) (fun _ _ => rfl)]; simp only [List.length_cons, List.length_nil]; omega) fun a2 h2a E2a ha2 => ?_
     refine wN [_, _, _, _, _, _] rfl ?_
     refine qI (i := 17) rfl (by decide +kernel) (qK (v := .pointer (some ⟨bm, 0, none⟩)) rfl) ?_
     refine qI (i := 18) rfl (by decide +kernel) (qG rfl rfl rfl rfl 6 rfl) ?_
     refine wV (i := 19) rfl (by decide +kernel) (by decide +kernel) ?_
     refine qY 0 (v := .slice _ _ _) (vs := [_]) (c' := [_, _, _, _, _, _, _, _, _]) rfl rfl rfl rfl rfl rfl rfl rfl rfl ?_
     refine wN [_, _, _, _, _, _] rfl ?_
     refine zI rfl ?_
     refine qM (vs := []) Tryz.results40 trivial fun V => ?_
     obtain ⟨h9, E9, e9, V9⟩ := wl_drop [_] [_, _, _, _, _] V
     refine ⟨h9, _, e9, V9, zL E2a E9, ⟨x.aB, a2, x.aL, x.aW⟩, rfl, ?_⟩
     exact ⟨AM.b, by show AccR _ 3 ((m.pins ++ [_]).flatMap pinC) a2; rw [List.flatMap_append]; exact ha2, AM.l, AM.w⟩
   ·skip
    have n80 : ¬ w = [80] := of_decide_eq_false h80
    refine qE ?_
    refine qB rfl ?_
    refine qA (pv_streq rfl rfl) ?_
    refine qA (qD (v := .bool _) rfl) ?_
    refine qP rfl (fun h76 => ?_) (fun h76 => ?_)
    ·skip
     have hw' : w = [76] := of_decide_eq_true h76
     subst hw'
     match l, hll with
     | [a, b, c, d], _ =>
      obtain ⟨g0, f0, hA0, hc0⟩ := RA.at (by decide) (i := 0) (by simp)
      obtain ⟨g1, f1, hA1, hc1⟩ := RA.at (by decide) (i := 1) (by simp)
      obtain ⟨g2, f2, hA2, hc2⟩ := RA.at (by decide) (i := 2) (by simp)
      obtain ⟨g3, f3, hA3, hc3⟩ := RA.at (by decide) (i := 3) (by simp)
      refine xp_dw [] rfl rfl rfl ?_
      refine qI (i := 0) rfl (by decide +kernel) (qC (v := .pointer (some ⟨bm, 0, none⟩)) rfl) ?_
      refine qI (i := 1) rfl (by decide +kernel) (qC (v := .pointer (some ⟨bm, 0, none⟩)) rfl) ?_
      refine qI (i := 2) rfl (by decide +kernel) (qK (v := .pointer (some ⟨bm, 0, none⟩)) rfl) ?_
      refine qI (i := 3) rfl (by decide +kernel) (qG rfl rfl rfl rfl 7 rfl) ?_
      refine wE (i := 4) rfl (by decide +kernel) ?_
      refine qL 0 (v := .slice _ _ _) rfl rfl rfl rfl ?_
      refine qI (i := 5) rfl (by decide +kernel) (qC (v := .slice _ _ _) rfl) ?_
      refine qI (i := 6) rfl (by decide +kernel) (wD rfl hA0 rfl rfl rfl (by simp) (by simp)) ?_
      refine wE (i := 7) rfl (by decide +kernel) ?_
      refine wL (v := .int .i64 _) rfl rfl ((hc0) 0 _ rfl) ?_
      refine qI (i := 8) rfl (by decide +kernel) (qC (v := .slice _ _ _) rfl) ?_
      refine qI (i := 9) rfl (by decide +kernel) (wD rfl hA1 rfl rfl rfl (by simp) (by simp)) ?_
      refine wE (i := 10) rfl (by decide +kernel) ?_
      refine wL (v := .int .i64 _) rfl rfl ((hc1) 0 _ rfl) ?_
      refine qI (i := 11) rfl (by decide +kernel) (qC (v := .slice _ _ _) rfl) ?_
      refine qI (i := 12) rfl (by decide +kernel) (wD rfl hA2 rfl rfl rfl (by simp) (by simp)) ?_
      refine wE (i := 13) rfl (by decide +kernel) ?_
      refine wL (v := .int .i64 _) rfl rfl ((hc2) 0 _ rfl) ?_
      refine qI (i := 14) rfl (by decide +kernel) (qC (v := .slice _ _ _) rfl) ?_
      refine qI (i := 15) rfl (by decide +kernel) (wD rfl hA3 rfl rfl rfl (by simp) (by simp)) ?_
      refine wE (i := 16) rfl (by decide +kernel) ?_
      refine wL (v := .int .i64 _) rfl rfl ((hc3) 0 _ rfl) ?_
      refine qI (i := 17) rfl (by decide +kernel) (zC (zc := [_, _, _, _]) (vs := [(0, .int .i64 _), (1, .int .i64 _), (2, .int .i64 _), (3, .int .i64 _)]) (cs := [_, _, _, _]) rfl rfl rfl rfl rfl rfl) ?_
      refine dw_eff (i := 18) rfl (by decide +kernel) ?_
      refine qX (zc := [_, _, _, _]) (vs := [(0, .agg #[.int .i64 _, .int .i64 _, .int .i64 _, .int .i64 _])]) (cs := [_, _, _, _]) rfl rfl rfl rfl rfl rfl rfl fun b94 hb94 => ?_
      refine ⟨ext_new hb94 _, ?_⟩
      refine wN [_, _, _, _, _, _] rfl ?_
      refine wV (i := 19) rfl (by decide +kernel) (by decide +kernel) ?_
      refine zA 3 AM.l rfl rfl rfl (fun V => rdP V (i := 5) rfl) rfl rfl rfl rfl rfl rfl rfl rfl rfl (by omega) rfl (by rw [wU (m := 4) (fun _ _ => rfl)]; simp only [List.length_cons, List.length_nil]; omega) fun a2 h3a E3a ha2 => ?_
      refine wN [_, _, _, _, _, _] rfl ?_
      refine qI (i := 20) rfl (by decide +kernel) (qK (v := .pointer (some ⟨bm, 0, none⟩)) rfl) ?_
      refine qI (i := 21) rfl (by decide +kernel) (qG rfl rfl rfl rfl 7 rfl) ?_
      refine wV (i := 22) rfl (by decide +kernel) (by decide +kernel) ?_
      refine qY 0 (v := .slice _ _ _) (vs := [_]) (c' := [_, _, _, _, _, _, _, _, _]) rfl rfl rfl rfl rfl rfl rfl rfl rfl ?_
      refine wN [_, _, _, _, _, _] rfl ?_
      refine zI rfl ?_
      refine qM (vs := []) Tryz.results40 trivial fun V => ?_
      obtain ⟨h9, E9, e9, V9⟩ := wl_drop [_] [_, _, _, _, _] V
      refine ⟨h9, _, e9, V9, zL E3a E9, ⟨x.aB, x.aQ, a2, x.aW⟩, rfl, ?_⟩
      exact ⟨AM.b, AM.q, by show AccR _ 4 ((m.links ++ [_]).flatMap linkC) a2; rw [List.flatMap_append]; exact ha2, AM.w⟩
    ·skip
     have n76 : ¬ w = [76] := of_decide_eq_false h76
     refine qE ?_
     refine qB rfl ?_
     refine qA (pv_streq rfl rfl) ?_
     refine qA (qD (v := .bool _) rfl) ?_
     refine qP rfl (fun h87 => ?_) (fun h87 => ?_)
     ·skip
      have hw' : w = [87] := of_decide_eq_true h87
      subst hw'
      match l, hll with
      | [a], _ =>
       obtain ⟨g0, f0, hA0, hc0⟩ := RA.at (by decide) (i := 0) (by simp)
       refine xp_dw [] rfl rfl rfl ?_
       refine qI (i := 0) rfl (by decide +kernel) (qC (v := .pointer (some ⟨bm, 0, none⟩)) rfl) ?_
       refine qI (i := 1) rfl (by decide +kernel) (qC (v := .pointer (some ⟨bm, 0, none⟩)) rfl) ?_
       refine qI (i := 2) rfl (by decide +kernel) (qK (v := .pointer (some ⟨bm, 0, none⟩)) rfl) ?_
       refine qI (i := 3) rfl (by decide +kernel) (qG rfl rfl rfl rfl 8 rfl) ?_
       refine wE (i := 4) rfl (by decide +kernel) ?_
       refine qL 0 (v := .slice _ _ _) rfl rfl rfl rfl ?_
       refine qI (i := 5) rfl (by decide +kernel) (qC (v := .slice _ _ _) rfl) ?_
       refine qI (i := 6) rfl (by decide +kernel) (wD rfl hA0 rfl rfl rfl (by simp) (by simp)) ?_
       refine wE (i := 7) rfl (by decide +kernel) ?_
       refine wL (v := .int .i64 _) rfl rfl ((hc0) 0 _ rfl) ?_
       refine dw_eff (i := 8) rfl (by decide +kernel) ?_
       refine qX (zc := [_]) (vs := [(0, .int .i64 _)]) (cs := [_]) rfl rfl rfl rfl rfl rfl rfl fun b108 hb108 => ?_
       refine ⟨ext_new hb108 _, ?_⟩
       refine wN [_, _, _, _, _, _] rfl ?_
       refine wV (i := 9) rfl (by decide +kernel) (by decide +kernel) ?_
       refine zA 4 AM.w rfl rfl rfl (fun V => rdP V (i := 5) rfl) rfl rfl rfl rfl rfl rfl rfl rfl rfl (by omega) rfl (by rw [wU (m := 1) (fun _ _ => rfl)]; simp only [List.length_cons, List.length_nil]; omega) fun a2 h4a E4a ha2 => ?_
       refine wN [_, _, _, _, _, _] rfl ?_
       refine qI (i := 10) rfl (by decide +kernel) (qK (v := .pointer (some ⟨bm, 0, none⟩)) rfl) ?_
       refine qI (i := 11) rfl (by decide +kernel) (qG rfl rfl rfl rfl 8 rfl) ?_
       refine wV (i := 12) rfl (by decide +kernel) (by decide +kernel) ?_
       refine qY 0 (v := .slice _ _ _) (vs := [_]) (c' := [_, _, _, _, _, _, _, _, _]) rfl rfl rfl rfl rfl rfl rfl rfl rfl ?_
       refine wN [_, _, _, _, _, _] rfl ?_
       refine zI rfl ?_
       refine qM (vs := []) Tryz.results40 trivial fun V => ?_
       obtain ⟨h9, E9, e9, V9⟩ := wl_drop [_] [_, _, _, _, _] V
       refine ⟨h9, _, e9, V9, zL E4a E9, ⟨x.aB, x.aQ, x.aL, a2⟩, rfl, ?_⟩
       exact ⟨AM.b, AM.q, AM.l, by show AccR _ 1 ((m.weights ++ [_]).flatMap intC) a2; rw [List.flatMap_append]; exact ha2⟩
     ·skip
      have n87 : ¬ w = [87] := of_decide_eq_false h87
      refine qO ?_
      refine qM (vs := []) Tryz.results40 trivial fun V => ?_
      have hw' : w = [69] := by
       unfold kindR at hkd
       rw [if_neg n77, if_neg n66, if_neg n80, if_neg n76, if_neg n87] at hkd
       by_cases q : w = [69]
       ·exact q
       ·rw [if_neg q] at hkd; exact absurd hkd (by decide)
      subst hw'
      obtain rfl : l = [] := List.eq_nil_of_length_eq_zero hll
      exact ⟨_, _, rfl, V, (Ext.refl _), x, rfl, AM⟩
end
end Go.Proofs.YtmpahfdiebhdbaaGreatDoor
namespace Go.Rd
open Go.HL
set_option linter.all false
theorem split_len {c : UInt8} : ∀ {t : List UInt8}, ∀ r ∈ splitL c t, r.length ≤ t.length
 | [], r, hr => by simp [splitL] at hr; subst hr; simp
 | b :: t, r, hr => by
  have ih := @split_len c t
  rw [splitL_cons] at hr
  split at hr
  ·rcases List.mem_cons.1 hr with rfl | hr
   ·simp
   ·have := ih r hr; rw [List.length_cons]; omega
  ·cases h : splitL c t with
   | nil => exact absurd h (splitL_ne c t)
   | cons x xs =>
    rw [h] at hr ih
    rcases List.mem_cons.1 hr with rfl | hr
    ·have := ih x (by simp); rw [List.length_cons, List.length_cons]; omega
    ·have := ih r (by simp [hr]); rw [List.length_cons]; omega
theorem rowR_M {m : MachP} {row : List UInt8} {wr : List (List UInt8)} (hs : splitL 47 row = [77] :: wr) : rowR true (-1) m row = (numsR (-1) 5 wr).map fun l => ((0 : Int), takeM m 0 l) := by
 unfold rowR
 rw [hs]
 show (match numsR (-1) 5 wr with | none => none | some l => if (0 : Int) < -1 ∨ (-1 : Int) = 5 ∨ decide ((0 : Int) = 0) ≠ true then none else some ((0 : Int), takeM m 0 l)) = _
 cases numsR (-1) 5 wr with
 | none => rfl
 | some l =>
  simp only [Option.map_some]
  rw [if_neg (by decide)]
theorem kind_zero {w : List UInt8} (h : (kindR w).1 = 0) : w = [77] := by
 unfold kindR at h
 by_cases w1 : w = [77]
 ·exact w1
 ·rw [if_neg w1] at h
  split at h
  ·exact absurd h (by decide)
  ·split at h
   ·exact absurd h (by decide)
   ·split at h
    ·exact absurd h (by decide)
    ·split at h
     ·exact absurd h (by decide)
     ·split at h
      ·exact absurd h (by decide)
      ·exact absurd h (by decide)
theorem rowR_notM {at_ : Int} {m : MachP} {row w : List UInt8} {wr : List (List UInt8)} (hs : splitL 47 row = w :: wr) (hw : w ≠ [77]) : rowR true at_ m row = none := by
 unfold rowR
 rw [hs]
 simp only
 cases numsR (belR w) (kindR w).2 wr with
 | none => rfl
 | some l =>
  simp only
  rw [if_pos]
  refine .inr (.inr ?_)
  rw [decide_eq_false (fun h => hw (kind_zero h))]
  decide
theorem rowR_rest {at_ : Int} {m : MachP} {row w : List UInt8} {wr : List (List UInt8)} (hs : splitL 47 row = w :: wr) (ha : 0 ≤ at_) : rowR false at_ m row = if (kindR w).1 < at_ ∨ at_ = 5 ∨ (kindR w).1 ≤ 0 then none else (numsR (belR w) (kindR w).2 wr).map fun l => ((kindR w).1, takeM m (kindR w).1 l) := by
 unfold rowR
 rw [hs]
 simp only
 cases numsR (belR w) (kindR w).2 wr with
 | none => simp
 | some l =>
  simp only [Option.map_some]
  by_cases h : (kindR w).1 < at_ ∨ at_ = 5 ∨ (kindR w).1 ≤ 0
  ·rw [if_pos h, if_pos]
   rcases h with h | h | h
   ·exact .inl h
   ·exact .inr (.inl h)
   ·by_cases h0 : (kindR w).1 = 0
    ·exact .inr (.inr (by rw [decide_eq_true h0]; decide))
    ·exact .inl (by omega)
  ·rw [if_neg h, if_neg]
   rintro (h1 | h1 | h1)
   ·exact h (.inl h1)
   ·exact h (.inr (.inl h1))
   ·exact h (.inr (.inr (by
     cases q : decide ((kindR w).1 = 0) with
     | true => have := of_decide_eq_true q; omega
     | false => exact absurd q h1)))
def nowR (w : List UInt8) : Int := if (kindR w).1 ≤ 0 then -1 else (kindR w).1 - 1
theorem now_one (c : UInt8) : idxI c [66, 80, 76, 87, 69] = nowR [c] := u8_all (p := fun c => idxI c [66, 80, 76, 87, 69] = nowR [c]) (by decide +kernel) c
theorem now_no {w : List UInt8} (h : w.length ≠ 1) : nowR w = -1 := by
 have : (kindR w).1 = -1 := by
  unfold kindR
  repeat (rw [if_neg (by rintro rfl; exact h rfl)])
 unfold nowR
 rw [if_pos (by omega)]
theorem kind_rng (w : List UInt8) : -1 ≤ (kindR w).1 ∧ (kindR w).1 ≤ 5 := by
 unfold kindR
 repeat (first | decide | split)
theorem goR_stop {i : Nat} {at_ : Int} {m : MachP} {r : List UInt8} {rs : List (List UInt8)} (h : rowR (decide (i = 0)) at_ m r = none) : goR i at_ m (r :: rs) = (i + 1, at_, m) := by rw [goR_cons, h]
theorem goR_next {i : Nat} {at_ p : Int} {m m2 : MachP} {r : List UInt8} {rs : List (List UInt8)} (h : rowR (decide (i = 0)) at_ m r = some (p, m2)) : goR i at_ m (r :: rs) = goR (i + 1) p m2 rs := by rw [goR_cons, h]
theorem readM_long {t : List UInt8} (h : t.length > 400) : readM t = (m0, 0, 10) := if_pos h
theorem readM_bad {t : List UInt8} (h : ¬ t.length > 400) {k : Nat} {at_ : Int} {m : MachP} (hg : goR 0 (-1) m0 (splitL 10 t).dropLast = (k + 1, at_, m)) : readM t = (m0, ((k + 1 : Nat) : Int), 2) := by
 unfold readM
 rw [if_neg h]
 simp only [hg]
 rw [if_pos (by simp)]
theorem readM_end {t : List UInt8} (h : ¬ t.length > 400) {at_ : Int} {m : MachP} (hg : goR 0 (-1) m0 (splitL 10 t).dropLast = (0, at_, m)) (hb : at_ ≠ 5 ∨ (splitL 10 t).getLast? ≠ some []) : readM t = (m0, ((splitL 10 t).length : Int), 2) := by
 unfold readM
 rw [if_neg h]
 simp only [hg]
 rw [if_neg (by simp), if_pos hb]
theorem readM_chk {t : List UInt8} (h : ¬ t.length > 400) {at_ : Int} {m : MachP} (hg : goR 0 (-1) m0 (splitL 10 t).dropLast = (0, at_, m)) (hb : ¬ (at_ ≠ 5 ∨ (splitL 10 t).getLast? ≠ some [])) (hc : chkM m ≠ 0) : readM t = (m0, 0, chkM m) := by
 unfold readM
 rw [if_neg h]
 simp only [hg]
 rw [if_neg (by simp), if_neg hb, if_pos hc]
theorem readM_ok {t : List UInt8} (h : ¬ t.length > 400) {at_ : Int} {m : MachP} (hg : goR 0 (-1) m0 (splitL 10 t).dropLast = (0, at_, m)) (hb : ¬ (at_ ≠ 5 ∨ (splitL 10 t).getLast? ≠ some [])) (hc : ¬ chkM m ≠ 0) : readM t = (m, 0, 0) := by
 unfold readM
 rw [if_neg h]
 simp only [hg]
 rw [if_neg (by simp), if_neg hb, if_neg hc]
theorem row_tail [Lvl] {h : Go.HL.AH} {A : Option Go.Addr} {w : List UInt8} {wr : List (List UInt8)} {cap : Nat} (R : Go.Wx.Row h 1 strC A (w :: wr)) (hc : wr.length + 1 ≤ cap) : Go.Wx.Row h 1 strC (if cap = 1 then A else A.map (·.add (1 * 1))) wr := by
 refine ⟨fun _ _ => rfl, ?_⟩
 by_cases h1 : cap = 1
 ·have : wr = [] := List.eq_nil_of_length_eq_zero (by omega)
  subst this
  exact Rd.nil _ _
 ·rw [if_neg h1]
  have := rd_drop R.2 1
  exact this
end Go.Rd
namespace Go.HL
open Go
variable [Lvl]
variable {P : Program} {n : Nat} {ops : Array Oper} {i : Nat} {d : Option Tmp} {op : Op} {ty : TypeId} {ps : String} {af : Array Edge} {S : Sl} {L : Pv} {h : AH} {mask : List Bool} {X : Sl → AH → Prop} {dn ac : List Nat}
theorem dw_lastG {j : Nat} {want t : Bool} (hoi : ops[i]? = some ⟨d, op, ty, ps, af, some (j, want)⟩) (hok : okE ops dn i = true) (hl : okL ops dn i = true)
  (ht : ev n S (.tmp (((ops[j]?).bind (·.dst)).getD n)) = .bool t) (hb : t = want) (w : wpL P n ops [⟨d, op, ty, ps, af, none⟩] (fun S' L' h' => Dw P n ops mask X (i :: dn) (i :: ac) S' L' h') (fun _ _ _ _ => False) S L h) : Dw P n ops mask X dn ac S L h := by
 intro V G hG
 unfold okE at hok
 rw [hoi] at hok
 simp only [Bool.and_eq_true] at hok
 obtain ⟨⟨hr, hbl⟩, hap⟩ := hok
 obtain ⟨m, hm⟩ := left_pos hr
 obtain ⟨hi, hdi⟩ := ready_lt hr
 rw [hm]
 refine take_any hoi m dn ac G S (wl h L) (fin_wl V) hm hr ?_ ?_ (fun g hg => (hG g hg).2.1) ?_ ?_
 ·intro x hx
  have := List.all_eq_true.1 hbl x ((el_mem _ _).1 hx)
  simpa using this
 ·intro g hg _
  exact (hG g hg).2.1 _ _ (ext_rm V) (hG g hg).2.2
 ·intro j oj hoj hji hdj hbj
  have hjl : j < ops.size := (Array.getElem?_eq_some_iff.1 hoj).1
  have := List.all_eq_true.1 hap j (by simpa using hjl)
  rw [hoj, hdj, hbj] at this
  simp only [Bool.or_false, Bool.or_eq_true, beq_iff_eq, Bool.and_eq_true, Option.isNone_iff_eq_none] at this
  obtain ⟨⟨h1, h2⟩, h3⟩ := this.resolve_left hji
  exact ⟨h1, h2, h3⟩
 ·refine ⟨some t, by rw [ht]; rfl, fun _ => ?_, fun hn => absurd (congrArg some hb) hn⟩
  show opW P n ⟨d, op, ty, ps, af, none⟩ S (wl h L) _ noE
  refine opW_mono ?_ ?_ (w V)
  ·rintro v H ⟨L', h', rfl, V', hD⟩
   -- the facts that are still asked hold everywhere
   have hdead : ∀ g ∈ G, (∀ H, g.2 H) ∨ ¬ alive ops (i :: ac) g.1 := by
    intro g hg
    rcases (hG g hg).1 with h1 | ⟨h1, h2⟩
    ·exact .inl h1
    ·right
     intro a
     have := List.all_eq_true.1 hl g.1 ((el_mem _ _).1 h2)
     rw [h1] at this
     simp only [Bool.not_true, Bool.false_or] at this
     have := a i this
     simp [zJ] at this
   refine ⟨fun g hg a => ((hdead g hg).resolve_right (fun n => n a)) _, ?_⟩
   have hall : ∀ (m : Nat) (dn' ac' : List Nat) (S' : Sl) (H' : AH), (∀ k, el k (i :: ac) = true → el k ac' = true) → WG P n ops m dn' ac' [] X S' H' → WG P n ops m dn' ac' G X S' H' := by
    intro m
    induction m with
    | zero => intro dn' ac' S' H' _ w; exact w
    | succ m ih =>
     intro dn' ac' S' H' hsub w j oj hoj hrj
     refine T1_mono (fun S2 H2 y => ⟨fun g hg a => ?_, ih _ _ _ _ (fun k hk => by simp [zJ, hsub k hk]) y.2⟩) (w j oj hoj hrj)
     exact ((hdead g hg).resolve_right (fun n => n (alive_less (fun k hk => by simp [zJ, hsub k hk]) a))) _
   have := hD V' [] (fun g hg => by cases hg)
   rw [left_cons hi hdi hm] at this
   exact hall m _ _ _ _ (fun _ h => h) this
  ·rintro v H ⟨L', h', rfl, V', y⟩; exact y
end Go.HL
namespace Go.Proofs.YtmpahfdiebhdbaaGreatDoor
open Go Go.HL Go.Proofs Go.Wx Go.Rd
def acc4 : MAcc := ⟨acc0, acc0, acc0, acc0⟩
section
variable [Lvl]
set_option maxRecDepth 100000
theorem machV0 (h : AH) : MachV h m0 (.agg #[.int .i64 0, .int .i64 0, .int .i64 0, .int .i64 0, .int .i64 0, .slice none 0 0, .slice none 0 0, .slice none 0 0, .slice none 0 0]) :=
 ⟨_, _, _, _, rfl, ⟨none, 0, rfl, ⟨fun _ _ => rfl, Rd.nil _ _⟩⟩, ⟨none, 0, rfl, ⟨fun _ _ => rfl, Rd.nil _ _⟩⟩, ⟨none, 0, rfl, ⟨fun _ _ => rfl, Rd.nil _ _⟩⟩, ⟨none, 0, rfl, ⟨fun _ _ => rfl, Rd.nil _ _⟩⟩⟩
theorem takeM_len {m : MachP} {k : Nat} (L : LenM m k) (p : Int) (l : List Int) : LenM (takeM m p l) (k + 1) := by
 have a1 := L.b
 have a2 := L.q
 have a3 := L.l
 have a4 := L.w
 unfold takeM
 split <;> (repeat (first | split | (refine ⟨?_, ?_, ?_, ?_⟩ <;> first | omega | (simp only [List.length_append, List.length_singleton]; omega))))
theorem readM_badI {t : List UInt8} (h : ¬ t.length > 400) {k : Nat} {at_ : Int} {m : MachP} (hg : goR 0 (-1) m0 (splitL 10 t).dropLast = (k + 1, at_, m)) : readM t = (m0, (k : Int) + 1, 2) := readM_bad h hg
theorem readM_endI {t : List UInt8} (h : ¬ t.length > 400) {at_ : Int} {m : MachP} (hg : goR 0 (-1) m0 (splitL 10 t).dropLast = (0, at_, m)) (hb : at_ ≠ 5 ∨ (splitL 10 t).getLast? ≠ some []) {z : Int} (hz : z = (splitL 10 t).length) : readM t = (m0, z, 2) := by rw [hz]; exact readM_end h hg hb
def ReadV (h : AH) (t : List UInt8) (v : Value) : Prop := ∃ V, v = .tuple #[V, .int .i64 (readM t).2.1, .int .i64 (readM t).2.2] ∧ MachV h (readM t).1 V
theorem readV_of {h : AH} {t : List UInt8} {m : MachP} {row e : Int} {V : Value} (hr : readM t = (m, row, e)) (hv : MachV h m V) : ReadV h t (.tuple #[V, .int .i64 row, .int .i64 e]) := by
 unfold ReadV
 rw [hr]
 exact ⟨V, rfl, hv⟩
set_option maxHeartbeats 4000000 in
theorem Read_ok (t : List UInt8) (h : AH) (PW : Pow h) (ER : Errs h) : FnT Tryz.prog 12 #[.string (bs t)] h (fun v h' => ReadV h' t v) := by
 refine wH Tryz.func12 rfl Tryz.ntmps12 rfl ?_
 refine qE ?_
 refine qB rfl ?_
 refine zE (cs := [_, _, _, _, _, _, _, _, _]) rfl rfl fun b2 hb2 => ?_
 refine qN [_] rfl ?_
 refine qA (qD (v := .int .i64 _) rfl) ?_
 refine qA (qD (v := .int .i64 _) rfl) ?_
 refine qE ?_
 refine qE ?_
 refine qB rfl ?_
 refine qA (qC (v := .string _) rfl) ?_
 refine qA (zF rfl rfl) ?_
 refine qA (qK (v := .bool _) rfl) ?_
 refine qP rfl (fun hlen => ?_) (fun hlen => ?_)
 ·skip
  have hlen' : t.length > 400 := by have := of_decide_eq_true hlen; omega
  refine qE ?_
  refine qB rfl ?_
  refine qA (zC (zc := [_, _, _, _, _, _, _, _, _]) (vs := []) (cs := [_, _, _, _, _, _, _, _, _]) rfl rfl rfl rfl rfl rfl) ?_
  refine qY 0 (v := .agg #[.int .i64 _, .int .i64 _, .int .i64 _, .int .i64 _, .int .i64 _, .slice _ _ _, .slice _ _ _, .slice _ _ _, .slice _ _ _]) (vs := [_, _, _, _, _, _, _, _, _]) (c' := [_, _, _, _, _, _, _, _, _]) rfl rfl rfl rfl rfl rfl rfl rfl rfl ?_
  refine qN [_] rfl ?_
  refine qA (qD (v := .int .i64 _) rfl) ?_
  refine qA (qD (v := .int .i64 _) rfl) ?_
  refine qQ ?_
  refine qM (vs := [_, _, _]) Tryz.results12 ⟨resV_agg 0 rfl rfl rfl rfl rfl (vs := [.int .i64 _, .int .i64 _, .int .i64 _, .int .i64 _, .int .i64 _, .slice _ _ _, .slice _ _ _, .slice _ _ _, .slice _ _ _]) rfl, qJ rfl rfl, qJ rfl rfl, trivial⟩ fun V => ?_
  exact ⟨(qR V), readV_of (readM_long hlen') (machV0 _)⟩
 ·skip
  have hlen' : ¬ t.length > 400 := by have := of_decide_eq_false hlen; omega
  obtain ⟨rows, hrows⟩ : ∃ rows, rows = splitL 10 t := ⟨_, rfl⟩
  have hrl : rows.length = cntB 10 t + 1 := by rw [hrows]; exact splitL_len 10 t
  have hcl := cnt_le 10 t
  have hdl : rows.dropLast.length = rows.length - 1 := List.length_dropLast ..
  have hrn : ∀ r ∈ rows, r.length ≤ 400 := fun r hr => by
   rw [hrows] at hr
   have := split_len r hr
   omega
  refine qO ?_
  refine qE ?_
  refine qB rfl ?_
  refine qA (qC (v := .string _) rfl) ?_
  refine wJ (caps := []) (vs := [.string _, .string _]) rfl rfl rfl (Split_ok t 10 h (by omega)) ?_
  rintro _ h1 E1 ⟨AR, cR, rfl, RR, hcR⟩
  rw [← hrows] at RR hcR ⊢
  refine qA (qD (v := .slice _ _ _) rfl) ?_
  refine qE ?_
  refine qB rfl ?_
  refine qA (qC (v := .slice _ _ _) rfl) ?_
  refine qA (wP rfl rfl) ?_
  refine qA (qS rfl (by omega)) ?_
  refine qA (qD (v := .int .i64 _) rfl) ?_
  refine qE ?_
  refine qB rfl ?_
  refine qA (qD (v := .int .i64 _) rfl) ?_
  refine qE ?_
  refine qE ?_
  refine qB rfl ?_
  refine qA (qC (v := .slice _ _ _) rfl) ?_
  refine qA (qC (v := .int .i64 _) rfl) ?_
  refine qA (pv_front (k := rows.length - 1) rfl rfl (by omega) (by omega) rfl rfl) ?_
  refine qA (wP rfl rfl) ?_
  refine qA (qC (v := .int .i64 _) rfl) ?_
  refine qT ?_
  refine goes_more ?_
  refine qU [_, _] rfl ?_
  refine goes_more ?_
  refine qU [_, _, _] rfl ?_
  refine goes_more ?_
  refine qU [_, _, _, _] rfl ?_
  refine goes_more ?_
  refine qU [_, _, _, _, _] rfl ?_
  refine xp_loopL [3, 4, 7, 8, 9, 10, 11, 12, 13, 28, 29, 30, 31, 32, 33, 34, 35, 36, 37, 38, 39, 40, 41, 42, 43, 44, 45, 46, 47, 48, 49, 50, 51, 52, 53, 54, 55, 56, 57, 58, 59, 60, 61, 62, 63, 64, 65, 66, 67, 68, 69, 70, 71, 72, 73, 74, 75, 76, 77, 78, 79, 80, 81, 82, 83, 84, 85, 86, 87, 88, 89, 90, 91, 92, 93, 94, 95, 96, 97] 5 (α := Nat × Int × MachP × MAcc) (fun ⟨k, a_, m, x⟩ => [(28, .int .i64 k), (7, .int .i64 (max 0 (a_ - 1)))]) (fun ⟨k, a_, m, x⟩ L => ((((L.set 0 (some (b2, .cells (mCells m x).toArray 26 (0, 0)))).set 1 (x.aB.p)).set 2 (x.aQ.p)).set 3 (x.aL.p)).set 4 (x.aW.p)) (fun ⟨k, a_, m, x⟩ h_k => k ≤ rows.length - 1 ∧ goR 0 (-1) m0 rows.dropLast = goR k a_ m (rows.dropLast.drop k) ∧ (k = 0 ↔ a_ = -1) ∧ (-1 ≤ a_ ∧ a_ ≤ 5) ∧ AccM m x ∧ LenM m k ∧ (k = 0 → m = m0 ∧ x = acc4)) (fun ⟨k, a_, m, x⟩ => rows.length - 1 - k) ((0, -1, m0, acc4)) ⟨rfl, rfl, trivial⟩ (rfl) (⟨Nat.zero_le _, rfl, by decide, by decide, ⟨accR0, accR0, accR0, accR0⟩, ⟨Nat.zero_le _, Nat.zero_le _, Nat.zero_le _, Nat.zero_le _⟩, fun _ => ⟨rfl, rfl⟩⟩) ?_
  rintro ⟨k, a_, m, x⟩ T1 h_k E_k J_k
  refine qU [_, _, _, _, _] rfl ?_
  obtain ⟨K1, K2, K3, K4, KA, KL, K0⟩ := J_k
  refine qE ?_
  refine qB rfl ?_
  refine qA (qK (v := .bool _) rfl) ?_
  refine qE ?_
  refine qP rfl (fun hk => ?_) (fun hk => ?_)
  ·skip
   have hkl : k < rows.length - 1 := by have := of_decide_eq_true hk; omega
   have hkr : k < rows.length := by omega
   have hkd : k < rows.dropLast.length := by omega
   have hge : rows.dropLast[k] = rows[k] := List.getElem_dropLast ..
   have hrk := hrn _ (List.getElem_mem hkr)
   rw [List.drop_eq_getElem_cons hkd, hge] at K2
   obtain ⟨w0, wr, hws⟩ : ∃ w0 wr, splitL 47 rows[k] = w0 :: wr := by
    cases q : splitL 47 rows[k] with
    | nil => exact absurd q (splitL_ne 47 _)
    | cons w0 wr => exact ⟨w0, wr, rfl⟩
   have hwl := splitL_len 47 rows[k]
   have hwc := cnt_le 47 rows[k]
   rw [hws, List.length_cons] at hwl
   have hwn : ∀ r ∈ w0 :: wr, r.length ≤ 400 := fun r hr => by
    rw [← hws] at hr
    have := split_len r hr
    omega
   obtain ⟨g, off, hA, hc⟩ := (RR.ext E_k).at (by decide) hkr
   refine qO ?_
   refine qE ?_
   refine qT ?_
   refine qE ?_
   refine qB rfl ?_
   refine qA (qC (v := .int .i64 _) rfl) ?_
   refine qA (wD rfl hA rfl rfl rfl (by omega) (by omega)) ?_
   refine wL (v := .string _) rfl rfl ((hc) 0 _ rfl) ?_
   refine qA (qD (v := .int .i64 _) rfl) ?_
   refine qA (qD (v := .string _) rfl) ?_
   refine qE ?_
   refine qB rfl ?_
   refine qA (qC (v := .string _) rfl) ?_
   refine wJ (caps := []) (vs := [.string _, .string _]) rfl rfl rfl (Split_ok rows[k] 47 h_k (by omega)) ?_
   rintro _ h2 E2 ⟨AW, cW, rfl, RW, hcW⟩
   rw [hws] at RW hcW ⊢
   obtain ⟨g0, f0, hA0, hc0⟩ := RW.at (by decide) (i := 0) (by simp)
   have RT := row_tail RW (by simpa using hcW)
   have hwl2 : (w0 :: wr).length = wr.length + 1 := rfl
   refine qA (qD (v := .slice _ _ _) rfl) ?_
   refine qE ?_
   refine qE ?_
   refine qB rfl ?_
   refine qA (qC (v := .int .i64 _) rfl) ?_
   refine qA (qK (v := .bool _) rfl) ?_
   refine qP rfl (fun hk0 => ?_) (fun hk0 => ?_)
   ·skip
    have hk0' : k = 0 := by
     have : (k : Int) = 0 := by simpa using hk0
     omega
    subst hk0'
    have ha : a_ = -1 := K3.1 rfl
    obtain ⟨hm0, hx0⟩ := K0 rfl
    subst ha hm0 hx0
    refine qE ?_
    refine qB rfl ?_
    refine qA (qC (v := .slice _ _ _) rfl) ?_
    refine qA (pv_sliceLoS (m := 1) 1 (l' := wr.length) (c' := cW - 1) (A' := if cW = 1 then AW else AW.map (·.add (1 * 1))) rfl rfl rfl rfl rfl (by omega) (by omega) rfl (by omega) rfl) ?_
    refine wJ (caps := []) (vs := [.slice _ _ _, .int .i64 _, .int .i64 _]) rfl rfl rfl (numbers_ok wr 5 (-1) _ _ h2 (RT.ext (Ext.refl _)) (PW.ext (zL (zL E1 E_k) E2)) (ER.ext (zL (zL E1 E_k) E2)) (fun y hy => by have := hwn y (by simp [hy]); omega) (by omega) (by decide) (by decide)) ?_
    rintro _ h3 E3 ⟨A3, n3, c3, rfl, hR⟩
    refine qA (qC (v := .tuple #[.slice _ _ _, .bool _]) rfl) ?_
    refine qA (qK (v := .slice _ _ _) rfl) ?_
    refine qA (qK (v := .bool _) rfl) ?_
    refine qA (qD (v := .slice _ _ _) rfl) ?_
    refine qA (qD (v := .bool _) rfl) ?_
    refine qE ?_
    refine qE ?_
    refine qB rfl ?_
    refine qA (qC (v := .slice _ _ _) rfl) ?_
    refine qA (wD rfl hA0 rfl rfl rfl (by simp) (by rw [hwl2]; push_cast; omega)) ?_
    refine wL (v := .string (bs w0)) rfl rfl ((hc0.ext E3) 0 _ rfl) ?_
    refine qA (pv_strne rfl rfl) ?_
    refine qA (qC (v := .bool _) rfl) ?_
    by_cases hw0 : w0 = [77]
    ·have hg0 : (!decide (w0 = [77])) = false := by rw [decide_eq_true hw0]; rfl
     refine qF rfl hg0 ?_
     refine qA (qC (v := .bool _) rfl) ?_
     refine qF rfl hg0 ?_
     refine qA (qK (v := .bool _) rfl) ?_
     refine qA (wI rfl hg0 (v := .bool _) rfl) ?_
     subst hw0
     have hro := rowR_M (m := m0) hws
     refine qP rfl (fun hbad => ?_) (fun hbad => ?_)
     ·skip
      have hnn : numsR (-1) 5 wr = none := by simpa using hbad
      rw [hnn] at hro
      refine qE ?_
      refine qB rfl ?_
      refine qA (zC (zc := [_, _, _, _, _, _, _, _, _]) (vs := []) (cs := [_, _, _, _, _, _, _, _, _]) rfl rfl rfl rfl rfl rfl) ?_
      refine qY 0 (v := .agg #[.int .i64 _, .int .i64 _, .int .i64 _, .int .i64 _, .int .i64 _, .slice _ _ _, .slice _ _ _, .slice _ _ _, .slice _ _ _]) (vs := [_, _, _, _, _, _, _, _, _]) (c' := [_, _, _, _, _, _, _, _, _]) rfl rfl rfl rfl rfl rfl rfl rfl rfl ?_
      refine qN [_, _, _, _, _] rfl ?_
      refine qA (qD (v := .int .i64 _) rfl) ?_
      refine qA (qD (v := .int .i64 _) rfl) ?_
      refine qQ ?_
      refine qM (vs := [_, _, _]) Tryz.results12 ⟨resV_agg 0 rfl rfl rfl rfl rfl (vs := [.int .i64 _, .int .i64 _, .int .i64 _, .int .i64 _, .int .i64 _, .slice _ _ _, .slice _ _ _, .slice _ _ _, .slice _ _ _]) rfl, qJ rfl rfl, qJ rfl rfl, trivial⟩ fun V => ?_
      exact ⟨(zL (zL (zL (zL E1 E_k) E2) E3) (qR V)), readV_of (readM_bad hlen' (k := 0) (by rw [← hrows, K2]; exact goR_stop hro)) (machV0 _)⟩
     ·skip
      obtain ⟨l, hl⟩ : ∃ l, numsR (-1) 5 wr = some l := by
       cases q : numsR (-1) 5 wr with
       | some l => exact ⟨l, rfl⟩
       | none => rw [q] at hbad; cases hbad
      obtain ⟨rfl, RA⟩ := hR l hl
      rw [hl] at hro
      have hll : l.length = 5 := by
       unfold numsR at hl
       split at hl
       ·rename_i hq; rw [numsFrom_len hl, hq]
       ·cases hl
      match l, hll with
      | [n0, n1, n2, n3, n4], _ =>
       obtain ⟨p0, o0, i0, j0⟩ := RA.at (by decide) (i := 0) (by simp)
       obtain ⟨p1, o1, i1, j1⟩ := RA.at (by decide) (i := 1) (by simp)
       obtain ⟨p2, o2, i2, j2⟩ := RA.at (by decide) (i := 2) (by simp)
       obtain ⟨p3, o3, i3, j3⟩ := RA.at (by decide) (i := 3) (by simp)
       obtain ⟨p4, o4, i4, j4⟩ := RA.at (by decide) (i := 4) (by simp)
       refine qO ?_
       refine qE ?_
       refine xp_dw [] rfl rfl rfl ?_
       refine qI (i := 0) rfl (by decide +kernel) (qC (v := .slice _ _ _) rfl) ?_
       refine qI (i := 1) rfl (by decide +kernel) (wD rfl i0 rfl rfl rfl (by simp) (by simp)) ?_
       refine wE (i := 2) rfl (by decide +kernel) ?_
       refine wL (v := .int .i64 _) rfl rfl ((j0) 0 _ rfl) ?_
       refine qI (i := 3) rfl (by decide +kernel) (qC (v := .slice _ _ _) rfl) ?_
       refine qI (i := 4) rfl (by decide +kernel) (wD rfl i1 rfl rfl rfl (by simp) (by simp)) ?_
       refine wE (i := 5) rfl (by decide +kernel) ?_
       refine wL (v := .int .i64 _) rfl rfl ((j1) 0 _ rfl) ?_
       refine qI (i := 6) rfl (by decide +kernel) (qC (v := .slice _ _ _) rfl) ?_
       refine qI (i := 7) rfl (by decide +kernel) (wD rfl i2 rfl rfl rfl (by simp) (by simp)) ?_
       refine wE (i := 8) rfl (by decide +kernel) ?_
       refine wL (v := .int .i64 _) rfl rfl ((j2) 0 _ rfl) ?_
       refine qI (i := 9) rfl (by decide +kernel) (qC (v := .slice _ _ _) rfl) ?_
       refine qI (i := 10) rfl (by decide +kernel) (wD rfl i3 rfl rfl rfl (by simp) (by simp)) ?_
       refine wE (i := 11) rfl (by decide +kernel) ?_
       refine wL (v := .int .i64 _) rfl rfl ((j3) 0 _ rfl) ?_
       refine qI (i := 12) rfl (by decide +kernel) (qC (v := .slice _ _ _) rfl) ?_
       refine qI (i := 13) rfl (by decide +kernel) (wD rfl i4 rfl rfl rfl (by simp) (by simp)) ?_
       refine wE (i := 14) rfl (by decide +kernel) ?_
       refine wL (v := .int .i64 _) rfl rfl ((j4) 0 _ rfl) ?_
       refine qI (i := 15) rfl (by decide +kernel) (zC (zc := [_, _, _, _, _, _, _, _, _]) (vs := [(0, .int .i64 _), (1, .int .i64 _), (2, .int .i64 _), (3, .int .i64 _), (4, .int .i64 _)]) (cs := [_, _, _, _, _, _, _, _, _]) rfl rfl rfl rfl rfl rfl) ?_
       refine wV (i := 16) rfl (by decide +kernel) (by decide +kernel) ?_
       refine qY 0 (v := .agg #[.int .i64 _, .int .i64 _, .int .i64 _, .int .i64 _, .int .i64 _, .slice _ _ _, .slice _ _ _, .slice _ _ _, .slice _ _ _]) (vs := [_, _, _, _, _, _, _, _, _]) (c' := [_, _, _, _, _, _, _, _, _]) rfl rfl rfl rfl rfl rfl rfl rfl rfl ?_
       refine wN [_, _, _, _, _] rfl ?_
       refine zI rfl ?_
       refine wS ?_
       refine qB rfl ?_
       refine qA (qS rfl (by omega)) ?_
       refine qA (qC (v := .int .i64 _) rfl) ?_
       refine ⟨(1, 0, ⟨n0, n1, n2, n3, n4, [], [], [], []⟩, acc4), ⟨rfl, rfl, trivial⟩, rfl, rfl, (zL (zL E_k E2) E3), fun h3 E3 => ⟨by omega, by rw [K2]; exact goR_next hro, by decide, by decide, ⟨accR0, accR0, accR0, accR0⟩, ⟨Nat.zero_le _, Nat.zero_le _, Nat.zero_le _, Nat.zero_le _⟩, fun h => absurd h (by decide)⟩, by first | omega | (dsimp only; omega), ?_⟩
       repeat (first | exact qW _ _ _ | refine wA (by decide) ?_ | refine qV rfl ?_ | refine wB rfl ?_)
    ·skip
     have hg0 : (!decide (w0 = [77])) = true := by rw [decide_eq_false hw0]; rfl
     have hro := rowR_notM (m := m0) (at_ := -1) hws hw0
     refine qH rfl hg0 ?_
     refine qH rfl hg0 ?_
     refine qA (qZ rfl hg0 (v := .bool _) rfl) ?_
     refine wW rfl (rfl) ?_
     refine qE ?_
     refine qB rfl ?_
     refine qA (zC (zc := [_, _, _, _, _, _, _, _, _]) (vs := []) (cs := [_, _, _, _, _, _, _, _, _]) rfl rfl rfl rfl rfl rfl) ?_
     refine qY 0 (v := .agg #[.int .i64 _, .int .i64 _, .int .i64 _, .int .i64 _, .int .i64 _, .slice _ _ _, .slice _ _ _, .slice _ _ _, .slice _ _ _]) (vs := [_, _, _, _, _, _, _, _, _]) (c' := [_, _, _, _, _, _, _, _, _]) rfl rfl rfl rfl rfl rfl rfl rfl rfl ?_
     refine qN [_, _, _, _, _] rfl ?_
     refine qA (qD (v := .int .i64 _) rfl) ?_
     refine qA (qD (v := .int .i64 _) rfl) ?_
     refine qQ ?_
     refine qM (vs := [_, _, _]) Tryz.results12 ⟨resV_agg 0 rfl rfl rfl rfl rfl (vs := [.int .i64 _, .int .i64 _, .int .i64 _, .int .i64 _, .int .i64 _, .slice _ _ _, .slice _ _ _, .slice _ _ _, .slice _ _ _]) rfl, qJ rfl rfl, qJ rfl rfl, trivial⟩ fun V => ?_
     exact ⟨(zL (zL (zL (zL E1 E_k) E2) E3) (qR V)), readV_of (readM_bad hlen' (k := 0) (by rw [← hrows, K2]; exact goR_stop hro)) (machV0 _)⟩
   ·skip
    have hk0' : ¬ k = 0 := by
     have : ¬ (k : Int) = 0 := by simpa using hk0
     omega
    have ha : 0 ≤ a_ := by
     have : ¬ a_ = -1 := fun e => hk0' (K3.2 e)
     omega
    have hro := rowR_rest (m := m) hws ha
    have hkb : decide (k = 0) = false := decide_eq_false hk0'
    have hkr2 := kind_rng w0
    have hnow : ((kindR w0).1 ≤ 0 ∧ nowR w0 = -1) ∨ (1 ≤ (kindR w0).1 ∧ nowR w0 = (kindR w0).1 - 1) := by
     unfold nowR
     by_cases hz : (kindR w0).1 ≤ 0
     ·exact .inl ⟨hz, if_pos hz⟩
     ·exact .inr ⟨by omega, if_neg hz⟩
    refine qO ?_
    refine qE ?_
    refine qB rfl ?_
    refine qA (qD (v := .int .i64 _) rfl) ?_
    refine xp_cutB [13, 68, 69, 70, 71, 72, 73, 74, 75, 76] 5 (α := Unit) (fun u => [(13, .int .i64 (nowR w0))]) (fun u L => L) (fun u h_u => True) ?_ ?_
    ·skip
     refine qE ?_
     refine qB rfl ?_
     refine qA (qC (v := .slice _ _ _) rfl) ?_
     refine qA (wD rfl hA0 rfl rfl rfl (by simp) (by rw [hwl2]; push_cast; omega)) ?_
     refine wL (v := .string (bs w0)) rfl rfl ((hc0.ext (Ext.refl _)) 0 _ rfl) ?_
     refine qA (zF rfl rfl) ?_
     refine qA (qK (v := .bool _) rfl) ?_
     refine qP rfl (fun h1w => ?_) (fun h1w => ?_)
     ·skip
      have h1w' : w0.length = 1 := by
       have : (w0.length : Int) = 1 := by simpa using h1w
       omega
      obtain ⟨c0, hc1⟩ : ∃ c0, w0 = [c0] := by
       match w0, h1w' with
       | [c0], _ => exact ⟨c0, rfl⟩
      refine qB rfl ?_
      refine qA (qC (v := .slice _ _ _) rfl) ?_
      refine qA (wD rfl hA0 rfl rfl rfl (by simp) (by rw [hwl2]; push_cast; omega)) ?_
      refine wL (v := .string (bs [c0])) rfl rfl (by rw [← hc1]; exact (hc0.ext (Ext.refl _)) 0 _ rfl) ?_
      refine wJ (caps := []) (vs := [.string _, .string _]) rfl rfl rfl (Index_ok [66, 80, 76, 87, 69] c0 h2 (by decide)) ?_
      rintro v5 h5 E5 hv5
      rw [now_one, ← hc1] at hv5
      subst hv5
      refine qA (qD (v := .int .i64 _) rfl) ?_
      refine ⟨(), ⟨rfl, trivial⟩, rfl, rfl, E5, fun h3 E3 => by first | trivial | omega | (refine ⟨?_, ?_⟩ <;> omega), ?_⟩
      repeat (first | exact wQ _ _ | exact qW _ _ _ | refine wA (by decide) ?_ | refine qV rfl ?_ | refine wB rfl ?_)
     ·skip
      have h1w' : w0.length ≠ 1 := by
       intro e
       rw [e] at h1w
       exact absurd h1w (by decide)
      refine qO ?_
      refine ⟨(), ⟨intE (now_no h1w').symm, trivial⟩, rfl, rfl, (Ext.refl _), fun h3 E3 => by first | trivial | omega | (refine ⟨?_, ?_⟩ <;> omega), ?_⟩
      repeat (first | exact wQ _ _ | exact qW _ _ _ | refine wA (by decide) ?_ | refine qV rfl ?_ | refine wB rfl ?_)
    ·rintro u T2 h_u E_u J_u
     refine qU [_, _, _, _, _] rfl ?_
     by_cases hA1 : nowR w0 < max 0 (a_ - 1)
     ·have hg1 : decide (nowR w0 < max 0 (a_ - 1)) = true := decide_eq_true hA1
      rw [if_pos (by omega)] at hro
      refine qE ?_
      refine qE ?_
      refine xp_dw [] rfl rfl rfl ?_
      refine qI (i := 0) rfl (by decide +kernel) (qC (v := .int .i64 _) rfl) ?_
      refine qI (i := 1) rfl (by decide +kernel) (qC (v := .int .i64 _) rfl) ?_
      refine qI (i := 2) rfl (by decide +kernel) (qK (v := .bool _) rfl) ?_
      refine qI (i := 3) rfl (by decide +kernel) (qC (v := .bool _) rfl) ?_
      refine dw_skip (i := 4) rfl (by decide +kernel) rfl hg1 ?_
      refine dw_skip (i := 5) rfl (by decide +kernel) rfl hg1 ?_
      refine qI (i := 6) rfl (by decide +kernel) (qZ rfl hg1 (v := .bool _) rfl) ?_
      refine qI (i := 7) rfl (by decide +kernel) (qC (v := .bool _) rfl) ?_
      refine dw_skip (i := 8) rfl (by decide +kernel) rfl rfl ?_
      refine dw_skip (i := 9) rfl (by decide +kernel) rfl rfl ?_
      refine dw_skip (i := 10) rfl (by decide +kernel) rfl rfl ?_
      refine dw_skip (i := 11) rfl (by decide +kernel) rfl rfl ?_
      refine dw_skip (i := 12) rfl (by decide +kernel) rfl rfl ?_
      refine dw_skip (i := 13) rfl (by decide +kernel) rfl rfl ?_
      refine dw_skip (i := 14) rfl (by decide +kernel) rfl rfl ?_
      refine qI (i := 15) rfl (by decide +kernel) (qZ rfl rfl (v := .bool _) rfl) ?_
      refine zI rfl ?_
      refine wW rfl (rfl) ?_
      refine qE ?_
      refine qB rfl ?_
      refine qA (zC (zc := [_, _, _, _, _, _, _, _, _]) (vs := []) (cs := [_, _, _, _, _, _, _, _, _]) rfl rfl rfl rfl rfl rfl) ?_
      refine qA (qC (v := .int .i64 _) rfl) ?_
      refine qA (qS rfl (by omega)) ?_
      refine qY 0 (v := .agg #[.int .i64 _, .int .i64 _, .int .i64 _, .int .i64 _, .int .i64 _, .slice _ _ _, .slice _ _ _, .slice _ _ _, .slice _ _ _]) (vs := [_, _, _, _, _, _, _, _, _]) (c' := [_, _, _, _, _, _, _, _, _]) rfl rfl rfl rfl rfl rfl rfl rfl rfl ?_
      refine qN [_, _, _, _, _] rfl ?_
      refine qA (qD (v := .int .i64 _) rfl) ?_
      refine qA (qD (v := .int .i64 _) rfl) ?_
      refine qQ ?_
      refine qM (vs := [_, _, _]) Tryz.results12 ⟨resV_agg 0 rfl rfl rfl rfl rfl (vs := [.int .i64 _, .int .i64 _, .int .i64 _, .int .i64 _, .int .i64 _, .slice _ _ _, .slice _ _ _, .slice _ _ _, .slice _ _ _]) rfl, qJ rfl rfl, qJ rfl rfl, trivial⟩ fun V => ?_
      exact ⟨(zL (zL (zL (zL E1 E_k) E2) E_u) (qR V)), readV_of (readM_badI hlen' (by rw [← hrows, K2]; exact goR_stop (by rw [hkb]; exact hro))) (machV0 _)⟩
     ·skip
      have hg1 : decide (nowR w0 < max 0 (a_ - 1)) = false := decide_eq_false hA1
      by_cases hA2 : a_ = 5
      ·have hg2 : (max 0 (a_ - 1) == 4) = true := by rw [hA2]; decide
       rw [if_pos (.inr (.inl hA2))] at hro
       refine qE ?_
       refine qE ?_
       refine xp_dw [] rfl rfl rfl ?_
       refine qI (i := 0) rfl (by decide +kernel) (qC (v := .int .i64 _) rfl) ?_
       refine qI (i := 1) rfl (by decide +kernel) (qC (v := .int .i64 _) rfl) ?_
       refine qI (i := 2) rfl (by decide +kernel) (qK (v := .bool _) rfl) ?_
       refine qI (i := 3) rfl (by decide +kernel) (qC (v := .bool _) rfl) ?_
       refine dw_pureG (i := 4) rfl (by decide +kernel) rfl hg1 (qC (v := .int .i64 _) rfl) ?_
       refine dw_pureG (i := 5) rfl (by decide +kernel) rfl hg1 (qK (v := .bool _) rfl) ?_
       refine qI (i := 6) rfl (by decide +kernel) (wI rfl hg1 (v := .bool _) rfl) ?_
       refine qI (i := 7) rfl (by decide +kernel) (qC (v := .bool _) rfl) ?_
       refine dw_skip (i := 8) rfl (by decide +kernel) rfl hg2 ?_
       refine dw_skip (i := 9) rfl (by decide +kernel) rfl hg2 ?_
       refine dw_skip (i := 10) rfl (by decide +kernel) rfl hg2 ?_
       refine dw_skip (i := 11) rfl (by decide +kernel) rfl hg2 ?_
       refine dw_skip (i := 12) rfl (by decide +kernel) rfl hg2 ?_
       refine dw_skip (i := 13) rfl (by decide +kernel) rfl hg2 ?_
       refine dw_skip (i := 14) rfl (by decide +kernel) rfl hg2 ?_
       refine qI (i := 15) rfl (by decide +kernel) (qZ rfl hg2 (v := .bool _) rfl) ?_
       refine zI rfl ?_
       refine wW rfl (rfl) ?_
       refine qE ?_
       refine qB rfl ?_
       refine qA (zC (zc := [_, _, _, _, _, _, _, _, _]) (vs := []) (cs := [_, _, _, _, _, _, _, _, _]) rfl rfl rfl rfl rfl rfl) ?_
       refine qA (qC (v := .int .i64 _) rfl) ?_
       refine qA (qS rfl (by omega)) ?_
       refine qY 0 (v := .agg #[.int .i64 _, .int .i64 _, .int .i64 _, .int .i64 _, .int .i64 _, .slice _ _ _, .slice _ _ _, .slice _ _ _, .slice _ _ _]) (vs := [_, _, _, _, _, _, _, _, _]) (c' := [_, _, _, _, _, _, _, _, _]) rfl rfl rfl rfl rfl rfl rfl rfl rfl ?_
       refine qN [_, _, _, _, _] rfl ?_
       refine qA (qD (v := .int .i64 _) rfl) ?_
       refine qA (qD (v := .int .i64 _) rfl) ?_
       refine qQ ?_
       refine qM (vs := [_, _, _]) Tryz.results12 ⟨resV_agg 0 rfl rfl rfl rfl rfl (vs := [.int .i64 _, .int .i64 _, .int .i64 _, .int .i64 _, .int .i64 _, .slice _ _ _, .slice _ _ _, .slice _ _ _, .slice _ _ _]) rfl, qJ rfl rfl, qJ rfl rfl, trivial⟩ fun V => ?_
       exact ⟨(zL (zL (zL (zL E1 E_k) E2) E_u) (qR V)), readV_of (readM_badI hlen' (by rw [← hrows, K2]; exact goR_stop (by rw [hkb]; exact hro))) (machV0 _)⟩
      ·skip
       have hg2 : (max 0 (a_ - 1) == 4) = false := by
        have : ¬ max 0 (a_ - 1) = 4 := by omega
        simpa using this
       rw [if_neg (by omega)] at hro
       refine qE ?_
       refine qE ?_
       refine xp_dw [] rfl rfl rfl ?_
       refine qI (i := 0) rfl (by decide +kernel) (qC (v := .int .i64 _) rfl) ?_
       refine qI (i := 1) rfl (by decide +kernel) (qC (v := .int .i64 _) rfl) ?_
       refine qI (i := 2) rfl (by decide +kernel) (qK (v := .bool _) rfl) ?_
       refine qI (i := 3) rfl (by decide +kernel) (qC (v := .bool _) rfl) ?_
       refine dw_pureG (i := 4) rfl (by decide +kernel) rfl hg1 (qC (v := .int .i64 _) rfl) ?_
       refine dw_pureG (i := 5) rfl (by decide +kernel) rfl hg1 (qK (v := .bool _) rfl) ?_
       refine qI (i := 6) rfl (by decide +kernel) (wI rfl hg1 (v := .bool _) rfl) ?_
       refine qI (i := 7) rfl (by decide +kernel) (qC (v := .bool _) rfl) ?_
       refine dw_pureG (i := 8) rfl (by decide +kernel) rfl hg2 (qC (v := .slice _ _ _) rfl) ?_
       refine dw_pureG (i := 9) rfl (by decide +kernel) rfl hg2 (wD rfl hA0 rfl rfl rfl (by simp) (by rw [hwl2]; push_cast; omega)) ?_
       refine dw_loadG (i := 10) rfl (by decide +kernel) rfl hg2 ?_
       refine wL (v := .string (bs w0)) rfl rfl ((hc0.ext E_u) 0 _ rfl) ?_
       refine dw_pureG (i := 11) rfl (by decide +kernel) rfl hg2 (qC (v := .slice _ _ _) rfl) ?_
       refine dw_pureG (i := 12) rfl (by decide +kernel) rfl hg2 (pv_sliceLoS (m := 1) 1 (l' := wr.length) (c' := cW - 1) (A' := if cW = 1 then AW else AW.map (·.add (1 * 1))) rfl rfl rfl rfl rfl (by omega) (by omega) rfl (by omega) rfl) ?_
       refine dw_lastG (i := 13) rfl (by decide +kernel) (by decide +kernel) rfl hg2 ?_
       refine op_fnMM [] [_, _, _, _, _] [] (vs := [.pointer _, .string _, .slice _ _ _]) rfl rfl rfl (take_ok b2 m x w0 wr _ _ k h_u (RT.ext E_u) (PW.ext (zL (zL (zL E1 E_k) E2) E_u)) (ER.ext (zL (zL (zL E1 E_k) E2) E_u)) (fun y hy => by have := hwn y (by simp [hy]); omega) (by omega) KA KL (by omega) (by omega)) ?_
       rintro _ h5 _ E5 ⟨rfl, x', rfl, AM'⟩
       refine wN [_, _, _, _, _] rfl ?_
       cases q : numsR (belR w0) (kindR w0).2 wr with
       | none =>
        rw [q] at hro AM'
        refine dw_pureG (i := 14) rfl (by decide +kernel) rfl hg2 (qK (v := .bool _) rfl) ?_
        refine qI (i := 15) rfl (by decide +kernel) (wI rfl hg2 (v := .bool _) rfl) ?_
        refine zI rfl ?_
        refine wW rfl (rfl) ?_
        refine qE ?_
        refine qB rfl ?_
        refine qA (zC (zc := [_, _, _, _, _, _, _, _, _]) (vs := []) (cs := [_, _, _, _, _, _, _, _, _]) rfl rfl rfl rfl rfl rfl) ?_
        refine qA (qC (v := .int .i64 _) rfl) ?_
        refine qA (qS rfl (by omega)) ?_
        refine qY 0 (v := .agg #[.int .i64 _, .int .i64 _, .int .i64 _, .int .i64 _, .int .i64 _, .slice _ _ _, .slice _ _ _, .slice _ _ _, .slice _ _ _]) (vs := [_, _, _, _, _, _, _, _, _]) (c' := [_, _, _, _, _, _, _, _, _]) rfl rfl rfl rfl rfl rfl rfl rfl rfl ?_
        refine qN [_, _, _, _, _] rfl ?_
        refine qA (qD (v := .int .i64 _) rfl) ?_
        refine qA (qD (v := .int .i64 _) rfl) ?_
        refine qQ ?_
        refine qM (vs := [_, _, _]) Tryz.results12 ⟨resV_agg 0 rfl rfl rfl rfl rfl (vs := [.int .i64 _, .int .i64 _, .int .i64 _, .int .i64 _, .int .i64 _, .slice _ _ _, .slice _ _ _, .slice _ _ _, .slice _ _ _]) rfl, qJ rfl rfl, qJ rfl rfl, trivial⟩ fun V => ?_
        exact ⟨(zL (zL (zL (zL (zL E1 E_k) E2) E_u) E5) (qR V)), readV_of (readM_badI hlen' (by rw [← hrows, K2]; exact goR_stop (by rw [hkb]; exact hro))) (machV0 _)⟩
       | some l =>
        rw [q] at hro AM'
        refine dw_pureG (i := 14) rfl (by decide +kernel) rfl hg2 (qK (v := .bool _) rfl) ?_
        refine qI (i := 15) rfl (by decide +kernel) (wI rfl hg2 (v := .bool _) rfl) ?_
        refine zI rfl ?_
        refine wT rfl (rfl) ?_
        refine qO ?_
        refine qB rfl ?_
        refine qA (qC (v := .int .i64 _) rfl) ?_
        refine qA (qD (v := .int .i64 _) rfl) ?_
        refine qB rfl ?_
        refine qA (qS rfl (by omega)) ?_
        refine qA (qC (v := .int .i64 _) rfl) ?_
        refine ⟨(k + 1, (kindR w0).1, takeM m (kindR w0).1 l, x'), ⟨rfl, intE (by omega), trivial⟩, rfl, rfl, (zL (zL (zL E_k E2) E_u) E5), fun h3 E3 => ⟨by omega, by rw [K2]; exact goR_next (by rw [hkb]; exact hro), ⟨fun h => absurd h (by omega), fun h => by omega⟩, by omega, AM', takeM_len KL _ _, fun h => absurd h (by omega)⟩, by first | omega | (dsimp only; omega), ?_⟩
        repeat (first | exact qW _ _ _ | refine wA (by decide) ?_ | refine qV rfl ?_ | refine wB rfl ?_)
  ·skip
   have hke : k = rows.length - 1 := by have := of_decide_eq_false hk; omega
   subst hke
   have hdr : rows.dropLast.drop (rows.length - 1) = [] := List.drop_eq_nil_of_le (by omega)
   rw [hdr] at K2
   have hgo : goR 0 (-1) m0 (splitL 10 t).dropLast = (0, a_, m) := by rw [← hrows, K2]; rfl
   have hnl : rows.length - 1 < rows.length := by omega
   have hgl : (splitL 10 t).getLast? = some rows[rows.length - 1] := by rw [← hrows, List.getLast?_eq_getElem?, List.getElem?_eq_getElem hnl]
   obtain ⟨g, off, hA, hc⟩ := (RR.ext E_k).at (by decide) hnl
   refine wS ?_
   by_cases h5 : a_ = 5
   ·have hg : decide (max 0 (a_ - 1) < 4) = false := by rw [h5]; decide
    refine qE ?_
    refine qE ?_
    refine qB rfl ?_
    refine qA (qC (v := .int .i64 _) rfl) ?_
    refine qA (qK (v := .bool _) rfl) ?_
    refine qA (qC (v := .bool _) rfl) ?_
    refine qF rfl hg ?_
    refine qA (qC (v := .slice _ _ _) rfl) ?_
    refine qF rfl hg ?_
    refine qA (qC (v := .int .i64 _) rfl) ?_
    refine qF rfl hg ?_
    refine qA (wD rfl hA rfl rfl rfl (by omega) (by omega)) ?_
    refine qF rfl hg ?_
    refine wL (v := .string (bs rows[rows.length - 1])) rfl rfl (by rw [show ((rows.length : Int) - 1).toNat = rows.length - 1 by omega]; exact hc 0 _ rfl) ?_
    refine qF rfl hg ?_
    refine qA (pv_strne rfl rfl) ?_
    refine qA (wI rfl hg (v := .bool _) rfl) ?_
    refine qP rfl (fun hE => ?_) (fun hE => ?_)
    ·skip
     have hE' : ¬ rows[rows.length - 1] = [] := by simpa using hE
     refine qE ?_
     refine qB rfl ?_
     refine qA (zC (zc := [_, _, _, _, _, _, _, _, _]) (vs := []) (cs := [_, _, _, _, _, _, _, _, _]) rfl rfl rfl rfl rfl rfl) ?_
     refine qA (qC (v := .int .i64 _) rfl) ?_
     refine qA (qS rfl (by omega)) ?_
     refine qY 0 (v := .agg #[.int .i64 _, .int .i64 _, .int .i64 _, .int .i64 _, .int .i64 _, .slice _ _ _, .slice _ _ _, .slice _ _ _, .slice _ _ _]) (vs := [_, _, _, _, _, _, _, _, _]) (c' := [_, _, _, _, _, _, _, _, _]) rfl rfl rfl rfl rfl rfl rfl rfl rfl ?_
     refine qN [_, _, _, _, _] rfl ?_
     refine qA (qD (v := .int .i64 _) rfl) ?_
     refine qA (qD (v := .int .i64 _) rfl) ?_
     refine qQ ?_
     refine qM (vs := [_, _, _]) Tryz.results12 ⟨resV_agg 0 rfl rfl rfl rfl rfl (vs := [.int .i64 _, .int .i64 _, .int .i64 _, .int .i64 _, .int .i64 _, .slice _ _ _, .slice _ _ _, .slice _ _ _, .slice _ _ _]) rfl, qJ rfl rfl, qJ rfl rfl, trivial⟩ fun V => ?_
     exact ⟨(zL (zL E1 E_k) (qR V)), readV_of (readM_endI hlen' hgo (.inr (by rw [hgl]; intro e; exact hE' (Option.some.inj e))) (by rw [← hrows]; omega)) (machV0 _)⟩
    ·skip
     have hE' : rows[rows.length - 1] = [] := by simpa using hE
     have hok : ¬ (a_ ≠ 5 ∨ (splitL 10 t).getLast? ≠ some []) := by
      rintro (h | h)
      ·exact h h5
      ·exact h (by rw [hgl, hE'])
     obtain ⟨⟨pB, AB, nB, cB⟩, ⟨pQ, AQ, nQ, cQ⟩, ⟨pL, AL, nL, cL⟩, ⟨pW, AW, nW, cW⟩⟩ := x
     obtain ⟨kB, kQ, kL, kW⟩ := KA
     obtain rfl : nB = m.buttons.length := by have := AccR.len kB; rw [wU (m := 1) (fun _ _ => rfl)] at this; dsimp only at this; omega
     obtain rfl : nQ = m.pins.length := by have := AccR.len kQ; rw [wU (m := 3) (fun _ _ => rfl)] at this; dsimp only at this; omega
     obtain rfl : nL = m.links.length := by have := AccR.len kL; rw [wU (m := 4) (fun _ _ => rfl)] at this; dsimp only at this; omega
     obtain rfl : nW = m.weights.length := by have := AccR.len kW; rw [wU (m := 1) (fun _ _ => rfl)] at this; dsimp only at this; omega
     dsimp only at *
     have lw := KL.w
     refine goes_pubO 1 rfl ?_
     intro gB GB PB
     refine qU [_, _, _, _, _] rfl ?_
     refine goes_pubO 2 rfl ?_
     intro gQ GQ PQ
     refine qU [_, _, _, _, _] rfl ?_
     refine goes_pubO 3 rfl ?_
     intro gL GL PL
     refine qU [_, _, _, _, _] rfl ?_
     refine goes_pubO 4 rfl ?_
     intro gW GW PW2
     refine qU [_, _, _, _, _] rfl ?_
     have RM : MachR gW AB AQ AL AW m := ⟨⟨fun _ _ => rfl, (AccR.rd kB PB).ext (zL (zL GQ GL) GW)⟩, ⟨fun _ _ => rfl, (AccR.rd kQ PQ).ext (zL GL GW)⟩, ⟨fun _ _ => rfl, (AccR.rd kL PL).ext GW⟩, ⟨fun _ _ => rfl, AccR.rd kW PW2⟩⟩
     refine qO ?_
     refine qE ?_
     refine qE ?_
     refine qB rfl ?_
     refine wO 0 (vs := [.int .i64 _, .int .i64 _, .int .i64 _, .int .i64 _, .int .i64 _, .slice _ _ _, .slice _ _ _, .slice _ _ _, .slice _ _ _]) rfl rfl rfl rfl rfl ?_
     refine wJ (caps := []) (vs := [.agg #[.int .i64 _, .int .i64 _, .int .i64 _, .int .i64 _, .int .i64 _, .slice _ _ _, .slice _ _ _, .slice _ _ _, .slice _ _ _]]) rfl rfl rfl (Check_ok m AB AQ AL AW cB cQ cL cW gW RM (by omega)) ?_
     rintro _ h6 E6 rfl
     refine qA (qD (v := .int .i64 _) rfl) ?_
     refine qE ?_
     refine qB rfl ?_
     refine qA (qC (v := .int .i64 _) rfl) ?_
     refine qA (qK (v := .bool _) rfl) ?_
     refine qP rfl (fun hcc => ?_) (fun hcc => ?_)
     ·skip
      have hcc' : chkM m ≠ 0 := by simpa using hcc
      refine qE ?_
      refine qB rfl ?_
      refine qA (zC (zc := [_, _, _, _, _, _, _, _, _]) (vs := []) (cs := [_, _, _, _, _, _, _, _, _]) rfl rfl rfl rfl rfl rfl) ?_
      refine qA (qC (v := .int .i64 _) rfl) ?_
      refine qY 0 (v := .agg #[.int .i64 _, .int .i64 _, .int .i64 _, .int .i64 _, .int .i64 _, .slice _ _ _, .slice _ _ _, .slice _ _ _, .slice _ _ _]) (vs := [_, _, _, _, _, _, _, _, _]) (c' := [_, _, _, _, _, _, _, _, _]) rfl rfl rfl rfl rfl rfl rfl rfl rfl ?_
      refine qN [_, _, _, _, _] rfl ?_
      refine qA (qD (v := .int .i64 _) rfl) ?_
      refine qA (qD (v := .int .i64 _) rfl) ?_
      refine qQ ?_
      refine qM (vs := [_, _, _]) Tryz.results12 ⟨resV_agg 0 rfl rfl rfl rfl rfl (vs := [.int .i64 _, .int .i64 _, .int .i64 _, .int .i64 _, .int .i64 _, .slice _ _ _, .slice _ _ _, .slice _ _ _, .slice _ _ _]) rfl, qJ rfl rfl, qJ rfl rfl, trivial⟩ fun V => ?_
      exact ⟨(zL (zL (zL (zL (zL (zL (zL E1 E_k) GB) GQ) GL) GW) E6) (qR V)), readV_of (readM_chk hlen' hgo hok hcc') (machV0 _)⟩
     ·skip
      have hcc' : ¬ chkM m ≠ 0 := by simpa using hcc
      refine qO ?_
      refine qE ?_
      refine qB rfl ?_
      refine wO 0 (vs := [.int .i64 _, .int .i64 _, .int .i64 _, .int .i64 _, .int .i64 _, .slice _ _ _, .slice _ _ _, .slice _ _ _, .slice _ _ _]) rfl rfl rfl rfl rfl ?_
      refine qY 0 (v := .agg #[.int .i64 _, .int .i64 _, .int .i64 _, .int .i64 _, .int .i64 _, .slice _ _ _, .slice _ _ _, .slice _ _ _, .slice _ _ _]) (vs := [_, _, _, _, _, _, _, _, _]) (c' := [_, _, _, _, _, _, _, _, _]) rfl rfl rfl rfl rfl rfl rfl rfl rfl ?_
      refine qN [_, _, _, _, _] rfl ?_
      refine qA (qD (v := .int .i64 _) rfl) ?_
      refine qA (qD (v := .int .i64 _) rfl) ?_
      refine qQ ?_
      refine qM (vs := [_, _, _]) Tryz.results12 ⟨resV_agg 0 rfl rfl rfl rfl rfl (vs := [.int .i64 _, .int .i64 _, .int .i64 _, .int .i64 _, .int .i64 _, .slice _ _ _, .slice _ _ _, .slice _ _ _, .slice _ _ _]) rfl, qJ rfl rfl, qJ rfl rfl, trivial⟩ fun V => ?_
      exact ⟨(zL (zL (zL (zL (zL (zL (zL E1 E_k) GB) GQ) GL) GW) E6) (qR V)), readV_of (readM_ok hlen' hgo hok hcc') ⟨_, _, _, _, rfl, ⟨AB, cB, rfl, RM.b.ext (zL E6 (qR V))⟩, ⟨AQ, cQ, rfl, RM.q.ext (zL E6 (qR V))⟩, ⟨AL, cL, rfl, RM.l.ext (zL E6 (qR V))⟩, ⟨AW, cW, rfl, RM.w.ext (zL E6 (qR V))⟩⟩⟩
   ·skip
    have hg : decide (max 0 (a_ - 1) < 4) = true := decide_eq_true (by omega)
    refine qE ?_
    refine qE ?_
    refine qB rfl ?_
    refine qA (qC (v := .int .i64 _) rfl) ?_
    refine qA (qK (v := .bool _) rfl) ?_
    refine qA (qC (v := .bool _) rfl) ?_
    refine qH rfl hg ?_
    refine qH rfl hg ?_
    refine qH rfl hg ?_
    refine qH rfl hg ?_
    refine qH rfl hg ?_
    refine qA (qZ rfl hg (v := .bool _) rfl) ?_
    refine wW rfl (rfl) ?_
    refine qE ?_
    refine qB rfl ?_
    refine qA (zC (zc := [_, _, _, _, _, _, _, _, _]) (vs := []) (cs := [_, _, _, _, _, _, _, _, _]) rfl rfl rfl rfl rfl rfl) ?_
    refine qA (qC (v := .int .i64 _) rfl) ?_
    refine qA (qS rfl (by omega)) ?_
    refine qY 0 (v := .agg #[.int .i64 _, .int .i64 _, .int .i64 _, .int .i64 _, .int .i64 _, .slice _ _ _, .slice _ _ _, .slice _ _ _, .slice _ _ _]) (vs := [_, _, _, _, _, _, _, _, _]) (c' := [_, _, _, _, _, _, _, _, _]) rfl rfl rfl rfl rfl rfl rfl rfl rfl ?_
    refine qN [_, _, _, _, _] rfl ?_
    refine qA (qD (v := .int .i64 _) rfl) ?_
    refine qA (qD (v := .int .i64 _) rfl) ?_
    refine qQ ?_
    refine qM (vs := [_, _, _]) Tryz.results12 ⟨resV_agg 0 rfl rfl rfl rfl rfl (vs := [.int .i64 _, .int .i64 _, .int .i64 _, .int .i64 _, .int .i64 _, .slice _ _ _, .slice _ _ _, .slice _ _ _, .slice _ _ _]) rfl, qJ rfl rfl, qJ rfl rfl, trivial⟩ fun V => ?_
    exact ⟨(zL (zL E1 E_k) (qR V)), readV_of (readM_endI hlen' hgo (.inl h5) (by rw [← hrows]; omega)) (machV0 _)⟩
end
end Go.Proofs.YtmpahfdiebhdbaaGreatDoor
