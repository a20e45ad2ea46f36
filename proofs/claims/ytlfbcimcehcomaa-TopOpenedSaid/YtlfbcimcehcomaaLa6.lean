/- An own logic over the model, its walks and its plain laws, joined of parts GW GX R67 GU Rv R68 R69 R70 Ud R71 Ke R72 R73 R53 R39 Rt R40 R41 R42 Ru R54 R74 R75 K15 K16 R55 R57 R22 R56 R77. Conditions: as each theorem states. -/
import Derived.Test.YtlfbcimcehcomaaLa5
import Derived.Test.YtlfbcimcehcomaaLa1
import Derived.Test.YtlfbcimcehcomaaLa3
import Derived.Test.YtlfbcimcehcomaaRows
import Derived.Deep.Slices
import Derived.ProofKit
import Derived.Test.YtlfbcimcehcomaaLa4
import Derived.Test.YtlfbcimcehcomaaLa2
set_option linter.all false
/- The own logic, part GW: copy, clear, append in place and of zeros, cap, full slices; whether two slices overlap. Conditions: none. -/
namespace Go.HL
open Go
variable [Lvl]
section
variable {P : Program} {n : Nat} {d : Option Tmp} {ty : TypeId} {ps : String} {af : Array Edge} {S : Sl}
theorem pv_slice3 {x lo hi mx : Operand} {t e : TypeId} {m len cap : Nat} {A : Option Addr} (i j q : Nat) {k k2 k3 : IntKind} {i' j' q' : Int} (hx : ev n S x = .slice A len cap) (hl : ev n S lo = .int k i') (hh : ev n S hi = .int k2 j') (hm : ev n S mx = .int k3 q') (ei : i' = i) (ej : j' = j) (eq : q' = q) (ht : pev P (underlying t) = some (.slice e)) (hs : pev P (sizeOf e) = some m) (hij : i ≤ j) (hjq : j ≤ q) (hqc : q ≤ cap) :
    pev P (execOp (ev n S) ⟨d, .slice t x (some lo) (some hi) (some mx), ty, ps, af, none⟩) = some (.value (.slice (if q = i then A else A.map (·.add (i * m))) (j - i) (q - i))) := by
  subst ei ej eq
  simp only [execOp, hx, hl, hh, hm, Option.map]
  refine (pev_bind (a := .slice (if q = i then A else A.map (·.add (i * m))) (j - i) (q - i)) ?_).trans rfl
  unfold Instr.sliceAt
  refine (pev_mbind ht).trans ?_
  simp only
  unfold Instr.slice
  refine (pev_mbind ht).trans ?_
  simp only
  have hb : pev P (Instr.sliceBounds true len cap (some (.int k (i : Int))) (some (.int k2 (j : Int))) (some (.int k3 (q : Int)))) = some (i, j, q) := by
    unfold Instr.sliceBounds
    have h0 : pev P (Instr.sliceBound (.int k3 (q : Int)) cap .slice3Acap) = some q := by
      unfold Instr.sliceBound
      refine (pev_mbind (a := (k3, (q : Int))) rfl).trans ?_
      simp only
      rw [if_pos ⟨by omega, by omega⟩]
      rfl
    have h1 : pev P (Instr.sliceBound (.int k2 (j : Int)) q .slice3B) = some j := by
      unfold Instr.sliceBound
      refine (pev_mbind (a := (k2, (j : Int))) rfl).trans ?_
      simp only
      rw [if_pos ⟨by omega, by omega⟩]
      rfl
    have h2 : pev P (Instr.sliceBound (.int k (i : Int)) j .slice3C) = some i := by
      unfold Instr.sliceBound
      refine (pev_mbind (a := (k, (i : Int))) rfl).trans ?_
      simp only
      rw [if_pos ⟨by omega, by omega⟩]
      rfl
    refine (pev_mbind h0).trans ?_
    refine (pev_mbind h1).trans ?_
    refine (pev_mbind h2).trans ?_
    rfl
  refine (pev_mbind hb).trans ?_
  simp only
  refine (pev_mbind hs).trans ?_
  rfl
end
section
variable {P : Program} {n : Nat} {ops : Array Oper} {os : List Oper} {K : Sl → Pv → AH → Prop} {E : Value → Sl → Pv → AH → Prop} {S : Sl} {L : Pv} {h : AH} {d : Option Tmp} {ty : TypeId} {ps : String} {af : Array Edge}
/-- Cells are copied into a block of one's own. -/
theorem op_copyP (i : Nat) {sT xT e e' : TypeId} {x y : Operand} {m b o dl dc lx cx k : Nat} {A : Option Addr} {cs cs' xs : List Value} (hx : ev n S x = .slice (some ⟨b, o, none⟩) dl dc) (hy : ev n S y = .slice A lx cx) (hi : L[i]? = some (some (b, .cells cs.toArray e' (0, 0)))) (hk : Nat.min lx dl = k)
    (hr : Valid h L → Rd (wl h L) A xs) (hl : xs.length = k * m) (hp : xs.all plainB = true) (ht : pev P (underlying sT) = some (.slice e)) (hs : pev P (sizeOf e) = some m) (hb : o + xs.length ≤ cs.length) (hw : wrL cs o xs = cs')
    (kk : wpL P n ops os K E (put S d (.int .i64 k)) (L.set i (some (b, .cells cs'.toArray e' (0, 0)))) h) : wpL P n ops (⟨d, .call ⟨.builtin .copy, #[x, y], #[sT, xT]⟩, ty, ps, af, none⟩ :: os) K E S L h := by
  refine op_of fun V => ?_
  unfold opW
  rw [exec_builtin (xs := [x, y]) (vs := [.slice (some ⟨b, o, none⟩) dl dc, .slice A lx cx]) (by simp [hx, hy])]
  refine dem_bind ?_
  show dem P (Builtin.copy_ #[sT, xT] ty #[.slice (some ⟨b, o, none⟩) dl dc, .slice A lx cx]) _ _ _
  unfold Builtin.copy_
  refine dem_pev_bind ht ?_
  simp only
  refine dem_pev_bind (a := lx) rfl (dem_pev_bind hs ?_)
  rw [hk]
  refine dem_bind (rd_cells (hr V) hl ?_)
  refine dem_bind (dem_storeFrom xs _ cs.toArray o 0 (wl_get V hi) (by simp; omega) hp ?_)
  rw [wl_set V hi, Nat.add_zero, wr_list, hw]
  exact ⟨_, h, rfl, valid_set V hi, kk⟩
/-- Cells of a block of one's own are cleared. -/
theorem op_clearP (i : Nat) {sT e e' : TypeId} {x : Operand} {m b o dl dc : Nat} {cs cs' zc : List Value} {z : Value} (hx : ev n S x = .slice (some ⟨b, o, none⟩) (dl + 1) dc) (hi : L[i]? = some (some (b, .cells cs.toArray e' (0, 0))))
    (ht : pev P (underlying sT) = some (.slice e)) (hz : pev P (zeroValue e) = some z) (hzc : z.cells = zc.toArray) (hp : zc.all plainB = true) (hzl : zc.length = m) (hb : o + (dl + 1) * m ≤ cs.length) (hw : wrL cs o ((List.range ((dl + 1) * m)).map fun i => zc[i % zc.length]!) = cs')
    (kk : wpL P n ops os K E (put S d (.tuple #[])) (L.set i (some (b, .cells cs'.toArray e' (0, 0)))) h) : wpL P n ops (⟨d, .call ⟨.builtin .clear, #[x], #[sT]⟩, ty, ps, af, none⟩ :: os) K E S L h := by
  refine op_of fun V => ?_
  unfold opW
  rw [exec_builtin (xs := [x]) (vs := [.slice (some ⟨b, o, none⟩) (dl + 1) dc]) (by simp [hx])]
  refine dem_bind ?_
  show dem P (Builtin.clear_ #[sT] ty #[.slice (some ⟨b, o, none⟩) (dl + 1) dc]) _ _ _
  unfold Builtin.clear_
  refine dem_pev_bind ht ?_
  show dem P (zeroValue e >>= fun z => ((storeCells ⟨b, o, none⟩ (Builtin.zeroCells z.cells (dl + 1)).toList) >>= fun _ => pure (Value.tuple #[]))) _ _ _
  refine dem_pev_bind hz (dem_bind ?_)
  have e1 : (Builtin.zeroCells z.cells (dl + 1)).toList = (List.range ((dl + 1) * m)).map fun i => zc[i % zc.length]! := by
    rw [hzc]
    unfold Builtin.zeroCells
    rw [List.size_toArray, hzl]
    have := range_map zc ((dl + 1) * m)
    rw [List.size_toArray, hzl] at this
    rw [this, ← hzl]
  rw [e1]
  refine dem_storeFrom _ _ cs.toArray o 0 (wl_get V hi) (by simp; omega) ?_ ?_
  · rw [List.all_map, List.all_eq_true]
    intro j _
    rw [List.all_eq_true] at hp
    show plainB (zc[j % zc.length]!) = true
    by_cases h0 : zc.length = 0
    · rw [List.length_eq_zero_iff.1 h0]; rfl
    · have hlt := Nat.mod_lt j (Nat.pos_of_ne_zero h0)
      rw [getElem!_pos zc _ hlt]
      exact hp _ (List.getElem_mem hlt)
  · rw [wl_set V hi, Nat.add_zero, wr_list, hw]
    exact ⟨_, h, rfl, valid_set V hi, kk⟩
/-- What is appended where there is room: the cells behind are written over. -/
theorem op_appendIn (i : Nat) {sT xT e e' e2 : TypeId} {x y : Operand} {m b len cap lx cx : Nat} {A : Option Addr} {cs cs' xs : List Value} (hx : ev n S x = .slice (some ⟨b, 0, none⟩) len cap) (hy : ev n S y = .slice A lx cx) (hi : L[i]? = some (some (b, .cells cs.toArray e' (0, 0))))
    (hr : Valid h L → Rd (wl h L) A xs) (hl : xs.length = lx * m) (hp : xs.all plainB = true) (ht : pev P (underlying sT) = some (.slice e)) (hu : pev P (underlying xT) = some (.slice e2)) (hs : pev P (sizeOf e) = some m) (hc : len + lx ≤ cap) (hb : len * m + xs.length ≤ cs.length) (hw : wrL cs (len * m) xs = cs')
    (kk : wpL P n ops os K E (put S d (.slice (some ⟨b, 0, none⟩) (len + lx) cap)) (L.set i (some (b, .cells cs'.toArray e' (0, 0)))) h) : wpL P n ops (⟨d, .call ⟨.builtin .append, #[x, y], #[sT, xT]⟩, ty, ps, af, none⟩ :: os) K E S L h := by
  refine op_of fun V => ?_
  unfold opW
  rw [exec_builtin (xs := [x, y]) (vs := [.slice (some ⟨b, 0, none⟩) len cap, .slice A lx cx]) (by simp [hx, hy])]
  refine dem_bind ?_
  show dem P (Builtin.append_ #[sT, xT] ty #[.slice (some ⟨b, 0, none⟩) len cap, .slice A lx cx]) _ _ _
  unfold Builtin.append_
  refine dem_pev_bind ht (dem_pev_bind hs ?_)
  refine dem_pev_bind hu (dem_pev_bind (a := false) rfl ?_)
  simp only [Bool.false_eq_true, if_false, Bool.not_false, if_true]
  refine dem_pev_bind (a := lx) rfl ?_
  rw [if_pos hc]
  refine dem_bind (rd_cells (hr V) hl ?_)
  refine dem_bind ?_
  show dem P (storeCells ((⟨b, 0, none⟩ : Addr).add (len * m)) xs) _ _ _
  rw [add_none]
  refine dem_storeFrom xs _ cs.toArray (0 + len * m) 0 (wl_get V hi) (by simp; omega) hp ?_
  rw [wl_set V hi, Nat.add_zero, wr_list, Nat.zero_add, hw]
  exact ⟨_, h, rfl, valid_set V hi, kk⟩
/-- Zeros are appended where there is no room: a new block. -/
theorem op_appendMake {sT xT e : TypeId} {x y : Operand} {m len cap k : Nat} {A : Option Addr} {cs : List Value} {z : Value} {zc : List Value} {inf : TypeInfo} {ik : IntKind} {k' : Int} (hx : ev n S x = .slice A len cap) (hy : ev n S y = .int .i64 k') (ek : k' = k)
    (hr : Valid h L → Rd (wl h L) A cs) (hl : cs.length = len * m) (ht : pev P (underlying sT) = some (.slice e)) (hu : pev P (underlying xT) = some (.int ik)) (hi' : pev P (typeInfo e) = some inf) (hs : pev P (sizeOf e) = some m)
    (hz : pev P (zeroValue e) = some z) (hzc : z.cells = zc.toArray) (hzl : zc.length = m) (hm : 0 < m) (hby : Nat.ble inf.bytes 1024 = true) (hsmall : len + k < 2 ^ 30) (hk0 : 0 < k) (hcap : cap < len + k)
    (kk : ∀ (b cap' : Nat) (junk : List Value), wl h L b = none → junk.length + len * m = cap' * m → len + k ≤ cap' → wpL P n ops os K E (put S d (.slice (some ⟨b, 0, none⟩) (len + k) cap')) (L ++ [some (b, .cells (cs ++ junk).toArray e (0, 0))]) h) :
    wpL P n ops (⟨d, .call ⟨.builtin .append, #[x, y], #[sT, xT]⟩, ty, ps, af, none⟩ :: os) K E S L h := by
  subst ek
  refine op_of fun V => ?_
  have hby' := Nat.le_of_ble_eq_true hby
  unfold opW
  rw [exec_builtin (xs := [x, y]) (vs := [.slice A len cap, .int .i64 (k : Int)]) (by simp [hx, hy])]
  refine dem_bind ?_
  show dem P (Builtin.append_ #[sT, xT] ty #[.slice A len cap, .int .i64 (k : Int)]) _ _ _
  unfold Builtin.append_
  refine dem_pev_bind ht (dem_pev_bind hs ?_)
  refine dem_pev_bind hu (dem_pev_bind (a := true) rfl ?_)
  simp only [if_true, Bool.not_true, Bool.false_eq_true, if_false]
  have hwr : IntKind.i64.wrap (k : Int) = k := IntWalk.i64_in _ (by omega)
  refine dem_pev_bind (s := asInt (.int .i64 (k : Int))) (a := (k : Int)) rfl ?_
  simp only [hwr]
  rw [if_neg (by omega)]
  have hmul : (k : Int) * (inf.bytes : Int) ≤ 2 ^ 30 * 1024 := by
    have h1 : k * inf.bytes ≤ 2 ^ 30 * 1024 := Nat.mul_le_mul (by omega) hby'
    have h2 : ((k * inf.bytes : Nat) : Int) ≤ ((2 ^ 30 * 1024 : Nat) : Int) := by exact_mod_cast h1
    simpa using h2
  refine dem_pev_bind hi' ?_
  rw [if_neg (by omega)]
  refine dem_pev_bind (a := (k : Int).toNat) rfl ?_
  simp only [Int.toNat_natCast]
  rw [if_neg (by omega)]
  have hneed : len + k < 2 ^ 30 := hsmall
  have hcapb : Builtin.nextslicecap (len + k) cap * inf.bytes ≤ 2 * 2 ^ 30 * 1024 := Nat.mul_le_mul (Nat.le_trans (nextslicecap_le (by omega)) (by omega)) hby'
  have hmx : ¬ ((len + k : Nat) : Int) > IntKind.i64.max := by
    show ¬ ((len + k : Nat) : Int) > 9223372036854775807
    omega
  refine dem_pev_bind hi' ?_
  rw [if_neg (fun y => hmx y.1)]
  refine dem_pev_bind hi' ?_
  rw [if_neg (by omega)]
  refine dem_bind ?_
  intro t
  show dem P _ _ _ _
  refine dem_pev_bind hi' ?_
  refine dem_bind ?_
  have hroom : ∀ (q : Nat) {K' : Unit → AH → Prop} {E' : Value → AH → Prop} {H : AH}, K' () H → dem P (askRoom q) H K' E' := by
    intro q K' E' H kk
    unfold askRoom
    split
    · exact ⟨rfl, kk⟩
    · exact kk
  refine hroom _ ?_
  refine dem_bind (rd_cells (hr V) hl ?_)
  have hkm : ¬ k * m = 0 := fun h0 => by rcases Nat.mul_eq_zero.1 h0 with h0 | h0 <;> omega
  rw [if_neg hkm]
  refine dem_pev_bind (a := Builtin.zeroCells z.cells k) ((pev_mbind hz).trans rfl) (dem_pev_bind hz ?_)
  rw [hzc]
  obtain ⟨j, hj, hjl⟩ := zeroCells_list zc ((Question.appendCap (len + k) cap e).cut t - (len + k))
  obtain ⟨j0, hj0, hjl0⟩ := zeroCells_list zc k
  rw [hj, hj0]
  refine dem_bind (dem_bind ?_)
  intro b hb
  have hge : len + k ≤ (Question.appendCap (len + k) cap e).cut t := Nat.le_add_right _ _
  have ea : cs.toArray ++ j0.toArray ++ j.toArray = (cs ++ (j0 ++ j)).toArray := by simp
  rw [ea]
  have hlen : (j0 ++ j).length + len * m = (Question.appendCap (len + k) cap e).cut t * m := by
    rw [List.length_append, hjl, hjl0, hzl, ← Nat.add_mul, ← Nat.add_mul]
    congr 1
    omega
  exact ⟨_, h, wl_new hb _, valid_new V hb _, kk b _ (j0 ++ j) hb hlen hge⟩
/-- Two slices in two blocks do not overlap. -/
theorem op_overlaps {x : Operand} {xs : List Operand} {ats : Array TypeId} {g : FuncId} {fn : Func} {tS e e1 e2 : TypeId} {size a b la ca lb cb oa ob : Nat} {rs : Array TypeId} {c1 c2 : Array Value} (hf : ev n S x = .func (.func g) #[] #[]) (hg : P.funcs[g]? = some fn) (hname : (fn.name == "runtime.NumGoroutine") = false) (hb : fn.body.isNone = true)
    (hn : Extern.findNext fn = none) (he : Extern.find fn = some (Extern.SlicesOverlaps.overlaps #[tS, tS] rs)) (hx : xs.map (ev n S) = [.slice (some ⟨a, oa, none⟩) la ca, .slice (some ⟨b, ob, none⟩) lb cb]) (ht : pev P (underlying tS) = some (.slice e)) (hs : pev P (sizeOf e) = some size)
    (h1 : Valid h L → wl h L a = some (.cells c1 e1 (0, 0))) (h2 : Valid h L → wl h L b = some (.cells c2 e2 (0, 0))) (hne : Valid h L → a ≠ b)
    (kk : wpL P n ops os K E (put S d (.bool false)) L h) : wpL P n ops (⟨d, .call ⟨.value x, xs.toArray, ats⟩, ty, ps, af, none⟩ :: os) K E S L h := by
  refine op_of fun V => ?_
  unfold opW
  rw [exec_call (caps := []) (vs := [.slice (some ⟨a, oa, none⟩) la ca, .slice (some ⟨b, ob, none⟩) lb cb]) (by simpa using hf) (by rw [List.append_nil]; exact hx)]
  have h1' := h1 V
  have h2' := h2 V
  have hne := hne V
  have hab : ((⟨a, oa, none⟩ : Addr).block != (⟨b, ob, none⟩ : Addr).block) = true := by simpa using hne
  have hba : ((⟨a, oa, none⟩ : Addr).block == (⟨b, ob, none⟩ : Addr).block) = false := by simpa using hne
  show dem P (match P.funcs[g]? with | none => _ | some fn => _) _ _ _
  rw [hg]
  simp only [hname, hb, Bool.false_eq_true, if_false, if_true]
  refine ⟨rfl, ?_⟩
  simp only [hn, he]
  show dem P (Extern.SlicesOverlaps.overlaps #[tS, tS] rs #[.slice (some ⟨a, oa, none⟩) la ca, .slice (some ⟨b, ob, none⟩) lb cb] >>= fun v => pure (Next.value v)) _ _ _
  refine dem_bind ?_
  have fz : ∀ (r o : Nat) (c : Array Value) (t : TypeId) {K' : Bool → AH → Prop} {E' : Value → AH → Prop}, wl h L r = some (.cells c t (0, 0)) → K' false (wl h L) → dem P (frozen ⟨r, o, none⟩) (wl h L) K' E' := by
    intro r o c t K' E' hr k
    refine ⟨_, hr, fun t ht => ?_⟩
    cases t with
    | false => exact k
    | true => exact absurd (ht rfl) (by simp [frozenO])
  change dem P (α := Value) (do
    let some t := (#[tS, tS] : Array TypeId)[0]? | stuck "slices.overlaps: no parameter types"
    let .slice elem ← underlying t | stuck "slices.overlaps: slice type expected"
    let size ← sizeOf elem
    match (some ⟨a, oa, none⟩ : Option Addr), (some ⟨b, ob, none⟩ : Option Addr) with
    | some a, some b =>
      if la = 0 ∨ lb = 0 ∨ size = 0 then pure (Value.bool false)
      else if a.block != b.block && (← frozen a) && (← frozen b) then unsupported .addressObserved
      else do
        if a.block != b.block then do
          noView a; noView b
          if ← mayBeOne a b then return Value.bool ((← choose (.extern "sameAddr.stringBytes" 2)) == 1)
        pure (Value.bool (a.block == b.block && a.off < b.off + lb * size && b.off < a.off + la * size))
    | _, _ => pure (Value.bool false)) _ _ _
  refine dem_pev_bind (s := underlying tS) ht ?_
  refine dem_pev_bind (s := sizeOf e) hs ?_
  by_cases h0 : la = 0 ∨ lb = 0 ∨ size = 0
  · simp only [if_pos h0]
    exact ⟨L, h, rfl, V, kk⟩
  · simp only [if_neg h0]
    refine dem_bind (fz a oa _ _ h1' ?_)
    refine dem_bind (fz b ob _ _ h2' ?_)
    simp only [Bool.and_false, Bool.false_eq_true, if_false, hab, if_true]
    have shp : ∀ (r : Nat) (c : Array Value) (t : TypeId) {K' : Option (TypeId × Nat) → AH → Prop} {E' : Value → AH → Prop}, wl h L r = some (.cells c t (0, 0)) → K' (some (t, c.size)) (wl h L) → dem P (shape r) (wl h L) K' E' := by
      intro r c t K' E' hr k
      exact ⟨_, hr, k⟩
    have nv : ∀ (r o : Nat) (c : Array Value) (t : TypeId) {K' : Unit → AH → Prop} {E' : Value → AH → Prop}, wl h L r = some (.cells c t (0, 0)) → K' () (wl h L) → dem P (noView ⟨r, o, none⟩) (wl h L) K' E' := by
      intro r o c t K' E' hr k
      unfold noView viewAt
      refine dem_bind (dem_bind (shp r c t hr ?_))
      exact k
    have st : ∀ (r o : Nat) (c : Array Value) (t : TypeId) {K' : Bool → AH → Prop} {E' : Value → AH → Prop}, wl h L r = some (.cells c t (0, 0)) → K' false (wl h L) → dem P (stringish ⟨r, o, none⟩) (wl h L) K' E' := by
      intro r o c t K' E' hr k
      unfold stringish
      refine dem_bind (fz r o c t hr ?_)
      refine dem_bind (shp r c t hr ?_)
      exact fz r c.size c t hr k
    refine dem_bind (nv a oa _ _ h1' ?_)
    refine dem_bind (nv b ob _ _ h2' ?_)
    have mb : ∀ {K' : Bool → AH → Prop} {E' : Value → AH → Prop}, K' false (wl h L) → dem P (mayBeOne ⟨a, oa, none⟩ ⟨b, ob, none⟩) (wl h L) K' E' := by
      intro K' E' k
      unfold mayBeOne
      refine dem_bind (st a oa _ _ h1' ?_)
      refine dem_bind (st b ob _ _ h2' ?_)
      refine dem_bind (dem_bind (shp a _ _ h1' ?_))
      refine dem_bind (dem_bind (shp b _ _ h2' ?_))
      exact k
    refine dem_bind (mb ?_)
    have hba2 : (a == b) = false := by simpa using hne
    simp only [Bool.false_eq_true, if_false, hba2, Bool.false_and]
    exact ⟨L, h, rfl, V, kk⟩
end
end Go.HL
/- The own logic, part GX: a call of a function that may panic, numbers of another kind. Conditions: none. -/
namespace Go.HL
open Go
variable [Lvl]
section
variable {P : Program} {n : Nat} {ops : Array Oper} {os : List Oper} {K : Sl → Pv → AH → Prop} {E : Value → Sl → Pv → AH → Prop} {S : Sl} {L : Pv} {h : AH} {d : Option Tmp} {ty : TypeId} {ps : String} {af : Array Edge}
theorem op_fnE {x : Operand} {xs : List Operand} {ats : Array TypeId} {g : FuncId} {caps vs : List Value} {R Q : Value → AH → Prop} (hf : ev n S x = .func (.func g) #[] caps.toArray) (hc : callable P g = true) (hx : xs.map (ev n S) ++ caps = vs) (c : FnE P g vs.toArray h R Q)
    (e : ∀ v h', Ext h h' → Q v h' → E v S L h') (k : ∀ v h', Ext h h' → R v h' → wpL P n ops os K E (put S d v) L h') : wpL P n ops (⟨d, .call ⟨.value x, xs.toArray, ats⟩, ty, ps, af, none⟩ :: os) K E S L h :=
  op_call hf hc hx (CallT.mono c (fun v h' r => k v h' r.1 r.2) (fun v h' r => e v h' r.1 r.2))
theorem pv_conv {x : Operand} {s t : TypeId} {q k : IntKind} {z z' : Int} {us : TypeDesc} (hx : ev n S x = .int q z) (hs : pev P (underlying s) = some us) (ht : pev P (underlying t) = some (.int k)) (hz : k.wrap z = z') :
    pev P (execOp (ev n S) ⟨d, .convert s t x, ty, ps, af, none⟩) = some (.value (.int k z')) := by
  subst hz
  simp only [execOp, hx]
  refine (pev_bind (a := .int k (k.wrap z)) ?_).trans rfl
  unfold convert
  refine (pev_mbind hs).trans ?_
  refine (pev_mbind ht).trans ?_
  rfl
theorem pv_sliceLoS {x lo : Operand} {t e : TypeId} {m len cap : Nat} {A : Option Addr} (i : Nat) {A' : Option Addr} {l' c' : Nat} {k : IntKind} {i' : Int} (hx : ev n S x = .slice A len cap) (hl : ev n S lo = .int k i') (ei : i' = i) (ht : pev P (underlying t) = some (.slice e)) (hs : pev P (sizeOf e) = some m) (hij : i ≤ len) (hc : len ≤ cap)
    (eA : (if cap = i then A else A.map (·.add (i * m))) = A') (el : len - i = l') (ec : cap - i = c') :
    pev P (execOp (ev n S) ⟨d, .slice t x (some lo) none none, ty, ps, af, none⟩) = some (.value (.slice A' l' c')) := by
  subst eA el ec
  exact pv_sliceLo i hx hl ei ht hs hij hc
theorem slA {b i cap : Nat} (h : i < cap) : (if cap = i then some (⟨b, 0, none⟩ : Addr) else (some (⟨b, 0, none⟩ : Addr)).map (·.add (i * 1))) = some ⟨b, i, none⟩ := by
  rw [if_neg (by omega), Option.map_some, add_none, Nat.mul_one, Nat.zero_add]
theorem pv_assert {x : Operand} {xt t : TypeId} {v : Value} {u : TypeDesc} (hx : ev n S x = .iface t v) (hu : pev P (underlying t) = some u) (hni : (match u with | .interface _ => false | _ => true) = true) :
    pev P (execOp (ev n S) ⟨d, .typeAssert x xt t true, ty, ps, af, none⟩) = some (.value (.tuple #[v, .bool true])) := by
  simp only [execOp, hx]
  refine (pev_bind (a := .tuple #[v, .bool true]) ?_).trans rfl
  unfold Instr.typeAssert
  refine (pev_mbind hu).trans ?_
  cases u <;> first | (cases hni; done) | (simp only [if_true]; rfl)
end
section
variable {P : Program} {m n : Nat} {K' : Post} {S : Sl} {D : Df} {L : Pv} {h : AH}
/-- The first region of a closure that recovers, and what stands behind it. -/
def bodyOps (f : Func) : Array Oper := match f.body with | some (.seq (.region _ o _) _) => o | _ => #[]
def bodyRest (f : Func) : Code := match f.body with | some (.seq _ c) => c | _ => .skip
/-- A closure that was put off, behind its word that recovers. -/
theorem clo_run {ops : Array Oper} {o1 : Oper} {c2 : Code} (h1 : ops[1]? = some o1) (hz : ops[2]? = none) (hc : calmB [o1] = true)
    (w : wpL P m ops [o1] (fun S' L' h' => xp P m none c2 K' S' [] L' h') (fun v S' L' h' => K' (.panic v) S' [] L' h') S L h) : Goes P m none ([.inRegion ops [1]] ++ [.code c2]) K' S [] L h := by
  refine goes_append trivial ?_
  refine goes_list [o1] (calm_of _ hc) 1 S L h (fun j => ?_) w
  match j with
  | 0 => exact h1.symm
  | j + 1 =>
    have : ops.size ≤ 2 := by simpa using hz
    rw [show 1 + (j + 1) = j + 2 from by omega, Array.getElem?_eq_none (by omega)]
    rfl
theorem doneK_list {fn : Func} {K : Value → AH → Prop} {rs : List ResultVar} {vs : List Value} (hr : fn.results = rs.toArray) (hv : ResL P n S L h rs vs) (k : Valid h L → K (tupV vs) (wl h L)) : doneK P n fn K S L h := fun V => res_core hr hv V (k V)
end
end Go.HL
/- Walks: a search in a list in order. Conditions: as each theorem states. -/
namespace Go.Proofs.Ytlfbcimcehcomaa
open Go Go.HL Go.Proofs Go.Wx Go.Rd
section
variable [Lvl]
set_option maxRecDepth 100000
theorem neself (x : Int) : (!(x == x)) = false := by simp
theorem nanC_ok (x : Int) (h : AH) : FnT Try.prog 121 #[.int .i64 x] h (fun v _ => v = .bool false) := by
  refine call_body Try.func121 rfl Try.ntmps121 rfl ?_
  refine xp_seq ?_
  refine xp_region rfl ?_
  refine op_pure (pv_assign (v := .bool _) rfl) ?_
  refine xp_seq ?_
  refine xp_region rfl ?_
  refine op_pure (pv_move (v := .int .i64 _) rfl) ?_
  refine op_pure (pv_move (v := .int .i64 _) rfl) ?_
  refine op_pure (pv_of (v := .bool _) rfl) ?_
  refine op_pure (pv_assign (v := .bool _) rfl) ?_
  refine xp_ret ?_
  refine res_list (vs := [_]) Try.results121 ⟨resV_tmp rfl rfl, trivial⟩ fun V => ?_
  exact ⟨(ext_wl V), congrArg Value.bool (neself x)⟩
theorem nanS_ok (x : Int) (h : AH) : FnT Try.prog 100 #[.int .i64 x] h (fun v _ => v = .bool false) := by
  refine call_body Try.func100 rfl Try.ntmps100 rfl ?_
  refine xp_seq ?_
  refine xp_region rfl ?_
  refine op_pure (pv_assign (v := .bool _) rfl) ?_
  refine xp_seq ?_
  refine xp_region rfl ?_
  refine op_pure (pv_move (v := .int .i64 _) rfl) ?_
  refine op_pure (pv_move (v := .int .i64 _) rfl) ?_
  refine op_pure (pv_of (v := .bool _) rfl) ?_
  refine op_pure (pv_assign (v := .bool _) rfl) ?_
  refine xp_ret ?_
  refine res_list (vs := [_]) Try.results100 ⟨resV_tmp rfl rfl, trivial⟩ fun V => ?_
  exact ⟨(ext_wl V), congrArg Value.bool (neself x)⟩
theorem less_ok (x y : Int) (h : AH) : FnT Try.prog 99 #[.int .i64 x, .int .i64 y] h (fun v _ => v = .bool (decide (x < y))) := by
  refine call_body Try.func99 rfl Try.ntmps99 rfl ?_
  refine xp_seq ?_
  refine xp_region rfl ?_
  refine op_pure (pv_assign (v := .bool _) rfl) ?_
  refine xp_seq ?_
  refine xp_region rfl ?_
  refine op_pure (pv_move (v := .int .i64 _) rfl) ?_
  refine op_fn (caps := []) (vs := [.int .i64 _]) rfl rfl rfl (nanC_ok x h) ?_
  rintro _ h1 E1 rfl
  refine op_pure (pv_move (v := .bool _) rfl) ?_
  refine guard_no rfl rfl ?_
  refine guard_no rfl rfl ?_
  refine guard_no rfl rfl ?_
  refine op_pure (pv_pickF rfl rfl (v := .bool _) rfl) ?_
  refine op_pure (pv_move (v := .bool _) rfl) ?_
  refine guard_yes rfl rfl ?_
  refine op_pure (pv_move (v := .int .i64 _) rfl) ?_
  refine guard_yes rfl rfl ?_
  refine op_pure (pv_move (v := .int .i64 _) rfl) ?_
  refine guard_yes rfl rfl ?_
  refine op_pure (pv_of (v := .bool _) rfl) ?_
  refine op_pure (pv_pickF rfl rfl (v := .bool _) rfl) ?_
  refine op_pure (pv_assign (v := .bool _) rfl) ?_
  refine xp_ret ?_
  refine res_list (vs := [_]) Try.results99 ⟨resV_tmp rfl rfl, trivial⟩ fun V => ?_
  exact ⟨(Ext.trans E1 (ext_wl V)), rfl⟩
theorem pw_le {l : List Int} (p : l.Pairwise (· < ·)) {i j : Nat} (hi : i < l.length) (hj : j < l.length) (hij : i ≤ j) : l[i] ≤ l[j] := by
  rcases Nat.lt_or_eq_of_le hij with h | rfl
  · exact Int.le_of_lt (List.pairwise_iff_getElem.1 p i j hi hj h)
  · exact Int.le_refl _
/-- Where a number stands, or would stand. -/
def AtP (l : List Int) (z : Int) (i : Nat) : Prop := i ≤ l.length ∧ (∀ k (hk : k < l.length), k < i → l[k] < z) ∧ ∀ k (hk : k < l.length), i ≤ k → z ≤ l[k]
theorem AtP.mem {l : List Int} {z : Int} {i : Nat} (a : AtP l z i) (hi : i < l.length) : (z ∈ l ↔ l[i] = z) ∨ ¬ l.Pairwise (· < ·) := by
  by_cases p : l.Pairwise (· < ·)
  · left
    constructor
    · intro hm
      obtain ⟨k, hk, rfl⟩ := List.getElem_of_mem hm
      by_cases hki : k < i
      · exact absurd (a.2.1 k hk hki) (Int.lt_irrefl _)
      · exact Int.le_antisymm (pw_le p hi hk (by omega)) (a.2.2 i hi (Nat.le_refl _))
    · intro e; rw [← e]; exact List.getElem_mem hi
  · right; exact p
theorem search_ok (l : List Int) (z : Int) (A : Option Addr) (c : Nat) (h : AH) (R : Row h 1 intC A l) (hl : l.length < 2 ^ 20) (p : l.Pairwise (· < ·)) :
    FnT Try.prog 71 #[.slice A l.length c, .int .i64 z] h (fun v _ => ∃ i : Nat, v = .tuple #[.int .i64 (i : Int), .bool (decide (z ∈ l))] ∧ AtP l z i) := by
  refine call_body Try.func71 rfl Try.ntmps71 rfl ?_
  refine xp_seq ?_
  refine xp_region rfl ?_
  refine op_pure (pv_assign (v := .int .i64 _) rfl) ?_
  refine op_pure (pv_assign (v := .bool _) rfl) ?_
  refine xp_seq ?_
  refine xp_region rfl ?_
  refine op_pure (pv_move (v := .slice _ _ _) rfl) ?_
  refine op_pure (pv_len rfl rfl) ?_
  refine op_pure (pv_assign (v := .int .i64 _) rfl) ?_
  refine xp_seq ?_
  refine xp_region rfl ?_
  refine op_pure (pv_move (v := .int .i64 _) rfl) ?_
  refine op_pure (pv_assign (v := .int .i64 _) rfl) ?_
  refine op_pure (pv_assign (v := .int .i64 _) rfl) ?_
  refine xp_seq ?_
  refine xp_block ?_
  refine xp_loopB [7, 8, 9, 13, 14, 15, 16, 17, 18, 19, 20, 21, 22, 23, 24, 25, 26, 27, 28, 29, 30] 0 (α := Nat × Nat) (fun ⟨i, j⟩ => [(7, .int .i64 i), (8, .int .i64 j)]) (fun ⟨i, j⟩ => _) (fun ⟨i, j⟩ h_i => i ≤ j ∧ j ≤ l.length ∧ (∀ k (hk : k < l.length), k < i → l[k] < z) ∧ ∀ k (hk : k < l.length), j ≤ k → z ≤ l[k]) (fun ⟨i, j⟩ => j - i) ((0, l.length)) ⟨rfl, rfl, trivial⟩ (rfl) (⟨Nat.zero_le _, Nat.le_refl _, fun _ _ h => absurd h (Nat.not_lt_zero _), fun _ h1 h2 => absurd h1 (by omega)⟩) ?_
  rintro ⟨i, j⟩ T1 h_i E_i J_i
  refine goes_norm [] rfl ?_
  obtain ⟨K1, K2, K3, K4⟩ := J_i
  refine xp_seq ?_
  refine xp_seq ?_
  refine xp_region rfl ?_
  refine op_pure (pv_move (v := .int .i64 _) rfl) ?_
  refine op_pure (pv_move (v := .int .i64 _) rfl) ?_
  refine op_pure (pv_of (v := .bool _) rfl) ?_
  refine xp_cond rfl (fun hk => ?_) (fun hk => ?_)
  · skip
    have hij : i < j := ltI hk
    refine xp_skip ?_
    refine xp_block ?_
    refine xp_seq ?_
    refine xp_region rfl ?_
    refine op_pure (pv_move (v := .int .i64 _) rfl) ?_
    refine op_pure (pv_move (v := .int .i64 _) rfl) ?_
    refine op_pure (pv_arith rfl (by omega)) ?_
    refine op_pure (pv_conv (k := .u64) (z' := ((i + j : Nat) : Int)) rfl rfl rfl (by rw [← Int.natCast_add]; exact u64_nat _ (by omega))) ?_
    refine op_shr (i + j) 1 rfl rfl rfl rfl (by omega) ?_
    refine op_pure (pv_conv (k := .i64) (z' := (((i + j) / 2 : Nat) : Int)) rfl rfl rfl (by exact IntWalk.i64_in _ (by omega))) ?_
    have hm1 : (i + j) / 2 < j := by omega
    have hm0 : i ≤ (i + j) / 2 := by omega
    obtain ⟨m, hm⟩ : ∃ m, m = (i + j) / 2 := ⟨_, rfl⟩
    rw [← hm] at hm1 hm0 ⊢
    have hml : m < l.length := by omega
    obtain ⟨g, off, hA, hc⟩ := (R.ext E_i).at (by omega) hml
    refine op_pure (pv_assign (v := .int .i64 _) rfl) ?_
    refine xp_seq ?_
    refine xp_region rfl ?_
    refine op_pure (pv_move (v := .slice _ _ _) rfl) ?_
    refine op_pure (pv_move (v := .int .i64 _) rfl) ?_
    refine op_pure (pv_indexE rfl hA rfl rfl rfl (by omega) (by omega)) ?_
    refine op_load (v := .int .i64 _) rfl rfl ((hc) 0 _ rfl) ?_
    refine op_pure (pv_move (v := .int .i64 _) rfl) ?_
    refine op_fn (caps := []) (vs := [.int .i64 _, .int .i64 _]) rfl rfl rfl (less_ok l[m] z h_i) ?_
    rintro _ h1 E1 rfl
    refine xp_cond rfl (fun he => ?_) (fun he => ?_)
    · skip
      have he' : l[m] < z := of_decide_eq_true he
      refine xp_region rfl ?_
      refine op_pure (pv_move (v := .int .i64 _) rfl) ?_
      refine op_pure (pv_arith rfl (by omega)) ?_
      refine op_pure (pv_assign (v := .int .i64 _) rfl) ?_
      refine ⟨(m + 1, j), ⟨rfl, rfl, trivial⟩, rfl, rfl, (Ext.trans E_i E1), fun h3 E3 => ⟨hm1, K2, fun k hk h => Int.lt_of_le_of_lt (pw_le p hk hml (by omega)) he', K4⟩, by first | omega | (dsimp only; omega), ?_⟩
      repeat (first | exact off_base _ _ _ | refine off_upd (by decide) ?_ | refine off_updL rfl ?_ | refine off_mix rfl ?_)
    · skip
      have he' : ¬ l[m] < z := of_decide_eq_false he
      refine xp_region rfl ?_
      refine op_pure (pv_move (v := .int .i64 _) rfl) ?_
      refine op_pure (pv_assign (v := .int .i64 _) rfl) ?_
      refine ⟨(i, m), ⟨rfl, rfl, trivial⟩, rfl, rfl, (Ext.trans E_i E1), fun h3 E3 => ⟨hm0, by omega, K3, fun k hk h => Int.le_trans (by omega) (pw_le p hml hk h)⟩, by first | omega | (dsimp only; omega), ?_⟩
      repeat (first | exact off_base _ _ _ | refine off_upd (by decide) ?_ | refine off_updL rfl ?_ | refine off_mix rfl ?_)
  · skip
    have hke : i = j := by have := geI hk; omega
    subst hke
    have AT : AtP l z i := ⟨K2, K3, K4⟩
    by_cases hil : i < l.length
    · have hg : decide ((i : Int) < (l.length : Int)) = true := decide_eq_true (by omega)
      have hmem := (AT.mem hil).resolve_right (fun y => y p)
      obtain ⟨g, off, hA, hc⟩ := (R.ext E_i).at (by omega) hil
      refine xp_exit ?_
      refine xp_seq ?_
      refine xp_region rfl ?_
      refine op_pure (pv_move (v := .int .i64 _) rfl) ?_
      refine op_pure (pv_move (v := .int .i64 _) rfl) ?_
      refine op_pure (pv_move (v := .int .i64 _) rfl) ?_
      refine op_pure (pv_of (v := .bool _) rfl) ?_
      refine op_pure (pv_move (v := .bool _) rfl) ?_
      refine guard_yes rfl hg ?_
      refine op_pure (pv_move (v := .slice _ _ _) rfl) ?_
      refine guard_yes rfl hg ?_
      refine op_pure (pv_move (v := .int .i64 _) rfl) ?_
      refine guard_yes rfl hg ?_
      refine op_pure (pv_indexE rfl hA rfl rfl rfl (by omega) (by omega)) ?_
      refine guard_yes rfl hg ?_
      refine op_load (v := .int .i64 _) rfl rfl ((hc) 0 _ rfl) ?_
      refine guard_yes rfl hg ?_
      refine op_pure (pv_move (v := .int .i64 _) rfl) ?_
      refine guard_yes rfl hg ?_
      refine op_pure (pv_of (v := .bool _) rfl) ?_
      refine guard_yes rfl hg ?_
      refine op_pure (pv_move (v := .bool _) rfl) ?_
      by_cases hz : l[i] = z
      · have hg2 : (l[i] == z) = true := by simpa using hz
        refine guard_no rfl hg2 ?_
        refine guard_no rfl hg2 ?_
        refine guard_no rfl hg2 ?_
        refine guard_no rfl hg2 ?_
        refine guard_no rfl hg2 ?_
        refine guard_no rfl hg2 ?_
        refine guard_un rfl ?_
        refine guard_un rfl ?_
        refine guard_no rfl hg2 ?_
        refine guard_yes rfl hg ?_
        refine op_pure (pv_pickT rfl hg2 (v := .bool _) rfl) ?_
        refine op_pure (pv_pickT rfl hg (v := .bool _) rfl) ?_
        refine op_pure (pv_assign (v := .int .i64 _) rfl) ?_
        refine op_pure (pv_assign (v := .bool _) rfl) ?_
        refine xp_ret ?_
        refine res_list (vs := [_, _]) Try.results71 ⟨resV_tmp rfl rfl, resV_tmp rfl rfl, trivial⟩ fun V => ?_
        exact ⟨(Ext.trans E_i (ext_wl V)), i, (congrArg (fun b => Value.tuple #[.int .i64 i, .bool b]) (decide_eq_true (hmem.2 hz)).symm), AT⟩
      · have hg2 : (l[i] == z) = false := by simpa using hz
        obtain ⟨g2, off2, hA2, hc2⟩ := (R.ext E_i).at (by omega) hil
        refine guard_yes rfl hg2 ?_
        refine op_pure (pv_move (v := .slice _ _ _) rfl) ?_
        refine guard_yes rfl hg2 ?_
        refine op_pure (pv_move (v := .int .i64 _) rfl) ?_
        refine guard_yes rfl hg2 ?_
        refine op_pure (pv_indexE rfl hA2 rfl rfl rfl (by omega) (by omega)) ?_
        refine guard_yes rfl hg2 ?_
        refine op_load (v := .int .i64 _) rfl rfl ((hc2) 0 _ rfl) ?_
        refine guard_yes rfl hg2 ?_
        refine op_fn (caps := []) (vs := [.int .i64 _]) rfl rfl rfl (nanS_ok l[i] h_i) ?_
        rintro _ h1 E1 rfl
        refine guard_yes rfl hg2 ?_
        refine op_pure (pv_move (v := .bool _) rfl) ?_
        refine guard_no rfl rfl ?_
        refine guard_no rfl rfl ?_
        refine guard_yes rfl hg2 ?_
        refine op_pure (pv_pickF rfl rfl (v := .bool _) rfl) ?_
        refine guard_yes rfl hg ?_
        refine op_pure (pv_pickF rfl hg2 (v := .bool _) rfl) ?_
        refine op_pure (pv_pickT rfl hg (v := .bool _) rfl) ?_
        refine op_pure (pv_assign (v := .int .i64 _) rfl) ?_
        refine op_pure (pv_assign (v := .bool _) rfl) ?_
        refine xp_ret ?_
        refine res_list (vs := [_, _]) Try.results71 ⟨resV_tmp rfl rfl, resV_tmp rfl rfl, trivial⟩ fun V => ?_
        exact ⟨(Ext.trans (Ext.trans E_i E1) (ext_wl V)), i, (congrArg (fun b => Value.tuple #[.int .i64 i, .bool b]) (decide_eq_false (fun y => hz (hmem.1 y))).symm), AT⟩
    · have hg : decide ((i : Int) < (l.length : Int)) = false := decide_eq_false (by omega)
      refine xp_exit ?_
      refine xp_seq ?_
      refine xp_region rfl ?_
      refine op_pure (pv_move (v := .int .i64 _) rfl) ?_
      refine op_pure (pv_move (v := .int .i64 _) rfl) ?_
      refine op_pure (pv_move (v := .int .i64 _) rfl) ?_
      refine op_pure (pv_of (v := .bool _) rfl) ?_
      refine op_pure (pv_move (v := .bool _) rfl) ?_
      refine guard_no rfl hg ?_
      refine guard_no rfl hg ?_
      refine guard_no rfl hg ?_
      refine guard_no rfl hg ?_
      refine guard_no rfl hg ?_
      refine guard_no rfl hg ?_
      refine guard_no rfl hg ?_
      refine guard_un rfl ?_
      refine guard_un rfl ?_
      refine guard_un rfl ?_
      refine guard_un rfl ?_
      refine guard_un rfl ?_
      refine guard_un rfl ?_
      refine guard_un rfl ?_
      refine guard_un rfl ?_
      refine guard_un rfl ?_
      refine guard_no rfl hg ?_
      refine op_pure (pv_pickF rfl hg (v := .bool _) rfl) ?_
      refine op_pure (pv_assign (v := .int .i64 _) rfl) ?_
      refine op_pure (pv_assign (v := .bool _) rfl) ?_
      refine xp_ret ?_
      refine res_list (vs := [_, _]) Try.results71 ⟨resV_tmp rfl rfl, resV_tmp rfl rfl, trivial⟩ fun V => ?_
      have hlen : i = l.length := by have := AT.1; omega
      have hno : ¬ z ∈ l := fun y => by
        obtain ⟨k, hk, e⟩ := List.getElem_of_mem y
        have := AT.2.1 k hk (by omega)
        omega
      exact ⟨(Ext.trans E_i (ext_wl V)), i, (congrArg (fun b => Value.tuple #[.int .i64 i, .bool b]) (decide_eq_false hno).symm), AT⟩
end
end Go.Proofs.Ytlfbcimcehcomaa
/- The own logic, part GU: slice literals of things of many cells. Conditions: none. -/
namespace Go.HL
open Go
variable [Lvl]
theorem wrL_mid : ∀ (c pre j : List Value), c.length ≤ j.length → wrL (pre ++ j) pre.length c = pre ++ c ++ j.drop c.length
  | [], pre, j, _ => by simp [wrL]
  | v :: c, pre, [], h => absurd h (by simp)
  | v :: c, pre, x :: j, h => by
    have e : (pre ++ x :: j).set pre.length v = (pre ++ [v]) ++ j := by simp
    have ih := wrL_mid c (pre ++ [v]) j (by simpa using h)
    rw [List.length_append, List.length_singleton] at ih
    rw [wrL, e, ih]
    simp
variable {P : Program} {n : Nat} {ops : Array Oper} {os : List Oper} {K : Sl → Pv → AH → Prop} {E : Value → Sl → Pv → AH → Prop} {S : Sl} {L : Pv} {h : AH} {d : Option Tmp} {ty : TypeId} {ps : String} {af : Array Edge}
end Go.HL
/- Plain facts: cells that are written over within a row. Conditions: as each theorem states. -/
namespace Go.Wx
open Go Go.HL
variable [Lvl]
theorem rdAt {h : AH} {L : Pv} {i b o : Nat} (pre xs post : List Value) {cs : List Value} {e : TypeId} {f : Nat × Nat} (V : Valid h L) (hi : L[i]? = some (some (b, .cells cs.toArray e f))) (ho : o = pre.length) (hc : cs = pre ++ xs ++ post) : Rd (wl h L) (some ⟨b, o, none⟩) xs := by
  subst ho hc
  intro _
  refine ⟨b, _, rfl, fun j u hu => ?_⟩
  simp only [cellA, wl_get V hi]
  have hj : j < xs.length := (List.getElem?_eq_some_iff.1 hu).1
  have : (pre ++ xs ++ post)[pre.length + j]? = some u := by
    rw [List.append_assoc, List.getElem?_append_right (by omega), Nat.add_sub_cancel_left, List.getElem?_append_left hj]
    exact hu
  simpa using this
theorem rdIf {h : AH} {L : Pv} {i b o cap : Nat} (pre xs post : List Value) {cs : List Value} {e : TypeId} {f : Nat × Nat} (V : Valid h L) (hi : L[i]? = some (some (b, .cells cs.toArray e f))) (ho : o = pre.length) (hc : cs = pre ++ xs ++ post) (hx : xs ≠ [] → o < cap) : Rd (wl h L) (if cap = o then some (⟨b, 0, none⟩ : Addr) else (some (⟨b, 0, none⟩ : Addr)).map (·.add (o * 1))) xs := by
  by_cases hn : xs = []
  · subst hn; exact Rd.nil _ _
  · have := hx hn
    rw [if_neg (by omega), Option.map_some, add_none, Nat.mul_one, Nat.zero_add]
    exact rdAt pre xs post V hi ho hc
theorem wrL_len : ∀ (vs c : List Value) (o : Nat), (wrL c o vs).length = c.length
  | [], _, _ => rfl
  | v :: vs, c, o => by
    show (wrL (c.set o v) (o + 1) vs).length = _
    rw [wrL_len vs, List.length_set]
theorem valid_ne {h : AH} {a b : Nat} {o o' : Obj} (V : Valid h [some (a, o), some (b, o')]) : a ≠ b := by
  have := V.nd
  simp [cl] at this
  exact this
theorem shed_row {α : Type} {m : Nat} {enc : α → List Value} {H h9 : AH} {l : List α} {v : Value} (e : H = wl h9 []) (r : SlR H m enc l v) : SlR h9 m enc l v := by
  rw [wl_nil] at e; exact e ▸ r
/-- A gap is made: the cells from i on move on by one, and one is set. -/
theorem gap_len (A B J : List Value) (hB : B ≠ []) (hJ : J ≠ []) : ∃ b0 X, wrL (A ++ B ++ J) (A.length + 1) B = A ++ [b0] ++ B ++ X ∧ X.length + 1 = J.length ∧ ∀ z, wrL (A ++ [b0] ++ B ++ X) A.length [z] = A ++ [z] ++ B ++ X := by
  cases B with
  | nil => exact absurd rfl hB
  | cons b0 B =>
    have hJ' : 0 < J.length := List.length_pos_iff.2 hJ
    refine ⟨b0, (B ++ J).drop (b0 :: B).length, ?_, ?_, fun z => ?_⟩
    · have := Go.HL.wrL_mid (b0 :: B) (A ++ [b0]) (B ++ J) (by simp; omega)
      rw [List.length_append, List.length_singleton] at this
      rw [← this]
      simp
    · simp; omega
    · have := Go.HL.wrL_mid [z] A ([b0] ++ (b0 :: B) ++ (B ++ J).drop (b0 :: B).length) (by simp)
      simp only [List.append_assoc] at this ⊢
      rw [this]
      simp
theorem gap_new (A B J : List Value) (z : Value) (hJ : B.length + 1 ≤ J.length) : ∃ X, wrL (wrL (A ++ J) A.length [z]) (A.length + 1) B = A ++ [z] ++ B ++ X ∧ X.length + B.length + 1 = J.length := by
  have h1 := Go.HL.wrL_mid [z] A J (by simp; omega)
  refine ⟨(J.drop 1).drop B.length, ?_, by simp; omega⟩
  rw [h1]
  have h2 := Go.HL.wrL_mid B (A ++ [z]) (J.drop 1) (by simp; omega)
  rw [List.length_append, List.length_singleton] at h2
  exact h2
/-- Cells are moved down by one, and the last one is cleared. -/
theorem gap_shut (A B J : List Value) (z0 z : Value) : ∃ X, wrL (A ++ [z0] ++ B ++ J) A.length B = A ++ B ++ X ∧ X.length = J.length + 1 ∧ ∃ Y, wrL (A ++ B ++ X) (A.length + B.length) [z] = A ++ B ++ Y ∧ Y.length = J.length + 1 := by
  refine ⟨([z0] ++ B ++ J).drop B.length, ?_, by simp; omega, [z] ++ (([z0] ++ B ++ J).drop B.length).drop 1, ?_, by first | (simp; done) | (simp; omega)⟩
  · have := Go.HL.wrL_mid B A ([z0] ++ B ++ J) (by simp; omega)
    rw [← this]; simp
  · have := Go.HL.wrL_mid [z] (A ++ B) (([z0] ++ B ++ J).drop B.length) (by simp; omega)
    rw [List.length_append] at this
    rw [this]; simp
end Go.Wx
/- Walks: a number is set into a list, or taken out of it. Conditions: as each theorem states. -/
namespace Go.Proofs.Ytlfbcimcehcomaa
open Go Go.HL Go.Proofs Go.Wx Go.Rd
section
variable [Lvl]
set_option maxRecDepth 100000
theorem flatI (l : List Int) : (l.flatMap intC).length = l.length := by rw [flat_len (m := 1) (fun _ _ => rfl), Nat.mul_one]
theorem insE_ok (l : List Int) (z : Int) (a : Acc) (b : Nat) (h : AH) (ha : AccR 3 1 (l.flatMap intC) a) (hl : l.length < 2 ^ 20) :
    FnM Try.prog (.func (.func 72) #[] ([] : List Value).toArray) [.slice a.A a.n a.c, .int .i64 (l.length : Int), .slice (some ⟨b, 0, none⟩) 1 1] h [a.p, some (b, .cells [Value.int .i64 z].toArray 3 (0, 0))] (fun v h' M' => M' = [] ∧ SlR h' 1 intC (l ++ [z]) v) := by
  have hn : a.n = l.length := by have := ha.len; rw [flatI] at this; omega
  have hc : a.n ≤ a.c := by
    rcases ha with ⟨_, _, A, ev⟩ | ⟨b, len, cap, junk, hl1, ev, _, h4⟩
    · injection ev with _ h2 h3; omega
    · injection ev with _ h2 h3; simp only [List.length_append] at h4; omega
  refine fnM_body rfl rfl Try.func72 rfl Try.ntmps72 rfl ?_
  refine xp_seq ?_
  refine xp_region rfl ?_
  refine op_pure (pv_assign (v := .slice _ _ _) rfl) ?_
  refine xp_seq ?_
  refine xp_region rfl ?_
  refine op_pure (pv_move (v := .slice _ _ _) rfl) ?_
  refine op_pure (pv_move (v := .int .i64 _) rfl) ?_
  refine op_pure (pv_sliceLo l.length rfl rfl rfl rfl rfl (by omega) (by omega)) ?_
  refine xp_seq ?_
  refine xp_region rfl ?_
  refine op_pure (pv_move (v := .slice _ _ _) rfl) ?_
  refine op_pure (pv_len rfl rfl) ?_
  refine op_pure (pv_assign (v := .int .i64 _) rfl) ?_
  refine xp_seq ?_
  refine xp_seq ?_
  refine xp_region rfl ?_
  refine op_pure (pv_move (v := .int .i64 _) rfl) ?_
  refine op_pure (pv_of (v := .bool _) rfl) ?_
  refine xp_condF rfl (rfl) ?_
  refine xp_skip ?_
  refine xp_seq ?_
  refine xp_region rfl ?_
  refine op_pure (pv_move (v := .slice _ _ _) rfl) ?_
  refine op_pure (pv_len rfl rfl) ?_
  refine op_pure (pv_assign (v := .int .i64 _) rfl) ?_
  refine xp_seq ?_
  refine xp_seq ?_
  refine xp_region rfl ?_
  refine op_pure (pv_move (v := .int .i64 _) rfl) ?_
  refine op_pure (pv_move (v := .int .i64 _) rfl) ?_
  refine op_pure (pv_of (v := .bool _) rfl) ?_
  refine xp_condT rfl ((by rw [natBeq]; exact decide_eq_true (by omega))) ?_
  refine xp_seq ?_
  refine xp_region rfl ?_
  refine op_pure (pv_move (v := .slice _ _ _) rfl) ?_
  refine op_pure (pv_move (v := .slice _ _ _) rfl) ?_
  refine op_appendR 0 ha rfl rfl rfl (fun V => rdP V (i := 1) rfl) rfl rfl rfl rfl rfl rfl rfl rfl rfl (by omega) rfl ((by rw [flatI]; simp; omega)) fun a2 h1a E1a ha2 => ?_
  refine wp_norm [_, _] rfl ?_
  refine op_pure (pv_assign (v := .slice _ _ _) rfl) ?_
  refine xp_ret ?_
  refine res_list (vs := [_]) Try.results72 ⟨resV_tmp rfl rfl, trivial⟩ fun V => ?_
  obtain ⟨h9, E9, e9, V9⟩ := wl_shed [_, _] [] V
  exact ⟨h9, [], e9, V9, Ext.trans E1a E9, rfl, shed_row e9 (AccP.row (m := 1) (enc := intC) (i := 0) (l := l ++ [z]) (by rw [List.flatMap_append]; exact ha2) (by omega) (fun _ _ => rfl) V rfl)⟩
theorem insM_ok (p q : List Int) (z : Int) (b0 b n cap : Nat) (J : List Value) (h : AH) (hn : n = p.length + q.length) (hc : n + J.length = cap) (hq : q ≠ []) (hl : n < 2 ^ 20) :
    FnM Try.prog (.func (.func 72) #[] ([] : List Value).toArray) [.slice (some ⟨b0, 0, none⟩) n cap, .int .i64 (p.length : Int), .slice (some ⟨b, 0, none⟩) 1 1] h [some (b0, .cells (p.flatMap intC ++ q.flatMap intC ++ J).toArray 3 (0, 0)), some (b, .cells [Value.int .i64 z].toArray 3 (0, 0))] (fun v h' M' => M' = [] ∧ SlR h' 1 intC (p ++ z :: q) v) := by
  have hq0 : 0 < q.length := List.length_pos_iff.2 hq
  have hA := flatI p
  have hB := flatI q
  have hqB : q.flatMap intC ≠ [] := List.length_pos_iff.1 (by omega)
  have fin : ∀ (X : List Value) (bb cc : Nat), n + 1 + X.length = cc → AccP 3 1 ((p ++ z :: q).flatMap intC) (some (bb, .cells (p.flatMap intC ++ [Value.int .i64 z] ++ q.flatMap intC ++ X).toArray 3 (0, 0))) (.slice (some ⟨bb, 0, none⟩) (n + 1) cc) := by
    intro X bb cc hX
    have e : (p ++ z :: q).flatMap intC = p.flatMap intC ++ [Value.int .i64 z] ++ q.flatMap intC := by rw [List.flatMap_append, List.flatMap_cons, List.append_assoc]; rfl
    refine .inr ⟨bb, n + 1, cc, X, ?_, rfl, by rw [e], ?_⟩
    · rw [flatI]; simp; omega
    · rw [List.length_append, flatI]; simp; omega
  refine fnM_body rfl rfl Try.func72 rfl Try.ntmps72 rfl ?_
  refine xp_seq ?_
  refine xp_region rfl ?_
  refine op_pure (pv_assign (v := .slice _ _ _) rfl) ?_
  refine xp_seq ?_
  refine xp_region rfl ?_
  refine op_pure (pv_move (v := .slice _ _ _) rfl) ?_
  refine op_pure (pv_move (v := .int .i64 _) rfl) ?_
  refine op_pure (pv_sliceLo p.length rfl rfl rfl rfl rfl (by omega) (by omega)) ?_
  refine xp_seq ?_
  refine xp_region rfl ?_
  refine op_pure (pv_move (v := .slice _ _ _) rfl) ?_
  refine op_pure (pv_len rfl rfl) ?_
  refine op_pure (pv_assign (v := .int .i64 _) rfl) ?_
  refine xp_seq ?_
  refine xp_seq ?_
  refine xp_region rfl ?_
  refine op_pure (pv_move (v := .int .i64 _) rfl) ?_
  refine op_pure (pv_of (v := .bool _) rfl) ?_
  refine xp_condF rfl (rfl) ?_
  refine xp_skip ?_
  refine xp_seq ?_
  refine xp_region rfl ?_
  refine op_pure (pv_move (v := .slice _ _ _) rfl) ?_
  refine op_pure (pv_len rfl rfl) ?_
  refine op_pure (pv_assign (v := .int .i64 _) rfl) ?_
  refine xp_seq ?_
  refine xp_seq ?_
  refine xp_region rfl ?_
  refine op_pure (pv_move (v := .int .i64 _) rfl) ?_
  refine op_pure (pv_move (v := .int .i64 _) rfl) ?_
  refine op_pure (pv_of (v := .bool _) rfl) ?_
  refine xp_condF rfl ((by rw [natBeq]; exact decide_eq_false (by omega))) ?_
  refine xp_skip ?_
  refine xp_seq ?_
  refine xp_seq ?_
  refine xp_region rfl ?_
  refine op_pure (pv_move (v := .int .i64 _) rfl) ?_
  refine op_pure (pv_move (v := .int .i64 _) rfl) ?_
  refine op_pure (pv_arith rfl (by omega)) ?_
  refine op_pure (pv_move (v := .slice _ _ _) rfl) ?_
  refine op_pure (pv_cap rfl rfl) ?_
  refine op_pure (pv_of (v := .bool _) rfl) ?_
  refine xp_cond rfl (fun hroom => ?_) (fun hroom => ?_)
  · skip
    have hr : cap < n + 1 := by have := of_decide_eq_true hroom; omega
    refine xp_seq ?_
    refine xp_region rfl ?_
    refine op_pure (pv_move (v := .slice _ _ _) rfl) ?_
    refine op_pure (pv_move (v := .int .i64 _) rfl) ?_
    refine op_pure (pv_sliceHi p.length rfl rfl rfl rfl rfl (by omega)) ?_
    refine op_pure (pv_move (v := .int .i64 _) rfl) ?_
    refine op_pure (pv_move (v := .int .i64 _) rfl) ?_
    refine op_pure (pv_arith rfl (by omega)) ?_
    refine op_pure (pv_move (v := .int .i64 _) rfl) ?_
    refine op_pure (pv_arith rfl (by omega)) ?_
    refine op_appendMake (m := 1) (k := n + 1 - p.length) (cs := p.flatMap intC) rfl rfl (by omega) (fun V => rdAt [] _ (q.flatMap intC ++ J) (i := 0) V rfl rfl (by simp)) (by rw [hA]; exact (Nat.mul_one _).symm) rfl rfl rfl rfl rfl rfl rfl (by decide) rfl (by omega) (by omega) (by omega) fun b9 cap9 j9 h9 hj9 hcap9 => ?_
    refine wp_norm [_, _, _] rfl ?_
    obtain ⟨X, hX, hXl⟩ := gap_new (p.flatMap intC) (q.flatMap intC) j9 (.int .i64 z) (by omega)
    rw [hA] at hX
    have hsum : p.length + (n + 1 - p.length) = n + 1 := by omega
    refine op_pure (pv_assign (v := .slice _ _ _) rfl) ?_
    refine xp_seq ?_
    refine xp_region rfl ?_
    refine op_pure (pv_move (v := .slice _ _ _) rfl) ?_
    refine op_pure (pv_move (v := .int .i64 _) rfl) ?_
    refine op_pure (pv_sliceLoS p.length (A' := some ⟨b9, p.length, none⟩) (l' := n + 1 - p.length) (c' := cap9 - p.length) rfl rfl rfl rfl rfl (by omega) (by omega) (slA (by omega)) (by omega) rfl) ?_
    refine op_pure (pv_move (v := .slice _ _ _) rfl) ?_
    refine op_copyP 2 (cs := p.flatMap intC ++ j9) (xs := [Value.int .i64 z]) (k := 1) rfl rfl rfl (by show min _ _ = _; omega) (fun V => rdP V (i := 1) rfl) rfl rfl rfl rfl (by simp only [List.length_append, List.length_cons, List.length_nil]; omega) rfl ?_
    refine wp_norm [_, _, _] rfl ?_
    refine xp_seq ?_
    refine xp_dw [] rfl rfl rfl ?_
    refine dw_pure (i := 0) rfl (by decide +kernel) (pv_move (v := .slice _ _ _) rfl) ?_
    refine dw_pure (i := 1) rfl (by decide +kernel) (pv_move (v := .int .i64 _) rfl) ?_
    refine dw_pure (i := 2) rfl (by decide +kernel) (pv_move (v := .int .i64 _) rfl) ?_
    refine dw_pure (i := 3) rfl (by decide +kernel) (pv_arith rfl (by omega)) ?_
    refine dw_pure (i := 4) rfl (by decide +kernel) (pv_sliceLoS (p.length + 1) (A' := some ⟨b9, p.length + 1, none⟩) (l' := n - p.length) (c' := cap9 - (p.length + 1)) rfl rfl (by omega) rfl rfl (by omega) (by omega) (slA (by omega)) (by omega) rfl) ?_
    refine dw_pure (i := 5) rfl (by decide +kernel) (pv_move (v := .slice _ _ _) rfl) ?_
    refine dw_pure (i := 6) rfl (by decide +kernel) (pv_move (v := .int .i64 _) rfl) ?_
    refine dw_pure (i := 7) rfl (by decide +kernel) (pv_sliceLoS p.length (A' := some ⟨b0, p.length, none⟩) (l' := n - p.length) (c' := cap - p.length) rfl rfl rfl rfl rfl (by omega) (by omega) (slA (by omega)) (by omega) rfl) ?_
    refine dw_last (i := 8) rfl (by decide +kernel) (by decide +kernel) ?_
    refine op_copyP 2 (xs := q.flatMap intC) (k := n - p.length) rfl rfl rfl (by show min _ _ = _; omega) (fun V => rdAt (p.flatMap intC) _ J (i := 0) V rfl hA.symm rfl) (by rw [hB]; show _ = _ * 1; omega) (flat_plain intP2 q) rfl rfl (by rw [wrL_len]; simp only [List.length_append, List.length_cons, List.length_nil]; omega) hX ?_
    refine dw_norm [_, _, _] rfl ?_
    refine dw_end rfl ?_
    refine xp_seq ?_
    refine xp_region rfl ?_
    refine op_pure (pv_move (v := .slice _ _ _) rfl) ?_
    refine op_pure (pv_assign (v := .slice _ _ _) rfl) ?_
    refine xp_ret ?_
    refine res_list (vs := [_]) Try.results72 ⟨resV_tmp rfl rfl, trivial⟩ fun V => ?_
    obtain ⟨h9, E9, e9, V9⟩ := wl_shed [_, _, _] [] V
    exact ⟨h9, [], e9, V9, Ext.trans (Ext.refl _) E9, rfl, shed_row e9 (AccP.row (m := 1) (enc := intC) (i := 2) (l := p ++ z :: q) (by show AccP _ _ _ _ (.slice _ (p.length + (n + 1 - p.length)) _); rw [hsum]; exact fin X b9 cap9 (by omega)) (by omega) (fun _ _ => rfl) V rfl)⟩
  · skip
    have hr : n + 1 ≤ cap := by have := of_decide_eq_false hroom; omega
    obtain ⟨g0, X, hX, hXl, hX2⟩ := gap_len (p.flatMap intC) (q.flatMap intC) J hqB (List.length_pos_iff.1 (by omega))
    rw [hA] at hX hX2
    refine xp_skip ?_
    refine xp_seq ?_
    refine xp_region rfl ?_
    refine op_pure (pv_move (v := .slice _ _ _) rfl) ?_
    refine op_pure (pv_move (v := .int .i64 _) rfl) ?_
    refine op_pure (pv_move (v := .int .i64 _) rfl) ?_
    refine op_pure (pv_arith rfl (by omega)) ?_
    refine op_pure (pv_sliceHi (n + 1) rfl rfl (by omega) rfl rfl (by omega)) ?_
    refine op_pure (pv_assign (v := .slice _ _ _) rfl) ?_
    refine xp_seq ?_
    refine xp_seq ?_
    refine xp_region rfl ?_
    refine op_pure (pv_move (v := .slice _ _ _) rfl) ?_
    refine op_pure (pv_move (v := .slice _ _ _) rfl) ?_
    refine op_pure (pv_move (v := .int .i64 _) rfl) ?_
    refine op_pure (pv_move (v := .int .i64 _) rfl) ?_
    refine op_pure (pv_arith rfl (by omega)) ?_
    refine op_pure (pv_sliceLoS (p.length + 1) (A' := some ⟨b0, p.length + 1, none⟩) (l' := n - p.length) (c' := cap - (p.length + 1)) rfl rfl (by omega) rfl rfl (by omega) (by omega) (slA (by omega)) (by omega) rfl) ?_
    refine op_overlaps (tS := 22) (e := 3) (size := 1) (rs := #[4]) rfl Try.func101 (by kernel_rfl) (by kernel_rfl) (by kernel_rfl) (by kernel_rfl) rfl rfl rfl (fun V => wl_get V (i := 1) rfl) (fun V => wl_get V (i := 0) rfl) (fun V => (valid_ne V).symm) ?_
    refine op_pure (pv_of (v := .bool _) rfl) ?_
    refine xp_condT rfl (rfl) ?_
    refine xp_seq ?_
    refine xp_dw [] rfl rfl rfl ?_
    refine dw_pure (i := 0) rfl (by decide +kernel) (pv_move (v := .slice _ _ _) rfl) ?_
    refine dw_pure (i := 1) rfl (by decide +kernel) (pv_move (v := .int .i64 _) rfl) ?_
    refine dw_pure (i := 2) rfl (by decide +kernel) (pv_move (v := .int .i64 _) rfl) ?_
    refine dw_pure (i := 3) rfl (by decide +kernel) (pv_arith rfl (by omega)) ?_
    refine dw_pure (i := 4) rfl (by decide +kernel) (pv_sliceLoS (p.length + 1) (A' := some ⟨b0, p.length + 1, none⟩) (l' := n - p.length) (c' := cap - (p.length + 1)) rfl rfl (by omega) rfl rfl (by omega) (by omega) (slA (by omega)) (by omega) rfl) ?_
    refine dw_pure (i := 5) rfl (by decide +kernel) (pv_move (v := .slice _ _ _) rfl) ?_
    refine dw_pure (i := 6) rfl (by decide +kernel) (pv_move (v := .int .i64 _) rfl) ?_
    refine dw_pure (i := 7) rfl (by decide +kernel) (pv_sliceLoS p.length (A' := some ⟨b0, p.length, none⟩) (l' := n + 1 - p.length) (c' := cap - p.length) rfl rfl rfl rfl rfl (by omega) (by omega) (slA (by omega)) (by omega) rfl) ?_
    refine dw_last (i := 8) rfl (by decide +kernel) (by decide +kernel) ?_
    refine op_copyP 0 (cs := p.flatMap intC ++ q.flatMap intC ++ J) (xs := q.flatMap intC) (k := n - p.length) rfl rfl rfl (by show min _ _ = _; omega) (fun V => rdAt (p.flatMap intC) _ J (i := 0) V rfl hA.symm rfl) (by rw [hB]; show _ = _ * 1; omega) (flat_plain intP2 q) rfl rfl (by simp only [List.length_append, List.length_cons, List.length_nil]; omega) hX ?_
    refine dw_norm [_, _] rfl ?_
    refine dw_end rfl ?_
    refine xp_seq ?_
    refine xp_region rfl ?_
    refine op_pure (pv_move (v := .slice _ _ _) rfl) ?_
    refine op_pure (pv_move (v := .int .i64 _) rfl) ?_
    refine op_pure (pv_sliceLoS p.length (A' := some ⟨b0, p.length, none⟩) (l' := n + 1 - p.length) (c' := cap - p.length) rfl rfl rfl rfl rfl (by omega) (by omega) (slA (by omega)) (by omega) rfl) ?_
    refine op_pure (pv_move (v := .slice _ _ _) rfl) ?_
    refine op_copyP 0 (xs := [Value.int .i64 z]) (k := 1) rfl rfl rfl (by show min _ _ = _; omega) (fun V => rdP V (i := 1) rfl) rfl rfl rfl rfl (by simp only [List.length_append, List.length_cons, List.length_nil]; omega) (hX2 (.int .i64 z)) ?_
    refine wp_norm [_, _] rfl ?_
    refine xp_seq ?_
    refine xp_region rfl ?_
    refine op_pure (pv_move (v := .slice _ _ _) rfl) ?_
    refine op_pure (pv_assign (v := .slice _ _ _) rfl) ?_
    refine xp_ret ?_
    refine res_list (vs := [_]) Try.results72 ⟨resV_tmp rfl rfl, trivial⟩ fun V => ?_
    obtain ⟨h9, E9, e9, V9⟩ := wl_shed [_, _] [] V
    exact ⟨h9, [], e9, V9, Ext.trans (Ext.refl _) E9, rfl, shed_row e9 (AccP.row (m := 1) (enc := intC) (i := 0) (l := p ++ z :: q) (fin X b0 cap (by omega)) (by omega) (fun _ _ => rfl) V rfl)⟩
end
end Go.Proofs.Ytlfbcimcehcomaa
/- Walks: a number is taken out of a list. Conditions: as each theorem states. -/
namespace Go.Proofs.Ytlfbcimcehcomaa
open Go Go.HL Go.Proofs Go.Wx Go.Rd
section
variable [Lvl]
set_option maxRecDepth 100000
theorem del_ok (p q : List Int) (x : Int) (b0 n cap : Nat) (J : List Value) (h : AH) (hn : n = p.length + 1 + q.length) (hc : n + J.length = cap) (hl : n < 2 ^ 20) :
    FnM Try.prog (.func (.func 74) #[] ([] : List Value).toArray) [.slice (some ⟨b0, 0, none⟩) n cap, .int .i64 (p.length : Int), .int .i64 ((p.length : Int) + 1)] h [some (b0, .cells (p.flatMap intC ++ [Value.int .i64 x] ++ q.flatMap intC ++ J).toArray 3 (0, 0))] (fun v h' M' => M' = [] ∧ SlR h' 1 intC (p ++ q) v) := by
  have hA := flatI p
  have hB := flatI q
  obtain ⟨X, hX, hXl, Y, hY, hYl⟩ := gap_shut (p.flatMap intC) (q.flatMap intC) J (.int .i64 x) (.int .i64 0)
  rw [hA] at hX hY
  rw [hB] at hY
  have fin : AccP 3 1 ((p ++ q).flatMap intC) (some (b0, .cells (p.flatMap intC ++ q.flatMap intC ++ Y).toArray 3 (0, 0))) (.slice (some ⟨b0, 0, none⟩) (p.length + q.length) cap) := by
    have e : (p ++ q).flatMap intC = p.flatMap intC ++ q.flatMap intC := List.flatMap_append
    refine .inr ⟨b0, p.length + q.length, cap, Y, ?_, rfl, by rw [e], ?_⟩
    · rw [flatI, List.length_append]; omega
    · rw [List.length_append, flatI, List.length_append]; omega
  refine fnM_body rfl rfl Try.func74 rfl Try.ntmps74 rfl ?_
  refine xp_seq ?_
  refine xp_region rfl ?_
  refine op_pure (pv_assign (v := .slice _ _ _) rfl) ?_
  refine xp_seq ?_
  refine xp_region rfl ?_
  refine op_pure (pv_move (v := .slice _ _ _) rfl) ?_
  refine op_pure (pv_move (v := .int .i64 _) rfl) ?_
  refine op_pure (pv_move (v := .int .i64 _) rfl) ?_
  refine op_pure (pv_move (v := .slice _ _ _) rfl) ?_
  refine op_pure (pv_len rfl rfl) ?_
  refine op_pure (pv_slice3 p.length (p.length + 1) n rfl rfl rfl rfl rfl (by omega) rfl rfl rfl (by omega) (by omega) (by omega)) ?_
  refine xp_seq ?_
  refine xp_seq ?_
  refine xp_region rfl ?_
  refine op_pure (pv_move (v := .int .i64 _) rfl) ?_
  refine op_pure (pv_move (v := .int .i64 _) rfl) ?_
  refine op_pure (pv_of (v := .bool _) rfl) ?_
  refine xp_condF rfl ((by show decide _ = _; exact decide_eq_false (by omega))) ?_
  refine xp_skip ?_
  refine xp_seq ?_
  refine xp_region rfl ?_
  refine op_pure (pv_move (v := .slice _ _ _) rfl) ?_
  refine op_pure (pv_len rfl rfl) ?_
  refine op_pure (pv_assign (v := .int .i64 _) rfl) ?_
  refine xp_seq ?_
  refine xp_dw [] rfl rfl rfl ?_
  refine dw_pure (i := 0) rfl (by decide +kernel) (pv_move (v := .slice _ _ _) rfl) ?_
  refine dw_pure (i := 1) rfl (by decide +kernel) (pv_move (v := .int .i64 _) rfl) ?_
  refine dw_pure (i := 2) rfl (by decide +kernel) (pv_sliceHi p.length rfl rfl rfl rfl rfl (by omega)) ?_
  refine dw_pure (i := 3) rfl (by decide +kernel) (pv_move (v := .slice _ _ _) rfl) ?_
  refine dw_pure (i := 4) rfl (by decide +kernel) (pv_move (v := .int .i64 _) rfl) ?_
  refine dw_pure (i := 5) rfl (by decide +kernel) (pv_sliceLo (p.length + 1) rfl rfl rfl rfl rfl (by omega) (by omega)) ?_
  refine dw_last (i := 6) rfl (by decide +kernel) (by decide +kernel) ?_
  refine op_appendIn 0 (m := 1) (cs := p.flatMap intC ++ [Value.int .i64 x] ++ q.flatMap intC ++ J) (cs' := p.flatMap intC ++ q.flatMap intC ++ X) (xs := q.flatMap intC) rfl rfl rfl (fun V => rdIf (p.flatMap intC ++ [Value.int .i64 x]) (q.flatMap intC) J (i := 0) V rfl (by simp only [List.length_append, List.length_cons, List.length_nil]; omega) rfl (fun hne => by have := List.length_pos_iff.2 hne; omega)) (by omega) (flat_plain intP2 q) rfl rfl rfl (by omega) (by simp only [List.length_append, List.length_cons, List.length_nil]; omega) (by rw [Nat.mul_one]; exact hX) ?_
  refine dw_norm [_] rfl ?_
  refine dw_pure (i := 7) rfl (by decide +kernel) (pv_assign (v := .slice _ _ _) rfl) ?_
  refine dw_end rfl ?_
  refine xp_seq ?_
  refine xp_region rfl ?_
  refine op_pure (pv_move (v := .slice _ _ _) rfl) ?_
  refine op_pure (pv_move (v := .slice _ _ _) rfl) ?_
  refine op_pure (pv_len rfl rfl) ?_
  refine op_pure (pv_move (v := .int .i64 _) rfl) ?_
  refine op_pure (pv_sliceS (p.length + q.length) n (A' := some ⟨b0, p.length + q.length, none⟩) (l' := 0 + 1) (c' := cap - (p.length + q.length)) rfl rfl rfl (by omega) rfl rfl rfl (by omega) (by omega) (slA (by omega)) (by omega) rfl) ?_
  refine op_clearP 0 (m := 1) (z := .int .i64 0) (zc := [Value.int .i64 0]) rfl rfl rfl rfl rfl rfl rfl (by simp only [List.length_append, List.length_cons, List.length_nil]; omega) hY ?_
  refine wp_norm [_] rfl ?_
  refine xp_seq ?_
  refine xp_region rfl ?_
  refine op_pure (pv_move (v := .slice _ _ _) rfl) ?_
  refine op_pure (pv_assign (v := .slice _ _ _) rfl) ?_
  refine xp_ret ?_
  refine res_list (vs := [_]) Try.results74 ⟨resV_tmp rfl rfl, trivial⟩ fun V => ?_
  obtain ⟨h9, E9, e9, V9⟩ := wl_shed [_] [] V
  exact ⟨h9, [], e9, V9, Ext.trans (Ext.refl _) E9, rfl, shed_row e9 (AccP.row (m := 1) (enc := intC) (i := 0) (l := p ++ q) (by show AccP _ _ _ _ (.slice _ (p.length + (n - (p.length + 1))) _); rw [show p.length + (n - (p.length + 1)) = p.length + q.length from by omega]; exact fin) (by omega) (fun _ _ => rfl) V rfl)⟩
end
end Go.Proofs.Ytlfbcimcehcomaa
/- Walks: a number is put into a list in order, or out of it. Conditions: as each theorem states. -/
namespace Go.Proofs.Ytlfbcimcehcomaa
open Go Go.HL Go.Proofs Go.Wx Go.Rd
section
variable [Lvl]
set_option maxRecDepth 100000
theorem ins_ok (l : List Int) (z : Int) (i : Nat) (a : Acc) (b : Nat) (h : AH) (ha : AccR 3 1 (l.flatMap intC) a) (hi : i ≤ l.length) (hl : l.length < 2 ^ 20) :
    FnM Try.prog (.func (.func 72) #[] ([] : List Value).toArray) [.slice a.A a.n a.c, .int .i64 (i : Int), .slice (some ⟨b, 0, none⟩) 1 1] h [a.p, some (b, .cells [Value.int .i64 z].toArray 3 (0, 0))] (fun v h' M' => M' = [] ∧ SlR h' 1 intC (l.take i ++ z :: l.drop i) v) := by
  by_cases he : i = l.length
  · subst he
    rw [List.take_length, List.drop_length]
    exact insE_ok l z a b h ha hl
  · rcases ha with ⟨h1, h2, _⟩ | ⟨b0, len, cap, junk, h1, h2, h3, h4⟩
    · exfalso
      have := congrArg List.length h2
      rw [flatI] at this
      simp at this
      subst this
      simp at hi he
      exact he hi
    · obtain ⟨ap, aA, an, ac⟩ := a
      simp only [Value.slice.injEq] at h2
      obtain ⟨rfl, rfl, rfl⟩ := h2
      simp only at h3
      subst h3
      rw [flatI] at h1
      rw [List.length_append, flatI] at h4
      have e : l.flatMap intC = (l.take i).flatMap intC ++ (l.drop i).flatMap intC := by rw [← List.flatMap_append, List.take_append_drop]
      have hti : (l.take i).length = i := by rw [List.length_take]; omega
      have := insM_ok (l.take i) (l.drop i) z b0 b an ac junk h (by rw [hti, List.length_drop]; omega) (by omega) (List.length_pos_iff.1 (by rw [List.length_drop]; omega)) (by omega)
      rw [hti, ← e] at this
      exact this
theorem delA_ok (l : List Int) (i : Nat) (a : Acc) (h : AH) (ha : AccR 3 1 (l.flatMap intC) a) (hi : i < l.length) (hl : l.length < 2 ^ 20) :
    FnM Try.prog (.func (.func 74) #[] ([] : List Value).toArray) [.slice a.A a.n a.c, .int .i64 (i : Int), .int .i64 ((i : Int) + 1)] h [a.p] (fun v h' M' => M' = [] ∧ SlR h' 1 intC (l.take i ++ l.drop (i + 1)) v) := by
  rcases ha with ⟨h1, h2, _⟩ | ⟨b0, len, cap, junk, h1, h2, h3, h4⟩
  · exfalso
    have := congrArg List.length h2
    rw [flatI] at this
    simp at this
    subst this
    simp at hi
  · obtain ⟨ap, aA, an, ac⟩ := a
    simp only [Value.slice.injEq] at h2
    obtain ⟨rfl, rfl, rfl⟩ := h2
    simp only at h3
    subst h3
    rw [flatI] at h1
    rw [List.length_append, flatI] at h4
    have e : l.flatMap intC = (l.take i).flatMap intC ++ [Value.int .i64 l[i]] ++ (l.drop (i + 1)).flatMap intC := by
      have e1 : l = l.take i ++ ([l[i]] ++ l.drop (i + 1)) := by simp
      have e2 : [Value.int .i64 l[i]] = [l[i]].flatMap intC := rfl
      rw [e2, List.append_assoc, ← List.flatMap_append, ← List.flatMap_append, ← e1]
    have hti : (l.take i).length = i := by rw [List.length_take]; omega
    have := del_ok (l.take i) (l.drop (i + 1)) l[i] b0 an ac junk h (by rw [hti, List.length_drop]; omega) (by omega) (by omega)
    rw [hti, ← e] at this
    exact this
theorem cloneIntM (l : List Int) (A : Option Addr) (c : Nat) (h : AH) (R : Row h 1 intC A l) (hl : l.length < 2 ^ 20) :
    FnM Try.prog (.func (.func 73) #[] ([] : List Value).toArray) [.slice A l.length c] h [] (fun v h' M' => ∃ a : Acc, M' = [a.p] ∧ v = .slice a.A a.n a.c ∧ AccR 3 1 (l.flatMap intC) a) :=
  (cloneIntF l A c h R hl).mono (fun v h' M' _ ⟨p, e, a, e1, e2, e3⟩ => ⟨a, by rw [e, e1], e2, e3⟩)
/-- What is wrong with putting a number in, or out; and the list behind it. -/
def putE (l : List Int) (n below : Int) (inn : Bool) : Int := if inM n 0 (below - 1) = false then 3 else if inn = true ∧ n ∈ l then 4 else if inn = false ∧ n ∉ l then 11 else 0
def putL (l : List Int) (n : Int) (inn : Bool) : List Int := if inn = true then (l.filter fun x => decide (x < n)) ++ [n] ++ l.filter (fun x => decide (x > n)) else l.filter fun x => x != n
theorem filt_at {l : List Int} {n : Int} {i : Nat} (a : AtP l n i) : l.take i = l.filter (fun x => decide (x < n)) := by
  have e : l.filter (fun x => decide (x < n)) = (l.take i).filter (fun x => decide (x < n)) ++ (l.drop i).filter (fun x => decide (x < n)) := by rw [← List.filter_append, List.take_append_drop]
  have h1 : (l.take i).filter (fun x => decide (x < n)) = l.take i := List.filter_eq_self.2 fun x hx => by
    obtain ⟨k, hk, rfl⟩ := List.getElem_of_mem hx
    rw [List.length_take] at hk
    rw [List.getElem_take]
    exact decide_eq_true (a.2.1 k (by omega) (by omega))
  have h2 : (l.drop i).filter (fun x => decide (x < n)) = [] := List.filter_eq_nil_iff.2 fun x hx => by
    obtain ⟨k, hk, rfl⟩ := List.getElem_of_mem hx
    rw [List.length_drop] at hk
    rw [List.getElem_drop]
    have := a.2.2 (i + k) (by omega) (by omega)
    simp; omega
  rw [e, h1, h2, List.append_nil]
theorem filt_gt {l : List Int} {n : Int} {i : Nat} (a : AtP l n i) (hn : n ∉ l) : l.drop i = l.filter (fun x => decide (x > n)) := by
  have e : l.filter (fun x => decide (x > n)) = (l.take i).filter (fun x => decide (x > n)) ++ (l.drop i).filter (fun x => decide (x > n)) := by rw [← List.filter_append, List.take_append_drop]
  have h1 : (l.drop i).filter (fun x => decide (x > n)) = l.drop i := List.filter_eq_self.2 fun x hx => by
    have hm : x ∈ l := List.mem_of_mem_drop hx
    obtain ⟨k, hk, rfl⟩ := List.getElem_of_mem hx
    rw [List.length_drop] at hk
    rw [List.getElem_drop] at hm ⊢
    have := a.2.2 (i + k) (by omega) (by omega)
    have hne : ¬ l[i + k] = n := fun e => hn (e ▸ hm)
    simp; omega
  have h2 : (l.take i).filter (fun x => decide (x > n)) = [] := List.filter_eq_nil_iff.2 fun x hx => by
    obtain ⟨k, hk, rfl⟩ := List.getElem_of_mem hx
    rw [List.length_take] at hk
    rw [List.getElem_take]
    have := a.2.1 k (by omega) (by omega)
    simp; omega
  rw [e, h1, h2, List.nil_append]
theorem filt_ne {l : List Int} {n : Int} {i : Nat} (p : l.Pairwise (· < ·)) (a : AtP l n i) (hn : n ∈ l) : i < l.length ∧ l.take i ++ l.drop (i + 1) = l.filter (fun x => x != n) := by
  have hi : i < l.length := by
    obtain ⟨k, hk, e⟩ := List.getElem_of_mem hn
    have := a.1
    rcases Nat.lt_or_ge i l.length with h | h
    · exact h
    · have := a.2.1 k hk (by omega); omega
  refine ⟨hi, ?_⟩
  have hat : l[i] = n := ((a.mem hi).resolve_right (fun y => y p)).1 hn
  have e1 : l = l.take i ++ (l[i] :: l.drop (i + 1)) := by simp
  have e : l.filter (fun x => x != n) = (l.take i).filter (fun x => x != n) ++ (l[i] :: l.drop (i + 1)).filter (fun x => x != n) := by rw [← List.filter_append, ← e1]
  have h1 : (l.take i).filter (fun x => x != n) = l.take i := List.filter_eq_self.2 fun x hx => by
    obtain ⟨k, hk, rfl⟩ := List.getElem_of_mem hx
    rw [List.length_take] at hk
    rw [List.getElem_take]
    have := a.2.1 k (by omega) (by omega)
    simp; omega
  have h2 : (l.drop (i + 1)).filter (fun x => x != n) = l.drop (i + 1) := List.filter_eq_self.2 fun x hx => by
    obtain ⟨k, hk, rfl⟩ := List.getElem_of_mem hx
    rw [List.length_drop] at hk
    rw [List.getElem_drop]
    have := List.pairwise_iff_getElem.1 p i (i + 1 + k) hi (by omega) (by omega)
    simp; omega
  rw [e, h1, List.filter_cons_of_neg (by simp [hat]), h2]
theorem put_ok (l : List Int) (n below : Int) (inn : Bool) (A : Option Addr) (c : Nat) (h : AH) (R : Row h 1 intC A l) (hl : l.length < 2 ^ 20) (p : l.Pairwise (· < ·)) (hb : 0 ≤ below ∧ below < 2 ^ 20) :
    FnE Try.prog 40 #[.slice A l.length c, .int .i64 n, .int .i64 below, .bool inn] h (fun v h' => putE l n below inn = 0 ∧ SlR h' 1 intC (putL l n inn) v) (fun v _ => putE l n below inn ≠ 0 ∧ v = .iface 101 (.agg #[.int .i64 (putE l n below inn)])) := by
  refine call_body Try.func40 rfl Try.ntmps40 rfl ?_
  refine xp_seq ?_
  refine xp_region rfl ?_
  refine op_pure (pv_assign (v := .slice _ _ _) rfl) ?_
  refine xp_seq ?_
  refine xp_seq ?_
  refine xp_region rfl ?_
  refine op_pure (pv_move (v := .int .i64 _) rfl) ?_
  refine op_pure (pv_move (v := .int .i64 _) rfl) ?_
  refine op_pure (pv_arith rfl (by omega)) ?_
  refine op_fn (caps := []) (vs := [.int .i64 _, .int .i64 _, .int .i64 _]) rfl rfl rfl (within_ok n 0 (below - 1) h) ?_
  rintro _ h1 E1 rfl
  refine op_pure (pv_of (v := .bool _) rfl) ?_
  refine xp_cond rfl (fun hw => ?_) (fun hw => ?_)
  · skip
    have hw' : inM n 0 (below - 1) = false := by simpa using hw
    have hE : putE l n below inn = 3 := if_pos hw'
    refine xp_region rfl ?_
    refine op_pure (pv_build (zc := [_]) (vs := [(0, .int .i64 _)]) (cs := [_]) rfl rfl rfl rfl rfl rfl) ?_
    refine op_pure (pv_of (v := _) rfl) ?_
    refine op_panic rfl ?_
    exact fun V => ⟨rfl, (Ext.trans E1 (ext_wl V)), by rw [hE]; decide, by rw [hE]; rfl⟩
  · skip
    have hw' : inM n 0 (below - 1) = true := by simpa using hw
    have hw2 : ¬ inM n 0 (below - 1) = false := by rw [hw']; decide
    refine xp_skip ?_
    refine xp_seq ?_
    refine xp_region rfl ?_
    refine op_pure (pv_move (v := .slice _ _ _) rfl) ?_
    refine op_pure (pv_move (v := .int .i64 _) rfl) ?_
    refine op_fn (caps := []) (vs := [.slice _ _ _, .int .i64 _]) rfl rfl rfl (search_ok l n A c h1 (R.ext E1) hl p) ?_
    rintro _ h2 E2 ⟨i, rfl, AT⟩
    refine op_pure (pv_move (v := .tuple #[.int .i64 _, .bool _]) rfl) ?_
    refine op_pure (pv_of (v := .int .i64 _) rfl) ?_
    refine op_pure (pv_of (v := .bool _) rfl) ?_
    refine op_pure (pv_assign (v := .int .i64 _) rfl) ?_
    refine op_pure (pv_assign (v := .bool _) rfl) ?_
    by_cases hm : n ∈ l
    · have hd := decide_eq_true hm
      cases inn
      · obtain ⟨hil, hfi⟩ := filt_ne p AT hm
        have hE : putE l n below false = 0 := by unfold putE; rw [if_neg hw2, if_neg (by simp), if_neg (by simp [hm])]
        refine xp_seq ?_
        refine xp_block ?_
        refine xp_seq ?_
        refine xp_region rfl ?_
        refine op_pure (pv_move (v := .bool _) rfl) ?_
        refine op_pure (pv_move (v := .bool _) rfl) ?_
        refine guard_no rfl rfl ?_
        refine op_pure (pv_pickF rfl rfl (v := .bool _) rfl) ?_
        refine op_pure (pv_assign (v := .bool _) rfl) ?_
        refine xp_condF rfl (rfl) ?_
        refine xp_seq ?_
        refine xp_region rfl ?_
        refine op_pure (pv_move (v := .bool _) rfl) ?_
        refine op_pure (pv_of (v := .bool _) rfl) ?_
        refine op_pure (pv_move (v := .bool _) rfl) ?_
        refine guard_yes rfl rfl ?_
        refine op_pure (pv_move (v := .bool _) rfl) ?_
        refine guard_yes rfl rfl ?_
        refine op_pure (pv_of (v := .bool _) rfl) ?_
        refine op_pure (pv_pickT rfl rfl (v := .bool _) rfl) ?_
        refine op_pure (pv_assign (v := .bool _) rfl) ?_
        refine xp_condF rfl ((by rw [hd]; rfl)) ?_
        refine xp_seq ?_
        refine xp_region rfl ?_
        refine op_pure (pv_move (v := .bool _) rfl) ?_
        refine op_pure (pv_assign (v := .bool _) rfl) ?_
        refine xp_condF rfl (rfl) ?_
        refine xp_skip ?_
        refine xp_seq ?_
        refine xp_region rfl ?_
        refine op_pure (pv_move (v := .slice _ _ _) rfl) ?_
        refine op_fnMM [] [] [] rfl rfl rfl (cloneIntM l A c h2 (R.ext (Ext.trans E1 E2)) hl) ?_
        rintro _ h3 M3 E3 ⟨a, rfl, rfl, ha⟩
        refine wp_norm [_] rfl ?_
        refine op_pure (pv_move (v := .int .i64 _) rfl) ?_
        refine op_pure (pv_move (v := .int .i64 _) rfl) ?_
        refine op_pure (pv_arith rfl (by omega)) ?_
        refine op_fnMM [] [_] [] (vs := [.slice _ _ _, .int .i64 _, .int .i64 _]) rfl rfl rfl (delA_ok l i a h3 ha hil hl) ?_
        rintro _ h4 M4 E4 ⟨rfl, A4, c4, rfl, R4⟩
        refine wp_norm [] rfl ?_
        refine op_pure (pv_assign (v := .slice _ _ _) rfl) ?_
        refine xp_ret ?_
        refine res_list (vs := [_]) Try.results40 ⟨resV_tmp rfl rfl, trivial⟩ fun V => ?_
        exact ⟨(Ext.trans (Ext.trans (Ext.trans (Ext.trans E1 E2) E3) E4) (ext_wl V)), hE, by show SlR _ 1 intC (l.filter fun x => x != n) _; rw [← hfi]; exact ⟨A4, c4, rfl, R4⟩⟩
      · skip
        have hE : putE l n below true = 4 := by unfold putE; rw [if_neg hw2, if_pos ⟨rfl, hm⟩]
        refine xp_seq ?_
        refine xp_block ?_
        refine xp_seq ?_
        refine xp_region rfl ?_
        refine op_pure (pv_move (v := .bool _) rfl) ?_
        refine op_pure (pv_move (v := .bool _) rfl) ?_
        refine guard_yes rfl rfl ?_
        refine op_pure (pv_move (v := .bool _) rfl) ?_
        refine op_pure (pv_pickT rfl rfl (v := .bool _) rfl) ?_
        refine op_pure (pv_assign (v := .bool _) rfl) ?_
        refine xp_condT rfl (hd) ?_
        refine xp_region rfl ?_
        refine op_pure (pv_build (zc := [_]) (vs := [(0, .int .i64 _)]) (cs := [_]) rfl rfl rfl rfl rfl rfl) ?_
        refine op_pure (pv_of (v := _) rfl) ?_
        refine op_panic rfl ?_
        exact fun V => ⟨rfl, (Ext.trans (Ext.trans E1 E2) (ext_wl V)), by rw [hE]; decide, by rw [hE]; rfl⟩
    · have hd := decide_eq_false hm
      cases inn
      · skip
        have hE : putE l n below false = 11 := by unfold putE; rw [if_neg hw2, if_neg (by simp), if_pos ⟨rfl, hm⟩]
        refine xp_seq ?_
        refine xp_block ?_
        refine xp_seq ?_
        refine xp_region rfl ?_
        refine op_pure (pv_move (v := .bool _) rfl) ?_
        refine op_pure (pv_move (v := .bool _) rfl) ?_
        refine guard_no rfl rfl ?_
        refine op_pure (pv_pickF rfl rfl (v := .bool _) rfl) ?_
        refine op_pure (pv_assign (v := .bool _) rfl) ?_
        refine xp_condF rfl (rfl) ?_
        refine xp_seq ?_
        refine xp_region rfl ?_
        refine op_pure (pv_move (v := .bool _) rfl) ?_
        refine op_pure (pv_of (v := .bool _) rfl) ?_
        refine op_pure (pv_move (v := .bool _) rfl) ?_
        refine guard_yes rfl rfl ?_
        refine op_pure (pv_move (v := .bool _) rfl) ?_
        refine guard_yes rfl rfl ?_
        refine op_pure (pv_of (v := .bool _) rfl) ?_
        refine op_pure (pv_pickT rfl rfl (v := .bool _) rfl) ?_
        refine op_pure (pv_assign (v := .bool _) rfl) ?_
        refine xp_condT rfl ((by rw [hd]; rfl)) ?_
        refine xp_region rfl ?_
        refine op_pure (pv_build (zc := [_]) (vs := [(0, .int .i64 _)]) (cs := [_]) rfl rfl rfl rfl rfl rfl) ?_
        refine op_pure (pv_of (v := _) rfl) ?_
        refine op_panic rfl ?_
        exact fun V => ⟨rfl, (Ext.trans (Ext.trans E1 E2) (ext_wl V)), by rw [hE]; decide, by rw [hE]; rfl⟩
      · skip
        have hE : putE l n below true = 0 := by unfold putE; rw [if_neg hw2, if_neg (by simp [hm]), if_neg (by simp)]
        refine xp_seq ?_
        refine xp_block ?_
        refine xp_seq ?_
        refine xp_region rfl ?_
        refine op_pure (pv_move (v := .bool _) rfl) ?_
        refine op_pure (pv_move (v := .bool _) rfl) ?_
        refine guard_yes rfl rfl ?_
        refine op_pure (pv_move (v := .bool _) rfl) ?_
        refine op_pure (pv_pickT rfl rfl (v := .bool _) rfl) ?_
        refine op_pure (pv_assign (v := .bool _) rfl) ?_
        refine xp_condF rfl (hd) ?_
        refine xp_seq ?_
        refine xp_region rfl ?_
        refine op_pure (pv_move (v := .bool _) rfl) ?_
        refine op_pure (pv_of (v := .bool _) rfl) ?_
        refine op_pure (pv_move (v := .bool _) rfl) ?_
        refine guard_no rfl rfl ?_
        refine guard_no rfl rfl ?_
        refine op_pure (pv_pickF rfl rfl (v := .bool _) rfl) ?_
        refine op_pure (pv_assign (v := .bool _) rfl) ?_
        refine xp_condF rfl (rfl) ?_
        refine xp_seq ?_
        refine xp_region rfl ?_
        refine op_pure (pv_move (v := .bool _) rfl) ?_
        refine op_pure (pv_assign (v := .bool _) rfl) ?_
        refine xp_condT rfl (rfl) ?_
        refine xp_seq ?_
        refine xp_region rfl ?_
        refine op_pure (pv_move (v := .slice _ _ _) rfl) ?_
        refine op_fnMM [] [] [] rfl rfl rfl (cloneIntM l A c h2 (R.ext (Ext.trans E1 E2)) hl) ?_
        rintro _ h3 M3 E3 ⟨a, rfl, rfl, ha⟩
        refine wp_norm [_] rfl ?_
        refine op_pure (pv_move (v := .int .i64 _) rfl) ?_
        refine op_pure (pv_move (v := .int .i64 _) rfl) ?_
        refine op_buildSlice (zc := [_]) (vs := [(0, .int .i64 _)]) (cs := [_]) rfl rfl rfl rfl rfl rfl rfl fun b46 hb46 => ?_
        refine wp_norm [_, _] rfl ?_
        refine op_fnMM [] [_, _] [] (vs := [.slice _ _ _, .int .i64 _, .slice _ _ _]) rfl rfl rfl (ins_ok l n i a b46 h3 ha AT.1 hl) ?_
        rintro _ h4 M4 E4 ⟨rfl, A4, c4, rfl, R4⟩
        refine wp_norm [] rfl ?_
        refine op_pure (pv_assign (v := .slice _ _ _) rfl) ?_
        refine xp_ret ?_
        refine res_list (vs := [_]) Try.results40 ⟨resV_tmp rfl rfl, trivial⟩ fun V => ?_
        exact ⟨(Ext.trans (Ext.trans (Ext.trans (Ext.trans E1 E2) E3) E4) (ext_wl V)), hE, by show SlR _ 1 intC ((l.filter fun x => decide (x < n)) ++ [n] ++ l.filter (fun x => decide (x > n))) _; rw [← filt_at AT, ← filt_gt AT hm, List.append_assoc]; exact ⟨A4, c4, rfl, R4⟩⟩
end
end Go.Proofs.Ytlfbcimcehcomaa
/- The own logic, part Ud: machines, hands, links, events and what was heard, read out of a row's arguments. Conditions: none. -/
namespace Go.HL
open Go Go.Wx Go.RowKit Go.ChangeShapes Go.WideShapes
variable [Lvl]
section
variable {H : Type} {enc : TypeId × Value → H} {P : Program} {w : World} {base : Nat} {spare : Nat → Bool} {held : Bool}
end
end Go.HL

namespace Go.Rd
structure EvP where
  kind : Int
  which : Int
def evC (e : EvP) : List Go.Value := [.int .i64 e.kind, .int .i64 e.which]
end Go.Rd
namespace Go.Proofs.Ytlfbcimcehcomaa
open Go Go.HL Go.Wx Go.Rd Go.RowKit Go.ChangeShapes Go.WideShapes
variable [Lvl]
set_option maxRecDepth 100000
section
variable {H : Type} {enc : TypeId × Value → H} {w : World} {base : Nat} {spare : Nat → Bool} {held : Bool}
end
end Go.Proofs.Ytlfbcimcehcomaa
/- Walks: rod.Play. Conditions: as each theorem states. -/
namespace Go.Proofs.Ytlfbcimcehcomaa
open Go Go.HL Go.Proofs Go.Wx Go.Rd
section
variable [Lvl]
set_option maxRecDepth 100000
def stepE (m : MachP) (a : HandP) (x : EvP) : Int := if x.kind = 1 ∨ x.kind = 2 then putE a.buttons x.which m.buttons.length (x.kind == 1) else if x.kind = 3 ∨ x.kind = 4 then putE a.on x.which m.regs (x.kind == 3) else 8
def stepH (a : HandP) (x : EvP) : HandP := if x.kind = 1 ∨ x.kind = 2 then ⟨putL a.buttons x.which (x.kind == 1), a.on⟩ else ⟨a.buttons, putL a.on x.which (x.kind == 3)⟩
structure PlP where
  e : Int
  a : HandP
  out : List (List Int)
def playS (m : MachP) (s : PlP) (x : EvP) : PlP := if s.e ≠ 0 then s else if stepE m s.a x ≠ 0 then ⟨stepE m s.a x, s.a, []⟩ else ⟨0, stepH s.a x, s.out ++ [listN (soundsM m (stepH s.a x) m.travel) 6]⟩
def goM (m : MachP) (l : List EvP) : PlP := l.foldl (playS m) ⟨0, ⟨[], []⟩, []⟩
def playM (m : MachP) (l : List EvP) : Int × List (List Int) := if chkM m ≠ 0 then (chkM m, []) else if (l.length : Int) > 12 then (6, []) else ((goM m l).e, (goM m l).out)
theorem goM_snoc (m : MachP) {l : List EvP} {k : Nat} (hk : k < l.length) : goM m (l.take (k + 1)) = playS m (goM m (l.take k)) l[k] := by
  rw [goM, take_snoc hk, List.foldl_append]; rfl
theorem playS_stop {m : MachP} {s : PlP} (h : s.e ≠ 0) : ∀ l : List EvP, l.foldl (playS m) s = s
  | [] => rfl
  | x :: l => by rw [List.foldl_cons, playS, if_pos h, playS_stop h l]
theorem goM_bad (m : MachP) {l : List EvP} {k : Nat} (hk : k < l.length) (h0 : (goM m (l.take k)).e = 0) (h : stepE m (goM m (l.take k)).a l[k] ≠ 0) : goM m l = ⟨stepE m (goM m (l.take k)).a l[k], (goM m (l.take k)).a, []⟩ := by
  have e : goM m (l.take (k + 1)) = ⟨stepE m (goM m (l.take k)).a l[k], (goM m (l.take k)).a, []⟩ := by rw [goM_snoc m hk, playS, if_neg (by simp [h0]), if_pos h]
  have e2 : goM m l = (l.drop (k + 1)).foldl (playS m) (goM m (l.take (k + 1))) := by
    unfold goM
    rw [← List.foldl_append, List.take_append_drop]
  rw [e2, playS_stop (by rw [e]; exact h), e]
theorem goM_good (m : MachP) {l : List EvP} {k : Nat} (hk : k < l.length) (h0 : (goM m (l.take k)).e = 0) (h : stepE m (goM m (l.take k)).a l[k] = 0) : goM m (l.take (k + 1)) = ⟨0, stepH (goM m (l.take k)).a l[k], (goM m (l.take k)).out ++ [listN (soundsM m (stepH (goM m (l.take k)).a l[k]) m.travel) 6]⟩ := by
  rw [goM_snoc m hk, playS, if_neg (by simp [h0]), if_neg (by simp [h])]
theorem putL_ok {l : List Int} {n below : Int} {inn : Bool} (s : SetOK l below) (h : putE l n below inn = 0) : SetOK (putL l n inn) below := by
  unfold putE at h
  by_cases h1 : inM n 0 (below - 1) = false
  · rw [if_pos h1] at h; cases h
  · rw [if_neg h1] at h
    have h1' : inM n 0 (below - 1) = true := by simpa using h1
    rw [inM_iff] at h1'
    unfold putL
    by_cases hi : inn = true
    · rw [if_pos hi]
      refine ⟨fun x hx => ?_, ?_⟩
      · rw [List.mem_append, List.mem_append, List.mem_singleton] at hx
        rcases hx with (hx | rfl) | hx
        · exact s.mem x (List.mem_filter.1 hx).1
        · omega
        · exact s.mem x (List.mem_filter.1 hx).1
      · rw [List.append_assoc, List.pairwise_append]
        refine ⟨s.asc.filter _, ?_, ?_⟩
        · rw [List.singleton_append, List.pairwise_cons]
          exact ⟨fun x hx => of_decide_eq_true (List.mem_filter.1 hx).2, s.asc.filter _⟩
        · intro x hx y hy
          have hxn := of_decide_eq_true (List.mem_filter.1 hx).2
          rw [List.singleton_append, List.mem_cons] at hy
          rcases hy with rfl | hy
          · exact hxn
          · have := of_decide_eq_true (List.mem_filter.1 hy).2
            omega
    · rw [if_neg hi]
      exact ⟨fun x hx => s.mem x (List.mem_filter.1 hx).1, s.asc.filter _⟩
theorem stepH_ok {m : MachP} {a : HandP} {x : EvP} (H : HOK m a) (h : stepE m a x = 0) : HOK m (stepH a x) := by
  unfold stepE at h
  unfold stepH
  by_cases h1 : x.kind = 1 ∨ x.kind = 2
  · rw [if_pos h1] at h ⊢; exact ⟨putL_ok H.b h, H.o⟩
  · rw [if_neg h1] at h ⊢
    by_cases h2 : x.kind = 3 ∨ x.kind = 4
    · rw [if_pos h2] at h; exact ⟨H.b, putL_ok H.o h⟩
    · rw [if_neg h2] at h; cases h
theorem hok0 (m : MachP) : HOK m ⟨[], []⟩ := ⟨⟨fun _ h => absurd h List.not_mem_nil, List.Pairwise.nil⟩, ⟨fun _ h => absurd h List.not_mem_nil, List.Pairwise.nil⟩⟩
theorem goM_len (m : MachP) (l : List EvP) : (goM m l).out.length ≤ l.length := by
  have : ∀ (l : List EvP) (s : PlP), (l.foldl (playS m) s).out.length ≤ s.out.length + l.length := by
    intro l
    induction l with
    | nil => intro s; exact Nat.le_refl _
    | cons x l ih =>
      intro s
      rw [List.foldl_cons]
      refine Nat.le_trans (ih _) ?_
      unfold playS
      split
      · simp
      · split
        · simp; omega
        · simp; omega
  have := this l ⟨0, ⟨[], []⟩, []⟩
  simpa [goM] using this
theorem playClo_nil (b4 b5 : Nat) (L : Pv) (h : AH) (Q : Pv → AH → Prop) (q : Q L h) : Clo Try.prog 18 (bodyOps Try.f39) (bodyRest Try.f39) 5 .nilIface #[.pointer (some ⟨b4, 0, none⟩), .pointer (some ⟨b5, 0, none⟩)] L h Q := by
  refine ⟨rfl, ?_⟩
  refine clo_run rfl rfl rfl ?_
  refine op_pure (pv_assign (v := _) rfl) ?_
  refine xp_seq ?_
  refine xp_region rfl ?_
  refine op_pure (pv_move (v := _) rfl) ?_
  refine op_pure (pv_of (v := .bool _) rfl) ?_
  refine xp_condF rfl (rfl) ?_
  refine xp_skip ?_
  exact ⟨.inl rfl, rfl, q⟩
theorem playClo_pan (b4 b5 : Nat) (e : Int) (p0 p3 p4 p5 : Option (Nat × Obj)) (v4 v5 : Value) (h : AH) (Q : Pv → AH → Prop)
    (q : ∀ b3 o3, Q [p0, some (b4, .cells #[.slice none 0 0] 48 (0, 0)), some (b5, .cells #[.int .i64 e] 39 (0, 0)), p3, p4, p5, some (b3, o3)] h) :
    Clo Try.prog 18 (bodyOps Try.f39) (bodyRest Try.f39) 5 (.iface 101 (.agg #[.int .i64 e])) #[.pointer (some ⟨b4, 0, none⟩), .pointer (some ⟨b5, 0, none⟩)] [p0, some (b4, .cells #[v4] 48 (0, 0)), some (b5, .cells #[v5] 39 (0, 0)), p3, p4, p5] h Q := by
  refine ⟨rfl, ?_⟩
  obtain ⟨K, hK⟩ : ∃ K : Post, K = (fun e (_ : Sl) D L' h' => (e = .normal ∨ e = .ret) ∧ D = [] ∧ Q L' h') := ⟨_, rfl⟩
  rw [← hK]
  refine clo_run rfl rfl rfl ?_
  refine op_pure (pv_assign (v := _) rfl) ?_
  refine xp_seq ?_
  refine xp_region rfl ?_
  refine op_pure (pv_move (v := _) rfl) ?_
  refine op_pure (pv_of (v := .bool _) rfl) ?_
  refine xp_condT rfl (rfl) ?_
  refine xp_seq ?_
  refine xp_region rfl ?_
  refine op_pure (pv_move (v := _) rfl) ?_
  refine op_pure (pv_assert (v := .agg #[.int .i64 _]) rfl rfl rfl) ?_
  refine op_pure (pv_move (v := .tuple #[.agg #[.int .i64 _], .bool _]) rfl) ?_
  refine op_pure (pv_of (v := .agg #[.int .i64 _]) rfl) ?_
  refine op_pure (pv_of (v := .bool _) rfl) ?_
  refine op_alloc (cs := [_]) rfl rfl fun b3 hb3 => ?_
  refine wp_norm [_, _, _, _, _, _, _] rfl ?_
  refine op_storeP 6 (v := .agg #[.int .i64 _]) (vs := [_]) (c' := [_]) rfl rfl rfl rfl rfl rfl rfl rfl rfl ?_
  refine wp_norm [_, _, _, _, _, _, _] rfl ?_
  refine op_pure (pv_assign (v := .bool _) rfl) ?_
  refine xp_seq ?_
  refine xp_seq ?_
  refine xp_region rfl ?_
  refine op_pure (pv_move (v := .bool _) rfl) ?_
  refine op_pure (pv_of (v := .bool _) rfl) ?_
  refine xp_condF rfl (rfl) ?_
  refine xp_skip ?_
  refine xp_dw [false, true, true, false, false, false, false] rfl rfl rfl ?_
  refine dw_pure (i := 0) rfl (by decide +kernel) (pv_fieldAddr rfl rfl rfl rfl 0 rfl) ?_
  refine dw_load (i := 1) rfl (by decide +kernel) ?_
  refine op_loadP 6 (v := .int .i64 _) rfl rfl rfl rfl ?_
  refine dw_eff (i := 2) rfl (by decide +kernel) ?_
  refine op_storeP 1 (v := .slice _ _ _) (vs := [_]) (c' := [_]) rfl rfl rfl rfl rfl rfl rfl rfl rfl ?_
  refine ⟨Ext.refl _, ?_⟩
  refine dw_norm [_, _, _, _, _, _, _] rfl ?_
  refine dw_last (i := 3) rfl (by decide +kernel) (by decide +kernel) ?_
  refine op_storeP 2 (v := .int .i64 _) (vs := [_]) (c' := [_]) rfl rfl rfl rfl rfl rfl rfl rfl rfl ?_
  refine dw_norm [_, _, _, _, _, _, _] rfl ?_
  refine dw_end rfl ?_
  rw [hK]
  exact ⟨.inl rfl, rfl, q _ _⟩
end
end Go.Proofs.Ytlfbcimcehcomaa
/- Played pieces, in plain data: events that turn buttons' states are never refused. Conditions: none. -/
namespace Go.Bw
open Go Go.HL Go.Wx Go.Rd Go.Proofs.Ytlfbcimcehcomaa
variable [Lvl]
/-- What holds of events that turn buttons' states. -/
structure FlipI (m : MachP) (l : List EvP) (ds : List Bool) : Prop where
  len : ds.length = m.buttons.length
  e : (goM m l).e = 0
  out : (goM m l).out.length = l.length
  q : ∀ q : Nat, q < m.buttons.length → ((q : Int) ∈ (goM m l).a.buttons ↔ ds.getD q false = true)
  le : ∀ x ∈ (goM m l).out, (x.length : Int) ≤ m.levers
end Go.Bw
/- Walks: rod.Play. Conditions: as each theorem states. -/
namespace Go.Proofs.Ytlfbcimcehcomaa
open Go Go.HL Go.Proofs Go.Wx Go.Rd
section
variable [Lvl]
set_option maxRecDepth 100000
set_option maxHeartbeats 1000000 in
theorem Play_ok (hph : Lvl.ph = true) (m : MachP) (l : List EvP) (AB AQ AL AW EA : Option Addr) (cB cQ cL cW cE : Nat) (h : AH) (RM : MachR h AB AQ AL AW m) (RE : Row h 2 evC EA l) (h0 : m.weights.length < 2 ^ 40) (hl : l.length < 2 ^ 40) :
    FnT Try.prog 13 #[machV AB AQ AL AW cB cQ cL cW m, .slice EA l.length cE] h (fun v h' => ∃ V, v = .tuple #[V, .int .i64 (playM m l).1] ∧ SlX h' 1 TL (playM m l).2 V) := by
  refine call_defer Try.func13 rfl Try.ntmps13 rfl (ops0 := bodyOps Try.f39) (c2 := bodyRest Try.f39) (m := 18) (t := 5) Try.func39 (by kernel_rfl) rfl Try.ntmps39 rfl rfl rfl rfl rfl rfl ?_
  refine xp_seq ?_
  refine xp_region rfl ?_
  refine op_box (v := .agg #[.int .i64 _, .int .i64 _, .int .i64 _, .int .i64 _, .int .i64 _, .slice _ _ _, .slice _ _ _, .slice _ _ _, .slice _ _ _]) (cs := [_, _, _, _, _, _, _, _, _]) rfl rfl fun b2 hb2 => ?_
  refine wp_norm [_] rfl ?_
  refine op_alloc (cs := [_]) rfl rfl fun b4 hb4 => ?_
  refine wp_norm [_, _] rfl ?_
  refine op_alloc (cs := [_]) rfl rfl fun b5 hb5 => ?_
  refine wp_norm [_, _, _] rfl ?_
  refine xp_seq ?_
  refine xp_seq ?_
  refine xp_region rfl ?_
  refine op_loadPA 0 (vs := [.int .i64 _, .int .i64 _, .int .i64 _, .int .i64 _, .int .i64 _, .slice _ _ _, .slice _ _ _, .slice _ _ _, .slice _ _ _]) rfl rfl rfl rfl rfl ?_
  refine op_fn (caps := []) (vs := [.agg #[.int .i64 _, .int .i64 _, .int .i64 _, .int .i64 _, .int .i64 _, .slice _ _ _, .slice _ _ _, .slice _ _ _, .slice _ _ _]]) rfl rfl rfl (Check_ok m AB AQ AL AW cB cQ cL cW h (RM.ext (Ext.refl _)) h0) ?_
  rintro _ h1 E1 rfl
  refine op_pure (pv_assign (v := .int .i64 _) rfl) ?_
  refine xp_seq ?_
  refine xp_region rfl ?_
  refine op_pure (pv_move (v := .int .i64 _) rfl) ?_
  refine op_pure (pv_of (v := .bool _) rfl) ?_
  refine xp_cond rfl (fun hc => ?_) (fun hc => ?_)
  · skip
    have hc' : chkM m ≠ 0 := by simpa using hc
    refine xp_seq ?_
    refine xp_region rfl ?_
    refine op_pure (pv_move (v := .int .i64 _) rfl) ?_
    refine op_storeP 1 (v := .slice _ _ _) (vs := [_]) (c' := [_]) rfl rfl rfl rfl rfl rfl rfl rfl rfl ?_
    refine wp_norm [_, _, _] rfl ?_
    refine op_storeP 2 (v := .int .i64 _) (vs := [_]) (c' := [_]) rfl rfl rfl rfl rfl rfl rfl rfl rfl ?_
    refine wp_norm [_, _, _] rfl ?_
    refine xp_ret ?_
    exact .inl ⟨rfl, doneK_list (vs := [_, _]) Try.results13 ⟨resV_one 1 rfl rfl rfl rfl (v := .slice _ _ _) rfl, resV_one 2 rfl rfl rfl rfl (v := .int .i64 _) rfl, trivial⟩ (fun V => ⟨(Ext.trans E1 (ext_wl V)), _, by rw [playM, if_pos hc']; rfl, by rw [playM, if_pos hc']; exact SlX.nil _ _ _ _ _⟩)⟩
  · skip
    have hc' : ¬ chkM m ≠ 0 := by simpa using hc
    refine xp_skip ?_
    refine xp_seq ?_
    refine xp_seq ?_
    refine xp_region rfl ?_
    refine op_pure (pv_move (v := .slice _ _ _) rfl) ?_
    refine op_pure (pv_len rfl rfl) ?_
    refine op_pure (pv_of (v := .bool _) rfl) ?_
    refine xp_cond rfl (fun hm => ?_) (fun hm => ?_)
    · skip
      have hm' : (l.length : Int) > 12 := of_decide_eq_true hm
      refine xp_seq ?_
      refine xp_region rfl ?_
      refine op_storeP 1 (v := .slice _ _ _) (vs := [_]) (c' := [_]) rfl rfl rfl rfl rfl rfl rfl rfl rfl ?_
      refine wp_norm [_, _, _] rfl ?_
      refine op_storeP 2 (v := .int .i64 _) (vs := [_]) (c' := [_]) rfl rfl rfl rfl rfl rfl rfl rfl rfl ?_
      refine wp_norm [_, _, _] rfl ?_
      refine xp_ret ?_
      exact .inl ⟨rfl, doneK_list (vs := [_, _]) Try.results13 ⟨resV_one 1 rfl rfl rfl rfl (v := .slice _ _ _) rfl, resV_one 2 rfl rfl rfl rfl (v := .int .i64 _) rfl, trivial⟩ (fun V => ⟨(Ext.trans E1 (ext_wl V)), _, by rw [playM, if_neg hc', if_pos hm']; rfl, by rw [playM, if_neg hc', if_pos hm']; exact SlX.nil _ _ _ _ _⟩)⟩
    · skip
      have hm' : ¬ (l.length : Int) > 12 := of_decide_eq_false hm
      refine xp_skip ?_
      refine xp_seq ?_
      refine xp_regionD rfl rfl ?_
      refine op_pure (pv_makeFunc (vs := []) (ws := [_, _]) rfl rfl) ?_
      refine goes_deferF rfl rfl rfl rfl ?_
      refine goes_end ?_
      refine goes_norm [_, _, _] rfl ?_
      have M := check_ok (by simpa using hc' : chkM m = 0)
      have tr := M.travel
      have hbl := M.bl
      have hrg := M.regs
      refine goes_more ?_
      refine goes_norm [_, _, _, _] rfl ?_
      refine xp_seq ?_
      refine xp_region rfl ?_
      refine op_loadPA 0 (vs := [.int .i64 _, .int .i64 _, .int .i64 _, .int .i64 _, .int .i64 _, .slice _ _ _, .slice _ _ _, .slice _ _ _, .slice _ _ _]) rfl rfl rfl rfl rfl ?_
      refine op_fn (caps := []) (vs := [.agg #[.int .i64 _, .int .i64 _, .int .i64 _, .int .i64 _, .int .i64 _, .slice _ _ _, .slice _ _ _, .slice _ _ _, .slice _ _ _]]) rfl rfl rfl (sounding_ok m AB AQ AL AW cB cQ cL cW h1 (RM.ext E1)) ?_
      rintro _ h2 E2 ⟨bs, AB1, AQ1, AL1, AW1, cB1, cQ1, cL1, cW1, rfl, CM, RM1⟩
      refine op_pure (pv_assign (v := _) rfl) ?_
      refine xp_seq ?_
      refine xp_region rfl ?_
      refine op_alloc (cs := [_, _]) rfl rfl fun b8 hb8 => ?_
      refine wp_norm [_, _, _, _, _] rfl ?_
      refine xp_seq ?_
      refine xp_seq ?_
      refine xp_region rfl ?_
      refine op_pure (pv_move (v := .slice _ _ _) rfl) ?_
      refine op_pure (pv_len rfl rfl) ?_
      refine op_pure (pv_move (v := .int .i64 _) rfl) ?_
      refine xp_block ?_
      refine xp_loopL [10, 24, 25, 26, 27, 28, 29, 30, 31, 32, 33, 34, 35, 36, 37, 38, 39, 40, 41, 42, 43, 44, 45, 46, 47, 48, 49, 50, 51, 52, 53, 54, 55, 56, 57, 58, 59, 60, 61, 62, 63, 64, 65, 66, 67, 68, 69, 70] 5 (α := Nat × Acc × List (List Value) × HandP × Option Addr × Nat × Option Addr × Nat) (fun ⟨k, a, gs, hd, HA, cH, OA, cO⟩ => [(24, .int .i64 k)]) (fun ⟨k, a, gs, hd, HA, cH, OA, cO⟩ L => ((L.set 1 (some (b4, .cells #[.slice a.A a.n a.c] 48 (0, 0)))).set 3 (a.p)).set 4 (some (b8, .cells #[.slice HA hd.buttons.length cH, .slice OA hd.on.length cO] 37 (0, 0)))) (fun ⟨k, a, gs, hd, HA, cH, OA, cO⟩ h_k => k ≤ l.length ∧ (goM m (l.take k)).e = 0 ∧ (goM m (l.take k)).a = hd ∧ HOK m hd ∧ HandR h_k HA OA hd ∧ AccR 22 1 (gs.flatMap id) a ∧ Els h_k TL (goM m (l.take k)).out gs ∧ ∀ x ∈ gs, x.length = 1) (fun ⟨k, a, gs, hd, HA, cH, OA, cO⟩ => l.length - k) ((0, acc0, [], ⟨[], []⟩, none, 0, none, 0)) ⟨rfl, trivial⟩ (rfl) (⟨Nat.zero_le _, rfl, rfl, hok0 m, ⟨⟨fun _ _ => rfl, Rd.nil _ _⟩, ⟨fun _ _ => rfl, Rd.nil _ _⟩⟩, accR0, Els.nil _ _, fun _ hx => absurd hx List.not_mem_nil⟩) ?_
      rintro ⟨k, a, gs, hd, HA, cH, OA, cO⟩ T1 h_k E_k J_k
      refine goes_norm [_, _, _, _, _] rfl ?_
      obtain ⟨K1, K2, K3, K4, K5, K6, K7, K8⟩ := J_k
      refine xp_seq ?_
      refine xp_region rfl ?_
      refine op_pure (pv_of (v := .bool _) rfl) ?_
      refine xp_seq ?_
      refine xp_cond rfl (fun hk => ?_) (fun hk => ?_)
      · skip
        have hkl : k < l.length := ltI hk
        obtain ⟨g, off, hA, hcE⟩ := (RE.ext (Ext.trans (Ext.trans E1 E2) E_k)).at (by omega) hkl
        have hb1 := set_len K4.b
        have ho1 : hd.on.length ≤ m.regs.toNat := set_len (below := m.regs.toNat) (by have := K4.o; rwa [← Int.toNat_of_nonneg hrg.1] at this)
        refine xp_skip ?_
        refine xp_seq ?_
        refine xp_block ?_
        refine xp_seq ?_
        refine xp_region rfl ?_
        refine op_pure (pv_indexE rfl hA rfl rfl rfl (by omega) (by omega)) ?_
        refine op_loadA rfl rfl rfl rfl (hcE) ?_
        refine op_alloc (cs := [_, _]) rfl rfl fun b10 hb10 => ?_
        refine wp_norm [_, _, _, _, _, _] rfl ?_
        refine op_storeP 5 (v := .agg #[.int .i64 _, .int .i64 _]) (vs := [_, _]) (c' := [_, _]) rfl rfl rfl rfl rfl rfl rfl rfl rfl ?_
        refine wp_norm [_, _, _, _, _, _] rfl ?_
        refine xp_cutB [28, 29, 30, 31, 32, 33, 34, 35, 36, 37, 38, 39, 40, 41, 42, 43, 44, 45, 46, 47, 48, 49, 50, 51, 52, 53, 54, 55, 56, 57, 58, 59, 60] 6 (α := Option Addr × Nat × Option Addr × Nat) (fun ⟨H9, c9, O9, d9⟩ => []) (fun ⟨H9, c9, O9, d9⟩ L => L.set 4 (some (b8, .cells #[.slice H9 (stepH hd l[k]).buttons.length c9, .slice O9 (stepH hd l[k]).on.length d9] 37 (0, 0)))) (fun ⟨H9, c9, O9, d9⟩ h_H9 => stepE m hd l[k] = 0 ∧ HandR h_H9 H9 O9 (stepH hd l[k])) ?_ ?_
        · skip
          refine xp_seq ?_
          refine xp_region rfl ?_
          refine op_pure (pv_fieldAddr rfl rfl rfl rfl 0 rfl) ?_
          refine op_loadP 5 (v := .int .i64 _) rfl rfl rfl rfl ?_
          refine xp_block ?_
          refine xp_cutB [32, 33, 34] 6 (α := Unit) (fun u => [(32, .bool (decide (l[k].kind = 1 ∨ l[k].kind = 2)))]) (fun u L => L) (fun u h_u => True) ?_ ?_
          · skip
            refine xp_seq ?_
            refine xp_region rfl ?_
            refine op_pure (pv_of (v := .bool _) rfl) ?_
            refine op_pure (pv_assign (v := .bool _) rfl) ?_
            refine xp_cond rfl (fun q1 => ?_) (fun q1 => ?_)
            · skip
              have q1' : l[k].kind = 1 := by simpa using q1
              refine xp_skip ?_
              refine ⟨(), ⟨(by show Value.bool _ = _; rw [q1, decide_eq_true (.inl q1')]), trivial⟩, rfl, rfl, (Ext.refl _), fun h3 E3 => by first | trivial | omega | (refine ⟨?_, ?_⟩ <;> omega), ?_⟩
              repeat (first | exact off_refl _ _ | exact off_base _ _ _ | refine off_upd (by decide) ?_ | refine off_updL rfl ?_ | refine off_mix rfl ?_)
            · skip
              have q1' : ¬ l[k].kind = 1 := by simpa using q1
              refine xp_region rfl ?_
              refine op_pure (pv_of (v := .bool _) rfl) ?_
              refine op_pure (pv_assign (v := .bool _) rfl) ?_
              refine ⟨(), ⟨(by show Value.bool _ = _; congr 1; by_cases q2 : l[k].kind = 2 <;> simp [q1', q2]), trivial⟩, rfl, rfl, (Ext.refl _), fun h3 E3 => by first | trivial | omega | (refine ⟨?_, ?_⟩ <;> omega), ?_⟩
              repeat (first | exact off_refl _ _ | exact off_base _ _ _ | refine off_upd (by decide) ?_ | refine off_updL rfl ?_ | refine off_mix rfl ?_)
          · rintro u T3 h_u E_u J_u
            refine goes_norm [_, _, _, _, _, _] rfl ?_
            refine xp_cond rfl (fun hb => ?_) (fun hb => ?_)
            · skip
              have hb' : l[k].kind = 1 ∨ l[k].kind = 2 := of_decide_eq_true hb
              have hstep : stepE m hd l[k] = putE hd.buttons l[k].which m.buttons.length (l[k].kind == 1) := by unfold stepE; rw [if_pos hb']
              have hsh : stepH hd l[k] = ⟨putL hd.buttons l[k].which (l[k].kind == 1), hd.on⟩ := by unfold stepH; rw [if_pos hb']
              refine xp_region rfl ?_
              refine op_pure (pv_fieldAddr rfl rfl rfl rfl 0 rfl) ?_
              refine op_loadP 4 (v := .slice _ _ _) rfl rfl rfl rfl ?_
              refine op_pure (pv_fieldAddr rfl rfl rfl rfl 1 rfl) ?_
              refine op_loadP 5 (v := .int .i64 _) rfl rfl rfl rfl ?_
              refine op_pure (pv_fieldAddr rfl rfl rfl rfl 5 rfl) ?_
              refine op_loadP 0 (v := .slice _ _ _) rfl rfl rfl rfl ?_
              refine op_pure (pv_len rfl rfl) ?_
              refine op_pure (pv_fieldAddr rfl rfl rfl rfl 0 rfl) ?_
              refine op_loadP 5 (v := .int .i64 _) rfl rfl rfl rfl ?_
              refine op_pure (pv_of (v := .bool _) rfl) ?_
              refine op_fnE (caps := []) (vs := [.slice _ _ _, .int .i64 _, .int .i64 _, .bool _]) rfl rfl rfl (put_ok hd.buttons l[k].which m.buttons.length (l[k].kind == 1) HA cH h_u (K5.ext E_u).b (by omega) K4.b.asc (by omega)) (fun v h9 E9 q => ?_) ?_
              · obtain ⟨hne, rfl⟩ := q
                exact Exists.intro _ ⟨rfl, playClo_pan _ _ _ _ _ _ _ _ _ _ _ (fun b3 o3 => doneK_list (vs := [_, _]) Try.results13 ⟨resV_one 1 rfl rfl rfl rfl (v := .slice _ _ _) rfl, resV_one 2 rfl rfl rfl rfl (v := .int .i64 _) rfl, trivial⟩ (fun V => ⟨Ext.trans (Ext.trans (Ext.trans (Ext.trans (Ext.trans E1 E2) E_k) E_u) E9) (ext_wl V), _, by rw [playM, if_neg hc', if_neg hm', goM_bad m hkl K2 (by rw [K3, hstep]; exact hne)]; show _ = Value.tuple #[_, .int .i64 (stepE m (goM m (l.take k)).a l[k])]; rw [K3, hstep]; rfl, by rw [playM, if_neg hc', if_neg hm', goM_bad m hkl K2 (by rw [K3, hstep]; exact hne)]; exact SlX.nil _ _ _ _ _⟩))⟩
              rintro _ h9 E9 ⟨he, A9, c9, rfl, R9⟩
              refine op_pure (pv_fieldAddr rfl rfl rfl rfl 0 rfl) ?_
              refine op_storeP 4 (v := .slice _ _ _) (vs := [_]) (c' := [_, _]) rfl rfl rfl rfl rfl rfl rfl rfl rfl ?_
              refine wp_norm [_, _, _, _, _, _] rfl ?_
              refine ⟨(A9, c9, OA, cO), trivial, rfl, by rw [hsh]; rfl, (Ext.trans E_u E9), fun h3 E3 => ⟨by rw [hstep, he], by rw [hsh]; exact ⟨R9.ext E3, K5.o.ext (Ext.trans (Ext.trans E_u E9) E3)⟩⟩, ?_⟩
              repeat (first | exact off_refl _ _ | exact off_base _ _ _ | refine off_upd (by decide) ?_ | refine off_updL rfl ?_ | refine off_mix rfl ?_)
            · skip
              have hb' : ¬ (l[k].kind = 1 ∨ l[k].kind = 2) := of_decide_eq_false hb
              refine xp_cutB [47, 48, 49] 6 (α := Unit) (fun u2 => [(47, .bool (decide (l[k].kind = 3 ∨ l[k].kind = 4)))]) (fun u2 L => L) (fun u2 h_u2 => True) ?_ ?_
              · skip
                refine xp_seq ?_
                refine xp_region rfl ?_
                refine op_pure (pv_of (v := .bool _) rfl) ?_
                refine op_pure (pv_assign (v := .bool _) rfl) ?_
                refine xp_cond rfl (fun q1 => ?_) (fun q1 => ?_)
                · skip
                  have q1' : l[k].kind = 3 := by simpa using q1
                  refine xp_skip ?_
                  refine ⟨(), ⟨(by show Value.bool _ = _; rw [q1, decide_eq_true (.inl q1')]), trivial⟩, rfl, rfl, (Ext.refl _), fun h3 E3 => by first | trivial | omega | (refine ⟨?_, ?_⟩ <;> omega), ?_⟩
                  repeat (first | exact off_refl _ _ | exact off_base _ _ _ | refine off_upd (by decide) ?_ | refine off_updL rfl ?_ | refine off_mix rfl ?_)
                · skip
                  have q1' : ¬ l[k].kind = 3 := by simpa using q1
                  refine xp_region rfl ?_
                  refine op_pure (pv_of (v := .bool _) rfl) ?_
                  refine op_pure (pv_assign (v := .bool _) rfl) ?_
                  refine ⟨(), ⟨(by show Value.bool _ = _; congr 1; by_cases q2 : l[k].kind = 4 <;> simp [q1', q2]), trivial⟩, rfl, rfl, (Ext.refl _), fun h3 E3 => by first | trivial | omega | (refine ⟨?_, ?_⟩ <;> omega), ?_⟩
                  repeat (first | exact off_refl _ _ | exact off_base _ _ _ | refine off_upd (by decide) ?_ | refine off_updL rfl ?_ | refine off_mix rfl ?_)
              · rintro u2 T4 h_u2 E_u2 J_u2
                refine goes_norm [_, _, _, _, _, _] rfl ?_
                refine xp_cond rfl (fun hb2 => ?_) (fun hb2 => ?_)
                · skip
                  have hb2' : l[k].kind = 3 ∨ l[k].kind = 4 := of_decide_eq_true hb2
                  have hstep : stepE m hd l[k] = putE hd.on l[k].which m.regs (l[k].kind == 3) := by unfold stepE; rw [if_neg hb', if_pos hb2']
                  have hsh : stepH hd l[k] = ⟨hd.buttons, putL hd.on l[k].which (l[k].kind == 3)⟩ := by unfold stepH; rw [if_neg hb']
                  refine xp_region rfl ?_
                  refine op_pure (pv_fieldAddr rfl rfl rfl rfl 1 rfl) ?_
                  refine op_loadP 4 (v := .slice _ _ _) rfl rfl rfl rfl ?_
                  refine op_pure (pv_fieldAddr rfl rfl rfl rfl 1 rfl) ?_
                  refine op_loadP 5 (v := .int .i64 _) rfl rfl rfl rfl ?_
                  refine op_pure (pv_fieldAddr rfl rfl rfl rfl 2 rfl) ?_
                  refine op_loadP 0 (v := .int .i64 _) rfl rfl rfl rfl ?_
                  refine op_pure (pv_fieldAddr rfl rfl rfl rfl 0 rfl) ?_
                  refine op_loadP 5 (v := .int .i64 _) rfl rfl rfl rfl ?_
                  refine op_pure (pv_of (v := .bool _) rfl) ?_
                  refine op_fnE (caps := []) (vs := [.slice _ _ _, .int .i64 _, .int .i64 _, .bool _]) rfl rfl rfl (put_ok hd.on l[k].which m.regs (l[k].kind == 3) OA cO h_u2 (K5.ext (Ext.trans E_u E_u2)).o (by omega) K4.o.asc (by omega)) (fun v h9 E9 q => ?_) ?_
                  · obtain ⟨hne, rfl⟩ := q
                    exact Exists.intro _ ⟨rfl, playClo_pan _ _ _ _ _ _ _ _ _ _ _ (fun b3 o3 => doneK_list (vs := [_, _]) Try.results13 ⟨resV_one 1 rfl rfl rfl rfl (v := .slice _ _ _) rfl, resV_one 2 rfl rfl rfl rfl (v := .int .i64 _) rfl, trivial⟩ (fun V => ⟨Ext.trans (Ext.trans (Ext.trans (Ext.trans (Ext.trans (Ext.trans E1 E2) E_k) E_u) E_u2) E9) (ext_wl V), _, by rw [playM, if_neg hc', if_neg hm', goM_bad m hkl K2 (by rw [K3, hstep]; exact hne)]; show _ = Value.tuple #[_, .int .i64 (stepE m (goM m (l.take k)).a l[k])]; rw [K3, hstep]; rfl, by rw [playM, if_neg hc', if_neg hm', goM_bad m hkl K2 (by rw [K3, hstep]; exact hne)]; exact SlX.nil _ _ _ _ _⟩))⟩
                  rintro _ h9 E9 ⟨he, A9, c9, rfl, R9⟩
                  refine op_pure (pv_fieldAddr rfl rfl rfl rfl 1 rfl) ?_
                  refine op_storeP 4 (v := .slice _ _ _) (vs := [_]) (c' := [_, _]) rfl rfl rfl rfl rfl rfl rfl rfl rfl ?_
                  refine wp_norm [_, _, _, _, _, _] rfl ?_
                  refine ⟨(HA, cH, A9, c9), trivial, rfl, by rw [hsh]; rfl, (Ext.trans (Ext.trans E_u E_u2) E9), fun h3 E3 => ⟨by rw [hstep, he], by rw [hsh]; exact ⟨K5.b.ext (Ext.trans (Ext.trans (Ext.trans E_u E_u2) E9) E3), R9.ext E3⟩⟩, ?_⟩
                  repeat (first | exact off_refl _ _ | exact off_base _ _ _ | refine off_upd (by decide) ?_ | refine off_updL rfl ?_ | refine off_mix rfl ?_)
                · skip
                  have hb2' : ¬ (l[k].kind = 3 ∨ l[k].kind = 4) := of_decide_eq_false hb2
                  have hstep : stepE m hd l[k] = 8 := by unfold stepE; rw [if_neg hb', if_neg hb2']
                  have hne : (8 : Int) ≠ 0 := by decide
                  refine xp_region rfl ?_
                  refine op_pure (pv_build (zc := [_]) (vs := [(0, .int .i64 _)]) (cs := [_]) rfl rfl rfl rfl rfl rfl) ?_
                  refine op_pure (pv_of (v := _) rfl) ?_
                  refine op_panic rfl ?_
                  exact Exists.intro _ ⟨rfl, playClo_pan _ _ _ _ _ _ _ _ _ _ _ (fun b3 o3 => doneK_list (vs := [_, _]) Try.results13 ⟨resV_one 1 rfl rfl rfl rfl (v := .slice _ _ _) rfl, resV_one 2 rfl rfl rfl rfl (v := .int .i64 _) rfl, trivial⟩ (fun V => ⟨(Ext.trans (Ext.trans (Ext.trans (Ext.trans (Ext.trans E1 E2) E_k) E_u) E_u2) (ext_wl V)), _, by rw [playM, if_neg hc', if_neg hm', goM_bad m hkl K2 (by rw [K3, hstep]; exact hne)]; show _ = Value.tuple #[_, .int .i64 (stepE m (goM m (l.take k)).a l[k])]; rw [K3, hstep]; rfl, by rw [playM, if_neg hc', if_neg hm', goM_bad m hkl K2 (by rw [K3, hstep]; exact hne)]; exact SlX.nil _ _ _ _ _⟩))⟩
        · rintro ⟨H9, c9, O9, d9⟩ T2 h_H9 E_H9 J_H9
          refine goes_norm [_, _, _, _, _, _] rfl ?_
          obtain ⟨S0, RH9⟩ := J_H9
          have H9' := stepH_ok K4 S0
          have hgo := goM_good m hkl K2 (by rw [K3]; exact S0)
          rw [K3] at hgo
          have hgl : (gs.flatMap id).length = gs.length := by rw [flat_len (enc := id) (m := 1) K8, Nat.mul_one]
          have hgk : gs.length ≤ k := by rw [K7.1]; have := goM_len m (l.take k); rw [List.length_take] at this; omega
          refine xp_dw [false, false, false, true, false, false] rfl rfl rfl ?_
          refine dw_load (i := 0) rfl (by decide +kernel) ?_
          refine op_loadP 1 (v := .slice _ _ _) rfl rfl rfl rfl ?_
          refine dw_pure (i := 1) rfl (by decide +kernel) (pv_move (v := _) rfl) ?_
          refine dw_load (i := 2) rfl (by decide +kernel) ?_
          refine op_loadPA 4 (vs := [.slice _ _ _, .slice _ _ _]) rfl rfl rfl rfl rfl ?_
          refine dw_pure (i := 3) rfl (by decide +kernel) (pv_fieldAddr rfl rfl rfl rfl 3 rfl) ?_
          refine dw_load (i := 4) rfl (by decide +kernel) ?_
          refine op_loadP 0 (v := .int .i64 _) rfl rfl rfl rfl ?_
          refine dw_eff (i := 5) rfl (by decide +kernel) ?_
          refine op_fn  (vs := _) rfl rfl rfl (snd_ok hph m (stepH hd l[k]) (fit_of M H9') (pfit_of M) m.travel (by omega) tr.2 bs AB1 AQ1 AL1 AW1 H9 O9 cB1 cQ1 cL1 cW1 c9 d9 h_H9 (CM.ext (Ext.trans E_k E_H9)) (RM1.ext (Ext.trans E_k E_H9)) (RH9.ext (Ext.refl _))) ?_
          rintro _ h5 E5 rfl
          refine ⟨ext_wlm E5 _, ?_⟩
          refine dw_eff (i := 6) rfl (by decide +kernel) ?_
          refine op_fn (caps := []) (vs := [.int .i64 _]) rfl rfl rfl (list_ok (soundsM m (stepH hd l[k]) m.travel) (sounds_small (pfit_of M) _ _) h5) ?_
          rintro _ h6 E6 ⟨Al, cl, rfl, Rl⟩
          refine ⟨ext_wlm E6 _, ?_⟩
          refine dw_eff (i := 7) rfl (by decide +kernel) ?_
          refine op_buildSlice (zc := [_]) (vs := [(0, .slice _ _ _)]) (cs := [_]) rfl rfl rfl rfl rfl rfl rfl fun b68 hb68 => ?_
          refine ⟨ext_newM hb68 _, ?_⟩
          refine dw_norm [_, _, _, _, _, _, _] rfl ?_
          refine dw_last (i := 8) rfl (by decide +kernel) (by decide +kernel) ?_
          refine op_appendR 3 K6 rfl rfl rfl (fun V => rdP V (i := 6) rfl) rfl rfl rfl rfl rfl rfl rfl rfl rfl (by omega) rfl (by rw [hgl]; simp only [List.length_cons, List.length_nil]; omega) fun a2 h5a E5a ha2 => ?_
          refine dw_norm [_, _, _, _, _, _, _] rfl ?_
          refine dw_last (i := 9) rfl (by decide +kernel) (by decide +kernel) ?_
          refine op_storeP 1 (v := .slice _ _ _) (vs := [_]) (c' := [_]) rfl rfl rfl rfl rfl rfl rfl rfl rfl ?_
          refine dw_norm [_, _, _, _, _, _, _] rfl ?_
          refine dw_end rfl ?_
          refine xp_region rfl ?_
          refine op_pure (pv_arith rfl (by omega)) ?_
          refine op_pure (pv_move (v := .int .i64 _) rfl) ?_
          refine ⟨(k + 1, a2, gs ++ [[.slice Al (listN (soundsM m (stepH hd l[k]) m.travel) 6).length cl]], stepH hd l[k], H9, c9, O9, d9), ⟨rfl, trivial⟩, rfl, rfl, (Ext.trans (Ext.trans (Ext.trans (Ext.trans E_k E_H9) E5) E6) E5a), fun h3 E3 => ⟨hkl, by rw [hgo], by rw [hgo], H9', RH9.ext (Ext.trans (Ext.trans (Ext.trans E5 E6) E5a) E3), by rw [List.flatMap_append]; exact ha2, by rw [hgo]; exact (Els.snoc (K7.ext TL.mono (Ext.trans (Ext.trans (Ext.trans E_H9 E5) E6) E5a)) ⟨_, rfl, Al, cl, rfl, Rl.ext E5a⟩).ext TL.mono E3, one_len K8 rfl⟩, by first | omega | (dsimp only; omega), ?_⟩
          repeat (first | exact off_base _ _ _ | refine off_upd (by decide) ?_ | refine off_updL rfl ?_ | refine off_mix rfl ?_)
      · skip
        have hke : k = l.length := by have := geI hk; omega
        subst hke
        rw [List.take_length] at K2 K3 K7
        refine xp_exit ?_
        refine xp_seq ?_
        refine xp_region rfl ?_
        refine op_loadP 1 (v := .slice _ _ _) rfl rfl rfl rfl ?_
        refine op_storeP 1 (v := .slice _ _ _) (vs := [_]) (c' := [_]) rfl rfl rfl rfl rfl rfl rfl rfl rfl ?_
        refine wp_norm [_, _, _, _, _] rfl ?_
        refine op_storeP 2 (v := .int .i64 _) (vs := [_]) (c' := [_]) rfl rfl rfl rfl rfl rfl rfl rfl rfl ?_
        refine wp_norm [_, _, _, _, _] rfl ?_
        refine xp_ret ?_
        refine .inr (Exists.intro _ ⟨rfl, playClo_nil _ _ _ _ _ (doneK_list (vs := [_, _]) Try.results13 ⟨resV_one 1 rfl rfl rfl rfl (v := .slice _ _ _) rfl, resV_one 2 rfl rfl rfl rfl (v := .int .i64 _) rfl, trivial⟩ (fun V => ?_))⟩)
        obtain ⟨A9, c9, e9, R9⟩ := AccP.row (m := 1) (enc := id) (i := 3) (l := gs) K6 (by omega) K8 V rfl
        refine ⟨(Ext.trans (Ext.trans (Ext.trans E1 E2) E_k) (ext_wl V)), _, by rw [playM, if_neg hc', if_neg hm', K2]; rfl, ?_⟩
        rw [playM, if_neg hc', if_neg hm']
        have X := SlX.of (T := TL) (l := (goM m l).out) (cap := c9) R9 (K7.ext TL.mono (ext_wl V)) K7.1.symm
        rw [← e9] at X
        exact X
end
end Go.Proofs.Ytlfbcimcehcomaa
/- Walks: the reference's step and Play. Conditions: as each theorem states. -/
namespace Go.Proofs.Ytlfbcimcehcomaa
open Go Go.HL Go.Proofs Go.Wx Go.Rd
section
variable [Lvl]
set_option maxRecDepth 100000
end
end Go.Proofs.Ytlfbcimcehcomaa
/- Walks of the reference: the checks of any machine and hand. Conditions: as each theorem states. -/
namespace Go.Proofs.Ytlfbcimcehcomaa
open Go Go.HL Go.Proofs Go.Wx Go.Rd
section
variable [Lvl]
set_option maxRecDepth 100000
end
end Go.Proofs.Ytlfbcimcehcomaa
/- Walks of the reference: a machine without a pin, without a link; all faults. Conditions: as each theorem states. -/
namespace Go.Proofs.Ytlfbcimcehcomaa
open Go Go.HL Go.Proofs Go.Wx Go.Rd
section
variable [Lvl]
set_option maxRecDepth 100000
end
end Go.Proofs.Ytlfbcimcehcomaa
/- Plain: a machine without pins and links sounds like one in which they lift and turn nothing. Conditions: none. -/
namespace Go.Rd
open Go Go.HL Go.Wx
variable [Lvl]
/-- m' is m without some pins and links that do nothing. -/
structure Mut (m m' : MachP) : Prop where
  lv : m'.levers = m.levers
  op : m'.opn = m.opn
  tv : m'.travel = m.travel
  bt : m'.buttons = m.buttons
  p1 : ∀ p ∈ m'.pins, p ∈ m.pins
  p2 : ∀ p ∈ m.pins, p.lag = m.travel ∨ p ∈ m'.pins
  l1 : ∀ l ∈ m'.links, l ∈ m.links
  l2 : ∀ l ∈ m.links, l.lag = m.travel ∨ l ∈ m'.links
end Go.Rd
/- Walks of the reference: what sounds with faults. Conditions: as each theorem states. -/
namespace Go.Proofs.Ytlfbcimcehcomaa
open Go Go.HL Go.Proofs Go.Wx Go.Rd
section
variable [Lvl]
set_option maxRecDepth 100000
end
end Go.Proofs.Ytlfbcimcehcomaa
/- Walks of the reference: Broken, told, Left; what is heard of a machine with faults. Conditions: as each theorem states. -/
namespace Go.Proofs.Ytlfbcimcehcomaa
open Go Go.HL Go.Proofs Go.Wx Go.Rd
section
variable [Lvl]
set_option maxRecDepth 100000
end
end Go.Proofs.Ytlfbcimcehcomaa
/- Walks: copies of what was heard; how many are left. Conditions: as each theorem states. -/
namespace Go.Proofs.Ytlfbcimcehcomaa
open Go Go.HL Go.Proofs Go.Wx Go.Rd
section
variable [Lvl]
set_option maxRecDepth 100000
end
end Go.Proofs.Ytlfbcimcehcomaa
/- Plain facts of package rod: the reference's sweeps at any depth. Conditions: as each theorem states. -/
namespace Go.Rd
open Go Go.HL Go.Wx
variable [Lvl]
end Go.Rd
/- Walks of the reference: Turns, Lifts, Sounds, Force of any machine and hand; copies, equal machines. Conditions: as each theorem states. -/
namespace Go.Proofs.Ytlfbcimcehcomaa
open Go Go.HL Go.Proofs Go.Wx Go.Rd
section
variable [Lvl]
set_option maxRecDepth 100000
/-- A machine with lists of some length. -/
structure Sml (m : MachP) : Prop where
  b : m.buttons.length < 2 ^ 20
  q : m.pins.length < 2 ^ 20
  l : m.links.length < 2 ^ 20
  w : m.weights.length < 2 ^ 20
structure SmlH (a : HandP) : Prop where
  b : a.buttons.length < 2 ^ 20
  o : a.on.length < 2 ^ 20
end
end Go.Proofs.Ytlfbcimcehcomaa
/- Walks: the reference's Play. Conditions: as each theorem states. -/
namespace Go.Proofs.Ytlfbcimcehcomaa
open Go Go.HL Go.Proofs Go.Wx Go.Rd
section
variable [Lvl]
set_option maxRecDepth 100000
end
end Go.Proofs.Ytlfbcimcehcomaa
/- Walks: events made of numbers. Conditions: as each theorem states. -/
namespace Go.Proofs.Ytlfbcimcehcomaa
open Go Go.HL Go.Proofs Go.Wx Go.Rd
section
variable [Lvl]
set_option maxRecDepth 100000
end
end Go.Proofs.Ytlfbcimcehcomaa
/- Walks: ways made of numbers. Conditions: as each theorem states. -/
namespace Go.Proofs.Ytlfbcimcehcomaa
open Go Go.HL Go.Proofs Go.Wx Go.Rd Go.Bw
section
variable [Lvl]
set_option maxRecDepth 100000
end
end Go.Proofs.Ytlfbcimcehcomaa
/- Walks of musettetop: the example of TopPlayed holds. Conditions: as each theorem states. -/
namespace Go.Proofs.Ytlfbcimcehcomaa
open Go Go.HL Go.Proofs Go.Wx Go.Rd Go.Bw
section
variable [Lvl]
set_option maxRecDepth 100000
end
end Go.Proofs.Ytlfbcimcehcomaa
/- Walks: copies of machines, equal machines; the reference's Force; lists that are too long. Conditions: as each theorem states. -/
namespace Go.Proofs.Ytlfbcimcehcomaa
open Go Go.HL Go.Proofs Go.Wx Go.Rd
section
variable [Lvl]
set_option maxRecDepth 100000
/-- A machine's cells. -/
abbrev machC (AB AQ AL AW : Option Addr) (cB cQ cL cW : Nat) (m : MachP) : List Value := [.int .i64 m.rods, .int .i64 m.levers, .int .i64 m.regs, .int .i64 m.travel, .int .i64 m.opn, .slice AB m.buttons.length cB, .slice AQ m.pins.length cQ, .slice AL m.links.length cL, .slice AW m.weights.length cW]
/-- Machines as elements: pins and links have room. -/
def TMa (h : AH) (m : MachP) (c : List Value) : Prop := ∃ AB AQ AL AW cB cQ cL cW, c = machC AB AQ AL AW cB cQ cL cW m ∧ MachR h AB AQ AL AW m ∧ m.pins.length ≤ cQ ∧ m.links.length ≤ cL
theorem TMa.mono : Mono TMa := fun h h' m c e ⟨AB, AQ, AL, AW, cB, cQ, cL, cW, hc, r, s⟩ => ⟨AB, AQ, AL, AW, cB, cQ, cL, cW, hc, r.ext e, s⟩
end
end Go.Proofs.Ytlfbcimcehcomaa
/- Walks of the reference: Force, Depth, Chart, Chord of any machine. Conditions: as each theorem states. -/
namespace Go.Proofs.Ytlfbcimcehcomaa
open Go Go.HL Go.Proofs Go.Wx Go.Rd
section
variable [Lvl]
set_option maxRecDepth 100000
end
end Go.Proofs.Ytlfbcimcehcomaa
/- Walks: more buttons, pins and links. Conditions: as each theorem states. -/
namespace Go.Proofs.Ytlfbcimcehcomaa
open Go Go.HL Go.Proofs Go.Wx Go.Rd
section
variable [Lvl]
set_option maxRecDepth 100000
end
end Go.Proofs.Ytlfbcimcehcomaa
/- Walks: RodSounds. Conditions: as each theorem states. -/
namespace Go.Proofs.Ytlfbcimcehcomaa
open Go Go.HL Go.Proofs Go.Wx Go.Rd
section
variable [Lvl]
set_option maxRecDepth 100000
theorem AccR.room {e : TypeId} {m : Nat} {cs : List Value} {a : Acc} (r : AccR e m cs a) (hm : 0 < m) : a.n ≤ a.c := by
  rcases r with ⟨_, _, A, ev⟩ | ⟨b, len, cap, junk, hl, ev, _, hc⟩
  · injection ev with _ h1 h2; omega
  · injection ev with _ h1 h2
    rw [List.length_append, hl] at hc
    have : len * m ≤ cap * m := by omega
    have := Nat.le_of_mul_le_mul_right this hm
    omega
end
end Go.Proofs.Ytlfbcimcehcomaa
/- Walks: RodOrder. Conditions: as each theorem states. -/
namespace Go.Proofs.Ytlfbcimcehcomaa
open Go Go.HL Go.Proofs Go.Wx Go.Rd
section
variable [Lvl]
set_option maxRecDepth 100000
theorem putL_mem {l : List Int} {n : Int} (hn : n ∉ l) (x : Int) : x ∈ putL l n true ↔ x ∈ l ∨ x = n := by
  unfold putL
  rw [if_pos rfl, List.mem_append, List.mem_append, List.mem_singleton, List.mem_filter, List.mem_filter]
  constructor
  · rintro ((⟨h, _⟩ | h) | ⟨h, _⟩)
    · exact .inl h
    · exact .inr h
    · exact .inl h
  · rintro (h | h)
    · have hne : x ≠ n := fun e => hn (e ▸ h)
      rcases Int.lt_or_gt_of_ne hne with h1 | h1
      · exact .inl (.inl ⟨h, decide_eq_true h1⟩)
      · exact .inr ⟨h, decide_eq_true h1⟩
    · exact .inl (.inr h)
theorem putE_zero {l : List Int} {n below : Int} (h0 : 0 ≤ n ∧ n < below) (hn : n ∉ l) : putE l n below true = 0 := by
  have h1 : ¬ inM n 0 (below - 1) = false := by
    have : inM n 0 (below - 1) = true := inM_iff.2 (by omega)
    rw [this]; decide
  rw [putE, if_neg h1, if_neg (fun y => hn y.2), if_neg (by simp)]
/-- Which buttons are pressed and which registers are on, when some of an order has been gone through. -/
structure Prs (hb on s : List Int) (hd : HandP) : Prop where
  bm : ∀ x, x ∈ hd.buttons ↔ ∃ q : Nat, (q : Int) ∈ s ∧ hb[q]? = some x
  om : ∀ x, x ∈ hd.on ↔ ∃ q : Nat, ((hb.length + q : Nat) : Int) ∈ s ∧ on[q]? = some x
theorem Prs.nil (hb on : List Int) : Prs hb on [] ⟨[], []⟩ := ⟨fun x => ⟨fun h => absurd h List.not_mem_nil, fun ⟨_, h, _⟩ => absurd h List.not_mem_nil⟩, fun x => ⟨fun h => absurd h List.not_mem_nil, fun ⟨_, h, _⟩ => absurd h List.not_mem_nil⟩⟩
theorem asc_inj {l : List Int} (p : l.Pairwise (· < ·)) {i j : Nat} {x : Int} (hi : l[i]? = some x) (hj : l[j]? = some x) : i = j := by
  obtain ⟨h1, e1⟩ := List.getElem?_eq_some_iff.1 hi
  obtain ⟨h2, e2⟩ := List.getElem?_eq_some_iff.1 hj
  rcases Nat.lt_trichotomy i j with h | h | h
  · have := List.pairwise_iff_getElem.1 p i j h1 h2 h; omega
  · exact h
  · have := List.pairwise_iff_getElem.1 p j i h2 h1 h; omega
theorem prs_b {m : MachP} {hb on s : List Int} {hd : HandP} (H : HOK m ⟨hb, on⟩) (P : Prs hb on s hd) {z : Nat} (hz : (z : Int) ∉ s) {v : Int} (hv : hb[z]? = some v) : stepE m hd ⟨1, v⟩ = 0 ∧ Prs hb on (s ++ [(z : Int)]) (stepH hd ⟨1, v⟩) := by
  obtain ⟨hl, hve⟩ := List.getElem?_eq_some_iff.1 hv
  have hnm : v ∉ hd.buttons := fun h => by
    obtain ⟨q, hq, e⟩ := (P.bm v).1 h
    have := asc_inj H.b.asc e hv
    subst this
    exact hz hq
  have hE : stepE m hd ⟨1, v⟩ = putE hd.buttons v m.buttons.length true := if_pos (.inl rfl)
  have hS : stepH hd ⟨1, v⟩ = ⟨putL hd.buttons v true, hd.on⟩ := if_pos (.inl rfl)
  refine ⟨by rw [hE]; exact putE_zero (H.b.mem v (by rw [← hve]; exact List.getElem_mem hl)) hnm, ?_⟩
  rw [hS]
  refine ⟨fun x => ?_, fun x => ?_⟩
  · show x ∈ putL hd.buttons v true ↔ _
    rw [putL_mem hnm, P.bm]
    constructor
    · rintro (⟨q, h1, h2⟩ | rfl)
      · exact ⟨q, List.mem_append_left _ h1, h2⟩
      · exact ⟨z, List.mem_append_right _ (List.mem_singleton.2 rfl), hv⟩
    · rintro ⟨q, h1, h2⟩
      rcases List.mem_append.1 h1 with h1 | h1
      · exact .inl ⟨q, h1, h2⟩
      · have : q = z := by have := List.mem_singleton.1 h1; omega
        subst this
        rw [hv] at h2
        exact .inr (Option.some.inj h2).symm
  · show x ∈ hd.on ↔ _
    rw [P.om]
    constructor
    · rintro ⟨q, h1, h2⟩; exact ⟨q, List.mem_append_left _ h1, h2⟩
    · rintro ⟨q, h1, h2⟩
      rcases List.mem_append.1 h1 with h1 | h1
      · exact ⟨q, h1, h2⟩
      · exfalso; have := List.mem_singleton.1 h1; omega
theorem prs_o {m : MachP} {hb on s : List Int} {hd : HandP} (H : HOK m ⟨hb, on⟩) (P : Prs hb on s hd) {z : Nat} (hz : ((hb.length + z : Nat) : Int) ∉ s) {v : Int} (hv : on[z]? = some v) : stepE m hd ⟨3, v⟩ = 0 ∧ Prs hb on (s ++ [((hb.length + z : Nat) : Int)]) (stepH hd ⟨3, v⟩) := by
  obtain ⟨hl, hve⟩ := List.getElem?_eq_some_iff.1 hv
  have hnm : v ∉ hd.on := fun h => by
    obtain ⟨q, hq, e⟩ := (P.om v).1 h
    have := asc_inj H.o.asc e hv
    subst this
    exact hz hq
  have hE : stepE m hd ⟨3, v⟩ = putE hd.on v m.regs true := (if_neg (by simp)).trans (if_pos (.inl rfl))
  have hS : stepH hd ⟨3, v⟩ = ⟨hd.buttons, putL hd.on v true⟩ := if_neg (by simp)
  refine ⟨by rw [hE]; exact putE_zero (H.o.mem v (by rw [← hve]; exact List.getElem_mem hl)) hnm, ?_⟩
  rw [hS]
  refine ⟨fun x => ?_, fun x => ?_⟩
  · show x ∈ hd.buttons ↔ _
    rw [P.bm]
    constructor
    · rintro ⟨q, h1, h2⟩; exact ⟨q, List.mem_append_left _ h1, h2⟩
    · rintro ⟨q, h1, h2⟩
      rcases List.mem_append.1 h1 with h1 | h1
      · exact ⟨q, h1, h2⟩
      · exfalso
        have := List.mem_singleton.1 h1
        have := (List.getElem?_eq_some_iff.1 h2).1
        omega
  · show x ∈ putL hd.on v true ↔ _
    rw [putL_mem hnm, P.om]
    constructor
    · rintro (⟨q, h1, h2⟩ | rfl)
      · exact ⟨q, List.mem_append_left _ h1, h2⟩
      · exact ⟨z, List.mem_append_right _ (List.mem_singleton.2 rfl), hv⟩
    · rintro ⟨q, h1, h2⟩
      rcases List.mem_append.1 h1 with h1 | h1
      · exact .inl ⟨q, h1, h2⟩
      · have : q = z := by have := List.mem_singleton.1 h1; omega
        subst this
        rw [hv] at h2
        exact .inr (Option.some.inj h2).symm
theorem prs_all {m : MachP} {hb on s : List Int} {hd : HandP} (H : HOK m ⟨hb, on⟩) (P : Prs hb on s hd) (K : HOK m hd) (all : ∀ j : Nat, j < hb.length + on.length → (j : Int) ∈ s) : hd = ⟨hb, on⟩ := by
  have e1 : hd.buttons = hb := asc_ext K.b.asc H.b.asc fun x => by
    rw [P.bm]
    constructor
    · rintro ⟨q, _, h⟩; exact List.mem_of_getElem? h
    · intro h
      obtain ⟨q, hq, e⟩ := List.getElem_of_mem h
      exact ⟨q, all q (by omega), by rw [List.getElem?_eq_getElem hq, e]⟩
  have e2 : hd.on = on := asc_ext K.o.asc H.o.asc fun x => by
    rw [P.om]
    constructor
    · rintro ⟨q, _, h⟩; exact List.mem_of_getElem? h
    · intro h
      obtain ⟨q, hq, e⟩ := List.getElem_of_mem h
      exact ⟨q, all _ (by omega), by rw [List.getElem?_eq_getElem hq, e]⟩
  cases hd
  simp only at e1 e2
  rw [e1, e2]
/-- Events that can be played: the hand behind them, and what sounds. -/
structure Run (m : MachP) (es : List EvP) (hd : HandP) : Prop where
  e : (goM m es).e = 0
  a : (goM m es).a = hd
  len : (goM m es).out.length = es.length
  last : 0 < es.length → (goM m es).out[es.length - 1]? = some (listN (soundsM m hd m.travel) 6)
theorem Run.nil (m : MachP) : Run m [] ⟨[], []⟩ := ⟨rfl, rfl, rfl, fun h => absurd h (by decide)⟩
theorem Run.snoc {m : MachP} {es : List EvP} {hd : HandP} {x : EvP} (r : Run m es hd) (h : stepE m hd x = 0) : Run m (es ++ [x]) (stepH hd x) := by
  have e1 : goM m (es ++ [x]) = playS m (goM m es) x := by rw [goM, List.foldl_append]; rfl
  have e2 : goM m (es ++ [x]) = ⟨0, stepH hd x, (goM m es).out ++ [listN (soundsM m (stepH hd x) m.travel) 6]⟩ := by
    rw [e1, playS, if_neg (by simp [r.e]), r.a, if_neg (by simp [h])]
  refine ⟨by rw [e2], by rw [e2], by rw [e2]; simp [r.len], fun _ => ?_⟩
  rw [e2]
  show ((goM m es).out ++ [_])[_]? = _
  rw [List.length_append, List.length_singleton, Nat.add_sub_cancel, ← r.len, List.getElem?_append_right (Nat.le_refl _), Nat.sub_self]
  rfl
theorem ord_all {o : List Int} {n : Nat} (O : Order o n) : ∀ j : Nat, j < n → (j : Int) ∈ o := by
  intro r h1
  obtain ⟨i, hi, e⟩ := inj_surj n (ordN o) (fun i hi => (O.ordN hi).2) (fun i k hi hk => O.ordN_inj hi hk) r h1
  have h2 := (O.ordN hi).1
  rw [e] at h2
  exact List.mem_of_getElem? h2
theorem ord_new {o : List Int} {n k : Nat} (O : Order o n) (hk : k < n) {z : Int} (hz : o[k]? = some z) : z ∉ o.take k := by
  intro h
  obtain ⟨i, hi, e⟩ := List.getElem_of_mem h
  rw [List.length_take] at hi
  rw [List.getElem_take] at e
  have : o[i]? = o[k]? := by rw [hz, List.getElem?_eq_getElem (by omega), e]
  have := O.inj i k (by omega) hk this
  omega
end
end Go.Proofs.Ytlfbcimcehcomaa
