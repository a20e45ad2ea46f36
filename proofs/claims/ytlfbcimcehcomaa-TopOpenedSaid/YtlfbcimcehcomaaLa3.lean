/- An own logic over the model, its walks and its plain laws, joined of parts GJ HB Sq Sr Ss Rc Rd Re Rf Rg Ka Kb Kd Rh Oa R1 R2 R3 R4 O1 O2 O3 O4 R5. Conditions: as each theorem states. -/
import Derived.Test.YtlfbcimcehcomaaLa2
import Derived.Test.YtlfbcimcehcomaaLa1
import Derived.Test.YtlfbcimcehcomaaProg
set_option linter.all false
/- The own logic, part GJ: pieces around a go statement. Conditions: none. -/
namespace Go.HL
open Go Go.Conc
variable [Lvl]
section
variable {P : Program} {n : Nat} {ro : Option Nat} {K : Post} {S : Sl} {D : Df} {L : Pv} {h : AH}
theorem goes_valid {items : List Item} (g : Valid h L → Goes P n ro items K S D L h) : Goes P n ro items K S D L h := fun H V => g V.valid H V
theorem xp_regionL {id : Nat} {ops : Array Oper} (g : Goes P n ro [.inRegion ops (List.range ops.size)] K S D L h) : xp P n ro (.region id ops false) K S D L h := goes_regionB (items := []) g
theorem goes_endB {ops : Array Oper} {items : List Item} (g : Goes P n ro items K S D L h) : Goes P n ro ([.inRegion ops []] ++ items) K S D L h :=
  goes_step (items' := items) (fun b hb k cs main w => by simp [stepG, stepG.exec, mk]) g
/-- A pure operation, where the rest of the region is by hand. -/
theorem goes_pv {ops : Array Oper} {i : Nat} {rest : List Nat} {d : Option Tmp} {op : Op} {ty : TypeId} {ps : String} {af : Array Edge} {v : Value} {items : List Item} (ho : ops[i]? = some ⟨d, op, ty, ps, af, none⟩) (hc : Op.calm op)
    (hv : pev P (execOp (ev n S) ⟨d, op, ty, ps, af, none⟩) = some (.value v)) (g : Goes P n ro ([.inRegion ops rest] ++ items) K (put S d v) D L h) : Goes P n ro ([.inRegion ops (i :: rest)] ++ items) K S D L h :=
  goes_opB ho hc (by simp [Region.wanted]) (fun V => dem_pev hv ⟨L, h, rfl, V, g⟩)
end
/-- The last private block taken off. -/
theorem wl_last {h : AH} {L : Pv} {b : Nat} {o : Obj} (V : Valid h (L ++ [some (b, o)])) : Valid h L ∧ wl h L b = none ∧ wl h (L ++ [some (b, o)]) = hupd (wl h L) b o := by
  have V0 := V
  unfold Valid at V0
  rw [cl_append] at V0
  have e1 : cl [some (b, o)] = [(b, o)] := rfl
  rw [e1] at V0
  have nd := V0.nd
  rw [List.map_append, List.nodup_append] at nd
  have hb : wl h L b = none := by
    have hn : (cl L).lookup b = none := by
      rw [lookup_none_iff]
      intro p hp e
      exact nd.2.2 _ (List.mem_map.2 ⟨p, hp, rfl⟩) b (by simp) e
    have hf := V0.fresh (b, o) (by simp)
    unfold wl wl0
    rw [hn]
    exact hf
  exact ⟨⟨nd.1, fun p hp => V0.fresh p (List.mem_append_left _ hp), V0.fin⟩, hb, (wl_new hb o).symm⟩
theorem hupd_none {X : AH} {b c : Nat} {o : Obj} (h : hupd X b o c = none) : c ≠ b ∧ X c = none := by
  by_cases e : c = b
  · subst e; simp [hupd] at h
  · exact ⟨e, by simpa [hupd, e] using h⟩
/-- The last three private blocks told apart. -/
theorem wl_split3 {h : AH} {M : Pv} {b6 c b7 : Nat} {o6 oc o7 : Obj} (V : Valid h (M ++ [some (b6, o6), some (c, oc), some (b7, o7)])) :
    ∃ hw, hw = wl h M ∧ Valid h M ∧ hw b6 = none ∧ hw c = none ∧ hw b7 = none ∧ b6 ≠ c ∧ b6 ≠ b7 ∧ c ≠ b7 ∧ wl h (M ++ [some (b6, o6), some (c, oc), some (b7, o7)]) = hun (oneC b6 o6) (hun hw (hun (oneC b7 o7) (oneC c oc))) := by
  have e0 : M ++ [some (b6, o6), some (c, oc), some (b7, o7)] = ((M ++ [some (b6, o6)]) ++ [some (c, oc)]) ++ [some (b7, o7)] := by simp
  rw [e0] at V ⊢
  obtain ⟨V1, n7, e7⟩ := wl_last V
  obtain ⟨V2, nc, ec⟩ := wl_last V1
  obtain ⟨V3, n6, e6⟩ := wl_last V2
  rw [ec] at n7
  obtain ⟨h7c, n7⟩ := hupd_none n7
  rw [e6] at n7 nc
  obtain ⟨h76, n7⟩ := hupd_none n7
  obtain ⟨hc6, nc⟩ := hupd_none nc
  refine ⟨_, rfl, V3, n6, nc, n7, fun e => hc6 e.symm, fun e => h76 e.symm, fun e => h7c e.symm, ?_⟩
  rw [e7, ec, e6]
  funext x
  by_cases x6 : x = b6
  · subst x6
    simp [hupd, hun, oneC_same, Ne.symm h76, Ne.symm hc6]
  by_cases x7 : x = b7
  · subst x7
    simp [hupd, hun, oneC_same, oneC_ne x6, n7]
  by_cases xc : x = c
  · subst xc
    simp [hupd, hun, oneC_same, oneC_ne x6, oneC_ne x7, nc, x6, x7]
  simp only [hupd, hun, oneC_ne x6, oneC_ne x7, oneC_ne xc, if_neg x6, if_neg x7, if_neg xc]
  cases wl h M x <;> rfl
/-- What goroutine 0 has at the end, beside what was lent. -/
theorem main_end {R h' : AH} {L' : Pv} {c j : Nat} (V : Valid h' L') (hj : L'[j]? = some (some (c, gone))) (E : Ext (zf R) h') (hRc : R c = none) :
    ∃ hm', wl h' L' = hun hm' (zx R c) ∧ hm' c = none ∧ Disj hm' R ∧ ∀ b o, wl h' L' b = some o → b ≠ c → R b = none → hm' b = some o := by
  refine ⟨fun b => if b = c then none else match R b with | some _ => none | none => wl h' L' b, ?_, by simp, fun b => ?_, fun b o hb hc hR => by simp [hc, hR, hb]⟩
  · funext b
    by_cases hb : b = c
    · subst hb
      simp [hun, zx, oneC_same, wl_get V hj]
    · cases hR : R b with
      | none =>
        have : zf R b = none := zf_none.2 hR
        simp only [hun, if_neg hb, hR, zx, oneC_ne hb, this]
        cases wl h' L' b <;> rfl
      | some o =>
        have e1 : zf R b = some (zO o) := by simp [zf, hR]
        have e2 := ext_wl V b _ (E b _ e1)
        simp only [hun, if_neg hb, hR, zx, oneC_ne hb, e1, e2]
  · cases hR : R b with
    | none => exact .inr rfl
    | some o => left; simp [hR]
/-- A return whose result stands in the public heap. -/
theorem ret_pub {P : Program} {n : Nat} {fn : Func} {S : Sl} {K : Value → AH → Prop} {rs : List ResultVar} {vs : List Value} {H : AH} {b : Nat} {o : Obj} (hb : H b = some o) (hr : fn.results = rs.toArray) (hv : ∀ h2, ResL P n S [some (b, o)] h2 rs vs) (k : K (tupV vs) H) : RetOK P n fn K S [] [] H := by
  intro V
  refine .inl ⟨rfl, ?_⟩
  have e : wl (fun x => if x = b then none else H x) [some (b, o)] = H := by
    have := wl_new (h := fun x => if x = b then none else H x) (L := []) (b := b) (by rw [wl_nil]; simp) o
    rw [wl_nil, List.nil_append] at this
    rw [← this]
    funext x
    by_cases hx : x = b
    · subst hx; simp [hupd, hb]
    · simp [hupd, hx]
  have V2 : Valid (fun x => if x = b then none else H x) [some (b, o)] := by
    have f : Fin (fun x => if x = b then none else H x) := by
      obtain ⟨N, hN⟩ := V.fin
      exact ⟨N, fun x hx => by simp only [hN x hx]; split <;> rfl⟩
    exact valid_new (L := []) (valid_nil f) (by rw [wl_nil]; simp) o
  have r := res_core (K := K) hr (hv H) V2 (by rw [e]; exact k)
  rw [e] at r
  rw [wl_nil]
  exact r
/-- The worker closes, and leaves. -/
theorem wend_close {P : Program} {f : FuncId} {fn : Func} {n c : Nat} {ats : Array TypeId} {ty : TypeId} {hw0 : AH} {tm : Bool} (hf : P.funcs[f]? = some fn) (hres : fn.results = #[]) :
    ∀ fr hw', WEnd f n c ats ty hw0 fr hw' → mayWake P (G fr [baseG P []]) = true ∧ ∃ (g2 : Goroutine) (es : Array Event) (k : Nat), (∀ (w : World) s r, w.heap[c]? = some (.chan 0 #[] false s r tm) → stepG P false (G fr [baseG P []]) w = .go g2 (w.shut c s r tm) (es.push ⟨.obj c, true, true⟩)) ∧ (∀ e ∈ es, e = ⟨.obj c, false, true⟩) ∧ QuitsD P k 0 g2 := by
  rintro fr hw' ⟨_, S, todo, rfl⟩
  exact ⟨wakes, _, _, _, fun w s r hc => step_close hc, by simp, quits hf hres rfl rfl⟩
theorem cellsB {H : AH} {b : Nat} {cs : List Value} {e : TypeId} {f : Nat × Nat} (hb : H b = some (.cells cs.toArray e f)) : Cells H b 0 cs := by
  intro j u hu
  simp only [cellA, hb, Nat.zero_add]
  simpa using hu
theorem fin_one (c : Nat) (o : Obj) : Fin (oneC c o) := Fin.hupd ⟨0, fun _ _ => rfl⟩ _ _
theorem fin_zf {R : AH} (f : Fin R) : Fin (zf R) := f.imp fun _ hN y hy => zf_none.2 (hN y hy)
theorem disj_out {h : AH} {b : Nat} {o : Obj} (hb : h b = none) : Disj h (oneC b o) := fun x => by
  by_cases e : x = b
  · subst e; exact .inl hb
  · exact .inr (oneC_ne e)
theorem ext_hun {h F : AH} : Ext h (hun h F) := fun _ _ e => hun_left e
/-- Goroutine 0's two private places. -/
theorem duo_priv {R : AH} {b6 c : Nat} {o6 g : Obj} (f : Fin R) (h6 : R b6 = none) (hc : R c = none) (hne : b6 ≠ c) :
    Valid (zf R) [some (b6, o6), some (c, g)] ∧ wl (zf R) [some (b6, o6), some (c, g)] = hun (oneC b6 o6) (hun (oneC c g) (zf R)) := by
  have z6 : zf R b6 = none := zf_none.2 h6
  have zc : zf R c = none := zf_none.2 hc
  have n1 : wl (zf R) [] b6 = none := by rw [wl_nil]; exact z6
  have V1 := valid_new (L := []) (valid_nil (fin_zf f)) n1 o6
  have e1 := wl_new n1 o6
  have n2 : wl (zf R) ([] ++ [some (b6, o6)]) c = none := by rw [← e1, wl_nil]; simp [hupd, Ne.symm hne, zc]
  refine ⟨valid_new V1 n2 g, ?_⟩
  have e2 := wl_new n2 g
  rw [← e1, wl_nil] at e2
  have e3 : wl (zf R) [some (b6, o6), some (c, g)] = hupd (hupd (zf R) b6 o6) c g := e2.symm
  rw [e3]
  funext x
  by_cases x6 : x = b6
  · subst x6; simp [hupd, hun, oneC_same, hne]
  by_cases xc : x = c
  · subst xc; simp [hupd, hun, oneC_same, oneC_ne x6]
  simp [hupd, hun, oneC_ne x6, oneC_ne xc, x6, xc]
section
variable {P : Program} {n : Nat} {ops : Array Oper} {os : List Oper} {K : Sl → Pv → AH → Prop} {E : Value → Sl → Pv → AH → Prop} {S : Sl} {L : Pv} {h : AH} {d : Option Tmp} {op : Op} {ty : TypeId} {ps : String} {af : Array Edge}
/-- A guard, both ways. -/
theorem guard_case {j : Nat} {want t : Bool} (ht : ev n S (.tmp (((ops[j]?).bind (·.dst)).getD n)) = .bool t) (k1 : t = want → wpL P n ops (⟨d, op, ty, ps, af, none⟩ :: os) K E S L h) (k2 : t = !want → wpL P n ops os K E (put S d undef) L h) : wpL P n ops (⟨d, op, ty, ps, af, some (j, want)⟩ :: os) K E S L h := by
  by_cases e : t = want
  · exact guard_yes ht e (k1 e)
  · have e2 : t = !want := by cases t <;> cases want <;> simp_all
    exact guard_no ht e2 (k2 e2)
end
section
variable {P : Program} {n : Nat} {ops : Array Oper} {os : List Oper} {K : Sl → Pv → AH → Prop} {E : Value → Sl → Pv → AH → Prop} {S : Sl} {L : Pv} {h : AH} {d : Option Tmp} {ty : TypeId} {ps : String} {af : Array Edge}
/-- A call that hands out blocks of its own; that these are new is told. -/
theorem op_fnV {x : Operand} {xs : List Operand} {ats : Array TypeId} {y : Value} {vs : List Value} {R : Value → AH → Pv → Prop} (hf : ev n S x = y) (hx : xs.map (ev n S) = vs) (c : FnM P y vs h [] R)
    (k : ∀ v h' M', Valid h' (L ++ M') → Ext h h' → R v h' M' → wpL P n ops os K E (put S d v) (L ++ M') h') : wpL P n ops (⟨d, .call ⟨.value x, xs.toArray, ats⟩, ty, ps, af, none⟩ :: os) K E S L h := by
  refine op_of fun V => ?_
  unfold opW
  rw [exec_callV hf hx]
  have V0 : Valid h (L ++ []) := by rw [List.append_nil]; exact V
  obtain ⟨e1, d1, VM⟩ := wl_app V0
  rw [List.append_nil] at e1
  rw [e1]
  have ndp : ((cl L).map (·.1)).Nodup := V.nd
  refine CallV.mono (CallV.frame (c VM) (fin_wl VM) d1) ?_ ?_
  · rintro v H2 ⟨H1, rfl, d2, f2, h', M', rfl, V', E', r⟩
    obtain ⟨e2, V2⟩ := wl_join ndp V' d2
    exact ⟨L ++ M', h', e2, V2, k v h' M' V2 E' r⟩
  · rintro v H2 ⟨H1, rfl, d2, f2, y⟩; exact y.elim
end
theorem ext_out {h h' : AH} {L M : Pv} (V : Valid h' (L ++ M)) (E : Ext h h') : Ext (wl h (rmM [] L)) (wl h' (rmM [] (L ++ M))) := by
  have r0 : ∀ X : Pv, rmM [] X = X := fun X => by cases X <;> rfl
  rw [r0, r0]
  intro b o hb
  unfold wl wl0 at hb ⊢
  rw [cl_append, List.lookup_append]
  cases e : (cl L).lookup b with
  | some o' => rw [e] at hb; exact hb
  | none =>
    rw [e] at hb
    have hb2 := E b o hb
    cases e2 : (cl M).lookup b with
    | none => exact hb2
    | some o' =>
      exfalso
      have hm : ¬ ∀ p ∈ cl M, p.1 ≠ b := fun k => by rw [(lookup_none_iff (cl M) b).2 k] at e2; cases e2
      simp only [ne_eq, Classical.not_forall, Classical.not_not] at hm
      obtain ⟨p, hp, rfl⟩ := hm
      have := V.fresh p (by rw [cl_append]; exact List.mem_append_right _ hp)
      rw [this] at hb2
      cases hb2
end Go.HL
/- The own logic, part HB: a go statement in a callee that hands the channel to its caller: the rest of both is one phase. Conditions: none. -/
namespace Go.HL
open Go Go.Conc
variable [Lvl]
section
variable {P : Program} {n : Nat} {Q : Frame → List Frame → AH → Prop} {b : Frame} {cs : List Frame} {S : Sl} {L : Pv} {h : AH} {k : List Item}
end
end Go.HL
/- The checks of a season, in plain data. Conditions: none. -/
namespace Go.Wx
open Go Go.HL
variable [Lvl]
def inM (n lo hi : Int) : Bool := decide (lo ≤ n) && decide (n ≤ hi)
/-- The first error of a list. -/
def firstErr {α : Type} (f : α → Int) : List α → Int
  | [] => 0
  | x :: l => if f x ≠ 0 then f x else firstErr f l
theorem firstErr_append {α : Type} (f : α → Int) : ∀ (a b : List α), firstErr f a = 0 → firstErr f (a ++ b) = firstErr f b
  | [], b, _ => rfl
  | x :: a, b, h => by
    unfold firstErr at h
    split at h
    · rename_i hx; exact absurd h hx
    · rename_i hx
      rw [List.cons_append, firstErr, if_neg hx]
      exact firstErr_append f a b h
theorem firstErr_stop {α : Type} {f : α → Int} {l : List α} {k : Nat} (hk : k < l.length) (h0 : firstErr f (l.take k) = 0) (hx : f l[k] ≠ 0) : firstErr f l = f l[k] := by
  have e : l = l.take k ++ l[k] :: l.drop (k + 1) := by rw [← List.drop_eq_getElem_cons hk, List.take_append_drop]
  have h1 := firstErr_append f (l.take k) (l[k] :: l.drop (k + 1)) h0
  rw [← e] at h1
  rw [h1, firstErr, if_pos hx]
theorem firstErr_go {α : Type} {f : α → Int} {l : List α} {k : Nat} (hk : k < l.length) (h0 : firstErr f (l.take k) = 0) (hx : f l[k] = 0) : firstErr f (l.take (k + 1)) = 0 := by
  rw [List.take_succ_eq_append_getElem hk, firstErr_append f _ _ h0, firstErr, if_neg (by simp [hx])]
  rfl
theorem firstErr_zero {α : Type} {f : α → Int} : ∀ {l : List α}, firstErr f l = 0 → ∀ x ∈ l, f x = 0
  | [], _, _, h => by cases h
  | y :: l, h, x, hx => by
    unfold firstErr at h
    split at h
    · rename_i hy; exact absurd h hy
    · rename_i hy
      cases hx with
      | head => simpa using hy
      | tail _ hx => exact firstErr_zero h x hx
end Go.Wx
/- Sets of weeks, in plain data. Conditions: none. -/
namespace Go.Wx
open Go Go.HL
variable [Lvl]
def withM (m k : Nat) : Nat := m ||| 2 ^ k
def listN (m k : Nat) : List Int := ((List.range k).filter (fun i => m.testBit i)).map fun i : Nat => (i : Int)
theorem listN_succ (m k : Nat) : listN m (k + 1) = if m.testBit k then listN m k ++ [(k : Int)] else listN m k := by
  unfold listN
  rw [List.range_succ, List.filter_append, List.map_append]
  by_cases h : m.testBit k = true
  · simp [h]
  · simp [h]
theorem listN_len (m k : Nat) : (listN m k).length ≤ k := by
  unfold listN
  rw [List.length_map]
  exact Nat.le_trans (List.length_filter_le _ _) (by simp)
theorem listN_mem {m k : Nat} {z : Int} (h : z ∈ listN m k) : ∃ i : Nat, z = i ∧ i < k ∧ m.testBit i = true := by
  unfold listN at h
  simp only [List.mem_map, List.mem_filter, List.mem_range] at h
  obtain ⟨w, ⟨h1, h3⟩, h2⟩ := h
  exact ⟨w, h2.symm, h1, h3⟩
theorem testBit_div (m k : Nat) : (m / 2 ^ k) &&& 1 = if m.testBit k then 1 else 0 := by
  rw [Nat.and_one_is_mod, Nat.testBit_eq_decide_div_mod_eq]
  by_cases h : m / 2 ^ k % 2 = 1
  · simp [h]
  · have : m / 2 ^ k % 2 = 0 := by omega
    simp [this]
end Go.Wx
/- Weathers and failures, in plain data. Conditions: none. -/
namespace Go.Wx
open Go Go.HL
variable [Lvl]
/-- The weather of six weeks. -/
structure Sky where
  x0 : Int
  x1 : Int
  x2 : Int
  x3 : Int
  x4 : Int
  x5 : Int
  deriving DecidableEq, Repr, Inhabited
def Sky.at (x : Sky) : Nat → Int
  | 0 => x.x0
  | 1 => x.x1
  | 2 => x.x2
  | 3 => x.x3
  | 4 => x.x4
  | 5 => x.x5
  | _ => 0
def Sky.set (x : Sky) (k : Nat) (v : Int) : Sky :=
  match k with
  | 0 => { x with x0 := v }
  | 1 => { x with x1 := v }
  | 2 => { x with x2 := v }
  | 3 => { x with x3 := v }
  | 4 => { x with x4 := v }
  | 5 => { x with x5 := v }
  | _ => x
/-- The numbers from lo to below hi. -/
def rangeI (lo hi : Int) : List Int := (List.range (hi - lo).toNat).map fun i : Nat => lo + i
abbrev Rg.all (r : Rg) : List Int := rangeI r.mn (r.mx + 1)
/-- A failure: in which week, and by which causes. -/
structure Fl where
  week : Nat
  causes : Nat
  deriving DecidableEq, Repr, Inhabited
/-- A set as a map that holds true for each of a list. -/
def insAll {α : Type} [DecidableEq α] (l : List α) : List (α × Value) := l.foldl (fun acc a => putL a (.bool true) acc) []
theorem insAll_snoc {α : Type} [DecidableEq α] (l : List α) (a : α) : insAll (l ++ [a]) = putL a (.bool true) (insAll l) := by
  unfold insAll; rw [List.foldl_append]; rfl
theorem putL_keys {α : Type} [DecidableEq α] (a : α) (v : Value) : ∀ (l : List (α × Value)) (b : α), b ∈ (putL a v l).map (·.1) ↔ b = a ∨ b ∈ l.map (·.1)
  | [], b => by simp [putL]
  | (c, u) :: l, b => by
    unfold putL
    split
    · rename_i h
      subst h
      simp
    · simp only [List.map_cons, List.mem_cons, putL_keys a v l b]
      constructor
      · rintro (h | h | h) <;> simp [h]
      · rintro (h | h | h) <;> simp [h]
theorem insAll_keys {α : Type} [DecidableEq α] (l : List α) (b : α) : b ∈ (insAll l).map (·.1) ↔ b ∈ l := by
  have : ∀ (l : List α) (acc : List (α × Value)), b ∈ (l.foldl (fun acc a => putL a (.bool true) acc) acc).map (·.1) ↔ b ∈ l ∨ b ∈ acc.map (·.1) := by
    intro l
    induction l with
    | nil => intro acc; simp
    | cons a l ih =>
      intro acc
      rw [List.foldl_cons, ih, putL_keys, List.mem_cons]
      constructor
      · rintro (h | h | h) <;> simp [h]
      · rintro ((h | h) | h) <;> simp [h]
  unfold insAll
  rw [this]
  simp
end Go.Wx
/- Plain: how far rods turn is the least that all causes ask. Conditions: none. -/
namespace Go.Rd

/-- A machine that passes the check. -/
structure MOK (m : MachP) : Prop where
  rods : 1 ≤ m.rods ∧ m.rods ≤ 6
  levers : 1 ≤ m.levers ∧ m.levers ≤ 6
  regs : 0 ≤ m.regs ∧ m.regs ≤ 2
  travel : 1 ≤ m.travel ∧ m.travel ≤ 12
  opn : 1 ≤ m.opn ∧ m.opn ≤ m.travel
  bl : m.buttons.length ≤ 4
  btn : ∀ b ∈ m.buttons, 0 ≤ b ∧ b < m.rods
  pl : m.pins.length ≤ 8
  pin : ∀ p ∈ m.pins, (0 ≤ p.rod ∧ p.rod < m.rods) ∧ (0 ≤ p.lever ∧ p.lever < m.levers) ∧ (0 ≤ p.lag ∧ p.lag ≤ m.travel)
  ll : m.links.length ≤ 4
  link : ∀ l ∈ m.links, (0 ≤ l.frm ∧ l.frm < m.rods) ∧ (0 ≤ l.to ∧ l.to < m.rods) ∧ l.frm ≠ l.to ∧ (-1 ≤ l.reg ∧ l.reg < m.regs) ∧ (1 ≤ l.lag ∧ l.lag ≤ m.travel)
  wl : (m.weights.length : Int) = m.levers
  wt : ∀ w ∈ m.weights, 0 ≤ w ∧ w ≤ 50
/-- What a walk of how far rods turn wants. -/
structure Fit (m : MachP) (a : HandP) : Prop where
  bl : m.buttons.length ≤ 4
  btn : ∀ b ∈ m.buttons, 0 ≤ b ∧ b < 6
  ll : m.links.length ≤ 4
  link : ∀ l ∈ m.links, (0 ≤ l.frm ∧ l.frm < 6) ∧ (0 ≤ l.to ∧ l.to < 6) ∧ (0 ≤ l.lag ∧ l.lag ≤ 12)
  hb : ∀ b ∈ a.buttons, 0 ≤ b ∧ b < m.buttons.length
  hl : a.buttons.length ≤ 4
  ol : a.on.length ≤ 4

theorem le_eq {a b : List Int} (h : Le a b) (k : Le b a) : a = b := by
  refine List.ext_getElem h.1 fun i h1 h2 => ?_
  have e1 := h.2 i
  have e2 := k.2 i
  simp only [List.getD_eq_getElem?_getD, List.getElem?_eq_getElem h1, List.getElem?_eq_getElem h2, Option.getD_some] at e1 e2
  omega
theorem foldl_inc {α : Type} {g : List Int → α → List Int} (inc : ∀ t x, Le t (g t x)) : ∀ (l : List α) (t : List Int), Le t (l.foldl g t)
  | [], t => .refl t
  | x :: l, t => (inc t x).trans (foldl_inc inc l (g t x))
theorem foldl_fix {α : Type} {g : List Int → α → List Int} (inc : ∀ t x, Le t (g t x)) : ∀ (l : List α) (t : List Int), Le (l.foldl g t) t → l.foldl g t = t ∧ ∀ x ∈ l, g t x = t
  | [], t, _ => ⟨rfl, fun x hx => absurd hx (List.not_mem_nil)⟩
  | x :: l, t, h => by
    have e : g t x = t := le_eq ((foldl_inc inc l (g t x)).trans h) (inc t x)
    rw [List.foldl_cons, e] at h ⊢
    obtain ⟨e2, k⟩ := foldl_fix inc l t h
    refine ⟨e2, fun y hy => ?_⟩
    rcases List.mem_cons.1 hy with rfl | hy
    · exact e
    · exact k y hy
theorem press_inc (bs : List Int) (depth : Int) : ∀ (t : List Int) (b : Int), Le t (rise t (bs.getD b.toNat 0).toNat depth) := fun t b => rise_le _ _ _
theorem link_inc (on : List Int) : ∀ (t : List Int) (l : LinkP), Le t (if active on l then rise t l.to.toNat (t.getD l.frm.toNat 0 - l.lag) else t) := fun t l => by
  split
  · exact rise_le _ _ _
  · exact .refl t
theorem rise_fix {t : List Int} {i : Nat} {v : Int} (h : rise t i v = t) (hi : i < t.length) : v ≤ t.getD i 0 := by
  have e := rise_getD t i v i
  rw [h, if_pos ⟨rfl, hi⟩] at e
  have := Int.le_max_right (t.getD i 0) v
  omega
/-- All causes are met. -/
structure Clo (m : MachP) (a : HandP) (depth : Int) (f : Int → Int) : Prop where
  zero : ∀ r, 0 ≤ r → 0 ≤ f r
  press : ∀ b ∈ a.buttons, depth ≤ f (m.buttons.getD b.toNat 0)
  link : ∀ l ∈ m.links, active a.on l = true → f l.frm - l.lag ≤ f l.to
def Under (f : Int → Int) (t : List Int) : Prop := ∀ j : Nat, t.getD j 0 ≤ f j
theorem rise_under {f : Int → Int} {t : List Int} {i : Nat} {v : Int} (u : Under f t) (hv : v ≤ f i) : Under f (rise t i v) := by
  intro j
  rw [rise_getD]
  split
  · rename_i h; rw [h.1]; exact Int.max_le.2 ⟨u i, hv⟩
  · exact u j
theorem getD_mem_ge {l : List Int} {p : Int → Prop} (h : ∀ b ∈ l, p b) {i : Nat} (hi : i < l.length) : p (l.getD i 0) := by
  rw [List.getD_eq_getElem?_getD, List.getElem?_eq_getElem hi]
  exact h _ (List.getElem_mem hi)
theorem step_under {m : MachP} {a : HandP} {depth : Int} {f : Int → Int} (F : Fit m a) (c : Clo m a depth f) {t : List Int} (u : Under f t) : Under f (stepM m a depth t) := by
  have h1 : ∀ (hb : List Int) (t : List Int), (∀ b ∈ hb, (0 ≤ b ∧ b < m.buttons.length) ∧ depth ≤ f (m.buttons.getD b.toNat 0)) → Under f t → Under f (pressM m.buttons depth hb t) := by
    intro hb
    induction hb with
    | nil => intro t _ u; exact u
    | cons x hb ih =>
      intro t hx u
      refine ih _ (fun b hb => hx b (List.mem_cons_of_mem _ hb)) (rise_under u ?_)
      obtain ⟨⟨x0, x1⟩, x2⟩ := hx x (List.mem_cons_self ..)
      have := getD_mem_ge F.btn (i := x.toNat) (by omega)
      rwa [Int.toNat_of_nonneg this.1]
  have h2 : ∀ (ls : List LinkP) (t : List Int), (∀ l ∈ ls, l ∈ m.links) → Under f t → Under f (linkM a.on ls t) := by
    intro ls
    induction ls with
    | nil => intro t _ u; exact u
    | cons l ls ih =>
      intro t hx u
      have hl := hx l (List.mem_cons_self ..)
      obtain ⟨⟨f0, _⟩, ⟨t0, _⟩, _⟩ := F.link l hl
      refine ih _ (fun x hx2 => hx x (List.mem_cons_of_mem _ hx2)) ?_
      show Under f (if active a.on l = true then rise t l.to.toNat (t.getD l.frm.toNat 0 - l.lag) else t)
      split
      · rename_i ha
        refine rise_under u ?_
        have h3 := c.link l hl ha
        have h4 := u l.frm.toNat
        rw [Int.toNat_of_nonneg f0] at h4
        rw [Int.toNat_of_nonneg t0]
        omega
      · exact u
  exact h2 _ _ (fun _ h => h) (h1 _ _ (fun b hb => ⟨F.hb b hb, c.press b hb⟩) u)
theorem step_len (m : MachP) (a : HandP) (depth : Int) (t : List Int) : (stepM m a depth t).length = t.length :=
  ((foldl_inc (press_inc m.buttons depth) a.buttons t).trans (foldl_inc (link_inc a.on) m.links _)).1.symm
theorem fix_clo {m : MachP} {a : HandP} {depth : Int} (F : Fit m a) {t : List Int} (hl : t.length = 6) (b : Bd depth t) (h : stepM m a depth t = t) : Clo m a depth (fun r => t.getD r.toNat 0) := by
  have i1 := foldl_inc (press_inc m.buttons depth) a.buttons t
  have i2 := foldl_inc (link_inc a.on) m.links (pressM m.buttons depth a.buttons t)
  have h' : m.links.foldl (fun t l => if active a.on l then rise t l.to.toNat (t.getD l.frm.toNat 0 - l.lag) else t) (pressM m.buttons depth a.buttons t) = t := h
  rw [h'] at i2
  obtain ⟨e1, k1⟩ := foldl_fix (press_inc m.buttons depth) a.buttons t i2
  have e1' : pressM m.buttons depth a.buttons t = t := e1
  rw [e1'] at h'
  obtain ⟨_, k2⟩ := foldl_fix (link_inc a.on) m.links t (by rw [h']; exact .refl t)
  refine ⟨fun r _ => (b r.toNat).1, fun x hx => ?_, fun l hx ha => ?_⟩
  · obtain ⟨x0, x1⟩ := F.hb x hx
    have := getD_mem_ge F.btn (i := x.toNat) (by omega)
    exact rise_fix (k1 x hx) (by omega)
  · have e := k2 l hx
    rw [if_pos ha] at e
    obtain ⟨_, ⟨t0, t1⟩, _⟩ := F.link l hx
    exact rise_fix e (by omega)
theorem sends_inv {m : MachP} {a : HandP} {depth : Int} {I : List Int → Prop} (hI : ∀ t, I t → I (stepM m a depth t)) : ∀ (n : Nat) (t : List Int), I t → I ((sendsM m a depth n t).getLastD t)
  | 0, t, h => h
  | n + 1, t, h => by
    unfold sendsM
    split
    · exact h
    · rw [List.getLastD_cons]
      exact sends_inv hI n _ (hI t h)
theorem sends_fix {m : MachP} {a : HandP} {depth : Int} (hl : ∀ l ∈ m.links, 0 ≤ l.lag) : ∀ (n : Nat) (t : List Int), Bd depth t → room depth t < n → stepM m a depth ((sendsM m a depth n t).getLastD t) = (sendsM m a depth n t).getLastD t
  | 0, t, _, hr => by omega
  | n + 1, t, b, hr => by
    unfold sendsM
    split
    · rename_i h; exact h
    · rename_i hne
      rw [List.getLastD_cons]
      obtain ⟨le, b2⟩ := stepM_ok (h := a) hl b
      have := room_lt (D := depth) le.1 (fun j _ => ⟨le.2 j, (b2 j).2⟩) hne
      exact sends_fix hl n _ b2 (by omega)
/-- How far a rod turns. -/
def turnF (m : MachP) (a : HandP) (depth : Int) (r : Int) : Int := (turnedM m a depth).getD r.toNat 0
theorem Fit.lag {m : MachP} {a : HandP} (F : Fit m a) : ∀ l ∈ m.links, 0 ≤ l.lag := fun l hl => (F.link l hl).2.2.1
theorem turned_len (m : MachP) (a : HandP) (depth : Int) : (turnedM m a depth).length = 6 := sends_inv (I := fun t => t.length = 6) (fun t h => by rw [step_len]; exact h) _ _ rfl
theorem turned_bd {m : MachP} {a : HandP} {depth : Int} (F : Fit m a) (hd : 0 ≤ depth) : Bd depth (turnedM m a depth) := sends_inv (I := Bd depth) (fun _ h => (stepM_ok (h := a) F.lag h).2) _ _ (zero_bd hd)
theorem turned_clo {m : MachP} {a : HandP} {depth : Int} (F : Fit m a) (hd : 0 ≤ depth) : Clo m a depth (turnF m a depth) :=
  fix_clo F (turned_len m a depth) (turned_bd F hd) (sends_fix F.lag _ _ (zero_bd hd) zero_room)
theorem zero6_getD (j : Nat) : zero6.getD j 0 = 0 := by
  unfold zero6
  match j with
  | 0 | 1 | 2 | 3 | 4 | 5 => rfl
  | n + 6 => rfl
theorem turned_least {m : MachP} {a : HandP} {depth : Int} (F : Fit m a) {f : Int → Int} (c : Clo m a depth f) (r : Int) (hr : 0 ≤ r) : turnF m a depth r ≤ f r := by
  have := sends_inv (m := m) (a := a) (depth := depth) (I := Under f) (fun _ h => step_under F c h) (fuelM depth) zero6 (fun j => by rw [zero6_getD]; exact c.zero j (by omega)) r.toNat
  rwa [Int.toNat_of_nonneg hr] at this
theorem turnF_bd {m : MachP} {a : HandP} {depth : Int} (F : Fit m a) (hd : 0 ≤ depth) (r : Int) : 0 ≤ turnF m a depth r ∧ turnF m a depth r ≤ depth := turned_bd F hd r.toNat
end Go.Rd
/- Plain: how far levers are lifted. Conditions: none. -/
namespace Go.Rd

def pinS (t : List Int) (l : List Int) (p : PinP) : List Int := rise l p.lever.toNat (t.getD p.rod.toNat 0 - p.lag)
def liftedM (m : MachP) (t : List Int) : List Int := m.pins.foldl (pinS t) (List.replicate m.levers.toNat 0)
theorem pin_inc (t : List Int) : ∀ (l : List Int) (p : PinP), Le l (pinS t l p) := fun l p => rise_le _ _ _
theorem lifted_len (m : MachP) (t : List Int) : (liftedM m t).length = m.levers.toNat := by
  unfold liftedM
  rw [← (foldl_inc (pin_inc t) m.pins (List.replicate m.levers.toNat 0)).1, List.length_replicate]
/-- How far a lever is lifted with a hand pressed down to a depth. -/
def liftF (m : MachP) (a : HandP) (depth : Int) (v : Int) : Int := (liftedM m (turnedM m a depth)).getD v.toNat 0
end Go.Rd
/- The checks of a machine and of a hand, in plain data. Conditions: none. -/
namespace Go.Rd
open Go Go.HL Go.Wx
variable [Lvl]
def setAt (below : Int) (l : List Int) (i : Nat) : Int := if !inM (l.getD i 0) 0 (below - 1) then 3 else if 0 < i ∧ l.getD i 0 ≤ l.getD (i - 1) 0 then 5 else 0
/-- The error of a set of numbers below some number. -/
def checkSetM (l : List Int) (below : Int) : Int := firstErr (setAt below l) (List.range l.length)
def checkLinkM (m : MachP) (l : LinkP) : Int :=
  if !inM l.frm 0 (m.rods - 1) then 3 else if !inM l.to 0 (m.rods - 1) then 3 else if l.frm = l.to then 4 else if !inM l.reg (-1) (m.regs - 1) then 3 else if !inM l.lag 1 m.travel then 1 else 0
def checkButtonM (m : MachP) (b : Int) : Int := if !inM b 0 (m.rods - 1) then 3 else 0
def checkPinM (m : MachP) (p : PinP) : Int := if !inM p.rod 0 (m.rods - 1) then 3 else if !inM p.lever 0 (m.levers - 1) then 3 else if !inM p.lag 0 m.travel then 1 else 0
def checkWeightM (w : Int) : Int := if !inM w 0 50 then 1 else 0
/-- The first error of a machine. -/
def chkM (m : MachP) : Int :=
  if !inM m.rods 1 6 then 1 else if !inM m.levers 1 6 then 1 else if !inM m.regs 0 2 then 1 else if !inM m.travel 1 12 then 1 else if !inM m.opn 1 m.travel then 1
  else if m.buttons.length > 4 then 6 else if firstErr (checkButtonM m) m.buttons ≠ 0 then firstErr (checkButtonM m) m.buttons
  else if m.pins.length > 8 then 6 else if firstErr (checkPinM m) m.pins ≠ 0 then firstErr (checkPinM m) m.pins
  else if m.links.length > 4 then 6 else if firstErr (checkLinkM m) m.links ≠ 0 then firstErr (checkLinkM m) m.links
  else if (m.weights.length : Int) ≠ m.levers then 2 else firstErr checkWeightM m.weights
def checkHandM (m : MachP) (a : HandP) : Int :=
  if chkM m ≠ 0 then chkM m else if checkSetM a.buttons m.buttons.length ≠ 0 then checkSetM a.buttons m.buttons.length else checkSetM a.on m.regs

theorem inM_iff {n lo hi : Int} : inM n lo hi = true ↔ lo ≤ n ∧ n ≤ hi := by simp [inM]
theorem firstErr_iff {α : Type} {f : α → Int} : ∀ {l : List α}, firstErr f l = 0 ↔ ∀ x ∈ l, f x = 0
  | [] => ⟨fun _ x h => absurd h (List.not_mem_nil), fun _ => rfl⟩
  | y :: l => by
    unfold firstErr
    split
    · rename_i h
      exact ⟨fun e => absurd e h, fun k => k y (List.mem_cons_self ..)⟩
    · rename_i h
      rw [firstErr_iff]
      have h' : f y = 0 := by simpa using h
      exact ⟨fun k x hx => (List.mem_cons.1 hx).elim (fun e => e ▸ h') (k x), fun k x hx => k x (List.mem_cons_of_mem _ hx)⟩
/-- A set of numbers below some number: ascending. -/
structure SetOK (l : List Int) (below : Int) : Prop where
  mem : ∀ x ∈ l, 0 ≤ x ∧ x < below
  asc : l.Pairwise (· < ·)
theorem asc_of {l : List Int} (h : ∀ i, i + 1 < l.length → l.getD i 0 < l.getD (i + 1) 0) : l.Pairwise (· < ·) := by
  rw [List.pairwise_iff_getElem]
  have key : ∀ k i, i + k + 1 < l.length → l.getD i 0 < l.getD (i + k + 1) 0 := by
    intro k
    induction k with
    | zero => intro i hi; exact h i hi
    | succ k ih =>
      intro i hi
      have h1 := ih i (by omega)
      have h2 := h (i + k + 1) (by omega)
      rw [show i + (k + 1) + 1 = i + k + 1 + 1 by omega]
      omega
  intro i j hi hj hij
  have := key (j - i - 1) i (by omega)
  rw [show i + (j - i - 1) + 1 = j by omega] at this
  simpa [List.getD_eq_getElem?_getD, List.getElem?_eq_getElem hi, List.getElem?_eq_getElem hj] using this
theorem checkSet_iff {l : List Int} {below : Int} : checkSetM l below = 0 ↔ SetOK l below := by
  unfold checkSetM
  rw [firstErr_iff]
  have g : ∀ i (hi : i < l.length), l.getD i 0 = l[i] := fun i hi => by simp [List.getD_eq_getElem?_getD, List.getElem?_eq_getElem hi]
  constructor
  · intro h
    have h' : ∀ i, i < l.length → (0 ≤ l.getD i 0 ∧ l.getD i 0 < below) ∧ (0 < i → l.getD (i - 1) 0 < l.getD i 0) := by
      intro i hi
      have := h i (List.mem_range.2 hi)
      unfold setAt inM at this
      split at this
      · cases this
      · rename_i h1
        split at this
        · cases this
        · rename_i h2
          simp only [Bool.not_eq_true', Bool.and_eq_false_iff, decide_eq_false_iff_not, not_or, Classical.not_not, not_and] at h1 h2
          exact ⟨⟨h1.1, by omega⟩, fun h0 => by have := h2 h0; omega⟩
    refine ⟨fun x hx => ?_, asc_of fun i hi => ?_⟩
    · obtain ⟨i, hi, rfl⟩ := List.getElem_of_mem hx
      rw [← g i hi]
      exact (h' i hi).1
    · exact (h' (i + 1) hi).2 (by omega)
  · rintro ⟨h1, h2⟩ i hi
    have hi := List.mem_range.1 hi
    rw [List.pairwise_iff_getElem] at h2
    unfold setAt
    obtain ⟨a0, a1⟩ := h1 _ (List.getElem_mem hi)
    rw [g i hi, if_neg (by simp [inM]; omega), if_neg]
    rintro ⟨h0, h3⟩
    have := h2 (i - 1) i (by omega) hi (by omega)
    rw [g (i - 1) (by omega)] at h3
    omega
theorem peel {c : Prop} [Decidable c] {n x : Int} (h : (if c then n else x) = 0) (hn : c → n ≠ 0) : ¬ c ∧ x = 0 := by
  by_cases hc : c
  · rw [if_pos hc] at h; exact absurd h (hn hc)
  · rw [if_neg hc] at h; exact ⟨hc, h⟩
theorem check_ok {m : MachP} (h : chkM m = 0) : MOK m := by
  unfold chkM at h
  obtain ⟨a1, h⟩ := peel h (fun _ => by decide)
  obtain ⟨a2, h⟩ := peel h (fun _ => by decide)
  obtain ⟨a3, h⟩ := peel h (fun _ => by decide)
  obtain ⟨a4, h⟩ := peel h (fun _ => by decide)
  obtain ⟨a5, h⟩ := peel h (fun _ => by decide)
  obtain ⟨a6, h⟩ := peel h (fun _ => by decide)
  obtain ⟨a7, h⟩ := peel h (fun x => x)
  obtain ⟨a8, h⟩ := peel h (fun _ => by decide)
  obtain ⟨a9, h⟩ := peel h (fun x => x)
  obtain ⟨a10, h⟩ := peel h (fun _ => by decide)
  obtain ⟨a11, h⟩ := peel h (fun x => x)
  obtain ⟨a12, h⟩ := peel h (fun _ => by decide)
  simp only [Bool.not_eq_true', Bool.not_eq_false, inM_iff] at a1 a2 a3 a4 a5
  simp only [ne_eq, Classical.not_not] at a7 a9 a11 a12
  have b1 := firstErr_zero a7
  have b2 := firstErr_zero a9
  have b3 := firstErr_zero a11
  have b4 := firstErr_zero h
  refine ⟨a1, a2, a3, a4, a5, by omega, fun b hb => ?_, by omega, fun p hp => ?_, by omega, fun l hl => ?_, by simpa using a12, fun w hw => ?_⟩
  · have h1 := b1 b hb
    unfold checkButtonM at h1
    obtain ⟨a1, _⟩ := peel h1 (fun _ => by decide)
    simp only [Bool.not_eq_true', Bool.not_eq_false, inM_iff] at a1
    omega
  · have h1 := b2 p hp
    unfold checkPinM at h1
    obtain ⟨a1, h1⟩ := peel h1 (fun _ => by decide)
    obtain ⟨a2, h1⟩ := peel h1 (fun _ => by decide)
    obtain ⟨a3, h1⟩ := peel h1 (fun _ => by decide)
    simp only [Bool.not_eq_true', Bool.not_eq_false, inM_iff] at a1 a2 a3
    omega
  · have h1 := b3 l hl
    unfold checkLinkM at h1
    obtain ⟨a1, h1⟩ := peel h1 (fun _ => by decide)
    obtain ⟨a2, h1⟩ := peel h1 (fun _ => by decide)
    obtain ⟨a3, h1⟩ := peel h1 (fun _ => by decide)
    obtain ⟨a4, h1⟩ := peel h1 (fun _ => by decide)
    obtain ⟨a5, h1⟩ := peel h1 (fun _ => by decide)
    simp only [Bool.not_eq_true', Bool.not_eq_false, inM_iff] at a1 a2 a4 a5
    omega
  · have h1 := b4 w hw
    unfold checkWeightM at h1
    obtain ⟨a1, _⟩ := peel h1 (fun _ => by decide)
    simp only [Bool.not_eq_true', Bool.not_eq_false, inM_iff] at a1
    omega
structure HOK (m : MachP) (a : HandP) : Prop where
  b : SetOK a.buttons m.buttons.length
  o : SetOK a.on m.regs
theorem checkHand_ok0 {m : MachP} {a : HandP} (h : checkHandM m a = 0) : MOK m ∧ HOK m a := by
  unfold checkHandM at h
  split at h
  · rename_i e; exact absurd h e
  · rename_i e
    split at h
    · rename_i e2; exact absurd h e2
    · rename_i e2
      exact ⟨check_ok (by simpa using e), checkSet_iff.1 (by simpa using e2), checkSet_iff.1 h⟩
theorem set_len {l : List Int} {below : Nat} (s : SetOK l below) : l.length ≤ below := by
  have key : ∀ (l : List Int) (lo : Int), (∀ x ∈ l, lo ≤ x ∧ x < below) → l.Pairwise (· < ·) → lo + l.length ≤ below ∨ l = [] := by
    intro l
    induction l with
    | nil => intro lo _ _; exact .inr rfl
    | cons y l ih =>
      intro lo hm hp
      rw [List.pairwise_cons] at hp
      have hy := hm y (List.mem_cons_self ..)
      left
      rcases ih (y + 1) (fun x hx => ⟨by have := hp.1 x hx; omega, (hm x (List.mem_cons_of_mem _ hx)).2⟩) hp.2 with h | h
      · rw [List.length_cons]; omega
      · subst h; simp; omega
  rcases key l 0 s.mem s.asc with h | h
  · omega
  · subst h; simp
theorem fit_of {m : MachP} {a : HandP} (M : MOK m) (H : HOK m a) : Fit m a := by
  have r := M.rods
  have g := M.regs
  have l := M.travel
  refine ⟨M.bl, fun b hb => by have := M.btn b hb; omega, M.ll, fun x hx => by have := M.link x hx; omega, fun b hb => H.b.mem b hb, ?_, ?_⟩
  · have := set_len H.b
    have := M.bl
    omega
  · have := set_len (below := m.regs.toNat) (by rw [Int.toNat_of_nonneg g.1]; exact H.o)
    omega
end Go.Rd
/- Plain: sets of levers. Conditions: none. -/
namespace Go.Rd
open Go Go.HL Go.Wx
variable [Lvl]
/-- The numbers below n of which p is true, as a set. -/
def maskOf (p : Nat → Bool) : Nat → Nat
  | 0 => 0
  | n + 1 => if p n then withM (maskOf p n) n else maskOf p n
theorem withM_bit (m k i : Nat) : (withM m k).testBit i = (m.testBit i || decide (k = i)) := by
  unfold withM
  rw [Nat.testBit_or, Nat.testBit_two_pow]
theorem maskOf_bit (p : Nat → Bool) : ∀ (n i : Nat), (maskOf p n).testBit i = (decide (i < n) && p i)
  | 0, i => by simp [maskOf]
  | n + 1, i => by
    unfold maskOf
    have ih := maskOf_bit p n i
    split
    · rename_i h
      rw [withM_bit, ih]
      by_cases hi : n = i
      · subst hi; simp [h]
      · have : (decide (i < n + 1)) = decide (i < n) := by rw [decide_eq_decide]; omega
        simp [hi, this]
    · rename_i h
      rw [ih]
      by_cases hi : n = i
      · subst hi; simp [h]
      · have : (decide (i < n + 1)) = decide (i < n) := by rw [decide_eq_decide]; omega
        simp [this]
theorem maskOf_lt (p : Nat → Bool) : ∀ n, maskOf p n < 2 ^ n
  | 0 => by simp [maskOf]
  | n + 1 => by
    have ih := maskOf_lt p n
    have h2 : 2 ^ n < 2 ^ (n + 1) := Nat.pow_lt_pow_right (by omega) (by omega)
    unfold maskOf
    split
    · exact Nat.or_lt_two_pow (by omega) h2
    · omega
theorem listN_bits {m n : Nat} {x : Int} : x ∈ listN m n ↔ ∃ i : Nat, x = i ∧ i < n ∧ m.testBit i = true := by
  constructor
  · exact listN_mem
  · rintro ⟨i, rfl, h1, h2⟩
    unfold listN
    simp only [List.mem_map, List.mem_filter, List.mem_range]
    exact ⟨i, ⟨h1, h2⟩, rfl⟩
theorem listN_asc (m n : Nat) : (listN m n).Pairwise (· < ·) := by
  unfold listN
  rw [List.pairwise_map]
  refine (List.Pairwise.filter _ List.pairwise_lt_range).imp ?_
  intro a b h
  omega
/-- Ascending lists with the same elements are equal. -/
theorem asc_ext : ∀ {a b : List Int}, a.Pairwise (· < ·) → b.Pairwise (· < ·) → (∀ x, x ∈ a ↔ x ∈ b) → a = b
  | [], [], _, _, _ => rfl
  | [], y :: b, _, _, h => absurd ((h y).2 (List.mem_cons_self ..)) (List.not_mem_nil)
  | x :: a, [], _, _, h => absurd ((h x).1 (List.mem_cons_self ..)) (List.not_mem_nil)
  | x :: a, y :: b, ha, hb, h => by
    rw [List.pairwise_cons] at ha hb
    have e : x = y := by
      rcases List.mem_cons.1 ((h x).1 (List.mem_cons_self ..)) with e | e
      · exact e
      · rcases List.mem_cons.1 ((h y).2 (List.mem_cons_self ..)) with e2 | e2
        · exact e2.symm
        · have := hb.1 x e
          have := ha.1 y e2
          omega
    subst e
    congr 1
    refine asc_ext ha.2 hb.2 fun z => ?_
    constructor
    · intro hz
      rcases List.mem_cons.1 ((h z).1 (List.mem_cons_of_mem _ hz)) with e | e
      · have := ha.1 z hz; omega
      · exact e
    · intro hz
      rcases List.mem_cons.1 ((h z).2 (List.mem_cons_of_mem _ hz)) with e | e
      · have := hb.1 z hz; omega
      · exact e
/-- What sounds with a hand pressed down to a depth, as a set. -/
def soundsM (m : MachP) (a : HandP) (depth : Int) : Nat := maskOf (fun v => decide (m.opn ≤ (liftedM m (turnedM m a depth)).getD v 0)) m.levers.toNat
theorem sounds_lt (m : MachP) (a : HandP) (depth : Int) : soundsM m a depth < 2 ^ m.levers.toNat := maskOf_lt _ _
end Go.Rd
/- Arrays of numbers in a private place. Conditions: none. -/
namespace Go.Rd
open Go Go.HL Go.Wx
variable [Lvl]
abbrev tV (t : List Int) : List Value := t.map (Value.int .i64)
theorem rd_all {l : List Value} {m : Nat} (h : l.length = m) : rd l.toArray 0 m = some l := by
  subst h
  unfold rd
  simp
theorem wrL_at : ∀ (vs pre c : List Value), c.length = vs.length → wrL (pre ++ c) pre.length vs = pre ++ vs
  | [], pre, c, h => by
    have : c = [] := List.length_eq_zero_iff.1 h
    subst this
    rfl
  | v :: vs, pre, [], h => by simp at h
  | v :: vs, pre, x :: c, h => by
    have ih := wrL_at vs (pre ++ [v]) c (by simpa using h)
    simp only [wrL]
    have e : (pre ++ x :: c).set pre.length v = (pre ++ [v]) ++ c := by simp
    rw [e, show pre.length + 1 = (pre ++ [v]).length by simp, ih]
    simp
theorem wrL_all {c vs : List Value} (h : c.length = vs.length) : wrL c 0 vs = vs := wrL_at vs [] c h
theorem wrL_rise {t : List Int} {i : Nat} {o : Nat} {v x : Int} (ho : o = i) (e : x = max (t.getD i 0) v) : wrL (tV t) o [.int .i64 x] = tV (rise t i v) := by
  subst ho e
  simp [wrL, rise, List.map_set]
theorem tV_at {t : List Int} {i o : Nat} (ho : o = i) (hi : i < t.length) : (tV t).toArray[o]? = some (.int .i64 (t.getD i 0)) := by
  subst ho
  simp [List.getElem?_eq_getElem hi, List.getD_eq_getElem?_getD]
theorem pressM_take {bs : List Int} {depth : Int} {hb : List Int} {t : List Int} {k : Nat} (hk : k < hb.length) : pressM bs depth (hb.take (k + 1)) t = rise (pressM bs depth (hb.take k) t) (bs.getD hb[k].toNat 0).toNat depth := by
  unfold pressM
  rw [List.take_add_one, List.getElem?_eq_getElem hk, Option.toList_some, List.foldl_append]
  rfl
theorem linkM_take {on : List Int} {ls : List LinkP} {t : List Int} {k : Nat} (hk : k < ls.length) : linkM on (ls.take (k + 1)) t = if active on ls[k] then rise (linkM on (ls.take k) t) ls[k].to.toNat ((linkM on (ls.take k) t).getD ls[k].frm.toNat 0 - ls[k].lag) else linkM on (ls.take k) t := by
  unfold linkM
  rw [List.take_add_one, List.getElem?_eq_getElem hk, Option.toList_some, List.foldl_append]
  rfl
theorem press_len (bs : List Int) (depth : Int) (hb t : List Int) : (pressM bs depth hb t).length = t.length := (foldl_inc (press_inc bs depth) hb t).1.symm
theorem link_len (on : List Int) (ls : List LinkP) (t : List Int) : (linkM on ls t).length = t.length := (foldl_inc (link_inc on) ls t).1.symm
/-- Bounds of what is reckoned in between. -/
theorem press_bd {depth : Int} (bs : List Int) (hb : List Int) {t : List Int} (b : Bd depth t) : Bd depth (pressM bs depth hb t) := (pressM_ok bs (Int.le_refl depth) hb t b).2
theorem link_bd {depth : Int} (on : List Int) {ls : List LinkP} {t : List Int} (hl : ∀ l ∈ ls, 0 ≤ l.lag) (b : Bd depth t) : Bd depth (linkM on ls t) := (linkM_ok on ls t hl b).2
theorem take_mem {α : Type} {l : List α} {k : Nat} {x : α} (h : x ∈ l.take k) : x ∈ l := List.mem_of_mem_take h
theorem getD_get {l : List Int} {i : Nat} (h : i < l.length) : l.getD i 0 = l[i] := by simp [List.getD_eq_getElem?_getD, List.getElem?_eq_getElem h]
theorem len6 {t : List Int} (h : t.length = 6) : ∃ a b c d e f, t = [a, b, c, d, e, f] := by
  match t, h with
  | [a, b, c, d, e, f], _ => exact ⟨a, b, c, d, e, f, rfl⟩
theorem sends_len {m : MachP} {a : HandP} {depth : Int} : ∀ (n : Nat) (t : List Int), t.length = 6 → ∀ u ∈ sendsM m a depth n t, u.length = 6
  | 0, _, _, u, hu => absurd hu (List.not_mem_nil)
  | n + 1, t, ht, u, hu => by
    unfold sendsM at hu
    split at hu
    · exact absurd hu (List.not_mem_nil)
    · have h1 : (stepM m a depth t).length = 6 := by rw [step_len, ht]
      rcases List.mem_cons.1 hu with rfl | hu
      · exact h1
      · exact sends_len n _ h1 u hu
/-- A machine's value, a hand's value. -/
abbrev machV (AB AQ AL AW : Option Addr) (cB cQ cL cW : Nat) (m : MachP) : Value := .agg #[.int .i64 m.rods, .int .i64 m.levers, .int .i64 m.regs, .int .i64 m.travel, .int .i64 m.opn, .slice AB m.buttons.length cB, .slice AQ m.pins.length cQ, .slice AL m.links.length cL, .slice AW m.weights.length cW]
abbrev handV (HA OA : Option Addr) (cH cO : Nat) (a : HandP) : Value := .agg #[.slice HA a.buttons.length cH, .slice OA a.on.length cO]
structure MachR (h : AH) (AB AQ AL AW : Option Addr) (m : MachP) : Prop where
  b : Row h 1 intC AB m.buttons
  q : Row h 3 pinC AQ m.pins
  l : Row h 4 linkC AL m.links
  w : Row h 1 intC AW m.weights
theorem MachR.ext {h h' : AH} {AB AQ AL AW : Option Addr} {m : MachP} (r : MachR h AB AQ AL AW m) (e : Ext h h') : MachR h' AB AQ AL AW m := ⟨r.b.ext e, r.q.ext e, r.l.ext e, r.w.ext e⟩
structure HandR (h : AH) (HA OA : Option Addr) (a : HandP) : Prop where
  b : Row h 1 intC HA a.buttons
  o : Row h 1 intC OA a.on
theorem HandR.ext {h h' : AH} {HA OA : Option Addr} {a : HandP} (r : HandR h HA OA a) (e : Ext h h') : HandR h' HA OA a := ⟨r.b.ext e, r.o.ext e⟩
theorem MachV.open {h : AH} {m : MachP} {v : Value} (r : MachV h m v) : ∃ AB AQ AL AW cB cQ cL cW, v = machV AB AQ AL AW cB cQ cL cW m ∧ MachR h AB AQ AL AW m := by
  obtain ⟨_, _, _, _, rfl, ⟨AB, cB, rfl, r1⟩, ⟨AQ, cQ, rfl, r2⟩, ⟨AL, cL, rfl, r3⟩, ⟨AW, cW, rfl, r4⟩⟩ := r
  exact ⟨AB, AQ, AL, AW, cB, cQ, cL, cW, rfl, r1, r2, r3, r4⟩
theorem MachR.close {h : AH} {m : MachP} {AB AQ AL AW : Option Addr} {cB cQ cL cW : Nat} (r : MachR h AB AQ AL AW m) : MachV h m (machV AB AQ AL AW cB cQ cL cW m) :=
  ⟨_, _, _, _, rfl, ⟨_, _, rfl, r.b⟩, ⟨_, _, rfl, r.q⟩, ⟨_, _, rfl, r.l⟩, ⟨_, _, rfl, r.w⟩⟩
theorem HandV.open {h : AH} {a : HandP} {v : Value} (r : HandV h a v) : ∃ HA OA cH cO, v = handV HA OA cH cO a ∧ HandR h HA OA a := by
  obtain ⟨_, _, rfl, ⟨HA, cH, rfl, r1⟩, ⟨OA, cO, rfl, r2⟩⟩ := r
  exact ⟨HA, OA, cH, cO, rfl, r1, r2⟩
theorem HandR.close {h : AH} {a : HandP} {HA OA : Option Addr} {cH cO : Nat} (r : HandR h HA OA a) : HandV h a (handV HA OA cH cO a) := ⟨_, _, rfl, ⟨_, _, rfl, r.b⟩, ⟨_, _, rfl, r.o⟩⟩
end Go.Rd
/- Bellows without tests, in plain data: what leaks. Conditions: none. -/
namespace Go.Bw
open Go Go.HL Go.Wx Go.Rd
variable [Lvl]
/-- A bellows without tests. -/
structure BelP where
  full : Int
  air : Rg
  corners : List Rg
structure BelB (b : BelP) : Prop where
  f1 : 1 ≤ b.full
  f2 : b.full ≤ 200
  a1 : 0 ≤ b.air.mn
  a2 : b.air.mn ≤ b.air.mx
  a3 : b.air.mx ≤ b.full
  c4 : b.corners.length ≤ 4
  cb : ∀ r ∈ b.corners, 0 ≤ r.mn ∧ r.mn ≤ r.mx ∧ r.mx ≤ 5
def belC (A TA : Option Addr) (cA tA : Nat) (b : BelP) : List Value := [.int .i64 b.full, .int .i64 b.air.mn, .int .i64 b.air.mx, .slice A b.corners.length cA, .slice TA 0 tA]
end Go.Bw
/- Bellows without tests: what leaks in all is between the sums of the corners' ranges. Conditions: none. -/
namespace Go.Bw
open Go Go.HL Go.Wx Go.Rd
variable [Lvl]
end Go.Bw
/- Pieces that are played with a bellows that does not leak, in plain data. Conditions: none. -/
namespace Go.Bw
open Go Go.HL Go.Wx Go.Rd
variable [Lvl]
/-- A note that takes a known air per second. -/
structure NoteP where
  sec : Int
  k : Int
  rest : Bool
  deriving DecidableEq, Repr, Inhabited
structure NoteB (n : NoteP) : Prop where
  s1 : 1 ≤ n.sec
  s2 : n.sec ≤ 20
  k0 : 0 ≤ n.k
  k9 : n.k ≤ 9
/-- A set that holds one air, as four words. -/
def wordA (m : Nat) (i : Nat) : Nat := if m / 64 = i then 2 ^ (m % 64) else 0
end Go.Bw
/- Slices of things that point into memory themselves. Conditions: none. -/
namespace Go.Rd
open Go Go.HL Go.Wx
variable [Lvl]
/-- A slice of things of m cells each, each of which stands for a datum. -/
def SlX {α : Type} (h : AH) (m : Nat) (T : AH → α → List Value → Prop) (l : List α) (v : Value) : Prop :=
  ∃ (cs : List (List Value)) (A : Option Addr) (cap : Nat), v = .slice A l.length cap ∧ cs.length = l.length ∧ Row h m id A cs ∧ ∀ (i : Nat) (x : α) (c : List Value), l[i]? = some x → cs[i]? = some c → T h x c
def Mono {α : Type} (T : AH → α → List Value → Prop) : Prop := ∀ h h' x c, Ext h h' → T h x c → T h' x c
theorem SlX.ext {α : Type} {h h' : AH} {m : Nat} {T : AH → α → List Value → Prop} {l : List α} {v : Value} (r : SlX h m T l v) (mo : Mono T) (e : Ext h h') : SlX h' m T l v := by
  obtain ⟨cs, A, cap, hv, hl, R, hT⟩ := r
  exact ⟨cs, A, cap, hv, hl, R.ext e, fun i x c h1 h2 => mo _ _ _ _ e (hT i x c h1 h2)⟩
theorem SlX.nil {α : Type} (h : AH) (m : Nat) (T : AH → α → List Value → Prop) (A : Option Addr) (c : Nat) : SlX h m T ([] : List α) (.slice A 0 c) :=
  ⟨[], A, c, rfl, rfl, ⟨fun _ hx => absurd hx (List.not_mem_nil), Rd.nil _ _⟩, fun i x c h1 _ => by simp at h1⟩
/-- The elements so far of what grows in a place of its own. -/
def Els {α : Type} (h : AH) (T : AH → α → List Value → Prop) (l : List α) (cs : List (List Value)) : Prop := cs.length = l.length ∧ ∀ (i : Nat) (x : α) (c : List Value), l[i]? = some x → cs[i]? = some c → T h x c
theorem Els.nil {α : Type} (h : AH) (T : AH → α → List Value → Prop) : Els h T ([] : List α) [] := ⟨rfl, fun i x c h1 _ => by simp at h1⟩
theorem Els.ext {α : Type} {h h' : AH} {T : AH → α → List Value → Prop} {l : List α} {cs : List (List Value)} (r : Els h T l cs) (mo : Mono T) (e : Ext h h') : Els h' T l cs := ⟨r.1, fun i x c h1 h2 => mo _ _ _ _ e (r.2 i x c h1 h2)⟩
theorem Els.snoc {α : Type} {h : AH} {T : AH → α → List Value → Prop} {l : List α} {cs : List (List Value)} {x : α} {c : List Value} (r : Els h T l cs) (t : T h x c) : Els h T (l ++ [x]) (cs ++ [c]) := by
  refine ⟨by simp [r.1], fun i y d h1 h2 => ?_⟩
  rw [List.getElem?_append] at h1 h2
  rw [r.1] at h2
  split at h1
  · rename_i hi; rw [if_pos hi] at h2; exact r.2 i y d h1 h2
  · rename_i hi
    rw [if_neg hi] at h2
    have h0 : i - l.length = 0 := by
      have := (List.getElem?_eq_some_iff.1 h1).1
      simp at this
      omega
    rw [h0] at h1 h2
    simp at h1 h2
    subst h1 h2
    exact t
theorem Els.at {α : Type} {h : AH} {T : AH → α → List Value → Prop} {l : List α} {cs : List (List Value)} (r : Els h T l cs) {i : Nat} (hi : i < l.length) : ∃ hc : i < cs.length, T h l[i] cs[i] :=
  ⟨by rw [r.1]; exact hi, r.2 i _ _ (List.getElem?_eq_getElem hi) (List.getElem?_eq_getElem (by rw [r.1]; exact hi))⟩
theorem SlX.els {α : Type} {h : AH} {m : Nat} {T : AH → α → List Value → Prop} {l : List α} {v : Value} (r : SlX h m T l v) : ∃ cs A cap, v = .slice A l.length cap ∧ Row h m id A cs ∧ Els h T l cs := by
  obtain ⟨cs, A, cap, hv, hl, R, hT⟩ := r
  exact ⟨cs, A, cap, hv, R, hl, hT⟩
theorem SlX.of {α : Type} {h : AH} {m : Nat} {T : AH → α → List Value → Prop} {l : List α} {cs : List (List Value)} {A : Option Addr} {cap n : Nat} (R : Row h m id A cs) (e : Els h T l cs) (hn : l.length = n) : SlX h m T l (.slice A n cap) := by
  subst hn
  exact ⟨cs, A, cap, rfl, e.1, R, e.2⟩
/-- What has grown in a place of its own. -/
theorem SlX.acc {α : Type} {e : TypeId} {m : Nat} {T : AH → α → List Value → Prop} {l : List α} {cs : List (List Value)} {p : Option (Nat × Obj)} {v : Value} (a : AccP e m (cs.flatMap id) p v) (hm : 0 < m) (hl : ∀ x ∈ cs, x.length = m) {L : Pv} {h : AH} (V : Valid h L) {i : Nat} (hi : L[i]? = some p) (E : Els (wl h L) T l cs) : SlX (wl h L) m T l v := by
  obtain ⟨A, cap, rfl, R⟩ := AccP.row a hm hl V hi
  exact SlX.of R E E.1.symm
/-- Lists of numbers as elements. -/
def TL (h : AH) (l : List Int) (c : List Value) : Prop := ∃ v, c = [v] ∧ SlR h 1 intC l v
theorem TL.mono : Mono TL := fun h h' l c e ⟨v, hc, r⟩ => ⟨v, hc, r.ext e⟩
/-- Hands as elements. -/
def TH (h : AH) (a : HandP) (c : List Value) : Prop := ∃ B O, c = [B, O] ∧ SlR h 1 intC a.buttons B ∧ SlR h 1 intC a.on O
theorem TH.mono : Mono TH := fun h h' l c e ⟨B, O, hc, r, s⟩ => ⟨B, O, hc, r.ext e, s.ext e⟩
/-- What was heard. -/
structure HeardP where
  hand : HandP
  sounds : List Int
def TU (h : AH) (x : HeardP) (c : List Value) : Prop := ∃ B O U, c = [B, O, U] ∧ SlR h 1 intC x.hand.buttons B ∧ SlR h 1 intC x.hand.on O ∧ SlR h 1 intC x.sounds U
theorem TU.mono : Mono TU := fun h h' l c e ⟨B, O, U, hc, r, s, t⟩ => ⟨B, O, U, hc, r.ext e, s.ext e, t.ext e⟩
end Go.Rd
/- Tongues in plain data. Conditions: none. -/
namespace Go.Vo
open Go Go.HL Go.Wx Go.Rd
variable [Lvl]
structure LawP where
  first : Int
  step : Int
  span : Int
  press : Int
structure SndP where
  tone : Rg
  slope : Rg
structure LawB (l : LawP) : Prop where
  f0 : 0 ≤ l.first
  f1 : l.first ≤ 30
  s0 : -5 ≤ l.step
  s1 : l.step ≤ 5
  p0 : 0 ≤ l.span
  p1 : l.span ≤ 20
  r0 : 0 ≤ l.press
  r1 : l.press ≤ 3
structure SndB (s : SndP) : Prop where
  t0 : -30 ≤ s.tone.mn
  t1 : s.tone.mn ≤ s.tone.mx
  t2 : s.tone.mx ≤ 30
  s0 : -3 ≤ s.slope.mn
  s1 : s.slope.mn ≤ s.slope.mx
  s2 : s.slope.mx ≤ 3
def lawV (l : LawP) : Value := .agg #[.int .i64 l.first, .int .i64 l.step, .int .i64 l.span, .int .i64 l.press]
def sndC (s : SndP) : List Value := [.int .i64 s.tone.mn, .int .i64 s.tone.mx, .int .i64 s.slope.mn, .int .i64 s.slope.mx]
def sndV (s : SndP) : Value := .agg #[.int .i64 s.tone.mn, .int .i64 s.tone.mx, .int .i64 s.slope.mn, .int .i64 s.slope.mx]
def rgW (x : Rg) : Value := .agg #[.int .i64 x.mn, .int .i64 x.mx]
def timesM (x : Rg) (n : Int) : Rg := ⟨n * x.mn, n * x.mx⟩
def plusM (x y : Rg) : Rg := ⟨x.mn + y.mn, x.mx + y.mx⟩
def lessM (x y : Rg) : Rg := ⟨x.mn - y.mx, x.mx - y.mn⟩
def riseM (low high : SndP) (p : Int) : Rg := lessM (timesM high.slope p) (plusM low.tone (timesM low.slope p))
def beatR (low high : SndP) (p : Nat) : Rg := plusM high.tone (riseM low high p)
def beatsM (press : Int) (low high : SndP) : List Rg := (List.range (press + 1).toNat).map (beatR low high)
def offS (due : Int) (n : Int) (x : Rg) : Int := max (max n (due - x.mn)) (x.mx - due)
def offM (press due : Int) (low high : SndP) : Int := (beatsM press low high).foldl (offS due) 0
/-- A beat keeps the law up to a pressure. -/
def agreeN (span due beat slope : Int) : Nat → Bool
  | 0 => true
  | p + 1 => agreeN span due beat slope p && (decide (0 - span ≤ beat + p * slope - due) && decide (beat + p * slope - due ≤ span))
def agreeM (l : LawP) (due beat slope : Int) : Bool := agreeN l.span due beat slope (l.press + 1).toNat
theorem agreeN_less {span due beat slope : Int} : ∀ {n i : Nat}, i ≤ n → agreeN span due beat slope n = true → agreeN span due beat slope i = true
  | 0, i, hi, h => by rw [Nat.le_zero.1 hi]; exact h
  | n + 1, i, hi, h => by
    rcases Nat.lt_or_ge i (n + 1) with h1 | h1
    · unfold agreeN at h
      rw [Bool.and_eq_true] at h
      exact agreeN_less (by omega) h.1
    · rw [show i = n + 1 by omega]; exact h
/-- Bounded ranges. -/
def RgB (b : Int) (x : Rg) : Prop := -b ≤ x.mn ∧ x.mn ≤ b ∧ -b ≤ x.mx ∧ x.mx ≤ b
theorem mul_bd {n x b : Int} (hn : 0 ≤ n ∧ n ≤ 3) (hx : -b ≤ x ∧ x ≤ b) : -(3 * b) ≤ n * x ∧ n * x ≤ 3 * b := by
  have h : n = 0 ∨ n = 1 ∨ n = 2 ∨ n = 3 := by omega
  rcases h with rfl | rfl | rfl | rfl <;> omega
theorem beat_bd {low high : SndP} (L : SndB low) (H : SndB high) {p : Nat} (hp : p ≤ 3) : RgB 200 (beatR low high p) := by
  obtain ⟨a1, a2, a3, a4, a5, a6⟩ := L
  obtain ⟨b1, b2, b3, b4, b5, b6⟩ := H
  have q : 0 ≤ (p : Int) ∧ (p : Int) ≤ 3 := by omega
  have m1 := mul_bd q (show -3 ≤ low.slope.mn ∧ low.slope.mn ≤ 3 by omega)
  have m2 := mul_bd q (show -3 ≤ low.slope.mx ∧ low.slope.mx ≤ 3 by omega)
  have m3 := mul_bd q (show -3 ≤ high.slope.mn ∧ high.slope.mn ≤ 3 by omega)
  have m4 := mul_bd q (show -3 ≤ high.slope.mx ∧ high.slope.mx ≤ 3 by omega)
  unfold RgB beatR riseM plusM lessM timesM
  dsimp only
  omega
theorem beatsM_bd {low high : SndP} (L : SndB low) (H : SndB high) {press : Int} (hp : press ≤ 3) : ∀ x ∈ beatsM press low high, RgB 200 x := by
  intro x hx
  obtain ⟨p, h1, rfl⟩ := List.mem_map.1 hx
  have := List.mem_range.1 h1
  exact beat_bd L H (by omega)
/-- Tongues' rows, as elements. -/
def TS (h : AH) (l : List SndP) (c : List Value) : Prop := ∃ v, c = [v] ∧ SlR h 4 sndC l v
theorem TS.mono : Mono TS := fun h h' l c e ⟨v, hc, r⟩ => ⟨v, hc, r.ext e⟩
structure ScaP where
  law : LawP
  rows : List (List SndP)
/-- Rows of so many notes each. -/
structure ScaB (s : ScaP) (n : Nat) : Prop where
  l : LawB s.law
  r4 : s.rows.length ≤ 4
  n6 : n ≤ 6
  rn : ∀ r ∈ s.rows, r.length = n
  rb : ∀ r ∈ s.rows, ∀ x ∈ r, SndB x
  d : ∀ k : Nat, k < n → 0 ≤ s.law.first + s.law.step * k ∧ s.law.first + s.law.step * k ≤ 30
def notesM (s : ScaP) : Nat := (s.rows.getD 0 []).length
def scaV (A : Option Addr) (cA : Nat) (s : ScaP) : Value := .agg #[.int .i64 s.law.first, .int .i64 s.law.step, .int .i64 s.law.span, .int .i64 s.law.press, .slice A s.rows.length cA]
end Go.Vo
/- Walks of package rod: small functions of the library. Conditions: as each theorem states. -/
namespace Go.Proofs.Ytlfbcimcehcomaa
open Go Go.HL Go.Proofs Go.Wx
variable [Lvl]
set_option maxRecDepth 100000
theorem take_snoc {α : Type} {l : List α} {k : Nat} (h : k < l.length) : l.take (k + 1) = l.take k ++ [l[k]] := by
  rw [List.take_add_one, List.getElem?_eq_getElem h]; rfl
theorem index_ok (l : List Int) (z : Int) (A : Option Addr) (c : Nat) (h : AH) (R : Row h 1 intC A l) (hl : l.length < 2 ^ 40) :
    FnT Try.prog 117 #[.slice A l.length c, .int .i64 z] h (fun v _ => ∃ i : Int, v = .int .i64 i ∧ decide (i ≥ 0) = decide (z ∈ l)) := by
  refine call_body Try.func117 rfl Try.ntmps117 rfl ?_
  refine xp_seq ?_
  refine xp_region rfl ?_
  refine op_pure (pv_assign (v := .int .i64 _) rfl) ?_
  refine xp_seq ?_
  refine xp_seq ?_
  refine xp_region rfl ?_
  refine op_pure (pv_move (v := .slice _ _ _) rfl) ?_
  refine op_pure (pv_len rfl rfl) ?_
  refine op_pure (pv_move (v := .int .i64 _) rfl) ?_
  refine xp_block ?_
  refine xp_loopB [4, 5, 8, 9, 10, 11, 12, 13, 14, 15, 16, 17, 18] 0 (α := Nat) (fun k => [(8, .int .i64 k)]) (fun k => _) (fun k h_k => k ≤ l.length ∧ z ∉ l.take k) (fun k => l.length - k) (0) ⟨rfl, trivial⟩ (rfl) (⟨Nat.zero_le _, by simp⟩) ?_
  rintro k T1 h_k E_k J_k
  refine goes_norm [] rfl ?_
  obtain ⟨K1, K2⟩ := J_k
  refine xp_seq ?_
  refine xp_region rfl ?_
  refine op_pure (pv_of (v := .bool _) rfl) ?_
  refine xp_seq ?_
  refine xp_cond rfl (fun hk => ?_) (fun hk => ?_)
  · skip
    have hkl : k < l.length := ltI hk
    obtain ⟨g, off, hA, hc⟩ := (R.ext E_k).at (by omega) hkl
    refine xp_skip ?_
    refine xp_seq ?_
    refine xp_block ?_
    refine xp_seq ?_
    refine xp_region rfl ?_
    refine op_pure (pv_move (v := .int .i64 _) rfl) ?_
    refine op_pure (pv_assign (v := .int .i64 _) rfl) ?_
    refine xp_seq ?_
    refine xp_region rfl ?_
    refine op_pure (pv_move (v := .int .i64 _) rfl) ?_
    refine op_pure (pv_move (v := .slice _ _ _) rfl) ?_
    refine op_pure (pv_move (v := .int .i64 _) rfl) ?_
    refine op_pure (pv_indexE rfl hA rfl rfl rfl (by omega) (by omega)) ?_
    refine op_load (v := .int .i64 _) rfl rfl ((hc) 0 _ rfl) ?_
    refine op_pure (pv_of (v := .bool _) rfl) ?_
    refine xp_cond rfl (fun he => ?_) (fun he => ?_)
    · skip
      have he' : z = l[k] := by simpa using he
      have hz : z ∈ l := by rw [he']; exact List.getElem_mem hkl
      refine xp_seq ?_
      refine xp_region rfl ?_
      refine op_pure (pv_move (v := .int .i64 _) rfl) ?_
      refine op_pure (pv_assign (v := .int .i64 _) rfl) ?_
      refine xp_ret ?_
      refine res_list (vs := [_]) Try.results117 ⟨resV_tmp rfl rfl, trivial⟩ fun V => ?_
      exact ⟨(Ext.trans E_k (ext_wl V)), k, rfl, by rw [decide_eq_true hz]; exact decide_eq_true (by omega)⟩
    · skip
      have he' : ¬ z = l[k] := by simpa using he
      refine xp_skip ?_
      refine xp_region rfl ?_
      refine op_pure (pv_arith rfl (by omega)) ?_
      refine op_pure (pv_move (v := .int .i64 _) rfl) ?_
      refine ⟨k + 1, ⟨rfl, trivial⟩, rfl, rfl, E_k, fun h3 E3 => ⟨hkl, by rw [take_snoc hkl, List.mem_append, List.mem_singleton]; exact fun h => h.elim K2 he'⟩, by first | omega | (dsimp only; omega), ?_⟩
      repeat (first | exact off_base _ _ _ | refine off_upd (by decide) ?_ | refine off_updL rfl ?_ | refine off_mix rfl ?_)
  · skip
    have hke : k = l.length := by have := geI hk; omega
    subst hke
    rw [List.take_length] at K2
    refine xp_exit ?_
    refine xp_seq ?_
    refine xp_region rfl ?_
    refine op_pure (pv_assign (v := .int .i64 _) rfl) ?_
    refine xp_ret ?_
    refine res_list (vs := [_]) Try.results117 ⟨resV_tmp rfl rfl, trivial⟩ fun V => ?_
    exact ⟨(Ext.trans E_k (ext_wl V)), -1, rfl, by rw [decide_eq_false K2]; rfl⟩
theorem contains_ok (l : List Int) (z : Int) (A : Option Addr) (c : Nat) (h : AH) (R : Row h 1 intC A l) (hl : l.length < 2 ^ 40) :
    FnT Try.prog 94 #[.slice A l.length c, .int .i64 z] h (fun v _ => v = .bool (decide (z ∈ l))) := by
  refine call_body Try.func94 rfl Try.ntmps94 rfl ?_
  refine xp_seq ?_
  refine xp_region rfl ?_
  refine op_pure (pv_assign (v := .bool _) rfl) ?_
  refine xp_seq ?_
  refine xp_region rfl ?_
  refine op_pure (pv_move (v := .slice _ _ _) rfl) ?_
  refine op_pure (pv_move (v := .int .i64 _) rfl) ?_
  refine op_fn (caps := []) (vs := [.slice _ _ _, .int .i64 _]) rfl rfl rfl (index_ok l z A c h R hl) ?_
  rintro _ h1 E1 ⟨i, rfl, hi⟩
  refine op_pure (pv_of (v := .bool _) rfl) ?_
  refine op_pure (pv_assign (v := .bool _) rfl) ?_
  refine xp_ret ?_
  refine res_list (vs := [_]) Try.results94 ⟨resV_tmp rfl rfl, trivial⟩ fun V => ?_
  exact ⟨(Ext.trans E1 (ext_wl V)), congrArg Value.bool hi⟩
end Go.Proofs.Ytlfbcimcehcomaa
/- Walks of package rod: the goroutine of turned. Conditions: as each theorem states. -/
namespace Go.Proofs.Ytlfbcimcehcomaa
open Go Go.HL Go.Proofs Go.Wx Go.Rd Go.Conc
set_option maxRecDepth 100000
section
variable [Lvl]
theorem turnsEq {a b : List Int} (ha : a.length = 6) (hb : b.length = 6) : pev Try.prog (Op.equalIn Op.maxDepth 129 (.agg (tV a).toArray) (.agg (tV b).toArray)) = some (decide (a = b)) := by
  obtain ⟨a0, a1, a2, a3, a4, a5, rfl⟩ := len6 ha
  obtain ⟨b0, b1, b2, b3, b4, b5, rfl⟩ := len6 hb
  have h1 := eq_array (P := Try.prog) (t := 129) (d := 9999) (len := 6) (xs := (tV [a0, a1, a2, a3, a4, a5]).toArray) (ys := (tV [b0, b1, b2, b3, b4, b5]).toArray) (rs := [a0 == b0, a1 == b1, a2 == b2, a3 == b3, a4 == b4, a5 == b5]) rfl rfl rfl ?_
  · refine h1.trans ?_
    simp only [List.all_cons, List.all_nil, id, Bool.and_true, Option.some.injEq]
    rw [Bool.eq_iff_iff]
    simp
  · intro i r hr
    match i, hr with
    | 0, hr => cases hr; exact ⟨_, _, rfl, rfl, eq_int rfl _ _⟩
    | 1, hr => cases hr; exact ⟨_, _, rfl, rfl, eq_int rfl _ _⟩
    | 2, hr => cases hr; exact ⟨_, _, rfl, rfl, eq_int rfl _ _⟩
    | 3, hr => cases hr; exact ⟨_, _, rfl, rfl, eq_int rfl _ _⟩
    | 4, hr => cases hr; exact ⟨_, _, rfl, rfl, eq_int rfl _ _⟩
    | 5, hr => cases hr; exact ⟨_, _, rfl, rfl, eq_int rfl _ _⟩
    | i + 6, hr => simp at hr
end
theorem turned1_ok {c bC bH bM bD : Nat} {hw R : AH} {fC : Nat × Nat} {m : MachP} {a : HandP} {depth : Int} (F : Fit m a) {AB AL HA OA : Option Addr} {cB cL cH cO : Nat} {Q W : Value} {N : Nat} (hd0 : 0 ≤ depth) (hd1 : depth ≤ 12) (hN : room depth zero6 < N)
    (fin : Fin (hun hw (zf R))) (d : Disj hw R) (hwc : hw c = none) (hRc : R c = none)
    (eC : hun hw (zf R) bC = some (.cells #[.chan (some c)] 172 fC)) (eD : hun hw (zf R) bD = some (.cells #[.int .i64 depth] 3 (0, 0)))
    (eH : Cells (hun hw (zf R)) bH 0 [.slice HA a.buttons.length cH, .slice OA a.on.length cO])
    (eM : Cells (hun hw (zf R)) bM 0 [.int .i64 m.rods, .int .i64 m.levers, .int .i64 m.regs, .int .i64 m.travel, .int .i64 m.opn, .slice AB m.buttons.length cB, Q, .slice AL m.links.length cL, W])
    (RH : Row (hun hw (zf R)) 1 intC HA a.buttons) (RO : Row (hun hw (zf R)) 1 intC OA a.on) (RB : Row (hun hw (zf R)) 1 intC AB m.buttons) (RL : Row (hun hw (zf R)) 4 linkC AL m.links) :
    RW Try.prog c (QW R c [baseG Try.prog []] (WEnd 93 74 c #[172] 0 hw)) (baseG Try.prog [{ target := .fn (.func 93) #[.pointer (some ⟨bC, 0, none⟩), .pointer (some ⟨bH, 0, none⟩), .pointer (some ⟨bM, 0, none⟩), .pointer (some ⟨bD, 0, none⟩)], args := #[] }]) [] (hun hw (zw R c ((sendsM m a depth N zero6).map turnsV))) := by
  letI : Lvl := ⟨false, some c, none⟩
  have hbl := F.bl
  have cC : cellA (hun hw (zf R)) ⟨bC, 0, none⟩ = some (.chan (some c)) := by simp only [cellA, eC]; rfl
  have cD : cellA (hun hw (zf R)) ⟨bD, 0, none⟩ = some (.int .i64 depth) := by simp only [cellA, eD]; rfl
  have hll := F.ll
  have hhl := F.hl
  have hol := F.ol
  refine worker_body (args := #[]) Try.func93 rfl rfl Try.ntmps93 rfl fin d hwc hRc ?_
  generalize hun hw (zf R) = h at *
  refine xp_seq ?_
  refine xp_regionD rfl rfl ?_
  refine op_load (v := .chan (some c)) rfl rfl (by simp only [cellA, eC]; rfl) ?_
  refine goes_defer rfl rfl rfl rfl ?_
  refine goes_end ?_
  refine goes_norm [_] rfl ?_
  refine xp_seq ?_
  refine xp_region rfl ?_
  refine op_alloc (cs := [_, _, _, _, _, _]) rfl rfl fun b4 hb4 => ?_
  refine wp_norm [_, _] rfl ?_
  refine xp_block ?_
  refine xp_loopL [5, 7, 9, 11, 12, 13, 14, 15, 16, 17, 18, 19, 20, 21, 22, 23, 24, 25, 26, 27, 28, 29, 30, 31, 32, 33, 34, 35, 36, 37, 38, 39, 40, 41, 42, 43, 44, 45, 46, 47, 48, 49, 50, 51, 52, 53, 54, 55, 56, 57, 58, 59, 60, 61, 62, 63, 64, 65, 66, 67, 68, 69, 70, 71, 72, 73] 2 (α := List Int) (fun t => []) (fun t L => (L.set 0 (some (c, gch ((sendsM m a depth N t).map turnsV)))).set 1 (some (b4, .cells (tV t).toArray 129 (0, 0)))) (fun t h_t => t.length = 6 ∧ Bd depth t ∧ room depth t < N) (fun t => room depth t) (zero6) trivial (rfl) (⟨rfl, zero_bd hd0, hN⟩) ?_
  rintro t T1 h_t E_t J_t
  refine goes_norm [_, _] rfl ?_
  obtain ⟨J1, J2, J3⟩ := J_t
  have hs := sends_eq F.lag J2 J3 (h := a)
  refine xp_block ?_
  refine xp_seq ?_
  refine xp_region rfl ?_
  have hT6 : (tV t).length = 6 := by simp [J1]
  refine op_loadPA 1 (m := 6) (vs := tV t) rfl rfl rfl rfl (rd_all hT6) ?_
  refine op_alloc (cs := [_, _, _, _, _, _]) rfl rfl fun b5 hb5 => ?_
  refine wp_norm [_, _, _] rfl ?_
  refine op_storeP 2 (m := 6) (v := .agg (tV t).toArray) (vs := tV t) (c' := tV t) rfl rfl rfl rfl rfl hT6 rfl (by simp [plainB]) (wrL_all hT6.symm) ?_
  refine wp_norm [_, _, _] rfl ?_
  refine xp_seq ?_
  refine xp_seq ?_
  refine xp_region rfl ?_
  refine op_pure (pv_fieldAddr rfl rfl rfl rfl _ rfl) ?_
  refine op_load (v := .slice HA _ _) rfl rfl ((eH.ext E_t) 0 _ rfl) ?_
  refine op_pure (pv_len rfl rfl) ?_
  refine op_pure (pv_move (v := .int .i64 _) rfl) ?_
  refine xp_block ?_
  refine xp_loopL [7, 15, 16, 17, 18, 19, 20, 21, 22, 23, 24, 25, 26, 27, 28, 29, 30, 31, 32, 33, 34] 3 (α := Nat) (fun k => [(15, .int .i64 k)]) (fun k L => L.set 2 (some (b5, .cells (tV (pressM m.buttons depth (a.buttons.take k) t)).toArray 129 (0, 0)))) (fun k h_k => k ≤ a.buttons.length) (fun k => a.buttons.length - k) (0) ⟨rfl, trivial⟩ (rfl) (Nat.zero_le _) ?_
  rintro k T2 h_k E_k J_k
  refine goes_norm [_, _, _] rfl ?_
  refine xp_seq ?_
  refine xp_region rfl ?_
  refine op_pure (pv_of (v := .bool _) rfl) ?_
  refine xp_seq ?_
  refine xp_cond rfl (fun hk => ?_) (fun hk => ?_)
  · skip
    have hkl : k < a.buttons.length := ltI hk
    obtain ⟨g, off, hA, hc⟩ := (RH.ext (Ext.trans E_t E_k)).at (by omega) hkl
    have hbk := F.hb _ (List.getElem_mem hkl)
    have hbk2 : a.buttons[k].toNat < m.buttons.length := by omega
    obtain ⟨g2, off2, hA2, hc2⟩ := (RB.ext (Ext.trans E_t E_k)).at (by omega) hbk2
    have hbt := F.btn _ (List.getElem_mem hbk2)
    have hP6 : (tV (pressM m.buttons depth (a.buttons.take k) t)).length = 6 := by rw [List.length_map, press_len, J1]
    refine xp_skip ?_
    refine xp_seq ?_
    refine xp_block ?_
    refine xp_seq ?_
    refine xp_region rfl ?_
    refine op_pure (pv_indexE rfl hA rfl rfl rfl (by omega) (by omega)) ?_
    refine op_load (v := .int .i64 _) rfl rfl ((hc) 0 _ rfl) ?_
    refine op_pure (pv_assign (v := .int .i64 _) rfl) ?_
    refine xp_dw [] rfl rfl rfl ?_
    refine dw_pure (i := 0) rfl (by decide +kernel) (pv_fieldAddr rfl rfl rfl rfl _ rfl) ?_
    refine dw_load (i := 1) rfl (by decide +kernel) ?_
    refine op_load (v := .slice AB _ _) rfl rfl ((eM.ext (Ext.trans E_t E_k)) 5 _ rfl) ?_
    refine dw_pure (i := 2) rfl (by decide +kernel) (pv_move (v := .int .i64 _) rfl) ?_
    refine dw_pure (i := 3) rfl (by decide +kernel) (pv_indexE rfl hA2 rfl rfl rfl (by omega) (by omega)) ?_
    refine dw_load (i := 4) rfl (by decide +kernel) ?_
    refine op_load (v := .int .i64 _) rfl rfl ((hc2) 0 _ rfl) ?_
    refine dw_pure (i := 5) rfl (by decide +kernel) (pv_fieldAddr rfl rfl rfl rfl _ rfl) ?_
    refine dw_load (i := 6) rfl (by decide +kernel) ?_
    refine op_load (v := .slice AB _ _) rfl rfl ((eM.ext (Ext.trans E_t E_k)) 5 _ rfl) ?_
    refine dw_pure (i := 7) rfl (by decide +kernel) (pv_move (v := .int .i64 _) rfl) ?_
    refine dw_pure (i := 8) rfl (by decide +kernel) (pv_indexE rfl hA2 rfl rfl rfl (by omega) (by omega)) ?_
    refine dw_load (i := 9) rfl (by decide +kernel) ?_
    refine op_load (v := .int .i64 _) rfl rfl ((hc2) 0 _ rfl) ?_
    refine dw_pure (i := 10) rfl (by decide +kernel) (pv_indexA (m := 1) rfl rfl rfl rfl (by omega) (by omega)) ?_
    refine dw_load (i := 11) rfl (by decide +kernel) ?_
    refine op_loadP 2 (v := .int .i64 ((pressM m.buttons depth (a.buttons.take k) t).getD m.buttons[a.buttons[k].toNat].toNat 0)) rfl rfl rfl (tV_at (by omega) (by rw [press_len]; omega)) ?_
    refine dw_load (i := 12) rfl (by decide +kernel) ?_
    refine op_load (v := .int .i64 depth) rfl rfl ((Ext.trans E_t E_k).cell cD) ?_
    refine dw_pure (i := 13) rfl (by decide +kernel) (pv_max rfl rfl) ?_
    refine dw_pure (i := 14) rfl (by decide +kernel) (pv_indexA (m := 1) rfl rfl rfl rfl (by omega) (by omega)) ?_
    refine dw_last (i := 15) rfl (by decide +kernel) (by decide +kernel) ?_
    refine op_storeP 2 (m := 1) (v := .int .i64 _) (vs := [.int .i64 (max ((pressM m.buttons depth (a.buttons.take k) t).getD m.buttons[a.buttons[k].toNat].toNat 0) depth)]) (c' := tV (pressM m.buttons depth (a.buttons.take (k + 1)) t)) rfl rfl rfl rfl rfl rfl (Nat.ble_eq_true_of_le (by rw [hP6]; omega)) rfl (by rw [pressM_take hkl, getD_get hbk2]; exact wrL_rise (by omega) rfl) ?_
    refine dw_norm [_, _, _] rfl ?_
    refine dw_end rfl ?_
    refine xp_region rfl ?_
    refine op_pure (pv_arith rfl (by omega)) ?_
    refine op_pure (pv_move (v := .int .i64 _) rfl) ?_
    refine ⟨k + 1, ⟨rfl, trivial⟩, rfl, rfl, E_k, fun h3 E3 => hkl, by first | omega | (dsimp only; omega), ?_⟩
    repeat (first | exact off_base _ _ _ | refine off_upd (by decide) ?_ | refine off_updL rfl ?_ | refine off_mix rfl ?_)
  · skip
    have hke : k = a.buttons.length := by have := geI hk; omega
    subst hke
    rw [List.take_length]
    obtain ⟨P, hP⟩ : ∃ P, P = pressM m.buttons depth a.buttons t := ⟨_, rfl⟩
    rw [← hP]
    have hP6 : P.length = 6 := by rw [hP, press_len, J1]
    have hPB : Bd depth P := by rw [hP]; exact press_bd _ _ J2
    have hSt : stepM m a depth t = linkM a.on m.links P := by rw [hP]; rfl
    refine xp_exit ?_
    refine xp_seq ?_
    refine xp_seq ?_
    refine xp_region rfl ?_
    refine op_pure (pv_fieldAddr rfl rfl rfl rfl _ rfl) ?_
    refine op_load (v := .slice AL _ _) rfl rfl ((eM.ext (Ext.trans E_t E_k)) 7 _ rfl) ?_
    refine op_pure (pv_len rfl rfl) ?_
    refine op_pure (pv_move (v := .int .i64 _) rfl) ?_
    refine xp_block ?_
    refine xp_loopL [9, 38, 39, 40, 41, 42, 43, 44, 45, 46, 47, 48, 49, 50, 51, 52, 53, 54, 55, 56, 57, 58, 59, 60, 61, 62, 63, 64, 65, 66, 67] 3 (α := Nat) (fun i => [(38, .int .i64 i)]) (fun i L => L.set 2 (some (b5, .cells (tV (linkM a.on (m.links.take i) P)).toArray 129 (0, 0)))) (fun i h_i => i ≤ m.links.length) (fun i => m.links.length - i) (0) ⟨rfl, trivial⟩ (rfl) (Nat.zero_le _) ?_
    rintro i T3 h_i E_i J_i
    refine goes_norm [_, _, _] rfl ?_
    refine xp_seq ?_
    refine xp_region rfl ?_
    refine op_pure (pv_of (v := .bool _) rfl) ?_
    refine xp_seq ?_
    refine xp_cond rfl (fun hk => ?_) (fun hk => ?_)
    · skip
      have hkl : i < m.links.length := ltI hk
      obtain ⟨g, off, hA, hc⟩ := (RL.ext (Ext.trans (Ext.trans E_t E_k) E_i)).at (by omega) hkl
      obtain ⟨⟨f0, f1⟩, ⟨t0, t1⟩, g0, g1⟩ := F.link _ (List.getElem_mem hkl)
      obtain ⟨Z, hZ⟩ : ∃ Z, Z = linkM a.on (m.links.take i) P := ⟨_, rfl⟩
      have hZ6 : Z.length = 6 := by rw [hZ, link_len, hP6]
      have hT6 : (tV Z).length = 6 := by rw [List.length_map, hZ6]
      have hZB : Bd depth Z := by rw [hZ]; exact link_bd _ (fun l hl => F.lag l (take_mem hl)) hPB
      have z1 := hZB m.links[i].frm.toNat
      have z2 := hZB m.links[i].to.toNat
      have hNext := linkM_take (on := a.on) (t := P) hkl
      rw [← hZ] at hNext ⊢
      refine xp_skip ?_
      refine xp_seq ?_
      refine xp_block ?_
      refine xp_seq ?_
      refine xp_region rfl ?_
      refine op_pure (pv_indexE rfl hA rfl rfl rfl (by omega) (by omega)) ?_
      refine op_loadA rfl rfl rfl rfl (hc) ?_
      refine op_alloc (cs := [_, _, _, _]) rfl rfl fun b9 hb9 => ?_
      refine wp_norm [_, _, _, _] rfl ?_
      refine op_storeP 3 (v := .agg #[.int .i64 _, .int .i64 _, .int .i64 _, .int .i64 _]) (vs := [_, _, _, _]) (c' := [_, _, _, _]) rfl rfl rfl rfl rfl rfl rfl rfl rfl ?_
      refine wp_norm [_, _, _, _] rfl ?_
      refine xp_cutB [42, 43, 44, 45, 46, 47, 48, 49, 50, 51] 4 (α := Unit) (fun u => [(51, .bool (active a.on m.links[i]))]) (fun u L => L) (fun u h_u => True) ?_ ?_
      · skip
        rcases Bool.eq_false_or_eq_true (decide (m.links[i].reg < 0)) with hr | hr
        · skip
          refine xp_region rfl ?_
          refine op_pure (pv_fieldAddr rfl rfl rfl rfl 2 rfl) ?_
          refine op_loadP 3 (v := .int .i64 _) rfl rfl rfl rfl ?_
          refine op_pure (pv_of (v := .bool _) rfl) ?_
          refine op_pure (pv_move (v := .bool _) rfl) ?_
          refine guard_no rfl hr ?_
          refine guard_no rfl hr ?_
          refine guard_no rfl hr ?_
          refine guard_no rfl hr ?_
          refine guard_no rfl hr ?_
          refine op_pure (pv_pickT rfl hr (v := .bool _) rfl) ?_
          refine ⟨(), ⟨(by show Value.bool _ = _; unfold active; rw [hr]; rfl), trivial⟩, rfl, rfl, (Ext.refl _), fun h3 E3 => by first | trivial | omega | (refine ⟨?_, ?_⟩ <;> omega), ?_⟩
          repeat (first | exact off_refl _ _ | exact off_base _ _ _ | refine off_upd (by decide) ?_ | refine off_updL rfl ?_ | refine off_mix rfl ?_)
        · skip
          refine xp_region rfl ?_
          refine op_pure (pv_fieldAddr rfl rfl rfl rfl 2 rfl) ?_
          refine op_loadP 3 (v := .int .i64 _) rfl rfl rfl rfl ?_
          refine op_pure (pv_of (v := .bool _) rfl) ?_
          refine op_pure (pv_move (v := .bool _) rfl) ?_
          refine guard_yes rfl hr ?_
          refine op_pure (pv_fieldAddr rfl rfl rfl rfl _ rfl) ?_
          refine guard_yes rfl hr ?_
          refine op_load (v := .slice OA _ _) rfl rfl ((eH.ext (Ext.trans (Ext.trans E_t E_k) E_i)) 1 _ rfl) ?_
          refine guard_yes rfl hr ?_
          refine op_pure (pv_fieldAddr rfl rfl rfl rfl 2 rfl) ?_
          refine guard_yes rfl hr ?_
          refine op_loadP 3 (v := .int .i64 _) rfl rfl rfl rfl ?_
          refine guard_yes rfl hr ?_
          refine op_fn (caps := []) (vs := [.slice _ _ _, .int .i64 _]) rfl rfl rfl (contains_ok a.on m.links[i].reg OA cO h_i (RO.ext (Ext.trans (Ext.trans E_t E_k) E_i)) (by omega)) ?_
          rintro _ h1 E1 rfl
          refine op_pure (pv_pickF rfl hr (v := .bool _) rfl) ?_
          refine ⟨(), ⟨(by show Value.bool _ = _; unfold active; rw [hr]; simp), trivial⟩, rfl, rfl, E1, fun h3 E3 => by first | trivial | omega | (refine ⟨?_, ?_⟩ <;> omega), ?_⟩
          repeat (first | exact off_refl _ _ | exact off_base _ _ _ | refine off_upd (by decide) ?_ | refine off_updL rfl ?_ | refine off_mix rfl ?_)
      · rintro u T4 h_u E_u J_u
        refine goes_norm [_, _, _, _] rfl ?_
        refine xp_cond rfl (fun hact => ?_) (fun hact => ?_)
        · skip
          rw [if_pos hact] at hNext
          refine xp_dw [] rfl rfl rfl ?_
          refine dw_pure (i := 0) rfl (by decide +kernel) (pv_fieldAddr rfl rfl rfl rfl 1 rfl) ?_
          refine dw_load (i := 1) rfl (by decide +kernel) ?_
          refine op_loadP 3 (v := .int .i64 _) rfl rfl rfl rfl ?_
          refine dw_pure (i := 2) rfl (by decide +kernel) (pv_fieldAddr rfl rfl rfl rfl 1 rfl) ?_
          refine dw_load (i := 3) rfl (by decide +kernel) ?_
          refine op_loadP 3 (v := .int .i64 _) rfl rfl rfl rfl ?_
          refine dw_pure (i := 4) rfl (by decide +kernel) (pv_indexA (m := 1) rfl rfl rfl rfl (by omega) (by omega)) ?_
          refine dw_load (i := 5) rfl (by decide +kernel) ?_
          refine op_loadP 2 (v := .int .i64 (Z.getD m.links[i].to.toNat 0)) rfl rfl rfl (tV_at (by omega) (by omega)) ?_
          refine dw_pure (i := 6) rfl (by decide +kernel) (pv_fieldAddr rfl rfl rfl rfl 0 rfl) ?_
          refine dw_load (i := 7) rfl (by decide +kernel) ?_
          refine op_loadP 3 (v := .int .i64 _) rfl rfl rfl rfl ?_
          refine dw_pure (i := 8) rfl (by decide +kernel) (pv_indexA (m := 1) rfl rfl rfl rfl (by omega) (by omega)) ?_
          refine dw_load (i := 9) rfl (by decide +kernel) ?_
          refine op_loadP 2 (v := .int .i64 (Z.getD m.links[i].frm.toNat 0)) rfl rfl rfl (tV_at (by omega) (by omega)) ?_
          refine dw_pure (i := 10) rfl (by decide +kernel) (pv_fieldAddr rfl rfl rfl rfl 3 rfl) ?_
          refine dw_load (i := 11) rfl (by decide +kernel) ?_
          refine op_loadP 3 (v := .int .i64 _) rfl rfl rfl rfl ?_
          refine dw_pure (i := 12) rfl (by decide +kernel) (pv_arith rfl (by omega)) ?_
          refine dw_pure (i := 13) rfl (by decide +kernel) (pv_max rfl rfl) ?_
          refine dw_pure (i := 14) rfl (by decide +kernel) (pv_indexA (m := 1) rfl rfl rfl rfl (by omega) (by omega)) ?_
          refine dw_last (i := 15) rfl (by decide +kernel) (by decide +kernel) ?_
          refine op_storeP 2 (m := 1) (v := .int .i64 _) (vs := [.int .i64 (max (Z.getD m.links[i].to.toNat 0) (Z.getD m.links[i].frm.toNat 0 - m.links[i].lag))]) (c' := tV (linkM a.on (m.links.take (i + 1)) P)) rfl rfl rfl rfl rfl rfl (Nat.ble_eq_true_of_le (by rw [hT6]; omega)) rfl (by rw [hNext]; exact wrL_rise (by omega) rfl) ?_
          refine dw_norm [_, _, _, _] rfl ?_
          refine dw_end rfl ?_
          refine xp_region rfl ?_
          refine op_pure (pv_arith rfl (by omega)) ?_
          refine op_pure (pv_move (v := .int .i64 _) rfl) ?_
          refine ⟨i + 1, ⟨rfl, trivial⟩, rfl, rfl, (Ext.trans E_i E_u), fun h3 E3 => hkl, by first | omega | (dsimp only; omega), ?_⟩
          repeat (first | exact off_base _ _ _ | refine off_upd (by decide) ?_ | refine off_updL rfl ?_ | refine off_mix rfl ?_)
        · skip
          rw [if_neg (by rw [hact]; decide)] at hNext
          refine xp_skip ?_
          refine xp_region rfl ?_
          refine op_pure (pv_arith rfl (by omega)) ?_
          refine op_pure (pv_move (v := .int .i64 _) rfl) ?_
          refine ⟨i + 1, ⟨rfl, trivial⟩, rfl, by rw [hNext]; rfl, (Ext.trans E_i E_u), fun h3 E3 => hkl, by first | omega | (dsimp only; omega), ?_⟩
          repeat (first | exact off_base _ _ _ | refine off_upd (by decide) ?_ | refine off_updL rfl ?_ | refine off_mix rfl ?_)
    · skip
      have hke : i = m.links.length := by have := geI hk; omega
      subst hke
      rw [List.take_length, ← hSt]
      obtain ⟨Z, hZ⟩ : ∃ Z, Z = stepM m a depth t := ⟨_, rfl⟩
      rw [← hZ]
      have hZ6 : Z.length = 6 := by rw [hZ, step_len, J1]
      have hT6 : (tV Z).length = 6 := by rw [List.length_map, hZ6]
      obtain ⟨zle, zbd⟩ := stepM_ok (h := a) F.lag J2
      rw [← hZ] at zle zbd hs
      refine xp_exit ?_
      refine xp_seq ?_
      refine xp_seq ?_
      refine xp_region rfl ?_
      refine op_loadPA 2 (m := 6) (vs := tV Z) rfl rfl rfl rfl (rd_all hT6) ?_
      refine op_loadPA 1 (m := 6) (vs := tV t) rfl rfl rfl rfl (rd_all (by simp [J1])) ?_
      refine op_pure (pv_eqA rfl rfl rfl (turnsEq hZ6 J1)) ?_
      refine xp_cond rfl (fun heq => ?_) (fun heq => ?_)
      · skip
        have heq : Z = t := of_decide_eq_true heq
        rw [if_pos heq] at hs
        rw [hs]
        refine xp_ret ?_
        refine ⟨rfl, fun V => ?_⟩
        obtain ⟨h', e1, e2, e3⟩ := wl_drop [_, _] [_] V
        exact ⟨h', e2, e3, ((Ext.trans (Ext.trans E_t E_k) E_i)).trans e1⟩
      · skip
        have hne : Z ≠ t := of_decide_eq_false heq
        rw [if_neg hne] at hs
        have hlt := room_lt (D := depth) zle.1 (fun j _ => ⟨zle.2 j, (zbd j).2⟩) hne
        rw [hs]
        refine xp_skip ?_
        refine xp_seq ?_
        refine xp_regionD rfl rfl ?_
        refine op_load (v := .chan (some c)) rfl rfl ((Ext.trans (Ext.trans E_t E_k) E_i).cell cC) ?_
        refine op_loadPA 2 (m := 6) (vs := tV Z) rfl rfl rfl rfl (rd_all hT6) ?_
        refine goes_send (j := 0) (v := turnsV Z) (vs := (sendsM m a depth N Z).map turnsV) rfl rfl rfl rfl rfl rfl rfl ?_
        refine goes_end ?_
        refine goes_norm [_, _, _] rfl ?_
        refine xp_region rfl ?_
        refine op_loadPA 2 (m := 6) (vs := tV Z) rfl rfl rfl rfl (rd_all hT6) ?_
        refine op_storeP 1 (m := 6) (v := .agg (tV Z).toArray) (vs := tV Z) (c' := tV Z) rfl rfl rfl rfl rfl hT6 (Nat.ble_eq_true_of_le (by rw [List.length_map]; omega)) (by simp [plainB]) (wrL_all (by simp [J1, hZ6])) ?_
        refine wp_norm [_, _, _] rfl ?_
        refine ⟨Z, trivial, rfl, rfl, (Ext.trans (Ext.trans E_t E_k) E_i), fun h3 E3 => ⟨hZ6, zbd, by omega⟩, by first | omega | (dsimp only; omega), ?_⟩
        repeat (first | exact off_base _ _ _ | refine off_upd (by decide) ?_ | refine off_updL rfl ?_ | refine off_mix rfl ?_)
end Go.Proofs.Ytlfbcimcehcomaa
/- Walks of package rod: how far the rods turn. Conditions: as each theorem states. -/
namespace Go.Proofs.Ytlfbcimcehcomaa
open Go Go.HL Go.Proofs Go.Wx Go.Rd Go.Conc
set_option maxRecDepth 100000
theorem turned_ok [Lvl] (hph : Lvl.ph = true) {m : MachP} {a : HandP} {depth : Int} (F : Fit m a) (hd0 : 0 ≤ depth) (hd1 : depth ≤ 12) {AB AQ AL AW HA OA : Option Addr} {cB cQ cL cW cH cO : Nat} (h : AH)
    (RH : HandR h HA OA a) (RM : MachR h AB AQ AL AW m) :
    FnT Try.prog 61 #[machV AB AQ AL AW cB cQ cL cW m, handV HA OA cH cO a, .int .i64 depth] h (fun v _ => v = turnsV (turnedM m a depth)) := by
  refine call_body Try.func61 rfl Try.ntmps61 rfl ?_
  refine xp_seq ?_
  refine xp_region rfl ?_
  refine op_box (v := .agg #[.int .i64 _, .int .i64 _, .int .i64 _, .int .i64 _, .int .i64 _, .slice _ _ _, .slice _ _ _, .slice _ _ _, .slice _ _ _]) (cs := [_, _, _, _, _, _, _, _, _]) rfl rfl fun b3 hb3 => ?_
  refine wp_norm [_] rfl ?_
  refine op_box (v := .agg #[.slice _ _ _, .slice _ _ _]) (cs := [_, _]) rfl rfl fun b4 hb4 => ?_
  refine wp_norm [_, _] rfl ?_
  refine op_box (v := .int .i64 _) (cs := [_]) rfl rfl fun b5 hb5 => ?_
  refine wp_norm [_, _, _] rfl ?_
  refine op_alloc (cs := [_, _, _, _, _, _]) rfl rfl fun b6 hb6 => ?_
  refine wp_norm [_, _, _, _] rfl ?_
  refine xp_seq ?_
  refine xp_region rfl ?_
  refine op_makeChan rfl rfl rfl fun c hc => ?_
  refine op_alloc (cs := [_]) rfl rfl fun b7 hb7 => ?_
  refine wp_norm [_, _, _, _, _, _] rfl ?_
  refine op_storeP 5 (v := .chan _) (vs := [_]) (c' := [_]) rfl rfl rfl rfl rfl rfl rfl rfl rfl ?_
  refine wp_norm [_, _, _, _, _, _] rfl ?_
  refine xp_seqB ?_
  refine goes_regionB ?_
  refine goes_pv (i := 0) (rest := [1]) rfl trivial (pv_makeFunc (vs := []) (ws := [.pointer _, .pointer _, .pointer _, .pointer _]) rfl rfl) ?_
  refine goes_valid fun V => ?_
  obtain ⟨hw, hhw, Vw, n6, nc, n7, h6c, h67, hc7, esp⟩ := wl_split3 (M := [_, _, _]) V
  have g3 := wl_get Vw (i := 0) rfl
  have g4 := wl_get Vw (i := 1) rfl
  have g5 := wl_get Vw (i := 2) rfl
  have Ew := ext_wl Vw
  rw [← hhw] at g3 g4 g5 Ew
  have fw : Fin hw := by rw [hhw]; exact fin_wl Vw
  clear hhw
  obtain ⟨R, hR⟩ : ∃ R, R = oneC b7 (.cells #[.chan (some c)] 172 (0, 0)) := ⟨_, rfl⟩
  have fR : Fin R := by rw [hR]; exact fin_one _ _
  have R6 : R b6 = none := by rw [hR]; exact oneC_ne h67
  have Rc : R c = none := by rw [hR]; exact oneC_ne hc7
  have R7 : R b7 = some (.cells #[.chan (some c)] 172 (0, 0)) := by rw [hR]; exact oneC_same _ _
  have rows : OnlyRows R := fun b o hb => by
    rw [hR] at hb
    by_cases e : b = b7
    · subst e; rw [oneC_same] at hb; cases hb; exact ⟨_, _, _, rfl⟩
    · rw [oneC_ne e] at hb; cases hb
  have dwR : Disj hw R := by rw [hR]; exact disj_out n7
  obtain ⟨V1, e1⟩ := duo_priv (R := R) (o6 := .cells (tV zero6).toArray 129 (0, 0)) (g := gch ((sendsM m a depth (fuelM depth) zero6).map turnsV)) fR R6 Rc h6c
  have z7 : zf R b7 = some (.cells #[.chan (some c)] 172 (0, 2)) := by simp only [zf, R7]; rfl
  have Ez : Ext h (hun hw (zf R)) := Ew.trans ext_hun
  have rW := turned1_ok (c := c) (bC := b7) (bD := b5) (bH := b4) (bM := b3) (fC := (0, 2)) (N := fuelM depth) (cL := cL) (Q := .slice AQ m.pins.length cQ) (W := .slice AW m.weights.length cW) F hd0 hd1 zero_room (fin_hun fw (fin_zf fR)) dwR nc Rc (by simp only [hun, n7]; exact z7) (ext_hun _ _ g5) (cellsB (ext_hun _ _ g4)) (cellsB (ext_hun _ _ g3)) (RH.b.ext Ez) (RH.o.ext Ez) (RM.b.ext Ez) (RM.l.ext Ez)
  refine goes_phase (hm := oneC b6 (.cells (tV zero6).toArray 129 (0, 0))) (K1 := fun e S' hm' => e = .ret ∧ S' 6 = .pointer (some ⟨b6, 0, none⟩) ∧ hm' b6 = some (.cells (tV (turnedM m a depth)).toArray 129 (0, 0))) hph rfl rfl rfl rfl rows (disj_out n6).symm (disj_out R6).symm dwR (oneC_ne h6c.symm) nc Rc (fun _ => by rw [hR]; exact esp) V1 e1 ?gm (wend_close rfl rfl) rW ?join
  case join =>
    rintro e S' hm' fr' hw' s r ⟨rfl, k2, k3⟩ ⟨EW, _⟩ d1 d2 d3 n1 n2
    refine ret_pub (b := b6) (vs := [turnsV (turnedM m a depth)]) (hun_left k3) Try.results61 (fun h2 => ⟨resV_agg 0 (m := 6) (vs := tV (turnedM m a depth)) rfl k2 rfl rfl rfl (rd_all (by rw [List.length_map, turned_len])), trivial⟩) ⟨fun b o hb => ?_, rfl⟩
    have e2 := EW b o (Ew b o hb)
    have e3 : hm' b = none := (d1 b).resolve_right (by rw [e2]; simp)
    simp only [hun, e3, e2]
  case gm =>
    have c7 : cellA (zf R) ⟨b7, 0, none⟩ = some (.chan (some c)) := by simp only [cellA, z7]; rfl
    letI : Lvl := ⟨false, none, some c⟩
    refine goes_endB ?_
    refine xp_seq ?_
    refine xp_region rfl ?_
    refine op_alloc (cs := [_, _, _, _, _, _]) rfl rfl fun b8 hb8 => ?_
    refine wp_norm [_, _, _] rfl ?_
    refine xp_seq ?_
    refine xp_seq ?_
    refine xp_region rfl ?_
    refine op_load (v := .chan (some c)) rfl rfl ((Ext.refl _).cell c7) ?_
    refine xp_block ?_
    refine xp_loopL [9, 13, 14, 15, 16] 3 (α := List (List Int) × List Int) (fun ⟨us, cur⟩ => []) (fun ⟨us, cur⟩ L => (L.set 1 (some (c, gch (us.map turnsV)))).set 2 (some (b8, .cells (tV cur).toArray 129 (0, 0)))) (fun ⟨us, cur⟩ h_us => us.getLastD cur = turnedM m a depth ∧ cur.length = 6 ∧ ∀ u ∈ us, u.length = 6) (fun ⟨us, cur⟩ => us.length) ((sendsM m a depth (fuelM depth) zero6, zero6)) trivial (rfl) (⟨rfl, rfl, sends_len _ _ rfl⟩) ?_
    rintro ⟨us, cur⟩ T1 h_us E_us J_us
    refine goes_norm [_, _, _] rfl ?_
    obtain ⟨J1, J2, J3⟩ := J_us
    have hT6 : (tV cur).length = 6 := by rw [List.length_map, J2]
    rcases us with _ | ⟨u, us⟩
    · skip
      refine xp_seq ?_
      refine xp_regionL ?_
      refine goes_last (i := 0) (rest := [1]) (j := 1) rfl rfl rfl rfl rfl rfl rfl rfl ?_
      refine goes_pv (items := []) (i := 1) (rest := []) rfl trivial (pv_of (v := .bool false) rfl) ?_
      refine goes_end ?_
      refine goes_norm [_, _, _] rfl ?_
      refine xp_seq ?_
      refine xp_condF rfl (rfl) ?_
      refine xp_exit ?_
      refine xp_seq ?_
      refine xp_region rfl ?_
      refine op_loadPA 2 (m := 6) (vs := tV cur) rfl rfl rfl rfl (rd_all hT6) ?_
      refine op_storeP 0 (m := 6) (v := .agg (tV cur).toArray) (vs := tV cur) (c' := tV cur) rfl rfl rfl rfl rfl hT6 rfl (by simp [plainB]) (wrL_all hT6.symm) ?_
      refine wp_norm [_, _, _] rfl ?_
      refine xp_ret ?_
      refine ⟨rfl, fun V2 => ?_⟩
      obtain ⟨hm', k1, k2, k3, k4⟩ := main_end V2 (j := 1) rfl E_us Rc
      refine ⟨hm', k1, k2, k3, rfl, rfl, ?_⟩
      rw [show turnedM m a depth = cur from J1.symm]
      exact k4 _ _ (wl_get V2 (i := 0) rfl) h6c R6
    · skip
      rw [List.getLastD_cons] at J1
      have hlt : us.length < (u :: us).length := by simp
      have hu6 := J3 u (List.mem_cons_self ..)
      have hU6 : (tV u).length = 6 := by rw [List.length_map, hu6]
      refine xp_seq ?_
      refine xp_regionL ?_
      refine goes_recv (i := 0) (rest := [1]) (j := 1) (v := turnsV u) (vs := us.map turnsV) rfl rfl rfl rfl rfl rfl rfl rfl ?_
      refine goes_pv (items := []) (i := 1) (rest := []) rfl trivial (pv_of (v := .bool true) rfl) ?_
      refine goes_end ?_
      refine goes_norm [_, _, _] rfl ?_
      refine xp_seq ?_
      refine xp_condT rfl (rfl) ?_
      refine xp_skip ?_
      refine xp_block ?_
      refine xp_seq ?_
      refine xp_region rfl ?_
      refine op_pure (pv_of (v := turnsV u) rfl) ?_
      refine op_alloc (cs := [_, _, _, _, _, _]) rfl rfl fun b9 hb9 => ?_
      refine wp_norm [_, _, _, _] rfl ?_
      refine op_storeP 3 (m := 6) (v := .agg (tV u).toArray) (vs := tV u) (c' := tV u) rfl rfl rfl rfl rfl hU6 rfl (by simp [plainB]) (wrL_all hU6.symm) ?_
      refine wp_norm [_, _, _, _] rfl ?_
      refine xp_region rfl ?_
      refine op_loadPA 3 (m := 6) (vs := tV u) rfl rfl rfl rfl (rd_all hU6) ?_
      refine op_storeP 2 (m := 6) (v := .agg (tV u).toArray) (vs := tV u) (c' := tV u) rfl rfl rfl rfl rfl hU6 (Nat.ble_eq_true_of_le (by omega)) (by simp [plainB]) (wrL_all (hT6.trans hU6.symm)) ?_
      refine wp_norm [_, _, _, _] rfl ?_
      refine ⟨(us, u), trivial, rfl, rfl, E_us, fun h3 E3 => ⟨J1, hu6, fun x hx => J3 x (List.mem_cons_of_mem _ hx)⟩, by first | omega | (dsimp only; omega), ?_⟩
      repeat (first | exact off_base _ _ _ | refine off_upd (by decide) ?_ | refine off_updL rfl ?_ | refine off_mix rfl ?_)
end Go.Proofs.Ytlfbcimcehcomaa
/- Walks of package rod: the checks. Conditions: as each theorem states. -/
namespace Go.Proofs.Ytlfbcimcehcomaa
open Go Go.HL Go.Proofs Go.Wx Go.Rd
variable [Lvl]
set_option maxRecDepth 100000
theorem intE {k : IntKind} {a b : Int} (e : a = b) : Value.int k a = Value.int k b := by rw [e]
theorem boolE {a b : Bool} (e : a = b) : Value.bool a = Value.bool b := by rw [e]
theorem within_ok (n lo hi : Int) (h : AH) : FnT Try.prog 69 #[.int .i64 n, .int .i64 lo, .int .i64 hi] h (fun v _ => v = .bool (inM n lo hi)) := by
  refine call_body Try.func69 rfl Try.ntmps69 rfl ?_
  refine xp_seq ?_
  refine xp_region rfl ?_
  refine op_pure (pv_assign (v := .bool _) rfl) ?_
  refine xp_seq ?_
  refine xp_region rfl ?_
  refine op_pure (pv_move (v := .int .i64 _) rfl) ?_
  refine op_pure (pv_move (v := .int .i64 _) rfl) ?_
  refine op_pure (pv_of (v := .bool _) rfl) ?_
  refine op_pure (pv_move (v := .bool _) rfl) ?_
  refine guard_case rfl (fun hg1 => ?_) (fun hg1 => ?_)
  · replace hg1 : _ = true := hg1
    refine op_pure (pv_move (v := .int .i64 _) rfl) ?_
    refine guard_yes rfl hg1 ?_
    refine op_pure (pv_move (v := .int .i64 _) rfl) ?_
    refine guard_yes rfl hg1 ?_
    refine op_pure (pv_of (v := .bool _) rfl) ?_
    refine op_pure (pv_pickT rfl hg1 (v := .bool _) rfl) ?_
    refine op_pure (pv_assign (v := .bool _) rfl) ?_
    refine xp_ret ?_
    refine res_list (vs := [_]) Try.results69 ⟨resV_tmp rfl rfl, trivial⟩ fun V => ?_
    exact ⟨(ext_wl V), boolE (by simp_all [inM] <;> omega)⟩
  · replace hg1 : _ = false := hg1
    refine guard_no rfl hg1 ?_
    refine guard_no rfl hg1 ?_
    refine op_pure (pv_pickF rfl hg1 (v := .bool _) rfl) ?_
    refine op_pure (pv_assign (v := .bool _) rfl) ?_
    refine xp_ret ?_
    refine res_list (vs := [_]) Try.results69 ⟨resV_tmp rfl rfl, trivial⟩ fun V => ?_
    exact ⟨(ext_wl V), boolE (by simp_all [inM] <;> omega)⟩
theorem checkSet_ok (l : List Int) (below : Int) (hb : -100 ≤ below ∧ below ≤ 2 ^ 40) (A : Option Addr) (c : Nat) (h : AH) (R : Row h 1 intC A l) (hl : l.length < 2 ^ 40) :
    FnT Try.prog 42 #[.slice A l.length c, .int .i64 below] h (fun v _ => v = .int .i64 (checkSetM l below)) := by
  refine call_body Try.func42 rfl Try.ntmps42 rfl ?_
  refine xp_seq ?_
  refine xp_region rfl ?_
  refine op_pure (pv_assign (v := .int .i64 _) rfl) ?_
  refine xp_seq ?_
  refine xp_seq ?_
  refine xp_region rfl ?_
  refine op_pure (pv_move (v := .slice _ _ _) rfl) ?_
  refine op_pure (pv_len rfl rfl) ?_
  refine op_pure (pv_move (v := .int .i64 _) rfl) ?_
  refine xp_block ?_
  refine xp_loopB [4, 5, 6, 9, 10, 11, 12, 13, 14, 15, 16, 17, 18, 19, 20, 21, 22, 23, 24, 25, 26, 27, 28, 29, 30, 31, 32] 0 (α := Nat) (fun k => [(9, .int .i64 k)]) (fun k => _) (fun k h_k => k ≤ l.length ∧ firstErr (setAt below l) ((List.range l.length).take k) = 0) (fun k => l.length - k) (0) ⟨rfl, trivial⟩ (rfl) (⟨Nat.zero_le _, rfl⟩) ?_
  rintro k T1 h_k E_k J_k
  refine goes_norm [] rfl ?_
  obtain ⟨K1, K2⟩ := J_k
  refine xp_seq ?_
  refine xp_region rfl ?_
  refine op_pure (pv_of (v := .bool _) rfl) ?_
  refine xp_seq ?_
  refine xp_cond rfl (fun hk => ?_) (fun hk => ?_)
  · skip
    have hkl : k < l.length := ltI hk
    have hkr : k < (List.range l.length).length := by simpa using hkl
    have hre : (List.range l.length)[k] = k := by simp
    obtain ⟨g, off, hA, hc⟩ := (R.ext E_k).at (by omega) hkl
    refine xp_skip ?_
    refine xp_seq ?_
    refine xp_block ?_
    refine xp_seq ?_
    refine xp_region rfl ?_
    refine op_pure (pv_move (v := .int .i64 _) rfl) ?_
    refine op_pure (pv_indexE rfl hA rfl rfl rfl (by omega) (by omega)) ?_
    refine op_load (v := .int .i64 _) rfl rfl ((hc) 0 _ rfl) ?_
    refine op_pure (pv_assign (v := .int .i64 _) rfl) ?_
    refine op_pure (pv_assign (v := .int .i64 _) rfl) ?_
    refine xp_block ?_
    refine xp_seq ?_
    refine xp_region rfl ?_
    refine op_pure (pv_move (v := .int .i64 _) rfl) ?_
    refine op_pure (pv_move (v := .int .i64 _) rfl) ?_
    refine op_pure (pv_arith rfl (by omega)) ?_
    refine op_fn (caps := []) (vs := [.int .i64 _, .int .i64 _, .int .i64 _]) rfl rfl rfl (within_ok _ _ _ h_k) ?_
    rintro _ h1 E1 rfl
    refine op_pure (pv_of (v := .bool _) rfl) ?_
    refine op_pure (pv_assign (v := .bool _) rfl) ?_
    refine xp_cond rfl (fun hw => ?_) (fun hw => ?_)
    · skip
      refine xp_seq ?_
      refine xp_region rfl ?_
      refine op_pure (pv_assign (v := .int .i64 _) rfl) ?_
      refine xp_ret ?_
      refine res_list (vs := [_]) Try.results42 ⟨resV_tmp rfl rfl, trivial⟩ fun V => ?_
      refine ⟨(Ext.trans (Ext.trans E_k E1) (ext_wl V)), intE ?_⟩
      rw [checkSetM, firstErr_stop hkr K2 (by rw [hre, setAt, getD_get hkl, if_pos hw]; decide), hre, setAt, getD_get hkl, if_pos hw]
    · skip
      rcases Nat.eq_zero_or_pos k with h0 | h0
      · subst h0
        refine xp_seq ?_
        refine xp_region rfl ?_
        refine op_pure (pv_move (v := .int .i64 _) rfl) ?_
        refine op_pure (pv_of (v := .bool _) rfl) ?_
        refine op_pure (pv_move (v := .bool _) rfl) ?_
        refine guard_no rfl rfl ?_
        refine guard_no rfl rfl ?_
        refine guard_no rfl rfl ?_
        refine guard_no rfl rfl ?_
        refine guard_no rfl rfl ?_
        refine guard_no rfl rfl ?_
        refine guard_no rfl rfl ?_
        refine op_pure (pv_pickF rfl rfl (v := .bool _) rfl) ?_
        refine op_pure (pv_assign (v := .bool _) rfl) ?_
        refine xp_condF rfl (rfl) ?_
        refine xp_skip ?_
        refine xp_region rfl ?_
        refine op_pure (pv_arith rfl (by omega)) ?_
        refine op_pure (pv_move (v := .int .i64 _) rfl) ?_
        refine ⟨1, ⟨rfl, trivial⟩, rfl, rfl, (Ext.trans E_k E1), fun h3 E3 => ⟨hkl, firstErr_go hkr K2 (by rw [hre, setAt, getD_get hkl, if_neg (by simpa using hw), if_neg (by omega)])⟩, by first | omega | (dsimp only; omega), ?_⟩
        repeat (first | exact off_base _ _ _ | refine off_upd (by decide) ?_ | refine off_updL rfl ?_ | refine off_mix rfl ?_)
      · skip
        have hd : decide ((k : Int) > 0) = true := by simp; omega
        have hkp : k - 1 < l.length := by omega
        obtain ⟨g2, off2, hA2, hc2⟩ := (R.ext (Ext.trans E_k E1)).at (by omega) hkp
        have e2 : ((k : Int) - 1).toNat = k - 1 := by omega
        have hc3 : Cells h1 g2 (off2 + ((k : Int) - 1).toNat * 1) (intC l[k - 1]) := by rw [e2]; exact hc2
        refine xp_seq ?_
        refine xp_region rfl ?_
        refine op_pure (pv_move (v := .int .i64 _) rfl) ?_
        refine op_pure (pv_of (v := .bool _) rfl) ?_
        refine op_pure (pv_move (v := .bool _) rfl) ?_
        refine guard_yes rfl hd ?_
        refine op_pure (pv_move (v := .int .i64 _) rfl) ?_
        refine guard_yes rfl hd ?_
        refine op_pure (pv_move (v := .slice _ _ _) rfl) ?_
        refine guard_yes rfl hd ?_
        refine op_pure (pv_move (v := .int .i64 _) rfl) ?_
        refine guard_yes rfl hd ?_
        refine op_pure (pv_arith rfl (by omega)) ?_
        refine guard_yes rfl hd ?_
        refine op_pure (pv_indexE rfl hA2 rfl rfl rfl (by omega) (by omega)) ?_
        refine guard_yes rfl hd ?_
        refine op_load (v := .int .i64 _) rfl rfl ((hc3) 0 _ rfl) ?_
        refine guard_yes rfl hd ?_
        refine op_pure (pv_of (v := .bool _) rfl) ?_
        refine op_pure (pv_pickT rfl hd (v := .bool _) rfl) ?_
        refine op_pure (pv_assign (v := .bool _) rfl) ?_
        refine xp_cond rfl (fun hq => ?_) (fun hq => ?_)
        · skip
          refine xp_seq ?_
          refine xp_region rfl ?_
          refine op_pure (pv_assign (v := .int .i64 _) rfl) ?_
          refine xp_ret ?_
          refine res_list (vs := [_]) Try.results42 ⟨resV_tmp rfl rfl, trivial⟩ fun V => ?_
          refine ⟨(Ext.trans (Ext.trans E_k E1) (ext_wl V)), intE ?_⟩
          have e5 : setAt below l k = 5 := by rw [setAt, getD_get hkl, getD_get hkp, if_neg (by simpa using hw), if_pos ⟨h0, by simpa using hq⟩]
          rw [checkSetM, firstErr_stop hkr K2 (by rw [hre, e5]; decide), hre, e5]
        · skip
          refine xp_skip ?_
          refine xp_region rfl ?_
          refine op_pure (pv_arith rfl (by omega)) ?_
          refine op_pure (pv_move (v := .int .i64 _) rfl) ?_
          refine ⟨k + 1, ⟨rfl, trivial⟩, rfl, rfl, (Ext.trans E_k E1), fun h3 E3 => ⟨hkl, firstErr_go hkr K2 (by rw [hre, setAt, getD_get hkl, getD_get hkp, if_neg (by simpa using hw), if_neg (by rintro ⟨_, h5⟩; simp at hq; omega)])⟩, by first | omega | (dsimp only; omega), ?_⟩
          repeat (first | exact off_base _ _ _ | refine off_upd (by decide) ?_ | refine off_updL rfl ?_ | refine off_mix rfl ?_)
  · skip
    have hke : k = l.length := by have := geI hk; omega
    refine xp_exit ?_
    refine xp_seq ?_
    refine xp_region rfl ?_
    refine op_pure (pv_assign (v := .int .i64 _) rfl) ?_
    refine xp_ret ?_
    refine res_list (vs := [_]) Try.results42 ⟨resV_tmp rfl rfl, trivial⟩ fun V => ?_
    refine ⟨(Ext.trans E_k (ext_wl V)), intE ?_⟩
    rw [List.take_of_length_le (by simp [hke])] at K2
    exact K2.symm
end Go.Proofs.Ytlfbcimcehcomaa
/- Walks of package voice: beats, what they are off, the checks of sounds. Conditions: as each theorem states. -/
namespace Go.HL
open Go
variable [Lvl]
section
variable {P : Program} {n : Nat} {d : Option Tmp} {ty : TypeId} {ps : String} {af : Array Edge} {S : Sl}
theorem max2_int {q q' : IntKind} (a b : Int) : pev P (Builtin.max2 (.int q a) (.int q' b)) = some (.int q (max a b)) := by
  rw [show max a b = if b > a then b else a from by split <;> omega]
  rfl
theorem pv_max3 {x y z : Operand} {ats : Array TypeId} {q q' q2 : IntKind} {a b c : Int} (hx : ev n S x = .int q a) (hy : ev n S y = .int q' b) (hz : ev n S z = .int q2 c) : pev P (execOp (ev n S) ⟨d, .call ⟨.builtin .max, #[x, y, z], ats⟩, ty, ps, af, none⟩) = some (.value (.int q (max (max a b) c))) := by
  rw [exec_builtin (xs := [x, y, z]) (vs := [.int q a, .int q' b, .int q2 c]) (by simp [hx, hy, hz])]
  refine (pev_bind (a := .int q (max (max a b) c)) ?_).trans rfl
  show pev P ([Value.int q' b, .int q2 c].foldlM Builtin.max2 (.int q a)) = _
  rw [List.foldlM_cons, pev_mbind (max2_int a b), List.foldlM_cons, pev_mbind (max2_int (max a b) c)]
  rfl
end
end Go.HL
namespace Go.Proofs.Ytlfbcimcehcomaa
open Go Go.HL Go.Proofs Go.Wx Go.Rd Go.Vo
section
variable [Lvl]
set_option maxRecDepth 100000
theorem vIn_ok (a lo hi : Int) (h : AH) : FnT Try.prog 65 #[.int .i64 a, .int .i64 lo, .int .i64 hi] h (fun v _ => v = .bool (decide (lo ≤ a) && decide (a ≤ hi))) := by
  refine call_body Try.func65 rfl Try.ntmps65 rfl ?_
  refine xp_seq ?_
  refine xp_region rfl ?_
  refine op_pure (pv_assign (v := .bool _) rfl) ?_
  refine xp_seq ?_
  refine xp_region rfl ?_
  refine op_pure (pv_move (v := .int .i64 _) rfl) ?_
  refine op_pure (pv_move (v := .int .i64 _) rfl) ?_
  refine op_pure (pv_of (v := .bool _) rfl) ?_
  refine op_pure (pv_move (v := .bool _) rfl) ?_
  by_cases hc : lo ≤ a
  · have hb : decide (lo ≤ a) = true := by simpa using hc
    refine guard_yes rfl hb ?_
    refine op_pure (pv_move (v := .int .i64 _) rfl) ?_
    refine guard_yes rfl hb ?_
    refine op_pure (pv_move (v := .int .i64 _) rfl) ?_
    refine guard_yes rfl hb ?_
    refine op_pure (pv_of (v := .bool _) rfl) ?_
    refine op_pure (pv_pickT rfl hb (v := .bool _) rfl) ?_
    refine op_pure (pv_assign (v := .bool _) rfl) ?_
    refine xp_ret ?_
    refine res_list (vs := [_]) Try.results65 ⟨resV_tmp rfl rfl, trivial⟩ fun V => ?_
    exact ⟨ext_wl V, by simp [hc]; rfl⟩
  · have hb : decide (lo ≤ a) = false := by simpa using hc
    refine guard_no rfl hb ?_
    refine guard_no rfl hb ?_
    refine guard_no rfl hb ?_
    refine op_pure (pv_pickF rfl hb (v := .bool _) rfl) ?_
    refine op_pure (pv_assign (v := .bool _) rfl) ?_
    refine xp_ret ?_
    refine res_list (vs := [_]) Try.results65 ⟨resV_tmp rfl rfl, trivial⟩ fun V => ?_
    exact ⟨ext_wl V, by simp [hc]; rfl⟩
theorem vIn_yes {a lo hi : Int} (h1 : lo ≤ a) (h2 : a ≤ hi) (h : AH) : FnT Try.prog 65 #[.int .i64 a, .int .i64 lo, .int .i64 hi] h (fun v _ => v = .bool true) :=
  (vIn_ok a lo hi h).mono (fun _ _ r => ⟨r.1, r.2.trans (by rw [decide_eq_true h1, decide_eq_true h2]; rfl)⟩) fun _ _ y => y
theorem vTimes_ok (x : Rg) (n : Int) (hx : RgB 10000 x) (hn : 0 ≤ n ∧ n ≤ 3) (h : AH) : FnT Try.prog 125 #[rgW x, .int .i64 n] h (fun v _ => v = rgW (timesM x n)) := by
  obtain ⟨h1, h2, h3, h4⟩ := hx
  have m1 := mul_bd hn ⟨h1, h2⟩
  have m2 := mul_bd hn ⟨h3, h4⟩
  unfold rgW
  refine call_body Try.func125 rfl Try.ntmps125 rfl ?_
  refine xp_seq ?_
  refine xp_region rfl ?_
  refine op_box (v := .agg #[.int .i64 _, .int .i64 _]) (cs := [_, _]) rfl rfl fun b2 hb2 => ?_
  refine wp_norm [_] rfl ?_
  refine op_alloc (cs := [_, _]) rfl rfl fun b4 hb4 => ?_
  refine wp_norm [_, _] rfl ?_
  refine xp_seq ?_
  refine xp_region rfl ?_
  refine op_pure (pv_move (v := .int .i64 _) rfl) ?_
  refine op_pure (pv_fieldAddr rfl rfl rfl rfl 0 rfl) ?_
  refine op_loadP 0 (v := .int .i64 _) rfl rfl rfl rfl ?_
  refine op_pure (pv_arith rfl (by omega)) ?_
  refine op_pure (pv_move (v := .int .i64 _) rfl) ?_
  refine op_pure (pv_fieldAddr rfl rfl rfl rfl 1 rfl) ?_
  refine op_loadP 0 (v := .int .i64 _) rfl rfl rfl rfl ?_
  refine op_pure (pv_arith rfl (by omega)) ?_
  refine op_pure (pv_build (zc := [_, _]) (vs := [(0, .int .i64 _), (1, .int .i64 _)]) (cs := [_, _]) rfl rfl rfl rfl rfl rfl) ?_
  refine op_storeP 1 (v := .agg #[.int .i64 _, .int .i64 _]) (vs := [_, _]) (c' := [_, _]) rfl rfl rfl rfl rfl rfl rfl rfl rfl ?_
  refine wp_norm [_, _] rfl ?_
  refine xp_ret ?_
  refine res_list (vs := [_]) Try.results125 ⟨resV_agg 1 rfl rfl rfl rfl rfl (vs := [.int .i64 _, .int .i64 _]) rfl, trivial⟩ fun V => ?_
  exact ⟨(ext_wl V), rfl⟩
theorem vPlus_ok (x y : Rg) (hx : RgB 100000 x) (hy : RgB 100000 y) (h : AH) : FnT Try.prog 119 #[rgW x, rgW y] h (fun v _ => v = rgW (plusM x y)) := by
  obtain ⟨h1, h2, h3, h4⟩ := hx
  obtain ⟨h5, h6, h7, h8⟩ := hy
  unfold rgW
  refine call_body Try.func119 rfl Try.ntmps119 rfl ?_
  refine xp_seq ?_
  refine xp_region rfl ?_
  refine op_box (v := .agg #[.int .i64 _, .int .i64 _]) (cs := [_, _]) rfl rfl fun b2 hb2 => ?_
  refine wp_norm [_] rfl ?_
  refine op_box (v := .agg #[.int .i64 _, .int .i64 _]) (cs := [_, _]) rfl rfl fun b3 hb3 => ?_
  refine wp_norm [_, _] rfl ?_
  refine op_alloc (cs := [_, _]) rfl rfl fun b4 hb4 => ?_
  refine wp_norm [_, _, _] rfl ?_
  refine xp_seq ?_
  refine xp_region rfl ?_
  refine op_pure (pv_fieldAddr rfl rfl rfl rfl 0 rfl) ?_
  refine op_loadP 0 (v := .int .i64 _) rfl rfl rfl rfl ?_
  refine op_pure (pv_fieldAddr rfl rfl rfl rfl 0 rfl) ?_
  refine op_loadP 1 (v := .int .i64 _) rfl rfl rfl rfl ?_
  refine op_pure (pv_arith rfl (by omega)) ?_
  refine op_pure (pv_fieldAddr rfl rfl rfl rfl 1 rfl) ?_
  refine op_loadP 0 (v := .int .i64 _) rfl rfl rfl rfl ?_
  refine op_pure (pv_fieldAddr rfl rfl rfl rfl 1 rfl) ?_
  refine op_loadP 1 (v := .int .i64 _) rfl rfl rfl rfl ?_
  refine op_pure (pv_arith rfl (by omega)) ?_
  refine op_pure (pv_build (zc := [_, _]) (vs := [(0, .int .i64 _), (1, .int .i64 _)]) (cs := [_, _]) rfl rfl rfl rfl rfl rfl) ?_
  refine op_storeP 2 (v := .agg #[.int .i64 _, .int .i64 _]) (vs := [_, _]) (c' := [_, _]) rfl rfl rfl rfl rfl rfl rfl rfl rfl ?_
  refine wp_norm [_, _, _] rfl ?_
  refine xp_ret ?_
  refine res_list (vs := [_]) Try.results119 ⟨resV_agg 2 rfl rfl rfl rfl rfl (vs := [.int .i64 _, .int .i64 _]) rfl, trivial⟩ fun V => ?_
  exact ⟨(ext_wl V), rfl⟩
theorem vLess_ok (x y : Rg) (hx : RgB 100000 x) (hy : RgB 100000 y) (h : AH) : FnT Try.prog 124 #[rgW x, rgW y] h (fun v _ => v = rgW (lessM x y)) := by
  obtain ⟨h1, h2, h3, h4⟩ := hx
  obtain ⟨h5, h6, h7, h8⟩ := hy
  unfold rgW
  refine call_body Try.func124 rfl Try.ntmps124 rfl ?_
  refine xp_seq ?_
  refine xp_region rfl ?_
  refine op_box (v := .agg #[.int .i64 _, .int .i64 _]) (cs := [_, _]) rfl rfl fun b2 hb2 => ?_
  refine wp_norm [_] rfl ?_
  refine op_box (v := .agg #[.int .i64 _, .int .i64 _]) (cs := [_, _]) rfl rfl fun b3 hb3 => ?_
  refine wp_norm [_, _] rfl ?_
  refine op_alloc (cs := [_, _]) rfl rfl fun b4 hb4 => ?_
  refine wp_norm [_, _, _] rfl ?_
  refine xp_seq ?_
  refine xp_region rfl ?_
  refine op_pure (pv_fieldAddr rfl rfl rfl rfl 0 rfl) ?_
  refine op_loadP 0 (v := .int .i64 _) rfl rfl rfl rfl ?_
  refine op_pure (pv_fieldAddr rfl rfl rfl rfl 1 rfl) ?_
  refine op_loadP 1 (v := .int .i64 _) rfl rfl rfl rfl ?_
  refine op_pure (pv_arith rfl (by omega)) ?_
  refine op_pure (pv_fieldAddr rfl rfl rfl rfl 1 rfl) ?_
  refine op_loadP 0 (v := .int .i64 _) rfl rfl rfl rfl ?_
  refine op_pure (pv_fieldAddr rfl rfl rfl rfl 0 rfl) ?_
  refine op_loadP 1 (v := .int .i64 _) rfl rfl rfl rfl ?_
  refine op_pure (pv_arith rfl (by omega)) ?_
  refine op_pure (pv_build (zc := [_, _]) (vs := [(0, .int .i64 _), (1, .int .i64 _)]) (cs := [_, _]) rfl rfl rfl rfl rfl rfl) ?_
  refine op_storeP 2 (v := .agg #[.int .i64 _, .int .i64 _]) (vs := [_, _]) (c' := [_, _]) rfl rfl rfl rfl rfl rfl rfl rfl rfl ?_
  refine wp_norm [_, _, _] rfl ?_
  refine xp_ret ?_
  refine res_list (vs := [_]) Try.results124 ⟨resV_agg 2 rfl rfl rfl rfl rfl (vs := [.int .i64 _, .int .i64 _]) rfl, trivial⟩ fun V => ?_
  exact ⟨(ext_wl V), rfl⟩
theorem rise_ok (low high : SndP) (L : SndB low) (H : SndB high) (p : Int) (hp : 0 ≤ p ∧ p ≤ 3) (h : AH) : FnT Try.prog 120 #[sndV low, sndV high, .int .i64 p] h (fun v _ => v = rgW (riseM low high p)) := by
  obtain ⟨a1, a2, a3, a4, a5, a6⟩ := L
  obtain ⟨b1, b2, b3, b4, b5, b6⟩ := H
  have m1 := mul_bd hp (show -3 ≤ low.slope.mn ∧ low.slope.mn ≤ 3 by omega)
  have m2 := mul_bd hp (show -3 ≤ low.slope.mx ∧ low.slope.mx ≤ 3 by omega)
  have m3 := mul_bd hp (show -3 ≤ high.slope.mn ∧ high.slope.mn ≤ 3 by omega)
  have m4 := mul_bd hp (show -3 ≤ high.slope.mx ∧ high.slope.mx ≤ 3 by omega)
  unfold sndV
  refine call_body Try.func120 rfl Try.ntmps120 rfl ?_
  refine xp_seq ?_
  refine xp_region rfl ?_
  refine op_box (v := .agg #[.int .i64 _, .int .i64 _, .int .i64 _, .int .i64 _]) (cs := [_, _, _, _]) rfl rfl fun b3 hb3 => ?_
  refine wp_norm [_] rfl ?_
  refine op_box (v := .agg #[.int .i64 _, .int .i64 _, .int .i64 _, .int .i64 _]) (cs := [_, _, _, _]) rfl rfl fun b4 hb4 => ?_
  refine wp_norm [_, _] rfl ?_
  refine op_alloc (cs := [_, _]) rfl rfl fun b6 hb6 => ?_
  refine wp_norm [_, _, _] rfl ?_
  refine xp_seq ?_
  refine xp_dw [] rfl rfl rfl ?_
  refine dw_pure (i := 0) rfl (by decide +kernel) (pv_fieldAddr rfl rfl rfl rfl 2 rfl) ?_
  refine dw_load (i := 1) rfl (by decide +kernel) ?_
  refine op_loadPA 1 (vs := [.int .i64 _, .int .i64 _]) rfl rfl rfl rfl rfl ?_
  refine dw_pure (i := 2) rfl (by decide +kernel) (pv_move (v := .int .i64 _) rfl) ?_
  refine dw_pure (i := 4) rfl (by decide +kernel) (pv_fieldAddr rfl rfl rfl rfl 0 rfl) ?_
  refine dw_load (i := 5) rfl (by decide +kernel) ?_
  refine op_loadPA 0 (vs := [.int .i64 _, .int .i64 _]) rfl rfl rfl rfl rfl ?_
  refine dw_pure (i := 6) rfl (by decide +kernel) (pv_fieldAddr rfl rfl rfl rfl 2 rfl) ?_
  refine dw_load (i := 7) rfl (by decide +kernel) ?_
  refine op_loadPA 0 (vs := [.int .i64 _, .int .i64 _]) rfl rfl rfl rfl rfl ?_
  refine dw_pure (i := 8) rfl (by decide +kernel) (pv_move (v := .int .i64 _) rfl) ?_
  refine dw_eff (i := 3) rfl (by decide +kernel) ?_
  refine op_fn (caps := []) (vs := [.agg #[.int .i64 high.slope.mn, .int .i64 high.slope.mx], .int .i64 p]) rfl rfl rfl (vTimes_ok high.slope p (by unfold RgB; omega) hp h) ?_
  rintro _ e1 E1 rfl
  refine ⟨ext_wlm E1 _, ?_⟩
  refine dw_eff (i := 9) rfl (by decide +kernel) ?_
  refine op_fn (caps := []) (vs := [.agg #[.int .i64 low.slope.mn, .int .i64 low.slope.mx], .int .i64 p]) rfl rfl rfl (vTimes_ok low.slope p (by unfold RgB; omega) hp e1) ?_
  rintro _ e2 E2 rfl
  refine ⟨ext_wlm E2 _, ?_⟩
  refine dw_last (i := 10) rfl (by decide +kernel) (by decide +kernel) ?_
  refine op_fn (caps := []) (vs := [.agg #[.int .i64 low.tone.mn, .int .i64 low.tone.mx], rgW (timesM low.slope p)]) rfl rfl rfl (vPlus_ok low.tone (timesM low.slope p) (by unfold RgB; omega) (by unfold RgB timesM; dsimp only; omega) e2) ?_
  rintro _ e3 E3 rfl
  refine dw_last (i := 11) rfl (by decide +kernel) (by decide +kernel) ?_
  refine op_fn (caps := []) (vs := [rgW (timesM high.slope p), rgW (plusM low.tone (timesM low.slope p))]) rfl rfl rfl (vLess_ok (timesM high.slope p) (plusM low.tone (timesM low.slope p)) (by unfold RgB timesM; dsimp only; omega) (by unfold RgB plusM timesM; dsimp only; omega) e3) ?_
  rintro _ e4 E4 rfl
  refine dw_last (i := 12) rfl (by decide +kernel) (by decide +kernel) ?_
  refine op_storeP 2 (v := .agg #[.int .i64 _, .int .i64 _]) (vs := [_, _]) (c' := [_, _]) rfl rfl rfl rfl rfl rfl rfl rfl rfl ?_
  refine dw_norm [_, _, _] rfl ?_
  refine dw_end rfl ?_
  refine xp_ret ?_
  refine res_list (vs := [_]) Try.results120 ⟨resV_agg 2 rfl rfl rfl rfl rfl (vs := [.int .i64 _, .int .i64 _]) rfl, trivial⟩ fun V => ?_
  exact ⟨(Ext.trans (Ext.trans (Ext.trans (Ext.trans E1 E2) E3) E4) (ext_wl V)), rfl⟩
end
end Go.Proofs.Ytlfbcimcehcomaa
/- Walks of package voice: beats, what they are off, whether they agree. Conditions: as each theorem states. -/
namespace Go.Proofs.Ytlfbcimcehcomaa
open Go Go.HL Go.Proofs Go.Wx Go.Rd Go.Vo
section
variable [Lvl]
set_option maxRecDepth 100000
theorem beats_ok (l : LawP) (hl : LawB l) (low high : SndP) (L : SndB low) (H : SndB high) (h : AH) : FnT Try.prog 98 #[lawV l, sndV low, sndV high] h (fun v h' => ∃ u, v = u ∧ SlR h' 2 rgC (beatsM l.press low high) u) := by
  have r0 := hl.r0
  have r1 := hl.r1
  have a1 := H.t0
  have a2 := H.t1
  have a3 := H.t2
  unfold lawV sndV
  refine call_body Try.func98 rfl Try.ntmps98 rfl ?_
  refine xp_seq ?_
  refine xp_region rfl ?_
  refine op_box (v := .agg #[.int .i64 _, .int .i64 _, .int .i64 _, .int .i64 _]) (cs := [_, _, _, _]) rfl rfl fun b3 hb3 => ?_
  refine wp_norm [_] rfl ?_
  refine op_box (v := .agg #[.int .i64 _, .int .i64 _, .int .i64 _, .int .i64 _]) (cs := [_, _, _, _]) rfl rfl fun b4 hb4 => ?_
  refine wp_norm [_, _] rfl ?_
  refine op_box (v := .agg #[.int .i64 _, .int .i64 _, .int .i64 _, .int .i64 _]) (cs := [_, _, _, _]) rfl rfl fun b5 hb5 => ?_
  refine wp_norm [_, _, _] rfl ?_
  refine op_pure (pv_assign (v := .slice _ _ _) rfl) ?_
  refine xp_seq ?_
  refine xp_region rfl ?_
  refine op_pure (pv_assign (v := .slice _ _ _) rfl) ?_
  refine xp_seq ?_
  refine xp_seq ?_
  refine xp_region rfl ?_
  refine op_pure (pv_fieldAddr rfl rfl rfl rfl 3 rfl) ?_
  refine op_loadP 0 (v := .int .i64 _) rfl rfl rfl rfl ?_
  refine op_pure (pv_arith rfl (by omega)) ?_
  refine op_pure (pv_move (v := .int .i64 _) rfl) ?_
  refine xp_block ?_
  refine goes_more ?_
  refine goes_norm [_, _, _, _] rfl ?_
  refine xp_loopL [7, 8, 12, 13, 14, 15, 16, 17, 18, 19, 20, 21, 22, 23, 24, 25] 4 (α := Nat × Acc) (fun ⟨p, a⟩ => [(12, .int .i64 p), (7, .slice a.A a.n a.c)]) (fun ⟨p, a⟩ L => L.set 3 (a.p)) (fun ⟨p, a⟩ h_p => (p : Int) ≤ l.press + 1 ∧ AccR 58 2 (((List.range p).map (beatR low high)).flatMap rgC) a) (fun ⟨p, a⟩ => (l.press + 1 - (p : Int)).toNat) ((0, acc0)) ⟨rfl, rfl, trivial⟩ (rfl) (⟨by omega, accR0⟩) ?_
  rintro ⟨p, a⟩ T1 h_p E_p J_p
  refine goes_norm [_, _, _, _] rfl ?_
  obtain ⟨K1, K2⟩ := J_p
  refine xp_seq ?_
  refine xp_region rfl ?_
  refine op_pure (pv_of (v := .bool _) rfl) ?_
  refine xp_seq ?_
  refine xp_cond rfl (fun hp => ?_) (fun hp => ?_)
  · skip
    have hpl : (p : Int) < l.press + 1 := of_decide_eq_true hp
    refine xp_skip ?_
    refine xp_seq ?_
    refine xp_block ?_
    refine xp_seq ?_
    refine xp_region rfl ?_
    refine op_pure (pv_move (v := .int .i64 _) rfl) ?_
    refine op_pure (pv_assign (v := .int .i64 _) rfl) ?_
    refine xp_dw [] rfl rfl rfl ?_
    refine dw_pure (i := 0) rfl (by decide +kernel) (pv_move (v := .slice _ _ _) rfl) ?_
    refine dw_pure (i := 1) rfl (by decide +kernel) (pv_fieldAddr rfl rfl rfl rfl 0 rfl) ?_
    refine dw_load (i := 2) rfl (by decide +kernel) ?_
    refine op_loadPA 2 (vs := [.int .i64 _, .int .i64 _]) rfl rfl rfl rfl rfl ?_
    refine dw_load (i := 3) rfl (by decide +kernel) ?_
    refine op_loadPA 1 (vs := [.int .i64 _, .int .i64 _, .int .i64 _, .int .i64 _]) rfl rfl rfl rfl rfl ?_
    refine dw_load (i := 4) rfl (by decide +kernel) ?_
    refine op_loadPA 2 (vs := [.int .i64 _, .int .i64 _, .int .i64 _, .int .i64 _]) rfl rfl rfl rfl rfl ?_
    refine dw_pure (i := 5) rfl (by decide +kernel) (pv_move (v := .int .i64 _) rfl) ?_
    refine dw_eff (i := 6) rfl (by decide +kernel) ?_
    refine op_fn (caps := []) (vs := [sndV low, sndV high, .int .i64 (p : Int)]) rfl rfl rfl (rise_ok low high L H (p : Int) (by omega) h_p) ?_
    rintro _ e1 E1 rfl
    refine ⟨ext_wlm E1 _, ?_⟩
    obtain ⟨rb1, rb2, rb3, rb4⟩ := beat_bd L H (show p ≤ 3 by omega)
    have hh : beatR low high p = plusM high.tone (riseM low high p) := rfl
    have d1 : (beatR low high p).mn = high.tone.mn + (riseM low high p).mn := rfl
    have d2 : (beatR low high p).mx = high.tone.mx + (riseM low high p).mx := rfl
    refine dw_last (i := 7) rfl (by decide +kernel) (by decide +kernel) ?_
    refine op_fn (caps := []) (vs := [rgW high.tone, rgW (riseM low high (p : Int))]) rfl rfl rfl (vPlus_ok high.tone (riseM low high (p : Int)) (by unfold RgB; omega) (by unfold RgB; omega) e1) ?_
    rintro _ e2 E2 rfl
    refine dw_last (i := 8) rfl (by decide +kernel) (by decide +kernel) ?_
    refine op_buildSlice (zc := [_, _]) (vs := [(0, .agg #[.int .i64 _, .int .i64 _])]) (cs := [_, _]) rfl rfl rfl rfl rfl rfl rfl fun b23 hb23 => ?_
    refine dw_norm [_, _, _, _, _] rfl ?_
    refine dw_last (i := 9) rfl (by decide +kernel) (by decide +kernel) ?_
    refine op_appendR 3 K2 rfl rfl rfl (fun V => rdP V (i := 4) rfl) rfl rfl rfl rfl rfl rfl rfl rfl rfl (by omega) rfl (by rw [flat_len (m := 2) (fun _ _ => rfl)]; simp; omega) fun a2 h2a E2a ha2 => ?_
    refine dw_norm [_, _, _, _, _] rfl ?_
    refine dw_pure (i := 10) rfl (by decide +kernel) (pv_assign (v := .slice _ _ _) rfl) ?_
    refine dw_end rfl ?_
    refine xp_region rfl ?_
    refine op_pure (pv_arith rfl (by omega)) ?_
    refine op_pure (pv_move (v := .int .i64 _) rfl) ?_
    refine ⟨(p + 1, a2), ⟨rfl, rfl, trivial⟩, rfl, rfl, (Ext.trans (Ext.trans (Ext.trans E_p E1) E2) E2a), fun h3 E3 => ⟨by push_cast; omega, by rw [List.range_succ, List.map_append, List.flatMap_append]; exact ha2⟩, by first | omega | (dsimp only; omega), ?_⟩
    repeat (first | exact off_base _ _ _ | refine off_upd (by decide) ?_ | refine off_updL rfl ?_ | refine off_mix rfl ?_)
  · skip
    have hpe : p = (l.press + 1).toNat := by have := of_decide_eq_false hp; omega
    subst hpe
    refine xp_exit ?_
    refine xp_seq ?_
    refine xp_region rfl ?_
    refine op_pure (pv_move (v := .slice _ _ _) rfl) ?_
    refine op_pure (pv_assign (v := .slice _ _ _) rfl) ?_
    refine xp_ret ?_
    refine res_list (vs := [_]) Try.results98 ⟨resV_tmp rfl rfl, trivial⟩ fun V => ?_
    exact ⟨(Ext.trans E_p (ext_wl V)), _, rfl, AccP.row (i := 3) K2 (by omega) (fun _ _ => rfl) V rfl⟩
theorem off_ok (l : LawP) (hl : LawB l) (due : Int) (hd : 0 ≤ due ∧ due ≤ 30) (low high : SndP) (L : SndB low) (H : SndB high) (h : AH) : FnT Try.prog 67 #[lawV l, .int .i64 due, sndV low, sndV high] h (fun v _ => v = .int .i64 (offM l.press due low high)) := by
  have r0 := hl.r0
  have r1 := hl.r1
  unfold lawV sndV
  refine call_body Try.func67 rfl Try.ntmps67 rfl ?_
  refine xp_seq ?_
  refine xp_region rfl ?_
  refine op_box (v := .agg #[.int .i64 _, .int .i64 _, .int .i64 _, .int .i64 _]) (cs := [_, _, _, _]) rfl rfl fun b4 hb4 => ?_
  refine wp_norm [_] rfl ?_
  refine op_box (v := .agg #[.int .i64 _, .int .i64 _, .int .i64 _, .int .i64 _]) (cs := [_, _, _, _]) rfl rfl fun b6 hb6 => ?_
  refine wp_norm [_, _] rfl ?_
  refine op_box (v := .agg #[.int .i64 _, .int .i64 _, .int .i64 _, .int .i64 _]) (cs := [_, _, _, _]) rfl rfl fun b7 hb7 => ?_
  refine wp_norm [_, _, _] rfl ?_
  refine op_pure (pv_assign (v := .int .i64 _) rfl) ?_
  refine xp_seq ?_
  refine xp_region rfl ?_
  refine op_pure (pv_assign (v := .int .i64 _) rfl) ?_
  refine xp_seq ?_
  refine xp_seq ?_
  refine xp_region rfl ?_
  refine op_loadPA 0 (vs := [.int .i64 _, .int .i64 _, .int .i64 _, .int .i64 _]) rfl rfl rfl rfl rfl ?_
  refine op_loadPA 1 (vs := [.int .i64 _, .int .i64 _, .int .i64 _, .int .i64 _]) rfl rfl rfl rfl rfl ?_
  refine op_loadPA 2 (vs := [.int .i64 _, .int .i64 _, .int .i64 _, .int .i64 _]) rfl rfl rfl rfl rfl ?_
  refine op_fn (caps := []) (vs := [lawV l, sndV low, sndV high]) rfl rfl rfl (beats_ok l hl low high L H h) ?_
  rintro _ e1 E1 ⟨_, rfl, A, c, rfl, RB⟩
  have bl : (beatsM l.press low high).length ≤ 4 := by unfold beatsM; rw [List.length_map, List.length_range]; omega
  have bb := beatsM_bd L H (press := l.press) (by omega)
  refine op_pure (pv_len rfl rfl) ?_
  refine op_pure (pv_move (v := .int .i64 _) rfl) ?_
  refine xp_block ?_
  refine xp_loopB [9, 11, 17, 18, 19, 20, 21, 22, 23, 24, 25, 26, 27, 28, 29, 30, 31] 3 (α := Nat × Int) (fun ⟨k, n⟩ => [(17, .int .i64 k), (9, .int .i64 n)]) (fun ⟨k, n⟩ => _) (fun ⟨k, n⟩ h_k => k ≤ (beatsM l.press low high).length ∧ n = ((beatsM l.press low high).take k).foldl (offS due) 0) (fun ⟨k, n⟩ => (beatsM l.press low high).length - k) ((0, 0)) ⟨rfl, rfl, trivial⟩ (rfl) (⟨Nat.zero_le _, rfl⟩) ?_
  rintro ⟨k, n⟩ T1 h_k E_k J_k
  refine goes_norm [_, _, _] rfl ?_
  obtain ⟨K1, K2⟩ := J_k
  refine xp_seq ?_
  refine xp_region rfl ?_
  refine op_pure (pv_of (v := .bool _) rfl) ?_
  refine xp_seq ?_
  refine xp_cond rfl (fun hk => ?_) (fun hk => ?_)
  · skip
    have hkl : k < (beatsM l.press low high).length := ltI hk
    obtain ⟨g, off, hA, hc⟩ := (RB.ext E_k).at (by omega) hkl
    obtain ⟨b1, b2, b3, b4⟩ := bb _ (List.getElem_mem hkl)
    generalize hx : (beatsM l.press low high)[k] = x at *
    refine xp_skip ?_
    refine xp_seq ?_
    refine xp_block ?_
    refine xp_seq ?_
    refine xp_region rfl ?_
    refine op_pure (pv_indexE rfl hA rfl rfl rfl (by omega) (by omega)) ?_
    refine op_loadA rfl rfl rfl rfl (hc) ?_
    refine op_alloc (cs := [_, _]) rfl rfl fun b11 hb11 => ?_
    refine wp_norm [_, _, _, _] rfl ?_
    refine op_storeP 3 (v := .agg #[.int .i64 _, .int .i64 _]) (vs := [_, _]) (c' := [_, _]) rfl rfl rfl rfl rfl rfl rfl rfl rfl ?_
    refine wp_norm [_, _, _, _] rfl ?_
    refine xp_region rfl ?_
    refine op_pure (pv_move (v := .int .i64 _) rfl) ?_
    refine op_pure (pv_move (v := .int .i64 _) rfl) ?_
    refine op_pure (pv_fieldAddr rfl rfl rfl rfl 0 rfl) ?_
    refine op_loadP 3 (v := .int .i64 _) rfl rfl rfl rfl ?_
    refine op_pure (pv_arith rfl (by omega)) ?_
    refine op_pure (pv_fieldAddr rfl rfl rfl rfl 1 rfl) ?_
    refine op_loadP 3 (v := .int .i64 _) rfl rfl rfl rfl ?_
    refine op_pure (pv_move (v := .int .i64 _) rfl) ?_
    refine op_pure (pv_arith rfl (by omega)) ?_
    refine op_pure (pv_max3 rfl rfl rfl) ?_
    refine op_pure (pv_assign (v := .int .i64 _) rfl) ?_
    refine xp_region rfl ?_
    refine op_pure (pv_arith rfl (by omega)) ?_
    refine op_pure (pv_move (v := .int .i64 _) rfl) ?_
    refine ⟨(k + 1, max (max n (due - x.mn)) (x.mx - due)), ⟨rfl, rfl, trivial⟩, rfl, rfl, E_k, fun h3 E3 => ⟨hkl, by rw [take_snoc hkl, List.foldl_append, ← K2, hx]; rfl⟩, by first | omega | (dsimp only; omega), ?_⟩
    repeat (first | exact off_base _ _ _ | refine off_upd (by decide) ?_ | refine off_updL rfl ?_ | refine off_mix rfl ?_)
  · skip
    have hke : k = (beatsM l.press low high).length := by have := geI hk; omega
    subst hke
    refine xp_exit ?_
    refine xp_seq ?_
    refine xp_region rfl ?_
    refine op_pure (pv_move (v := .int .i64 _) rfl) ?_
    refine op_pure (pv_assign (v := .int .i64 _) rfl) ?_
    refine xp_ret ?_
    refine res_list (vs := [_]) Try.results67 ⟨resV_tmp rfl rfl, trivial⟩ fun V => ?_
    exact ⟨(Ext.trans (Ext.trans E1 E_k) (ext_wl V)), by rw [K2, List.take_length]; rfl⟩
theorem agree_ok (l : LawP) (hl : LawB l) (due beat slope : Int) (hd : 0 ≤ due ∧ due ≤ 30) (hb : -1000 ≤ beat ∧ beat ≤ 1000) (hs : -1000 ≤ slope ∧ slope ≤ 1000) (h : AH) : FnT Try.prog 68 #[lawV l, .int .i64 due, .int .i64 beat, .int .i64 slope] h (fun v _ => v = .bool (agreeM l due beat slope)) := by
  have r0 := hl.r0
  have r1 := hl.r1
  have p0 := hl.p0
  have p1 := hl.p1
  unfold lawV
  refine call_body Try.func68 rfl Try.ntmps68 rfl ?_
  refine xp_seq ?_
  refine xp_region rfl ?_
  refine op_box (v := .agg #[.int .i64 _, .int .i64 _, .int .i64 _, .int .i64 _]) (cs := [_, _, _, _]) rfl rfl fun b4 hb4 => ?_
  refine wp_norm [_] rfl ?_
  refine op_pure (pv_assign (v := .bool _) rfl) ?_
  refine xp_seq ?_
  refine xp_seq ?_
  refine xp_region rfl ?_
  refine op_pure (pv_fieldAddr rfl rfl rfl rfl 3 rfl) ?_
  refine op_loadP 0 (v := .int .i64 _) rfl rfl rfl rfl ?_
  refine op_pure (pv_arith rfl (by omega)) ?_
  refine op_pure (pv_move (v := .int .i64 _) rfl) ?_
  refine xp_block ?_
  refine xp_loopB [8, 9, 13, 14, 15, 16, 17, 18, 19, 20, 21, 22, 23, 24, 25, 26, 27, 28, 29, 30] 1 (α := Nat) (fun p => [(13, .int .i64 p)]) (fun p => _) (fun p h_p => (p : Int) ≤ l.press + 1 ∧ agreeN l.span due beat slope p = true) (fun p => (l.press + 1 - (p : Int)).toNat) (0) ⟨rfl, trivial⟩ (rfl) (⟨by omega, rfl⟩) ?_
  rintro p T1 h_p E_p J_p
  refine goes_norm [_] rfl ?_
  obtain ⟨K1, K2⟩ := J_p
  refine xp_seq ?_
  refine xp_region rfl ?_
  refine op_pure (pv_of (v := .bool _) rfl) ?_
  refine xp_seq ?_
  refine xp_cond rfl (fun hp => ?_) (fun hp => ?_)
  · skip
    have hpl : (p : Int) < l.press + 1 := of_decide_eq_true hp
    have mm := mul_bd (show 0 ≤ (p : Int) ∧ (p : Int) ≤ 3 by omega) hs
    have ak : agreeN l.span due beat slope (p + 1) = (agreeN l.span due beat slope p && (decide (0 - l.span ≤ beat + p * slope - due) && decide (beat + p * slope - due ≤ l.span))) := rfl
    rw [K2, Bool.true_and] at ak
    refine xp_skip ?_
    refine xp_seq ?_
    refine xp_block ?_
    refine xp_seq ?_
    refine xp_region rfl ?_
    refine op_pure (pv_move (v := .int .i64 _) rfl) ?_
    refine op_pure (pv_assign (v := .int .i64 _) rfl) ?_
    refine xp_seq ?_
    refine xp_region rfl ?_
    refine op_pure (pv_move (v := .int .i64 _) rfl) ?_
    refine op_pure (pv_move (v := .int .i64 _) rfl) ?_
    refine op_pure (pv_move (v := .int .i64 _) rfl) ?_
    refine op_pure (pv_arith rfl (by omega)) ?_
    refine op_pure (pv_arith rfl (by omega)) ?_
    refine op_pure (pv_move (v := .int .i64 _) rfl) ?_
    refine op_pure (pv_arith rfl (by omega)) ?_
    refine op_pure (pv_fieldAddr rfl rfl rfl rfl 2 rfl) ?_
    refine op_loadP 0 (v := .int .i64 _) rfl rfl rfl rfl ?_
    refine op_pure (pv_arith rfl (by omega)) ?_
    refine op_pure (pv_fieldAddr rfl rfl rfl rfl 2 rfl) ?_
    refine op_loadP 0 (v := .int .i64 _) rfl rfl rfl rfl ?_
    refine op_fn (caps := []) (vs := [.int .i64 (beat + (p : Int) * slope - due), .int .i64 (0 - l.span), .int .i64 l.span]) rfl rfl rfl (vIn_ok (beat + (p : Int) * slope - due) (0 - l.span) l.span h_p) ?_
    rintro _ e1 E1 rfl
    refine op_pure (pv_of (v := .bool _) rfl) ?_
    cases hq : agreeN l.span due beat slope (p + 1) with
    | true =>
      refine xp_condF rfl ((by rw [← ak, hq]; rfl)) ?_
      refine xp_skip ?_
      refine xp_region rfl ?_
      refine op_pure (pv_arith rfl (by omega)) ?_
      refine op_pure (pv_move (v := .int .i64 _) rfl) ?_
      refine ⟨p + 1, ⟨rfl, trivial⟩, rfl, rfl, (Ext.trans E_p E1), fun h3 E3 => ⟨by push_cast; omega, hq⟩, by first | omega | (dsimp only; omega), ?_⟩
      repeat (first | exact off_base _ _ _ | refine off_upd (by decide) ?_ | refine off_updL rfl ?_ | refine off_mix rfl ?_)
    | false =>
      refine xp_condT rfl ((by rw [← ak, hq]; rfl)) ?_
      refine xp_seq ?_
      refine xp_region rfl ?_
      refine op_pure (pv_assign (v := .bool _) rfl) ?_
      refine xp_ret ?_
      refine res_list (vs := [_]) Try.results68 ⟨resV_tmp rfl rfl, trivial⟩ fun V => ?_
      exact ⟨(Ext.trans (Ext.trans E_p E1) (ext_wl V)), congrArg Value.bool (by unfold agreeM; cases hh : agreeN l.span due beat slope (l.press + 1).toNat with | false => rfl | true => rw [agreeN_less (by omega) hh] at hq; cases hq)⟩
  · skip
    have hpe : p = (l.press + 1).toNat := by have := of_decide_eq_false hp; omega
    subst hpe
    refine xp_exit ?_
    refine xp_seq ?_
    refine xp_region rfl ?_
    refine op_pure (pv_assign (v := .bool _) rfl) ?_
    refine xp_ret ?_
    refine res_list (vs := [_]) Try.results68 ⟨resV_tmp rfl rfl, trivial⟩ fun V => ?_
    exact ⟨(Ext.trans E_p (ext_wl V)), congrArg Value.bool K2.symm⟩
end
end Go.Proofs.Ytlfbcimcehcomaa
/- Walks of package voice: the checks of scales that are right. Conditions: as each theorem states. -/
namespace Go.Proofs.Ytlfbcimcehcomaa
open Go Go.HL Go.Proofs Go.Wx Go.Rd Go.Vo
section
variable [Lvl]
set_option maxRecDepth 100000
theorem vDue_ok (l : LawP) (hl : LawB l) (k : Int) (hk : 0 ≤ k ∧ k ≤ 6) (h : AH) : FnT Try.prog 36 #[lawV l, .int .i64 k] h (fun v _ => v = .int .i64 (l.first + l.step * k)) := by
  obtain ⟨f0, f1, s0, s1, p0, p1, r0, r1⟩ := hl
  have mm : -30 ≤ l.step * k ∧ l.step * k ≤ 30 := by
    have h : k = 0 ∨ k = 1 ∨ k = 2 ∨ k = 3 ∨ k = 4 ∨ k = 5 ∨ k = 6 := by omega
    rcases h with rfl | rfl | rfl | rfl | rfl | rfl | rfl <;> omega
  unfold lawV
  refine call_body Try.func36 rfl Try.ntmps36 rfl ?_
  refine xp_seq ?_
  refine xp_region rfl ?_
  refine op_box (v := .agg #[.int .i64 _, .int .i64 _, .int .i64 _, .int .i64 _]) (cs := [_, _, _, _]) rfl rfl fun b2 hb2 => ?_
  refine wp_norm [_] rfl ?_
  refine op_pure (pv_assign (v := .int .i64 _) rfl) ?_
  refine xp_seq ?_
  refine xp_region rfl ?_
  refine op_pure (pv_fieldAddr rfl rfl rfl rfl 0 rfl) ?_
  refine op_loadP 0 (v := .int .i64 _) rfl rfl rfl rfl ?_
  refine op_pure (pv_fieldAddr rfl rfl rfl rfl 1 rfl) ?_
  refine op_loadP 0 (v := .int .i64 _) rfl rfl rfl rfl ?_
  refine op_pure (pv_move (v := .int .i64 _) rfl) ?_
  refine op_pure (pv_arith rfl (by omega)) ?_
  refine op_pure (pv_arith rfl (by omega)) ?_
  refine op_pure (pv_assign (v := .int .i64 _) rfl) ?_
  refine xp_ret ?_
  refine res_list (vs := [_]) Try.results36 ⟨resV_tmp rfl rfl, trivial⟩ fun V => ?_
  exact ⟨(ext_wl V), rfl⟩
theorem checkLaw_ok (l : LawP) (hl : LawB l) (h : AH) : FnT Try.prog 95 #[lawV l] h (fun v _ => v = .int .i64 0) := by
  obtain ⟨f0, f1, s0, s1, p0, p1, r0, r1⟩ := hl
  unfold lawV
  refine call_body Try.func95 rfl Try.ntmps95 rfl ?_
  refine xp_seq ?_
  refine xp_region rfl ?_
  refine op_box (v := .agg #[.int .i64 _, .int .i64 _, .int .i64 _, .int .i64 _]) (cs := [_, _, _, _]) rfl rfl fun b1 hb1 => ?_
  refine wp_norm [_] rfl ?_
  refine op_pure (pv_assign (v := .int .i64 _) rfl) ?_
  refine xp_seq ?_
  refine xp_seq ?_
  refine xp_region rfl ?_
  refine op_pure (pv_fieldAddr rfl rfl rfl rfl 0 rfl) ?_
  refine op_loadP 0 (v := .int .i64 _) rfl rfl rfl rfl ?_
  refine op_fn (caps := []) (vs := [.int .i64 _, .int .i64 _, .int .i64 _]) rfl rfl rfl (vIn_yes f0 f1 h) ?_
  rintro _ e1 E1 rfl
  refine op_pure (pv_of (v := .bool _) rfl) ?_
  refine op_pure (pv_move (v := .bool _) rfl) ?_
  refine guard_yes rfl rfl ?_
  refine op_pure (pv_fieldAddr rfl rfl rfl rfl 1 rfl) ?_
  refine guard_yes rfl rfl ?_
  refine op_loadP 0 (v := .int .i64 _) rfl rfl rfl rfl ?_
  refine guard_yes rfl rfl ?_
  refine op_fn (caps := []) (vs := [.int .i64 _, .int .i64 _, .int .i64 _]) rfl rfl rfl (vIn_yes s0 s1 e1) ?_
  rintro _ e2 E2 rfl
  refine guard_yes rfl rfl ?_
  refine op_pure (pv_of (v := .bool _) rfl) ?_
  refine op_pure (pv_pickF rfl rfl (v := .bool _) rfl) ?_
  refine op_pure (pv_move (v := .bool _) rfl) ?_
  refine guard_yes rfl rfl ?_
  refine op_pure (pv_fieldAddr rfl rfl rfl rfl 2 rfl) ?_
  refine guard_yes rfl rfl ?_
  refine op_loadP 0 (v := .int .i64 _) rfl rfl rfl rfl ?_
  refine guard_yes rfl rfl ?_
  refine op_fn (caps := []) (vs := [.int .i64 _, .int .i64 _, .int .i64 _]) rfl rfl rfl (vIn_yes p0 p1 e2) ?_
  rintro _ e3 E3 rfl
  refine guard_yes rfl rfl ?_
  refine op_pure (pv_of (v := .bool _) rfl) ?_
  refine op_pure (pv_pickF rfl rfl (v := .bool _) rfl) ?_
  refine op_pure (pv_move (v := .bool _) rfl) ?_
  refine guard_yes rfl rfl ?_
  refine op_pure (pv_fieldAddr rfl rfl rfl rfl 3 rfl) ?_
  refine guard_yes rfl rfl ?_
  refine op_loadP 0 (v := .int .i64 _) rfl rfl rfl rfl ?_
  refine guard_yes rfl rfl ?_
  refine op_fn (caps := []) (vs := [.int .i64 _, .int .i64 _, .int .i64 _]) rfl rfl rfl (vIn_yes r0 r1 e3) ?_
  rintro _ e4 E4 rfl
  refine guard_yes rfl rfl ?_
  refine op_pure (pv_of (v := .bool _) rfl) ?_
  refine op_pure (pv_pickF rfl rfl (v := .bool _) rfl) ?_
  refine xp_condF rfl (rfl) ?_
  refine xp_skip ?_
  refine xp_seq ?_
  refine xp_region rfl ?_
  refine op_pure (pv_assign (v := .int .i64 _) rfl) ?_
  refine xp_ret ?_
  refine res_list (vs := [_]) Try.results95 ⟨resV_tmp rfl rfl, trivial⟩ fun V => ?_
  exact ⟨(Ext.trans (Ext.trans (Ext.trans (Ext.trans E1 E2) E3) E4) (ext_wl V)), rfl⟩
theorem checkSound_ok (s : SndP) (hs : SndB s) (h : AH) : FnT Try.prog 118 #[sndV s] h (fun v _ => v = .int .i64 0) := by
  obtain ⟨t0, t1, t2, s0, s1, s2⟩ := hs
  unfold sndV
  refine call_body Try.func118 rfl Try.ntmps118 rfl ?_
  refine xp_seq ?_
  refine xp_region rfl ?_
  refine op_box (v := .agg #[.int .i64 _, .int .i64 _, .int .i64 _, .int .i64 _]) (cs := [_, _, _, _]) rfl rfl fun b1 hb1 => ?_
  refine wp_norm [_] rfl ?_
  refine op_pure (pv_assign (v := .int .i64 _) rfl) ?_
  refine xp_seq ?_
  refine xp_seq ?_
  refine xp_region rfl ?_
  refine op_pure (pv_fieldAddr rfl rfl rfl rfl 0 rfl) ?_
  refine op_loadPA 0 (vs := [.int .i64 _, .int .i64 _]) rfl rfl rfl rfl rfl ?_
  refine op_pure (pv_fieldAddr rfl rfl rfl rfl 2 rfl) ?_
  refine op_loadPA 0 (vs := [.int .i64 _, .int .i64 _]) rfl rfl rfl rfl rfl ?_
  refine op_pure (pv_buildA (zc := [_, _, _, _]) (vs := [(0, .agg #[.int .i64 _, .int .i64 _]), (1, .agg #[.int .i64 _, .int .i64 _])]) (cs := [_, _, _, _]) rfl rfl rfl rfl rfl rfl) ?_
  refine op_pure (pv_move (v := .int .i64 _) rfl) ?_
  refine xp_block ?_
  refine xp_unroll ?_
  refine xp_seq ?_
  refine xp_region rfl ?_
  refine op_pure (pv_of (v := .bool _) rfl) ?_
  refine xp_seq ?_
  refine xp_condT rfl (rfl) ?_
  refine xp_skip ?_
  refine xp_seq ?_
  refine xp_block ?_
  refine xp_seq ?_
  refine xp_region rfl ?_
  refine op_pure (pv_move (v := .int .i64 _) rfl) ?_
  refine op_pure (pv_of (v := .agg #[.int .i64 s.tone.mn, .int .i64 s.tone.mx]) rfl) ?_
  refine op_alloc (cs := [_, _]) rfl rfl fun b4 hb4 => ?_
  refine wp_norm [_, _] rfl ?_
  refine op_pure (pv_assign (v := .int .i64 _) rfl) ?_
  refine op_storeP 1 (v := .agg #[.int .i64 _, .int .i64 _]) (vs := [_, _]) (c' := [_, _]) rfl rfl rfl rfl rfl rfl rfl rfl rfl ?_
  refine wp_norm [_, _] rfl ?_
  refine xp_seq ?_
  refine xp_region rfl ?_
  refine op_pure (pv_assign (v := .int .i64 _) rfl) ?_
  refine xp_seq ?_
  refine xp_seq ?_
  refine xp_region rfl ?_
  refine op_pure (pv_move (v := .int .i64 _) rfl) ?_
  refine op_pure (pv_of (v := .bool _) rfl) ?_
  refine xp_condF rfl (rfl) ?_
  refine xp_skip ?_
  refine xp_block ?_
  refine xp_seq ?_
  refine xp_region rfl ?_
  refine op_pure (pv_fieldAddr rfl rfl rfl rfl 0 rfl) ?_
  refine op_loadP 1 (v := .int .i64 _) rfl rfl rfl rfl ?_
  refine op_pure (pv_move (v := .int .i64 _) rfl) ?_
  refine op_pure (pv_arith rfl (by omega)) ?_
  refine op_pure (pv_move (v := .int .i64 _) rfl) ?_
  refine op_fn (caps := []) (vs := [.int .i64 _, .int .i64 _, .int .i64 _]) rfl rfl rfl (vIn_yes (show 0 - 30 ≤ s.tone.mn by omega) (show s.tone.mn ≤ 30 by omega) h) ?_
  rintro _ etone1 Etone1 rfl
  refine op_pure (pv_of (v := .bool _) rfl) ?_
  refine op_pure (pv_move (v := .bool _) rfl) ?_
  refine guard_yes rfl rfl ?_
  refine op_pure (pv_fieldAddr rfl rfl rfl rfl 1 rfl) ?_
  refine guard_yes rfl rfl ?_
  refine op_loadP 1 (v := .int .i64 _) rfl rfl rfl rfl ?_
  refine guard_yes rfl rfl ?_
  refine op_pure (pv_move (v := .int .i64 _) rfl) ?_
  refine guard_yes rfl rfl ?_
  refine op_pure (pv_arith rfl (by omega)) ?_
  refine guard_yes rfl rfl ?_
  refine op_pure (pv_move (v := .int .i64 _) rfl) ?_
  refine guard_yes rfl rfl ?_
  refine op_fn (caps := []) (vs := [.int .i64 _, .int .i64 _, .int .i64 _]) rfl rfl rfl (vIn_yes (show 0 - 30 ≤ s.tone.mx by omega) (show s.tone.mx ≤ 30 by omega) etone1) ?_
  rintro _ etone2 Etone2 rfl
  refine guard_yes rfl rfl ?_
  refine op_pure (pv_of (v := .bool _) rfl) ?_
  refine op_pure (pv_pickF rfl rfl (v := .bool _) rfl) ?_
  refine op_pure (pv_assign (v := .bool _) rfl) ?_
  refine xp_condF rfl (rfl) ?_
  refine xp_seq ?_
  refine xp_region rfl ?_
  refine op_pure (pv_fieldAddr rfl rfl rfl rfl 0 rfl) ?_
  refine op_loadP 1 (v := .int .i64 _) rfl rfl rfl rfl ?_
  refine op_pure (pv_fieldAddr rfl rfl rfl rfl 1 rfl) ?_
  refine op_loadP 1 (v := .int .i64 _) rfl rfl rfl rfl ?_
  refine op_pure (pv_of (v := .bool _) rfl) ?_
  refine op_pure (pv_assign (v := .bool _) rfl) ?_
  refine xp_condF rfl (decide_eq_false (by omega)) ?_
  refine xp_skip ?_
  refine xp_region rfl ?_
  refine op_pure (pv_arith rfl (by omega)) ?_
  refine op_pure (pv_move (v := .int .i64 _) rfl) ?_
  refine again_unroll ?_
  refine xp_seq ?_
  refine xp_region rfl ?_
  refine op_pure (pv_of (v := .bool _) rfl) ?_
  refine xp_seq ?_
  refine xp_condT rfl (rfl) ?_
  refine xp_skip ?_
  refine xp_seq ?_
  refine xp_block ?_
  refine xp_seq ?_
  refine xp_region rfl ?_
  refine op_pure (pv_move (v := .int .i64 _) rfl) ?_
  refine op_pure (pv_of (v := .agg #[.int .i64 s.slope.mn, .int .i64 s.slope.mx]) rfl) ?_
  refine op_alloc (cs := [_, _]) rfl rfl fun b4_1 hb4_1 => ?_
  refine wp_norm [_, _, _] rfl ?_
  refine op_pure (pv_assign (v := .int .i64 _) rfl) ?_
  refine op_storeP 2 (v := .agg #[.int .i64 _, .int .i64 _]) (vs := [_, _]) (c' := [_, _]) rfl rfl rfl rfl rfl rfl rfl rfl rfl ?_
  refine wp_norm [_, _, _] rfl ?_
  refine xp_seq ?_
  refine xp_region rfl ?_
  refine op_pure (pv_assign (v := .int .i64 _) rfl) ?_
  refine xp_seq ?_
  refine xp_seq ?_
  refine xp_region rfl ?_
  refine op_pure (pv_move (v := .int .i64 _) rfl) ?_
  refine op_pure (pv_of (v := .bool _) rfl) ?_
  refine xp_condT rfl (rfl) ?_
  refine xp_region rfl ?_
  refine op_pure (pv_assign (v := .int .i64 _) rfl) ?_
  refine xp_block ?_
  refine xp_seq ?_
  refine xp_region rfl ?_
  refine op_pure (pv_fieldAddr rfl rfl rfl rfl 0 rfl) ?_
  refine op_loadP 2 (v := .int .i64 _) rfl rfl rfl rfl ?_
  refine op_pure (pv_move (v := .int .i64 _) rfl) ?_
  refine op_pure (pv_arith rfl (by omega)) ?_
  refine op_pure (pv_move (v := .int .i64 _) rfl) ?_
  refine op_fn (caps := []) (vs := [.int .i64 _, .int .i64 _, .int .i64 _]) rfl rfl rfl (vIn_yes (show 0 - 3 ≤ s.slope.mn by omega) (show s.slope.mn ≤ 3 by omega) etone2) ?_
  rintro _ eslope1 Eslope1 rfl
  refine op_pure (pv_of (v := .bool _) rfl) ?_
  refine op_pure (pv_move (v := .bool _) rfl) ?_
  refine guard_yes rfl rfl ?_
  refine op_pure (pv_fieldAddr rfl rfl rfl rfl 1 rfl) ?_
  refine guard_yes rfl rfl ?_
  refine op_loadP 2 (v := .int .i64 _) rfl rfl rfl rfl ?_
  refine guard_yes rfl rfl ?_
  refine op_pure (pv_move (v := .int .i64 _) rfl) ?_
  refine guard_yes rfl rfl ?_
  refine op_pure (pv_arith rfl (by omega)) ?_
  refine guard_yes rfl rfl ?_
  refine op_pure (pv_move (v := .int .i64 _) rfl) ?_
  refine guard_yes rfl rfl ?_
  refine op_fn (caps := []) (vs := [.int .i64 _, .int .i64 _, .int .i64 _]) rfl rfl rfl (vIn_yes (show 0 - 3 ≤ s.slope.mx by omega) (show s.slope.mx ≤ 3 by omega) eslope1) ?_
  rintro _ eslope2 Eslope2 rfl
  refine guard_yes rfl rfl ?_
  refine op_pure (pv_of (v := .bool _) rfl) ?_
  refine op_pure (pv_pickF rfl rfl (v := .bool _) rfl) ?_
  refine op_pure (pv_assign (v := .bool _) rfl) ?_
  refine xp_condF rfl (rfl) ?_
  refine xp_seq ?_
  refine xp_region rfl ?_
  refine op_pure (pv_fieldAddr rfl rfl rfl rfl 0 rfl) ?_
  refine op_loadP 2 (v := .int .i64 _) rfl rfl rfl rfl ?_
  refine op_pure (pv_fieldAddr rfl rfl rfl rfl 1 rfl) ?_
  refine op_loadP 2 (v := .int .i64 _) rfl rfl rfl rfl ?_
  refine op_pure (pv_of (v := .bool _) rfl) ?_
  refine op_pure (pv_assign (v := .bool _) rfl) ?_
  refine xp_condF rfl (decide_eq_false (by omega)) ?_
  refine xp_skip ?_
  refine xp_region rfl ?_
  refine op_pure (pv_arith rfl (by omega)) ?_
  refine op_pure (pv_move (v := .int .i64 _) rfl) ?_
  refine again_unroll ?_
  refine xp_seq ?_
  refine xp_region rfl ?_
  refine op_pure (pv_of (v := .bool _) rfl) ?_
  refine xp_seq ?_
  refine xp_condF rfl (rfl) ?_
  refine xp_exit ?_
  refine xp_seq ?_
  refine xp_region rfl ?_
  refine op_pure (pv_assign (v := .int .i64 _) rfl) ?_
  refine xp_ret ?_
  refine res_list (vs := [_]) Try.results118 ⟨resV_tmp rfl rfl, trivial⟩ fun V => ?_
  exact ⟨(Ext.trans (Ext.trans (Ext.trans (Ext.trans Etone1 Etone2) Eslope1) Eslope2) (ext_wl V)), rfl⟩
theorem notes_ok (s : ScaP) (A : Option Addr) (cA : Nat) (h : AH) (R : SlX h 1 TS s.rows (.slice A s.rows.length cA)) : FnT Try.prog 34 #[scaV A cA s] h (fun v _ => v = .int .i64 (notesM s)) := by
  obtain ⟨cs, A2, c2, e, RR, EL⟩ := SlX.els R
  injection e with e1 e2 e3
  subst e1 e3
  unfold scaV
  refine call_body Try.func34 rfl Try.ntmps34 rfl ?_
  refine xp_seq ?_
  refine xp_region rfl ?_
  refine op_box (v := .agg #[.int .i64 _, .int .i64 _, .int .i64 _, .int .i64 _, .slice _ _ _]) (cs := [_, _, _, _, _]) rfl rfl fun b1 hb1 => ?_
  refine wp_norm [_] rfl ?_
  refine op_pure (pv_assign (v := .int .i64 _) rfl) ?_
  refine xp_seq ?_
  refine xp_seq ?_
  refine xp_region rfl ?_
  refine op_pure (pv_fieldAddr rfl rfl rfl rfl 4 rfl) ?_
  refine op_loadP 0 (v := .slice _ _ _) rfl rfl rfl rfl ?_
  refine op_pure (pv_len rfl rfl) ?_
  refine op_pure (pv_of (v := .bool _) rfl) ?_
  refine xp_cond rfl (fun hz => ?_) (fun hz => ?_)
  · skip
    have hz' : s.rows.length = 0 := by have : (s.rows.length : Int) = 0 := by simpa using hz
                                       omega
    refine xp_seq ?_
    refine xp_region rfl ?_
    refine op_pure (pv_assign (v := .int .i64 _) rfl) ?_
    refine xp_ret ?_
    refine res_list (vs := [_]) Try.results34 ⟨resV_tmp rfl rfl, trivial⟩ fun V => ?_
    exact ⟨(ext_wl V), by unfold notesM; rw [List.length_eq_zero_iff.1 hz']; rfl⟩
  · skip
    have hz' : 0 < s.rows.length := by have : (s.rows.length : Int) ≠ 0 := by simpa using hz
                                       omega
    obtain ⟨hic, v9, e9, B9, d9, ev9, R10⟩ := (EL.ext TS.mono (Ext.refl _)).at hz'
    obtain ⟨g, off, hA, hc⟩ := (RR.ext (Ext.refl _)).at (by omega) hic
    have hc : Cells h g (off + 0 * 1) [.slice B9 s.rows[0].length d9] := by rw [← ev9, ← e9]; exact hc
    refine xp_skip ?_
    refine xp_seq ?_
    refine xp_region rfl ?_
    refine op_pure (pv_fieldAddr rfl rfl rfl rfl 4 rfl) ?_
    refine op_loadP 0 (v := .slice _ _ _) rfl rfl rfl rfl ?_
    refine op_pure (pv_indexE (m := 1) rfl hA rfl rfl rfl (by omega) (by omega)) ?_
    refine op_load (v := .slice _ _ _) rfl rfl ((hc) 0 _ rfl) ?_
    refine op_pure (pv_len rfl rfl) ?_
    refine op_pure (pv_assign (v := .int .i64 _) rfl) ?_
    refine xp_ret ?_
    refine res_list (vs := [_]) Try.results34 ⟨resV_tmp rfl rfl, trivial⟩ fun V => ?_
    exact ⟨(ext_wl V), by unfold notesM; rw [List.getD_eq_getElem?_getD, List.getElem?_eq_getElem hz']; rfl⟩
end
end Go.Proofs.Ytlfbcimcehcomaa
/- Walks of package voice: scales and registers that are right; the voices of a note. Conditions: as each theorem states. -/
namespace Go.Vo
open Go Go.HL Go.Wx Go.Rd
/-- A register that is right. -/
structure RegB (rs : List Int) (n : Nat) : Prop where
  b : ∀ r ∈ rs, 0 ≤ r ∧ r < n
  a : ∀ i : Nat, 0 < i → i < rs.length → rs.getD (i - 1) 0 < rs.getD i 0
def snd0 : SndP := ⟨⟨0, 0⟩, ⟨0, 0⟩⟩
def voiceM (s : ScaP) (k : Nat) (r : Int) : SndP := (s.rows.getD r.toNat []).getD k snd0
def voicesM (s : ScaP) (rs : List Int) (k : Nat) : List SndP := rs.map (voiceM s k)
end Go.Vo
namespace Go.Proofs.Ytlfbcimcehcomaa
open Go Go.HL Go.Proofs Go.Wx Go.Rd Go.Vo
section
variable [Lvl]
set_option maxRecDepth 100000
theorem checkSounds_ok (l : List SndP) (hl : ∀ x ∈ l, SndB x) (n : Int) (hn : (l.length : Int) ≤ n) (h6 : l.length ≤ 6) (A : Option Addr) (cA : Nat) (h : AH) (R : Row h 4 sndC A l) : FnT Try.prog 96 #[.slice A l.length cA, .int .i64 n] h (fun v _ => v = .int .i64 0) := by
  refine call_body Try.func96 rfl Try.ntmps96 rfl ?_
  refine xp_seq ?_
  refine xp_region rfl ?_
  refine op_pure (pv_assign (v := .int .i64 _) rfl) ?_
  refine xp_seq ?_
  refine xp_seq ?_
  refine xp_region rfl ?_
  refine op_pure (pv_move (v := .slice _ _ _) rfl) ?_
  refine op_pure (pv_len rfl rfl) ?_
  refine op_pure (pv_move (v := .int .i64 _) rfl) ?_
  refine op_pure (pv_of (v := .bool _) rfl) ?_
  refine xp_condF rfl (decide_eq_false (by omega)) ?_
  refine xp_skip ?_
  refine xp_seq ?_
  refine xp_seq ?_
  refine xp_region rfl ?_
  refine op_pure (pv_move (v := .slice _ _ _) rfl) ?_
  refine op_pure (pv_len rfl rfl) ?_
  refine op_pure (pv_move (v := .int .i64 _) rfl) ?_
  refine xp_block ?_
  refine xp_loopB [4, 6, 7, 14, 15, 16, 17, 18, 19, 20, 21, 22, 23] 0 (α := Nat) (fun k => [(14, .int .i64 k)]) (fun k => _) (fun k h_k => k ≤ l.length) (fun k => l.length - k) (0) ⟨rfl, trivial⟩ (rfl) (Nat.zero_le _) ?_
  rintro k T1 h_k E_k J_k
  refine goes_norm [] rfl ?_
  refine xp_seq ?_
  refine xp_region rfl ?_
  refine op_pure (pv_of (v := .bool _) rfl) ?_
  refine xp_seq ?_
  refine xp_cond rfl (fun hk => ?_) (fun hk => ?_)
  · skip
    have hkl : k < l.length := ltI hk
    obtain ⟨g, off, hA, hc⟩ := (R.ext E_k).at (by omega) hkl
    have sb := hl _ (List.getElem_mem hkl)
    refine xp_skip ?_
    refine xp_seq ?_
    refine xp_block ?_
    refine xp_seq ?_
    refine xp_region rfl ?_
    refine op_pure (pv_indexE rfl hA rfl rfl rfl (by omega) (by omega)) ?_
    refine op_loadA rfl rfl rfl rfl (hc) ?_
    refine op_alloc (cs := [_, _, _, _]) rfl rfl fun b6 hb6 => ?_
    refine wp_norm [_] rfl ?_
    refine op_storeP 0 (v := .agg #[.int .i64 _, .int .i64 _, .int .i64 _, .int .i64 _]) (vs := [_, _, _, _]) (c' := [_, _, _, _]) rfl rfl rfl rfl rfl rfl rfl rfl rfl ?_
    refine wp_norm [_] rfl ?_
    refine xp_seq ?_
    refine xp_region rfl ?_
    refine op_loadPA 0 (vs := [.int .i64 _, .int .i64 _, .int .i64 _, .int .i64 _]) rfl rfl rfl rfl rfl ?_
    refine op_fn (caps := []) (vs := [sndV l[k]]) rfl rfl rfl (checkSound_ok l[k] sb h_k) ?_
    rintro _ e1 E1 rfl
    refine op_pure (pv_assign (v := .int .i64 _) rfl) ?_
    refine xp_seq ?_
    refine xp_region rfl ?_
    refine op_pure (pv_move (v := .int .i64 _) rfl) ?_
    refine op_pure (pv_of (v := .bool _) rfl) ?_
    refine xp_condF rfl (rfl) ?_
    refine xp_skip ?_
    refine xp_region rfl ?_
    refine op_pure (pv_arith rfl (by omega)) ?_
    refine op_pure (pv_move (v := .int .i64 _) rfl) ?_
    refine ⟨k + 1, ⟨rfl, trivial⟩, rfl, rfl, (Ext.trans E_k E1), fun h3 E3 => hkl, by first | omega | (dsimp only; omega), ?_⟩
    repeat (first | exact off_base _ _ _ | refine off_upd (by decide) ?_ | refine off_updL rfl ?_ | refine off_mix rfl ?_)
  · skip
    refine xp_exit ?_
    refine xp_seq ?_
    refine xp_region rfl ?_
    refine op_pure (pv_assign (v := .int .i64 _) rfl) ?_
    refine xp_ret ?_
    refine res_list (vs := [_]) Try.results96 ⟨resV_tmp rfl rfl, trivial⟩ fun V => ?_
    exact ⟨(Ext.trans E_k (ext_wl V)), rfl⟩
theorem notesM_eq {s : ScaP} {n : Nat} (S : ScaB s n) : notesM s = if s.rows.length = 0 then 0 else n := by
  unfold notesM
  by_cases h : s.rows.length = 0
  · rw [if_pos h, List.length_eq_zero_iff.1 h]; rfl
  · rw [if_neg h, List.getD_eq_getElem?_getD, List.getElem?_eq_getElem (by omega)]
    exact S.rn _ (List.getElem_mem _)
theorem checkScale_ok (s : ScaP) (n : Nat) (S : ScaB s n) (A : Option Addr) (cA : Nat) (h : AH) (R : SlX h 1 TS s.rows (.slice A s.rows.length cA)) : FnT Try.prog 64 #[scaV A cA s] h (fun v _ => v = .int .i64 0) := by
  have RS := R
  obtain ⟨cs, A2, c2, e, RR, EL⟩ := SlX.els R
  injection e with e1 e2 e3
  subst e1 e3
  have r4 := S.r4
  have n6 := S.n6
  have hnm := notesM_eq S
  unfold scaV
  refine call_body Try.func64 rfl Try.ntmps64 rfl ?_
  refine xp_seq ?_
  refine xp_region rfl ?_
  refine op_box (v := .agg #[.int .i64 _, .int .i64 _, .int .i64 _, .int .i64 _, .slice _ _ _]) (cs := [_, _, _, _, _]) rfl rfl fun b1 hb1 => ?_
  refine wp_norm [_] rfl ?_
  refine op_pure (pv_assign (v := .int .i64 _) rfl) ?_
  refine xp_seq ?_
  refine xp_seq ?_
  refine xp_region rfl ?_
  refine op_pure (pv_fieldAddr rfl rfl rfl rfl 0 rfl) ?_
  refine op_loadPA 0 (vs := [.int .i64 _, .int .i64 _, .int .i64 _, .int .i64 _]) rfl rfl rfl rfl rfl ?_
  refine op_fn (caps := []) (vs := [lawV s.law]) rfl rfl rfl (checkLaw_ok s.law S.l h) ?_
  rintro _ e1 E1 rfl
  refine op_pure (pv_assign (v := .int .i64 _) rfl) ?_
  refine xp_seq ?_
  refine xp_region rfl ?_
  refine op_pure (pv_move (v := .int .i64 _) rfl) ?_
  refine op_pure (pv_of (v := .bool _) rfl) ?_
  refine xp_condF rfl (rfl) ?_
  refine xp_skip ?_
  refine xp_seq ?_
  refine xp_seq ?_
  refine xp_region rfl ?_
  refine op_pure (pv_fieldAddr rfl rfl rfl rfl 4 rfl) ?_
  refine op_loadP 0 (v := .slice _ _ _) rfl rfl rfl rfl ?_
  refine op_pure (pv_len rfl rfl) ?_
  refine op_pure (pv_of (v := .bool _) rfl) ?_
  refine xp_condF rfl (decide_eq_false (by omega)) ?_
  refine xp_skip ?_
  refine xp_seq ?_
  refine xp_seq ?_
  refine xp_region rfl ?_
  refine op_pure (pv_fieldAddr rfl rfl rfl rfl 4 rfl) ?_
  refine op_loadP 0 (v := .slice _ _ _) rfl rfl rfl rfl ?_
  refine op_pure (pv_len rfl rfl) ?_
  refine op_pure (pv_move (v := .int .i64 _) rfl) ?_
  refine xp_block ?_
  refine xp_loopB [2, 5, 6, 21, 22, 23, 24, 25, 26, 27, 28, 29, 30, 31, 32, 33, 34, 35, 36, 37, 38] 1 (α := Nat) (fun k => [(21, .int .i64 k)]) (fun k => _) (fun k h_k => k ≤ s.rows.length) (fun k => s.rows.length - k) (0) ⟨rfl, trivial⟩ (rfl) (Nat.zero_le _) ?_
  rintro k T1 h_k E_k J_k
  refine goes_norm [_] rfl ?_
  refine xp_seq ?_
  refine xp_region rfl ?_
  refine op_pure (pv_of (v := .bool _) rfl) ?_
  refine xp_seq ?_
  refine xp_cond rfl (fun hk => ?_) (fun hk => ?_)
  · skip
    have hkl : k < s.rows.length := ltI hk
    have rn := S.rn _ (List.getElem_mem hkl)
    have rb := S.rb _ (List.getElem_mem hkl)
    rw [if_neg (by omega)] at hnm
    obtain ⟨hic, v9, e9, B9, d9, ev9, R10⟩ := (EL.ext TS.mono (Ext.trans E1 E_k)).at hkl
    obtain ⟨g, off, hA, hc⟩ := (RR.ext (Ext.trans E1 E_k)).at (by omega) hic
    have hc : Cells h_k g (off + k * 1) [.slice B9 s.rows[k].length d9] := by rw [← ev9, ← e9]; exact hc
    refine xp_skip ?_
    refine xp_seq ?_
    refine xp_block ?_
    refine xp_seq ?_
    refine xp_region rfl ?_
    refine op_pure (pv_indexE (m := 1) rfl hA rfl rfl rfl (by omega) (by omega)) ?_
    refine op_load (v := .slice _ _ _) rfl rfl ((hc) 0 _ rfl) ?_
    refine op_pure (pv_assign (v := .slice _ _ _) rfl) ?_
    refine xp_seq ?_
    refine xp_seq ?_
    refine xp_region rfl ?_
    refine op_pure (pv_move (v := .slice _ _ _) rfl) ?_
    refine op_pure (pv_len rfl rfl) ?_
    refine op_pure (pv_of (v := .bool _) rfl) ?_
    refine xp_condF rfl (decide_eq_false (by omega)) ?_
    refine xp_skip ?_
    refine xp_seq ?_
    refine xp_seq ?_
    refine xp_region rfl ?_
    refine op_pure (pv_move (v := .slice _ _ _) rfl) ?_
    refine op_pure (pv_len rfl rfl) ?_
    refine op_loadPA 0 (vs := [.int .i64 _, .int .i64 _, .int .i64 _, .int .i64 _, .slice _ _ _]) rfl rfl rfl rfl rfl ?_
    refine op_fn (caps := []) (vs := [scaV A cA s]) rfl rfl rfl (notes_ok s A cA h_k (RS.ext TS.mono (Ext.trans E1 E_k))) ?_
    rintro _ e2 E2 rfl
    refine op_pure (pv_of (v := .bool _) rfl) ?_
    refine xp_condF rfl ((by rw [hnm, rn]; simp)) ?_
    refine xp_skip ?_
    refine xp_seq ?_
    refine xp_region rfl ?_
    refine op_pure (pv_move (v := .slice _ _ _) rfl) ?_
    refine op_fn (caps := []) (vs := [.slice _ _ _, .int .i64 6]) rfl rfl rfl (checkSounds_ok s.rows[k] rb 6 (by omega) (by omega) B9 d9 e2 (R10.ext E2)) ?_
    rintro _ e3 E3 rfl
    refine op_pure (pv_assign (v := .int .i64 _) rfl) ?_
    refine xp_seq ?_
    refine xp_region rfl ?_
    refine op_pure (pv_move (v := .int .i64 _) rfl) ?_
    refine op_pure (pv_of (v := .bool _) rfl) ?_
    refine xp_condF rfl (rfl) ?_
    refine xp_skip ?_
    refine xp_region rfl ?_
    refine op_pure (pv_arith rfl (by omega)) ?_
    refine op_pure (pv_move (v := .int .i64 _) rfl) ?_
    refine ⟨k + 1, ⟨rfl, trivial⟩, rfl, rfl, (Ext.trans (Ext.trans E_k E2) E3), fun h3 E3 => hkl, by first | omega | (dsimp only; omega), ?_⟩
    repeat (first | exact off_base _ _ _ | refine off_upd (by decide) ?_ | refine off_updL rfl ?_ | refine off_mix rfl ?_)
  · skip
    refine xp_exit ?_
    refine xp_seq ?_
    refine xp_seq ?_
    refine xp_region rfl ?_
    refine op_loadPA 0 (vs := [.int .i64 _, .int .i64 _, .int .i64 _, .int .i64 _, .slice _ _ _]) rfl rfl rfl rfl rfl ?_
    refine op_fn (caps := []) (vs := [scaV A cA s]) rfl rfl rfl (notes_ok s A cA h_k (RS.ext TS.mono (Ext.trans E1 E_k))) ?_
    rintro _ e2 E2 rfl
    refine op_pure (pv_move (v := .int .i64 _) rfl) ?_
    refine xp_block ?_
    refine xp_loopB [2, 7, 41, 42, 43, 44, 45, 46, 47, 48, 49, 50] 1 (α := Nat) (fun q => [(41, .int .i64 q)]) (fun q => _) (fun q h_q => q ≤ notesM s) (fun q => notesM s - q) (0) ⟨rfl, trivial⟩ (rfl) (Nat.zero_le _) ?_
    rintro q T2 h_q E_q J_q
    refine goes_norm [_] rfl ?_
    refine xp_seq ?_
    refine xp_region rfl ?_
    refine op_pure (pv_of (v := .bool _) rfl) ?_
    refine xp_seq ?_
    refine xp_cond rfl (fun hq => ?_) (fun hq => ?_)
    · skip
      have hql : q < notesM s := ltI hq
      have hqn : q < n := by rw [hnm] at hql; split at hql <;> omega
      have dd := S.d q hqn
      refine xp_skip ?_
      refine xp_seq ?_
      refine xp_block ?_
      refine xp_seq ?_
      refine xp_region rfl ?_
      refine op_pure (pv_move (v := .int .i64 _) rfl) ?_
      refine op_pure (pv_assign (v := .int .i64 _) rfl) ?_
      refine xp_seq ?_
      refine xp_region rfl ?_
      refine op_pure (pv_fieldAddr rfl rfl rfl rfl 0 rfl) ?_
      refine op_loadPA 0 (vs := [.int .i64 _, .int .i64 _, .int .i64 _, .int .i64 _]) rfl rfl rfl rfl rfl ?_
      refine op_pure (pv_move (v := .int .i64 _) rfl) ?_
      refine op_fn (caps := []) (vs := [lawV s.law, .int .i64 (q : Int)]) rfl rfl rfl (vDue_ok s.law S.l (q : Int) (by omega) h_q) ?_
      rintro _ e3 E3 rfl
      refine op_fn (caps := []) (vs := [.int .i64 _, .int .i64 _, .int .i64 _]) rfl rfl rfl (vIn_yes dd.1 dd.2 e3) ?_
      rintro _ e4 E4 rfl
      refine op_pure (pv_of (v := .bool _) rfl) ?_
      refine xp_condF rfl (rfl) ?_
      refine xp_skip ?_
      refine xp_region rfl ?_
      refine op_pure (pv_arith rfl (by omega)) ?_
      refine op_pure (pv_move (v := .int .i64 _) rfl) ?_
      refine ⟨q + 1, ⟨rfl, trivial⟩, rfl, rfl, (Ext.trans (Ext.trans E_q E3) E4), fun h3 E3 => hql, by first | omega | (dsimp only; omega), ?_⟩
      repeat (first | exact off_base _ _ _ | refine off_upd (by decide) ?_ | refine off_updL rfl ?_ | refine off_mix rfl ?_)
    · skip
      refine xp_exit ?_
      refine xp_seq ?_
      refine xp_region rfl ?_
      refine op_pure (pv_assign (v := .int .i64 _) rfl) ?_
      refine xp_ret ?_
      refine res_list (vs := [_]) Try.results64 ⟨resV_tmp rfl rfl, trivial⟩ fun V => ?_
      exact ⟨(Ext.trans (Ext.trans (Ext.trans (Ext.trans E1 E_k) E2) E_q) (ext_wl V)), rfl⟩
theorem checkRegister_ok (s : ScaP) (n : Nat) (S : ScaB s n) (rs : List Int) (G : RegB rs s.rows.length) (h4 : rs.length ≤ 4) (A B : Option Addr) (cA cB : Nat) (h : AH) (R : SlX h 1 TS s.rows (.slice A s.rows.length cA)) (RB : Row h 1 intC B rs) : FnT Try.prog 33 #[scaV A cA s, .slice B rs.length cB] h (fun v _ => v = .int .i64 0) := by
  have r4 := S.r4
  have RS := R
  unfold scaV
  refine call_body Try.func33 rfl Try.ntmps33 rfl ?_
  refine xp_seq ?_
  refine xp_region rfl ?_
  refine op_box (v := .agg #[.int .i64 _, .int .i64 _, .int .i64 _, .int .i64 _, .slice _ _ _]) (cs := [_, _, _, _, _]) rfl rfl fun b2 hb2 => ?_
  refine wp_norm [_] rfl ?_
  refine op_pure (pv_assign (v := .int .i64 _) rfl) ?_
  refine xp_seq ?_
  refine xp_seq ?_
  refine xp_region rfl ?_
  refine op_loadPA 0 (vs := [.int .i64 _, .int .i64 _, .int .i64 _, .int .i64 _, .slice _ _ _]) rfl rfl rfl rfl rfl ?_
  refine op_fn (caps := []) (vs := [scaV A cA s]) rfl rfl rfl (checkScale_ok s n S A cA h (RS.ext TS.mono (Ext.refl _))) ?_
  rintro _ e1 E1 rfl
  refine op_pure (pv_assign (v := .int .i64 _) rfl) ?_
  refine xp_seq ?_
  refine xp_region rfl ?_
  refine op_pure (pv_move (v := .int .i64 _) rfl) ?_
  refine op_pure (pv_of (v := .bool _) rfl) ?_
  refine xp_condF rfl (rfl) ?_
  refine xp_skip ?_
  refine xp_seq ?_
  refine xp_seq ?_
  refine xp_region rfl ?_
  refine op_pure (pv_move (v := .slice _ _ _) rfl) ?_
  refine op_pure (pv_len rfl rfl) ?_
  refine op_pure (pv_move (v := .int .i64 _) rfl) ?_
  refine xp_block ?_
  refine xp_loopB [4, 6, 7, 15, 16, 17, 18, 19, 20, 21, 22, 23, 24, 25, 26, 27, 28, 29, 30, 31, 32, 33, 34, 35, 36, 37, 38, 39, 40] 1 (α := Nat) (fun k => [(15, .int .i64 k)]) (fun k => _) (fun k h_k => k ≤ rs.length) (fun k => rs.length - k) (0) ⟨rfl, trivial⟩ (rfl) (Nat.zero_le _) ?_
  rintro k T1 h_k E_k J_k
  refine goes_norm [_] rfl ?_
  refine xp_seq ?_
  refine xp_region rfl ?_
  refine op_pure (pv_of (v := .bool _) rfl) ?_
  refine xp_seq ?_
  refine xp_cond rfl (fun hk => ?_) (fun hk => ?_)
  · skip
    have hkl : k < rs.length := ltI hk
    obtain ⟨g, off, hA, hc⟩ := (RB.ext (Ext.trans E1 E_k)).at (by omega) hkl
    have gb := G.b _ (List.getElem_mem hkl)
    have gw1 : rs.getD k 0 = rs[k] := by rw [List.getD_eq_getElem?_getD, List.getElem?_eq_getElem hkl]; rfl
    refine xp_skip ?_
    refine xp_seq ?_
    refine xp_block ?_
    refine xp_seq ?_
    refine xp_region rfl ?_
    refine op_pure (pv_move (v := .int .i64 _) rfl) ?_
    refine op_pure (pv_indexE rfl hA rfl rfl rfl (by omega) (by omega)) ?_
    refine op_load (v := .int .i64 _) rfl rfl ((hc) 0 _ rfl) ?_
    refine op_pure (pv_assign (v := .int .i64 _) rfl) ?_
    refine op_pure (pv_assign (v := .int .i64 _) rfl) ?_
    refine xp_block ?_
    refine xp_seq ?_
    refine xp_region rfl ?_
    refine op_pure (pv_move (v := .int .i64 _) rfl) ?_
    refine op_pure (pv_fieldAddr rfl rfl rfl rfl 4 rfl) ?_
    refine op_loadP 0 (v := .slice _ _ _) rfl rfl rfl rfl ?_
    refine op_pure (pv_len rfl rfl) ?_
    refine op_pure (pv_arith rfl (by omega)) ?_
    refine op_fn (caps := []) (vs := [.int .i64 _, .int .i64 _, .int .i64 _]) rfl rfl rfl (vIn_yes gb.1 (show rs[k] ≤ (s.rows.length : Int) - 1 by omega) h_k) ?_
    rintro _ e2 E2 rfl
    refine op_pure (pv_of (v := .bool _) rfl) ?_
    refine op_pure (pv_assign (v := .bool _) rfl) ?_
    refine xp_condF rfl (rfl) ?_
    by_cases hk0 : k = 0
    · skip
      have g0 : decide ((k : Int) > 0) = false := decide_eq_false (by omega)
      refine xp_seq ?_
      refine xp_region rfl ?_
      refine op_pure (pv_move (v := .int .i64 _) rfl) ?_
      refine op_pure (pv_of (v := .bool _) rfl) ?_
      refine op_pure (pv_move (v := .bool _) rfl) ?_
      refine guard_no rfl g0 ?_
      refine guard_no rfl g0 ?_
      refine guard_no rfl g0 ?_
      refine guard_no rfl g0 ?_
      refine guard_no rfl g0 ?_
      refine guard_no rfl g0 ?_
      refine guard_no rfl g0 ?_
      refine op_pure (pv_pickF rfl g0 (v := .bool _) rfl) ?_
      refine op_pure (pv_assign (v := .bool _) rfl) ?_
      refine xp_condF rfl (rfl) ?_
      refine xp_skip ?_
      refine xp_region rfl ?_
      refine op_pure (pv_arith rfl (by omega)) ?_
      refine op_pure (pv_move (v := .int .i64 _) rfl) ?_
      refine ⟨k + 1, ⟨rfl, trivial⟩, rfl, rfl, (Ext.trans E_k E2), fun h3 E3 => hkl, by first | omega | (dsimp only; omega), ?_⟩
      repeat (first | exact off_base _ _ _ | refine off_upd (by decide) ?_ | refine off_updL rfl ?_ | refine off_mix rfl ?_)
    · skip
      have g0 : decide ((k : Int) > 0) = true := decide_eq_true (by omega)
      have hkp : k - 1 < rs.length := by omega
      obtain ⟨g2, off2, hA2, hc2⟩ := (RB.ext (Ext.trans (Ext.trans E1 E_k) E2)).at (by omega) hkp
      have gw2 : rs.getD (k - 1) 0 = rs[k - 1] := by rw [List.getD_eq_getElem?_getD, List.getElem?_eq_getElem hkp]; rfl
      have ga := G.a k (by omega) hkl
      rw [gw1, gw2] at ga
      refine xp_seq ?_
      refine xp_region rfl ?_
      refine op_pure (pv_move (v := .int .i64 _) rfl) ?_
      refine op_pure (pv_of (v := .bool _) rfl) ?_
      refine op_pure (pv_move (v := .bool _) rfl) ?_
      refine guard_yes rfl g0 ?_
      refine op_pure (pv_move (v := .int .i64 _) rfl) ?_
      refine guard_yes rfl g0 ?_
      refine op_pure (pv_move (v := .slice _ _ _) rfl) ?_
      refine guard_yes rfl g0 ?_
      refine op_pure (pv_move (v := .int .i64 _) rfl) ?_
      refine guard_yes rfl g0 ?_
      refine op_pure (pv_val (v' := .int .i64 ((k - 1 : Nat) : Int)) (congrArg (Value.int .i64) (by omega)) (pv_arith rfl (by omega))) ?_
      refine guard_yes rfl g0 ?_
      refine op_pure (pv_indexE rfl hA2 rfl rfl rfl (by omega) (by omega)) ?_
      refine guard_yes rfl g0 ?_
      refine op_load (v := .int .i64 _) rfl rfl ((hc2) 0 _ rfl) ?_
      refine guard_yes rfl g0 ?_
      refine op_pure (pv_of (v := .bool _) rfl) ?_
      refine op_pure (pv_pickT rfl g0 (v := .bool _) rfl) ?_
      refine op_pure (pv_assign (v := .bool _) rfl) ?_
      refine xp_condF rfl (decide_eq_false (by omega)) ?_
      refine xp_skip ?_
      refine xp_region rfl ?_
      refine op_pure (pv_arith rfl (by omega)) ?_
      refine op_pure (pv_move (v := .int .i64 _) rfl) ?_
      refine ⟨k + 1, ⟨rfl, trivial⟩, rfl, rfl, (Ext.trans E_k E2), fun h3 E3 => hkl, by first | omega | (dsimp only; omega), ?_⟩
      repeat (first | exact off_base _ _ _ | refine off_upd (by decide) ?_ | refine off_updL rfl ?_ | refine off_mix rfl ?_)
  · skip
    refine xp_exit ?_
    refine xp_seq ?_
    refine xp_region rfl ?_
    refine op_pure (pv_assign (v := .int .i64 _) rfl) ?_
    refine xp_ret ?_
    refine res_list (vs := [_]) Try.results33 ⟨resV_tmp rfl rfl, trivial⟩ fun V => ?_
    exact ⟨(Ext.trans (Ext.trans E1 E_k) (ext_wl V)), rfl⟩
theorem voices_ok (s : ScaP) (n : Nat) (S : ScaB s n) (rs : List Int) (G : RegB rs s.rows.length) (h4 : rs.length ≤ 4) (k : Nat) (hk : k < n) (A B : Option Addr) (cA cB : Nat) (h : AH) (R : SlX h 1 TS s.rows (.slice A s.rows.length cA)) (RB : Row h 1 intC B rs) :
    FnT Try.prog 37 #[.agg #[.int .i64 s.law.first, .int .i64 s.law.step, .int .i64 s.law.span, .int .i64 s.law.press, .slice A s.rows.length cA, .slice B rs.length cB], .int .i64 k] h (fun v h' => SlR h' 4 sndC (voicesM s rs k) v) := by
  obtain ⟨cs, A2, c2, e, RR, EL⟩ := SlX.els R
  injection e with e1 e2 e3
  subst e1 e3
  have r4 := S.r4
  refine call_body Try.func37 rfl Try.ntmps37 rfl ?_
  refine xp_seq ?_
  refine xp_region rfl ?_
  refine op_box (v := .agg #[.int .i64 _, .int .i64 _, .int .i64 _, .int .i64 _, .slice _ _ _, .slice _ _ _]) (cs := [_, _, _, _, _, _]) rfl rfl fun b2 hb2 => ?_
  refine wp_norm [_] rfl ?_
  refine op_pure (pv_assign (v := .slice _ _ _) rfl) ?_
  refine xp_seq ?_
  refine xp_region rfl ?_
  refine op_pure (pv_assign (v := .slice _ _ _) rfl) ?_
  refine xp_seq ?_
  refine xp_seq ?_
  refine xp_region rfl ?_
  refine op_pure (pv_fieldAddr rfl rfl rfl rfl 5 rfl) ?_
  refine op_loadP 0 (v := .slice _ _ _) rfl rfl rfl rfl ?_
  refine op_pure (pv_len rfl rfl) ?_
  refine op_pure (pv_move (v := .int .i64 _) rfl) ?_
  refine xp_block ?_
  refine goes_more ?_
  refine goes_norm [_, _] rfl ?_
  refine xp_loopL [5, 7, 11, 12, 13, 14, 15, 16, 17, 18, 19, 20, 21, 22, 23, 24, 25, 26, 27] 2 (α := Nat × Acc) (fun ⟨i, a⟩ => [(11, .int .i64 i), (5, .slice a.A a.n a.c)]) (fun ⟨i, a⟩ L => L.set 1 (a.p)) (fun ⟨i, a⟩ h_i => i ≤ rs.length ∧ AccR 85 4 ((voicesM s (rs.take i) k).flatMap sndC) a) (fun ⟨i, a⟩ => rs.length - i) ((0, acc0)) ⟨rfl, rfl, trivial⟩ (rfl) (⟨Nat.zero_le _, accR0⟩) ?_
  rintro ⟨i, a⟩ T1 h_i E_i J_i
  refine goes_norm [_, _] rfl ?_
  obtain ⟨K1, K2⟩ := J_i
  refine xp_seq ?_
  refine xp_region rfl ?_
  refine op_pure (pv_of (v := .bool _) rfl) ?_
  refine xp_seq ?_
  refine xp_cond rfl (fun hi => ?_) (fun hi => ?_)
  · skip
    have hil : i < rs.length := ltI hi
    obtain ⟨g, off, hA, hc⟩ := (RB.ext E_i).at (by omega) hil
    have gb := G.b _ (List.getElem_mem hil)
    obtain ⟨q, hq⟩ : ∃ q : Nat, rs[i] = (q : Int) := ⟨rs[i].toNat, by omega⟩
    have hql : q < s.rows.length := by omega
    have rn := S.rn _ (List.getElem_mem hql)
    obtain ⟨hic, v9, e9, B9, d9, ev9, R10⟩ := (EL.ext TS.mono E_i).at hql
    obtain ⟨g2, off2, hA2, hc2⟩ := (RR.ext E_i).at (by omega) hic
    have hc2 : Cells h_i g2 (off2 + q * 1) [.slice B9 s.rows[q].length d9] := by rw [← ev9, ← e9]; exact hc2
    have hkr : k < s.rows[q].length := by omega
    obtain ⟨g3, off3, hA3, hc3⟩ := R10.at (by omega) hkr
    have hv : voiceM s k rs[i] = s.rows[q][k] := by
      unfold voiceM
      rw [hq, show ((q : Int)).toNat = q from rfl, List.getD_eq_getElem?_getD, List.getD_eq_getElem?_getD, List.getElem?_eq_getElem hql, Option.getD_some, List.getElem?_eq_getElem hkr]
      rfl
    rw [hq] at hc
    refine xp_skip ?_
    refine xp_seq ?_
    refine xp_block ?_
    refine xp_seq ?_
    refine xp_region rfl ?_
    refine op_pure (pv_indexE rfl hA rfl rfl rfl (by omega) (by omega)) ?_
    refine op_load (v := .int .i64 _) rfl rfl ((hc) 0 _ rfl) ?_
    refine op_pure (pv_assign (v := .int .i64 _) rfl) ?_
    refine xp_region rfl ?_
    refine op_pure (pv_move (v := .slice _ _ _) rfl) ?_
    refine op_pure (pv_fieldAddr rfl rfl rfl rfl 0 rfl) ?_
    refine op_pure (pv_fieldAddr rfl rfl rfl rfl 4 rfl) ?_
    refine op_loadP 0 (v := .slice _ _ _) rfl rfl rfl rfl ?_
    refine op_pure (pv_move (v := .int .i64 _) rfl) ?_
    refine op_pure (pv_indexE (m := 1) rfl hA2 rfl rfl rfl (by omega) (by omega)) ?_
    refine op_load (v := .slice _ _ _) rfl rfl ((hc2) 0 _ rfl) ?_
    refine op_pure (pv_move (v := .int .i64 _) rfl) ?_
    refine op_pure (pv_indexE rfl hA3 rfl rfl rfl (by omega) (by omega)) ?_
    refine op_loadA rfl rfl rfl rfl (hc3) ?_
    refine op_buildSlice (zc := [_, _, _, _]) (vs := [(0, .agg #[.int .i64 _, .int .i64 _, .int .i64 _, .int .i64 _])]) (cs := [_, _, _, _]) rfl rfl rfl rfl rfl rfl rfl fun b25 hb25 => ?_
    refine wp_norm [_, _, _] rfl ?_
    refine op_appendR 1 K2 rfl rfl rfl (fun V => rdP V (i := 2) rfl) rfl rfl rfl rfl rfl rfl rfl rfl rfl (by omega) rfl (by rw [flat_len (m := 4) (fun _ _ => rfl)]; unfold voicesM; simp; omega) fun a2 h2a E2a ha2 => ?_
    refine wp_norm [_, _, _] rfl ?_
    refine op_pure (pv_assign (v := .slice _ _ _) rfl) ?_
    refine xp_region rfl ?_
    refine op_pure (pv_arith rfl (by omega)) ?_
    refine op_pure (pv_move (v := .int .i64 _) rfl) ?_
    refine ⟨(i + 1, a2), ⟨rfl, rfl, trivial⟩, rfl, rfl, (Ext.trans E_i E2a), fun h3 E3 => ⟨hil, by unfold voicesM; rw [take_snoc hil, List.map_append, List.flatMap_append, List.map_singleton, hv]; exact ha2⟩, by first | omega | (dsimp only; omega), ?_⟩
    repeat (first | exact off_base _ _ _ | refine off_upd (by decide) ?_ | refine off_updL rfl ?_ | refine off_mix rfl ?_)
  · skip
    have hie : i = rs.length := by have := geI hi; omega
    subst hie
    rw [List.take_length] at K2
    refine xp_exit ?_
    refine xp_seq ?_
    refine xp_region rfl ?_
    refine op_pure (pv_move (v := .slice _ _ _) rfl) ?_
    refine op_pure (pv_assign (v := .slice _ _ _) rfl) ?_
    refine xp_ret ?_
    refine res_list (vs := [_]) Try.results37 ⟨resV_tmp rfl rfl, trivial⟩ fun V => ?_
    exact ⟨(Ext.trans E_i (ext_wl V)), AccP.row (i := 1) K2 (by omega) (fun _ _ => rfl) V rfl⟩
end
end Go.Proofs.Ytlfbcimcehcomaa
/- Walks of package rod: the checks of links, machines and hands. Conditions: as each theorem states. -/
namespace Go.Proofs.Ytlfbcimcehcomaa
open Go Go.HL Go.Proofs Go.Wx Go.Rd
variable [Lvl]
set_option maxRecDepth 100000
theorem checkLink_ok (m : MachP) (l : LinkP) (AB AQ AL AW : Option Addr) (cB cQ cL cW : Nat) (h : AH) (hr : -100 ≤ m.rods ∧ m.rods ≤ 100) (hg : -100 ≤ m.regs ∧ m.regs ≤ 100) : FnT Try.prog 70 #[machV AB AQ AL AW cB cQ cL cW m, .agg (linkC l).toArray] h (fun v _ => v = .int .i64 (checkLinkM m l)) := by
  refine call_body Try.func70 rfl Try.ntmps70 rfl ?_
  refine xp_seq ?_
  refine xp_region rfl ?_
  refine op_box (v := .agg #[.int .i64 _, .int .i64 _, .int .i64 _, .int .i64 _, .int .i64 _, .slice _ _ _, .slice _ _ _, .slice _ _ _, .slice _ _ _]) (cs := [_, _, _, _, _, _, _, _, _]) rfl rfl fun b2 hb2 => ?_
  refine wp_norm [_] rfl ?_
  refine op_box (v := .agg #[.int .i64 _, .int .i64 _, .int .i64 _, .int .i64 _]) (cs := [_, _, _, _]) rfl rfl fun b3 hb3 => ?_
  refine wp_norm [_, _] rfl ?_
  refine op_pure (pv_assign (v := .int .i64 _) rfl) ?_
  refine xp_seq ?_
  refine xp_block ?_
  refine xp_seq ?_
  refine xp_region rfl ?_
  refine op_pure (pv_fieldAddr rfl rfl rfl rfl 0 rfl) ?_
  refine op_loadP 1 (v := .int .i64 _) rfl rfl rfl rfl ?_
  refine op_pure (pv_fieldAddr rfl rfl rfl rfl 0 rfl) ?_
  refine op_loadP 0 (v := .int .i64 _) rfl rfl rfl rfl ?_
  refine op_pure (pv_arith rfl (by omega)) ?_
  refine op_fn (caps := []) (vs := [.int .i64 _, .int .i64 _, .int .i64 _]) rfl rfl rfl (within_ok _ _ _ h) ?_
  rintro _ h1 E1 rfl
  refine op_pure (pv_of (v := .bool _) rfl) ?_
  refine op_pure (pv_move (v := .bool _) rfl) ?_
  refine guard_case rfl (fun hg2 => ?_) (fun hg2 => ?_)
  · replace hg2 : _ = false := hg2
    refine op_pure (pv_fieldAddr rfl rfl rfl rfl 1 rfl) ?_
    refine guard_yes rfl hg2 ?_
    refine op_loadP 1 (v := .int .i64 _) rfl rfl rfl rfl ?_
    refine guard_yes rfl hg2 ?_
    refine op_pure (pv_fieldAddr rfl rfl rfl rfl 0 rfl) ?_
    refine guard_yes rfl hg2 ?_
    refine op_loadP 0 (v := .int .i64 _) rfl rfl rfl rfl ?_
    refine guard_yes rfl hg2 ?_
    refine op_pure (pv_arith rfl (by omega)) ?_
    refine guard_yes rfl hg2 ?_
    refine op_fn (caps := []) (vs := [.int .i64 _, .int .i64 _, .int .i64 _]) rfl rfl rfl (within_ok _ _ _ h1) ?_
    rintro _ h3 E3 rfl
    refine guard_yes rfl hg2 ?_
    refine op_pure (pv_of (v := .bool _) rfl) ?_
    refine op_pure (pv_pickF rfl hg2 (v := .bool _) rfl) ?_
    refine op_pure (pv_assign (v := .bool _) rfl) ?_
    refine xp_cond rfl (fun hc4 => ?_) (fun hc4 => ?_)
    · refine xp_seq ?_
      refine xp_region rfl ?_
      refine op_pure (pv_assign (v := .int .i64 _) rfl) ?_
      refine xp_ret ?_
      refine res_list (vs := [_]) Try.results70 ⟨resV_tmp rfl rfl, trivial⟩ fun V => ?_
      exact ⟨(Ext.trans (Ext.trans E1 E3) (ext_wl V)), intE (by unfold checkLinkM; simp_all)⟩
    · refine xp_seq ?_
      refine xp_region rfl ?_
      refine op_pure (pv_fieldAddr rfl rfl rfl rfl 0 rfl) ?_
      refine op_loadP 1 (v := .int .i64 _) rfl rfl rfl rfl ?_
      refine op_pure (pv_fieldAddr rfl rfl rfl rfl 1 rfl) ?_
      refine op_loadP 1 (v := .int .i64 _) rfl rfl rfl rfl ?_
      refine op_pure (pv_of (v := .bool _) rfl) ?_
      refine op_pure (pv_assign (v := .bool _) rfl) ?_
      refine xp_cond rfl (fun hc5 => ?_) (fun hc5 => ?_)
      · refine xp_seq ?_
        refine xp_region rfl ?_
        refine op_pure (pv_assign (v := .int .i64 _) rfl) ?_
        refine xp_ret ?_
        refine res_list (vs := [_]) Try.results70 ⟨resV_tmp rfl rfl, trivial⟩ fun V => ?_
        exact ⟨(Ext.trans (Ext.trans E1 E3) (ext_wl V)), intE (by unfold checkLinkM; simp_all)⟩
      · refine xp_seq ?_
        refine xp_region rfl ?_
        refine op_pure (pv_fieldAddr rfl rfl rfl rfl 2 rfl) ?_
        refine op_loadP 1 (v := .int .i64 _) rfl rfl rfl rfl ?_
        refine op_pure (pv_fieldAddr rfl rfl rfl rfl 2 rfl) ?_
        refine op_loadP 0 (v := .int .i64 _) rfl rfl rfl rfl ?_
        refine op_pure (pv_arith rfl (by omega)) ?_
        refine op_fn (caps := []) (vs := [.int .i64 _, .int .i64 _, .int .i64 _]) rfl rfl rfl (within_ok _ _ _ h3) ?_
        rintro _ h6 E6 rfl
        refine op_pure (pv_of (v := .bool _) rfl) ?_
        refine op_pure (pv_assign (v := .bool _) rfl) ?_
        refine xp_cond rfl (fun hc7 => ?_) (fun hc7 => ?_)
        · refine xp_seq ?_
          refine xp_region rfl ?_
          refine op_pure (pv_assign (v := .int .i64 _) rfl) ?_
          refine xp_ret ?_
          refine res_list (vs := [_]) Try.results70 ⟨resV_tmp rfl rfl, trivial⟩ fun V => ?_
          exact ⟨(Ext.trans (Ext.trans (Ext.trans E1 E3) E6) (ext_wl V)), intE (by unfold checkLinkM; simp_all)⟩
        · refine xp_seq ?_
          refine xp_region rfl ?_
          refine op_pure (pv_fieldAddr rfl rfl rfl rfl 3 rfl) ?_
          refine op_loadP 1 (v := .int .i64 _) rfl rfl rfl rfl ?_
          refine op_pure (pv_fieldAddr rfl rfl rfl rfl 3 rfl) ?_
          refine op_loadP 0 (v := .int .i64 _) rfl rfl rfl rfl ?_
          refine op_fn (caps := []) (vs := [.int .i64 _, .int .i64 _, .int .i64 _]) rfl rfl rfl (within_ok _ _ _ h6) ?_
          rintro _ h8 E8 rfl
          refine op_pure (pv_of (v := .bool _) rfl) ?_
          refine op_pure (pv_assign (v := .bool _) rfl) ?_
          refine xp_cond rfl (fun hc9 => ?_) (fun hc9 => ?_)
          · refine xp_seq ?_
            refine xp_region rfl ?_
            refine op_pure (pv_assign (v := .int .i64 _) rfl) ?_
            refine xp_ret ?_
            refine res_list (vs := [_]) Try.results70 ⟨resV_tmp rfl rfl, trivial⟩ fun V => ?_
            exact ⟨(Ext.trans (Ext.trans (Ext.trans (Ext.trans E1 E3) E6) E8) (ext_wl V)), intE (by unfold checkLinkM; simp_all)⟩
          · refine xp_skip ?_
            refine xp_seq ?_
            refine xp_region rfl ?_
            refine op_pure (pv_assign (v := .int .i64 _) rfl) ?_
            refine xp_ret ?_
            refine res_list (vs := [_]) Try.results70 ⟨resV_tmp rfl rfl, trivial⟩ fun V => ?_
            exact ⟨(Ext.trans (Ext.trans (Ext.trans (Ext.trans E1 E3) E6) E8) (ext_wl V)), intE (by unfold checkLinkM; simp_all)⟩
  · replace hg2 : _ = true := hg2
    refine guard_no rfl hg2 ?_
    refine guard_no rfl hg2 ?_
    refine guard_no rfl hg2 ?_
    refine guard_no rfl hg2 ?_
    refine guard_no rfl hg2 ?_
    refine guard_no rfl hg2 ?_
    refine op_pure (pv_pickT rfl hg2 (v := .bool _) rfl) ?_
    refine op_pure (pv_assign (v := .bool _) rfl) ?_
    refine xp_cond rfl (fun hc10 => ?_) (fun hc10 => ?_)
    · refine xp_seq ?_
      refine xp_region rfl ?_
      refine op_pure (pv_assign (v := .int .i64 _) rfl) ?_
      refine xp_ret ?_
      refine res_list (vs := [_]) Try.results70 ⟨resV_tmp rfl rfl, trivial⟩ fun V => ?_
      exact ⟨(Ext.trans E1 (ext_wl V)), intE (by unfold checkLinkM; simp_all)⟩
    · refine xp_seq ?_
      refine xp_region rfl ?_
      refine op_pure (pv_fieldAddr rfl rfl rfl rfl 0 rfl) ?_
      refine op_loadP 1 (v := .int .i64 _) rfl rfl rfl rfl ?_
      refine op_pure (pv_fieldAddr rfl rfl rfl rfl 1 rfl) ?_
      refine op_loadP 1 (v := .int .i64 _) rfl rfl rfl rfl ?_
      refine op_pure (pv_of (v := .bool _) rfl) ?_
      refine op_pure (pv_assign (v := .bool _) rfl) ?_
      refine xp_cond rfl (fun hc11 => ?_) (fun hc11 => ?_)
      · refine xp_seq ?_
        refine xp_region rfl ?_
        refine op_pure (pv_assign (v := .int .i64 _) rfl) ?_
        refine xp_ret ?_
        refine res_list (vs := [_]) Try.results70 ⟨resV_tmp rfl rfl, trivial⟩ fun V => ?_
        exact ⟨(Ext.trans E1 (ext_wl V)), intE (by unfold checkLinkM; simp_all)⟩
      · refine xp_seq ?_
        refine xp_region rfl ?_
        refine op_pure (pv_fieldAddr rfl rfl rfl rfl 2 rfl) ?_
        refine op_loadP 1 (v := .int .i64 _) rfl rfl rfl rfl ?_
        refine op_pure (pv_fieldAddr rfl rfl rfl rfl 2 rfl) ?_
        refine op_loadP 0 (v := .int .i64 _) rfl rfl rfl rfl ?_
        refine op_pure (pv_arith rfl (by omega)) ?_
        refine op_fn (caps := []) (vs := [.int .i64 _, .int .i64 _, .int .i64 _]) rfl rfl rfl (within_ok _ _ _ h1) ?_
        rintro _ h12 E12 rfl
        refine op_pure (pv_of (v := .bool _) rfl) ?_
        refine op_pure (pv_assign (v := .bool _) rfl) ?_
        refine xp_cond rfl (fun hc13 => ?_) (fun hc13 => ?_)
        · refine xp_seq ?_
          refine xp_region rfl ?_
          refine op_pure (pv_assign (v := .int .i64 _) rfl) ?_
          refine xp_ret ?_
          refine res_list (vs := [_]) Try.results70 ⟨resV_tmp rfl rfl, trivial⟩ fun V => ?_
          exact ⟨(Ext.trans (Ext.trans E1 E12) (ext_wl V)), intE (by unfold checkLinkM; simp_all)⟩
        · refine xp_seq ?_
          refine xp_region rfl ?_
          refine op_pure (pv_fieldAddr rfl rfl rfl rfl 3 rfl) ?_
          refine op_loadP 1 (v := .int .i64 _) rfl rfl rfl rfl ?_
          refine op_pure (pv_fieldAddr rfl rfl rfl rfl 3 rfl) ?_
          refine op_loadP 0 (v := .int .i64 _) rfl rfl rfl rfl ?_
          refine op_fn (caps := []) (vs := [.int .i64 _, .int .i64 _, .int .i64 _]) rfl rfl rfl (within_ok _ _ _ h12) ?_
          rintro _ h14 E14 rfl
          refine op_pure (pv_of (v := .bool _) rfl) ?_
          refine op_pure (pv_assign (v := .bool _) rfl) ?_
          refine xp_cond rfl (fun hc15 => ?_) (fun hc15 => ?_)
          · refine xp_seq ?_
            refine xp_region rfl ?_
            refine op_pure (pv_assign (v := .int .i64 _) rfl) ?_
            refine xp_ret ?_
            refine res_list (vs := [_]) Try.results70 ⟨resV_tmp rfl rfl, trivial⟩ fun V => ?_
            exact ⟨(Ext.trans (Ext.trans (Ext.trans E1 E12) E14) (ext_wl V)), intE (by unfold checkLinkM; simp_all)⟩
          · refine xp_skip ?_
            refine xp_seq ?_
            refine xp_region rfl ?_
            refine op_pure (pv_assign (v := .int .i64 _) rfl) ?_
            refine xp_ret ?_
            refine res_list (vs := [_]) Try.results70 ⟨resV_tmp rfl rfl, trivial⟩ fun V => ?_
            exact ⟨(Ext.trans (Ext.trans (Ext.trans E1 E12) E14) (ext_wl V)), intE (by unfold checkLinkM; simp_all)⟩
def headB (m : MachP) : Bool := !inM m.rods 1 6 || !inM m.levers 1 6 || !inM m.regs 0 2 || !inM m.travel 1 12 || !inM m.opn 1 m.travel
def chk4 (m : MachP) : Int := if (m.weights.length : Int) ≠ m.levers then 2 else firstErr checkWeightM m.weights
def chk3 (m : MachP) : Int := if m.links.length > 4 then 6 else if firstErr (checkLinkM m) m.links ≠ 0 then firstErr (checkLinkM m) m.links else chk4 m
def chk2 (m : MachP) : Int := if m.pins.length > 8 then 6 else if firstErr (checkPinM m) m.pins ≠ 0 then firstErr (checkPinM m) m.pins else chk3 m
def chk1 (m : MachP) : Int := if m.buttons.length > 4 then 6 else if firstErr (checkButtonM m) m.buttons ≠ 0 then firstErr (checkButtonM m) m.buttons else chk2 m
theorem chk_head {m : MachP} (e1 : inM m.rods 1 6 = true) (e2 : inM m.levers 1 6 = true) (e3 : inM m.regs 0 2 = true) (e4 : inM m.travel 1 12 = true) (e5 : inM m.opn 1 m.travel = true) : chkM m = chk1 m := by
  unfold chkM
  rw [e1, e2, e3, e4, e5]
  rfl
set_option maxHeartbeats 4000000 in
theorem Check_ok (m : MachP) (AB AQ AL AW : Option Addr) (cB cQ cL cW : Nat) (h : AH) (R : MachR h AB AQ AL AW m) (h0 : m.weights.length < 2 ^ 40) : FnT Try.prog 38 #[machV AB AQ AL AW cB cQ cL cW m] h (fun v _ => v = .int .i64 (chkM m)) := by
  refine call_body Try.func38 rfl Try.ntmps38 rfl ?_
  refine xp_seq ?_
  refine xp_region rfl ?_
  refine op_box (v := .agg #[.int .i64 _, .int .i64 _, .int .i64 _, .int .i64 _, .int .i64 _, .slice _ _ _, .slice _ _ _, .slice _ _ _, .slice _ _ _]) (cs := [_, _, _, _, _, _, _, _, _]) rfl rfl fun b1 hb1 => ?_
  refine wp_norm [_] rfl ?_
  refine op_pure (pv_assign (v := .int .i64 _) rfl) ?_
  refine xp_seq ?_
  refine xp_cutB [12, 13, 14, 15, 16, 17, 18, 19, 20, 21, 22, 23, 24, 25, 26, 27, 28, 29, 30, 31, 32, 33, 34, 35, 36, 37, 38, 39, 40, 41] 1 (α := Unit) (fun u => [(41, .bool (headB m))]) (fun u L => L) (fun u h_u => True) ?_ ?_
  · skip
    refine xp_region rfl ?_
    refine op_pure (pv_fieldAddr rfl rfl rfl rfl 0 rfl) ?_
    refine op_loadP 0 (v := .int .i64 _) rfl rfl rfl rfl ?_
    refine op_fn (caps := []) (vs := [.int .i64 _, .int .i64 _, .int .i64 _]) rfl rfl rfl (within_ok _ _ _ h) ?_
    rintro _ h2 E2 rfl
    refine op_pure (pv_of (v := .bool _) rfl) ?_
    refine op_pure (pv_move (v := .bool _) rfl) ?_
    refine guard_case rfl (fun hg3 => ?_) (fun hg3 => ?_)
    · replace hg3 : _ = false := hg3
      refine op_pure (pv_fieldAddr rfl rfl rfl rfl 1 rfl) ?_
      refine guard_yes rfl hg3 ?_
      refine op_loadP 0 (v := .int .i64 _) rfl rfl rfl rfl ?_
      refine guard_yes rfl hg3 ?_
      refine op_fn (caps := []) (vs := [.int .i64 _, .int .i64 _, .int .i64 _]) rfl rfl rfl (within_ok _ _ _ h2) ?_
      rintro _ h4 E4 rfl
      refine guard_yes rfl hg3 ?_
      refine op_pure (pv_of (v := .bool _) rfl) ?_
      refine op_pure (pv_pickF rfl hg3 (v := .bool _) rfl) ?_
      refine op_pure (pv_move (v := .bool _) rfl) ?_
      refine guard_case rfl (fun hg5 => ?_) (fun hg5 => ?_)
      · replace hg5 : _ = false := hg5
        refine op_pure (pv_fieldAddr rfl rfl rfl rfl 2 rfl) ?_
        refine guard_yes rfl hg5 ?_
        refine op_loadP 0 (v := .int .i64 _) rfl rfl rfl rfl ?_
        refine guard_yes rfl hg5 ?_
        refine op_fn (caps := []) (vs := [.int .i64 _, .int .i64 _, .int .i64 _]) rfl rfl rfl (within_ok _ _ _ h4) ?_
        rintro _ h6 E6 rfl
        refine guard_yes rfl hg5 ?_
        refine op_pure (pv_of (v := .bool _) rfl) ?_
        refine op_pure (pv_pickF rfl hg5 (v := .bool _) rfl) ?_
        refine op_pure (pv_move (v := .bool _) rfl) ?_
        refine guard_case rfl (fun hg7 => ?_) (fun hg7 => ?_)
        · replace hg7 : _ = false := hg7
          refine op_pure (pv_fieldAddr rfl rfl rfl rfl 3 rfl) ?_
          refine guard_yes rfl hg7 ?_
          refine op_loadP 0 (v := .int .i64 _) rfl rfl rfl rfl ?_
          refine guard_yes rfl hg7 ?_
          refine op_fn (caps := []) (vs := [.int .i64 _, .int .i64 _, .int .i64 _]) rfl rfl rfl (within_ok _ _ _ h6) ?_
          rintro _ h8 E8 rfl
          refine guard_yes rfl hg7 ?_
          refine op_pure (pv_of (v := .bool _) rfl) ?_
          refine op_pure (pv_pickF rfl hg7 (v := .bool _) rfl) ?_
          refine op_pure (pv_move (v := .bool _) rfl) ?_
          refine guard_case rfl (fun hg9 => ?_) (fun hg9 => ?_)
          · replace hg9 : _ = false := hg9
            refine op_pure (pv_fieldAddr rfl rfl rfl rfl 4 rfl) ?_
            refine guard_yes rfl hg9 ?_
            refine op_loadP 0 (v := .int .i64 _) rfl rfl rfl rfl ?_
            refine guard_yes rfl hg9 ?_
            refine op_pure (pv_fieldAddr rfl rfl rfl rfl 3 rfl) ?_
            refine guard_yes rfl hg9 ?_
            refine op_loadP 0 (v := .int .i64 _) rfl rfl rfl rfl ?_
            refine guard_yes rfl hg9 ?_
            refine op_fn (caps := []) (vs := [.int .i64 _, .int .i64 _, .int .i64 _]) rfl rfl rfl (within_ok _ _ _ h8) ?_
            rintro _ h10 E10 rfl
            refine guard_yes rfl hg9 ?_
            refine op_pure (pv_of (v := .bool _) rfl) ?_
            refine op_pure (pv_pickF rfl hg9 (v := .bool _) rfl) ?_
            refine ⟨(), ⟨(boolE (by first | contradiction | (unfold headB; simp only [*, Bool.or_true, Bool.true_or, Bool.false_or, Bool.or_false, Bool.not_true, Bool.not_false]))), trivial⟩, rfl, rfl, (Ext.trans (Ext.trans (Ext.trans (Ext.trans E2 E4) E6) E8) E10), fun h3 E3 => by first | trivial | omega | (refine ⟨?_, ?_⟩ <;> omega), ?_⟩
            repeat (first | exact off_refl _ _ | exact off_base _ _ _ | refine off_upd (by decide) ?_ | refine off_updL rfl ?_ | refine off_mix rfl ?_)
          · replace hg9 : _ = true := hg9
            refine guard_no rfl hg9 ?_
            refine guard_no rfl hg9 ?_
            refine guard_no rfl hg9 ?_
            refine guard_no rfl hg9 ?_
            refine guard_no rfl hg9 ?_
            refine op_pure (pv_pickT rfl hg9 (v := .bool _) rfl) ?_
            refine ⟨(), ⟨(boolE (by first | contradiction | (unfold headB; simp only [*, Bool.or_true, Bool.true_or, Bool.false_or, Bool.or_false, Bool.not_true, Bool.not_false]))), trivial⟩, rfl, rfl, (Ext.trans (Ext.trans (Ext.trans E2 E4) E6) E8), fun h3 E3 => by first | trivial | omega | (refine ⟨?_, ?_⟩ <;> omega), ?_⟩
            repeat (first | exact off_refl _ _ | exact off_base _ _ _ | refine off_upd (by decide) ?_ | refine off_updL rfl ?_ | refine off_mix rfl ?_)
        · replace hg7 : _ = true := hg7
          refine guard_no rfl hg7 ?_
          refine guard_no rfl hg7 ?_
          refine guard_no rfl hg7 ?_
          refine op_pure (pv_pickT rfl hg7 (v := .bool _) rfl) ?_
          refine op_pure (pv_move (v := .bool _) rfl) ?_
          refine guard_case rfl (fun hg11 => ?_) (fun hg11 => ?_)
          · replace hg11 : _ = false := hg11
            refine op_pure (pv_fieldAddr rfl rfl rfl rfl 4 rfl) ?_
            refine guard_yes rfl hg11 ?_
            refine op_loadP 0 (v := .int .i64 _) rfl rfl rfl rfl ?_
            refine guard_yes rfl hg11 ?_
            refine op_pure (pv_fieldAddr rfl rfl rfl rfl 3 rfl) ?_
            refine guard_yes rfl hg11 ?_
            refine op_loadP 0 (v := .int .i64 _) rfl rfl rfl rfl ?_
            refine guard_yes rfl hg11 ?_
            refine op_fn (caps := []) (vs := [.int .i64 _, .int .i64 _, .int .i64 _]) rfl rfl rfl (within_ok _ _ _ h6) ?_
            rintro _ h12 E12 rfl
            refine guard_yes rfl hg11 ?_
            refine op_pure (pv_of (v := .bool _) rfl) ?_
            refine op_pure (pv_pickF rfl hg11 (v := .bool _) rfl) ?_
            refine ⟨(), ⟨(boolE (by first | contradiction | (unfold headB; simp only [*, Bool.or_true, Bool.true_or, Bool.false_or, Bool.or_false, Bool.not_true, Bool.not_false]))), trivial⟩, rfl, rfl, (Ext.trans (Ext.trans (Ext.trans E2 E4) E6) E12), fun h3 E3 => by first | trivial | omega | (refine ⟨?_, ?_⟩ <;> omega), ?_⟩
            repeat (first | exact off_refl _ _ | exact off_base _ _ _ | refine off_upd (by decide) ?_ | refine off_updL rfl ?_ | refine off_mix rfl ?_)
          · replace hg11 : _ = true := hg11
            refine guard_no rfl hg11 ?_
            refine guard_no rfl hg11 ?_
            refine guard_no rfl hg11 ?_
            refine guard_no rfl hg11 ?_
            refine guard_no rfl hg11 ?_
            refine op_pure (pv_pickT rfl hg11 (v := .bool _) rfl) ?_
            refine ⟨(), ⟨(boolE (by first | contradiction | (unfold headB; simp only [*, Bool.or_true, Bool.true_or, Bool.false_or, Bool.or_false, Bool.not_true, Bool.not_false]))), trivial⟩, rfl, rfl, (Ext.trans (Ext.trans E2 E4) E6), fun h3 E3 => by first | trivial | omega | (refine ⟨?_, ?_⟩ <;> omega), ?_⟩
            repeat (first | exact off_refl _ _ | exact off_base _ _ _ | refine off_upd (by decide) ?_ | refine off_updL rfl ?_ | refine off_mix rfl ?_)
      · replace hg5 : _ = true := hg5
        refine guard_no rfl hg5 ?_
        refine guard_no rfl hg5 ?_
        refine guard_no rfl hg5 ?_
        refine op_pure (pv_pickT rfl hg5 (v := .bool _) rfl) ?_
        refine op_pure (pv_move (v := .bool _) rfl) ?_
        refine guard_case rfl (fun hg13 => ?_) (fun hg13 => ?_)
        · replace hg13 : _ = false := hg13
          refine op_pure (pv_fieldAddr rfl rfl rfl rfl 3 rfl) ?_
          refine guard_yes rfl hg13 ?_
          refine op_loadP 0 (v := .int .i64 _) rfl rfl rfl rfl ?_
          refine guard_yes rfl hg13 ?_
          refine op_fn (caps := []) (vs := [.int .i64 _, .int .i64 _, .int .i64 _]) rfl rfl rfl (within_ok _ _ _ h4) ?_
          rintro _ h14 E14 rfl
          refine guard_yes rfl hg13 ?_
          refine op_pure (pv_of (v := .bool _) rfl) ?_
          refine op_pure (pv_pickF rfl hg13 (v := .bool _) rfl) ?_
          refine op_pure (pv_move (v := .bool _) rfl) ?_
          refine guard_case rfl (fun hg15 => ?_) (fun hg15 => ?_)
          · replace hg15 : _ = false := hg15
            refine op_pure (pv_fieldAddr rfl rfl rfl rfl 4 rfl) ?_
            refine guard_yes rfl hg15 ?_
            refine op_loadP 0 (v := .int .i64 _) rfl rfl rfl rfl ?_
            refine guard_yes rfl hg15 ?_
            refine op_pure (pv_fieldAddr rfl rfl rfl rfl 3 rfl) ?_
            refine guard_yes rfl hg15 ?_
            refine op_loadP 0 (v := .int .i64 _) rfl rfl rfl rfl ?_
            refine guard_yes rfl hg15 ?_
            refine op_fn (caps := []) (vs := [.int .i64 _, .int .i64 _, .int .i64 _]) rfl rfl rfl (within_ok _ _ _ h14) ?_
            rintro _ h16 E16 rfl
            refine guard_yes rfl hg15 ?_
            refine op_pure (pv_of (v := .bool _) rfl) ?_
            refine op_pure (pv_pickF rfl hg15 (v := .bool _) rfl) ?_
            refine ⟨(), ⟨(boolE (by first | contradiction | (unfold headB; simp only [*, Bool.or_true, Bool.true_or, Bool.false_or, Bool.or_false, Bool.not_true, Bool.not_false]))), trivial⟩, rfl, rfl, (Ext.trans (Ext.trans (Ext.trans E2 E4) E14) E16), fun h3 E3 => by first | trivial | omega | (refine ⟨?_, ?_⟩ <;> omega), ?_⟩
            repeat (first | exact off_refl _ _ | exact off_base _ _ _ | refine off_upd (by decide) ?_ | refine off_updL rfl ?_ | refine off_mix rfl ?_)
          · replace hg15 : _ = true := hg15
            refine guard_no rfl hg15 ?_
            refine guard_no rfl hg15 ?_
            refine guard_no rfl hg15 ?_
            refine guard_no rfl hg15 ?_
            refine guard_no rfl hg15 ?_
            refine op_pure (pv_pickT rfl hg15 (v := .bool _) rfl) ?_
            refine ⟨(), ⟨(boolE (by first | contradiction | (unfold headB; simp only [*, Bool.or_true, Bool.true_or, Bool.false_or, Bool.or_false, Bool.not_true, Bool.not_false]))), trivial⟩, rfl, rfl, (Ext.trans (Ext.trans E2 E4) E14), fun h3 E3 => by first | trivial | omega | (refine ⟨?_, ?_⟩ <;> omega), ?_⟩
            repeat (first | exact off_refl _ _ | exact off_base _ _ _ | refine off_upd (by decide) ?_ | refine off_updL rfl ?_ | refine off_mix rfl ?_)
        · replace hg13 : _ = true := hg13
          refine guard_no rfl hg13 ?_
          refine guard_no rfl hg13 ?_
          refine guard_no rfl hg13 ?_
          refine op_pure (pv_pickT rfl hg13 (v := .bool _) rfl) ?_
          refine op_pure (pv_move (v := .bool _) rfl) ?_
          refine guard_case rfl (fun hg17 => ?_) (fun hg17 => ?_)
          · replace hg17 : _ = false := hg17
            refine op_pure (pv_fieldAddr rfl rfl rfl rfl 4 rfl) ?_
            refine guard_yes rfl hg17 ?_
            refine op_loadP 0 (v := .int .i64 _) rfl rfl rfl rfl ?_
            refine guard_yes rfl hg17 ?_
            refine op_pure (pv_fieldAddr rfl rfl rfl rfl 3 rfl) ?_
            refine guard_yes rfl hg17 ?_
            refine op_loadP 0 (v := .int .i64 _) rfl rfl rfl rfl ?_
            refine guard_yes rfl hg17 ?_
            refine op_fn (caps := []) (vs := [.int .i64 _, .int .i64 _, .int .i64 _]) rfl rfl rfl (within_ok _ _ _ h4) ?_
            rintro _ h18 E18 rfl
            refine guard_yes rfl hg17 ?_
            refine op_pure (pv_of (v := .bool _) rfl) ?_
            refine op_pure (pv_pickF rfl hg17 (v := .bool _) rfl) ?_
            refine ⟨(), ⟨(boolE (by first | contradiction | (unfold headB; simp only [*, Bool.or_true, Bool.true_or, Bool.false_or, Bool.or_false, Bool.not_true, Bool.not_false]))), trivial⟩, rfl, rfl, (Ext.trans (Ext.trans E2 E4) E18), fun h3 E3 => by first | trivial | omega | (refine ⟨?_, ?_⟩ <;> omega), ?_⟩
            repeat (first | exact off_refl _ _ | exact off_base _ _ _ | refine off_upd (by decide) ?_ | refine off_updL rfl ?_ | refine off_mix rfl ?_)
          · replace hg17 : _ = true := hg17
            refine guard_no rfl hg17 ?_
            refine guard_no rfl hg17 ?_
            refine guard_no rfl hg17 ?_
            refine guard_no rfl hg17 ?_
            refine guard_no rfl hg17 ?_
            refine op_pure (pv_pickT rfl hg17 (v := .bool _) rfl) ?_
            refine ⟨(), ⟨(boolE (by first | contradiction | (unfold headB; simp only [*, Bool.or_true, Bool.true_or, Bool.false_or, Bool.or_false, Bool.not_true, Bool.not_false]))), trivial⟩, rfl, rfl, (Ext.trans E2 E4), fun h3 E3 => by first | trivial | omega | (refine ⟨?_, ?_⟩ <;> omega), ?_⟩
            repeat (first | exact off_refl _ _ | exact off_base _ _ _ | refine off_upd (by decide) ?_ | refine off_updL rfl ?_ | refine off_mix rfl ?_)
    · replace hg3 : _ = true := hg3
      refine guard_no rfl hg3 ?_
      refine guard_no rfl hg3 ?_
      refine guard_no rfl hg3 ?_
      refine op_pure (pv_pickT rfl hg3 (v := .bool _) rfl) ?_
      refine op_pure (pv_move (v := .bool _) rfl) ?_
      refine guard_case rfl (fun hg19 => ?_) (fun hg19 => ?_)
      · replace hg19 : _ = false := hg19
        refine op_pure (pv_fieldAddr rfl rfl rfl rfl 2 rfl) ?_
        refine guard_yes rfl hg19 ?_
        refine op_loadP 0 (v := .int .i64 _) rfl rfl rfl rfl ?_
        refine guard_yes rfl hg19 ?_
        refine op_fn (caps := []) (vs := [.int .i64 _, .int .i64 _, .int .i64 _]) rfl rfl rfl (within_ok _ _ _ h2) ?_
        rintro _ h20 E20 rfl
        refine guard_yes rfl hg19 ?_
        refine op_pure (pv_of (v := .bool _) rfl) ?_
        refine op_pure (pv_pickF rfl hg19 (v := .bool _) rfl) ?_
        refine op_pure (pv_move (v := .bool _) rfl) ?_
        refine guard_case rfl (fun hg21 => ?_) (fun hg21 => ?_)
        · replace hg21 : _ = false := hg21
          refine op_pure (pv_fieldAddr rfl rfl rfl rfl 3 rfl) ?_
          refine guard_yes rfl hg21 ?_
          refine op_loadP 0 (v := .int .i64 _) rfl rfl rfl rfl ?_
          refine guard_yes rfl hg21 ?_
          refine op_fn (caps := []) (vs := [.int .i64 _, .int .i64 _, .int .i64 _]) rfl rfl rfl (within_ok _ _ _ h20) ?_
          rintro _ h22 E22 rfl
          refine guard_yes rfl hg21 ?_
          refine op_pure (pv_of (v := .bool _) rfl) ?_
          refine op_pure (pv_pickF rfl hg21 (v := .bool _) rfl) ?_
          refine op_pure (pv_move (v := .bool _) rfl) ?_
          refine guard_case rfl (fun hg23 => ?_) (fun hg23 => ?_)
          · replace hg23 : _ = false := hg23
            refine op_pure (pv_fieldAddr rfl rfl rfl rfl 4 rfl) ?_
            refine guard_yes rfl hg23 ?_
            refine op_loadP 0 (v := .int .i64 _) rfl rfl rfl rfl ?_
            refine guard_yes rfl hg23 ?_
            refine op_pure (pv_fieldAddr rfl rfl rfl rfl 3 rfl) ?_
            refine guard_yes rfl hg23 ?_
            refine op_loadP 0 (v := .int .i64 _) rfl rfl rfl rfl ?_
            refine guard_yes rfl hg23 ?_
            refine op_fn (caps := []) (vs := [.int .i64 _, .int .i64 _, .int .i64 _]) rfl rfl rfl (within_ok _ _ _ h22) ?_
            rintro _ h24 E24 rfl
            refine guard_yes rfl hg23 ?_
            refine op_pure (pv_of (v := .bool _) rfl) ?_
            refine op_pure (pv_pickF rfl hg23 (v := .bool _) rfl) ?_
            refine ⟨(), ⟨(boolE (by first | contradiction | (unfold headB; simp only [*, Bool.or_true, Bool.true_or, Bool.false_or, Bool.or_false, Bool.not_true, Bool.not_false]))), trivial⟩, rfl, rfl, (Ext.trans (Ext.trans (Ext.trans E2 E20) E22) E24), fun h3 E3 => by first | trivial | omega | (refine ⟨?_, ?_⟩ <;> omega), ?_⟩
            repeat (first | exact off_refl _ _ | exact off_base _ _ _ | refine off_upd (by decide) ?_ | refine off_updL rfl ?_ | refine off_mix rfl ?_)
          · replace hg23 : _ = true := hg23
            refine guard_no rfl hg23 ?_
            refine guard_no rfl hg23 ?_
            refine guard_no rfl hg23 ?_
            refine guard_no rfl hg23 ?_
            refine guard_no rfl hg23 ?_
            refine op_pure (pv_pickT rfl hg23 (v := .bool _) rfl) ?_
            refine ⟨(), ⟨(boolE (by first | contradiction | (unfold headB; simp only [*, Bool.or_true, Bool.true_or, Bool.false_or, Bool.or_false, Bool.not_true, Bool.not_false]))), trivial⟩, rfl, rfl, (Ext.trans (Ext.trans E2 E20) E22), fun h3 E3 => by first | trivial | omega | (refine ⟨?_, ?_⟩ <;> omega), ?_⟩
            repeat (first | exact off_refl _ _ | exact off_base _ _ _ | refine off_upd (by decide) ?_ | refine off_updL rfl ?_ | refine off_mix rfl ?_)
        · replace hg21 : _ = true := hg21
          refine guard_no rfl hg21 ?_
          refine guard_no rfl hg21 ?_
          refine guard_no rfl hg21 ?_
          refine op_pure (pv_pickT rfl hg21 (v := .bool _) rfl) ?_
          refine op_pure (pv_move (v := .bool _) rfl) ?_
          refine guard_case rfl (fun hg25 => ?_) (fun hg25 => ?_)
          · replace hg25 : _ = false := hg25
            refine op_pure (pv_fieldAddr rfl rfl rfl rfl 4 rfl) ?_
            refine guard_yes rfl hg25 ?_
            refine op_loadP 0 (v := .int .i64 _) rfl rfl rfl rfl ?_
            refine guard_yes rfl hg25 ?_
            refine op_pure (pv_fieldAddr rfl rfl rfl rfl 3 rfl) ?_
            refine guard_yes rfl hg25 ?_
            refine op_loadP 0 (v := .int .i64 _) rfl rfl rfl rfl ?_
            refine guard_yes rfl hg25 ?_
            refine op_fn (caps := []) (vs := [.int .i64 _, .int .i64 _, .int .i64 _]) rfl rfl rfl (within_ok _ _ _ h20) ?_
            rintro _ h26 E26 rfl
            refine guard_yes rfl hg25 ?_
            refine op_pure (pv_of (v := .bool _) rfl) ?_
            refine op_pure (pv_pickF rfl hg25 (v := .bool _) rfl) ?_
            refine ⟨(), ⟨(boolE (by first | contradiction | (unfold headB; simp only [*, Bool.or_true, Bool.true_or, Bool.false_or, Bool.or_false, Bool.not_true, Bool.not_false]))), trivial⟩, rfl, rfl, (Ext.trans (Ext.trans E2 E20) E26), fun h3 E3 => by first | trivial | omega | (refine ⟨?_, ?_⟩ <;> omega), ?_⟩
            repeat (first | exact off_refl _ _ | exact off_base _ _ _ | refine off_upd (by decide) ?_ | refine off_updL rfl ?_ | refine off_mix rfl ?_)
          · replace hg25 : _ = true := hg25
            refine guard_no rfl hg25 ?_
            refine guard_no rfl hg25 ?_
            refine guard_no rfl hg25 ?_
            refine guard_no rfl hg25 ?_
            refine guard_no rfl hg25 ?_
            refine op_pure (pv_pickT rfl hg25 (v := .bool _) rfl) ?_
            refine ⟨(), ⟨(boolE (by first | contradiction | (unfold headB; simp only [*, Bool.or_true, Bool.true_or, Bool.false_or, Bool.or_false, Bool.not_true, Bool.not_false]))), trivial⟩, rfl, rfl, (Ext.trans E2 E20), fun h3 E3 => by first | trivial | omega | (refine ⟨?_, ?_⟩ <;> omega), ?_⟩
            repeat (first | exact off_refl _ _ | exact off_base _ _ _ | refine off_upd (by decide) ?_ | refine off_updL rfl ?_ | refine off_mix rfl ?_)
      · replace hg19 : _ = true := hg19
        refine guard_no rfl hg19 ?_
        refine guard_no rfl hg19 ?_
        refine guard_no rfl hg19 ?_
        refine op_pure (pv_pickT rfl hg19 (v := .bool _) rfl) ?_
        refine op_pure (pv_move (v := .bool _) rfl) ?_
        refine guard_case rfl (fun hg27 => ?_) (fun hg27 => ?_)
        · replace hg27 : _ = false := hg27
          refine op_pure (pv_fieldAddr rfl rfl rfl rfl 3 rfl) ?_
          refine guard_yes rfl hg27 ?_
          refine op_loadP 0 (v := .int .i64 _) rfl rfl rfl rfl ?_
          refine guard_yes rfl hg27 ?_
          refine op_fn (caps := []) (vs := [.int .i64 _, .int .i64 _, .int .i64 _]) rfl rfl rfl (within_ok _ _ _ h2) ?_
          rintro _ h28 E28 rfl
          refine guard_yes rfl hg27 ?_
          refine op_pure (pv_of (v := .bool _) rfl) ?_
          refine op_pure (pv_pickF rfl hg27 (v := .bool _) rfl) ?_
          refine op_pure (pv_move (v := .bool _) rfl) ?_
          refine guard_case rfl (fun hg29 => ?_) (fun hg29 => ?_)
          · replace hg29 : _ = false := hg29
            refine op_pure (pv_fieldAddr rfl rfl rfl rfl 4 rfl) ?_
            refine guard_yes rfl hg29 ?_
            refine op_loadP 0 (v := .int .i64 _) rfl rfl rfl rfl ?_
            refine guard_yes rfl hg29 ?_
            refine op_pure (pv_fieldAddr rfl rfl rfl rfl 3 rfl) ?_
            refine guard_yes rfl hg29 ?_
            refine op_loadP 0 (v := .int .i64 _) rfl rfl rfl rfl ?_
            refine guard_yes rfl hg29 ?_
            refine op_fn (caps := []) (vs := [.int .i64 _, .int .i64 _, .int .i64 _]) rfl rfl rfl (within_ok _ _ _ h28) ?_
            rintro _ h30 E30 rfl
            refine guard_yes rfl hg29 ?_
            refine op_pure (pv_of (v := .bool _) rfl) ?_
            refine op_pure (pv_pickF rfl hg29 (v := .bool _) rfl) ?_
            refine ⟨(), ⟨(boolE (by first | contradiction | (unfold headB; simp only [*, Bool.or_true, Bool.true_or, Bool.false_or, Bool.or_false, Bool.not_true, Bool.not_false]))), trivial⟩, rfl, rfl, (Ext.trans (Ext.trans E2 E28) E30), fun h3 E3 => by first | trivial | omega | (refine ⟨?_, ?_⟩ <;> omega), ?_⟩
            repeat (first | exact off_refl _ _ | exact off_base _ _ _ | refine off_upd (by decide) ?_ | refine off_updL rfl ?_ | refine off_mix rfl ?_)
          · replace hg29 : _ = true := hg29
            refine guard_no rfl hg29 ?_
            refine guard_no rfl hg29 ?_
            refine guard_no rfl hg29 ?_
            refine guard_no rfl hg29 ?_
            refine guard_no rfl hg29 ?_
            refine op_pure (pv_pickT rfl hg29 (v := .bool _) rfl) ?_
            refine ⟨(), ⟨(boolE (by first | contradiction | (unfold headB; simp only [*, Bool.or_true, Bool.true_or, Bool.false_or, Bool.or_false, Bool.not_true, Bool.not_false]))), trivial⟩, rfl, rfl, (Ext.trans E2 E28), fun h3 E3 => by first | trivial | omega | (refine ⟨?_, ?_⟩ <;> omega), ?_⟩
            repeat (first | exact off_refl _ _ | exact off_base _ _ _ | refine off_upd (by decide) ?_ | refine off_updL rfl ?_ | refine off_mix rfl ?_)
        · replace hg27 : _ = true := hg27
          refine guard_no rfl hg27 ?_
          refine guard_no rfl hg27 ?_
          refine guard_no rfl hg27 ?_
          refine op_pure (pv_pickT rfl hg27 (v := .bool _) rfl) ?_
          refine op_pure (pv_move (v := .bool _) rfl) ?_
          refine guard_case rfl (fun hg31 => ?_) (fun hg31 => ?_)
          · replace hg31 : _ = false := hg31
            refine op_pure (pv_fieldAddr rfl rfl rfl rfl 4 rfl) ?_
            refine guard_yes rfl hg31 ?_
            refine op_loadP 0 (v := .int .i64 _) rfl rfl rfl rfl ?_
            refine guard_yes rfl hg31 ?_
            refine op_pure (pv_fieldAddr rfl rfl rfl rfl 3 rfl) ?_
            refine guard_yes rfl hg31 ?_
            refine op_loadP 0 (v := .int .i64 _) rfl rfl rfl rfl ?_
            refine guard_yes rfl hg31 ?_
            refine op_fn (caps := []) (vs := [.int .i64 _, .int .i64 _, .int .i64 _]) rfl rfl rfl (within_ok _ _ _ h2) ?_
            rintro _ h32 E32 rfl
            refine guard_yes rfl hg31 ?_
            refine op_pure (pv_of (v := .bool _) rfl) ?_
            refine op_pure (pv_pickF rfl hg31 (v := .bool _) rfl) ?_
            refine ⟨(), ⟨(boolE (by first | contradiction | (unfold headB; simp only [*, Bool.or_true, Bool.true_or, Bool.false_or, Bool.or_false, Bool.not_true, Bool.not_false]))), trivial⟩, rfl, rfl, (Ext.trans E2 E32), fun h3 E3 => by first | trivial | omega | (refine ⟨?_, ?_⟩ <;> omega), ?_⟩
            repeat (first | exact off_refl _ _ | exact off_base _ _ _ | refine off_upd (by decide) ?_ | refine off_updL rfl ?_ | refine off_mix rfl ?_)
          · replace hg31 : _ = true := hg31
            refine guard_no rfl hg31 ?_
            refine guard_no rfl hg31 ?_
            refine guard_no rfl hg31 ?_
            refine guard_no rfl hg31 ?_
            refine guard_no rfl hg31 ?_
            refine op_pure (pv_pickT rfl hg31 (v := .bool _) rfl) ?_
            refine ⟨(), ⟨(boolE (by first | contradiction | (unfold headB; simp only [*, Bool.or_true, Bool.true_or, Bool.false_or, Bool.or_false, Bool.not_true, Bool.not_false]))), trivial⟩, rfl, rfl, E2, fun h3 E3 => by first | trivial | omega | (refine ⟨?_, ?_⟩ <;> omega), ?_⟩
            repeat (first | exact off_refl _ _ | exact off_base _ _ _ | refine off_upd (by decide) ?_ | refine off_updL rfl ?_ | refine off_mix rfl ?_)
  · rintro u T1 h_u E_u J_u
    refine goes_norm [_] rfl ?_
    refine xp_cond rfl (fun hh => ?_) (fun hh => ?_)
    · skip
      refine xp_seq ?_
      refine xp_region rfl ?_
      refine op_pure (pv_assign (v := .int .i64 _) rfl) ?_
      refine xp_ret ?_
      refine res_list (vs := [_]) Try.results38 ⟨resV_tmp rfl rfl, trivial⟩ fun V => ?_
      refine ⟨(Ext.trans E_u (ext_wl V)), intE ?_⟩
      unfold chkM
      simp only [headB, Bool.or_eq_true] at hh
      rcases hh with (((hh | hh) | hh) | hh) | hh
      · rw [if_pos hh]
      · by_cases x1 : (!inM m.rods 1 6) = true
        · rw [if_pos x1]
        · rw [if_neg x1, if_pos hh]
      · by_cases x1 : (!inM m.rods 1 6) = true
        · rw [if_pos x1]
        · by_cases x2 : (!inM m.levers 1 6) = true
          · rw [if_neg x1, if_pos x2]
          · rw [if_neg x1, if_neg x2, if_pos hh]
      · by_cases x1 : (!inM m.rods 1 6) = true
        · rw [if_pos x1]
        · by_cases x2 : (!inM m.levers 1 6) = true
          · rw [if_neg x1, if_pos x2]
          · by_cases x3 : (!inM m.regs 0 2) = true
            · rw [if_neg x1, if_neg x2, if_pos x3]
            · rw [if_neg x1, if_neg x2, if_neg x3, if_pos hh]
      · by_cases x1 : (!inM m.rods 1 6) = true
        · rw [if_pos x1]
        · by_cases x2 : (!inM m.levers 1 6) = true
          · rw [if_neg x1, if_pos x2]
          · by_cases x3 : (!inM m.regs 0 2) = true
            · rw [if_neg x1, if_neg x2, if_pos x3]
            · by_cases x4 : (!inM m.travel 1 12) = true
              · rw [if_neg x1, if_neg x2, if_neg x3, if_pos x4]
              · rw [if_neg x1, if_neg x2, if_neg x3, if_neg x4, if_pos hh]
    · skip
      simp only [headB, Bool.or_eq_false_iff, Bool.not_eq_false'] at hh
      obtain ⟨⟨⟨⟨e1, e2⟩, e3⟩, e4⟩, e5⟩ := hh
      have C1 := chk_head e1 e2 e3 e4 e5
      have b1 := inM_iff.1 e1
      have b2 := inM_iff.1 e2
      have b3 := inM_iff.1 e3
      have b4 := inM_iff.1 e4
      have b5 := inM_iff.1 e5
      refine xp_skip ?_
      refine xp_seq ?_
      refine xp_seq ?_
      refine xp_region rfl ?_
      refine op_pure (pv_fieldAddr rfl rfl rfl rfl 5 rfl) ?_
      refine op_loadP 0 (v := .slice _ _ _) rfl rfl rfl rfl ?_
      refine op_pure (pv_len rfl rfl) ?_
      refine op_pure (pv_of (v := .bool _) rfl) ?_
      refine xp_cond rfl (fun hb => ?_) (fun hb => ?_)
      · skip
        refine xp_seq ?_
        refine xp_region rfl ?_
        refine op_pure (pv_assign (v := .int .i64 _) rfl) ?_
        refine xp_ret ?_
        refine res_list (vs := [_]) Try.results38 ⟨resV_tmp rfl rfl, trivial⟩ fun V => ?_
        have hb' : 4 < m.buttons.length := by simp at hb; omega
        exact ⟨(Ext.trans E_u (ext_wl V)), intE (by rw [C1, chk1, if_pos hb'])⟩
      · skip
        have hb' : ¬ 4 < m.buttons.length := by simp at hb; omega
        refine xp_skip ?_
        refine xp_seq ?_
        refine xp_seq ?_
        refine xp_region rfl ?_
        refine op_pure (pv_fieldAddr rfl rfl rfl rfl 5 rfl) ?_
        refine op_loadP 0 (v := .slice _ _ _) rfl rfl rfl rfl ?_
        refine op_pure (pv_len rfl rfl) ?_
        refine op_pure (pv_move (v := .int .i64 _) rfl) ?_
        refine xp_block ?_
        refine xp_loopB [2, 4, 49, 50, 51, 52, 53, 54, 55, 56, 57, 58, 59] 1 (α := Nat) (fun k => [(49, .int .i64 k)]) (fun k => _) (fun k h_k => k ≤ m.buttons.length ∧ firstErr (checkButtonM m) (m.buttons.take k) = 0) (fun k => m.buttons.length - k) (0) ⟨rfl, trivial⟩ (rfl) (⟨Nat.zero_le _, rfl⟩) ?_
        rintro k T33 h_k E_k J_k
        refine goes_norm [_] rfl ?_
        obtain ⟨K1, K2⟩ := J_k
        refine xp_seq ?_
        refine xp_region rfl ?_
        refine op_pure (pv_of (v := .bool _) rfl) ?_
        refine xp_seq ?_
        refine xp_cond rfl (fun hk => ?_) (fun hk => ?_)
        · skip
          have hkl : k < m.buttons.length := ltI hk
          obtain ⟨g, off, hA, hc⟩ := (R.b.ext (Ext.trans E_u E_k)).at (by omega) hkl
          refine xp_skip ?_
          refine xp_seq ?_
          refine xp_block ?_
          refine xp_seq ?_
          refine xp_region rfl ?_
          refine op_pure (pv_indexE rfl hA rfl rfl rfl (by omega) (by omega)) ?_
          refine op_load (v := .int .i64 _) rfl rfl ((hc) 0 _ rfl) ?_
          refine op_pure (pv_assign (v := .int .i64 _) rfl) ?_
          refine xp_seq ?_
          refine xp_region rfl ?_
          refine op_pure (pv_move (v := .int .i64 _) rfl) ?_
          refine op_pure (pv_fieldAddr rfl rfl rfl rfl 0 rfl) ?_
          refine op_loadP 0 (v := .int .i64 _) rfl rfl rfl rfl ?_
          refine op_pure (pv_arith rfl (by omega)) ?_
          refine op_fn (caps := []) (vs := [.int .i64 _, .int .i64 _, .int .i64 _]) rfl rfl rfl (within_ok _ _ _ h_k) ?_
          rintro _ h1 E1 rfl
          refine op_pure (pv_of (v := .bool _) rfl) ?_
          refine xp_cond rfl (fun hw => ?_) (fun hw => ?_)
          · skip
            have ew : checkButtonM m m.buttons[k] = 3 := by rw [checkButtonM, if_pos hw]
            refine xp_seq ?_
            refine xp_region rfl ?_
            refine op_pure (pv_assign (v := .int .i64 _) rfl) ?_
            refine xp_ret ?_
            refine res_list (vs := [_]) Try.results38 ⟨resV_tmp rfl rfl, trivial⟩ fun V => ?_
            refine ⟨(Ext.trans (Ext.trans (Ext.trans E_u E_k) E1) (ext_wl V)), intE ?_⟩
            have ef := firstErr_stop hkl K2 (by rw [ew]; decide)
            rw [ew] at ef
            rw [C1, chk1, if_neg hb', if_pos (by rw [ef]; decide), ef]
          · skip
            refine xp_skip ?_
            refine xp_region rfl ?_
            refine op_pure (pv_arith rfl (by omega)) ?_
            refine op_pure (pv_move (v := .int .i64 _) rfl) ?_
            refine ⟨k + 1, ⟨rfl, trivial⟩, rfl, rfl, (Ext.trans E_k E1), fun h3 E3 => ⟨hkl, firstErr_go hkl K2 (by rw [checkButtonM, if_neg (by simpa using hw)])⟩, by first | omega | (dsimp only; omega), ?_⟩
            repeat (first | exact off_base _ _ _ | refine off_upd (by decide) ?_ | refine off_updL rfl ?_ | refine off_mix rfl ?_)
        · skip
          have hke : k = m.buttons.length := by have := geI hk; omega
          subst hke
          rw [List.take_length] at K2
          have C2 : chkM m = chk2 m := by rw [C1, chk1, if_neg hb', if_neg (by simp [K2])]
          refine xp_exit ?_
          refine xp_seq ?_
          refine xp_seq ?_
          refine xp_region rfl ?_
          refine op_pure (pv_fieldAddr rfl rfl rfl rfl 6 rfl) ?_
          refine op_loadP 0 (v := .slice _ _ _) rfl rfl rfl rfl ?_
          refine op_pure (pv_len rfl rfl) ?_
          refine op_pure (pv_of (v := .bool _) rfl) ?_
          refine xp_cond rfl (fun hq => ?_) (fun hq => ?_)
          · skip
            refine xp_seq ?_
            refine xp_region rfl ?_
            refine op_pure (pv_assign (v := .int .i64 _) rfl) ?_
            refine xp_ret ?_
            refine res_list (vs := [_]) Try.results38 ⟨resV_tmp rfl rfl, trivial⟩ fun V => ?_
            have hq' : 8 < m.pins.length := by simp at hq; omega
            exact ⟨(Ext.trans (Ext.trans E_u E_k) (ext_wl V)), intE (by rw [C2, chk2, if_pos hq'])⟩
          · skip
            have hq' : ¬ 8 < m.pins.length := by simp at hq; omega
            refine xp_skip ?_
            refine xp_seq ?_
            refine xp_seq ?_
            refine xp_region rfl ?_
            refine op_pure (pv_fieldAddr rfl rfl rfl rfl 6 rfl) ?_
            refine op_loadP 0 (v := .slice _ _ _) rfl rfl rfl rfl ?_
            refine op_pure (pv_len rfl rfl) ?_
            refine op_pure (pv_move (v := .int .i64 _) rfl) ?_
            refine xp_block ?_
            refine xp_loopB [2, 6, 67, 68, 69, 70, 71, 72, 73, 74, 75, 76, 77, 78, 79, 80, 81, 82, 83, 84, 85, 86, 87, 88, 89, 90, 91, 92, 93, 94, 95] 1 (α := Nat) (fun j => [(67, .int .i64 j)]) (fun j => _) (fun j h_j => j ≤ m.pins.length ∧ firstErr (checkPinM m) (m.pins.take j) = 0) (fun j => m.pins.length - j) (0) ⟨rfl, trivial⟩ (rfl) (⟨Nat.zero_le _, rfl⟩) ?_
            rintro j T34 h_j E_j J_j
            refine goes_norm [_] rfl ?_
            obtain ⟨P1, P2⟩ := J_j
            refine xp_seq ?_
            refine xp_region rfl ?_
            refine op_pure (pv_of (v := .bool _) rfl) ?_
            refine xp_seq ?_
            refine xp_cond rfl (fun hk2 => ?_) (fun hk2 => ?_)
            · skip
              have hkl : j < m.pins.length := ltI hk2
              obtain ⟨g, off, hA, hc⟩ := (R.q.ext (Ext.trans (Ext.trans E_u E_k) E_j)).at (by omega) hkl
              refine xp_skip ?_
              refine xp_seq ?_
              refine xp_block ?_
              refine xp_seq ?_
              refine xp_region rfl ?_
              refine op_pure (pv_indexE rfl hA rfl rfl rfl (by omega) (by omega)) ?_
              refine op_loadA rfl rfl rfl rfl (hc) ?_
              refine op_alloc (cs := [_, _, _]) rfl rfl fun b6 hb6 => ?_
              refine wp_norm [_, _] rfl ?_
              refine op_storeP 1 (v := .agg #[.int .i64 _, .int .i64 _, .int .i64 _]) (vs := [_, _, _]) (c' := [_, _, _]) rfl rfl rfl rfl rfl rfl rfl rfl rfl ?_
              refine wp_norm [_, _] rfl ?_
              refine xp_block ?_
              refine xp_cutB [71, 72, 73, 74, 75, 76, 77, 78, 79, 80, 81, 82, 83, 84, 85, 86, 87] 2 (α := Unit) (fun u2 => [(71, .bool (!inM m.pins[j].rod 0 (m.rods - 1) || !inM m.pins[j].lever 0 (m.levers - 1)))]) (fun u2 L => L) (fun u2 h_u2 => True) ?_ ?_
              · skip
                refine xp_region rfl ?_
                refine op_pure (pv_fieldAddr rfl rfl rfl rfl 0 rfl) ?_
                refine op_loadP 1 (v := .int .i64 _) rfl rfl rfl rfl ?_
                refine op_pure (pv_fieldAddr rfl rfl rfl rfl 0 rfl) ?_
                refine op_loadP 0 (v := .int .i64 _) rfl rfl rfl rfl ?_
                refine op_pure (pv_arith rfl (by omega)) ?_
                refine op_fn (caps := []) (vs := [.int .i64 _, .int .i64 _, .int .i64 _]) rfl rfl rfl (within_ok _ _ _ h_j) ?_
                rintro _ h36 E36 rfl
                refine op_pure (pv_of (v := .bool _) rfl) ?_
                refine op_pure (pv_move (v := .bool _) rfl) ?_
                refine guard_case rfl (fun hg37 => ?_) (fun hg37 => ?_)
                · replace hg37 : _ = false := hg37
                  refine op_pure (pv_fieldAddr rfl rfl rfl rfl 1 rfl) ?_
                  refine guard_yes rfl hg37 ?_
                  refine op_loadP 1 (v := .int .i64 _) rfl rfl rfl rfl ?_
                  refine guard_yes rfl hg37 ?_
                  refine op_pure (pv_fieldAddr rfl rfl rfl rfl 1 rfl) ?_
                  refine guard_yes rfl hg37 ?_
                  refine op_loadP 0 (v := .int .i64 _) rfl rfl rfl rfl ?_
                  refine guard_yes rfl hg37 ?_
                  refine op_pure (pv_arith rfl (by omega)) ?_
                  refine guard_yes rfl hg37 ?_
                  refine op_fn (caps := []) (vs := [.int .i64 _, .int .i64 _, .int .i64 _]) rfl rfl rfl (within_ok _ _ _ h36) ?_
                  rintro _ h38 E38 rfl
                  refine guard_yes rfl hg37 ?_
                  refine op_pure (pv_of (v := .bool _) rfl) ?_
                  refine op_pure (pv_pickF rfl hg37 (v := .bool _) rfl) ?_
                  refine op_pure (pv_assign (v := .bool _) rfl) ?_
                  refine ⟨(), ⟨(boolE (by first | contradiction | (simp only [*, Bool.or_true, Bool.true_or, Bool.false_or, Bool.or_false, Bool.not_true, Bool.not_false]))), trivial⟩, rfl, rfl, (Ext.trans E36 E38), fun h3 E3 => by first | trivial | omega | (refine ⟨?_, ?_⟩ <;> omega), ?_⟩
                  repeat (first | exact off_refl _ _ | exact off_base _ _ _ | refine off_upd (by decide) ?_ | refine off_updL rfl ?_ | refine off_mix rfl ?_)
                · replace hg37 : _ = true := hg37
                  refine guard_no rfl hg37 ?_
                  refine guard_no rfl hg37 ?_
                  refine guard_no rfl hg37 ?_
                  refine guard_no rfl hg37 ?_
                  refine guard_no rfl hg37 ?_
                  refine guard_no rfl hg37 ?_
                  refine op_pure (pv_pickT rfl hg37 (v := .bool _) rfl) ?_
                  refine op_pure (pv_assign (v := .bool _) rfl) ?_
                  refine ⟨(), ⟨(boolE (by first | contradiction | (simp only [*, Bool.or_true, Bool.true_or, Bool.false_or, Bool.or_false, Bool.not_true, Bool.not_false]))), trivial⟩, rfl, rfl, E36, fun h3 E3 => by first | trivial | omega | (refine ⟨?_, ?_⟩ <;> omega), ?_⟩
                  repeat (first | exact off_refl _ _ | exact off_base _ _ _ | refine off_upd (by decide) ?_ | refine off_updL rfl ?_ | refine off_mix rfl ?_)
              · rintro u2 T35 h_u2 E_u2 J_u2
                refine goes_norm [_, _] rfl ?_
                refine xp_cond rfl (fun hw => ?_) (fun hw => ?_)
                · skip
                  have ew : checkPinM m m.pins[j] = 3 := by
                    unfold checkPinM
                    rw [Bool.or_eq_true] at hw
                    rcases hw with hw | hw
                    · rw [if_pos hw]
                    · by_cases x1 : (!inM m.pins[j].rod 0 (m.rods - 1)) = true
                      · rw [if_pos x1]
                      · rw [if_neg x1, if_pos hw]
                  refine xp_seq ?_
                  refine xp_region rfl ?_
                  refine op_pure (pv_assign (v := .int .i64 _) rfl) ?_
                  refine xp_ret ?_
                  refine res_list (vs := [_]) Try.results38 ⟨resV_tmp rfl rfl, trivial⟩ fun V => ?_
                  refine ⟨(Ext.trans (Ext.trans (Ext.trans (Ext.trans E_u E_k) E_j) E_u2) (ext_wl V)), intE ?_⟩
                  have ef := firstErr_stop hkl P2 (by rw [ew]; decide)
                  rw [ew] at ef
                  rw [C2, chk2, if_neg hq', if_pos (by rw [ef]; decide), ef]
                · skip
                  rw [Bool.or_eq_false_iff] at hw
                  refine xp_seq ?_
                  refine xp_region rfl ?_
                  refine op_pure (pv_fieldAddr rfl rfl rfl rfl 2 rfl) ?_
                  refine op_loadP 1 (v := .int .i64 _) rfl rfl rfl rfl ?_
                  refine op_pure (pv_fieldAddr rfl rfl rfl rfl 3 rfl) ?_
                  refine op_loadP 0 (v := .int .i64 _) rfl rfl rfl rfl ?_
                  refine op_fn (caps := []) (vs := [.int .i64 _, .int .i64 _, .int .i64 _]) rfl rfl rfl (within_ok _ _ _ h_u2) ?_
                  rintro _ h1 E1 rfl
                  refine op_pure (pv_of (v := .bool _) rfl) ?_
                  refine op_pure (pv_assign (v := .bool _) rfl) ?_
                  refine xp_cond rfl (fun hw2 => ?_) (fun hw2 => ?_)
                  · skip
                    have ew : checkPinM m m.pins[j] = 1 := by rw [checkPinM, if_neg (by simp [hw.1]), if_neg (by simp [hw.2]), if_pos hw2]
                    refine xp_seq ?_
                    refine xp_region rfl ?_
                    refine op_pure (pv_assign (v := .int .i64 _) rfl) ?_
                    refine xp_ret ?_
                    refine res_list (vs := [_]) Try.results38 ⟨resV_tmp rfl rfl, trivial⟩ fun V => ?_
                    refine ⟨(Ext.trans (Ext.trans (Ext.trans (Ext.trans (Ext.trans E_u E_k) E_j) E_u2) E1) (ext_wl V)), intE ?_⟩
                    have ef := firstErr_stop hkl P2 (by rw [ew]; decide)
                    rw [ew] at ef
                    rw [C2, chk2, if_neg hq', if_pos (by rw [ef]; decide), ef]
                  · skip
                    refine xp_skip ?_
                    refine xp_region rfl ?_
                    refine op_pure (pv_arith rfl (by omega)) ?_
                    refine op_pure (pv_move (v := .int .i64 _) rfl) ?_
                    refine ⟨j + 1, ⟨rfl, trivial⟩, rfl, rfl, (Ext.trans (Ext.trans E_j E_u2) E1), fun h3 E3 => ⟨hkl, firstErr_go hkl P2 (by rw [checkPinM, if_neg (by simp [hw.1]), if_neg (by simp [hw.2]), if_neg (by simp [hw2])])⟩, by first | omega | (dsimp only; omega), ?_⟩
                    repeat (first | exact off_base _ _ _ | refine off_upd (by decide) ?_ | refine off_updL rfl ?_ | refine off_mix rfl ?_)
            · skip
              have hke : j = m.pins.length := by have := geI hk2; omega
              subst hke
              rw [List.take_length] at P2
              have C3 : chkM m = chk3 m := by rw [C2, chk2, if_neg hq', if_neg (by simp [P2])]
              refine xp_exit ?_
              refine xp_seq ?_
              refine xp_seq ?_
              refine xp_region rfl ?_
              refine op_pure (pv_fieldAddr rfl rfl rfl rfl 7 rfl) ?_
              refine op_loadP 0 (v := .slice _ _ _) rfl rfl rfl rfl ?_
              refine op_pure (pv_len rfl rfl) ?_
              refine op_pure (pv_of (v := .bool _) rfl) ?_
              refine xp_cond rfl (fun hl => ?_) (fun hl => ?_)
              · skip
                refine xp_seq ?_
                refine xp_region rfl ?_
                refine op_pure (pv_assign (v := .int .i64 _) rfl) ?_
                refine xp_ret ?_
                refine res_list (vs := [_]) Try.results38 ⟨resV_tmp rfl rfl, trivial⟩ fun V => ?_
                have hl' : 4 < m.links.length := by simp at hl; omega
                exact ⟨(Ext.trans (Ext.trans (Ext.trans E_u E_k) E_j) (ext_wl V)), intE (by rw [C3, chk3, if_pos hl'])⟩
              · skip
                have hl' : ¬ 4 < m.links.length := by simp at hl; omega
                refine xp_skip ?_
                refine xp_seq ?_
                refine xp_seq ?_
                refine xp_region rfl ?_
                refine op_pure (pv_fieldAddr rfl rfl rfl rfl 7 rfl) ?_
                refine op_loadP 0 (v := .slice _ _ _) rfl rfl rfl rfl ?_
                refine op_pure (pv_len rfl rfl) ?_
                refine op_pure (pv_move (v := .int .i64 _) rfl) ?_
                refine xp_block ?_
                refine xp_loopB [2, 8, 9, 103, 104, 105, 106, 107, 108, 109, 110, 111, 112, 113] 1 (α := Nat) (fun i => [(103, .int .i64 i)]) (fun i => _) (fun i h_i => i ≤ m.links.length ∧ firstErr (checkLinkM m) (m.links.take i) = 0) (fun i => m.links.length - i) (0) ⟨rfl, trivial⟩ (rfl) (⟨Nat.zero_le _, rfl⟩) ?_
                rintro i T39 h_i E_i J_i
                refine goes_norm [_] rfl ?_
                obtain ⟨L1, L2⟩ := J_i
                refine xp_seq ?_
                refine xp_region rfl ?_
                refine op_pure (pv_of (v := .bool _) rfl) ?_
                refine xp_seq ?_
                refine xp_cond rfl (fun hk3 => ?_) (fun hk3 => ?_)
                · skip
                  have hkl : i < m.links.length := ltI hk3
                  obtain ⟨g, off, hA, hc⟩ := (R.l.ext (Ext.trans (Ext.trans (Ext.trans E_u E_k) E_j) E_i)).at (by omega) hkl
                  refine xp_skip ?_
                  refine xp_seq ?_
                  refine xp_block ?_
                  refine xp_seq ?_
                  refine xp_region rfl ?_
                  refine op_pure (pv_indexE rfl hA rfl rfl rfl (by omega) (by omega)) ?_
                  refine op_loadA rfl rfl rfl rfl (hc) ?_
                  refine op_alloc (cs := [_, _, _, _]) rfl rfl fun b8 hb8 => ?_
                  refine wp_norm [_, _] rfl ?_
                  refine op_storeP 1 (v := .agg #[.int .i64 _, .int .i64 _, .int .i64 _, .int .i64 _]) (vs := [_, _, _, _]) (c' := [_, _, _, _]) rfl rfl rfl rfl rfl rfl rfl rfl rfl ?_
                  refine wp_norm [_, _] rfl ?_
                  refine xp_seq ?_
                  refine xp_region rfl ?_
                  refine op_loadPA 0 (vs := [.int .i64 _, .int .i64 _, .int .i64 _, .int .i64 _, .int .i64 _, .slice _ _ _, .slice _ _ _, .slice _ _ _, .slice _ _ _]) rfl rfl rfl rfl rfl ?_
                  refine op_loadPA 1 (vs := [.int .i64 _, .int .i64 _, .int .i64 _, .int .i64 _]) rfl rfl rfl rfl rfl ?_
                  refine op_fn (caps := []) (vs := [.agg #[.int .i64 _, .int .i64 _, .int .i64 _, .int .i64 _, .int .i64 _, .slice _ _ _, .slice _ _ _, .slice _ _ _, .slice _ _ _], .agg #[.int .i64 _, .int .i64 _, .int .i64 _, .int .i64 _]]) rfl rfl rfl (checkLink_ok m m.links[i] AB AQ AL AW cB cQ cL cW h_i (by omega) (by omega)) ?_
                  rintro _ h1 E1 rfl
                  refine op_pure (pv_assign (v := .int .i64 _) rfl) ?_
                  refine xp_seq ?_
                  refine xp_region rfl ?_
                  refine op_pure (pv_move (v := .int .i64 _) rfl) ?_
                  refine op_pure (pv_of (v := .bool _) rfl) ?_
                  refine xp_cond rfl (fun hw => ?_) (fun hw => ?_)
                  · skip
                    have ew : checkLinkM m m.links[i] ≠ 0 := by simpa using hw
                    refine xp_seq ?_
                    refine xp_region rfl ?_
                    refine op_pure (pv_move (v := .int .i64 _) rfl) ?_
                    refine op_pure (pv_assign (v := .int .i64 _) rfl) ?_
                    refine xp_ret ?_
                    refine res_list (vs := [_]) Try.results38 ⟨resV_tmp rfl rfl, trivial⟩ fun V => ?_
                    refine ⟨(Ext.trans (Ext.trans (Ext.trans (Ext.trans (Ext.trans E_u E_k) E_j) E_i) E1) (ext_wl V)), intE ?_⟩
                    have ef := firstErr_stop hkl L2 ew
                    rw [C3, chk3, if_neg hl', if_pos (by rw [ef]; exact ew), ef]
                  · skip
                    have ew : checkLinkM m m.links[i] = 0 := by simpa using hw
                    refine xp_skip ?_
                    refine xp_region rfl ?_
                    refine op_pure (pv_arith rfl (by omega)) ?_
                    refine op_pure (pv_move (v := .int .i64 _) rfl) ?_
                    refine ⟨i + 1, ⟨rfl, trivial⟩, rfl, rfl, (Ext.trans E_i E1), fun h3 E3 => ⟨hkl, firstErr_go hkl L2 ew⟩, by first | omega | (dsimp only; omega), ?_⟩
                    repeat (first | exact off_base _ _ _ | refine off_upd (by decide) ?_ | refine off_updL rfl ?_ | refine off_mix rfl ?_)
                · skip
                  have hke : i = m.links.length := by have := geI hk3; omega
                  subst hke
                  rw [List.take_length] at L2
                  have C4 : chkM m = chk4 m := by rw [C3, chk3, if_neg hl', if_neg (by simp [L2])]
                  refine xp_exit ?_
                  refine xp_seq ?_
                  refine xp_seq ?_
                  refine xp_region rfl ?_
                  refine op_pure (pv_fieldAddr rfl rfl rfl rfl 8 rfl) ?_
                  refine op_loadP 0 (v := .slice _ _ _) rfl rfl rfl rfl ?_
                  refine op_pure (pv_len rfl rfl) ?_
                  refine op_pure (pv_fieldAddr rfl rfl rfl rfl 1 rfl) ?_
                  refine op_loadP 0 (v := .int .i64 _) rfl rfl rfl rfl ?_
                  refine op_pure (pv_of (v := .bool _) rfl) ?_
                  refine xp_cond rfl (fun hw => ?_) (fun hw => ?_)
                  · skip
                    refine xp_seq ?_
                    refine xp_region rfl ?_
                    refine op_pure (pv_assign (v := .int .i64 _) rfl) ?_
                    refine xp_ret ?_
                    refine res_list (vs := [_]) Try.results38 ⟨resV_tmp rfl rfl, trivial⟩ fun V => ?_
                    have hw' : ¬ (m.weights.length : Int) = m.levers := by simpa using hw
                    exact ⟨(Ext.trans (Ext.trans (Ext.trans (Ext.trans E_u E_k) E_j) E_i) (ext_wl V)), intE (by rw [C4, chk4, if_pos hw'])⟩
                  · skip
                    have hw' : (m.weights.length : Int) = m.levers := by simpa using hw
                    refine xp_skip ?_
                    refine xp_seq ?_
                    refine xp_seq ?_
                    refine xp_region rfl ?_
                    refine op_pure (pv_fieldAddr rfl rfl rfl rfl 8 rfl) ?_
                    refine op_loadP 0 (v := .slice _ _ _) rfl rfl rfl rfl ?_
                    refine op_pure (pv_len rfl rfl) ?_
                    refine op_pure (pv_move (v := .int .i64 _) rfl) ?_
                    refine xp_block ?_
                    refine xp_loopB [2, 11, 123, 124, 125, 126, 127, 128, 129, 130] 1 (α := Nat) (fun o => [(123, .int .i64 o)]) (fun o => _) (fun o h_o => o ≤ m.weights.length ∧ firstErr checkWeightM (m.weights.take o) = 0) (fun o => m.weights.length - o) (0) ⟨rfl, trivial⟩ (rfl) (⟨Nat.zero_le _, rfl⟩) ?_
                    rintro o T40 h_o E_o J_o
                    refine goes_norm [_] rfl ?_
                    obtain ⟨W1, W2⟩ := J_o
                    refine xp_seq ?_
                    refine xp_region rfl ?_
                    refine op_pure (pv_of (v := .bool _) rfl) ?_
                    refine xp_seq ?_
                    refine xp_cond rfl (fun hk4 => ?_) (fun hk4 => ?_)
                    · skip
                      have hkl : o < m.weights.length := ltI hk4
                      obtain ⟨g, off, hA, hc⟩ := (R.w.ext (Ext.trans (Ext.trans (Ext.trans (Ext.trans E_u E_k) E_j) E_i) E_o)).at (by omega) hkl
                      refine xp_skip ?_
                      refine xp_seq ?_
                      refine xp_block ?_
                      refine xp_seq ?_
                      refine xp_region rfl ?_
                      refine op_pure (pv_indexE rfl hA rfl rfl rfl (by omega) (by omega)) ?_
                      refine op_load (v := .int .i64 _) rfl rfl ((hc) 0 _ rfl) ?_
                      refine op_pure (pv_assign (v := .int .i64 _) rfl) ?_
                      refine xp_seq ?_
                      refine xp_region rfl ?_
                      refine op_pure (pv_move (v := .int .i64 _) rfl) ?_
                      refine op_fn (caps := []) (vs := [.int .i64 _, .int .i64 _, .int .i64 _]) rfl rfl rfl (within_ok _ _ _ h_o) ?_
                      rintro _ h1 E1 rfl
                      refine op_pure (pv_of (v := .bool _) rfl) ?_
                      refine xp_cond rfl (fun hz => ?_) (fun hz => ?_)
                      · skip
                        have ew : checkWeightM m.weights[o] = 1 := by rw [checkWeightM, if_pos hz]
                        refine xp_seq ?_
                        refine xp_region rfl ?_
                        refine op_pure (pv_assign (v := .int .i64 _) rfl) ?_
                        refine xp_ret ?_
                        refine res_list (vs := [_]) Try.results38 ⟨resV_tmp rfl rfl, trivial⟩ fun V => ?_
                        refine ⟨(Ext.trans (Ext.trans (Ext.trans (Ext.trans (Ext.trans (Ext.trans E_u E_k) E_j) E_i) E_o) E1) (ext_wl V)), intE ?_⟩
                        have ef := firstErr_stop hkl W2 (by rw [ew]; decide)
                        rw [ew] at ef
                        rw [C4, chk4, if_neg (by simpa using hw'), ef]
                      · skip
                        refine xp_skip ?_
                        refine xp_region rfl ?_
                        refine op_pure (pv_arith rfl (by omega)) ?_
                        refine op_pure (pv_move (v := .int .i64 _) rfl) ?_
                        refine ⟨o + 1, ⟨rfl, trivial⟩, rfl, rfl, (Ext.trans E_o E1), fun h3 E3 => ⟨hkl, firstErr_go hkl W2 (by rw [checkWeightM, if_neg (by simpa using hz)])⟩, by first | omega | (dsimp only; omega), ?_⟩
                        repeat (first | exact off_base _ _ _ | refine off_upd (by decide) ?_ | refine off_updL rfl ?_ | refine off_mix rfl ?_)
                    · skip
                      have hke : o = m.weights.length := by have := geI hk4; omega
                      subst hke
                      rw [List.take_length] at W2
                      refine xp_exit ?_
                      refine xp_seq ?_
                      refine xp_region rfl ?_
                      refine op_pure (pv_assign (v := .int .i64 _) rfl) ?_
                      refine xp_ret ?_
                      refine res_list (vs := [_]) Try.results38 ⟨resV_tmp rfl rfl, trivial⟩ fun V => ?_
                      exact ⟨(Ext.trans (Ext.trans (Ext.trans (Ext.trans (Ext.trans E_u E_k) E_j) E_i) E_o) (ext_wl V)), intE (by rw [C4, chk4, if_neg (by simpa using hw'), W2])⟩
theorem checkHand_ok (m : MachP) (a : HandP) (AB AQ AL AW HA OA : Option Addr) (cB cQ cL cW cH cO : Nat) (h : AH) (RM : MachR h AB AQ AL AW m) (RH : HandR h HA OA a) (h0 : m.weights.length < 2 ^ 40) (h1 : a.buttons.length < 2 ^ 40) (h2 : a.on.length < 2 ^ 40) :
    FnT Try.prog 30 #[machV AB AQ AL AW cB cQ cL cW m, handV HA OA cH cO a] h (fun v _ => v = .int .i64 (checkHandM m a)) := by
  refine call_body Try.func30 rfl Try.ntmps30 rfl ?_
  refine xp_seq ?_
  refine xp_region rfl ?_
  refine op_box (v := .agg #[.int .i64 _, .int .i64 _, .int .i64 _, .int .i64 _, .int .i64 _, .slice _ _ _, .slice _ _ _, .slice _ _ _, .slice _ _ _]) (cs := [_, _, _, _, _, _, _, _, _]) rfl rfl fun b2 hb2 => ?_
  refine wp_norm [_] rfl ?_
  refine op_box (v := .agg #[.slice _ _ _, .slice _ _ _]) (cs := [_, _]) rfl rfl fun b3 hb3 => ?_
  refine wp_norm [_, _] rfl ?_
  refine op_pure (pv_assign (v := .int .i64 _) rfl) ?_
  refine xp_seq ?_
  refine xp_seq ?_
  refine xp_region rfl ?_
  refine op_loadPA 0 (vs := [.int .i64 _, .int .i64 _, .int .i64 _, .int .i64 _, .int .i64 _, .slice _ _ _, .slice _ _ _, .slice _ _ _, .slice _ _ _]) rfl rfl rfl rfl rfl ?_
  refine op_fn (caps := []) (vs := [.agg #[.int .i64 _, .int .i64 _, .int .i64 _, .int .i64 _, .int .i64 _, .slice _ _ _, .slice _ _ _, .slice _ _ _, .slice _ _ _]]) rfl rfl rfl (Check_ok m AB AQ AL AW cB cQ cL cW h (RM.ext (Ext.refl _)) h0) ?_
  rintro _ h3 E3 rfl
  refine op_pure (pv_assign (v := .int .i64 _) rfl) ?_
  refine xp_seq ?_
  refine xp_region rfl ?_
  refine op_pure (pv_move (v := .int .i64 _) rfl) ?_
  refine op_pure (pv_of (v := .bool _) rfl) ?_
  refine xp_cond rfl (fun hc => ?_) (fun hc => ?_)
  · skip
    have hc' : chkM m ≠ 0 := by simpa using hc
    refine xp_seq ?_
    refine xp_region rfl ?_
    refine op_pure (pv_move (v := .int .i64 _) rfl) ?_
    refine op_pure (pv_assign (v := .int .i64 _) rfl) ?_
    refine xp_ret ?_
    refine res_list (vs := [_]) Try.results30 ⟨resV_tmp rfl rfl, trivial⟩ fun V => ?_
    exact ⟨(Ext.trans E3 (ext_wl V)), intE (by rw [checkHandM, if_pos hc'])⟩
  · skip
    have hc' : chkM m = 0 := by simpa using hc
    have M := check_ok hc'
    have hbl := M.bl
    have hrg := M.regs
    refine xp_skip ?_
    refine xp_seq ?_
    refine xp_seq ?_
    refine xp_region rfl ?_
    refine op_pure (pv_fieldAddr rfl rfl rfl rfl 0 rfl) ?_
    refine op_loadP 1 (v := .slice _ _ _) rfl rfl rfl rfl ?_
    refine op_pure (pv_fieldAddr rfl rfl rfl rfl 5 rfl) ?_
    refine op_loadP 0 (v := .slice _ _ _) rfl rfl rfl rfl ?_
    refine op_pure (pv_len rfl rfl) ?_
    refine op_fn (caps := []) (vs := [.slice _ _ _, .int .i64 _]) rfl rfl rfl (checkSet_ok a.buttons m.buttons.length (by omega) HA cH h3 (RH.b.ext E3) h1) ?_
    rintro _ h4 E4 rfl
    refine op_pure (pv_assign (v := .int .i64 _) rfl) ?_
    refine xp_seq ?_
    refine xp_region rfl ?_
    refine op_pure (pv_move (v := .int .i64 _) rfl) ?_
    refine op_pure (pv_of (v := .bool _) rfl) ?_
    refine xp_cond rfl (fun hs => ?_) (fun hs => ?_)
    · skip
      have hs' : checkSetM a.buttons m.buttons.length ≠ 0 := by simpa using hs
      refine xp_seq ?_
      refine xp_region rfl ?_
      refine op_pure (pv_move (v := .int .i64 _) rfl) ?_
      refine op_pure (pv_assign (v := .int .i64 _) rfl) ?_
      refine xp_ret ?_
      refine res_list (vs := [_]) Try.results30 ⟨resV_tmp rfl rfl, trivial⟩ fun V => ?_
      exact ⟨(Ext.trans (Ext.trans E3 E4) (ext_wl V)), intE (by rw [checkHandM, if_neg (by simp [hc']), if_pos hs'])⟩
    · skip
      have hs' : checkSetM a.buttons m.buttons.length = 0 := by simpa using hs
      refine xp_skip ?_
      refine xp_seq ?_
      refine xp_region rfl ?_
      refine op_pure (pv_fieldAddr rfl rfl rfl rfl 1 rfl) ?_
      refine op_loadP 1 (v := .slice _ _ _) rfl rfl rfl rfl ?_
      refine op_pure (pv_fieldAddr rfl rfl rfl rfl 2 rfl) ?_
      refine op_loadP 0 (v := .int .i64 _) rfl rfl rfl rfl ?_
      refine op_fn (caps := []) (vs := [.slice _ _ _, .int .i64 _]) rfl rfl rfl (checkSet_ok a.on m.regs (by omega) OA cO h4 (RH.o.ext (Ext.trans E3 E4)) h2) ?_
      rintro _ h5 E5 rfl
      refine op_pure (pv_assign (v := .int .i64 _) rfl) ?_
      refine xp_ret ?_
      refine res_list (vs := [_]) Try.results30 ⟨resV_tmp rfl rfl, trivial⟩ fun V => ?_
      exact ⟨(Ext.trans (Ext.trans (Ext.trans E3 E4) E5) (ext_wl V)), intE (by rw [checkHandM, if_neg (by simp [hc']), if_neg (by simp [hs'])])⟩
end Go.Proofs.Ytlfbcimcehcomaa
