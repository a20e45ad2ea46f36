/- An own logic over the model, its walks and its plain laws, joined of parts Rb R1 Rc Rd Sq Re Sr Rf Rg R2 GJ R3 R4 R5 R6 R7 Rh R8 R9 GV GK GL. Conditions: as each theorem states. -/
import Derived.Test.YtmpahfdiebhdbaaGreatDoorLa1
import Derived.Test.YtmpahfdiebhdbaaGreatDoorLa2
import Derived.Test.YtmpahfdiebhdbaaGreatDoorProg
set_option linter.all false
namespace Go.Rd
open Go Go.HL Go.Wx
variable [Lvl]
def pinC (p : PinP) : List Value := [.int .i64 p.rod, .int .i64 p.lever, .int .i64 p.lag]
def linkC (l : LinkP) : List Value := [.int .i64 l.frm, .int .i64 l.to, .int .i64 l.reg, .int .i64 l.lag]
def MachV (h : AH) (m : MachP) (v : Value) : Prop :=
 ∃ B Q L W, v = .agg #[.int .i64 m.rods, .int .i64 m.levers, .int .i64 m.regs, .int .i64 m.travel, .int .i64 m.opn, B, Q, L, W] ∧ SlR h 1 intC m.buttons B ∧ SlR h 3 pinC m.pins Q ∧ SlR h 4 linkC m.links L ∧ SlR h 1 intC m.weights W
theorem MachV.ext {h h' : AH} {m : MachP} {v : Value} (r : MachV h m v) (e : Ext h h') : MachV h' m v := by
 obtain ⟨B, Q, L, W, hv, r1, r2, r3, r4⟩ := r
 exact ⟨B, Q, L, W, hv, r1.ext e, r2.ext e, r3.ext e, r4.ext e⟩
def HandV (h : AH) (a : HandP) (v : Value) : Prop := ∃ B O, v = .agg #[B, O] ∧ SlR h 1 intC a.buttons B ∧ SlR h 1 intC a.on O
theorem HandV.ext {h h' : AH} {a : HandP} {v : Value} (r : HandV h a v) (e : Ext h h') : HandV h' a v := by
 obtain ⟨B, O, hv, r1, r2⟩ := r
 exact ⟨B, O, hv, r1.ext e, r2.ext e⟩
def turnsV (t : List Int) : Value := .agg (t.map (Value.int .i64)).toArray
end Go.Rd
namespace Go.HL
open Go
variable [Lvl]
variable {P : Program} {n : Nat} {ops : Array Oper} {os : List Oper} {K : Sl → Pv → AH → Prop} {E : Value → Sl → Pv → AH → Prop} {S : Sl} {L : Pv} {h : AH} {d : Option Tmp} {ty : TypeId} {ps : String} {af : Array Edge}
theorem op_makeChan {t : TypeId} {x : Operand} {kd : IntKind} {dr : ChanDir} {el : TypeId} {inf : TypeInfo} (hx : ev n S x = .int kd 0) (ht : pev P (underlying t) = some (.chan dr el)) (hi : pev P (typeInfo el) = some inf)
  (k : ∀ b, wl h L b = none → wpL P n ops os K E (put S d (.chan (some b))) (L ++ [some (b, .chan 0 #[] false 0 0 false)]) h) : wpL P n ops (⟨d, .makeChan t x, ty, ps, af, none⟩ :: os) K E S L h := by
 refine op_of fun V => ?_
 unfold opW
 simp only [execOp, hx, Instr.makeChan]
 refine wM (wG (a := (0 : Int)) rfl (wG ht ?_))
 simp only
 refine wG hi ?_
 simp only [Int.mul_zero]
 rw [if_neg (by decide)]
 refine wM ?_
 intro b hb
 exact ⟨_, h, wl_new hb _, valid_new V hb _, k b hb⟩
section pre
variable {ro : Option Nat} {K : Post} {D : Df}
theorem goes_pre {ops : Array Oper} {r : List Nat} (l : List Oper) (hcalm : ∀ o ∈ l, Op.calm o.op) : ∀ (k : Nat) (S : Sl) (L : Pv) (h : AH), (∀ j, j < l.length → l[j]? = ops[k + j]?) →
  wpL P n ops l (fun S' L' h' => Goes P n ro [.inRegion ops r] K S' D L' h') (fun v S' L' h' => K (.panic v) S' D L' h') S L h → Goes P n ro [.inRegion ops (List.range' k l.length ++ r)] K S D L h := by
 induction l with
 | nil => intro k S L h _ w; exact w
 | cons o l ih =>
  intro k S L h hl w
  have h0 : ops[k]? = some o := by simpa using (hl 0 (by simp)).symm
  have hl' : ∀ j, j < l.length → l[j]? = ops[k + 1 + j]? := fun j hj => by have := hl (j + 1) (by simp; omega); simpa [Nat.add_assoc, Nat.add_comm 1 j] using this
  have ih' := ih (fun x hx => hcalm x (List.mem_cons_of_mem _ hx)) (k + 1)
  have hc := hcalm o (List.mem_cons_self ..)
  rw [List.length_cons, List.range'_succ, List.cons_append]
  unfold wpL at w
  cases hg : o.guard with
  | none =>
   rw [hg] at w
   refine goes_op h0 hc (by simp [Region.wanted, hg]) (fun V => opW_mono ?_ ?_ (w V))
   ·rintro v H ⟨L', h', rfl, V', w'⟩; exact ⟨L', h', rfl, V', ih' _ _ _ hl' w'⟩
   ·rintro v H ⟨L', h', rfl, V', w'⟩; exact ⟨L', h', rfl, V', w'⟩
  | some jw =>
   obtain ⟨j, want⟩ := jw
   rw [hg] at w
   obtain ⟨t, he, w1, w2⟩ := w
   by_cases ht : t = some want
   ·refine goes_op h0 hc (by simp [Region.wanted, hg, yielded_ev he, ht]) (fun V => opW_mono ?_ ?_ (w1 ht V))
    ·rintro v H ⟨L', h', rfl, V', w'⟩; exact ⟨L', h', rfl, V', ih' _ _ _ hl' w'⟩
    ·rintro v H ⟨L', h', rfl, V', w'⟩; exact ⟨L', h', rfl, V', w'⟩
   ·exact goes_pass h0 (by simp [Region.wanted, hg, yielded_ev he, ht]) (ih' _ _ _ hl' (w2 ht))
theorem xp_regionS {id : Nat} {ops : Array Oper} {last : Oper} (l : List Oper) (e : ops = (l ++ [last]).toArray) (hc : calmB l = true)
  (w : wpL P n ops l (fun S' L' h' => Goes P n ro [.inRegion ops [l.length]] K S' D L' h') (fun v S' L' h' => K (.panic v) S' D L' h') S L h) : xp P n ro (.region id ops false) K S D L h := by
 subst e
 refine goes_step (items' := [.inRegion (l ++ [last]).toArray (List.range (l ++ [last]).toArray.size)]) (fun b hb k cs main w => by simp [stepG, stepG.exec, mk]) ?_
 have e1 : List.range (l ++ [last]).toArray.size = List.range' 0 l.length ++ [l.length] := by
  simp [List.range_succ, List.range_eq_range']
 rw [e1]
 exact goes_pre l (calm_of l hc) 0 S L h (fun j hj => by rw [List.getElem?_toArray, Nat.zero_add, List.getElem?_append_left hj]) w
theorem xp_regionD {id : Nat} {ops : Array Oper} (hne : Nat.blt 0 ops.size = true) (hc : calmB ops.toList.dropLast = true)
  (w : wpL P n ops ops.toList.dropLast (fun S' L' h' => Goes P n ro [.inRegion ops [ops.size - 1]] K S' D L' h') (fun v S' L' h' => K (.panic v) S' D L' h') S L h) : xp P n ro (.region id ops false) K S D L h := by
 have hp : 0 < ops.size := Nat.le_of_ble_eq_true hne
 have hn : ops.toList ≠ [] := fun e => by
  have : ops.size = 0 := by rw [← Array.length_toList, e]; rfl
  omega
 refine xp_regionS (last := ops.toList.getLast hn) ops.toList.dropLast ?_ hc ?_
 ·rw [List.dropLast_concat_getLast]
 ·rw [List.length_dropLast, Array.length_toList]
  exact w
theorem goes_regionB {id : Nat} {ops : Array Oper} {items : List Item} (g : Goes P n ro ([.inRegion ops (List.range ops.size)] ++ items) K S D L h) : Goes P n ro ([.code (.region id ops false)] ++ items) K S D L h :=
 goes_step (items' := [.inRegion ops (List.range ops.size)] ++ items) (fun b hb k cs main w => by simp [stepG, stepG.exec, mk]) g
theorem xp_seqB {x y : Code} (g : Goes P n ro ([.code x] ++ [.code y]) K S D L h) : xp P n ro (.seq x y) K S D L h :=
 goes_step (items' := [.code x] ++ [.code y]) (fun b hb k cs main w => by simp [stepG, stepG.exec, mk]) g
theorem goes_opB {ops : Array Oper} {i : Nat} {rest : List Nat} {o : Oper} {items : List Item} (ho : ops[i]? = some o) (hc : Op.calm o.op) (hw : Region.wanted o (yielded ops (arr n S)) = true)
  (r : opL P n o S L h (fun v L' h' => Goes P n ro ([.inRegion ops rest] ++ items) K (put S o.dst v) D L' h') (fun v L' h' => K (.panic v) S D L' h')) : Goes P n ro ([.inRegion ops (i :: rest)] ++ items) K S D L h := by
 intro H V b hb k cs
 refine (rch_op ho hc hw r V b (items ++ k) cs).bind ?_
 rintro fr cs' H' ⟨rfl, ⟨v, L', h', rfl, V', g⟩ | ⟨v, L', h', rfl, V', g⟩⟩
 ·exact g H' V' b hb k cs'
 ·exact .done ⟨rfl, .panic v, S, D, L', h', V', g, _, rfl⟩
end pre
end Go.HL
namespace Go.Proofs.YtmpahfdiebhdbaaGreatDoor
open Go Go.HL Go.Proofs Go.Wx
variable [Lvl]
set_option maxRecDepth 100000
theorem take_snoc {α : Type} {l : List α} {k : Nat} (h : k < l.length) : l.take (k + 1) = l.take k ++ [l[k]] := by
 rw [List.take_add_one, List.getElem?_eq_getElem h]; rfl
theorem index_ok (l : List Int) (z : Int) (A : Option Addr) (c : Nat) (h : AH) (R : Row h 1 intC A l) (hl : l.length < 2 ^ 40) :
  FnT Tryz.prog 82 #[.slice A l.length c, .int .i64 z] h (fun v _ => ∃ i : Int, v = .int .i64 i ∧ decide (i ≥ 0) = decide (z ∈ l)) := by
 refine wH Tryz.func82 rfl Tryz.ntmps82 rfl ?_
 refine qE ?_
 refine qB rfl ?_
 refine qA (qD (v := .int .i64 _) rfl) ?_
 refine qE ?_
 refine qE ?_
 refine qB rfl ?_
 refine qA (qC (v := .slice _ _ _) rfl) ?_
 refine qA (wP rfl rfl) ?_
 refine qA (qC (v := .int .i64 _) rfl) ?_
 refine qT ?_
 refine zH [4, 5, 8, 9, 10, 11, 12, 13, 14, 15, 16, 17, 18] 0 (α := Nat) (fun k => [(8, .int .i64 k)]) (fun k => _) (fun k h_k => k ≤ l.length ∧ z ∉ l.take k) (fun k => l.length - k) (0) ⟨rfl, trivial⟩ (rfl) (⟨Nat.zero_le _, by simp⟩) ?_
 rintro k T1 h_k E_k J_k
 refine qU [] rfl ?_
 obtain ⟨K1, K2⟩ := J_k
 refine qE ?_
 refine qB rfl ?_
 refine qA (qK (v := .bool _) rfl) ?_
 refine qE ?_
 refine qP rfl (fun hk => ?_) (fun hk => ?_)
 ·skip
  have hkl : k < l.length := ltI hk
  obtain ⟨g, off, hA, hc⟩ := (R.ext E_k).at (by omega) hkl
  refine qO ?_
  refine qE ?_
  refine qT ?_
  refine qE ?_
  refine qB rfl ?_
  refine qA (qC (v := .int .i64 _) rfl) ?_
  refine qA (qD (v := .int .i64 _) rfl) ?_
  refine qE ?_
  refine qB rfl ?_
  refine qA (qC (v := .int .i64 _) rfl) ?_
  refine qA (qC (v := .slice _ _ _) rfl) ?_
  refine qA (qC (v := .int .i64 _) rfl) ?_
  refine qA (wD rfl hA rfl rfl rfl (by omega) (by omega)) ?_
  refine wL (v := .int .i64 _) rfl rfl ((hc) 0 _ rfl) ?_
  refine qA (qK (v := .bool _) rfl) ?_
  refine qP rfl (fun he => ?_) (fun he => ?_)
  ·skip
   have he' : z = l[k] := by simpa using he
   have hz : z ∈ l := by rw [he']; exact List.getElem_mem hkl
   refine qE ?_
   refine qB rfl ?_
   refine qA (qC (v := .int .i64 _) rfl) ?_
   refine qA (qD (v := .int .i64 _) rfl) ?_
   refine qQ ?_
   refine qM (vs := [_]) Tryz.results82 ⟨qJ rfl rfl, trivial⟩ fun V => ?_
   exact ⟨(zL E_k (qR V)), k, rfl, by rw [decide_eq_true hz]; exact decide_eq_true (by omega)⟩
  ·skip
   have he' : ¬ z = l[k] := by simpa using he
   refine qO ?_
   refine qB rfl ?_
   refine qA (qS rfl (by omega)) ?_
   refine qA (qC (v := .int .i64 _) rfl) ?_
   refine ⟨k + 1, ⟨rfl, trivial⟩, rfl, rfl, E_k, fun h3 E3 => ⟨hkl, by rw [take_snoc hkl, List.mem_append, List.mem_singleton]; exact fun h => h.elim K2 he'⟩, by first | omega | (dsimp only; omega), ?_⟩
   repeat (first | exact qW _ _ _ | refine wA (by decide) ?_ | refine qV rfl ?_ | refine wB rfl ?_)
 ·skip
  have hke : k = l.length := by have := geI hk; omega
  subst hke
  rw [List.take_length] at K2
  refine wS ?_
  refine qE ?_
  refine qB rfl ?_
  refine qA (qD (v := .int .i64 _) rfl) ?_
  refine qQ ?_
  refine qM (vs := [_]) Tryz.results82 ⟨qJ rfl rfl, trivial⟩ fun V => ?_
  exact ⟨(zL E_k (qR V)), -1, rfl, by rw [decide_eq_false K2]; rfl⟩
theorem contains_ok (l : List Int) (z : Int) (A : Option Addr) (c : Nat) (h : AH) (R : Row h 1 intC A l) (hl : l.length < 2 ^ 40) :
  FnT Tryz.prog 63 #[.slice A l.length c, .int .i64 z] h (fun v _ => v = .bool (decide (z ∈ l))) := by
 refine wH Tryz.func63 rfl Tryz.ntmps63 rfl ?_
 refine qE ?_
 refine qB rfl ?_
 refine qA (qD (v := .bool _) rfl) ?_
 refine qE ?_
 refine qB rfl ?_
 refine qA (qC (v := .slice _ _ _) rfl) ?_
 refine qA (qC (v := .int .i64 _) rfl) ?_
 refine wJ (caps := []) (vs := [.slice _ _ _, .int .i64 _]) rfl rfl rfl (index_ok l z A c h R hl) ?_
 rintro _ h1 E1 ⟨i, rfl, hi⟩
 refine qA (qK (v := .bool _) rfl) ?_
 refine qA (qD (v := .bool _) rfl) ?_
 refine qQ ?_
 refine qM (vs := [_]) Tryz.results63 ⟨qJ rfl rfl, trivial⟩ fun V => ?_
 exact ⟨(zL E1 (qR V)), congrArg Value.bool hi⟩
end Go.Proofs.YtmpahfdiebhdbaaGreatDoor
namespace Go.Rd
structure MOK (m : MachP) : Prop where
 rods : 1 ≤ m.rods ∧ m.rods ≤ 6
 levers : 1 ≤ m.levers ∧ m.levers ≤ 6
 regs : 0 ≤ m.regs ∧ m.regs ≤ 2
 travel : 1 ≤ m.travel ∧ m.travel ≤ 12
 opn : 1 ≤ m.opn ∧ m.opn ≤ m.travel
 bl : m.buttons.length ≤ 4
 btn : ∀ b ∈ m.buttons, 0 ≤ b ∧ b < m.rods
 pl : m.pins.length ≤ 8
 pin : ∀ p ∈ m.pins, (0 ≤ p.rod ∧ p.rod < m.rods) ∧ (0 ≤ p.lever ∧ p.lever < m.levers) ∧ (0 ≤ p.lag ∧ p.lag ≤ m.travel)
 ll : m.links.length ≤ 4
 link : ∀ l ∈ m.links, (0 ≤ l.frm ∧ l.frm < m.rods) ∧ (0 ≤ l.to ∧ l.to < m.rods) ∧ l.frm ≠ l.to ∧ (-1 ≤ l.reg ∧ l.reg < m.regs) ∧ (1 ≤ l.lag ∧ l.lag ≤ m.travel)
 wl : (m.weights.length : Int) = m.levers
 wt : ∀ w ∈ m.weights, 0 ≤ w ∧ w ≤ 50
structure Fit (m : MachP) (a : HandP) : Prop where
 bl : m.buttons.length ≤ 4
 btn : ∀ b ∈ m.buttons, 0 ≤ b ∧ b < 6
 ll : m.links.length ≤ 4
 link : ∀ l ∈ m.links, (0 ≤ l.frm ∧ l.frm < 6) ∧ (0 ≤ l.to ∧ l.to < 6) ∧ (0 ≤ l.lag ∧ l.lag ≤ 12)
 hb : ∀ b ∈ a.buttons, 0 ≤ b ∧ b < m.buttons.length
 hl : a.buttons.length ≤ 4
 ol : a.on.length ≤ 4
theorem foldl_inc {α : Type} {g : List Int → α → List Int} (inc : ∀ t x, Le t (g t x)) : ∀ (l : List α) (t : List Int), Le t (l.foldl g t)
 | [], t => .refl t
 | x :: l, t => (inc t x).trans (foldl_inc inc l (g t x))
theorem press_inc (bs : List Int) (depth : Int) : ∀ (t : List Int) (b : Int), Le t (rise t (bs.getD b.toNat 0).toNat depth) := fun t b => rise_le _ _ _
theorem link_inc (on : List Int) : ∀ (t : List Int) (l : LinkP), Le t (if active on l then rise t l.to.toNat (t.getD l.frm.toNat 0 - l.lag) else t) := fun t l => by
 split
 ·exact rise_le _ _ _
 ·exact .refl t
structure Clo (m : MachP) (a : HandP) (depth : Int) (f : Int → Int) : Prop where
 zero : ∀ r, 0 ≤ r → 0 ≤ f r
 press : ∀ b ∈ a.buttons, depth ≤ f (m.buttons.getD b.toNat 0)
 link : ∀ l ∈ m.links, active a.on l = true → f l.frm - l.lag ≤ f l.to
theorem getD_mem_ge {l : List Int} {p : Int → Prop} (h : ∀ b ∈ l, p b) {i : Nat} (hi : i < l.length) : p (l.getD i 0) := by
 rw [List.getD_eq_getElem?_getD, List.getElem?_eq_getElem hi]
 exact h _ (List.getElem_mem hi)
theorem step_len (m : MachP) (a : HandP) (depth : Int) (t : List Int) : (stepM m a depth t).length = t.length :=
 ((foldl_inc (press_inc m.buttons depth) a.buttons t).trans (foldl_inc (link_inc a.on) m.links _)).1.symm
theorem sends_inv {m : MachP} {a : HandP} {depth : Int} {I : List Int → Prop} (hI : ∀ t, I t → I (stepM m a depth t)) : ∀ (n : Nat) (t : List Int), I t → I ((sendsM m a depth n t).getLastD t)
 | 0, t, h => h
 | n + 1, t, h => by
  unfold sendsM
  split
  ·exact h
  ·rw [List.getLastD_cons]
   exact sends_inv hI n _ (hI t h)
theorem Fit.lag {m : MachP} {a : HandP} (F : Fit m a) : ∀ l ∈ m.links, 0 ≤ l.lag := fun l hl => (F.link l hl).2.2.1
theorem turned_len (m : MachP) (a : HandP) (depth : Int) : (turnedM m a depth).length = 6 := sends_inv (I := fun t => t.length = 6) (fun t h => by rw [step_len]; exact h) _ _ rfl
theorem turned_bd {m : MachP} {a : HandP} {depth : Int} (F : Fit m a) (hd : 0 ≤ depth) : Bd depth (turnedM m a depth) := sends_inv (I := Bd depth) (fun _ h => (stepM_ok (h := a) F.lag h).2) _ _ (zero_bd hd)
end Go.Rd
namespace Go.Rd
def pinS (t : List Int) (l : List Int) (p : PinP) : List Int := rise l p.lever.toNat (t.getD p.rod.toNat 0 - p.lag)
def liftedM (m : MachP) (t : List Int) : List Int := m.pins.foldl (pinS t) (List.replicate m.levers.toNat 0)
theorem pin_inc (t : List Int) : ∀ (l : List Int) (p : PinP), Le l (pinS t l p) := fun l p => rise_le _ _ _
theorem lifted_len (m : MachP) (t : List Int) : (liftedM m t).length = m.levers.toNat := by
 unfold liftedM
 rw [← (foldl_inc (pin_inc t) m.pins (List.replicate m.levers.toNat 0)).1, List.length_replicate]
end Go.Rd
namespace Go.Wx
open Go Go.HL
variable [Lvl]
def inM (n lo hi : Int) : Bool := decide (lo ≤ n) && decide (n ≤ hi)
def firstErr {α : Type} (f : α → Int) : List α → Int
 | [] => 0
 | x :: l => if f x ≠ 0 then f x else firstErr f l
theorem firstErr_append {α : Type} (f : α → Int) : ∀ (a b : List α), firstErr f a = 0 → firstErr f (a ++ b) = firstErr f b
 | [], b, _ => rfl
 | x :: a, b, h => by
  unfold firstErr at h
  split at h
  ·rename_i hx; exact absurd h hx
  ·rename_i hx
   rw [List.cons_append, firstErr, if_neg hx]
   exact firstErr_append f a b h
theorem zG {α : Type} {f : α → Int} {l : List α} {k : Nat} (hk : k < l.length) (h0 : firstErr f (l.take k) = 0) (hx : f l[k] ≠ 0) : firstErr f l = f l[k] := by
 have e : l = l.take k ++ l[k] :: l.drop (k + 1) := by rw [← List.drop_eq_getElem_cons hk, List.take_append_drop]
 have h1 := firstErr_append f (l.take k) (l[k] :: l.drop (k + 1)) h0
 rw [← e] at h1
 rw [h1, firstErr, if_pos hx]
theorem firstErr_go {α : Type} {f : α → Int} {l : List α} {k : Nat} (hk : k < l.length) (h0 : firstErr f (l.take k) = 0) (hx : f l[k] = 0) : firstErr f (l.take (k + 1)) = 0 := by
 rw [List.take_succ_eq_append_getElem hk, firstErr_append f _ _ h0, firstErr, if_neg (by simp [hx])]
 rfl
theorem firstErr_zero {α : Type} {f : α → Int} : ∀ {l : List α}, firstErr f l = 0 → ∀ x ∈ l, f x = 0
 | [], _, _, h => by cases h
 | y :: l, h, x, hx => by
  unfold firstErr at h
  split at h
  ·rename_i hy; exact absurd h hy
  ·rename_i hy
   cases hx with
   | head => simpa using hy
   | tail _ hx => exact firstErr_zero h x hx
end Go.Wx
namespace Go.Rd
open Go Go.HL Go.Wx
variable [Lvl]
def setAt (below : Int) (l : List Int) (i : Nat) : Int := if !inM (l.getD i 0) 0 (below - 1) then 3 else if 0 < i ∧ l.getD i 0 ≤ l.getD (i - 1) 0 then 5 else 0
def checkSetM (l : List Int) (below : Int) : Int := firstErr (setAt below l) (List.range l.length)
def checkLinkM (m : MachP) (l : LinkP) : Int :=
 if !inM l.frm 0 (m.rods - 1) then 3 else if !inM l.to 0 (m.rods - 1) then 3 else if l.frm = l.to then 4 else if !inM l.reg (-1) (m.regs - 1) then 3 else if !inM l.lag 1 m.travel then 1 else 0
def checkButtonM (m : MachP) (b : Int) : Int := if !inM b 0 (m.rods - 1) then 3 else 0
def checkPinM (m : MachP) (p : PinP) : Int := if !inM p.rod 0 (m.rods - 1) then 3 else if !inM p.lever 0 (m.levers - 1) then 3 else if !inM p.lag 0 m.travel then 1 else 0
def checkWeightM (w : Int) : Int := if !inM w 0 50 then 1 else 0
def chkM (m : MachP) : Int :=
 if !inM m.rods 1 6 then 1 else if !inM m.levers 1 6 then 1 else if !inM m.regs 0 2 then 1 else if !inM m.travel 1 12 then 1 else if !inM m.opn 1 m.travel then 1
 else if m.buttons.length > 4 then 6 else if firstErr (checkButtonM m) m.buttons ≠ 0 then firstErr (checkButtonM m) m.buttons
 else if m.pins.length > 8 then 6 else if firstErr (checkPinM m) m.pins ≠ 0 then firstErr (checkPinM m) m.pins
 else if m.links.length > 4 then 6 else if firstErr (checkLinkM m) m.links ≠ 0 then firstErr (checkLinkM m) m.links
 else if (m.weights.length : Int) ≠ m.levers then 2 else firstErr checkWeightM m.weights
def checkHandM (m : MachP) (a : HandP) : Int :=
 if chkM m ≠ 0 then chkM m else if checkSetM a.buttons m.buttons.length ≠ 0 then checkSetM a.buttons m.buttons.length else checkSetM a.on m.regs
theorem inM_iff {n lo hi : Int} : inM n lo hi = true ↔ lo ≤ n ∧ n ≤ hi := by simp [inM]
theorem firstErr_iff {α : Type} {f : α → Int} : ∀ {l : List α}, firstErr f l = 0 ↔ ∀ x ∈ l, f x = 0
 | [] => ⟨fun _ x h => absurd h (List.not_mem_nil), fun _ => rfl⟩
 | y :: l => by
  unfold firstErr
  split
  ·rename_i h
   exact ⟨fun e => absurd e h, fun k => k y (List.mem_cons_self ..)⟩
  ·rename_i h
   rw [firstErr_iff]
   have h' : f y = 0 := by simpa using h
   exact ⟨fun k x hx => (List.mem_cons.1 hx).elim (fun e => e ▸ h') (k x), fun k x hx => k x (List.mem_cons_of_mem _ hx)⟩
structure SetOK (l : List Int) (below : Int) : Prop where
 mem : ∀ x ∈ l, 0 ≤ x ∧ x < below
 asc : l.Pairwise (· < ·)
theorem asc_of {l : List Int} (h : ∀ i, i + 1 < l.length → l.getD i 0 < l.getD (i + 1) 0) : l.Pairwise (· < ·) := by
 rw [List.pairwise_iff_getElem]
 have key : ∀ k i, i + k + 1 < l.length → l.getD i 0 < l.getD (i + k + 1) 0 := by
  intro k
  induction k with
  | zero => intro i hi; exact h i hi
  | succ k ih =>
   intro i hi
   have h1 := ih i (by omega)
   have h2 := h (i + k + 1) (by omega)
   rw [show i + (k + 1) + 1 = i + k + 1 + 1 by omega]
   omega
 intro i j hi hj hij
 have := key (j - i - 1) i (by omega)
 rw [show i + (j - i - 1) + 1 = j by omega] at this
 simpa [List.getD_eq_getElem?_getD, List.getElem?_eq_getElem hi, List.getElem?_eq_getElem hj] using this
theorem checkSet_iff {l : List Int} {below : Int} : checkSetM l below = 0 ↔ SetOK l below := by
 unfold checkSetM
 rw [firstErr_iff]
 have g : ∀ i (hi : i < l.length), l.getD i 0 = l[i] := fun i hi => by simp [List.getD_eq_getElem?_getD, List.getElem?_eq_getElem hi]
 constructor
 ·intro h
  have h' : ∀ i, i < l.length → (0 ≤ l.getD i 0 ∧ l.getD i 0 < below) ∧ (0 < i → l.getD (i - 1) 0 < l.getD i 0) := by
   intro i hi
   have := h i (List.mem_range.2 hi)
   unfold setAt inM at this
   split at this
   ·cases this
   ·rename_i h1
    split at this
    ·cases this
    ·rename_i h2
     simp only [Bool.not_eq_true', Bool.and_eq_false_iff, decide_eq_false_iff_not, not_or, Classical.not_not, not_and] at h1 h2
     exact ⟨⟨h1.1, by omega⟩, fun h0 => by have := h2 h0; omega⟩
  refine ⟨fun x hx => ?_, asc_of fun i hi => ?_⟩
  ·obtain ⟨i, hi, rfl⟩ := List.getElem_of_mem hx
   rw [← g i hi]
   exact (h' i hi).1
  ·exact (h' (i + 1) hi).2 (by omega)
 ·rintro ⟨h1, h2⟩ i hi
  have hi := List.mem_range.1 hi
  rw [List.pairwise_iff_getElem] at h2
  unfold setAt
  obtain ⟨a0, a1⟩ := h1 _ (List.getElem_mem hi)
  rw [g i hi, if_neg (by simp [inM]; omega), if_neg]
  rintro ⟨h0, h3⟩
  have := h2 (i - 1) i (by omega) hi (by omega)
  rw [g (i - 1) (by omega)] at h3
  omega
theorem peel {c : Prop} [Decidable c] {n x : Int} (h : (if c then n else x) = 0) (hn : c → n ≠ 0) : ¬ c ∧ x = 0 := by
 by_cases hc : c
 ·rw [if_pos hc] at h; exact absurd h (hn hc)
 ·rw [if_neg hc] at h; exact ⟨hc, h⟩
theorem check_ok {m : MachP} (h : chkM m = 0) : MOK m := by
 unfold chkM at h
 obtain ⟨a1, h⟩ := peel h (fun _ => by decide)
 obtain ⟨a2, h⟩ := peel h (fun _ => by decide)
 obtain ⟨a3, h⟩ := peel h (fun _ => by decide)
 obtain ⟨a4, h⟩ := peel h (fun _ => by decide)
 obtain ⟨a5, h⟩ := peel h (fun _ => by decide)
 obtain ⟨a6, h⟩ := peel h (fun _ => by decide)
 obtain ⟨a7, h⟩ := peel h (fun x => x)
 obtain ⟨a8, h⟩ := peel h (fun _ => by decide)
 obtain ⟨a9, h⟩ := peel h (fun x => x)
 obtain ⟨a10, h⟩ := peel h (fun _ => by decide)
 obtain ⟨a11, h⟩ := peel h (fun x => x)
 obtain ⟨a12, h⟩ := peel h (fun _ => by decide)
 simp only [Bool.not_eq_true', Bool.not_eq_false, inM_iff] at a1 a2 a3 a4 a5
 simp only [ne_eq, Classical.not_not] at a7 a9 a11 a12
 have b1 := firstErr_zero a7
 have b2 := firstErr_zero a9
 have b3 := firstErr_zero a11
 have b4 := firstErr_zero h
 refine ⟨a1, a2, a3, a4, a5, by omega, fun b hb => ?_, by omega, fun p hp => ?_, by omega, fun l hl => ?_, by simpa using a12, fun w hw => ?_⟩
 ·have h1 := b1 b hb
  unfold checkButtonM at h1
  obtain ⟨a1, _⟩ := peel h1 (fun _ => by decide)
  simp only [Bool.not_eq_true', Bool.not_eq_false, inM_iff] at a1
  omega
 ·have h1 := b2 p hp
  unfold checkPinM at h1
  obtain ⟨a1, h1⟩ := peel h1 (fun _ => by decide)
  obtain ⟨a2, h1⟩ := peel h1 (fun _ => by decide)
  obtain ⟨a3, h1⟩ := peel h1 (fun _ => by decide)
  simp only [Bool.not_eq_true', Bool.not_eq_false, inM_iff] at a1 a2 a3
  omega
 ·have h1 := b3 l hl
  unfold checkLinkM at h1
  obtain ⟨a1, h1⟩ := peel h1 (fun _ => by decide)
  obtain ⟨a2, h1⟩ := peel h1 (fun _ => by decide)
  obtain ⟨a3, h1⟩ := peel h1 (fun _ => by decide)
  obtain ⟨a4, h1⟩ := peel h1 (fun _ => by decide)
  obtain ⟨a5, h1⟩ := peel h1 (fun _ => by decide)
  simp only [Bool.not_eq_true', Bool.not_eq_false, inM_iff] at a1 a2 a4 a5
  omega
 ·have h1 := b4 w hw
  unfold checkWeightM at h1
  obtain ⟨a1, _⟩ := peel h1 (fun _ => by decide)
  simp only [Bool.not_eq_true', Bool.not_eq_false, inM_iff] at a1
  omega
structure HOK (m : MachP) (a : HandP) : Prop where
 b : SetOK a.buttons m.buttons.length
 o : SetOK a.on m.regs
theorem checkHand_ok0 {m : MachP} {a : HandP} (h : checkHandM m a = 0) : MOK m ∧ HOK m a := by
 unfold checkHandM at h
 split at h
 ·rename_i e; exact absurd h e
 ·rename_i e
  split at h
  ·rename_i e2; exact absurd h e2
  ·rename_i e2
   exact ⟨check_ok (by simpa using e), checkSet_iff.1 (by simpa using e2), checkSet_iff.1 h⟩
theorem set_len {l : List Int} {below : Nat} (s : SetOK l below) : l.length ≤ below := by
 have key : ∀ (l : List Int) (lo : Int), (∀ x ∈ l, lo ≤ x ∧ x < below) → l.Pairwise (· < ·) → lo + l.length ≤ below ∨ l = [] := by
  intro l
  induction l with
  | nil => intro lo _ _; exact .inr rfl
  | cons y l ih =>
   intro lo hm hp
   rw [List.pairwise_cons] at hp
   have hy := hm y (List.mem_cons_self ..)
   left
   rcases ih (y + 1) (fun x hx => ⟨by have := hp.1 x hx; omega, (hm x (List.mem_cons_of_mem _ hx)).2⟩) hp.2 with h | h
   ·rw [List.length_cons]; omega
   ·subst h; simp; omega
 rcases key l 0 s.mem s.asc with h | h
 ·omega
 ·subst h; simp
theorem fit_of {m : MachP} {a : HandP} (M : MOK m) (H : HOK m a) : Fit m a := by
 have r := M.rods
 have g := M.regs
 have l := M.travel
 refine ⟨M.bl, fun b hb => by have := M.btn b hb; omega, M.ll, fun x hx => by have := M.link x hx; omega, fun b hb => H.b.mem b hb, ?_, ?_⟩
 ·have := set_len H.b
  have := M.bl
  omega
 ·have := set_len (below := m.regs.toNat) (by rw [Int.toNat_of_nonneg g.1]; exact H.o)
  omega
end Go.Rd
namespace Go.Wx
open Go Go.HL
variable [Lvl]
def withM (m k : Nat) : Nat := m ||| 2 ^ k
def listN (m k : Nat) : List Int := ((List.range k).filter (fun i => m.testBit i)).map fun i : Nat => (i : Int)
theorem listN_succ (m k : Nat) : listN m (k + 1) = if m.testBit k then listN m k ++ [(k : Int)] else listN m k := by
 unfold listN
 rw [List.range_succ, List.filter_append, List.map_append]
 by_cases h : m.testBit k = true
 ·simp [h]
 ·simp [h]
theorem listN_len (m k : Nat) : (listN m k).length ≤ k := by
 unfold listN
 rw [List.length_map]
 exact Nat.le_trans (List.length_filter_le _ _) (by simp)
theorem testBit_div (m k : Nat) : (m / 2 ^ k) &&& 1 = if m.testBit k then 1 else 0 := by
 rw [Nat.and_one_is_mod, Nat.testBit_eq_decide_div_mod_eq]
 by_cases h : m / 2 ^ k % 2 = 1
 ·simp [h]
 ·have : m / 2 ^ k % 2 = 0 := by omega
  simp [this]
end Go.Wx
namespace Go.Rd
open Go Go.HL Go.Wx
variable [Lvl]
def maskOf (p : Nat → Bool) : Nat → Nat
 | 0 => 0
 | n + 1 => if p n then withM (maskOf p n) n else maskOf p n
theorem withM_bit (m k i : Nat) : (withM m k).testBit i = (m.testBit i || decide (k = i)) := by
 unfold withM
 rw [Nat.testBit_or, Nat.testBit_two_pow]
theorem maskOf_lt (p : Nat → Bool) : ∀ n, maskOf p n < 2 ^ n
 | 0 => by simp [maskOf]
 | n + 1 => by
  have ih := maskOf_lt p n
  have h2 : 2 ^ n < 2 ^ (n + 1) := Nat.pow_lt_pow_right (by omega) (by omega)
  unfold maskOf
  split
  ·exact Nat.or_lt_two_pow (by omega) h2
  ·omega
def setM (l : List Int) : Nat := l.foldl (fun s x => withM s x.toNat) 0
theorem setM_snoc (l : List Int) (x : Int) : setM (l ++ [x]) = withM (setM l) x.toNat := by simp [setM, List.foldl_append]
theorem setM_bit (l : List Int) (i : Nat) : (setM l).testBit i = l.any fun x => decide (x.toNat = i) := by
 have key : ∀ (l : List Int) (s : Nat), (l.foldl (fun s x => withM s x.toNat) s).testBit i = (s.testBit i || l.any fun x => decide (x.toNat = i)) := by
  intro l
  induction l with
  | nil => intro s; simp
  | cons x l ih =>
   intro s
   rw [List.foldl_cons, ih, withM_bit, List.any_cons, Bool.or_assoc]
 rw [setM, key]
 simp
theorem bits_lt {m n : Nat} (h : ∀ i, m.testBit i = true → i < n) : m < 2 ^ n := Nat.lt_pow_two_of_testBit _ fun i hi => by
 cases e : m.testBit i with
 | false => rfl
 | true => have := h i e; omega
theorem setM_lt {l : List Int} {n : Nat} (h : ∀ x ∈ l, 0 ≤ x ∧ x < n) : setM l < 2 ^ n := bits_lt fun i hi => by
 rw [setM_bit, List.any_eq_true] at hi
 obtain ⟨x, hx, e⟩ := hi
 have := h x hx
 have := of_decide_eq_true e
 omega
def soundsM (m : MachP) (a : HandP) (depth : Int) : Nat := maskOf (fun v => decide (m.opn ≤ (liftedM m (turnedM m a depth)).getD v 0)) m.levers.toNat
end Go.Rd
namespace Go.Rd
open Go Go.HL Go.Wx
variable [Lvl]
abbrev tV (t : List Int) : List Value := t.map (Value.int .i64)
theorem rd_all {l : List Value} {m : Nat} (h : l.length = m) : rd l.toArray 0 m = some l := by
 subst h
 unfold rd
 simp
theorem wrL_at : ∀ (vs pre c : List Value), c.length = vs.length → wrL (pre ++ c) pre.length vs = pre ++ vs
 | [], pre, c, h => by
  have : c = [] := List.length_eq_zero_iff.1 h
  subst this
  rfl
 | v :: vs, pre, [], h => by simp at h
 | v :: vs, pre, x :: c, h => by
  have ih := wrL_at vs (pre ++ [v]) c (by simpa using h)
  simp only [wrL]
  have e : (pre ++ x :: c).set pre.length v = (pre ++ [v]) ++ c := by simp
  rw [e, show pre.length + 1 = (pre ++ [v]).length by simp, ih]
  simp
theorem wrL_all {c vs : List Value} (h : c.length = vs.length) : wrL c 0 vs = vs := wrL_at vs [] c h
theorem wrL_rise {t : List Int} {i : Nat} {o : Nat} {v x : Int} (ho : o = i) (e : x = max (t.getD i 0) v) : wrL (tV t) o [.int .i64 x] = tV (rise t i v) := by
 subst ho e
 simp [wrL, rise, List.map_set]
theorem tV_at {t : List Int} {i o : Nat} (ho : o = i) (hi : i < t.length) : (tV t).toArray[o]? = some (.int .i64 (t.getD i 0)) := by
 subst ho
 simp [List.getElem?_eq_getElem hi, List.getD_eq_getElem?_getD]
theorem pressM_take {bs : List Int} {depth : Int} {hb : List Int} {t : List Int} {k : Nat} (hk : k < hb.length) : pressM bs depth (hb.take (k + 1)) t = rise (pressM bs depth (hb.take k) t) (bs.getD hb[k].toNat 0).toNat depth := by
 unfold pressM
 rw [List.take_add_one, List.getElem?_eq_getElem hk, Option.toList_some, List.foldl_append]
 rfl
theorem linkM_take {on : List Int} {ls : List LinkP} {t : List Int} {k : Nat} (hk : k < ls.length) : linkM on (ls.take (k + 1)) t = if active on ls[k] then rise (linkM on (ls.take k) t) ls[k].to.toNat ((linkM on (ls.take k) t).getD ls[k].frm.toNat 0 - ls[k].lag) else linkM on (ls.take k) t := by
 unfold linkM
 rw [List.take_add_one, List.getElem?_eq_getElem hk, Option.toList_some, List.foldl_append]
 rfl
theorem press_len (bs : List Int) (depth : Int) (hb t : List Int) : (pressM bs depth hb t).length = t.length := (foldl_inc (press_inc bs depth) hb t).1.symm
theorem link_len (on : List Int) (ls : List LinkP) (t : List Int) : (linkM on ls t).length = t.length := (foldl_inc (link_inc on) ls t).1.symm
theorem press_bd {depth : Int} (bs : List Int) (hb : List Int) {t : List Int} (b : Bd depth t) : Bd depth (pressM bs depth hb t) := (pressM_ok bs (Int.le_refl depth) hb t b).2
theorem link_bd {depth : Int} (on : List Int) {ls : List LinkP} {t : List Int} (hl : ∀ l ∈ ls, 0 ≤ l.lag) (b : Bd depth t) : Bd depth (linkM on ls t) := (linkM_ok on ls t hl b).2
theorem take_mem {α : Type} {l : List α} {k : Nat} {x : α} (h : x ∈ l.take k) : x ∈ l := List.mem_of_mem_take h
theorem getD_get {l : List Int} {i : Nat} (h : i < l.length) : l.getD i 0 = l[i] := by simp [List.getD_eq_getElem?_getD, List.getElem?_eq_getElem h]
theorem len6 {t : List Int} (h : t.length = 6) : ∃ a b c d e f, t = [a, b, c, d, e, f] := by
 match t, h with
 | [a, b, c, d, e, f], _ => exact ⟨a, b, c, d, e, f, rfl⟩
theorem sends_len {m : MachP} {a : HandP} {depth : Int} : ∀ (n : Nat) (t : List Int), t.length = 6 → ∀ u ∈ sendsM m a depth n t, u.length = 6
 | 0, _, _, u, hu => absurd hu (List.not_mem_nil)
 | n + 1, t, ht, u, hu => by
  unfold sendsM at hu
  split at hu
  ·exact absurd hu (List.not_mem_nil)
  ·have h1 : (stepM m a depth t).length = 6 := by rw [step_len, ht]
   rcases List.mem_cons.1 hu with rfl | hu
   ·exact h1
   ·exact sends_len n _ h1 u hu
abbrev machV (AB AQ AL AW : Option Addr) (cB cQ cL cW : Nat) (m : MachP) : Value := .agg #[.int .i64 m.rods, .int .i64 m.levers, .int .i64 m.regs, .int .i64 m.travel, .int .i64 m.opn, .slice AB m.buttons.length cB, .slice AQ m.pins.length cQ, .slice AL m.links.length cL, .slice AW m.weights.length cW]
abbrev handV (HA OA : Option Addr) (cH cO : Nat) (a : HandP) : Value := .agg #[.slice HA a.buttons.length cH, .slice OA a.on.length cO]
structure MachR (h : AH) (AB AQ AL AW : Option Addr) (m : MachP) : Prop where
 b : Row h 1 intC AB m.buttons
 q : Row h 3 pinC AQ m.pins
 l : Row h 4 linkC AL m.links
 w : Row h 1 intC AW m.weights
theorem MachR.ext {h h' : AH} {AB AQ AL AW : Option Addr} {m : MachP} (r : MachR h AB AQ AL AW m) (e : Ext h h') : MachR h' AB AQ AL AW m := ⟨r.b.ext e, r.q.ext e, r.l.ext e, r.w.ext e⟩
structure HandR (h : AH) (HA OA : Option Addr) (a : HandP) : Prop where
 b : Row h 1 intC HA a.buttons
 o : Row h 1 intC OA a.on
theorem HandR.ext {h h' : AH} {HA OA : Option Addr} {a : HandP} (r : HandR h HA OA a) (e : Ext h h') : HandR h' HA OA a := ⟨r.b.ext e, r.o.ext e⟩
theorem MachV.open {h : AH} {m : MachP} {v : Value} (r : MachV h m v) : ∃ AB AQ AL AW cB cQ cL cW, v = machV AB AQ AL AW cB cQ cL cW m ∧ MachR h AB AQ AL AW m := by
 obtain ⟨_, _, _, _, rfl, ⟨AB, cB, rfl, r1⟩, ⟨AQ, cQ, rfl, r2⟩, ⟨AL, cL, rfl, r3⟩, ⟨AW, cW, rfl, r4⟩⟩ := r
 exact ⟨AB, AQ, AL, AW, cB, cQ, cL, cW, rfl, r1, r2, r3, r4⟩
theorem MachR.close {h : AH} {m : MachP} {AB AQ AL AW : Option Addr} {cB cQ cL cW : Nat} (r : MachR h AB AQ AL AW m) : MachV h m (machV AB AQ AL AW cB cQ cL cW m) :=
 ⟨_, _, _, _, rfl, ⟨_, _, rfl, r.b⟩, ⟨_, _, rfl, r.q⟩, ⟨_, _, rfl, r.l⟩, ⟨_, _, rfl, r.w⟩⟩
theorem HandV.open {h : AH} {a : HandP} {v : Value} (r : HandV h a v) : ∃ HA OA cH cO, v = handV HA OA cH cO a ∧ HandR h HA OA a := by
 obtain ⟨_, _, rfl, ⟨HA, cH, rfl, r1⟩, ⟨OA, cO, rfl, r2⟩⟩ := r
 exact ⟨HA, OA, cH, cO, rfl, r1, r2⟩
theorem HandR.close {h : AH} {a : HandP} {HA OA : Option Addr} {cH cO : Nat} (r : HandR h HA OA a) : HandV h a (handV HA OA cH cO a) := ⟨_, _, rfl, ⟨_, _, rfl, r.b⟩, ⟨_, _, rfl, r.o⟩⟩
end Go.Rd
namespace Go.Proofs.YtmpahfdiebhdbaaGreatDoor
open Go Go.HL Go.Proofs Go.Wx Go.Rd Go.Conc
set_option maxRecDepth 100000
section
variable [Lvl]
theorem turnsEq {a b : List Int} (ha : a.length = 6) (hb : b.length = 6) : pev Tryz.prog (Op.equalIn Op.maxDepth 89 (.agg (tV a).toArray) (.agg (tV b).toArray)) = some (decide (a = b)) := by
 obtain ⟨a0, a1, a2, a3, a4, a5, rfl⟩ := len6 ha
 obtain ⟨b0, b1, b2, b3, b4, b5, rfl⟩ := len6 hb
 have h1 := eq_array (P := Tryz.prog) (t := 89) (d := 9999) (len := 6) (xs := (tV [a0, a1, a2, a3, a4, a5]).toArray) (ys := (tV [b0, b1, b2, b3, b4, b5]).toArray) (rs := [a0 == b0, a1 == b1, a2 == b2, a3 == b3, a4 == b4, a5 == b5]) rfl rfl rfl ?_
 ·refine h1.trans ?_
  simp only [List.all_cons, List.all_nil, id, Bool.and_true, Option.some.injEq]
  rw [Bool.eq_iff_iff]
  simp
 ·intro i r hr
  match i, hr with
  | 0, hr => cases hr; exact ⟨_, _, rfl, rfl, eq_int rfl _ _⟩
  | 1, hr => cases hr; exact ⟨_, _, rfl, rfl, eq_int rfl _ _⟩
  | 2, hr => cases hr; exact ⟨_, _, rfl, rfl, eq_int rfl _ _⟩
  | 3, hr => cases hr; exact ⟨_, _, rfl, rfl, eq_int rfl _ _⟩
  | 4, hr => cases hr; exact ⟨_, _, rfl, rfl, eq_int rfl _ _⟩
  | 5, hr => cases hr; exact ⟨_, _, rfl, rfl, eq_int rfl _ _⟩
  | i + 6, hr => simp at hr
end
theorem turned1_ok {c bC bH bM bD : Nat} {hw R : AH} {fC : Nat × Nat} {m : MachP} {a : HandP} {depth : Int} (F : Fit m a) {AB AL HA OA : Option Addr} {cB cL cH cO : Nat} {Q W : Value} {N : Nat} (hd0 : 0 ≤ depth) (hd1 : depth ≤ 12) (hN : room depth zero6 < N)
  (fin : Fin (hun hw (zf R))) (d : Disj hw R) (hwc : hw c = none) (hRc : R c = none)
  (eC : hun hw (zf R) bC = some (.cells #[.chan (some c)] 119 fC)) (eD : hun hw (zf R) bD = some (.cells #[.int .i64 depth] 3 (0, 0)))
  (eH : Cells (hun hw (zf R)) bH 0 [.slice HA a.buttons.length cH, .slice OA a.on.length cO])
  (eM : Cells (hun hw (zf R)) bM 0 [.int .i64 m.rods, .int .i64 m.levers, .int .i64 m.regs, .int .i64 m.travel, .int .i64 m.opn, .slice AB m.buttons.length cB, Q, .slice AL m.links.length cL, W])
  (RH : Row (hun hw (zf R)) 1 intC HA a.buttons) (RO : Row (hun hw (zf R)) 1 intC OA a.on) (RB : Row (hun hw (zf R)) 1 intC AB m.buttons) (RL : Row (hun hw (zf R)) 4 linkC AL m.links) :
  RW Tryz.prog c (QW R c [baseG Tryz.prog []] (WEnd 62 74 c #[119] 0 hw)) (baseG Tryz.prog [{ target := .fn (.func 62) #[.pointer (some ⟨bC, 0, none⟩), .pointer (some ⟨bH, 0, none⟩), .pointer (some ⟨bM, 0, none⟩), .pointer (some ⟨bD, 0, none⟩)], args := #[] }]) [] (hun hw (zw R c ((sendsM m a depth N zero6).map turnsV))) := by
 letI : Lvl := ⟨false, some c, none⟩
 have hbl := F.bl
 have cC : cellA (hun hw (zf R)) ⟨bC, 0, none⟩ = some (.chan (some c)) := by simp only [cellA, eC]; rfl
 have cD : cellA (hun hw (zf R)) ⟨bD, 0, none⟩ = some (.int .i64 depth) := by simp only [cellA, eD]; rfl
 have hll := F.ll
 have hhl := F.hl
 have hol := F.ol
 refine worker_body (args := #[]) Tryz.func62 rfl rfl Tryz.ntmps62 rfl fin d hwc hRc ?_
 generalize hun hw (zf R) = h at *
 refine qE ?_
 refine xp_regionD rfl rfl ?_
 refine wL (v := .chan (some c)) rfl rfl (by simp only [cellA, eC]; rfl) ?_
 refine goes_defer rfl rfl rfl rfl ?_
 refine goes_end ?_
 refine qU [_] rfl ?_
 refine qE ?_
 refine qB rfl ?_
 refine zE (cs := [_, _, _, _, _, _]) rfl rfl fun b4 hb4 => ?_
 refine qN [_, _] rfl ?_
 refine qT ?_
 refine xp_loopL [5, 7, 9, 11, 12, 13, 14, 15, 16, 17, 18, 19, 20, 21, 22, 23, 24, 25, 26, 27, 28, 29, 30, 31, 32, 33, 34, 35, 36, 37, 38, 39, 40, 41, 42, 43, 44, 45, 46, 47, 48, 49, 50, 51, 52, 53, 54, 55, 56, 57, 58, 59, 60, 61, 62, 63, 64, 65, 66, 67, 68, 69, 70, 71, 72, 73] 2 (α := List Int) (fun t => []) (fun t L => (L.set 0 (some (c, gch ((sendsM m a depth N t).map turnsV)))).set 1 (some (b4, .cells (tV t).toArray 89 (0, 0)))) (fun t h_t => t.length = 6 ∧ Bd depth t ∧ room depth t < N) (fun t => room depth t) (zero6) trivial (rfl) (⟨rfl, zero_bd hd0, hN⟩) ?_
 rintro t T1 h_t E_t J_t
 refine qU [_, _] rfl ?_
 obtain ⟨J1, J2, J3⟩ := J_t
 have hs := sends_eq F.lag J2 J3 (h := a)
 refine qT ?_
 refine qE ?_
 refine qB rfl ?_
 have hT6 : (tV t).length = 6 := by simp [J1]
 refine wO 1 (m := 6) (vs := tV t) rfl rfl rfl rfl (rd_all hT6) ?_
 refine zE (cs := [_, _, _, _, _, _]) rfl rfl fun b5 hb5 => ?_
 refine qN [_, _, _] rfl ?_
 refine qY 2 (m := 6) (v := .agg (tV t).toArray) (vs := tV t) (c' := tV t) rfl rfl rfl rfl rfl hT6 rfl (by simp [plainB]) (wrL_all hT6.symm) ?_
 refine qN [_, _, _] rfl ?_
 refine qE ?_
 refine qE ?_
 refine qB rfl ?_
 refine qA (qG rfl rfl rfl rfl _ rfl) ?_
 refine wL (v := .slice HA _ _) rfl rfl ((eH.ext E_t) 0 _ rfl) ?_
 refine qA (wP rfl rfl) ?_
 refine qA (qC (v := .int .i64 _) rfl) ?_
 refine qT ?_
 refine xp_loopL [7, 15, 16, 17, 18, 19, 20, 21, 22, 23, 24, 25, 26, 27, 28, 29, 30, 31, 32, 33, 34] 3 (α := Nat) (fun k => [(15, .int .i64 k)]) (fun k L => L.set 2 (some (b5, .cells (tV (pressM m.buttons depth (a.buttons.take k) t)).toArray 89 (0, 0)))) (fun k h_k => k ≤ a.buttons.length) (fun k => a.buttons.length - k) (0) ⟨rfl, trivial⟩ (rfl) (Nat.zero_le _) ?_
 rintro k T2 h_k E_k J_k
 refine qU [_, _, _] rfl ?_
 refine qE ?_
 refine qB rfl ?_
 refine qA (qK (v := .bool _) rfl) ?_
 refine qE ?_
 refine qP rfl (fun hk => ?_) (fun hk => ?_)
 ·skip
  have hkl : k < a.buttons.length := ltI hk
  obtain ⟨g, off, hA, hc⟩ := (RH.ext (zL E_t E_k)).at (by omega) hkl
  have hbk := F.hb _ (List.getElem_mem hkl)
  have hbk2 : a.buttons[k].toNat < m.buttons.length := by omega
  obtain ⟨g2, off2, hA2, hc2⟩ := (RB.ext (zL E_t E_k)).at (by omega) hbk2
  have hbt := F.btn _ (List.getElem_mem hbk2)
  have hP6 : (tV (pressM m.buttons depth (a.buttons.take k) t)).length = 6 := by rw [List.length_map, press_len, J1]
  refine qO ?_
  refine qE ?_
  refine qT ?_
  refine qE ?_
  refine qB rfl ?_
  refine qA (wD rfl hA rfl rfl rfl (by omega) (by omega)) ?_
  refine wL (v := .int .i64 _) rfl rfl ((hc) 0 _ rfl) ?_
  refine qA (qD (v := .int .i64 _) rfl) ?_
  refine xp_dw [] rfl rfl rfl ?_
  refine qI (i := 0) rfl (by decide +kernel) (qG rfl rfl rfl rfl _ rfl) ?_
  refine wE (i := 1) rfl (by decide +kernel) ?_
  refine wL (v := .slice AB _ _) rfl rfl ((eM.ext (zL E_t E_k)) 5 _ rfl) ?_
  refine qI (i := 2) rfl (by decide +kernel) (qC (v := .int .i64 _) rfl) ?_
  refine qI (i := 3) rfl (by decide +kernel) (wD rfl hA2 rfl rfl rfl (by omega) (by omega)) ?_
  refine wE (i := 4) rfl (by decide +kernel) ?_
  refine wL (v := .int .i64 _) rfl rfl ((hc2) 0 _ rfl) ?_
  refine qI (i := 5) rfl (by decide +kernel) (qG rfl rfl rfl rfl _ rfl) ?_
  refine wE (i := 6) rfl (by decide +kernel) ?_
  refine wL (v := .slice AB _ _) rfl rfl ((eM.ext (zL E_t E_k)) 5 _ rfl) ?_
  refine qI (i := 7) rfl (by decide +kernel) (qC (v := .int .i64 _) rfl) ?_
  refine qI (i := 8) rfl (by decide +kernel) (wD rfl hA2 rfl rfl rfl (by omega) (by omega)) ?_
  refine wE (i := 9) rfl (by decide +kernel) ?_
  refine wL (v := .int .i64 _) rfl rfl ((hc2) 0 _ rfl) ?_
  refine qI (i := 10) rfl (by decide +kernel) (pv_indexA (m := 1) rfl rfl rfl rfl (by omega) (by omega)) ?_
  refine wE (i := 11) rfl (by decide +kernel) ?_
  refine qL 2 (v := .int .i64 ((pressM m.buttons depth (a.buttons.take k) t).getD m.buttons[a.buttons[k].toNat].toNat 0)) rfl rfl rfl (tV_at (by omega) (by rw [press_len]; omega)) ?_
  refine wE (i := 12) rfl (by decide +kernel) ?_
  refine wL (v := .int .i64 depth) rfl rfl ((zL E_t E_k).cell cD) ?_
  refine qI (i := 13) rfl (by decide +kernel) (pv_max rfl rfl) ?_
  refine qI (i := 14) rfl (by decide +kernel) (pv_indexA (m := 1) rfl rfl rfl rfl (by omega) (by omega)) ?_
  refine wV (i := 15) rfl (by decide +kernel) (by decide +kernel) ?_
  refine qY 2 (m := 1) (v := .int .i64 _) (vs := [.int .i64 (max ((pressM m.buttons depth (a.buttons.take k) t).getD m.buttons[a.buttons[k].toNat].toNat 0) depth)]) (c' := tV (pressM m.buttons depth (a.buttons.take (k + 1)) t)) rfl rfl rfl rfl rfl rfl (Nat.ble_eq_true_of_le (by rw [hP6]; omega)) rfl (by rw [pressM_take hkl, getD_get hbk2]; exact wrL_rise (by omega) rfl) ?_
  refine wN [_, _, _] rfl ?_
  refine zI rfl ?_
  refine qB rfl ?_
  refine qA (qS rfl (by omega)) ?_
  refine qA (qC (v := .int .i64 _) rfl) ?_
  refine ⟨k + 1, ⟨rfl, trivial⟩, rfl, rfl, E_k, fun h3 E3 => hkl, by first | omega | (dsimp only; omega), ?_⟩
  repeat (first | exact qW _ _ _ | refine wA (by decide) ?_ | refine qV rfl ?_ | refine wB rfl ?_)
 ·skip
  have hke : k = a.buttons.length := by have := geI hk; omega
  subst hke
  rw [List.take_length]
  obtain ⟨P, hP⟩ : ∃ P, P = pressM m.buttons depth a.buttons t := ⟨_, rfl⟩
  rw [← hP]
  have hP6 : P.length = 6 := by rw [hP, press_len, J1]
  have hPB : Bd depth P := by rw [hP]; exact press_bd _ _ J2
  have hSt : stepM m a depth t = linkM a.on m.links P := by rw [hP]; rfl
  refine wS ?_
  refine qE ?_
  refine qE ?_
  refine qB rfl ?_
  refine qA (qG rfl rfl rfl rfl _ rfl) ?_
  refine wL (v := .slice AL _ _) rfl rfl ((eM.ext (zL E_t E_k)) 7 _ rfl) ?_
  refine qA (wP rfl rfl) ?_
  refine qA (qC (v := .int .i64 _) rfl) ?_
  refine qT ?_
  refine xp_loopL [9, 38, 39, 40, 41, 42, 43, 44, 45, 46, 47, 48, 49, 50, 51, 52, 53, 54, 55, 56, 57, 58, 59, 60, 61, 62, 63, 64, 65, 66, 67] 3 (α := Nat) (fun i => [(38, .int .i64 i)]) (fun i L => L.set 2 (some (b5, .cells (tV (linkM a.on (m.links.take i) P)).toArray 89 (0, 0)))) (fun i h_i => i ≤ m.links.length) (fun i => m.links.length - i) (0) ⟨rfl, trivial⟩ (rfl) (Nat.zero_le _) ?_
  rintro i T3 h_i E_i J_i
  refine qU [_, _, _] rfl ?_
  refine qE ?_
  refine qB rfl ?_
  refine qA (qK (v := .bool _) rfl) ?_
  refine qE ?_
  refine qP rfl (fun hk => ?_) (fun hk => ?_)
  ·skip
   have hkl : i < m.links.length := ltI hk
   obtain ⟨g, off, hA, hc⟩ := (RL.ext (zL (zL E_t E_k) E_i)).at (by omega) hkl
   obtain ⟨⟨f0, f1⟩, ⟨t0, t1⟩, g0, g1⟩ := F.link _ (List.getElem_mem hkl)
   obtain ⟨Z, hZ⟩ : ∃ Z, Z = linkM a.on (m.links.take i) P := ⟨_, rfl⟩
   have hZ6 : Z.length = 6 := by rw [hZ, link_len, hP6]
   have hT6 : (tV Z).length = 6 := by rw [List.length_map, hZ6]
   have hZB : Bd depth Z := by rw [hZ]; exact link_bd _ (fun l hl => F.lag l (take_mem hl)) hPB
   have z1 := hZB m.links[i].frm.toNat
   have z2 := hZB m.links[i].to.toNat
   have hNext := linkM_take (on := a.on) (t := P) hkl
   rw [← hZ] at hNext ⊢
   refine qO ?_
   refine qE ?_
   refine qT ?_
   refine qE ?_
   refine qB rfl ?_
   refine qA (wD rfl hA rfl rfl rfl (by omega) (by omega)) ?_
   refine op_loadA rfl rfl rfl rfl (hc) ?_
   refine zE (cs := [_, _, _, _]) rfl rfl fun b9 hb9 => ?_
   refine qN [_, _, _, _] rfl ?_
   refine qY 3 (v := .agg #[.int .i64 _, .int .i64 _, .int .i64 _, .int .i64 _]) (vs := [_, _, _, _]) (c' := [_, _, _, _]) rfl rfl rfl rfl rfl rfl rfl rfl rfl ?_
   refine qN [_, _, _, _] rfl ?_
   refine xp_cutB [42, 43, 44, 45, 46, 47, 48, 49, 50, 51] 4 (α := Unit) (fun u => [(51, .bool (active a.on m.links[i]))]) (fun u L => L) (fun u h_u => True) ?_ ?_
   ·skip
    rcases Bool.eq_false_or_eq_true (decide (m.links[i].reg < 0)) with hr | hr
    ·skip
     refine qB rfl ?_
     refine qA (qG rfl rfl rfl rfl 2 rfl) ?_
     refine qL 3 (v := .int .i64 _) rfl rfl rfl rfl ?_
     refine qA (qK (v := .bool _) rfl) ?_
     refine qA (qC (v := .bool _) rfl) ?_
     refine qH rfl hr ?_
     refine qH rfl hr ?_
     refine qH rfl hr ?_
     refine qH rfl hr ?_
     refine qH rfl hr ?_
     refine qA (qZ rfl hr (v := .bool _) rfl) ?_
     refine ⟨(), ⟨(by show Value.bool _ = _; unfold active; rw [hr]; rfl), trivial⟩, rfl, rfl, (Ext.refl _), fun h3 E3 => by first | trivial | omega | (refine ⟨?_, ?_⟩ <;> omega), ?_⟩
     repeat (first | exact wQ _ _ | exact qW _ _ _ | refine wA (by decide) ?_ | refine qV rfl ?_ | refine wB rfl ?_)
    ·skip
     refine qB rfl ?_
     refine qA (qG rfl rfl rfl rfl 2 rfl) ?_
     refine qL 3 (v := .int .i64 _) rfl rfl rfl rfl ?_
     refine qA (qK (v := .bool _) rfl) ?_
     refine qA (qC (v := .bool _) rfl) ?_
     refine qF rfl hr ?_
     refine qA (qG rfl rfl rfl rfl _ rfl) ?_
     refine qF rfl hr ?_
     refine wL (v := .slice OA _ _) rfl rfl ((eH.ext (zL (zL E_t E_k) E_i)) 1 _ rfl) ?_
     refine qF rfl hr ?_
     refine qA (qG rfl rfl rfl rfl 2 rfl) ?_
     refine qF rfl hr ?_
     refine qL 3 (v := .int .i64 _) rfl rfl rfl rfl ?_
     refine qF rfl hr ?_
     refine wJ (caps := []) (vs := [.slice _ _ _, .int .i64 _]) rfl rfl rfl (contains_ok a.on m.links[i].reg OA cO h_i (RO.ext (zL (zL E_t E_k) E_i)) (by omega)) ?_
     rintro _ h1 E1 rfl
     refine qA (wI rfl hr (v := .bool _) rfl) ?_
     refine ⟨(), ⟨(by show Value.bool _ = _; unfold active; rw [hr]; simp), trivial⟩, rfl, rfl, E1, fun h3 E3 => by first | trivial | omega | (refine ⟨?_, ?_⟩ <;> omega), ?_⟩
     repeat (first | exact wQ _ _ | exact qW _ _ _ | refine wA (by decide) ?_ | refine qV rfl ?_ | refine wB rfl ?_)
   ·rintro u T4 h_u E_u J_u
    refine qU [_, _, _, _] rfl ?_
    refine qP rfl (fun hact => ?_) (fun hact => ?_)
    ·skip
     rw [if_pos hact] at hNext
     refine xp_dw [] rfl rfl rfl ?_
     refine qI (i := 0) rfl (by decide +kernel) (qG rfl rfl rfl rfl 1 rfl) ?_
     refine wE (i := 1) rfl (by decide +kernel) ?_
     refine qL 3 (v := .int .i64 _) rfl rfl rfl rfl ?_
     refine qI (i := 2) rfl (by decide +kernel) (qG rfl rfl rfl rfl 1 rfl) ?_
     refine wE (i := 3) rfl (by decide +kernel) ?_
     refine qL 3 (v := .int .i64 _) rfl rfl rfl rfl ?_
     refine qI (i := 4) rfl (by decide +kernel) (pv_indexA (m := 1) rfl rfl rfl rfl (by omega) (by omega)) ?_
     refine wE (i := 5) rfl (by decide +kernel) ?_
     refine qL 2 (v := .int .i64 (Z.getD m.links[i].to.toNat 0)) rfl rfl rfl (tV_at (by omega) (by omega)) ?_
     refine qI (i := 6) rfl (by decide +kernel) (qG rfl rfl rfl rfl 0 rfl) ?_
     refine wE (i := 7) rfl (by decide +kernel) ?_
     refine qL 3 (v := .int .i64 _) rfl rfl rfl rfl ?_
     refine qI (i := 8) rfl (by decide +kernel) (pv_indexA (m := 1) rfl rfl rfl rfl (by omega) (by omega)) ?_
     refine wE (i := 9) rfl (by decide +kernel) ?_
     refine qL 2 (v := .int .i64 (Z.getD m.links[i].frm.toNat 0)) rfl rfl rfl (tV_at (by omega) (by omega)) ?_
     refine qI (i := 10) rfl (by decide +kernel) (qG rfl rfl rfl rfl 3 rfl) ?_
     refine wE (i := 11) rfl (by decide +kernel) ?_
     refine qL 3 (v := .int .i64 _) rfl rfl rfl rfl ?_
     refine qI (i := 12) rfl (by decide +kernel) (qS rfl (by omega)) ?_
     refine qI (i := 13) rfl (by decide +kernel) (pv_max rfl rfl) ?_
     refine qI (i := 14) rfl (by decide +kernel) (pv_indexA (m := 1) rfl rfl rfl rfl (by omega) (by omega)) ?_
     refine wV (i := 15) rfl (by decide +kernel) (by decide +kernel) ?_
     refine qY 2 (m := 1) (v := .int .i64 _) (vs := [.int .i64 (max (Z.getD m.links[i].to.toNat 0) (Z.getD m.links[i].frm.toNat 0 - m.links[i].lag))]) (c' := tV (linkM a.on (m.links.take (i + 1)) P)) rfl rfl rfl rfl rfl rfl (Nat.ble_eq_true_of_le (by rw [hT6]; omega)) rfl (by rw [hNext]; exact wrL_rise (by omega) rfl) ?_
     refine wN [_, _, _, _] rfl ?_
     refine zI rfl ?_
     refine qB rfl ?_
     refine qA (qS rfl (by omega)) ?_
     refine qA (qC (v := .int .i64 _) rfl) ?_
     refine ⟨i + 1, ⟨rfl, trivial⟩, rfl, rfl, (zL E_i E_u), fun h3 E3 => hkl, by first | omega | (dsimp only; omega), ?_⟩
     repeat (first | exact qW _ _ _ | refine wA (by decide) ?_ | refine qV rfl ?_ | refine wB rfl ?_)
    ·skip
     rw [if_neg (by rw [hact]; decide)] at hNext
     refine qO ?_
     refine qB rfl ?_
     refine qA (qS rfl (by omega)) ?_
     refine qA (qC (v := .int .i64 _) rfl) ?_
     refine ⟨i + 1, ⟨rfl, trivial⟩, rfl, by rw [hNext]; rfl, (zL E_i E_u), fun h3 E3 => hkl, by first | omega | (dsimp only; omega), ?_⟩
     repeat (first | exact qW _ _ _ | refine wA (by decide) ?_ | refine qV rfl ?_ | refine wB rfl ?_)
  ·skip
   have hke : i = m.links.length := by have := geI hk; omega
   subst hke
   rw [List.take_length, ← hSt]
   obtain ⟨Z, hZ⟩ : ∃ Z, Z = stepM m a depth t := ⟨_, rfl⟩
   rw [← hZ]
   have hZ6 : Z.length = 6 := by rw [hZ, step_len, J1]
   have hT6 : (tV Z).length = 6 := by rw [List.length_map, hZ6]
   obtain ⟨zle, zbd⟩ := stepM_ok (h := a) F.lag J2
   rw [← hZ] at zle zbd hs
   refine wS ?_
   refine qE ?_
   refine qE ?_
   refine qB rfl ?_
   refine wO 2 (m := 6) (vs := tV Z) rfl rfl rfl rfl (rd_all hT6) ?_
   refine wO 1 (m := 6) (vs := tV t) rfl rfl rfl rfl (rd_all (by simp [J1])) ?_
   refine qA (pv_eqA rfl rfl rfl (turnsEq hZ6 J1)) ?_
   refine qP rfl (fun heq => ?_) (fun heq => ?_)
   ·skip
    have heq : Z = t := of_decide_eq_true heq
    rw [if_pos heq] at hs
    rw [hs]
    refine qQ ?_
    refine ⟨rfl, fun V => ?_⟩
    obtain ⟨h', e1, e2, e3⟩ := wl_drop [_, _] [_] V
    exact ⟨h', e2, e3, ((zL (zL E_t E_k) E_i)).trans e1⟩
   ·skip
    have hne : Z ≠ t := of_decide_eq_false heq
    rw [if_neg hne] at hs
    have hlt := room_lt (D := depth) zle.1 (fun j _ => ⟨zle.2 j, (zbd j).2⟩) hne
    rw [hs]
    refine qO ?_
    refine qE ?_
    refine xp_regionD rfl rfl ?_
    refine wL (v := .chan (some c)) rfl rfl ((zL (zL E_t E_k) E_i).cell cC) ?_
    refine wO 2 (m := 6) (vs := tV Z) rfl rfl rfl rfl (rd_all hT6) ?_
    refine goes_send (j := 0) (v := turnsV Z) (vs := (sendsM m a depth N Z).map turnsV) rfl rfl rfl rfl rfl rfl rfl ?_
    refine goes_end ?_
    refine qU [_, _, _] rfl ?_
    refine qB rfl ?_
    refine wO 2 (m := 6) (vs := tV Z) rfl rfl rfl rfl (rd_all hT6) ?_
    refine qY 1 (m := 6) (v := .agg (tV Z).toArray) (vs := tV Z) (c' := tV Z) rfl rfl rfl rfl rfl hT6 (Nat.ble_eq_true_of_le (by rw [List.length_map]; omega)) (by simp [plainB]) (wrL_all (by simp [J1, hZ6])) ?_
    refine qN [_, _, _] rfl ?_
    refine ⟨Z, trivial, rfl, rfl, (zL (zL E_t E_k) E_i), fun h3 E3 => ⟨hZ6, zbd, by omega⟩, by first | omega | (dsimp only; omega), ?_⟩
    repeat (first | exact qW _ _ _ | refine wA (by decide) ?_ | refine qV rfl ?_ | refine wB rfl ?_)
end Go.Proofs.YtmpahfdiebhdbaaGreatDoor
namespace Go.HL
open Go Go.Conc
variable [Lvl]
section
variable {P : Program} {n : Nat} {ro : Option Nat} {K : Post} {S : Sl} {D : Df} {L : Pv} {h : AH}
theorem goes_valid {items : List Item} (g : Valid h L → Goes P n ro items K S D L h) : Goes P n ro items K S D L h := fun H V => g V.valid H V
theorem xp_regionL {id : Nat} {ops : Array Oper} (g : Goes P n ro [.inRegion ops (List.range ops.size)] K S D L h) : xp P n ro (.region id ops false) K S D L h := goes_regionB (items := []) g
theorem goes_endB {ops : Array Oper} {items : List Item} (g : Goes P n ro items K S D L h) : Goes P n ro ([.inRegion ops []] ++ items) K S D L h :=
 goes_step (items' := items) (fun b hb k cs main w => by simp [stepG, stepG.exec, mk]) g
theorem goes_pv {ops : Array Oper} {i : Nat} {rest : List Nat} {d : Option Tmp} {op : Op} {ty : TypeId} {ps : String} {af : Array Edge} {v : Value} {items : List Item} (ho : ops[i]? = some ⟨d, op, ty, ps, af, none⟩) (hc : Op.calm op)
  (hv : pev P (execOp (ev n S) ⟨d, op, ty, ps, af, none⟩) = some (.value v)) (g : Goes P n ro ([.inRegion ops rest] ++ items) K (put S d v) D L h) : Goes P n ro ([.inRegion ops (i :: rest)] ++ items) K S D L h :=
 goes_opB ho hc (by simp [Region.wanted]) (fun V => dem_pev hv ⟨L, h, rfl, V, g⟩)
end
theorem wl_last {h : AH} {L : Pv} {b : Nat} {o : Obj} (V : Valid h (L ++ [some (b, o)])) : Valid h L ∧ wl h L b = none ∧ wl h (L ++ [some (b, o)]) = hupd (wl h L) b o := by
 have V0 := V
 unfold Valid at V0
 rw [cl_append] at V0
 have e1 : cl [some (b, o)] = [(b, o)] := rfl
 rw [e1] at V0
 have nd := V0.nd
 rw [List.map_append, List.nodup_append] at nd
 have hb : wl h L b = none := by
  have hn : (cl L).lookup b = none := by
   rw [lookup_none_iff]
   intro p hp e
   exact nd.2.2 _ (List.mem_map.2 ⟨p, hp, rfl⟩) b (by simp) e
  have hf := V0.fresh (b, o) (by simp)
  unfold wl wl0
  rw [hn]
  exact hf
 exact ⟨⟨nd.1, fun p hp => V0.fresh p (List.mem_append_left _ hp), V0.fin⟩, hb, (wl_new hb o).symm⟩
theorem hupd_none {X : AH} {b c : Nat} {o : Obj} (h : hupd X b o c = none) : c ≠ b ∧ X c = none := by
 by_cases e : c = b
 ·subst e; simp [hupd] at h
 ·exact ⟨e, by simpa [hupd, e] using h⟩
theorem wl_split3 {h : AH} {M : Pv} {b6 c b7 : Nat} {o6 oc o7 : Obj} (V : Valid h (M ++ [some (b6, o6), some (c, oc), some (b7, o7)])) :
  ∃ hw, hw = wl h M ∧ Valid h M ∧ hw b6 = none ∧ hw c = none ∧ hw b7 = none ∧ b6 ≠ c ∧ b6 ≠ b7 ∧ c ≠ b7 ∧ wl h (M ++ [some (b6, o6), some (c, oc), some (b7, o7)]) = hun (oneC b6 o6) (hun hw (hun (oneC b7 o7) (oneC c oc))) := by
 have e0 : M ++ [some (b6, o6), some (c, oc), some (b7, o7)] = ((M ++ [some (b6, o6)]) ++ [some (c, oc)]) ++ [some (b7, o7)] := by simp
 rw [e0] at V ⊢
 obtain ⟨V1, n7, e7⟩ := wl_last V
 obtain ⟨V2, nc, ec⟩ := wl_last V1
 obtain ⟨V3, n6, e6⟩ := wl_last V2
 rw [ec] at n7
 obtain ⟨h7c, n7⟩ := hupd_none n7
 rw [e6] at n7 nc
 obtain ⟨h76, n7⟩ := hupd_none n7
 obtain ⟨hc6, nc⟩ := hupd_none nc
 refine ⟨_, rfl, V3, n6, nc, n7, fun e => hc6 e.symm, fun e => h76 e.symm, fun e => h7c e.symm, ?_⟩
 rw [e7, ec, e6]
 funext x
 by_cases x6 : x = b6
 ·subst x6
  simp [hupd, hun, wZ, Ne.symm h76, Ne.symm hc6]
 by_cases x7 : x = b7
 ·subst x7
  simp [hupd, hun, wZ, oneC_ne x6, n7]
 by_cases xc : x = c
 ·subst xc
  simp [hupd, hun, wZ, oneC_ne x6, oneC_ne x7, nc, x6, x7]
 simp only [hupd, hun, oneC_ne x6, oneC_ne x7, oneC_ne xc, if_neg x6, if_neg x7, if_neg xc]
 cases wl h M x <;> rfl
theorem main_end {R h' : AH} {L' : Pv} {c j : Nat} (V : Valid h' L') (hj : L'[j]? = some (some (c, gone))) (E : Ext (zf R) h') (hRc : R c = none) :
  ∃ hm', wl h' L' = hun hm' (zx R c) ∧ hm' c = none ∧ Disj hm' R ∧ ∀ b o, wl h' L' b = some o → b ≠ c → R b = none → hm' b = some o := by
 refine ⟨fun b => if b = c then none else match R b with | some _ => none | none => wl h' L' b, ?_, by simp, fun b => ?_, fun b o hb hc hR => by simp [hc, hR, hb]⟩
 ·funext b
  by_cases hb : b = c
  ·subst hb
   simp [hun, zx, wZ, zK V hj]
  ·cases hR : R b with
   | none =>
    have : zf R b = none := zf_none.2 hR
    simp only [hun, if_neg hb, hR, zx, oneC_ne hb, this]
    cases wl h' L' b <;> rfl
   | some o =>
    have e1 : zf R b = some (zO o) := by simp [zf, hR]
    have e2 := qR V b _ (E b _ e1)
    simp only [hun, if_neg hb, hR, zx, oneC_ne hb, e1, e2]
 ·cases hR : R b with
  | none => exact .inr rfl
  | some o => left; simp [hR]
theorem ret_pub {P : Program} {n : Nat} {fn : Func} {S : Sl} {K : Value → AH → Prop} {rs : List ResultVar} {vs : List Value} {H : AH} {b : Nat} {o : Obj} (hb : H b = some o) (hr : fn.results = rs.toArray) (hv : ∀ h2, ResL P n S [some (b, o)] h2 rs vs) (k : K (tupV vs) H) : RetOK P n fn K S [] [] H := by
 intro V
 refine .inl ⟨rfl, ?_⟩
 have e : wl (fun x => if x = b then none else H x) [some (b, o)] = H := by
  have := wl_new (h := fun x => if x = b then none else H x) (L := []) (b := b) (by rw [wl_nil]; simp) o
  rw [wl_nil, List.nil_append] at this
  rw [← this]
  funext x
  by_cases hx : x = b
  ·subst hx; simp [hupd, hb]
  ·simp [hupd, hx]
 have V2 : Valid (fun x => if x = b then none else H x) [some (b, o)] := by
  have f : Fin (fun x => if x = b then none else H x) := by
   obtain ⟨N, hN⟩ := V.fin
   exact ⟨N, fun x hx => by simp only [hN x hx]; split <;> rfl⟩
  exact valid_new (L := []) (valid_nil f) (by rw [wl_nil]; simp) o
 have r := res_core (K := K) hr (hv H) V2 (by rw [e]; exact k)
 rw [e] at r
 rw [wl_nil]
 exact r
theorem wend_close {P : Program} {f : FuncId} {fn : Func} {n c : Nat} {ats : Array TypeId} {ty : TypeId} {hw0 : AH} {tm : Bool} (hf : P.funcs[f]? = some fn) (hres : fn.results = #[]) :
  ∀ fr hw', WEnd f n c ats ty hw0 fr hw' → mayWake P (G fr [baseG P []]) = true ∧ ∃ (g2 : Goroutine) (es : Array Event) (k : Nat), (∀ (w : World) s r, w.heap[c]? = some (.chan 0 #[] false s r tm) → stepG P false (G fr [baseG P []]) w = .go g2 (w.shut c s r tm) (es.push ⟨.obj c, true, true⟩)) ∧ (∀ e ∈ es, e = ⟨.obj c, false, true⟩) ∧ QuitsD P k 0 g2 := by
 rintro fr hw' ⟨_, S, todo, rfl⟩
 exact ⟨wakes, _, _, _, fun w s r hc => step_close hc, by simp, quits hf hres rfl rfl⟩
theorem cellsB {H : AH} {b : Nat} {cs : List Value} {e : TypeId} {f : Nat × Nat} (hb : H b = some (.cells cs.toArray e f)) : Cells H b 0 cs := by
 intro j u hu
 simp only [cellA, hb, Nat.zero_add]
 simpa using hu
theorem fin_one (c : Nat) (o : Obj) : Fin (oneC c o) := Fin.hupd ⟨0, fun _ _ => rfl⟩ _ _
theorem fin_zf {R : AH} (f : Fin R) : Fin (zf R) := f.imp fun _ hN y hy => zf_none.2 (hN y hy)
theorem disj_out {h : AH} {b : Nat} {o : Obj} (hb : h b = none) : Disj h (oneC b o) := fun x => by
 by_cases e : x = b
 ·subst e; exact .inl hb
 ·exact .inr (oneC_ne e)
theorem ext_hun {h F : AH} : Ext h (hun h F) := fun _ _ e => hun_left e
theorem duo_priv {R : AH} {b6 c : Nat} {o6 g : Obj} (f : Fin R) (h6 : R b6 = none) (hc : R c = none) (hne : b6 ≠ c) :
  Valid (zf R) [some (b6, o6), some (c, g)] ∧ wl (zf R) [some (b6, o6), some (c, g)] = hun (oneC b6 o6) (hun (oneC c g) (zf R)) := by
 have z6 : zf R b6 = none := zf_none.2 h6
 have zc : zf R c = none := zf_none.2 hc
 have n1 : wl (zf R) [] b6 = none := by rw [wl_nil]; exact z6
 have V1 := valid_new (L := []) (valid_nil (fin_zf f)) n1 o6
 have e1 := wl_new n1 o6
 have n2 : wl (zf R) ([] ++ [some (b6, o6)]) c = none := by rw [← e1, wl_nil]; simp [hupd, Ne.symm hne, zc]
 refine ⟨valid_new V1 n2 g, ?_⟩
 have e2 := wl_new n2 g
 rw [← e1, wl_nil] at e2
 have e3 : wl (zf R) [some (b6, o6), some (c, g)] = hupd (hupd (zf R) b6 o6) c g := e2.symm
 rw [e3]
 funext x
 by_cases x6 : x = b6
 ·subst x6; simp [hupd, hun, wZ, hne]
 by_cases xc : x = c
 ·subst xc; simp [hupd, hun, wZ, oneC_ne x6]
 simp [hupd, hun, oneC_ne x6, oneC_ne xc, x6, xc]
section
variable {P : Program} {n : Nat} {ops : Array Oper} {os : List Oper} {K : Sl → Pv → AH → Prop} {E : Value → Sl → Pv → AH → Prop} {S : Sl} {L : Pv} {h : AH} {d : Option Tmp} {op : Op} {ty : TypeId} {ps : String} {af : Array Edge}
theorem guard_case {j : Nat} {want t : Bool} (ht : ev n S (.tmp (((ops[j]?).bind (·.dst)).getD n)) = .bool t) (k1 : t = want → wpL P n ops (⟨d, op, ty, ps, af, none⟩ :: os) K E S L h) (k2 : t = !want → wpL P n ops os K E (put S d undef) L h) : wpL P n ops (⟨d, op, ty, ps, af, some (j, want)⟩ :: os) K E S L h := by
 by_cases e : t = want
 ·exact qF ht e (k1 e)
 ·have e2 : t = !want := by cases t <;> cases want <;> simp_all
  exact qH ht e2 (k2 e2)
end
section
variable {P : Program} {n : Nat} {ops : Array Oper} {os : List Oper} {K : Sl → Pv → AH → Prop} {E : Value → Sl → Pv → AH → Prop} {S : Sl} {L : Pv} {h : AH} {d : Option Tmp} {ty : TypeId} {ps : String} {af : Array Edge}
theorem op_fnV {x : Operand} {xs : List Operand} {ats : Array TypeId} {y : Value} {vs : List Value} {R : Value → AH → Pv → Prop} (hf : ev n S x = y) (hx : xs.map (ev n S) = vs) (c : FnM P y vs h [] R)
  (k : ∀ v h' M', Valid h' (L ++ M') → Ext h h' → R v h' M' → wpL P n ops os K E (put S d v) (L ++ M') h') : wpL P n ops (⟨d, .call ⟨.value x, xs.toArray, ats⟩, ty, ps, af, none⟩ :: os) K E S L h := by
 refine op_of fun V => ?_
 unfold opW
 rw [exec_callV hf hx]
 have V0 : Valid h (L ++ []) := by rw [List.append_nil]; exact V
 obtain ⟨e1, d1, VM⟩ := wl_app V0
 rw [List.append_nil] at e1
 rw [e1]
 have ndp : ((cl L).map (·.1)).Nodup := V.nd
 refine CallV.mono (CallV.frame (c VM) (fin_wl VM) d1) ?_ ?_
 ·rintro v H2 ⟨H1, rfl, d2, f2, h', M', rfl, V', E', r⟩
  obtain ⟨e2, V2⟩ := wl_join ndp V' d2
  exact ⟨L ++ M', h', e2, V2, k v h' M' V2 E' r⟩
 ·rintro v H2 ⟨H1, rfl, d2, f2, y⟩; exact y.elim
end
theorem ext_outN {h h' : AH} {m : List Bool} {L Y : Pv} (e : cl (rmM m (L ++ Y)) = cl (rmM m L)) (E : Ext h h') : Ext (wl h (rmM m L)) (wl h' (rmM m (L ++ Y))) := by
 have : wl h' (rmM m (L ++ Y)) = wl h' (rmM m L) := by unfold wl wl0; rw [e]
 rw [this]
 exact ext_wlm E _
theorem ext_out {h h' : AH} {L M : Pv} (V : Valid h' (L ++ M)) (E : Ext h h') : Ext (wl h (rmM [] L)) (wl h' (rmM [] (L ++ M))) := by
 have r0 : ∀ X : Pv, rmM [] X = X := fun X => by cases X <;> rfl
 rw [r0, r0]
 intro b o hb
 unfold wl wl0 at hb ⊢
 rw [cl_append, List.lookup_append]
 cases e : (cl L).lookup b with
 | some o' => rw [e] at hb; exact hb
 | none =>
  rw [e] at hb
  have hb2 := E b o hb
  cases e2 : (cl M).lookup b with
  | none => exact hb2
  | some o' =>
   exfalso
   have hm : ¬ ∀ p ∈ cl M, p.1 ≠ b := fun k => by rw [(lookup_none_iff (cl M) b).2 k] at e2; cases e2
   simp only [ne_eq, Classical.not_forall, Classical.not_not] at hm
   obtain ⟨p, hp, rfl⟩ := hm
   have := V.fresh p (by rw [cl_append]; exact List.mem_append_right _ hp)
   rw [this] at hb2
   cases hb2
end Go.HL
namespace Go.Proofs.YtmpahfdiebhdbaaGreatDoor
open Go Go.HL Go.Proofs Go.Wx Go.Rd Go.Conc
set_option maxRecDepth 100000
theorem turned_ok [Lvl] (hph : Lvl.ph = true) {m : MachP} {a : HandP} {depth : Int} (F : Fit m a) (hd0 : 0 ≤ depth) (hd1 : depth ≤ 12) {AB AQ AL AW HA OA : Option Addr} {cB cQ cL cW cH cO : Nat} (h : AH)
  (RH : HandR h HA OA a) (RM : MachR h AB AQ AL AW m) :
  FnT Tryz.prog 43 #[machV AB AQ AL AW cB cQ cL cW m, handV HA OA cH cO a, .int .i64 depth] h (fun v _ => v = turnsV (turnedM m a depth)) := by
 refine wH Tryz.func43 rfl Tryz.ntmps43 rfl ?_
 refine qE ?_
 refine qB rfl ?_
 refine op_box (v := .agg #[.int .i64 _, .int .i64 _, .int .i64 _, .int .i64 _, .int .i64 _, .slice _ _ _, .slice _ _ _, .slice _ _ _, .slice _ _ _]) (cs := [_, _, _, _, _, _, _, _, _]) rfl rfl fun b3 hb3 => ?_
 refine qN [_] rfl ?_
 refine op_box (v := .agg #[.slice _ _ _, .slice _ _ _]) (cs := [_, _]) rfl rfl fun b4 hb4 => ?_
 refine qN [_, _] rfl ?_
 refine op_box (v := .int .i64 _) (cs := [_]) rfl rfl fun b5 hb5 => ?_
 refine qN [_, _, _] rfl ?_
 refine zE (cs := [_, _, _, _, _, _]) rfl rfl fun b6 hb6 => ?_
 refine qN [_, _, _, _] rfl ?_
 refine qE ?_
 refine qB rfl ?_
 refine op_makeChan rfl rfl rfl fun c hc => ?_
 refine zE (cs := [_]) rfl rfl fun b7 hb7 => ?_
 refine qN [_, _, _, _, _, _] rfl ?_
 refine qY 5 (v := .chan _) (vs := [_]) (c' := [_]) rfl rfl rfl rfl rfl rfl rfl rfl rfl ?_
 refine qN [_, _, _, _, _, _] rfl ?_
 refine xp_seqB ?_
 refine goes_regionB ?_
 refine goes_pv (i := 0) (rest := [1]) rfl trivial (pv_makeFunc (vs := []) (ws := [.pointer _, .pointer _, .pointer _, .pointer _]) rfl rfl) ?_
 refine goes_valid fun V => ?_
 obtain ⟨hw, hhw, Vw, n6, nc, n7, h6c, h67, hc7, esp⟩ := wl_split3 (M := [_, _, _]) V
 have g3 := zK Vw (i := 0) rfl
 have g4 := zK Vw (i := 1) rfl
 have g5 := zK Vw (i := 2) rfl
 have Ew := qR Vw
 rw [← hhw] at g3 g4 g5 Ew
 have fw : Fin hw := by rw [hhw]; exact fin_wl Vw
 clear hhw
 obtain ⟨R, hR⟩ : ∃ R, R = oneC b7 (.cells #[.chan (some c)] 119 (0, 0)) := ⟨_, rfl⟩
 have fR : Fin R := by rw [hR]; exact fin_one _ _
 have R6 : R b6 = none := by rw [hR]; exact oneC_ne h67
 have Rc : R c = none := by rw [hR]; exact oneC_ne hc7
 have R7 : R b7 = some (.cells #[.chan (some c)] 119 (0, 0)) := by rw [hR]; exact wZ _ _
 have rows : OnlyRows R := fun b o hb => by
  rw [hR] at hb
  by_cases e : b = b7
  ·subst e; rw [wZ] at hb; cases hb; exact ⟨_, _, _, rfl⟩
  ·rw [oneC_ne e] at hb; cases hb
 have dwR : Disj hw R := by rw [hR]; exact disj_out n7
 obtain ⟨V1, e1⟩ := duo_priv (R := R) (o6 := .cells (tV zero6).toArray 89 (0, 0)) (g := gch ((sendsM m a depth (fuelM depth) zero6).map turnsV)) fR R6 Rc h6c
 have z7 : zf R b7 = some (.cells #[.chan (some c)] 119 (0, 2)) := by simp only [zf, R7]; rfl
 have Ez : Ext h (hun hw (zf R)) := Ew.trans ext_hun
 have rW := turned1_ok (c := c) (bC := b7) (bD := b5) (bH := b4) (bM := b3) (fC := (0, 2)) (N := fuelM depth) (cL := cL) (Q := .slice AQ m.pins.length cQ) (W := .slice AW m.weights.length cW) F hd0 hd1 zero_room (fin_hun fw (fin_zf fR)) dwR nc Rc (by simp only [hun, n7]; exact z7) (ext_hun _ _ g5) (cellsB (ext_hun _ _ g4)) (cellsB (ext_hun _ _ g3)) (RH.b.ext Ez) (RH.o.ext Ez) (RM.b.ext Ez) (RM.l.ext Ez)
 refine goes_phase (hm := oneC b6 (.cells (tV zero6).toArray 89 (0, 0))) (K1 := fun e S' hm' => e = .ret ∧ S' 6 = .pointer (some ⟨b6, 0, none⟩) ∧ hm' b6 = some (.cells (tV (turnedM m a depth)).toArray 89 (0, 0))) hph rfl rfl rfl rfl rows (disj_out n6).symm (disj_out R6).symm dwR (oneC_ne h6c.symm) nc Rc (fun _ => by rw [hR]; exact esp) V1 e1 ?gm (wend_close rfl rfl) rW ?join
 case join =>
  rintro e S' hm' fr' hw' s r ⟨rfl, k2, k3⟩ ⟨EW, _⟩ d1 d2 d3 n1 n2
  refine ret_pub (b := b6) (vs := [turnsV (turnedM m a depth)]) (hun_left k3) Tryz.results43 (fun h2 => ⟨resV_agg 0 (m := 6) (vs := tV (turnedM m a depth)) rfl k2 rfl rfl rfl (rd_all (by rw [List.length_map, turned_len])), trivial⟩) ⟨fun b o hb => ?_, rfl⟩
  have e2 := EW b o (Ew b o hb)
  have e3 : hm' b = none := (d1 b).resolve_right (by rw [e2]; simp)
  simp only [hun, e3, e2]
 case gm =>
  have c7 : cellA (zf R) ⟨b7, 0, none⟩ = some (.chan (some c)) := by simp only [cellA, z7]; rfl
  letI : Lvl := ⟨false, none, some c⟩
  refine goes_endB ?_
  refine qE ?_
  refine qB rfl ?_
  refine zE (cs := [_, _, _, _, _, _]) rfl rfl fun b8 hb8 => ?_
  refine qN [_, _, _] rfl ?_
  refine qE ?_
  refine qE ?_
  refine qB rfl ?_
  refine wL (v := .chan (some c)) rfl rfl ((Ext.refl _).cell c7) ?_
  refine qT ?_
  refine xp_loopL [9, 13, 14, 15, 16] 3 (α := List (List Int) × List Int) (fun ⟨us, cur⟩ => []) (fun ⟨us, cur⟩ L => (L.set 1 (some (c, gch (us.map turnsV)))).set 2 (some (b8, .cells (tV cur).toArray 89 (0, 0)))) (fun ⟨us, cur⟩ h_us => us.getLastD cur = turnedM m a depth ∧ cur.length = 6 ∧ ∀ u ∈ us, u.length = 6) (fun ⟨us, cur⟩ => us.length) ((sendsM m a depth (fuelM depth) zero6, zero6)) trivial (rfl) (⟨rfl, rfl, sends_len _ _ rfl⟩) ?_
  rintro ⟨us, cur⟩ T1 h_us E_us J_us
  refine qU [_, _, _] rfl ?_
  obtain ⟨J1, J2, J3⟩ := J_us
  have hT6 : (tV cur).length = 6 := by rw [List.length_map, J2]
  rcases us with _ | ⟨u, us⟩
  ·skip
   refine qE ?_
   refine xp_regionL ?_
   refine goes_last (i := 0) (rest := [1]) (j := 1) rfl rfl rfl rfl rfl rfl rfl rfl ?_
   refine goes_pv (items := []) (i := 1) (rest := []) rfl trivial (qK (v := .bool false) rfl) ?_
   refine goes_end ?_
   refine qU [_, _, _] rfl ?_
   refine qE ?_
   refine wT rfl (rfl) ?_
   refine wS ?_
   refine qE ?_
   refine qB rfl ?_
   refine wO 2 (m := 6) (vs := tV cur) rfl rfl rfl rfl (rd_all hT6) ?_
   refine qY 0 (m := 6) (v := .agg (tV cur).toArray) (vs := tV cur) (c' := tV cur) rfl rfl rfl rfl rfl hT6 rfl (by simp [plainB]) (wrL_all hT6.symm) ?_
   refine qN [_, _, _] rfl ?_
   refine qQ ?_
   refine ⟨rfl, fun V2 => ?_⟩
   obtain ⟨hm', k1, k2, k3, k4⟩ := main_end V2 (j := 1) rfl E_us Rc
   refine ⟨hm', k1, k2, k3, rfl, rfl, ?_⟩
   rw [show turnedM m a depth = cur from J1.symm]
   exact k4 _ _ (zK V2 (i := 0) rfl) h6c R6
  ·skip
   rw [List.getLastD_cons] at J1
   have hlt : us.length < (u :: us).length := by simp
   have hu6 := J3 u (List.mem_cons_self ..)
   have hU6 : (tV u).length = 6 := by rw [List.length_map, hu6]
   refine qE ?_
   refine xp_regionL ?_
   refine goes_recv (i := 0) (rest := [1]) (j := 1) (v := turnsV u) (vs := us.map turnsV) rfl rfl rfl rfl rfl rfl rfl rfl ?_
   refine goes_pv (items := []) (i := 1) (rest := []) rfl trivial (qK (v := .bool true) rfl) ?_
   refine goes_end ?_
   refine qU [_, _, _] rfl ?_
   refine qE ?_
   refine wW rfl (rfl) ?_
   refine qO ?_
   refine qT ?_
   refine qE ?_
   refine qB rfl ?_
   refine qA (qK (v := turnsV u) rfl) ?_
   refine zE (cs := [_, _, _, _, _, _]) rfl rfl fun b9 hb9 => ?_
   refine qN [_, _, _, _] rfl ?_
   refine qY 3 (m := 6) (v := .agg (tV u).toArray) (vs := tV u) (c' := tV u) rfl rfl rfl rfl rfl hU6 rfl (by simp [plainB]) (wrL_all hU6.symm) ?_
   refine qN [_, _, _, _] rfl ?_
   refine qB rfl ?_
   refine wO 3 (m := 6) (vs := tV u) rfl rfl rfl rfl (rd_all hU6) ?_
   refine qY 2 (m := 6) (v := .agg (tV u).toArray) (vs := tV u) (c' := tV u) rfl rfl rfl rfl rfl hU6 (Nat.ble_eq_true_of_le (by omega)) (by simp [plainB]) (wrL_all (hT6.trans hU6.symm)) ?_
   refine qN [_, _, _, _] rfl ?_
   refine ⟨(us, u), trivial, rfl, rfl, E_us, fun h3 E3 => ⟨J1, hu6, fun x hx => J3 x (List.mem_cons_of_mem _ hx)⟩, by first | omega | (dsimp only; omega), ?_⟩
   repeat (first | exact qW _ _ _ | refine wA (by decide) ?_ | refine qV rfl ?_ | refine wB rfl ?_)
end Go.Proofs.YtmpahfdiebhdbaaGreatDoor
namespace Go.Proofs.YtmpahfdiebhdbaaGreatDoor
open Go Go.HL Go.Proofs Go.Wx Go.Rd
variable [Lvl]
set_option maxRecDepth 100000
theorem intE {k : IntKind} {a b : Int} (e : a = b) : Value.int k a = Value.int k b := by rw [e]
theorem boolE {a b : Bool} (e : a = b) : Value.bool a = Value.bool b := by rw [e]
theorem within_ok (n lo hi : Int) (h : AH) : FnT Tryz.prog 52 #[.int .i64 n, .int .i64 lo, .int .i64 hi] h (fun v _ => v = .bool (inM n lo hi)) := by
 refine wH Tryz.func52 rfl Tryz.ntmps52 rfl ?_
 refine qE ?_
 refine qB rfl ?_
 refine qA (qD (v := .bool _) rfl) ?_
 refine qE ?_
 refine qB rfl ?_
 refine qA (qC (v := .int .i64 _) rfl) ?_
 refine qA (qC (v := .int .i64 _) rfl) ?_
 refine qA (qK (v := .bool _) rfl) ?_
 refine qA (qC (v := .bool _) rfl) ?_
 refine guard_case rfl (fun hg1 => ?_) (fun hg1 => ?_)
 ·replace hg1 : _ = true := hg1
  refine qA (qC (v := .int .i64 _) rfl) ?_
  refine qF rfl hg1 ?_
  refine qA (qC (v := .int .i64 _) rfl) ?_
  refine qF rfl hg1 ?_
  refine qA (qK (v := .bool _) rfl) ?_
  refine qA (qZ rfl hg1 (v := .bool _) rfl) ?_
  refine qA (qD (v := .bool _) rfl) ?_
  refine qQ ?_
  refine qM (vs := [_]) Tryz.results52 ⟨qJ rfl rfl, trivial⟩ fun V => ?_
  exact ⟨(qR V), boolE (by simp_all [inM] <;> omega)⟩
 ·replace hg1 : _ = false := hg1
  refine qH rfl hg1 ?_
  refine qH rfl hg1 ?_
  refine qA (wI rfl hg1 (v := .bool _) rfl) ?_
  refine qA (qD (v := .bool _) rfl) ?_
  refine qQ ?_
  refine qM (vs := [_]) Tryz.results52 ⟨qJ rfl rfl, trivial⟩ fun V => ?_
  exact ⟨(qR V), boolE (by simp_all [inM] <;> omega)⟩
theorem checkSet_ok (l : List Int) (below : Int) (hb : -100 ≤ below ∧ below ≤ 2 ^ 40) (A : Option Addr) (c : Nat) (h : AH) (R : Row h 1 intC A l) (hl : l.length < 2 ^ 40) :
  FnT Tryz.prog 61 #[.slice A l.length c, .int .i64 below] h (fun v _ => v = .int .i64 (checkSetM l below)) := by
 refine wH Tryz.func61 rfl Tryz.ntmps61 rfl ?_
 refine qE ?_
 refine qB rfl ?_
 refine qA (qD (v := .int .i64 _) rfl) ?_
 refine qE ?_
 refine qE ?_
 refine qB rfl ?_
 refine qA (qC (v := .slice _ _ _) rfl) ?_
 refine qA (wP rfl rfl) ?_
 refine qA (qC (v := .int .i64 _) rfl) ?_
 refine qT ?_
 refine zH [4, 5, 6, 9, 10, 11, 12, 13, 14, 15, 16, 17, 18, 19, 20, 21, 22, 23, 24, 25, 26, 27, 28, 29, 30, 31, 32] 0 (α := Nat) (fun k => [(9, .int .i64 k)]) (fun k => _) (fun k h_k => k ≤ l.length ∧ firstErr (setAt below l) ((List.range l.length).take k) = 0) (fun k => l.length - k) (0) ⟨rfl, trivial⟩ (rfl) (⟨Nat.zero_le _, rfl⟩) ?_
 rintro k T1 h_k E_k J_k
 refine qU [] rfl ?_
 obtain ⟨K1, K2⟩ := J_k
 refine qE ?_
 refine qB rfl ?_
 refine qA (qK (v := .bool _) rfl) ?_
 refine qE ?_
 refine qP rfl (fun hk => ?_) (fun hk => ?_)
 ·skip
  have hkl : k < l.length := ltI hk
  have hkr : k < (List.range l.length).length := by simpa using hkl
  have hre : (List.range l.length)[k] = k := by simp
  obtain ⟨g, off, hA, hc⟩ := (R.ext E_k).at (by omega) hkl
  refine qO ?_
  refine qE ?_
  refine qT ?_
  refine qE ?_
  refine qB rfl ?_
  refine qA (qC (v := .int .i64 _) rfl) ?_
  refine qA (wD rfl hA rfl rfl rfl (by omega) (by omega)) ?_
  refine wL (v := .int .i64 _) rfl rfl ((hc) 0 _ rfl) ?_
  refine qA (qD (v := .int .i64 _) rfl) ?_
  refine qA (qD (v := .int .i64 _) rfl) ?_
  refine qT ?_
  refine qE ?_
  refine qB rfl ?_
  refine qA (qC (v := .int .i64 _) rfl) ?_
  refine qA (qC (v := .int .i64 _) rfl) ?_
  refine qA (qS rfl (by omega)) ?_
  refine wJ (caps := []) (vs := [.int .i64 _, .int .i64 _, .int .i64 _]) rfl rfl rfl (within_ok _ _ _ h_k) ?_
  rintro _ h1 E1 rfl
  refine qA (qK (v := .bool _) rfl) ?_
  refine qA (qD (v := .bool _) rfl) ?_
  refine qP rfl (fun hw => ?_) (fun hw => ?_)
  ·skip
   refine qE ?_
   refine qB rfl ?_
   refine qA (qD (v := .int .i64 _) rfl) ?_
   refine qQ ?_
   refine qM (vs := [_]) Tryz.results61 ⟨qJ rfl rfl, trivial⟩ fun V => ?_
   refine ⟨(zL (zL E_k E1) (qR V)), intE ?_⟩
   rw [checkSetM, zG hkr K2 (by rw [hre, setAt, getD_get hkl, if_pos hw]; decide), hre, setAt, getD_get hkl, if_pos hw]
  ·skip
   rcases Nat.eq_zero_or_pos k with h0 | h0
   ·subst h0
    refine qE ?_
    refine qB rfl ?_
    refine qA (qC (v := .int .i64 _) rfl) ?_
    refine qA (qK (v := .bool _) rfl) ?_
    refine qA (qC (v := .bool _) rfl) ?_
    refine qH rfl rfl ?_
    refine qH rfl rfl ?_
    refine qH rfl rfl ?_
    refine qH rfl rfl ?_
    refine qH rfl rfl ?_
    refine qH rfl rfl ?_
    refine qH rfl rfl ?_
    refine qA (wI rfl rfl (v := .bool _) rfl) ?_
    refine qA (qD (v := .bool _) rfl) ?_
    refine wT rfl (rfl) ?_
    refine qO ?_
    refine qB rfl ?_
    refine qA (qS rfl (by omega)) ?_
    refine qA (qC (v := .int .i64 _) rfl) ?_
    refine ⟨1, ⟨rfl, trivial⟩, rfl, rfl, (zL E_k E1), fun h3 E3 => ⟨hkl, firstErr_go hkr K2 (by rw [hre, setAt, getD_get hkl, if_neg (by simpa using hw), if_neg (by omega)])⟩, by first | omega | (dsimp only; omega), ?_⟩
    repeat (first | exact qW _ _ _ | refine wA (by decide) ?_ | refine qV rfl ?_ | refine wB rfl ?_)
   ·skip
    have hd : decide ((k : Int) > 0) = true := by simp; omega
    have hkp : k - 1 < l.length := by omega
    obtain ⟨g2, off2, hA2, hc2⟩ := (R.ext (zL E_k E1)).at (by omega) hkp
    have e2 : ((k : Int) - 1).toNat = k - 1 := by omega
    have hc3 : Cells h1 g2 (off2 + ((k : Int) - 1).toNat * 1) (intC l[k - 1]) := by rw [e2]; exact hc2
    refine qE ?_
    refine qB rfl ?_
    refine qA (qC (v := .int .i64 _) rfl) ?_
    refine qA (qK (v := .bool _) rfl) ?_
    refine qA (qC (v := .bool _) rfl) ?_
    refine qF rfl hd ?_
    refine qA (qC (v := .int .i64 _) rfl) ?_
    refine qF rfl hd ?_
    refine qA (qC (v := .slice _ _ _) rfl) ?_
    refine qF rfl hd ?_
    refine qA (qC (v := .int .i64 _) rfl) ?_
    refine qF rfl hd ?_
    refine qA (qS rfl (by omega)) ?_
    refine qF rfl hd ?_
    refine qA (wD rfl hA2 rfl rfl rfl (by omega) (by omega)) ?_
    refine qF rfl hd ?_
    refine wL (v := .int .i64 _) rfl rfl ((hc3) 0 _ rfl) ?_
    refine qF rfl hd ?_
    refine qA (qK (v := .bool _) rfl) ?_
    refine qA (qZ rfl hd (v := .bool _) rfl) ?_
    refine qA (qD (v := .bool _) rfl) ?_
    refine qP rfl (fun hq => ?_) (fun hq => ?_)
    ·skip
     refine qE ?_
     refine qB rfl ?_
     refine qA (qD (v := .int .i64 _) rfl) ?_
     refine qQ ?_
     refine qM (vs := [_]) Tryz.results61 ⟨qJ rfl rfl, trivial⟩ fun V => ?_
     refine ⟨(zL (zL E_k E1) (qR V)), intE ?_⟩
     have e5 : setAt below l k = 5 := by rw [setAt, getD_get hkl, getD_get hkp, if_neg (by simpa using hw), if_pos ⟨h0, by simpa using hq⟩]
     rw [checkSetM, zG hkr K2 (by rw [hre, e5]; decide), hre, e5]
    ·skip
     refine qO ?_
     refine qB rfl ?_
     refine qA (qS rfl (by omega)) ?_
     refine qA (qC (v := .int .i64 _) rfl) ?_
     refine ⟨k + 1, ⟨rfl, trivial⟩, rfl, rfl, (zL E_k E1), fun h3 E3 => ⟨hkl, firstErr_go hkr K2 (by rw [hre, setAt, getD_get hkl, getD_get hkp, if_neg (by simpa using hw), if_neg (by rintro ⟨_, h5⟩; simp at hq; omega)])⟩, by first | omega | (dsimp only; omega), ?_⟩
     repeat (first | exact qW _ _ _ | refine wA (by decide) ?_ | refine qV rfl ?_ | refine wB rfl ?_)
 ·skip
  have hke : k = l.length := by have := geI hk; omega
  refine wS ?_
  refine qE ?_
  refine qB rfl ?_
  refine qA (qD (v := .int .i64 _) rfl) ?_
  refine qQ ?_
  refine qM (vs := [_]) Tryz.results61 ⟨qJ rfl rfl, trivial⟩ fun V => ?_
  refine ⟨(zL E_k (qR V)), intE ?_⟩
  rw [List.take_of_length_le (by simp [hke])] at K2
  exact K2.symm
end Go.Proofs.YtmpahfdiebhdbaaGreatDoor
namespace Go.Proofs.YtmpahfdiebhdbaaGreatDoor
open Go Go.HL Go.Proofs Go.Wx Go.Rd
variable [Lvl]
set_option maxRecDepth 100000
theorem checkLink_ok (m : MachP) (l : LinkP) (AB AQ AL AW : Option Addr) (cB cQ cL cW : Nat) (h : AH) (hr : -100 ≤ m.rods ∧ m.rods ≤ 100) (hg : -100 ≤ m.regs ∧ m.regs ≤ 100) : FnT Tryz.prog 53 #[machV AB AQ AL AW cB cQ cL cW m, .agg (linkC l).toArray] h (fun v _ => v = .int .i64 (checkLinkM m l)) := by
 refine wH Tryz.func53 rfl Tryz.ntmps53 rfl ?_
 refine qE ?_
 refine qB rfl ?_
 refine op_box (v := .agg #[.int .i64 _, .int .i64 _, .int .i64 _, .int .i64 _, .int .i64 _, .slice _ _ _, .slice _ _ _, .slice _ _ _, .slice _ _ _]) (cs := [_, _, _, _, _, _, _, _, _]) rfl rfl fun b2 hb2 => ?_
 refine qN [_] rfl ?_
 refine op_box (v := .agg #[.int .i64 _, .int .i64 _, .int .i64 _, .int .i64 _]) (cs := [_, _, _, _]) rfl rfl fun b3 hb3 => ?_
 refine qN [_, _] rfl ?_
 refine qA (qD (v := .int .i64 _) rfl) ?_
 refine qE ?_
 refine qT ?_
 refine qE ?_
 refine qB rfl ?_
 refine qA (qG rfl rfl rfl rfl 0 rfl) ?_
 refine qL 1 (v := .int .i64 _) rfl rfl rfl rfl ?_
 refine qA (qG rfl rfl rfl rfl 0 rfl) ?_
 refine qL 0 (v := .int .i64 _) rfl rfl rfl rfl ?_
 refine qA (qS rfl (by omega)) ?_
 refine wJ (caps := []) (vs := [.int .i64 _, .int .i64 _, .int .i64 _]) rfl rfl rfl (within_ok _ _ _ h) ?_
 rintro _ h1 E1 rfl
 refine qA (qK (v := .bool _) rfl) ?_
 refine qA (qC (v := .bool _) rfl) ?_
 refine guard_case rfl (fun hg2 => ?_) (fun hg2 => ?_)
 ·replace hg2 : _ = false := hg2
  refine qA (qG rfl rfl rfl rfl 1 rfl) ?_
  refine qF rfl hg2 ?_
  refine qL 1 (v := .int .i64 _) rfl rfl rfl rfl ?_
  refine qF rfl hg2 ?_
  refine qA (qG rfl rfl rfl rfl 0 rfl) ?_
  refine qF rfl hg2 ?_
  refine qL 0 (v := .int .i64 _) rfl rfl rfl rfl ?_
  refine qF rfl hg2 ?_
  refine qA (qS rfl (by omega)) ?_
  refine qF rfl hg2 ?_
  refine wJ (caps := []) (vs := [.int .i64 _, .int .i64 _, .int .i64 _]) rfl rfl rfl (within_ok _ _ _ h1) ?_
  rintro _ h3 E3 rfl
  refine qF rfl hg2 ?_
  refine qA (qK (v := .bool _) rfl) ?_
  refine qA (wI rfl hg2 (v := .bool _) rfl) ?_
  refine qA (qD (v := .bool _) rfl) ?_
  refine qP rfl (fun hc4 => ?_) (fun hc4 => ?_)
  ·refine qE ?_
   refine qB rfl ?_
   refine qA (qD (v := .int .i64 _) rfl) ?_
   refine qQ ?_
   refine qM (vs := [_]) Tryz.results53 ⟨qJ rfl rfl, trivial⟩ fun V => ?_
   exact ⟨(zL (zL E1 E3) (qR V)), intE (by unfold checkLinkM; simp_all)⟩
  ·refine qE ?_
   refine qB rfl ?_
   refine qA (qG rfl rfl rfl rfl 0 rfl) ?_
   refine qL 1 (v := .int .i64 _) rfl rfl rfl rfl ?_
   refine qA (qG rfl rfl rfl rfl 1 rfl) ?_
   refine qL 1 (v := .int .i64 _) rfl rfl rfl rfl ?_
   refine qA (qK (v := .bool _) rfl) ?_
   refine qA (qD (v := .bool _) rfl) ?_
   refine qP rfl (fun hc5 => ?_) (fun hc5 => ?_)
   ·refine qE ?_
    refine qB rfl ?_
    refine qA (qD (v := .int .i64 _) rfl) ?_
    refine qQ ?_
    refine qM (vs := [_]) Tryz.results53 ⟨qJ rfl rfl, trivial⟩ fun V => ?_
    exact ⟨(zL (zL E1 E3) (qR V)), intE (by unfold checkLinkM; simp_all)⟩
   ·refine qE ?_
    refine qB rfl ?_
    refine qA (qG rfl rfl rfl rfl 2 rfl) ?_
    refine qL 1 (v := .int .i64 _) rfl rfl rfl rfl ?_
    refine qA (qG rfl rfl rfl rfl 2 rfl) ?_
    refine qL 0 (v := .int .i64 _) rfl rfl rfl rfl ?_
    refine qA (qS rfl (by omega)) ?_
    refine wJ (caps := []) (vs := [.int .i64 _, .int .i64 _, .int .i64 _]) rfl rfl rfl (within_ok _ _ _ h3) ?_
    rintro _ h6 E6 rfl
    refine qA (qK (v := .bool _) rfl) ?_
    refine qA (qD (v := .bool _) rfl) ?_
    refine qP rfl (fun hc7 => ?_) (fun hc7 => ?_)
    ·refine qE ?_
     refine qB rfl ?_
     refine qA (qD (v := .int .i64 _) rfl) ?_
     refine qQ ?_
     refine qM (vs := [_]) Tryz.results53 ⟨qJ rfl rfl, trivial⟩ fun V => ?_
     exact ⟨(zL (zL (zL E1 E3) E6) (qR V)), intE (by unfold checkLinkM; simp_all)⟩
    ·refine qE ?_
     refine qB rfl ?_
     refine qA (qG rfl rfl rfl rfl 3 rfl) ?_
     refine qL 1 (v := .int .i64 _) rfl rfl rfl rfl ?_
     refine qA (qG rfl rfl rfl rfl 3 rfl) ?_
     refine qL 0 (v := .int .i64 _) rfl rfl rfl rfl ?_
     refine wJ (caps := []) (vs := [.int .i64 _, .int .i64 _, .int .i64 _]) rfl rfl rfl (within_ok _ _ _ h6) ?_
     rintro _ h8 E8 rfl
     refine qA (qK (v := .bool _) rfl) ?_
     refine qA (qD (v := .bool _) rfl) ?_
     refine qP rfl (fun hc9 => ?_) (fun hc9 => ?_)
     ·refine qE ?_
      refine qB rfl ?_
      refine qA (qD (v := .int .i64 _) rfl) ?_
      refine qQ ?_
      refine qM (vs := [_]) Tryz.results53 ⟨qJ rfl rfl, trivial⟩ fun V => ?_
      exact ⟨(zL (zL (zL (zL E1 E3) E6) E8) (qR V)), intE (by unfold checkLinkM; simp_all)⟩
     ·refine qO ?_
      refine qE ?_
      refine qB rfl ?_
      refine qA (qD (v := .int .i64 _) rfl) ?_
      refine qQ ?_
      refine qM (vs := [_]) Tryz.results53 ⟨qJ rfl rfl, trivial⟩ fun V => ?_
      exact ⟨(zL (zL (zL (zL E1 E3) E6) E8) (qR V)), intE (by unfold checkLinkM; simp_all)⟩
 ·replace hg2 : _ = true := hg2
  refine qH rfl hg2 ?_
  refine qH rfl hg2 ?_
  refine qH rfl hg2 ?_
  refine qH rfl hg2 ?_
  refine qH rfl hg2 ?_
  refine qH rfl hg2 ?_
  refine qA (qZ rfl hg2 (v := .bool _) rfl) ?_
  refine qA (qD (v := .bool _) rfl) ?_
  refine qP rfl (fun hc10 => ?_) (fun hc10 => ?_)
  ·refine qE ?_
   refine qB rfl ?_
   refine qA (qD (v := .int .i64 _) rfl) ?_
   refine qQ ?_
   refine qM (vs := [_]) Tryz.results53 ⟨qJ rfl rfl, trivial⟩ fun V => ?_
   exact ⟨(zL E1 (qR V)), intE (by unfold checkLinkM; simp_all)⟩
  ·refine qE ?_
   refine qB rfl ?_
   refine qA (qG rfl rfl rfl rfl 0 rfl) ?_
   refine qL 1 (v := .int .i64 _) rfl rfl rfl rfl ?_
   refine qA (qG rfl rfl rfl rfl 1 rfl) ?_
   refine qL 1 (v := .int .i64 _) rfl rfl rfl rfl ?_
   refine qA (qK (v := .bool _) rfl) ?_
   refine qA (qD (v := .bool _) rfl) ?_
   refine qP rfl (fun hc11 => ?_) (fun hc11 => ?_)
   ·refine qE ?_
    refine qB rfl ?_
    refine qA (qD (v := .int .i64 _) rfl) ?_
    refine qQ ?_
    refine qM (vs := [_]) Tryz.results53 ⟨qJ rfl rfl, trivial⟩ fun V => ?_
    exact ⟨(zL E1 (qR V)), intE (by unfold checkLinkM; simp_all)⟩
   ·refine qE ?_
    refine qB rfl ?_
    refine qA (qG rfl rfl rfl rfl 2 rfl) ?_
    refine qL 1 (v := .int .i64 _) rfl rfl rfl rfl ?_
    refine qA (qG rfl rfl rfl rfl 2 rfl) ?_
    refine qL 0 (v := .int .i64 _) rfl rfl rfl rfl ?_
    refine qA (qS rfl (by omega)) ?_
    refine wJ (caps := []) (vs := [.int .i64 _, .int .i64 _, .int .i64 _]) rfl rfl rfl (within_ok _ _ _ h1) ?_
    rintro _ h12 E12 rfl
    refine qA (qK (v := .bool _) rfl) ?_
    refine qA (qD (v := .bool _) rfl) ?_
    refine qP rfl (fun hc13 => ?_) (fun hc13 => ?_)
    ·refine qE ?_
     refine qB rfl ?_
     refine qA (qD (v := .int .i64 _) rfl) ?_
     refine qQ ?_
     refine qM (vs := [_]) Tryz.results53 ⟨qJ rfl rfl, trivial⟩ fun V => ?_
     exact ⟨(zL (zL E1 E12) (qR V)), intE (by unfold checkLinkM; simp_all)⟩
    ·refine qE ?_
     refine qB rfl ?_
     refine qA (qG rfl rfl rfl rfl 3 rfl) ?_
     refine qL 1 (v := .int .i64 _) rfl rfl rfl rfl ?_
     refine qA (qG rfl rfl rfl rfl 3 rfl) ?_
     refine qL 0 (v := .int .i64 _) rfl rfl rfl rfl ?_
     refine wJ (caps := []) (vs := [.int .i64 _, .int .i64 _, .int .i64 _]) rfl rfl rfl (within_ok _ _ _ h12) ?_
     rintro _ h14 E14 rfl
     refine qA (qK (v := .bool _) rfl) ?_
     refine qA (qD (v := .bool _) rfl) ?_
     refine qP rfl (fun hc15 => ?_) (fun hc15 => ?_)
     ·refine qE ?_
      refine qB rfl ?_
      refine qA (qD (v := .int .i64 _) rfl) ?_
      refine qQ ?_
      refine qM (vs := [_]) Tryz.results53 ⟨qJ rfl rfl, trivial⟩ fun V => ?_
      exact ⟨(zL (zL (zL E1 E12) E14) (qR V)), intE (by unfold checkLinkM; simp_all)⟩
     ·refine qO ?_
      refine qE ?_
      refine qB rfl ?_
      refine qA (qD (v := .int .i64 _) rfl) ?_
      refine qQ ?_
      refine qM (vs := [_]) Tryz.results53 ⟨qJ rfl rfl, trivial⟩ fun V => ?_
      exact ⟨(zL (zL (zL E1 E12) E14) (qR V)), intE (by unfold checkLinkM; simp_all)⟩
def headB (m : MachP) : Bool := !inM m.rods 1 6 || !inM m.levers 1 6 || !inM m.regs 0 2 || !inM m.travel 1 12 || !inM m.opn 1 m.travel
def chk4 (m : MachP) : Int := if (m.weights.length : Int) ≠ m.levers then 2 else firstErr checkWeightM m.weights
def chk3 (m : MachP) : Int := if m.links.length > 4 then 6 else if firstErr (checkLinkM m) m.links ≠ 0 then firstErr (checkLinkM m) m.links else chk4 m
def chk2 (m : MachP) : Int := if m.pins.length > 8 then 6 else if firstErr (checkPinM m) m.pins ≠ 0 then firstErr (checkPinM m) m.pins else chk3 m
def chk1 (m : MachP) : Int := if m.buttons.length > 4 then 6 else if firstErr (checkButtonM m) m.buttons ≠ 0 then firstErr (checkButtonM m) m.buttons else chk2 m
theorem chk_head {m : MachP} (e1 : inM m.rods 1 6 = true) (e2 : inM m.levers 1 6 = true) (e3 : inM m.regs 0 2 = true) (e4 : inM m.travel 1 12 = true) (e5 : inM m.opn 1 m.travel = true) : chkM m = chk1 m := by
 unfold chkM
 rw [e1, e2, e3, e4, e5]
 rfl
set_option maxHeartbeats 4000000 in
theorem Check_ok (m : MachP) (AB AQ AL AW : Option Addr) (cB cQ cL cW : Nat) (h : AH) (R : MachR h AB AQ AL AW m) (h0 : m.weights.length < 2 ^ 40) : FnT Tryz.prog 29 #[machV AB AQ AL AW cB cQ cL cW m] h (fun v _ => v = .int .i64 (chkM m)) := by
 refine wH Tryz.func29 rfl Tryz.ntmps29 rfl ?_
 refine qE ?_
 refine qB rfl ?_
 refine op_box (v := .agg #[.int .i64 _, .int .i64 _, .int .i64 _, .int .i64 _, .int .i64 _, .slice _ _ _, .slice _ _ _, .slice _ _ _, .slice _ _ _]) (cs := [_, _, _, _, _, _, _, _, _]) rfl rfl fun b1 hb1 => ?_
 refine qN [_] rfl ?_
 refine qA (qD (v := .int .i64 _) rfl) ?_
 refine qE ?_
 refine xp_cutB [12, 13, 14, 15, 16, 17, 18, 19, 20, 21, 22, 23, 24, 25, 26, 27, 28, 29, 30, 31, 32, 33, 34, 35, 36, 37, 38, 39, 40, 41] 1 (α := Unit) (fun u => [(41, .bool (headB m))]) (fun u L => L) (fun u h_u => True) ?_ ?_
 ·skip
  refine qB rfl ?_
  refine qA (qG rfl rfl rfl rfl 0 rfl) ?_
  refine qL 0 (v := .int .i64 _) rfl rfl rfl rfl ?_
  refine wJ (caps := []) (vs := [.int .i64 _, .int .i64 _, .int .i64 _]) rfl rfl rfl (within_ok _ _ _ h) ?_
  rintro _ h2 E2 rfl
  refine qA (qK (v := .bool _) rfl) ?_
  refine qA (qC (v := .bool _) rfl) ?_
  refine guard_case rfl (fun hg3 => ?_) (fun hg3 => ?_)
  ·replace hg3 : _ = false := hg3
   refine qA (qG rfl rfl rfl rfl 1 rfl) ?_
   refine qF rfl hg3 ?_
   refine qL 0 (v := .int .i64 _) rfl rfl rfl rfl ?_
   refine qF rfl hg3 ?_
   refine wJ (caps := []) (vs := [.int .i64 _, .int .i64 _, .int .i64 _]) rfl rfl rfl (within_ok _ _ _ h2) ?_
   rintro _ h4 E4 rfl
   refine qF rfl hg3 ?_
   refine qA (qK (v := .bool _) rfl) ?_
   refine qA (wI rfl hg3 (v := .bool _) rfl) ?_
   refine qA (qC (v := .bool _) rfl) ?_
   refine guard_case rfl (fun hg5 => ?_) (fun hg5 => ?_)
   ·replace hg5 : _ = false := hg5
    refine qA (qG rfl rfl rfl rfl 2 rfl) ?_
    refine qF rfl hg5 ?_
    refine qL 0 (v := .int .i64 _) rfl rfl rfl rfl ?_
    refine qF rfl hg5 ?_
    refine wJ (caps := []) (vs := [.int .i64 _, .int .i64 _, .int .i64 _]) rfl rfl rfl (within_ok _ _ _ h4) ?_
    rintro _ h6 E6 rfl
    refine qF rfl hg5 ?_
    refine qA (qK (v := .bool _) rfl) ?_
    refine qA (wI rfl hg5 (v := .bool _) rfl) ?_
    refine qA (qC (v := .bool _) rfl) ?_
    refine guard_case rfl (fun hg7 => ?_) (fun hg7 => ?_)
    ·replace hg7 : _ = false := hg7
     refine qA (qG rfl rfl rfl rfl 3 rfl) ?_
     refine qF rfl hg7 ?_
     refine qL 0 (v := .int .i64 _) rfl rfl rfl rfl ?_
     refine qF rfl hg7 ?_
     refine wJ (caps := []) (vs := [.int .i64 _, .int .i64 _, .int .i64 _]) rfl rfl rfl (within_ok _ _ _ h6) ?_
     rintro _ h8 E8 rfl
     refine qF rfl hg7 ?_
     refine qA (qK (v := .bool _) rfl) ?_
     refine qA (wI rfl hg7 (v := .bool _) rfl) ?_
     refine qA (qC (v := .bool _) rfl) ?_
     refine guard_case rfl (fun hg9 => ?_) (fun hg9 => ?_)
     ·replace hg9 : _ = false := hg9
      refine qA (qG rfl rfl rfl rfl 4 rfl) ?_
      refine qF rfl hg9 ?_
      refine qL 0 (v := .int .i64 _) rfl rfl rfl rfl ?_
      refine qF rfl hg9 ?_
      refine qA (qG rfl rfl rfl rfl 3 rfl) ?_
      refine qF rfl hg9 ?_
      refine qL 0 (v := .int .i64 _) rfl rfl rfl rfl ?_
      refine qF rfl hg9 ?_
      refine wJ (caps := []) (vs := [.int .i64 _, .int .i64 _, .int .i64 _]) rfl rfl rfl (within_ok _ _ _ h8) ?_
      rintro _ h10 E10 rfl
      refine qF rfl hg9 ?_
      refine qA (qK (v := .bool _) rfl) ?_
      refine qA (wI rfl hg9 (v := .bool _) rfl) ?_
      refine ⟨(), ⟨(boolE (by first | contradiction | (unfold headB; simp only [*, Bool.or_true, Bool.true_or, Bool.false_or, Bool.or_false, Bool.not_true, Bool.not_false]))), trivial⟩, rfl, rfl, (zL (zL (zL (zL E2 E4) E6) E8) E10), fun h3 E3 => by first | trivial | omega | (refine ⟨?_, ?_⟩ <;> omega), ?_⟩
      repeat (first | exact wQ _ _ | exact qW _ _ _ | refine wA (by decide) ?_ | refine qV rfl ?_ | refine wB rfl ?_)
     ·replace hg9 : _ = true := hg9
      refine qH rfl hg9 ?_
      refine qH rfl hg9 ?_
      refine qH rfl hg9 ?_
      refine qH rfl hg9 ?_
      refine qH rfl hg9 ?_
      refine qA (qZ rfl hg9 (v := .bool _) rfl) ?_
      refine ⟨(), ⟨(boolE (by first | contradiction | (unfold headB; simp only [*, Bool.or_true, Bool.true_or, Bool.false_or, Bool.or_false, Bool.not_true, Bool.not_false]))), trivial⟩, rfl, rfl, (zL (zL (zL E2 E4) E6) E8), fun h3 E3 => by first | trivial | omega | (refine ⟨?_, ?_⟩ <;> omega), ?_⟩
      repeat (first | exact wQ _ _ | exact qW _ _ _ | refine wA (by decide) ?_ | refine qV rfl ?_ | refine wB rfl ?_)
    ·replace hg7 : _ = true := hg7
     refine qH rfl hg7 ?_
     refine qH rfl hg7 ?_
     refine qH rfl hg7 ?_
     refine qA (qZ rfl hg7 (v := .bool _) rfl) ?_
     refine qA (qC (v := .bool _) rfl) ?_
     refine guard_case rfl (fun hg11 => ?_) (fun hg11 => ?_)
     ·replace hg11 : _ = false := hg11
      refine qA (qG rfl rfl rfl rfl 4 rfl) ?_
      refine qF rfl hg11 ?_
      refine qL 0 (v := .int .i64 _) rfl rfl rfl rfl ?_
      refine qF rfl hg11 ?_
      refine qA (qG rfl rfl rfl rfl 3 rfl) ?_
      refine qF rfl hg11 ?_
      refine qL 0 (v := .int .i64 _) rfl rfl rfl rfl ?_
      refine qF rfl hg11 ?_
      refine wJ (caps := []) (vs := [.int .i64 _, .int .i64 _, .int .i64 _]) rfl rfl rfl (within_ok _ _ _ h6) ?_
      rintro _ h12 E12 rfl
      refine qF rfl hg11 ?_
      refine qA (qK (v := .bool _) rfl) ?_
      refine qA (wI rfl hg11 (v := .bool _) rfl) ?_
      refine ⟨(), ⟨(boolE (by first | contradiction | (unfold headB; simp only [*, Bool.or_true, Bool.true_or, Bool.false_or, Bool.or_false, Bool.not_true, Bool.not_false]))), trivial⟩, rfl, rfl, (zL (zL (zL E2 E4) E6) E12), fun h3 E3 => by first | trivial | omega | (refine ⟨?_, ?_⟩ <;> omega), ?_⟩
      repeat (first | exact wQ _ _ | exact qW _ _ _ | refine wA (by decide) ?_ | refine qV rfl ?_ | refine wB rfl ?_)
     ·replace hg11 : _ = true := hg11
      refine qH rfl hg11 ?_
      refine qH rfl hg11 ?_
      refine qH rfl hg11 ?_
      refine qH rfl hg11 ?_
      refine qH rfl hg11 ?_
      refine qA (qZ rfl hg11 (v := .bool _) rfl) ?_
      refine ⟨(), ⟨(boolE (by first | contradiction | (unfold headB; simp only [*, Bool.or_true, Bool.true_or, Bool.false_or, Bool.or_false, Bool.not_true, Bool.not_false]))), trivial⟩, rfl, rfl, (zL (zL E2 E4) E6), fun h3 E3 => by first | trivial | omega | (refine ⟨?_, ?_⟩ <;> omega), ?_⟩
      repeat (first | exact wQ _ _ | exact qW _ _ _ | refine wA (by decide) ?_ | refine qV rfl ?_ | refine wB rfl ?_)
   ·replace hg5 : _ = true := hg5
    refine qH rfl hg5 ?_
    refine qH rfl hg5 ?_
    refine qH rfl hg5 ?_
    refine qA (qZ rfl hg5 (v := .bool _) rfl) ?_
    refine qA (qC (v := .bool _) rfl) ?_
    refine guard_case rfl (fun hg13 => ?_) (fun hg13 => ?_)
    ·replace hg13 : _ = false := hg13
     refine qA (qG rfl rfl rfl rfl 3 rfl) ?_
     refine qF rfl hg13 ?_
     refine qL 0 (v := .int .i64 _) rfl rfl rfl rfl ?_
     refine qF rfl hg13 ?_
     refine wJ (caps := []) (vs := [.int .i64 _, .int .i64 _, .int .i64 _]) rfl rfl rfl (within_ok _ _ _ h4) ?_
     rintro _ h14 E14 rfl
     refine qF rfl hg13 ?_
     refine qA (qK (v := .bool _) rfl) ?_
     refine qA (wI rfl hg13 (v := .bool _) rfl) ?_
     refine qA (qC (v := .bool _) rfl) ?_
     refine guard_case rfl (fun hg15 => ?_) (fun hg15 => ?_)
     ·replace hg15 : _ = false := hg15
      refine qA (qG rfl rfl rfl rfl 4 rfl) ?_
      refine qF rfl hg15 ?_
      refine qL 0 (v := .int .i64 _) rfl rfl rfl rfl ?_
      refine qF rfl hg15 ?_
      refine qA (qG rfl rfl rfl rfl 3 rfl) ?_
      refine qF rfl hg15 ?_
      refine qL 0 (v := .int .i64 _) rfl rfl rfl rfl ?_
      refine qF rfl hg15 ?_
      refine wJ (caps := []) (vs := [.int .i64 _, .int .i64 _, .int .i64 _]) rfl rfl rfl (within_ok _ _ _ h14) ?_
      rintro _ h16 E16 rfl
      refine qF rfl hg15 ?_
      refine qA (qK (v := .bool _) rfl) ?_
      refine qA (wI rfl hg15 (v := .bool _) rfl) ?_
      refine ⟨(), ⟨(boolE (by first | contradiction | (unfold headB; simp only [*, Bool.or_true, Bool.true_or, Bool.false_or, Bool.or_false, Bool.not_true, Bool.not_false]))), trivial⟩, rfl, rfl, (zL (zL (zL E2 E4) E14) E16), fun h3 E3 => by first | trivial | omega | (refine ⟨?_, ?_⟩ <;> omega), ?_⟩
      repeat (first | exact wQ _ _ | exact qW _ _ _ | refine wA (by decide) ?_ | refine qV rfl ?_ | refine wB rfl ?_)
     ·replace hg15 : _ = true := hg15
      refine qH rfl hg15 ?_
      refine qH rfl hg15 ?_
      refine qH rfl hg15 ?_
      refine qH rfl hg15 ?_
      refine qH rfl hg15 ?_
      refine qA (qZ rfl hg15 (v := .bool _) rfl) ?_
      refine ⟨(), ⟨(boolE (by first | contradiction | (unfold headB; simp only [*, Bool.or_true, Bool.true_or, Bool.false_or, Bool.or_false, Bool.not_true, Bool.not_false]))), trivial⟩, rfl, rfl, (zL (zL E2 E4) E14), fun h3 E3 => by first | trivial | omega | (refine ⟨?_, ?_⟩ <;> omega), ?_⟩
      repeat (first | exact wQ _ _ | exact qW _ _ _ | refine wA (by decide) ?_ | refine qV rfl ?_ | refine wB rfl ?_)
    ·replace hg13 : _ = true := hg13
     refine qH rfl hg13 ?_
     refine qH rfl hg13 ?_
     refine qH rfl hg13 ?_
     refine qA (qZ rfl hg13 (v := .bool _) rfl) ?_
     refine qA (qC (v := .bool _) rfl) ?_
     refine guard_case rfl (fun hg17 => ?_) (fun hg17 => ?_)
     ·replace hg17 : _ = false := hg17
      refine qA (qG rfl rfl rfl rfl 4 rfl) ?_
      refine qF rfl hg17 ?_
      refine qL 0 (v := .int .i64 _) rfl rfl rfl rfl ?_
      refine qF rfl hg17 ?_
      refine qA (qG rfl rfl rfl rfl 3 rfl) ?_
      refine qF rfl hg17 ?_
      refine qL 0 (v := .int .i64 _) rfl rfl rfl rfl ?_
      refine qF rfl hg17 ?_
      refine wJ (caps := []) (vs := [.int .i64 _, .int .i64 _, .int .i64 _]) rfl rfl rfl (within_ok _ _ _ h4) ?_
      rintro _ h18 E18 rfl
      refine qF rfl hg17 ?_
      refine qA (qK (v := .bool _) rfl) ?_
      refine qA (wI rfl hg17 (v := .bool _) rfl) ?_
      refine ⟨(), ⟨(boolE (by first | contradiction | (unfold headB; simp only [*, Bool.or_true, Bool.true_or, Bool.false_or, Bool.or_false, Bool.not_true, Bool.not_false]))), trivial⟩, rfl, rfl, (zL (zL E2 E4) E18), fun h3 E3 => by first | trivial | omega | (refine ⟨?_, ?_⟩ <;> omega), ?_⟩
      repeat (first | exact wQ _ _ | exact qW _ _ _ | refine wA (by decide) ?_ | refine qV rfl ?_ | refine wB rfl ?_)
     ·replace hg17 : _ = true := hg17
      refine qH rfl hg17 ?_
      refine qH rfl hg17 ?_
      refine qH rfl hg17 ?_
      refine qH rfl hg17 ?_
      refine qH rfl hg17 ?_
      refine qA (qZ rfl hg17 (v := .bool _) rfl) ?_
      refine ⟨(), ⟨(boolE (by first | contradiction | (unfold headB; simp only [*, Bool.or_true, Bool.true_or, Bool.false_or, Bool.or_false, Bool.not_true, Bool.not_false]))), trivial⟩, rfl, rfl, (zL E2 E4), fun h3 E3 => by first | trivial | omega | (refine ⟨?_, ?_⟩ <;> omega), ?_⟩
      repeat (first | exact wQ _ _ | exact qW _ _ _ | refine wA (by decide) ?_ | refine qV rfl ?_ | refine wB rfl ?_)
  ·replace hg3 : _ = true := hg3
   refine qH rfl hg3 ?_
   refine qH rfl hg3 ?_
   refine qH rfl hg3 ?_
   refine qA (qZ rfl hg3 (v := .bool _) rfl) ?_
   refine qA (qC (v := .bool _) rfl) ?_
   refine guard_case rfl (fun hg19 => ?_) (fun hg19 => ?_)
   ·replace hg19 : _ = false := hg19
    refine qA (qG rfl rfl rfl rfl 2 rfl) ?_
    refine qF rfl hg19 ?_
    refine qL 0 (v := .int .i64 _) rfl rfl rfl rfl ?_
    refine qF rfl hg19 ?_
    refine wJ (caps := []) (vs := [.int .i64 _, .int .i64 _, .int .i64 _]) rfl rfl rfl (within_ok _ _ _ h2) ?_
    rintro _ h20 E20 rfl
    refine qF rfl hg19 ?_
    refine qA (qK (v := .bool _) rfl) ?_
    refine qA (wI rfl hg19 (v := .bool _) rfl) ?_
    refine qA (qC (v := .bool _) rfl) ?_
    refine guard_case rfl (fun hg21 => ?_) (fun hg21 => ?_)
    ·replace hg21 : _ = false := hg21
     refine qA (qG rfl rfl rfl rfl 3 rfl) ?_
     refine qF rfl hg21 ?_
     refine qL 0 (v := .int .i64 _) rfl rfl rfl rfl ?_
     refine qF rfl hg21 ?_
     refine wJ (caps := []) (vs := [.int .i64 _, .int .i64 _, .int .i64 _]) rfl rfl rfl (within_ok _ _ _ h20) ?_
     rintro _ h22 E22 rfl
     refine qF rfl hg21 ?_
     refine qA (qK (v := .bool _) rfl) ?_
     refine qA (wI rfl hg21 (v := .bool _) rfl) ?_
     refine qA (qC (v := .bool _) rfl) ?_
     refine guard_case rfl (fun hg23 => ?_) (fun hg23 => ?_)
     ·replace hg23 : _ = false := hg23
      refine qA (qG rfl rfl rfl rfl 4 rfl) ?_
      refine qF rfl hg23 ?_
      refine qL 0 (v := .int .i64 _) rfl rfl rfl rfl ?_
      refine qF rfl hg23 ?_
      refine qA (qG rfl rfl rfl rfl 3 rfl) ?_
      refine qF rfl hg23 ?_
      refine qL 0 (v := .int .i64 _) rfl rfl rfl rfl ?_
      refine qF rfl hg23 ?_
      refine wJ (caps := []) (vs := [.int .i64 _, .int .i64 _, .int .i64 _]) rfl rfl rfl (within_ok _ _ _ h22) ?_
      rintro _ h24 E24 rfl
      refine qF rfl hg23 ?_
      refine qA (qK (v := .bool _) rfl) ?_
      refine qA (wI rfl hg23 (v := .bool _) rfl) ?_
      refine ⟨(), ⟨(boolE (by first | contradiction | (unfold headB; simp only [*, Bool.or_true, Bool.true_or, Bool.false_or, Bool.or_false, Bool.not_true, Bool.not_false]))), trivial⟩, rfl, rfl, (zL (zL (zL E2 E20) E22) E24), fun h3 E3 => by first | trivial | omega | (refine ⟨?_, ?_⟩ <;> omega), ?_⟩
      repeat (first | exact wQ _ _ | exact qW _ _ _ | refine wA (by decide) ?_ | refine qV rfl ?_ | refine wB rfl ?_)
     ·replace hg23 : _ = true := hg23
      refine qH rfl hg23 ?_
      refine qH rfl hg23 ?_
      refine qH rfl hg23 ?_
      refine qH rfl hg23 ?_
      refine qH rfl hg23 ?_
      refine qA (qZ rfl hg23 (v := .bool _) rfl) ?_
      refine ⟨(), ⟨(boolE (by first | contradiction | (unfold headB; simp only [*, Bool.or_true, Bool.true_or, Bool.false_or, Bool.or_false, Bool.not_true, Bool.not_false]))), trivial⟩, rfl, rfl, (zL (zL E2 E20) E22), fun h3 E3 => by first | trivial | omega | (refine ⟨?_, ?_⟩ <;> omega), ?_⟩
      repeat (first | exact wQ _ _ | exact qW _ _ _ | refine wA (by decide) ?_ | refine qV rfl ?_ | refine wB rfl ?_)
    ·replace hg21 : _ = true := hg21
     refine qH rfl hg21 ?_
     refine qH rfl hg21 ?_
     refine qH rfl hg21 ?_
     refine qA (qZ rfl hg21 (v := .bool _) rfl) ?_
     refine qA (qC (v := .bool _) rfl) ?_
     refine guard_case rfl (fun hg25 => ?_) (fun hg25 => ?_)
     ·replace hg25 : _ = false := hg25
      refine qA (qG rfl rfl rfl rfl 4 rfl) ?_
      refine qF rfl hg25 ?_
      refine qL 0 (v := .int .i64 _) rfl rfl rfl rfl ?_
      refine qF rfl hg25 ?_
      refine qA (qG rfl rfl rfl rfl 3 rfl) ?_
      refine qF rfl hg25 ?_
      refine qL 0 (v := .int .i64 _) rfl rfl rfl rfl ?_
      refine qF rfl hg25 ?_
      refine wJ (caps := []) (vs := [.int .i64 _, .int .i64 _, .int .i64 _]) rfl rfl rfl (within_ok _ _ _ h20) ?_
      rintro _ h26 E26 rfl
      refine qF rfl hg25 ?_
      refine qA (qK (v := .bool _) rfl) ?_
      refine qA (wI rfl hg25 (v := .bool _) rfl) ?_
      refine ⟨(), ⟨(boolE (by first | contradiction | (unfold headB; simp only [*, Bool.or_true, Bool.true_or, Bool.false_or, Bool.or_false, Bool.not_true, Bool.not_false]))), trivial⟩, rfl, rfl, (zL (zL E2 E20) E26), fun h3 E3 => by first | trivial | omega | (refine ⟨?_, ?_⟩ <;> omega), ?_⟩
      repeat (first | exact wQ _ _ | exact qW _ _ _ | refine wA (by decide) ?_ | refine qV rfl ?_ | refine wB rfl ?_)
     ·replace hg25 : _ = true := hg25
      refine qH rfl hg25 ?_
      refine qH rfl hg25 ?_
      refine qH rfl hg25 ?_
      refine qH rfl hg25 ?_
      refine qH rfl hg25 ?_
      refine qA (qZ rfl hg25 (v := .bool _) rfl) ?_
      refine ⟨(), ⟨(boolE (by first | contradiction | (unfold headB; simp only [*, Bool.or_true, Bool.true_or, Bool.false_or, Bool.or_false, Bool.not_true, Bool.not_false]))), trivial⟩, rfl, rfl, (zL E2 E20), fun h3 E3 => by first | trivial | omega | (refine ⟨?_, ?_⟩ <;> omega), ?_⟩
      repeat (first | exact wQ _ _ | exact qW _ _ _ | refine wA (by decide) ?_ | refine qV rfl ?_ | refine wB rfl ?_)
   ·replace hg19 : _ = true := hg19
    refine qH rfl hg19 ?_
    refine qH rfl hg19 ?_
    refine qH rfl hg19 ?_
    refine qA (qZ rfl hg19 (v := .bool _) rfl) ?_
    refine qA (qC (v := .bool _) rfl) ?_
    refine guard_case rfl (fun hg27 => ?_) (fun hg27 => ?_)
    ·replace hg27 : _ = false := hg27
     refine qA (qG rfl rfl rfl rfl 3 rfl) ?_
     refine qF rfl hg27 ?_
     refine qL 0 (v := .int .i64 _) rfl rfl rfl rfl ?_
     refine qF rfl hg27 ?_
     refine wJ (caps := []) (vs := [.int .i64 _, .int .i64 _, .int .i64 _]) rfl rfl rfl (within_ok _ _ _ h2) ?_
     rintro _ h28 E28 rfl
     refine qF rfl hg27 ?_
     refine qA (qK (v := .bool _) rfl) ?_
     refine qA (wI rfl hg27 (v := .bool _) rfl) ?_
     refine qA (qC (v := .bool _) rfl) ?_
     refine guard_case rfl (fun hg29 => ?_) (fun hg29 => ?_)
     ·replace hg29 : _ = false := hg29
      refine qA (qG rfl rfl rfl rfl 4 rfl) ?_
      refine qF rfl hg29 ?_
      refine qL 0 (v := .int .i64 _) rfl rfl rfl rfl ?_
      refine qF rfl hg29 ?_
      refine qA (qG rfl rfl rfl rfl 3 rfl) ?_
      refine qF rfl hg29 ?_
      refine qL 0 (v := .int .i64 _) rfl rfl rfl rfl ?_
      refine qF rfl hg29 ?_
      refine wJ (caps := []) (vs := [.int .i64 _, .int .i64 _, .int .i64 _]) rfl rfl rfl (within_ok _ _ _ h28) ?_
      rintro _ h30 E30 rfl
      refine qF rfl hg29 ?_
      refine qA (qK (v := .bool _) rfl) ?_
      refine qA (wI rfl hg29 (v := .bool _) rfl) ?_
      refine ⟨(), ⟨(boolE (by first | contradiction | (unfold headB; simp only [*, Bool.or_true, Bool.true_or, Bool.false_or, Bool.or_false, Bool.not_true, Bool.not_false]))), trivial⟩, rfl, rfl, (zL (zL E2 E28) E30), fun h3 E3 => by first | trivial | omega | (refine ⟨?_, ?_⟩ <;> omega), ?_⟩
      repeat (first | exact wQ _ _ | exact qW _ _ _ | refine wA (by decide) ?_ | refine qV rfl ?_ | refine wB rfl ?_)
     ·replace hg29 : _ = true := hg29
      refine qH rfl hg29 ?_
      refine qH rfl hg29 ?_
      refine qH rfl hg29 ?_
      refine qH rfl hg29 ?_
      refine qH rfl hg29 ?_
      refine qA (qZ rfl hg29 (v := .bool _) rfl) ?_
      refine ⟨(), ⟨(boolE (by first | contradiction | (unfold headB; simp only [*, Bool.or_true, Bool.true_or, Bool.false_or, Bool.or_false, Bool.not_true, Bool.not_false]))), trivial⟩, rfl, rfl, (zL E2 E28), fun h3 E3 => by first | trivial | omega | (refine ⟨?_, ?_⟩ <;> omega), ?_⟩
      repeat (first | exact wQ _ _ | exact qW _ _ _ | refine wA (by decide) ?_ | refine qV rfl ?_ | refine wB rfl ?_)
    ·replace hg27 : _ = true := hg27
     refine qH rfl hg27 ?_
     refine qH rfl hg27 ?_
     refine qH rfl hg27 ?_
     refine qA (qZ rfl hg27 (v := .bool _) rfl) ?_
     refine qA (qC (v := .bool _) rfl) ?_
     refine guard_case rfl (fun hg31 => ?_) (fun hg31 => ?_)
     ·replace hg31 : _ = false := hg31
      refine qA (qG rfl rfl rfl rfl 4 rfl) ?_
      refine qF rfl hg31 ?_
      refine qL 0 (v := .int .i64 _) rfl rfl rfl rfl ?_
      refine qF rfl hg31 ?_
      refine qA (qG rfl rfl rfl rfl 3 rfl) ?_
      refine qF rfl hg31 ?_
      refine qL 0 (v := .int .i64 _) rfl rfl rfl rfl ?_
      refine qF rfl hg31 ?_
      refine wJ (caps := []) (vs := [.int .i64 _, .int .i64 _, .int .i64 _]) rfl rfl rfl (within_ok _ _ _ h2) ?_
      rintro _ h32 E32 rfl
      refine qF rfl hg31 ?_
      refine qA (qK (v := .bool _) rfl) ?_
      refine qA (wI rfl hg31 (v := .bool _) rfl) ?_
      refine ⟨(), ⟨(boolE (by first | contradiction | (unfold headB; simp only [*, Bool.or_true, Bool.true_or, Bool.false_or, Bool.or_false, Bool.not_true, Bool.not_false]))), trivial⟩, rfl, rfl, (zL E2 E32), fun h3 E3 => by first | trivial | omega | (refine ⟨?_, ?_⟩ <;> omega), ?_⟩
      repeat (first | exact wQ _ _ | exact qW _ _ _ | refine wA (by decide) ?_ | refine qV rfl ?_ | refine wB rfl ?_)
     ·replace hg31 : _ = true := hg31
      refine qH rfl hg31 ?_
      refine qH rfl hg31 ?_
      refine qH rfl hg31 ?_
      refine qH rfl hg31 ?_
      refine qH rfl hg31 ?_
      refine qA (qZ rfl hg31 (v := .bool _) rfl) ?_
      refine ⟨(), ⟨(boolE (by first | contradiction | (unfold headB; simp only [*, Bool.or_true, Bool.true_or, Bool.false_or, Bool.or_false, Bool.not_true, Bool.not_false]))), trivial⟩, rfl, rfl, E2, fun h3 E3 => by first | trivial | omega | (refine ⟨?_, ?_⟩ <;> omega), ?_⟩
      repeat (first | exact wQ _ _ | exact qW _ _ _ | refine wA (by decide) ?_ | refine qV rfl ?_ | refine wB rfl ?_)
 ·rintro u T1 h_u E_u J_u
  refine qU [_] rfl ?_
  refine qP rfl (fun hh => ?_) (fun hh => ?_)
  ·skip
   refine qE ?_
   refine qB rfl ?_
   refine qA (qD (v := .int .i64 _) rfl) ?_
   refine qQ ?_
   refine qM (vs := [_]) Tryz.results29 ⟨qJ rfl rfl, trivial⟩ fun V => ?_
   refine ⟨(zL E_u (qR V)), intE ?_⟩
   unfold chkM
   simp only [headB, Bool.or_eq_true] at hh
   rcases hh with (((hh | hh) | hh) | hh) | hh
   ·rw [if_pos hh]
   ·by_cases x1 : (!inM m.rods 1 6) = true
    ·rw [if_pos x1]
    ·rw [if_neg x1, if_pos hh]
   ·by_cases x1 : (!inM m.rods 1 6) = true
    ·rw [if_pos x1]
    ·by_cases x2 : (!inM m.levers 1 6) = true
     ·rw [if_neg x1, if_pos x2]
     ·rw [if_neg x1, if_neg x2, if_pos hh]
   ·by_cases x1 : (!inM m.rods 1 6) = true
    ·rw [if_pos x1]
    ·by_cases x2 : (!inM m.levers 1 6) = true
     ·rw [if_neg x1, if_pos x2]
     ·by_cases x3 : (!inM m.regs 0 2) = true
      ·rw [if_neg x1, if_neg x2, if_pos x3]
      ·rw [if_neg x1, if_neg x2, if_neg x3, if_pos hh]
   ·by_cases x1 : (!inM m.rods 1 6) = true
    ·rw [if_pos x1]
    ·by_cases x2 : (!inM m.levers 1 6) = true
     ·rw [if_neg x1, if_pos x2]
     ·by_cases x3 : (!inM m.regs 0 2) = true
      ·rw [if_neg x1, if_neg x2, if_pos x3]
      ·by_cases x4 : (!inM m.travel 1 12) = true
       ·rw [if_neg x1, if_neg x2, if_neg x3, if_pos x4]
       ·rw [if_neg x1, if_neg x2, if_neg x3, if_neg x4, if_pos hh]
  ·skip
   simp only [headB, Bool.or_eq_false_iff, Bool.not_eq_false'] at hh
   obtain ⟨⟨⟨⟨e1, e2⟩, e3⟩, e4⟩, e5⟩ := hh
   have C1 := chk_head e1 e2 e3 e4 e5
   have b1 := inM_iff.1 e1
   have b2 := inM_iff.1 e2
   have b3 := inM_iff.1 e3
   have b4 := inM_iff.1 e4
   have b5 := inM_iff.1 e5
   refine qO ?_
   refine qE ?_
   refine qE ?_
   refine qB rfl ?_
   refine qA (qG rfl rfl rfl rfl 5 rfl) ?_
   refine qL 0 (v := .slice _ _ _) rfl rfl rfl rfl ?_
   refine qA (wP rfl rfl) ?_
   refine qA (qK (v := .bool _) rfl) ?_
   refine qP rfl (fun hb => ?_) (fun hb => ?_)
   ·skip
    refine qE ?_
    refine qB rfl ?_
    refine qA (qD (v := .int .i64 _) rfl) ?_
    refine qQ ?_
    refine qM (vs := [_]) Tryz.results29 ⟨qJ rfl rfl, trivial⟩ fun V => ?_
    have hb' : 4 < m.buttons.length := by simp at hb; omega
    exact ⟨(zL E_u (qR V)), intE (by rw [C1, chk1, if_pos hb'])⟩
   ·skip
    have hb' : ¬ 4 < m.buttons.length := by simp at hb; omega
    refine qO ?_
    refine qE ?_
    refine qE ?_
    refine qB rfl ?_
    refine qA (qG rfl rfl rfl rfl 5 rfl) ?_
    refine qL 0 (v := .slice _ _ _) rfl rfl rfl rfl ?_
    refine qA (wP rfl rfl) ?_
    refine qA (qC (v := .int .i64 _) rfl) ?_
    refine qT ?_
    refine zH [2, 4, 49, 50, 51, 52, 53, 54, 55, 56, 57, 58, 59] 1 (α := Nat) (fun k => [(49, .int .i64 k)]) (fun k => _) (fun k h_k => k ≤ m.buttons.length ∧ firstErr (checkButtonM m) (m.buttons.take k) = 0) (fun k => m.buttons.length - k) (0) ⟨rfl, trivial⟩ (rfl) (⟨Nat.zero_le _, rfl⟩) ?_
    rintro k T33 h_k E_k J_k
    refine qU [_] rfl ?_
    obtain ⟨K1, K2⟩ := J_k
    refine qE ?_
    refine qB rfl ?_
    refine qA (qK (v := .bool _) rfl) ?_
    refine qE ?_
    refine qP rfl (fun hk => ?_) (fun hk => ?_)
    ·skip
     have hkl : k < m.buttons.length := ltI hk
     obtain ⟨g, off, hA, hc⟩ := (R.b.ext (zL E_u E_k)).at (by omega) hkl
     refine qO ?_
     refine qE ?_
     refine qT ?_
     refine qE ?_
     refine qB rfl ?_
     refine qA (wD rfl hA rfl rfl rfl (by omega) (by omega)) ?_
     refine wL (v := .int .i64 _) rfl rfl ((hc) 0 _ rfl) ?_
     refine qA (qD (v := .int .i64 _) rfl) ?_
     refine qE ?_
     refine qB rfl ?_
     refine qA (qC (v := .int .i64 _) rfl) ?_
     refine qA (qG rfl rfl rfl rfl 0 rfl) ?_
     refine qL 0 (v := .int .i64 _) rfl rfl rfl rfl ?_
     refine qA (qS rfl (by omega)) ?_
     refine wJ (caps := []) (vs := [.int .i64 _, .int .i64 _, .int .i64 _]) rfl rfl rfl (within_ok _ _ _ h_k) ?_
     rintro _ h1 E1 rfl
     refine qA (qK (v := .bool _) rfl) ?_
     refine qP rfl (fun hw => ?_) (fun hw => ?_)
     ·skip
      have ew : checkButtonM m m.buttons[k] = 3 := by rw [checkButtonM, if_pos hw]
      refine qE ?_
      refine qB rfl ?_
      refine qA (qD (v := .int .i64 _) rfl) ?_
      refine qQ ?_
      refine qM (vs := [_]) Tryz.results29 ⟨qJ rfl rfl, trivial⟩ fun V => ?_
      refine ⟨(zL (zL (zL E_u E_k) E1) (qR V)), intE ?_⟩
      have ef := zG hkl K2 (by rw [ew]; decide)
      rw [ew] at ef
      rw [C1, chk1, if_neg hb', if_pos (by rw [ef]; decide), ef]
     ·skip
      refine qO ?_
      refine qB rfl ?_
      refine qA (qS rfl (by omega)) ?_
      refine qA (qC (v := .int .i64 _) rfl) ?_
      refine ⟨k + 1, ⟨rfl, trivial⟩, rfl, rfl, (zL E_k E1), fun h3 E3 => ⟨hkl, firstErr_go hkl K2 (by rw [checkButtonM, if_neg (by simpa using hw)])⟩, by first | omega | (dsimp only; omega), ?_⟩
      repeat (first | exact qW _ _ _ | refine wA (by decide) ?_ | refine qV rfl ?_ | refine wB rfl ?_)
    ·skip
     have hke : k = m.buttons.length := by have := geI hk; omega
     subst hke
     rw [List.take_length] at K2
     have C2 : chkM m = chk2 m := by rw [C1, chk1, if_neg hb', if_neg (by simp [K2])]
     refine wS ?_
     refine qE ?_
     refine qE ?_
     refine qB rfl ?_
     refine qA (qG rfl rfl rfl rfl 6 rfl) ?_
     refine qL 0 (v := .slice _ _ _) rfl rfl rfl rfl ?_
     refine qA (wP rfl rfl) ?_
     refine qA (qK (v := .bool _) rfl) ?_
     refine qP rfl (fun hq => ?_) (fun hq => ?_)
     ·skip
      refine qE ?_
      refine qB rfl ?_
      refine qA (qD (v := .int .i64 _) rfl) ?_
      refine qQ ?_
      refine qM (vs := [_]) Tryz.results29 ⟨qJ rfl rfl, trivial⟩ fun V => ?_
      have hq' : 8 < m.pins.length := by simp at hq; omega
      exact ⟨(zL (zL E_u E_k) (qR V)), intE (by rw [C2, chk2, if_pos hq'])⟩
     ·skip
      have hq' : ¬ 8 < m.pins.length := by simp at hq; omega
      refine qO ?_
      refine qE ?_
      refine qE ?_
      refine qB rfl ?_
      refine qA (qG rfl rfl rfl rfl 6 rfl) ?_
      refine qL 0 (v := .slice _ _ _) rfl rfl rfl rfl ?_
      refine qA (wP rfl rfl) ?_
      refine qA (qC (v := .int .i64 _) rfl) ?_
      refine qT ?_
      refine zH [2, 6, 67, 68, 69, 70, 71, 72, 73, 74, 75, 76, 77, 78, 79, 80, 81, 82, 83, 84, 85, 86, 87, 88, 89, 90, 91, 92, 93, 94, 95] 1 (α := Nat) (fun j => [(67, .int .i64 j)]) (fun j => _) (fun j h_j => j ≤ m.pins.length ∧ firstErr (checkPinM m) (m.pins.take j) = 0) (fun j => m.pins.length - j) (0) ⟨rfl, trivial⟩ (rfl) (⟨Nat.zero_le _, rfl⟩) ?_
      rintro j T34 h_j E_j J_j
      refine qU [_] rfl ?_
      obtain ⟨P1, P2⟩ := J_j
      refine qE ?_
      refine qB rfl ?_
      refine qA (qK (v := .bool _) rfl) ?_
      refine qE ?_
      refine qP rfl (fun hk2 => ?_) (fun hk2 => ?_)
      ·skip
       have hkl : j < m.pins.length := ltI hk2
       obtain ⟨g, off, hA, hc⟩ := (R.q.ext (zL (zL E_u E_k) E_j)).at (by omega) hkl
       refine qO ?_
       refine qE ?_
       refine qT ?_
       refine qE ?_
       refine qB rfl ?_
       refine qA (wD rfl hA rfl rfl rfl (by omega) (by omega)) ?_
       refine op_loadA rfl rfl rfl rfl (hc) ?_
       refine zE (cs := [_, _, _]) rfl rfl fun b6 hb6 => ?_
       refine qN [_, _] rfl ?_
       refine qY 1 (v := .agg #[.int .i64 _, .int .i64 _, .int .i64 _]) (vs := [_, _, _]) (c' := [_, _, _]) rfl rfl rfl rfl rfl rfl rfl rfl rfl ?_
       refine qN [_, _] rfl ?_
       refine qT ?_
       refine xp_cutB [71, 72, 73, 74, 75, 76, 77, 78, 79, 80, 81, 82, 83, 84, 85, 86, 87] 2 (α := Unit) (fun u2 => [(71, .bool (!inM m.pins[j].rod 0 (m.rods - 1) || !inM m.pins[j].lever 0 (m.levers - 1)))]) (fun u2 L => L) (fun u2 h_u2 => True) ?_ ?_
       ·skip
        refine qB rfl ?_
        refine qA (qG rfl rfl rfl rfl 0 rfl) ?_
        refine qL 1 (v := .int .i64 _) rfl rfl rfl rfl ?_
        refine qA (qG rfl rfl rfl rfl 0 rfl) ?_
        refine qL 0 (v := .int .i64 _) rfl rfl rfl rfl ?_
        refine qA (qS rfl (by omega)) ?_
        refine wJ (caps := []) (vs := [.int .i64 _, .int .i64 _, .int .i64 _]) rfl rfl rfl (within_ok _ _ _ h_j) ?_
        rintro _ h36 E36 rfl
        refine qA (qK (v := .bool _) rfl) ?_
        refine qA (qC (v := .bool _) rfl) ?_
        refine guard_case rfl (fun hg37 => ?_) (fun hg37 => ?_)
        ·replace hg37 : _ = false := hg37
         refine qA (qG rfl rfl rfl rfl 1 rfl) ?_
         refine qF rfl hg37 ?_
         refine qL 1 (v := .int .i64 _) rfl rfl rfl rfl ?_
         refine qF rfl hg37 ?_
         refine qA (qG rfl rfl rfl rfl 1 rfl) ?_
         refine qF rfl hg37 ?_
         refine qL 0 (v := .int .i64 _) rfl rfl rfl rfl ?_
         refine qF rfl hg37 ?_
         refine qA (qS rfl (by omega)) ?_
         refine qF rfl hg37 ?_
         refine wJ (caps := []) (vs := [.int .i64 _, .int .i64 _, .int .i64 _]) rfl rfl rfl (within_ok _ _ _ h36) ?_
         rintro _ h38 E38 rfl
         refine qF rfl hg37 ?_
         refine qA (qK (v := .bool _) rfl) ?_
         refine qA (wI rfl hg37 (v := .bool _) rfl) ?_
         refine qA (qD (v := .bool _) rfl) ?_
         refine ⟨(), ⟨(boolE (by first | contradiction | (simp only [*, Bool.or_true, Bool.true_or, Bool.false_or, Bool.or_false, Bool.not_true, Bool.not_false]))), trivial⟩, rfl, rfl, (zL E36 E38), fun h3 E3 => by first | trivial | omega | (refine ⟨?_, ?_⟩ <;> omega), ?_⟩
         repeat (first | exact wQ _ _ | exact qW _ _ _ | refine wA (by decide) ?_ | refine qV rfl ?_ | refine wB rfl ?_)
        ·replace hg37 : _ = true := hg37
         refine qH rfl hg37 ?_
         refine qH rfl hg37 ?_
         refine qH rfl hg37 ?_
         refine qH rfl hg37 ?_
         refine qH rfl hg37 ?_
         refine qH rfl hg37 ?_
         refine qA (qZ rfl hg37 (v := .bool _) rfl) ?_
         refine qA (qD (v := .bool _) rfl) ?_
         refine ⟨(), ⟨(boolE (by first | contradiction | (simp only [*, Bool.or_true, Bool.true_or, Bool.false_or, Bool.or_false, Bool.not_true, Bool.not_false]))), trivial⟩, rfl, rfl, E36, fun h3 E3 => by first | trivial | omega | (refine ⟨?_, ?_⟩ <;> omega), ?_⟩
         repeat (first | exact wQ _ _ | exact qW _ _ _ | refine wA (by decide) ?_ | refine qV rfl ?_ | refine wB rfl ?_)
       ·rintro u2 T35 h_u2 E_u2 J_u2
        refine qU [_, _] rfl ?_
        refine qP rfl (fun hw => ?_) (fun hw => ?_)
        ·skip
         have ew : checkPinM m m.pins[j] = 3 := by
          unfold checkPinM
          rw [Bool.or_eq_true] at hw
          rcases hw with hw | hw
          ·rw [if_pos hw]
          ·by_cases x1 : (!inM m.pins[j].rod 0 (m.rods - 1)) = true
           ·rw [if_pos x1]
           ·rw [if_neg x1, if_pos hw]
         refine qE ?_
         refine qB rfl ?_
         refine qA (qD (v := .int .i64 _) rfl) ?_
         refine qQ ?_
         refine qM (vs := [_]) Tryz.results29 ⟨qJ rfl rfl, trivial⟩ fun V => ?_
         refine ⟨(zL (zL (zL (zL E_u E_k) E_j) E_u2) (qR V)), intE ?_⟩
         have ef := zG hkl P2 (by rw [ew]; decide)
         rw [ew] at ef
         rw [C2, chk2, if_neg hq', if_pos (by rw [ef]; decide), ef]
        ·skip
         rw [Bool.or_eq_false_iff] at hw
         refine qE ?_
         refine qB rfl ?_
         refine qA (qG rfl rfl rfl rfl 2 rfl) ?_
         refine qL 1 (v := .int .i64 _) rfl rfl rfl rfl ?_
         refine qA (qG rfl rfl rfl rfl 3 rfl) ?_
         refine qL 0 (v := .int .i64 _) rfl rfl rfl rfl ?_
         refine wJ (caps := []) (vs := [.int .i64 _, .int .i64 _, .int .i64 _]) rfl rfl rfl (within_ok _ _ _ h_u2) ?_
         rintro _ h1 E1 rfl
         refine qA (qK (v := .bool _) rfl) ?_
         refine qA (qD (v := .bool _) rfl) ?_
         refine qP rfl (fun hw2 => ?_) (fun hw2 => ?_)
         ·skip
          have ew : checkPinM m m.pins[j] = 1 := by rw [checkPinM, if_neg (by simp [hw.1]), if_neg (by simp [hw.2]), if_pos hw2]
          refine qE ?_
          refine qB rfl ?_
          refine qA (qD (v := .int .i64 _) rfl) ?_
          refine qQ ?_
          refine qM (vs := [_]) Tryz.results29 ⟨qJ rfl rfl, trivial⟩ fun V => ?_
          refine ⟨(zL (zL (zL (zL (zL E_u E_k) E_j) E_u2) E1) (qR V)), intE ?_⟩
          have ef := zG hkl P2 (by rw [ew]; decide)
          rw [ew] at ef
          rw [C2, chk2, if_neg hq', if_pos (by rw [ef]; decide), ef]
         ·skip
          refine qO ?_
          refine qB rfl ?_
          refine qA (qS rfl (by omega)) ?_
          refine qA (qC (v := .int .i64 _) rfl) ?_
          refine ⟨j + 1, ⟨rfl, trivial⟩, rfl, rfl, (zL (zL E_j E_u2) E1), fun h3 E3 => ⟨hkl, firstErr_go hkl P2 (by rw [checkPinM, if_neg (by simp [hw.1]), if_neg (by simp [hw.2]), if_neg (by simp [hw2])])⟩, by first | omega | (dsimp only; omega), ?_⟩
          repeat (first | exact qW _ _ _ | refine wA (by decide) ?_ | refine qV rfl ?_ | refine wB rfl ?_)
      ·skip
       have hke : j = m.pins.length := by have := geI hk2; omega
       subst hke
       rw [List.take_length] at P2
       have C3 : chkM m = chk3 m := by rw [C2, chk2, if_neg hq', if_neg (by simp [P2])]
       refine wS ?_
       refine qE ?_
       refine qE ?_
       refine qB rfl ?_
       refine qA (qG rfl rfl rfl rfl 7 rfl) ?_
       refine qL 0 (v := .slice _ _ _) rfl rfl rfl rfl ?_
       refine qA (wP rfl rfl) ?_
       refine qA (qK (v := .bool _) rfl) ?_
       refine qP rfl (fun hl => ?_) (fun hl => ?_)
       ·skip
        refine qE ?_
        refine qB rfl ?_
        refine qA (qD (v := .int .i64 _) rfl) ?_
        refine qQ ?_
        refine qM (vs := [_]) Tryz.results29 ⟨qJ rfl rfl, trivial⟩ fun V => ?_
        have hl' : 4 < m.links.length := by simp at hl; omega
        exact ⟨(zL (zL (zL E_u E_k) E_j) (qR V)), intE (by rw [C3, chk3, if_pos hl'])⟩
       ·skip
        have hl' : ¬ 4 < m.links.length := by simp at hl; omega
        refine qO ?_
        refine qE ?_
        refine qE ?_
        refine qB rfl ?_
        refine qA (qG rfl rfl rfl rfl 7 rfl) ?_
        refine qL 0 (v := .slice _ _ _) rfl rfl rfl rfl ?_
        refine qA (wP rfl rfl) ?_
        refine qA (qC (v := .int .i64 _) rfl) ?_
        refine qT ?_
        refine zH [2, 8, 9, 103, 104, 105, 106, 107, 108, 109, 110, 111, 112, 113] 1 (α := Nat) (fun i => [(103, .int .i64 i)]) (fun i => _) (fun i h_i => i ≤ m.links.length ∧ firstErr (checkLinkM m) (m.links.take i) = 0) (fun i => m.links.length - i) (0) ⟨rfl, trivial⟩ (rfl) (⟨Nat.zero_le _, rfl⟩) ?_
        rintro i T39 h_i E_i J_i
        refine qU [_] rfl ?_
        obtain ⟨L1, L2⟩ := J_i
        refine qE ?_
        refine qB rfl ?_
        refine qA (qK (v := .bool _) rfl) ?_
        refine qE ?_
        refine qP rfl (fun hk3 => ?_) (fun hk3 => ?_)
        ·skip
         have hkl : i < m.links.length := ltI hk3
         obtain ⟨g, off, hA, hc⟩ := (R.l.ext (zL (zL (zL E_u E_k) E_j) E_i)).at (by omega) hkl
         refine qO ?_
         refine qE ?_
         refine qT ?_
         refine qE ?_
         refine qB rfl ?_
         refine qA (wD rfl hA rfl rfl rfl (by omega) (by omega)) ?_
         refine op_loadA rfl rfl rfl rfl (hc) ?_
         refine zE (cs := [_, _, _, _]) rfl rfl fun b8 hb8 => ?_
         refine qN [_, _] rfl ?_
         refine qY 1 (v := .agg #[.int .i64 _, .int .i64 _, .int .i64 _, .int .i64 _]) (vs := [_, _, _, _]) (c' := [_, _, _, _]) rfl rfl rfl rfl rfl rfl rfl rfl rfl ?_
         refine qN [_, _] rfl ?_
         refine qE ?_
         refine qB rfl ?_
         refine wO 0 (vs := [.int .i64 _, .int .i64 _, .int .i64 _, .int .i64 _, .int .i64 _, .slice _ _ _, .slice _ _ _, .slice _ _ _, .slice _ _ _]) rfl rfl rfl rfl rfl ?_
         refine wO 1 (vs := [.int .i64 _, .int .i64 _, .int .i64 _, .int .i64 _]) rfl rfl rfl rfl rfl ?_
         refine wJ (caps := []) (vs := [.agg #[.int .i64 _, .int .i64 _, .int .i64 _, .int .i64 _, .int .i64 _, .slice _ _ _, .slice _ _ _, .slice _ _ _, .slice _ _ _], .agg #[.int .i64 _, .int .i64 _, .int .i64 _, .int .i64 _]]) rfl rfl rfl (checkLink_ok m m.links[i] AB AQ AL AW cB cQ cL cW h_i (by omega) (by omega)) ?_
         rintro _ h1 E1 rfl
         refine qA (qD (v := .int .i64 _) rfl) ?_
         refine qE ?_
         refine qB rfl ?_
         refine qA (qC (v := .int .i64 _) rfl) ?_
         refine qA (qK (v := .bool _) rfl) ?_
         refine qP rfl (fun hw => ?_) (fun hw => ?_)
         ·skip
          have ew : checkLinkM m m.links[i] ≠ 0 := by simpa using hw
          refine qE ?_
          refine qB rfl ?_
          refine qA (qC (v := .int .i64 _) rfl) ?_
          refine qA (qD (v := .int .i64 _) rfl) ?_
          refine qQ ?_
          refine qM (vs := [_]) Tryz.results29 ⟨qJ rfl rfl, trivial⟩ fun V => ?_
          refine ⟨(zL (zL (zL (zL (zL E_u E_k) E_j) E_i) E1) (qR V)), intE ?_⟩
          have ef := zG hkl L2 ew
          rw [C3, chk3, if_neg hl', if_pos (by rw [ef]; exact ew), ef]
         ·skip
          have ew : checkLinkM m m.links[i] = 0 := by simpa using hw
          refine qO ?_
          refine qB rfl ?_
          refine qA (qS rfl (by omega)) ?_
          refine qA (qC (v := .int .i64 _) rfl) ?_
          refine ⟨i + 1, ⟨rfl, trivial⟩, rfl, rfl, (zL E_i E1), fun h3 E3 => ⟨hkl, firstErr_go hkl L2 ew⟩, by first | omega | (dsimp only; omega), ?_⟩
          repeat (first | exact qW _ _ _ | refine wA (by decide) ?_ | refine qV rfl ?_ | refine wB rfl ?_)
        ·skip
         have hke : i = m.links.length := by have := geI hk3; omega
         subst hke
         rw [List.take_length] at L2
         have C4 : chkM m = chk4 m := by rw [C3, chk3, if_neg hl', if_neg (by simp [L2])]
         refine wS ?_
         refine qE ?_
         refine qE ?_
         refine qB rfl ?_
         refine qA (qG rfl rfl rfl rfl 8 rfl) ?_
         refine qL 0 (v := .slice _ _ _) rfl rfl rfl rfl ?_
         refine qA (wP rfl rfl) ?_
         refine qA (qG rfl rfl rfl rfl 1 rfl) ?_
         refine qL 0 (v := .int .i64 _) rfl rfl rfl rfl ?_
         refine qA (qK (v := .bool _) rfl) ?_
         refine qP rfl (fun hw => ?_) (fun hw => ?_)
         ·skip
          refine qE ?_
          refine qB rfl ?_
          refine qA (qD (v := .int .i64 _) rfl) ?_
          refine qQ ?_
          refine qM (vs := [_]) Tryz.results29 ⟨qJ rfl rfl, trivial⟩ fun V => ?_
          have hw' : ¬ (m.weights.length : Int) = m.levers := by simpa using hw
          exact ⟨(zL (zL (zL (zL E_u E_k) E_j) E_i) (qR V)), intE (by rw [C4, chk4, if_pos hw'])⟩
         ·skip
          have hw' : (m.weights.length : Int) = m.levers := by simpa using hw
          refine qO ?_
          refine qE ?_
          refine qE ?_
          refine qB rfl ?_
          refine qA (qG rfl rfl rfl rfl 8 rfl) ?_
          refine qL 0 (v := .slice _ _ _) rfl rfl rfl rfl ?_
          refine qA (wP rfl rfl) ?_
          refine qA (qC (v := .int .i64 _) rfl) ?_
          refine qT ?_
          refine zH [2, 11, 123, 124, 125, 126, 127, 128, 129, 130] 1 (α := Nat) (fun o => [(123, .int .i64 o)]) (fun o => _) (fun o h_o => o ≤ m.weights.length ∧ firstErr checkWeightM (m.weights.take o) = 0) (fun o => m.weights.length - o) (0) ⟨rfl, trivial⟩ (rfl) (⟨Nat.zero_le _, rfl⟩) ?_
          rintro o T40 h_o E_o J_o
          refine qU [_] rfl ?_
          obtain ⟨W1, W2⟩ := J_o
          refine qE ?_
          refine qB rfl ?_
          refine qA (qK (v := .bool _) rfl) ?_
          refine qE ?_
          refine qP rfl (fun hk4 => ?_) (fun hk4 => ?_)
          ·skip
           have hkl : o < m.weights.length := ltI hk4
           obtain ⟨g, off, hA, hc⟩ := (R.w.ext (zL (zL (zL (zL E_u E_k) E_j) E_i) E_o)).at (by omega) hkl
           refine qO ?_
           refine qE ?_
           refine qT ?_
           refine qE ?_
           refine qB rfl ?_
           refine qA (wD rfl hA rfl rfl rfl (by omega) (by omega)) ?_
           refine wL (v := .int .i64 _) rfl rfl ((hc) 0 _ rfl) ?_
           refine qA (qD (v := .int .i64 _) rfl) ?_
           refine qE ?_
           refine qB rfl ?_
           refine qA (qC (v := .int .i64 _) rfl) ?_
           refine wJ (caps := []) (vs := [.int .i64 _, .int .i64 _, .int .i64 _]) rfl rfl rfl (within_ok _ _ _ h_o) ?_
           rintro _ h1 E1 rfl
           refine qA (qK (v := .bool _) rfl) ?_
           refine qP rfl (fun hz => ?_) (fun hz => ?_)
           ·skip
            have ew : checkWeightM m.weights[o] = 1 := by rw [checkWeightM, if_pos hz]
            refine qE ?_
            refine qB rfl ?_
            refine qA (qD (v := .int .i64 _) rfl) ?_
            refine qQ ?_
            refine qM (vs := [_]) Tryz.results29 ⟨qJ rfl rfl, trivial⟩ fun V => ?_
            refine ⟨(zL (zL (zL (zL (zL (zL E_u E_k) E_j) E_i) E_o) E1) (qR V)), intE ?_⟩
            have ef := zG hkl W2 (by rw [ew]; decide)
            rw [ew] at ef
            rw [C4, chk4, if_neg (by simpa using hw'), ef]
           ·skip
            refine qO ?_
            refine qB rfl ?_
            refine qA (qS rfl (by omega)) ?_
            refine qA (qC (v := .int .i64 _) rfl) ?_
            refine ⟨o + 1, ⟨rfl, trivial⟩, rfl, rfl, (zL E_o E1), fun h3 E3 => ⟨hkl, firstErr_go hkl W2 (by rw [checkWeightM, if_neg (by simpa using hz)])⟩, by first | omega | (dsimp only; omega), ?_⟩
            repeat (first | exact qW _ _ _ | refine wA (by decide) ?_ | refine qV rfl ?_ | refine wB rfl ?_)
          ·skip
           have hke : o = m.weights.length := by have := geI hk4; omega
           subst hke
           rw [List.take_length] at W2
           refine wS ?_
           refine qE ?_
           refine qB rfl ?_
           refine qA (qD (v := .int .i64 _) rfl) ?_
           refine qQ ?_
           refine qM (vs := [_]) Tryz.results29 ⟨qJ rfl rfl, trivial⟩ fun V => ?_
           exact ⟨(zL (zL (zL (zL (zL E_u E_k) E_j) E_i) E_o) (qR V)), intE (by rw [C4, chk4, if_neg (by simpa using hw'), W2])⟩
theorem checkHand_ok (m : MachP) (a : HandP) (AB AQ AL AW HA OA : Option Addr) (cB cQ cL cW cH cO : Nat) (h : AH) (RM : MachR h AB AQ AL AW m) (RH : HandR h HA OA a) (h0 : m.weights.length < 2 ^ 40) (h1 : a.buttons.length < 2 ^ 40) (h2 : a.on.length < 2 ^ 40) :
  FnT Tryz.prog 41 #[machV AB AQ AL AW cB cQ cL cW m, handV HA OA cH cO a] h (fun v _ => v = .int .i64 (checkHandM m a)) := by
 refine wH Tryz.func41 rfl Tryz.ntmps41 rfl ?_
 refine qE ?_
 refine qB rfl ?_
 refine op_box (v := .agg #[.int .i64 _, .int .i64 _, .int .i64 _, .int .i64 _, .int .i64 _, .slice _ _ _, .slice _ _ _, .slice _ _ _, .slice _ _ _]) (cs := [_, _, _, _, _, _, _, _, _]) rfl rfl fun b2 hb2 => ?_
 refine qN [_] rfl ?_
 refine op_box (v := .agg #[.slice _ _ _, .slice _ _ _]) (cs := [_, _]) rfl rfl fun b3 hb3 => ?_
 refine qN [_, _] rfl ?_
 refine qA (qD (v := .int .i64 _) rfl) ?_
 refine qE ?_
 refine qE ?_
 refine qB rfl ?_
 refine wO 0 (vs := [.int .i64 _, .int .i64 _, .int .i64 _, .int .i64 _, .int .i64 _, .slice _ _ _, .slice _ _ _, .slice _ _ _, .slice _ _ _]) rfl rfl rfl rfl rfl ?_
 refine wJ (caps := []) (vs := [.agg #[.int .i64 _, .int .i64 _, .int .i64 _, .int .i64 _, .int .i64 _, .slice _ _ _, .slice _ _ _, .slice _ _ _, .slice _ _ _]]) rfl rfl rfl (Check_ok m AB AQ AL AW cB cQ cL cW h (RM.ext (Ext.refl _)) h0) ?_
 rintro _ h3 E3 rfl
 refine qA (qD (v := .int .i64 _) rfl) ?_
 refine qE ?_
 refine qB rfl ?_
 refine qA (qC (v := .int .i64 _) rfl) ?_
 refine qA (qK (v := .bool _) rfl) ?_
 refine qP rfl (fun hc => ?_) (fun hc => ?_)
 ·skip
  have hc' : chkM m ≠ 0 := by simpa using hc
  refine qE ?_
  refine qB rfl ?_
  refine qA (qC (v := .int .i64 _) rfl) ?_
  refine qA (qD (v := .int .i64 _) rfl) ?_
  refine qQ ?_
  refine qM (vs := [_]) Tryz.results41 ⟨qJ rfl rfl, trivial⟩ fun V => ?_
  exact ⟨(zL E3 (qR V)), intE (by rw [checkHandM, if_pos hc'])⟩
 ·skip
  have hc' : chkM m = 0 := by simpa using hc
  have M := check_ok hc'
  have hbl := M.bl
  have hrg := M.regs
  refine qO ?_
  refine qE ?_
  refine qE ?_
  refine qB rfl ?_
  refine qA (qG rfl rfl rfl rfl 0 rfl) ?_
  refine qL 1 (v := .slice _ _ _) rfl rfl rfl rfl ?_
  refine qA (qG rfl rfl rfl rfl 5 rfl) ?_
  refine qL 0 (v := .slice _ _ _) rfl rfl rfl rfl ?_
  refine qA (wP rfl rfl) ?_
  refine wJ (caps := []) (vs := [.slice _ _ _, .int .i64 _]) rfl rfl rfl (checkSet_ok a.buttons m.buttons.length (by omega) HA cH h3 (RH.b.ext E3) h1) ?_
  rintro _ h4 E4 rfl
  refine qA (qD (v := .int .i64 _) rfl) ?_
  refine qE ?_
  refine qB rfl ?_
  refine qA (qC (v := .int .i64 _) rfl) ?_
  refine qA (qK (v := .bool _) rfl) ?_
  refine qP rfl (fun hs => ?_) (fun hs => ?_)
  ·skip
   have hs' : checkSetM a.buttons m.buttons.length ≠ 0 := by simpa using hs
   refine qE ?_
   refine qB rfl ?_
   refine qA (qC (v := .int .i64 _) rfl) ?_
   refine qA (qD (v := .int .i64 _) rfl) ?_
   refine qQ ?_
   refine qM (vs := [_]) Tryz.results41 ⟨qJ rfl rfl, trivial⟩ fun V => ?_
   exact ⟨(zL (zL E3 E4) (qR V)), intE (by rw [checkHandM, if_neg (by simp [hc']), if_pos hs'])⟩
  ·skip
   have hs' : checkSetM a.buttons m.buttons.length = 0 := by simpa using hs
   refine qO ?_
   refine qE ?_
   refine qB rfl ?_
   refine qA (qG rfl rfl rfl rfl 1 rfl) ?_
   refine qL 1 (v := .slice _ _ _) rfl rfl rfl rfl ?_
   refine qA (qG rfl rfl rfl rfl 2 rfl) ?_
   refine qL 0 (v := .int .i64 _) rfl rfl rfl rfl ?_
   refine wJ (caps := []) (vs := [.slice _ _ _, .int .i64 _]) rfl rfl rfl (checkSet_ok a.on m.regs (by omega) OA cO h4 (RH.o.ext (zL E3 E4)) h2) ?_
   rintro _ h5 E5 rfl
   refine qA (qD (v := .int .i64 _) rfl) ?_
   refine qQ ?_
   refine qM (vs := [_]) Tryz.results41 ⟨qJ rfl rfl, trivial⟩ fun V => ?_
   exact ⟨(zL (zL (zL E3 E4) E5) (qR V)), intE (by rw [checkHandM, if_neg (by simp [hc']), if_neg (by simp [hs'])])⟩
end Go.Proofs.YtmpahfdiebhdbaaGreatDoor
namespace Go.Proofs.YtmpahfdiebhdbaaGreatDoor
open Go Go.HL Go.Proofs Go.Wx Go.Rd
section
variable [Lvl]
set_option maxRecDepth 100000
theorem flat_intC : ∀ l : List Int, l.flatMap intC = tV l
 | [] => rfl
 | x :: l => by rw [List.flatMap_cons, flat_intC l]; rfl
theorem mk_zero (n : Nat) : ((List.range (n * 1)).map fun i => ([.int .i64 0] : List Value)[i % 1]!) = tV (List.replicate n 0) := by
 rw [Nat.mul_one]
 induction n with
 | zero => rfl
 | succ n ih => rw [List.range_succ, List.map_append, ih, List.replicate_succ']; simp [tV, Nat.mod_one]
theorem slr_own {h : AH} {L : Pv} {i b n c : Nat} {l : List Int} {e : TypeId} (V : Valid h L) (hi : L[i]? = some (some (b, .cells (tV l).toArray e (0, 0)))) (hn : l.length = n) : SlR (wl h L) 1 intC l (.slice (some ⟨b, 0, none⟩) n c) := by
 subst hn
 refine ⟨_, c, rfl, fun _ _ => rfl, ?_⟩
 rw [flat_intC]
 exact rdP V hi
structure PFit (m : MachP) : Prop where
 lv : 0 ≤ m.levers ∧ m.levers ≤ 6
 pl : m.pins.length ≤ 8
 pin : ∀ p ∈ m.pins, (0 ≤ p.rod ∧ p.rod < 6) ∧ (0 ≤ p.lever ∧ p.lever < m.levers) ∧ (0 ≤ p.lag ∧ p.lag ≤ 12)
theorem pfit_of {m : MachP} (M : MOK m) : PFit m := by
 have := M.levers
 have := M.rods
 have := M.travel
 exact ⟨by omega, M.pl, fun p hp => by have := M.pin p hp; omega⟩
theorem pins_take {t l0 : List Int} {ps : List PinP} {k : Nat} (hk : k < ps.length) : (ps.take (k + 1)).foldl (pinS t) l0 = pinS t ((ps.take k).foldl (pinS t) l0) ps[k] := by
 rw [List.take_add_one, List.getElem?_eq_getElem hk, Option.toList_some, List.foldl_append]
 rfl
theorem pins_len (t l0 : List Int) (ps : List PinP) : (ps.foldl (pinS t) l0).length = l0.length := (foldl_inc (pin_inc t) ps l0).1.symm
def Bd12 (l : List Int) : Prop := ∀ j, 0 ≤ l.getD j 0 ∧ l.getD j 0 ≤ 12
theorem lifted_ok (m : MachP) (F : PFit m) (t : List Int) (ht : t.length = 6) (hb : Bd12 t) (AB AQ AL AW : Option Addr) (cB cQ cL cW : Nat) (h : AH) (R : MachR h AB AQ AL AW m) :
  FnT Tryz.prog 42 #[machV AB AQ AL AW cB cQ cL cW m, turnsV t] h (fun v h' => SlR h' 1 intC (liftedM m t) v) := by
 have hlv := F.lv
 have hpl := F.pl
 have hT6 : (tV t).length = 6 := by rw [List.length_map, ht]
 have hle : m.levers = ((m.levers.toNat : Nat) : Int) := by omega
 refine wH Tryz.func42 rfl Tryz.ntmps42 rfl ?_
 refine qE ?_
 refine qB rfl ?_
 refine op_box (v := machV AB AQ AL AW cB cQ cL cW m) (cs := [_, _, _, _, _, _, _, _, _]) rfl rfl fun b2 hb2 => ?_
 refine qN [_] rfl ?_
 refine op_box (v := turnsV t) (cs := tV t) rfl rfl fun b3 hb3 => ?_
 refine qN [_, _] rfl ?_
 refine qA (qD (v := .slice _ _ _) rfl) ?_
 refine qE ?_
 refine qB rfl ?_
 refine qA (qG rfl rfl rfl rfl 1 rfl) ?_
 refine qL 0 (v := .int .i64 _) rfl rfl rfl rfl ?_
 refine op_makeSlice (len := m.levers.toNat) (cap := m.levers.toNat) (zc := [.int .i64 0]) rfl rfl hle hle rfl rfl rfl rfl rfl (by omega) (by omega) rfl fun bl hbl => ?_
 refine qN [_, _, _] rfl ?_
 refine qN [_, _, some (bl, .cells (tV (List.replicate m.levers.toNat 0)).toArray 3 (0, 0))] (by rw [← mk_zero]; rfl) ?_
 refine qA (qD (v := .slice _ _ _) rfl) ?_
 refine qE ?_
 refine qE ?_
 refine qB rfl ?_
 refine qA (qG rfl rfl rfl rfl 6 rfl) ?_
 refine qL 0 (v := .slice _ _ _) rfl rfl rfl rfl ?_
 refine qA (wP rfl rfl) ?_
 refine qA (qC (v := .int .i64 _) rfl) ?_
 refine qT ?_
 refine xp_loopL [7, 14, 15, 16, 17, 18, 19, 20, 21, 22, 23, 24, 25, 26, 27, 28, 29, 30, 31, 32, 33, 34, 35] 3 (α := Nat) (fun k => [(14, .int .i64 k)]) (fun k L => L.set 2 (some (bl, .cells (tV ((m.pins.take k).foldl (pinS t) (List.replicate m.levers.toNat 0))).toArray 3 (0, 0)))) (fun k h_k => k ≤ m.pins.length) (fun k => m.pins.length - k) (0) ⟨rfl, trivial⟩ (rfl) (Nat.zero_le _) ?_
 rintro k T1 h_k E_k J_k
 refine qU [_, _, _] rfl ?_
 refine qE ?_
 refine qB rfl ?_
 refine qA (qK (v := .bool _) rfl) ?_
 refine qE ?_
 refine qP rfl (fun hk => ?_) (fun hk => ?_)
 ·skip
  have hkl : k < m.pins.length := ltI hk
  obtain ⟨g, off, hA, hc⟩ := (R.q.ext E_k).at (by omega) hkl
  obtain ⟨⟨f0, f1⟩, ⟨t0, t1⟩, g0, g1⟩ := F.pin _ (List.getElem_mem hkl)
  obtain ⟨Z, hZ⟩ : ∃ Z, Z = (m.pins.take k).foldl (pinS t) (List.replicate m.levers.toNat 0) := ⟨_, rfl⟩
  have hZl : Z.length = m.levers.toNat := by rw [hZ, pins_len, List.length_replicate]
  have hZV : (tV Z).length = m.levers.toNat := by rw [List.length_map, hZl]
  have hNext := pins_take (t := t) (l0 := List.replicate m.levers.toNat 0) hkl
  have z1 := hb m.pins[k].rod.toNat
  rw [← hZ] at hNext ⊢
  refine qO ?_
  refine qE ?_
  refine qT ?_
  refine qE ?_
  refine qB rfl ?_
  refine qA (wD rfl hA rfl rfl rfl (by omega) (by omega)) ?_
  refine op_loadA rfl rfl rfl rfl (hc) ?_
  refine zE (cs := [_, _, _]) rfl rfl fun b7 hb7 => ?_
  refine qN [_, _, _, _] rfl ?_
  refine qY 3 (v := .agg #[.int .i64 _, .int .i64 _, .int .i64 _]) (vs := [_, _, _]) (c' := [_, _, _]) rfl rfl rfl rfl rfl rfl rfl rfl rfl ?_
  refine qN [_, _, _, _] rfl ?_
  refine xp_dw [] rfl rfl rfl ?_
  refine qI (i := 0) rfl (by decide +kernel) (qC (v := .slice _ _ _) rfl) ?_
  refine qI (i := 1) rfl (by decide +kernel) (qG rfl rfl rfl rfl 1 rfl) ?_
  refine wE (i := 2) rfl (by decide +kernel) ?_
  refine qL 3 (v := .int .i64 _) rfl rfl rfl rfl ?_
  refine qI (i := 3) rfl (by decide +kernel) (qC (v := .slice _ _ _) rfl) ?_
  refine qI (i := 4) rfl (by decide +kernel) (qG rfl rfl rfl rfl 1 rfl) ?_
  refine wE (i := 5) rfl (by decide +kernel) ?_
  refine qL 3 (v := .int .i64 _) rfl rfl rfl rfl ?_
  refine qI (i := 6) rfl (by decide +kernel) (pv_index (m := 1) rfl rfl rfl rfl (by omega) (by omega)) ?_
  refine wE (i := 7) rfl (by decide +kernel) ?_
  refine qL 2 (v := .int .i64 (Z.getD m.pins[k].lever.toNat 0)) rfl rfl rfl (tV_at (by omega) (by omega)) ?_
  refine qI (i := 8) rfl (by decide +kernel) (qG rfl rfl rfl rfl 0 rfl) ?_
  refine wE (i := 9) rfl (by decide +kernel) ?_
  refine qL 3 (v := .int .i64 _) rfl rfl rfl rfl ?_
  refine qI (i := 10) rfl (by decide +kernel) (pv_indexA (m := 1) rfl rfl rfl rfl (by omega) (by omega)) ?_
  refine wE (i := 11) rfl (by decide +kernel) ?_
  refine qL 1 (v := .int .i64 (t.getD m.pins[k].rod.toNat 0)) rfl rfl rfl (tV_at (by omega) (by omega)) ?_
  refine qI (i := 12) rfl (by decide +kernel) (qG rfl rfl rfl rfl 2 rfl) ?_
  refine wE (i := 13) rfl (by decide +kernel) ?_
  refine qL 3 (v := .int .i64 _) rfl rfl rfl rfl ?_
  refine qI (i := 14) rfl (by decide +kernel) (qS rfl (by omega)) ?_
  refine qI (i := 15) rfl (by decide +kernel) (pv_max rfl rfl) ?_
  refine qI (i := 16) rfl (by decide +kernel) (pv_index (m := 1) rfl rfl rfl rfl (by omega) (by omega)) ?_
  refine wV (i := 17) rfl (by decide +kernel) (by decide +kernel) ?_
  refine qY 2 (m := 1) (v := .int .i64 _) (vs := [.int .i64 (max (Z.getD m.pins[k].lever.toNat 0) (t.getD m.pins[k].rod.toNat 0 - m.pins[k].lag))]) (c' := tV ((m.pins.take (k + 1)).foldl (pinS t) (List.replicate m.levers.toNat 0))) rfl rfl rfl rfl rfl rfl (Nat.ble_eq_true_of_le (by rw [hZV]; omega)) rfl (by rw [hNext]; exact wrL_rise (by omega) rfl) ?_
  refine wN [_, _, _, _] rfl ?_
  refine zI rfl ?_
  refine qB rfl ?_
  refine qA (qS rfl (by omega)) ?_
  refine qA (qC (v := .int .i64 _) rfl) ?_
  refine ⟨k + 1, ⟨rfl, trivial⟩, rfl, rfl, E_k, fun h3 E3 => hkl, by first | omega | (dsimp only; omega), ?_⟩
  repeat (first | exact qW _ _ _ | refine wA (by decide) ?_ | refine qV rfl ?_ | refine wB rfl ?_)
 ·skip
  have hke : k = m.pins.length := by have := geI hk; omega
  subst hke
  rw [List.take_length]
  refine wS ?_
  refine qE ?_
  refine qB rfl ?_
  refine qA (qC (v := .slice _ _ _) rfl) ?_
  refine qA (qD (v := .slice _ _ _) rfl) ?_
  refine qQ ?_
  refine qM (vs := [_]) Tryz.results42 ⟨qJ rfl rfl, trivial⟩ fun V => ?_
  exact ⟨(zL E_k (qR V)), slr_own (l := liftedM m t) V (i := 2) rfl (lifted_len m t)⟩
theorem with_ok (m : Nat) (k' : Int) (k : Nat) (ek : k' = k) (hm : m < 2 ^ 60) (hk : k < 60) (h : AH) : FnT Tryz.prog 65 #[.int .i64 m, .int .i64 k'] h (fun v _ => v = .int .i64 (withM m k : Nat)) := by
 have h2 : 2 ^ k < 2 ^ 60 := Nat.pow_lt_pow_right (by omega) hk
 refine wH Tryz.func65 rfl Tryz.ntmps65 rfl ?_
 refine qE ?_
 refine qB rfl ?_
 refine qA (qD (v := .int .i64 _) rfl) ?_
 refine qE ?_
 refine qB rfl ?_
 refine qA (qC (v := .int .i64 _) rfl) ?_
 refine qA (qC (v := .int .i64 _) rfl) ?_
 refine qA (pv_shl 1 k (.inl rfl) rfl rfl rfl ek (by omega) (by omega)) ?_
 refine qA (pv_val (i64_or m (1 * 2 ^ k) (by omega) (by omega)) rfl) ?_
 refine qA (qD (v := .int .i64 _) rfl) ?_
 refine qQ ?_
 refine qM (vs := [_]) Tryz.results65 ⟨qJ rfl rfl, trivial⟩ fun V => ?_
 refine ⟨(qR V), ?_⟩
 show Value.int _ _ = _
 rw [withM, Nat.one_mul]
theorem has_ok (m : Nat) (k' : Int) (k : Nat) (ek : k' = k) (hm : m < 2 ^ 60) (hk : k < 60) (h : AH) : FnT Tryz.prog 66 #[.int .i64 m, .int .i64 k'] h (fun v _ => v = .bool (m.testBit k)) := by
 have h3 : m / 2 ^ k < 2 ^ 60 := Nat.lt_of_le_of_lt (Nat.div_le_self _ _) hm
 refine wH Tryz.func66 rfl Tryz.ntmps66 rfl ?_
 refine qE ?_
 refine qB rfl ?_
 refine qA (qD (v := .bool _) rfl) ?_
 refine qE ?_
 refine qB rfl ?_
 refine qA (qC (v := .int .i64 _) rfl) ?_
 refine qA (qC (v := .int .i64 _) rfl) ?_
 refine qA (pv_shr m k (.inl rfl) rfl rfl rfl ek (by omega)) ?_
 refine qA (pv_val (i64_and (m / 2 ^ k) 1 (by omega) (by omega)) rfl) ?_
 refine qA (qK (v := .bool _) rfl) ?_
 refine qA (qD (v := .bool _) rfl) ?_
 refine qQ ?_
 refine qM (vs := [_]) Tryz.results66 ⟨qJ rfl rfl, trivial⟩ fun V => ?_
 refine ⟨(qR V), boolE ?_⟩
 rw [testBit_div]
 cases m.testBit k <;> simp
theorem list_ok (m : Nat) (hm : m < 2 ^ 60) (h : AH) : FnT Tryz.prog 45 #[.int .i64 m] h (fun v h' => SlR h' 1 intC (listN m 6) v) := by
 refine wH Tryz.func45 rfl Tryz.ntmps45 rfl ?_
 refine qE ?_
 refine qB rfl ?_
 refine qA (qD (v := .slice _ _ _) rfl) ?_
 refine qE ?_
 refine qB rfl ?_
 refine qA (qD (v := .slice _ _ _) rfl) ?_
 refine qE ?_
 refine qE ?_
 refine qB rfl ?_
 refine qA (qC (v := .int .i64 _) rfl) ?_
 refine qT ?_
 refine goes_more ?_
 refine qU [_] rfl ?_
 refine zH [3, 4, 5, 6, 7, 8, 9, 10, 11, 12, 13, 14, 15] 1 (α := Nat × Acc) (fun ⟨k, a⟩ => [(5, .int .i64 k), (3, .slice a.A a.n a.c)]) (fun ⟨k, a⟩ => [a.p]) (fun ⟨k, a⟩ h_k => k ≤ 6 ∧ AccR 3 1 ((listN m k).flatMap intC) a) (fun ⟨k, a⟩ => 6 - k) ((0, acc0)) ⟨rfl, rfl, trivial⟩ (rfl) (⟨by omega, accR0⟩) ?_
 rintro ⟨k, a⟩ T1 h_k E_k J_k
 refine qU [_] rfl ?_
 refine qE ?_
 refine qB rfl ?_
 refine qA (qK (v := .bool _) rfl) ?_
 refine qE ?_
 refine qP rfl (fun ht => ?_) (fun ht => ?_)
 ·skip
  have hlt : k < 6 := ltI (n := 6) ht
  refine qO ?_
  refine qE ?_
  refine qT ?_
  refine qE ?_
  refine qB rfl ?_
  refine qA (qC (v := .int .i64 _) rfl) ?_
  refine qA (qD (v := .int .i64 _) rfl) ?_
  refine qE ?_
  refine qB rfl ?_
  refine qA (qC (v := .int .i64 _) rfl) ?_
  refine qA (qC (v := .int .i64 _) rfl) ?_
  refine wJ (caps := []) (vs := [.int .i64 _, .int .i64 _]) rfl rfl rfl (has_ok m _ k rfl hm (by omega) h_k) ?_
  rintro _ h1 E1 rfl
  refine qP rfl (fun hb => ?_) (fun hb => ?_)
  ·skip
   refine qB rfl ?_
   refine qA (qC (v := .slice _ _ _) rfl) ?_
   refine qA (qC (v := .int .i64 _) rfl) ?_
   refine qX (zc := [_]) (vs := [(0, .int .i64 _)]) (cs := [_]) rfl rfl rfl rfl rfl rfl rfl fun b13 hb13 => ?_
   refine qN [_, _] rfl ?_
   refine zA 0 J_k.2 rfl rfl rfl (fun V => rdP V (i := 1) rfl) rfl rfl rfl rfl rfl rfl rfl rfl rfl (by omega) rfl (by rw [wU (m := 1) (fun _ _ => rfl)]; have := listN_len m k; simp; omega) fun a2 h2a E2a ha2 => ?_
   refine qN [_, _] rfl ?_
   refine qA (qD (v := .slice _ _ _) rfl) ?_
   refine qB rfl ?_
   refine qA (qS rfl (by omega)) ?_
   refine qA (qC (v := .int .i64 _) rfl) ?_
   refine ⟨(k + 1, a2), ⟨rfl, rfl, trivial⟩, rfl, rfl, (zL (zL E_k E1) E2a), fun h3 E3 => ⟨hlt, by rw [listN_succ, if_pos hb, List.flatMap_append]; exact ha2⟩, by first | omega | (dsimp only; omega), ?_⟩
   repeat (first | exact qW _ _ _ | refine wA (by decide) ?_ | refine qV rfl ?_ | refine wB rfl ?_)
  ·skip
   refine qO ?_
   refine qB rfl ?_
   refine qA (qS rfl (by omega)) ?_
   refine qA (qC (v := .int .i64 _) rfl) ?_
   refine ⟨(k + 1, a), ⟨rfl, rfl, trivial⟩, rfl, rfl, (zL E_k E1), fun h3 E3 => ⟨hlt, by rw [listN_succ, if_neg (by simp [hb])]; exact J_k.2⟩, by first | omega | (dsimp only; omega), ?_⟩
   repeat (first | exact qW _ _ _ | refine wA (by decide) ?_ | refine qV rfl ?_ | refine wB rfl ?_)
 ·skip
  have hk : k = 6 := by have := geI (n := 6) ht; omega
  subst hk
  refine wS ?_
  refine qE ?_
  refine qB rfl ?_
  refine qA (qC (v := .slice _ _ _) rfl) ?_
  refine qA (qD (v := .slice _ _ _) rfl) ?_
  refine qQ ?_
  refine qM (vs := [_]) Tryz.results45 ⟨qJ rfl rfl, trivial⟩ fun V => ?_
  exact ⟨(zL E_k (qR V)), AccP.row (i := 0) J_k.2 (by omega) (fun _ _ => rfl) V rfl⟩
theorem setM_take {l : List Int} {k : Nat} (hk : k < l.length) : setM (l.take (k + 1)) = withM (setM (l.take k)) l[k].toNat := by
 rw [List.take_add_one, List.getElem?_eq_getElem hk, Option.toList_some, setM_snoc]
theorem set_ok (l : List Int) (hl : ∀ x ∈ l, 0 ≤ x ∧ x < 60) (A : Option Addr) (c : Nat) (h : AH) (R : Row h 1 intC A l) (hn : l.length < 2 ^ 40) : FnT Tryz.prog 85 #[.slice A l.length c] h (fun v _ => v = .int .i64 (setM l : Nat)) := by
 have hs : ∀ k, setM (l.take k) < 2 ^ 60 := fun k => setM_lt (n := 60) fun x hx => by have := hl x (take_mem hx); omega
 refine wH Tryz.func85 rfl Tryz.ntmps85 rfl ?_
 refine qE ?_
 refine qB rfl ?_
 refine qA (qD (v := .int .i64 _) rfl) ?_
 refine qE ?_
 refine qB rfl ?_
 refine qA (qD (v := .int .i64 _) rfl) ?_
 refine qE ?_
 refine qE ?_
 refine qB rfl ?_
 refine qA (qC (v := .slice _ _ _) rfl) ?_
 refine qA (wP rfl rfl) ?_
 refine qA (qC (v := .int .i64 _) rfl) ?_
 refine qT ?_
 refine zH [3, 5, 8, 9, 10, 11, 12, 13, 14, 15] 0 (α := Nat) (fun k => [(3, .int .i64 (setM (l.take k) : Nat)), (8, .int .i64 k)]) (fun k => _) (fun k h_k => k ≤ l.length) (fun k => l.length - k) (0) ⟨rfl, rfl, trivial⟩ (rfl) (Nat.zero_le _) ?_
 rintro k T1 h_k E_k J_k
 refine qU [] rfl ?_
 refine qE ?_
 refine qB rfl ?_
 refine qA (qK (v := .bool _) rfl) ?_
 refine qE ?_
 refine qP rfl (fun hk => ?_) (fun hk => ?_)
 ·skip
  have hkl : k < l.length := ltI hk
  obtain ⟨g, off, hA, hc⟩ := (R.ext E_k).at (by omega) hkl
  have h1 := hl _ (List.getElem_mem hkl)
  refine qO ?_
  refine qE ?_
  refine qT ?_
  refine qE ?_
  refine qB rfl ?_
  refine qA (wD rfl hA rfl rfl rfl (by omega) (by omega)) ?_
  refine wL (v := .int .i64 _) rfl rfl ((hc) 0 _ rfl) ?_
  refine qA (qD (v := .int .i64 _) rfl) ?_
  refine qB rfl ?_
  refine qA (qC (v := .int .i64 _) rfl) ?_
  refine qA (qC (v := .int .i64 _) rfl) ?_
  refine wJ (caps := []) (vs := [.int .i64 _, .int .i64 _]) rfl rfl rfl (with_ok (setM (l.take k)) l[k] l[k].toNat (by omega) (hs k) (by omega) h_k) ?_
  rintro _ h2 E2 rfl
  refine qA (qD (v := .int .i64 _) rfl) ?_
  refine qB rfl ?_
  refine qA (qS rfl (by omega)) ?_
  refine qA (qC (v := .int .i64 _) rfl) ?_
  refine ⟨k + 1, ⟨(by rw [setM_take hkl]; rfl), rfl, trivial⟩, rfl, rfl, (zL E_k E2), fun h3 E3 => hkl, by first | omega | (dsimp only; omega), ?_⟩
  repeat (first | exact qW _ _ _ | refine wA (by decide) ?_ | refine qV rfl ?_ | refine wB rfl ?_)
 ·skip
  have hke : k = l.length := by have := geI hk; omega
  subst hke
  rw [List.take_length]
  refine wS ?_
  refine qE ?_
  refine qB rfl ?_
  refine qA (qC (v := .int .i64 _) rfl) ?_
  refine qA (qD (v := .int .i64 _) rfl) ?_
  refine qQ ?_
  refine qM (vs := [_]) Tryz.results85 ⟨qJ rfl rfl, trivial⟩ fun V => ?_
  exact ⟨(zL E_k (qR V)), rfl⟩
def SndV (h : AH) (m : MachP) (y : Value) : Prop :=
 ∃ b AB AQ AL AW cB cQ cL cW, y = .func (.func 64) #[] #[.pointer (some ⟨b, 0, none⟩)] ∧ Cells h b 0 [.int .i64 m.rods, .int .i64 m.levers, .int .i64 m.regs, .int .i64 m.travel, .int .i64 m.opn, .slice AB m.buttons.length cB, .slice AQ m.pins.length cQ, .slice AL m.links.length cL, .slice AW m.weights.length cW] ∧ MachR h AB AQ AL AW m
theorem SndV.ext {h h' : AH} {m : MachP} {y : Value} (r : SndV h m y) (e : Ext h h') : SndV h' m y := by
 obtain ⟨b, AB, AQ, AL, AW, cB, cQ, cL, cW, hy, c, R⟩ := r
 exact ⟨b, AB, AQ, AL, AW, cB, cQ, cL, cW, hy, c.ext e, R.ext e⟩
theorem sounding_ok (m : MachP) (AB AQ AL AW : Option Addr) (cB cQ cL cW : Nat) (h : AH) (R : MachR h AB AQ AL AW m) :
  FnT Tryz.prog 44 #[machV AB AQ AL AW cB cQ cL cW m] h (fun v h' => SndV h' m v) := by
 refine wH Tryz.func44 rfl Tryz.ntmps44 rfl ?_
 refine qE ?_
 refine qB rfl ?_
 refine op_box (v := .agg #[.int .i64 _, .int .i64 _, .int .i64 _, .int .i64 _, .int .i64 _, .slice _ _ _, .slice _ _ _, .slice _ _ _, .slice _ _ _]) (cs := [_, _, _, _, _, _, _, _, _]) rfl rfl fun b1 hb1 => ?_
 refine qN [_] rfl ?_
 refine qA (qD (v := _) rfl) ?_
 refine qE ?_
 refine qB rfl ?_
 refine qA (pv_makeFunc (vs := []) (ws := [_]) rfl rfl) ?_
 refine qA (qD (v := _) rfl) ?_
 refine qQ ?_
 refine qM (vs := [_]) Tryz.results44 ⟨qJ rfl rfl, trivial⟩ fun V => ?_
 exact ⟨(qR V), b1, AB, AQ, AL, AW, cB, cQ, cL, cW, rfl, cellsB (zK V (i := 0) rfl), R.ext (qR V)⟩
end
end Go.Proofs.YtmpahfdiebhdbaaGreatDoor
namespace Go.Proofs.YtmpahfdiebhdbaaGreatDoor
open Go Go.HL Go.Proofs Go.Wx Go.Rd
section
variable [Lvl]
set_option maxRecDepth 100000
theorem maskOf_small (p : Nat → Bool) {k : Nat} (hk : k ≤ 6) : maskOf p k < 2 ^ 60 := by
 have := maskOf_lt p k
 have : 2 ^ k ≤ 2 ^ 6 := Nat.pow_le_pow_right (by omega) hk
 omega
theorem bd12_of {D : Int} {t : List Int} (b : Bd D t) (h : D ≤ 12) : Bd12 t := fun j => by have := b j; omega
theorem snd_ok (hph : Lvl.ph = true) (m : MachP) (a : HandP) (F : Fit m a) (PF : PFit m) (depth : Int) (hd0 : 0 ≤ depth) (hd1 : depth ≤ 12) (b : Nat) (AB AQ AL AW HA OA : Option Addr) (cB cQ cL cW cH cO : Nat) (h : AH)
  (CM : Cells h b 0 [.int .i64 m.rods, .int .i64 m.levers, .int .i64 m.regs, .int .i64 m.travel, .int .i64 m.opn, .slice AB m.buttons.length cB, .slice AQ m.pins.length cQ, .slice AL m.links.length cL, .slice AW m.weights.length cW]) (RM : MachR h AB AQ AL AW m) (RH : HandR h HA OA a) :
  FnT Tryz.prog 64 #[handV HA OA cH cO a, .int .i64 depth, .pointer (some ⟨b, 0, none⟩)] h (fun v _ => v = .int .i64 (soundsM m a depth : Nat)) := by
 have hlv := PF.lv
 refine wH Tryz.func64 rfl Tryz.ntmps64 rfl ?_
 refine qE ?_
 refine qB rfl ?_
 refine op_box (v := .agg #[.slice _ _ _, .slice _ _ _]) (cs := [_, _]) rfl rfl fun b3 hb3 => ?_
 refine qN [_] rfl ?_
 refine qA (qD (v := .int .i64 _) rfl) ?_
 refine qE ?_
 refine qB rfl ?_
 refine qA (qD (v := .int .i64 _) rfl) ?_
 refine qE ?_
 refine qE ?_
 refine xp_dw [] rfl rfl rfl ?_
 refine wE (i := 0) rfl (by decide +kernel) ?_
 refine op_loadA rfl rfl rfl rfl (CM.ext (Ext.refl _)) ?_
 refine wE (i := 1) rfl (by decide +kernel) ?_
 refine op_loadA rfl rfl rfl rfl (CM.ext (Ext.refl _)) ?_
 refine wE (i := 2) rfl (by decide +kernel) ?_
 refine wO 0 (vs := [.slice _ _ _, .slice _ _ _]) rfl rfl rfl rfl rfl ?_
 refine qI (i := 3) rfl (by decide +kernel) (qC (v := .int .i64 _) rfl) ?_
 refine qI (i := 7) rfl (by decide +kernel) (qC (v := .int .i64 _) rfl) ?_
 refine dw_eff (i := 4) rfl (by decide +kernel) ?_
 refine wJ (caps := []) (vs := [.agg #[.int .i64 _, .int .i64 _, .int .i64 _, .int .i64 _, .int .i64 _, .slice _ _ _, .slice _ _ _, .slice _ _ _, .slice _ _ _], .agg #[.slice _ _ _, .slice _ _ _], .int .i64 _]) rfl rfl rfl (turned_ok hph F hd0 hd1 h (RH.ext (Ext.refl _)) (RM.ext (Ext.refl _)) (cB := cB) (cQ := cQ) (cL := cL) (cW := cW) (cH := cH) (cO := cO)) ?_
 rintro _ h1 E1 rfl
 refine ⟨ext_wlm E1 _, ?_⟩
 refine wV (i := 5) rfl (by decide +kernel) (by decide +kernel) ?_
 refine wJ (caps := []) (vs := [machV AB AQ AL AW cB cQ cL cW m, turnsV (turnedM m a depth)]) rfl rfl rfl (lifted_ok m PF (turnedM m a depth) (turned_len m a depth) (bd12_of (turned_bd F hd0) hd1) AB AQ AL AW cB cQ cL cW h1 (RM.ext E1)) ?_
 rintro _ h2 E2 ⟨Al, cl, rfl, Rl⟩
 refine qI (i := 6) rfl (by decide +kernel) (wP rfl rfl) ?_
 refine zI rfl ?_
 refine qT ?_
 obtain ⟨l, hl⟩ : ∃ l, l = liftedM m (turnedM m a depth) := ⟨_, rfl⟩
 have hll : l.length = m.levers.toNat := by rw [hl, lifted_len]
 rw [← hl] at Rl ⊢
 refine zH [6, 7, 8, 16, 17, 18, 19, 20, 21, 22, 23, 24, 25, 26, 27, 28] 1 (α := Nat) (fun k => [(6, .int .i64 (maskOf (fun v => decide (m.opn ≤ l.getD v 0)) k : Nat)), (16, .int .i64 k)]) (fun k => _) (fun k h_k => k ≤ l.length) (fun k => l.length - k) (0) ⟨rfl, rfl, trivial⟩ (rfl) (Nat.zero_le _) ?_
 rintro k T1 h_k E_k J_k
 refine qU [_] rfl ?_
 refine qE ?_
 refine qB rfl ?_
 refine qA (qK (v := .bool _) rfl) ?_
 refine qE ?_
 refine qP rfl (fun hk => ?_) (fun hk => ?_)
 ·skip
  have hkl : k < l.length := ltI hk
  obtain ⟨g, off, hA, hc⟩ := (Rl.ext E_k).at (by omega) hkl
  refine qO ?_
  refine qE ?_
  refine qT ?_
  refine qE ?_
  refine qB rfl ?_
  refine qA (qC (v := .int .i64 _) rfl) ?_
  refine qA (wD rfl hA rfl rfl rfl (by omega) (by omega)) ?_
  refine wL (v := .int .i64 _) rfl rfl ((hc) 0 _ rfl) ?_
  refine qA (qD (v := .int .i64 _) rfl) ?_
  refine qA (qD (v := .int .i64 _) rfl) ?_
  refine qE ?_
  refine qB rfl ?_
  refine qA (qC (v := .int .i64 _) rfl) ?_
  refine qA (qG rfl rfl rfl rfl _ rfl) ?_
  refine wL (v := .int .i64 m.opn) rfl rfl ((CM.ext (zL (zL E1 E2) E_k)) 4 _ rfl) ?_
  refine qA (qK (v := .bool _) rfl) ?_
  refine qP rfl (fun hb => ?_) (fun hb => ?_)
  ·skip
   refine qB rfl ?_
   refine qA (qC (v := .int .i64 _) rfl) ?_
   refine qA (qC (v := .int .i64 _) rfl) ?_
   refine wJ (caps := []) (vs := [.int .i64 _, .int .i64 _]) rfl rfl rfl (with_ok _ k k rfl (maskOf_small _ (by omega)) (by omega) h_k) ?_
   rintro _ h3 E3 rfl
   refine qA (qD (v := .int .i64 _) rfl) ?_
   refine qB rfl ?_
   refine qA (qS rfl (by omega)) ?_
   refine qA (qC (v := .int .i64 _) rfl) ?_
   refine ⟨k + 1, ⟨(by rw [maskOf, if_pos (by rw [getD_get hkl]; simpa using hb)]; rfl), rfl, trivial⟩, rfl, rfl, (zL E_k E3), fun h3 E3 => hkl, by first | omega | (dsimp only; omega), ?_⟩
   repeat (first | exact qW _ _ _ | refine wA (by decide) ?_ | refine qV rfl ?_ | refine wB rfl ?_)
  ·skip
   refine qO ?_
   refine qB rfl ?_
   refine qA (qS rfl (by omega)) ?_
   refine qA (qC (v := .int .i64 _) rfl) ?_
   refine ⟨k + 1, ⟨(by rw [maskOf, if_neg (by rw [getD_get hkl]; simpa using hb)]; rfl), rfl, trivial⟩, rfl, rfl, E_k, fun h3 E3 => hkl, by first | omega | (dsimp only; omega), ?_⟩
   repeat (first | exact qW _ _ _ | refine wA (by decide) ?_ | refine qV rfl ?_ | refine wB rfl ?_)
 ·skip
  have hke : k = l.length := by have := geI hk; omega
  subst hke
  refine wS ?_
  refine qE ?_
  refine qB rfl ?_
  refine qA (qC (v := .int .i64 _) rfl) ?_
  refine qA (qD (v := .int .i64 _) rfl) ?_
  refine qQ ?_
  refine qM (vs := [_]) Tryz.results64 ⟨qJ rfl rfl, trivial⟩ fun V => ?_
  refine ⟨(zL (zL (zL E1 E2) E_k) (qR V)), intE ?_⟩
  rw [soundsM, ← hl, hll]
def liftsL (m : MachP) (a : HandP) : List Int := if checkHandM m a = 0 then liftedM m (turnedM m a m.travel) else []
theorem Lifts_ok (hph : Lvl.ph = true) (m : MachP) (a : HandP) (AB AQ AL AW HA OA : Option Addr) (cB cQ cL cW cH cO : Nat) (h : AH) (RM : MachR h AB AQ AL AW m) (RH : HandR h HA OA a) (h0 : m.weights.length < 2 ^ 40) (h1 : a.buttons.length < 2 ^ 40) (h2 : a.on.length < 2 ^ 40) :
  FnT Tryz.prog 15 #[machV AB AQ AL AW cB cQ cL cW m, handV HA OA cH cO a] h (fun v h' => ∃ L, v = .tuple #[L, .int .i64 (checkHandM m a)] ∧ SlR h' 1 intC (liftsL m a) L) := by
 refine wH Tryz.func15 rfl Tryz.ntmps15 rfl ?_
 refine qE ?_
 refine qB rfl ?_
 refine op_box (v := .agg #[.int .i64 _, .int .i64 _, .int .i64 _, .int .i64 _, .int .i64 _, .slice _ _ _, .slice _ _ _, .slice _ _ _, .slice _ _ _]) (cs := [_, _, _, _, _, _, _, _, _]) rfl rfl fun b2 hb2 => ?_
 refine qN [_] rfl ?_
 refine op_box (v := .agg #[.slice _ _ _, .slice _ _ _]) (cs := [_, _]) rfl rfl fun b3 hb3 => ?_
 refine qN [_, _] rfl ?_
 refine qA (qD (v := .slice _ _ _) rfl) ?_
 refine qA (qD (v := .int .i64 _) rfl) ?_
 refine qE ?_
 refine qE ?_
 refine qB rfl ?_
 refine wO 0 (vs := [.int .i64 _, .int .i64 _, .int .i64 _, .int .i64 _, .int .i64 _, .slice _ _ _, .slice _ _ _, .slice _ _ _, .slice _ _ _]) rfl rfl rfl rfl rfl ?_
 refine wO 1 (vs := [.slice _ _ _, .slice _ _ _]) rfl rfl rfl rfl rfl ?_
 refine wJ (caps := []) (vs := [.agg #[.int .i64 _, .int .i64 _, .int .i64 _, .int .i64 _, .int .i64 _, .slice _ _ _, .slice _ _ _, .slice _ _ _, .slice _ _ _], .agg #[.slice _ _ _, .slice _ _ _]]) rfl rfl rfl (checkHand_ok m a AB AQ AL AW HA OA cB cQ cL cW cH cO h (RM.ext (Ext.refl _)) (RH.ext (Ext.refl _)) h0 h1 h2) ?_
 rintro _ h3 E3 rfl
 refine qA (qD (v := .int .i64 _) rfl) ?_
 refine qE ?_
 refine qB rfl ?_
 refine qA (qC (v := .int .i64 _) rfl) ?_
 refine qA (qK (v := .bool _) rfl) ?_
 refine qP rfl (fun hc => ?_) (fun hc => ?_)
 ·skip
  have hc' : checkHandM m a ≠ 0 := by simpa using hc
  refine qE ?_
  refine qB rfl ?_
  refine qA (qC (v := .int .i64 _) rfl) ?_
  refine qA (qD (v := .slice _ _ _) rfl) ?_
  refine qA (qD (v := .int .i64 _) rfl) ?_
  refine qQ ?_
  refine qM (vs := [_, _]) Tryz.results15 ⟨qJ rfl rfl, qJ rfl rfl, trivial⟩ fun V => ?_
  exact ⟨(zL E3 (qR V)), _, rfl, by rw [liftsL, if_neg hc']; exact ⟨none, 0, rfl, fun _ _ => rfl, Rd.nil _ _⟩⟩
 ·skip
  have hc' : checkHandM m a = 0 := by simpa using hc
  obtain ⟨M, H⟩ := checkHand_ok0 hc'
  have F := fit_of M H
  have tr := M.travel
  refine qO ?_
  refine qE ?_
  refine xp_dw [] rfl rfl rfl ?_
  refine wE (i := 0) rfl (by decide +kernel) ?_
  refine wO 0 (vs := [.int .i64 _, .int .i64 _, .int .i64 _, .int .i64 _, .int .i64 _, .slice _ _ _, .slice _ _ _, .slice _ _ _, .slice _ _ _]) rfl rfl rfl rfl rfl ?_
  refine wE (i := 1) rfl (by decide +kernel) ?_
  refine wO 0 (vs := [.int .i64 _, .int .i64 _, .int .i64 _, .int .i64 _, .int .i64 _, .slice _ _ _, .slice _ _ _, .slice _ _ _, .slice _ _ _]) rfl rfl rfl rfl rfl ?_
  refine wE (i := 2) rfl (by decide +kernel) ?_
  refine wO 1 (vs := [.slice _ _ _, .slice _ _ _]) rfl rfl rfl rfl rfl ?_
  refine qI (i := 3) rfl (by decide +kernel) (qG rfl rfl rfl rfl 3 rfl) ?_
  refine wE (i := 4) rfl (by decide +kernel) ?_
  refine qL 0 (v := .int .i64 _) rfl rfl rfl rfl ?_
  refine dw_eff (i := 5) rfl (by decide +kernel) ?_
  refine wJ (caps := []) (vs := [.agg #[.int .i64 _, .int .i64 _, .int .i64 _, .int .i64 _, .int .i64 _, .slice _ _ _, .slice _ _ _, .slice _ _ _, .slice _ _ _], .agg #[.slice _ _ _, .slice _ _ _], .int .i64 _]) rfl rfl rfl (turned_ok hph F (by omega) tr.2 h3 (RH.ext E3) (RM.ext E3)) ?_
  rintro _ h4 E4 rfl
  refine ⟨ext_wlm E4 _, ?_⟩
  refine wV (i := 6) rfl (by decide +kernel) (by decide +kernel) ?_
  refine wJ (caps := []) (vs := [machV AB AQ AL AW cB cQ cL cW m, turnsV (turnedM m a m.travel)]) rfl rfl rfl (lifted_ok m (pfit_of M) (turnedM m a m.travel) (turned_len m a m.travel) (bd12_of (turned_bd F (by omega)) tr.2) AB AQ AL AW cB cQ cL cW h4 (RM.ext (zL E3 E4))) ?_
  rintro _ h5 E5 ⟨Al, cl, rfl, Rl⟩
  refine qI (i := 7) rfl (by decide +kernel) (qD (v := .slice _ _ _) rfl) ?_
  refine qI (i := 8) rfl (by decide +kernel) (qD (v := .int .i64 _) rfl) ?_
  refine zI rfl ?_
  refine qQ ?_
  refine qM (vs := [_, _]) Tryz.results15 ⟨qJ rfl rfl, qJ rfl rfl, trivial⟩ fun V => ?_
  refine ⟨(zL (zL (zL E3 E4) E5) (qR V)), .slice Al (liftedM m (turnedM m a m.travel)).length cl, by rw [hc']; rfl, ?_⟩
  rw [liftsL, if_pos hc']
  exact ⟨Al, cl, rfl, Rl.ext (qR V)⟩
theorem sounds_small {m : MachP} (M : PFit m) (a : HandP) (depth : Int) : soundsM m a depth < 2 ^ 60 := by
 have := M.lv
 exact maskOf_small _ (by omega)
end
end Go.Proofs.YtmpahfdiebhdbaaGreatDoor
namespace Go.Rd
open Go Go.HL Go.Wx
variable [Lvl]
def SlX {α : Type} (h : AH) (m : Nat) (T : AH → α → List Value → Prop) (l : List α) (v : Value) : Prop :=
 ∃ (cs : List (List Value)) (A : Option Addr) (cap : Nat), v = .slice A l.length cap ∧ cs.length = l.length ∧ Row h m id A cs ∧ ∀ (i : Nat) (x : α) (c : List Value), l[i]? = some x → cs[i]? = some c → T h x c
def Mono {α : Type} (T : AH → α → List Value → Prop) : Prop := ∀ h h' x c, Ext h h' → T h x c → T h' x c
theorem SlX.ext {α : Type} {h h' : AH} {m : Nat} {T : AH → α → List Value → Prop} {l : List α} {v : Value} (r : SlX h m T l v) (mo : Mono T) (e : Ext h h') : SlX h' m T l v := by
 obtain ⟨cs, A, cap, hv, hl, R, hT⟩ := r
 exact ⟨cs, A, cap, hv, hl, R.ext e, fun i x c h1 h2 => mo _ _ _ _ e (hT i x c h1 h2)⟩
theorem SlX.nil {α : Type} (h : AH) (m : Nat) (T : AH → α → List Value → Prop) (A : Option Addr) (c : Nat) : SlX h m T ([] : List α) (.slice A 0 c) :=
 ⟨[], A, c, rfl, rfl, ⟨fun _ hx => absurd hx (List.not_mem_nil), Rd.nil _ _⟩, fun i x c h1 _ => by simp at h1⟩
def Els {α : Type} (h : AH) (T : AH → α → List Value → Prop) (l : List α) (cs : List (List Value)) : Prop := cs.length = l.length ∧ ∀ (i : Nat) (x : α) (c : List Value), l[i]? = some x → cs[i]? = some c → T h x c
theorem Els.nil {α : Type} (h : AH) (T : AH → α → List Value → Prop) : Els h T ([] : List α) [] := ⟨rfl, fun i x c h1 _ => by simp at h1⟩
theorem Els.ext {α : Type} {h h' : AH} {T : AH → α → List Value → Prop} {l : List α} {cs : List (List Value)} (r : Els h T l cs) (mo : Mono T) (e : Ext h h') : Els h' T l cs := ⟨r.1, fun i x c h1 h2 => mo _ _ _ _ e (r.2 i x c h1 h2)⟩
theorem Els.snoc {α : Type} {h : AH} {T : AH → α → List Value → Prop} {l : List α} {cs : List (List Value)} {x : α} {c : List Value} (r : Els h T l cs) (t : T h x c) : Els h T (l ++ [x]) (cs ++ [c]) := by
 refine ⟨by simp [r.1], fun i y d h1 h2 => ?_⟩
 rw [List.getElem?_append] at h1 h2
 rw [r.1] at h2
 split at h1
 ·rename_i hi; rw [if_pos hi] at h2; exact r.2 i y d h1 h2
 ·rename_i hi
  rw [if_neg hi] at h2
  have h0 : i - l.length = 0 := by
   have := (List.getElem?_eq_some_iff.1 h1).1
   simp at this
   omega
  rw [h0] at h1 h2
  simp at h1 h2
  subst h1 h2
  exact t
theorem Els.at {α : Type} {h : AH} {T : AH → α → List Value → Prop} {l : List α} {cs : List (List Value)} (r : Els h T l cs) {i : Nat} (hi : i < l.length) : ∃ hc : i < cs.length, T h l[i] cs[i] :=
 ⟨by rw [r.1]; exact hi, r.2 i _ _ (List.getElem?_eq_getElem hi) (List.getElem?_eq_getElem (by rw [r.1]; exact hi))⟩
theorem SlX.els {α : Type} {h : AH} {m : Nat} {T : AH → α → List Value → Prop} {l : List α} {v : Value} (r : SlX h m T l v) : ∃ cs A cap, v = .slice A l.length cap ∧ Row h m id A cs ∧ Els h T l cs := by
 obtain ⟨cs, A, cap, hv, hl, R, hT⟩ := r
 exact ⟨cs, A, cap, hv, R, hl, hT⟩
theorem SlX.of {α : Type} {h : AH} {m : Nat} {T : AH → α → List Value → Prop} {l : List α} {cs : List (List Value)} {A : Option Addr} {cap n : Nat} (R : Row h m id A cs) (e : Els h T l cs) (hn : l.length = n) : SlX h m T l (.slice A n cap) := by
 subst hn
 exact ⟨cs, A, cap, rfl, e.1, R, e.2⟩
theorem SlX.acc {α : Type} {e : TypeId} {m : Nat} {T : AH → α → List Value → Prop} {l : List α} {cs : List (List Value)} {p : Option (Nat × Obj)} {v : Value} (a : AccP e m (cs.flatMap id) p v) (hm : 0 < m) (hl : ∀ x ∈ cs, x.length = m) {L : Pv} {h : AH} (V : Valid h L) {i : Nat} (hi : L[i]? = some p) (E : Els (wl h L) T l cs) : SlX (wl h L) m T l v := by
 obtain ⟨A, cap, rfl, R⟩ := AccP.row a hm hl V hi
 exact SlX.of R E E.1.symm
def TL (h : AH) (l : List Int) (c : List Value) : Prop := ∃ v, c = [v] ∧ SlR h 1 intC l v
theorem TL.mono : Mono TL := fun h h' l c e ⟨v, hc, r⟩ => ⟨v, hc, r.ext e⟩
abbrev SlL (h : AH) (ls : List (List Int)) (v : Value) : Prop := SlX h 1 TL ls v
def TH (h : AH) (a : HandP) (c : List Value) : Prop := ∃ B O, c = [B, O] ∧ SlR h 1 intC a.buttons B ∧ SlR h 1 intC a.on O
theorem TH.mono : Mono TH := fun h h' l c e ⟨B, O, hc, r, s⟩ => ⟨B, O, hc, r.ext e, s.ext e⟩
structure HeardP where
 hand : HandP
 sounds : List Int
def TU (h : AH) (x : HeardP) (c : List Value) : Prop := ∃ B O U, c = [B, O, U] ∧ SlR h 1 intC x.hand.buttons B ∧ SlR h 1 intC x.hand.on O ∧ SlR h 1 intC x.sounds U
theorem TU.mono : Mono TU := fun h h' l c e ⟨B, O, U, hc, r, s, t⟩ => ⟨B, O, U, hc, r.ext e, s.ext e, t.ext e⟩
end Go.Rd
namespace Go.Proofs.YtmpahfdiebhdbaaGreatDoor
open Go Go.HL Go.Proofs Go.Wx Go.Rd
section
variable [Lvl]
set_option maxRecDepth 100000
def posN (l : List Int) : Nat → Int
 | 0 => 0
 | k + 1 => if 0 < l.getD k 0 then posN l k + 1 else posN l k
theorem posN_bd (l : List Int) : ∀ k, 0 ≤ posN l k ∧ posN l k ≤ k
 | 0 => by simp [posN]
 | k + 1 => by have := posN_bd l k; unfold posN; split <;> omega
def wgtN (ws l : List Int) : Nat → Int
 | 0 => 0
 | k + 1 => if 0 < l.getD k 0 then wgtN ws l k + ws.getD k 0 else wgtN ws l k
theorem wgtN_bd (ws l : List Int) (h : ∀ w ∈ ws, 0 ≤ w ∧ w ≤ 50) : ∀ k, 0 ≤ wgtN ws l k ∧ wgtN ws l k ≤ 50 * k
 | 0 => by simp [wgtN]
 | k + 1 => by
  have := wgtN_bd ws l h k
  have h2 : 0 ≤ ws.getD k 0 ∧ ws.getD k 0 ≤ 50 := by
   by_cases hk : k < ws.length
   ·exact getD_mem_ge h hk
   ·rw [List.getD_eq_getElem?_getD, List.getElem?_eq_none (by omega)]; exact ⟨by decide, by decide⟩
  unfold wgtN
  split <;> omega
def forceM (m : MachP) (a : HandP) : Int := posN (turnedM m a m.travel) 6 + wgtN m.weights (liftedM m (turnedM m a m.travel)) (liftedM m (turnedM m a m.travel)).length
def forceV (m : MachP) (a : HandP) : Int := if checkHandM m a = 0 then forceM m a else 0
theorem Force_ok (hph : Lvl.ph = true) (m : MachP) (a : HandP) (AB AQ AL AW HA OA : Option Addr) (cB cQ cL cW cH cO : Nat) (h : AH) (RM : MachR h AB AQ AL AW m) (RH : HandR h HA OA a) (h0 : m.weights.length < 2 ^ 40) (h1 : a.buttons.length < 2 ^ 40) (h2 : a.on.length < 2 ^ 40) :
  FnT Tryz.prog 18 #[machV AB AQ AL AW cB cQ cL cW m, handV HA OA cH cO a] h (fun v _ => v = .tuple #[.int .i64 (forceV m a), .int .i64 (checkHandM m a)]) := by
 refine wH Tryz.func18 rfl Tryz.ntmps18 rfl ?_
 refine qE ?_
 refine qB rfl ?_
 refine op_box (v := .agg #[.int .i64 _, .int .i64 _, .int .i64 _, .int .i64 _, .int .i64 _, .slice _ _ _, .slice _ _ _, .slice _ _ _, .slice _ _ _]) (cs := [_, _, _, _, _, _, _, _, _]) rfl rfl fun b2 hb2 => ?_
 refine qN [_] rfl ?_
 refine op_box (v := .agg #[.slice _ _ _, .slice _ _ _]) (cs := [_, _]) rfl rfl fun b3 hb3 => ?_
 refine qN [_, _] rfl ?_
 refine qA (qD (v := .int .i64 _) rfl) ?_
 refine qA (qD (v := .int .i64 _) rfl) ?_
 refine qE ?_
 refine qE ?_
 refine qB rfl ?_
 refine wO 0 (vs := [.int .i64 _, .int .i64 _, .int .i64 _, .int .i64 _, .int .i64 _, .slice _ _ _, .slice _ _ _, .slice _ _ _, .slice _ _ _]) rfl rfl rfl rfl rfl ?_
 refine wO 1 (vs := [.slice _ _ _, .slice _ _ _]) rfl rfl rfl rfl rfl ?_
 refine wJ (caps := []) (vs := [.agg #[.int .i64 _, .int .i64 _, .int .i64 _, .int .i64 _, .int .i64 _, .slice _ _ _, .slice _ _ _, .slice _ _ _, .slice _ _ _], .agg #[.slice _ _ _, .slice _ _ _]]) rfl rfl rfl (checkHand_ok m a AB AQ AL AW HA OA cB cQ cL cW cH cO h (RM.ext (Ext.refl _)) (RH.ext (Ext.refl _)) h0 h1 h2) ?_
 rintro _ h3 E3 rfl
 refine qA (qD (v := .int .i64 _) rfl) ?_
 refine qE ?_
 refine qB rfl ?_
 refine qA (qC (v := .int .i64 _) rfl) ?_
 refine qA (qK (v := .bool _) rfl) ?_
 refine qP rfl (fun hc => ?_) (fun hc => ?_)
 ·skip
  have hc' : checkHandM m a ≠ 0 := by simpa using hc
  refine qE ?_
  refine qB rfl ?_
  refine qA (qC (v := .int .i64 _) rfl) ?_
  refine qA (qD (v := .int .i64 _) rfl) ?_
  refine qA (qD (v := .int .i64 _) rfl) ?_
  refine qQ ?_
  refine qM (vs := [_, _]) Tryz.results18 ⟨qJ rfl rfl, qJ rfl rfl, trivial⟩ fun V => ?_
  exact ⟨(zL E3 (qR V)), by rw [forceV, if_neg hc']; rfl⟩
 ·skip
  have hc' : checkHandM m a = 0 := by simpa using hc
  obtain ⟨M, H⟩ := checkHand_ok0 hc'
  have F := fit_of M H
  have PF := pfit_of M
  have tr := M.travel
  have lv := M.levers
  have hv : forceV m a = forceM m a := by rw [forceV, if_pos hc']
  rw [hv, hc']
  refine qO ?_
  refine qE ?_
  refine qB rfl ?_
  refine wO 0 (vs := [.int .i64 _, .int .i64 _, .int .i64 _, .int .i64 _, .int .i64 _, .slice _ _ _, .slice _ _ _, .slice _ _ _, .slice _ _ _]) rfl rfl rfl rfl rfl ?_
  refine wO 1 (vs := [.slice _ _ _, .slice _ _ _]) rfl rfl rfl rfl rfl ?_
  refine qA (qG rfl rfl rfl rfl 3 rfl) ?_
  refine qL 0 (v := .int .i64 _) rfl rfl rfl rfl ?_
  refine wJ (caps := []) (vs := [.agg #[.int .i64 _, .int .i64 _, .int .i64 _, .int .i64 _, .int .i64 _, .slice _ _ _, .slice _ _ _, .slice _ _ _, .slice _ _ _], .agg #[.slice _ _ _, .slice _ _ _], .int .i64 _]) rfl rfl rfl (turned_ok hph F (by omega) tr.2 h3 (RH.ext E3) (RM.ext E3)) ?_
  rintro _ h4 E4 rfl
  unfold forceM
  have ht6 := turned_len m a m.travel
  have htb := bd12_of (turned_bd F (show 0 ≤ m.travel by omega)) tr.2
  generalize turnedM m a m.travel = t at *
  have hT6 : (tV t).length = 6 := by rw [List.length_map, ht6]
  refine zE (cs := [_, _, _, _, _, _]) rfl rfl fun b7 hb7 => ?_
  refine qN [_, _, _] rfl ?_
  refine qY 2 (m := 6) (v := .agg (tV t).toArray) (vs := tV t) (c' := tV t) rfl rfl rfl rfl rfl hT6 rfl (by simp [plainB]) (wrL_all hT6.symm) ?_
  refine qN [_, _, _] rfl ?_
  refine qE ?_
  refine qB rfl ?_
  refine qA (qD (v := .int .i64 _) rfl) ?_
  refine qE ?_
  refine qE ?_
  refine qB rfl ?_
  refine wO 2 (m := 6) (vs := tV t) rfl rfl rfl rfl (rd_all hT6) ?_
  refine qA (qC (v := .int .i64 _) rfl) ?_
  refine qT ?_
  refine zH [8, 10, 25, 26, 27, 28, 29, 30, 31, 32] 3 (α := Nat) (fun k => [(8, .int .i64 (posN t k)), (25, .int .i64 k)]) (fun k => _) (fun k h_k => k ≤ 6) (fun k => 6 - k) (0) ⟨rfl, rfl, trivial⟩ (rfl) (Nat.zero_le _) ?_
  rintro k T1 h_k E_k J_k
  refine qU [_, _, _] rfl ?_
  have pb := posN_bd t k
  refine qE ?_
  refine qB rfl ?_
  refine qA (qK (v := .bool _) rfl) ?_
  refine qE ?_
  refine qP rfl (fun hk => ?_) (fun hk => ?_)
  ·skip
   have hkl : k < 6 := ltI (n := 6) hk
   refine qO ?_
   refine qE ?_
   refine qT ?_
   refine qE ?_
   refine qB rfl ?_
   refine qA (pv_indexV (cs := tV t) (v := .int .i64 (t.getD k 0)) rfl rfl rfl rfl rfl (by omega) (by omega) (by have := tV_at (t := t) (i := k) (o := (k : Int).toNat) (by omega) (by omega); simpa using this)) ?_
   refine qA (qD (v := .int .i64 _) rfl) ?_
   refine qE ?_
   refine qB rfl ?_
   refine qA (qC (v := .int .i64 _) rfl) ?_
   refine qA (qK (v := .bool _) rfl) ?_
   refine qP rfl (fun hp => ?_) (fun hp => ?_)
   ·skip
    have hp' : 0 < t.getD k 0 := by simpa using hp
    refine qB rfl ?_
    refine qA (qC (v := .int .i64 _) rfl) ?_
    refine qA (qS rfl (by omega)) ?_
    refine qA (qD (v := .int .i64 _) rfl) ?_
    refine qB rfl ?_
    refine qA (qS rfl (by omega)) ?_
    refine qA (qC (v := .int .i64 _) rfl) ?_
    refine ⟨k + 1, ⟨(by rw [posN, if_pos hp']; rfl), rfl, trivial⟩, rfl, rfl, E_k, fun h3 E3 => hkl, by first | omega | (dsimp only; omega), ?_⟩
    repeat (first | exact qW _ _ _ | refine wA (by decide) ?_ | refine qV rfl ?_ | refine wB rfl ?_)
   ·skip
    have hp' : ¬ 0 < t.getD k 0 := by simpa using hp
    refine qO ?_
    refine qB rfl ?_
    refine qA (qS rfl (by omega)) ?_
    refine qA (qC (v := .int .i64 _) rfl) ?_
    refine ⟨k + 1, ⟨(by rw [posN, if_neg hp']; rfl), rfl, trivial⟩, rfl, rfl, E_k, fun h3 E3 => hkl, by first | omega | (dsimp only; omega), ?_⟩
    repeat (first | exact qW _ _ _ | refine wA (by decide) ?_ | refine qV rfl ?_ | refine wB rfl ?_)
  ·skip
   have hke : k = 6 := by have := geI (n := 6) hk; omega
   subst hke
   refine wS ?_
   refine qE ?_
   refine qE ?_
   refine qB rfl ?_
   refine wO 0 (vs := [.int .i64 _, .int .i64 _, .int .i64 _, .int .i64 _, .int .i64 _, .slice _ _ _, .slice _ _ _, .slice _ _ _, .slice _ _ _]) rfl rfl rfl rfl rfl ?_
   refine wO 2 (m := 6) (vs := tV t) rfl rfl rfl rfl (rd_all hT6) ?_
   refine wJ (caps := []) (vs := [machV AB AQ AL AW cB cQ cL cW m, turnsV t]) rfl rfl rfl (lifted_ok m PF t ht6 htb AB AQ AL AW cB cQ cL cW h_k (RM.ext (zL (zL E3 E4) E_k))) ?_
   rintro _ h5 E5 ⟨Al, cl, rfl, Rl⟩
   have hll := lifted_len m t
   have hwl := M.wl
   generalize liftedM m t = l at *
   refine qA (wP rfl rfl) ?_
   refine qA (qC (v := .int .i64 _) rfl) ?_
   refine qT ?_
   refine zH [8, 11, 12, 37, 38, 39, 40, 41, 42, 43, 44, 45, 46, 47, 48, 49, 50, 51] 3 (α := Nat) (fun i => [(8, .int .i64 (posN t 6 + wgtN m.weights l i)), (37, .int .i64 i)]) (fun i => _) (fun i h_i => i ≤ l.length) (fun i => l.length - i) (0) ⟨(by rw [wgtN, Int.add_zero]; rfl), rfl, trivial⟩ (rfl) (Nat.zero_le _) ?_
   rintro i T2 h_i E_i J_i
   refine qU [_, _, _] rfl ?_
   have wb := wgtN_bd m.weights l M.wt i
   refine qE ?_
   refine qB rfl ?_
   refine qA (qK (v := .bool _) rfl) ?_
   refine qE ?_
   refine qP rfl (fun hk2 => ?_) (fun hk2 => ?_)
   ·skip
    have hkl : i < l.length := ltI hk2
    obtain ⟨g, off, hA, hc2⟩ := (Rl.ext E_i).at (by omega) hkl
    refine qO ?_
    refine qE ?_
    refine qT ?_
    refine qE ?_
    refine qB rfl ?_
    refine qA (qC (v := .int .i64 _) rfl) ?_
    refine qA (wD rfl hA rfl rfl rfl (by omega) (by omega)) ?_
    refine wL (v := .int .i64 _) rfl rfl ((hc2) 0 _ rfl) ?_
    refine qA (qD (v := .int .i64 _) rfl) ?_
    refine qA (qD (v := .int .i64 _) rfl) ?_
    refine qE ?_
    refine qB rfl ?_
    refine qA (qC (v := .int .i64 _) rfl) ?_
    refine qA (qK (v := .bool _) rfl) ?_
    refine qP rfl (fun hp => ?_) (fun hp => ?_)
    ·skip
     have hp' : 0 < l.getD i 0 := by rw [getD_get hkl]; simpa using hp
     have hiw : i < m.weights.length := by omega
     obtain ⟨g2, off2, hA2, hc3⟩ := (RM.w.ext (zL (zL (zL (zL E3 E4) E_k) E5) E_i)).at (by omega) hiw
     have hw := M.wt _ (List.getElem_mem hiw)
     refine qB rfl ?_
     refine qA (qC (v := .int .i64 _) rfl) ?_
     refine qA (qG rfl rfl rfl rfl 8 rfl) ?_
     refine qL 0 (v := .slice _ _ _) rfl rfl rfl rfl ?_
     refine qA (qC (v := .int .i64 _) rfl) ?_
     refine qA (wD rfl hA2 rfl rfl rfl (by omega) (by omega)) ?_
     refine wL (v := .int .i64 _) rfl rfl ((hc3) 0 _ rfl) ?_
     refine qA (qS rfl (by omega)) ?_
     refine qA (qD (v := .int .i64 _) rfl) ?_
     refine qB rfl ?_
     refine qA (qS rfl (by omega)) ?_
     refine qA (qC (v := .int .i64 _) rfl) ?_
     refine ⟨i + 1, ⟨(by rw [wgtN, if_pos hp', getD_get hiw, Int.add_assoc]; rfl), rfl, trivial⟩, rfl, rfl, E_i, fun h3 E3 => hkl, by first | omega | (dsimp only; omega), ?_⟩
     repeat (first | exact qW _ _ _ | refine wA (by decide) ?_ | refine qV rfl ?_ | refine wB rfl ?_)
    ·skip
     have hp' : ¬ 0 < l.getD i 0 := by rw [getD_get hkl]; simpa using hp
     refine qO ?_
     refine qB rfl ?_
     refine qA (qS rfl (by omega)) ?_
     refine qA (qC (v := .int .i64 _) rfl) ?_
     refine ⟨i + 1, ⟨(by rw [wgtN, if_neg hp']; rfl), rfl, trivial⟩, rfl, rfl, E_i, fun h3 E3 => hkl, by first | omega | (dsimp only; omega), ?_⟩
     repeat (first | exact qW _ _ _ | refine wA (by decide) ?_ | refine qV rfl ?_ | refine wB rfl ?_)
   ·skip
    have hke : i = l.length := by have := geI hk2; omega
    subst hke
    refine wS ?_
    refine qE ?_
    refine qB rfl ?_
    refine qA (qC (v := .int .i64 _) rfl) ?_
    refine qA (qD (v := .int .i64 _) rfl) ?_
    refine qA (qD (v := .int .i64 _) rfl) ?_
    refine qQ ?_
    refine qM (vs := [_, _]) Tryz.results18 ⟨qJ rfl rfl, qJ rfl rfl, trivial⟩ fun V => ?_
    exact ⟨(zL (zL (zL (zL (zL E3 E4) E_k) E5) E_i) (qR V)), rfl⟩
end
end Go.Proofs.YtmpahfdiebhdbaaGreatDoor
namespace Go.Proofs.YtmpahfdiebhdbaaGreatDoor
open Go Go.HL Go.Proofs Go.Wx Go.Rd
section
variable [Lvl]
set_option maxRecDepth 100000
theorem row_one {h : AH} {b : Nat} {z : Int} {e : TypeId} {f : Nat × Nat} (hb : h b = some (.cells #[.int .i64 z] e f)) : Row h 1 intC (some ⟨b, 0, none⟩) [z] :=
 ⟨fun _ _ => rfl, fun _ => ⟨b, 0, rfl, cellsB (cs := [.int .i64 z]) hb⟩⟩
theorem row_nil (h : AH) (A : Option Addr) : Row h 1 intC A ([] : List Int) := ⟨fun _ _ => rfl, Rd.nil _ _⟩
def chartN (m : MachP) (on : List Int) (k : Nat) : List (List Int) := (List.range k).map fun b : Nat => listN (soundsM m ⟨[(b : Int)], on⟩ m.travel) 6
theorem chartN_succ (m : MachP) (on : List Int) (k : Nat) : chartN m on (k + 1) = chartN m on k ++ [listN (soundsM m ⟨[(k : Int)], on⟩ m.travel) 6] := by
 simp [chartN, List.range_succ]
def chartL (m : MachP) (on : List Int) : List (List Int) := if checkHandM m ⟨[], on⟩ = 0 then chartN m on m.buttons.length else []
theorem hand1_ok {m : MachP} {on : List Int} (H : HOK m ⟨[], on⟩) {b : Nat} (hb : b < m.buttons.length) : HOK m ⟨[(b : Int)], on⟩ := ⟨⟨fun x hx => by simp at hx; omega, by simp⟩, H.o⟩
theorem one_len {cs : List (List Value)} {c : List Value} (h : ∀ x ∈ cs, x.length = 1) (hc : c.length = 1) : ∀ x ∈ cs ++ [c], x.length = 1 := fun x hx => by
 rcases List.mem_append.1 hx with hx | hx
 ·exact h x hx
 ·simp at hx; subst hx; exact hc
theorem Chart_ok (hph : Lvl.ph = true) (m : MachP) (on : List Int) (AB AQ AL AW OA : Option Addr) (cB cQ cL cW cO : Nat) (h : AH) (RM : MachR h AB AQ AL AW m) (RO : Row h 1 intC OA on) (h0 : m.weights.length < 2 ^ 40) (h2 : on.length < 2 ^ 40) :
  FnT Tryz.prog 19 #[machV AB AQ AL AW cB cQ cL cW m, .slice OA on.length cO] h (fun v h' => ∃ L, v = .tuple #[L, .int .i64 (checkHandM m ⟨[], on⟩)] ∧ SlL h' (chartL m on) L) := by
 refine wH Tryz.func19 rfl Tryz.ntmps19 rfl ?_
 refine qE ?_
 refine qB rfl ?_
 refine op_box (v := .agg #[.int .i64 _, .int .i64 _, .int .i64 _, .int .i64 _, .int .i64 _, .slice _ _ _, .slice _ _ _, .slice _ _ _, .slice _ _ _]) (cs := [_, _, _, _, _, _, _, _, _]) rfl rfl fun b2 hb2 => ?_
 refine qN [_] rfl ?_
 refine qA (qD (v := .slice _ _ _) rfl) ?_
 refine qA (qD (v := .int .i64 _) rfl) ?_
 refine qE ?_
 refine qE ?_
 refine qB rfl ?_
 refine wO 0 (vs := [.int .i64 _, .int .i64 _, .int .i64 _, .int .i64 _, .int .i64 _, .slice _ _ _, .slice _ _ _, .slice _ _ _, .slice _ _ _]) rfl rfl rfl rfl rfl ?_
 refine qA (qC (v := .slice _ _ _) rfl) ?_
 refine qA (zC (zc := [_, _]) (vs := [(1, .slice _ _ _)]) (cs := [_, _]) rfl rfl rfl rfl rfl rfl) ?_
 refine wJ (caps := []) (vs := [.agg #[.int .i64 _, .int .i64 _, .int .i64 _, .int .i64 _, .int .i64 _, .slice _ _ _, .slice _ _ _, .slice _ _ _, .slice _ _ _], .agg #[.slice _ _ _, .slice _ _ _]]) rfl rfl rfl (checkHand_ok m ⟨[], on⟩ AB AQ AL AW none OA cB cQ cL cW 0 cO h (RM.ext (Ext.refl _)) ⟨row_nil _ _, RO.ext (Ext.refl _)⟩ h0 (by show 0 < 2 ^ 40; decide) h2) ?_
 rintro _ h3 E3 rfl
 refine qA (qD (v := .int .i64 _) rfl) ?_
 refine qE ?_
 refine qB rfl ?_
 refine qA (qC (v := .int .i64 _) rfl) ?_
 refine qA (qK (v := .bool _) rfl) ?_
 refine qP rfl (fun hc => ?_) (fun hc => ?_)
 ·skip
  have hc' : checkHandM m ⟨[], on⟩ ≠ 0 := by simpa using hc
  refine qE ?_
  refine qB rfl ?_
  refine qA (qC (v := .int .i64 _) rfl) ?_
  refine qA (qD (v := .slice _ _ _) rfl) ?_
  refine qA (qD (v := .int .i64 _) rfl) ?_
  refine qQ ?_
  refine qM (vs := [_, _]) Tryz.results19 ⟨qJ rfl rfl, qJ rfl rfl, trivial⟩ fun V => ?_
  exact ⟨(zL E3 (qR V)), _, rfl, by rw [chartL, if_neg hc']; exact SlX.nil _ _ _ _ _⟩
 ·skip
  have hc' : checkHandM m ⟨[], on⟩ = 0 := by simpa using hc
  obtain ⟨M, H⟩ := checkHand_ok0 hc'
  have PF := pfit_of M
  have tr := M.travel
  have bl := M.bl
  refine qO ?_
  refine qE ?_
  refine qB rfl ?_
  refine wO 0 (vs := [.int .i64 _, .int .i64 _, .int .i64 _, .int .i64 _, .int .i64 _, .slice _ _ _, .slice _ _ _, .slice _ _ _, .slice _ _ _]) rfl rfl rfl rfl rfl ?_
  refine wJ (caps := []) (vs := [.agg #[.int .i64 _, .int .i64 _, .int .i64 _, .int .i64 _, .int .i64 _, .slice _ _ _, .slice _ _ _, .slice _ _ _, .slice _ _ _]]) rfl rfl rfl (sounding_ok m AB AQ AL AW cB cQ cL cW h3 (RM.ext E3)) ?_
  rintro _ h4 E4 ⟨bs, AB1, AQ1, AL1, AW1, cB1, cQ1, cL1, cW1, rfl, CM, RM1⟩
  refine qA (qD (v := _) rfl) ?_
  refine qE ?_
  refine qB rfl ?_
  refine qA (qD (v := .slice _ _ _) rfl) ?_
  refine qE ?_
  refine qE ?_
  refine qB rfl ?_
  refine qA (qG rfl rfl rfl rfl 5 rfl) ?_
  refine qL 0 (v := .slice _ _ _) rfl rfl rfl rfl ?_
  refine qA (wP rfl rfl) ?_
  refine qA (qC (v := .int .i64 _) rfl) ?_
  refine qT ?_
  refine goes_more ?_
  refine qU [_, _] rfl ?_
  refine xp_loopL [8, 9, 22, 23, 24, 25, 26, 27, 28, 29, 30, 31, 32, 33, 34, 35, 36, 37] 2 (α := Nat × Acc × List (List Value)) (fun ⟨k, a, cs⟩ => [(8, .slice a.A a.n a.c), (22, .int .i64 k)]) (fun ⟨k, a, cs⟩ L => L.set 1 (a.p)) (fun ⟨k, a, cs⟩ h_k => k ≤ m.buttons.length ∧ AccR 22 1 (cs.flatMap id) a ∧ Els h_k TL (chartN m on k) cs ∧ ∀ x ∈ cs, x.length = 1) (fun ⟨k, a, cs⟩ => m.buttons.length - k) ((0, acc0, [])) ⟨rfl, rfl, trivial⟩ (rfl) (⟨Nat.zero_le _, accR0, Els.nil _ _, fun _ hx => absurd hx List.not_mem_nil⟩) ?_
  rintro ⟨k, a, cs⟩ T1 h_k E_k J_k
  refine qU [_, _] rfl ?_
  obtain ⟨K1, K2, K3, K4⟩ := J_k
  refine qE ?_
  refine qB rfl ?_
  refine qA (qK (v := .bool _) rfl) ?_
  refine qE ?_
  refine qP rfl (fun hk => ?_) (fun hk => ?_)
  ·skip
   have hkl : k < m.buttons.length := ltI hk
   have Hk := hand1_ok H hkl
   refine qO ?_
   refine qE ?_
   refine qT ?_
   refine qE ?_
   refine qB rfl ?_
   refine qA (qC (v := .int .i64 _) rfl) ?_
   refine qA (qD (v := .int .i64 _) rfl) ?_
   refine qB rfl ?_
   refine qA (qC (v := .slice _ _ _) rfl) ?_
   refine qA (qC (v := _) rfl) ?_
   refine qA (qC (v := .int .i64 _) rfl) ?_
   refine qX (zc := [_]) (vs := [(0, .int .i64 _)]) (cs := [_]) rfl rfl rfl rfl rfl rfl rfl fun b28 hb28 => ?_
   refine qN [_, _, _] rfl ?_
   refine qA (qC (v := .slice _ _ _) rfl) ?_
   refine qA (zC (zc := [_, _]) (vs := [(0, .slice _ _ _), (1, .slice _ _ _)]) (cs := [_, _]) rfl rfl rfl rfl rfl rfl) ?_
   refine qA (qG rfl rfl rfl rfl 3 rfl) ?_
   refine qL 0 (v := .int .i64 _) rfl rfl rfl rfl ?_
   refine wp_pub 2 rfl rfl ?_
   intro h5 E5 hb5
   refine qN [_, _, _] rfl ?_
   refine wJ  (vs := _) rfl rfl rfl (snd_ok hph m ⟨[(k : Int)], on⟩ (fit_of M Hk) PF m.travel (by omega) tr.2 bs AB1 AQ1 AL1 AW1 (some ⟨b28, 0, none⟩) OA cB1 cQ1 cL1 cW1 1 cO h5 (CM.ext (zL E_k E5)) (RM1.ext (zL E_k E5)) ⟨row_one hb5, RO.ext (zL (zL (zL E3 E4) E_k) E5)⟩) ?_
   rintro _ h6 E6 rfl
   refine wJ (caps := []) (vs := [.int .i64 _]) rfl rfl rfl (list_ok (soundsM m ⟨[(k : Int)], on⟩ m.travel) (sounds_small PF _ _) h6) ?_
   rintro _ h7 E7 ⟨Al, cl, rfl, Rl⟩
   refine qX (zc := [_]) (vs := [(0, .slice _ _ _)]) (cs := [_]) rfl rfl rfl rfl rfl rfl rfl fun b35 hb35 => ?_
   refine qN [_, _, _, _] rfl ?_
   refine zA 1 K2 rfl rfl rfl (fun V => rdP V (i := 3) rfl) rfl rfl rfl rfl rfl rfl rfl rfl rfl (by omega) rfl (by rw [wU (enc := id) (m := 1) K4, K3.1]; simp [chartN]; omega) fun a2 h2a E2a ha2 => ?_
   refine qN [_, _, _, _] rfl ?_
   refine qA (qD (v := .slice _ _ _) rfl) ?_
   refine qB rfl ?_
   refine qA (qS rfl (by omega)) ?_
   refine qA (qC (v := .int .i64 _) rfl) ?_
   refine ⟨(k + 1, a2, cs ++ [[.slice Al (listN (soundsM m ⟨[(k : Int)], on⟩ m.travel) 6).length cl]]), ⟨rfl, rfl, trivial⟩, rfl, rfl, (zL (zL (zL (zL E_k E5) E6) E7) E2a), fun h3 E3 => ⟨hkl, by rw [List.flatMap_append]; exact ha2, by rw [chartN_succ]; exact ((K3.ext TL.mono (zL (zL (zL E5 E6) E7) E2a)).snoc ⟨_, rfl, _, _, rfl, Rl.ext E2a⟩).ext TL.mono E3, one_len K4 rfl⟩, by first | omega | (dsimp only; omega), ?_⟩
   repeat (first | exact qW _ _ _ | refine wA (by decide) ?_ | refine qV rfl ?_ | refine wB rfl ?_)
  ·skip
   have hke : k = m.buttons.length := by have := geI hk; omega
   subst hke
   refine wS ?_
   refine qE ?_
   refine qB rfl ?_
   refine qA (qC (v := .slice _ _ _) rfl) ?_
   refine qA (qD (v := .slice _ _ _) rfl) ?_
   refine qA (qD (v := .int .i64 _) rfl) ?_
   refine qQ ?_
   refine qM (vs := [_, _]) Tryz.results19 ⟨qJ rfl rfl, qJ rfl rfl, trivial⟩ fun V => ?_
   refine ⟨(zL (zL (zL E3 E4) E_k) (qR V)), .slice a.A a.n a.c, by rw [hc']; rfl, ?_⟩
   rw [chartL, if_pos hc']
   exact SlX.acc (i := 1) K2 (by omega) K4 V rfl (K3.ext TL.mono (qR V))
end
end Go.Proofs.YtmpahfdiebhdbaaGreatDoor
namespace Go.HL
open Go Go.Conc
variable [Lvl]
section
variable {P : Program} {n : Nat} {ops : Array Oper} {os : List Oper} {K : Sl → Pv → AH → Prop} {E : Value → Sl → Pv → AH → Prop} {S : Sl} {L : Pv} {h : AH} {d : Option Tmp} {ty : TypeId} {ps : String} {af : Array Edge}
def FnE (P : Program) (f : FuncId) (args : Array Value) (h : AH) (R Q : Value → AH → Prop) : Prop := CallT P f args h (fun v h' => Ext h h' ∧ R v h') (fun v h' => Ext h h' ∧ Q v h')
theorem FnE.of {f : FuncId} {args : Array Value} {R Q : Value → AH → Prop} (c : FnT P f args h R) : FnE P f args h R Q := CallT.mono c (fun _ _ r => r) (fun _ _ y => y.elim)
end
section
variable {P : Program} {n : Nat} {S : Sl} {D : Df} {L : Pv} {h : AH} {ops : Array Oper} {i : Nat} {rest : List Nat} {o : Oper} {b : Frame} {k : List Item} {cs : List Frame} {w : World} {main : Bool}
end
section
variable {P : Program} {n : Nat} {K : Value → AH → Prop}
def Clo (P : Program) (m : Nat) (ops0 : Array Oper) (c2 : Code) (t : Tmp) (x : Value) (caps : Array Value) (L : Pv) (h : AH) (Q : Pv → AH → Prop) : Prop :=
 Nat.ble caps.size m = true ∧ Goes P m none ([.inRegion ops0 [1]] ++ [.code c2]) (fun e _ D L' h' => (e = .normal ∨ e = .ret) ∧ D = [] ∧ Q L' h') (put (argS caps) (some t) x) [] L h
end
end Go.HL
namespace Go.HL
open Go
variable [Lvl]
def YieldsS {α : Type} (P : Program) (y : Value) (all : List α) (T : AH → α → Value → Prop) (I : Nat → AH → Pv → Prop) (F : AH → Pv → Prop) : Prop :=
 ∀ (k : Nat) (x : α) (v : Value) (h : AH) (M : Pv), all[k]? = some x → T h x v → I k h M → FnM P y [v] h M (fun r h' M' => (r = .bool true ∧ I (k + 1) h' M') ∨ (r = .bool false ∧ F h' M'))
def IterS {α : Type} (P : Program) (f : Value) (h0 : AH) (all : List α) (T : AH → α → Value → Prop) : Prop :=
 ∀ (fn : Fn) (fs cs : Array Value) (I : Nat → AH → Pv → Prop) (F : AH → Pv → Prop), (∀ k h h' M, Ext h h' → I k h M → I k h' M) → (∀ h h' M, Ext h h' → F h M → F h' M) → YieldsS P (.func fn fs cs) all T I F →
  ∀ h M, Ext h0 h → I 0 h M → FnM P f [.func fn fs cs] h M (fun _ h' M' => I all.length h' M' ∨ F h' M')
theorem IterS.ext {α : Type} {P : Program} {f : Value} {h h' : AH} {all : List α} {T : AH → α → Value → Prop} (i : IterS P f h all T) (E : Ext h h') : IterS P f h' all T :=
 fun fn fs cs I F hI hF Y h1 M E1 => i fn fs cs I F hI hF Y h1 M (E.trans E1)
theorem wl_fillO {h : AH} {L : Pv} {i : Nat} {p : Option (Nat × Obj)} (hi : L[i]? = some none) (V : Valid h (L ++ [p])) : wl h (L ++ [p]) = wl h (L.set i p) ∧ Valid h (L.set i p) := by
 cases p with
 | none =>
  have e : L.set i none = L := by
   apply List.ext_getElem?
   intro j
   rw [List.getElem?_set]
   by_cases hj : i = j
   ·subst hj
    rw [hi]
    simp [(List.getElem?_eq_some_iff.1 hi).1]
   ·simp [hj]
  have e2 : cl (L ++ [none]) = cl L := by simp [cl]
  rw [e]
  unfold Valid at V
  unfold wl Valid
  rw [e2] at V ⊢
  exact ⟨rfl, V⟩
 | some q => exact wl_perm (cl_fill L q hi).symm V
section
variable {P : Program} {n : Nat} {ops : Array Oper} {os : List Oper} {K : Sl → Pv → AH → Prop} {E : Value → Sl → Pv → AH → Prop} {S : Sl} {L : Pv} {h : AH} {d : Option Tmp} {op : Op} {ty : TypeId} {ps : String} {af : Array Edge}
theorem op_fnF (i : Nat) {x : Operand} {xs : List Operand} {ats : Array TypeId} {y : Value} {vs : List Value} {R : Value → AH → Option (Nat × Obj) → Prop} (hi : L[i]? = some none) (hf : ev n S x = y) (hx : xs.map (ev n S) = vs) (c : FnM P y vs h [] (fun v h' M' => ∃ p, M' = [p] ∧ R v h' p))
  (k : ∀ v h' p, Valid h' (L ++ [p]) → Ext h h' → R v h' p → wpL P n ops os K E (put S d v) (L.set i p) h') : wpL P n ops (⟨d, .call ⟨.value x, xs.toArray, ats⟩, ty, ps, af, none⟩ :: os) K E S L h := by
 refine op_of fun V => ?_
 have w : wpL P n ops [⟨d, .call ⟨.value x, xs.toArray, ats⟩, ty, ps, af, none⟩] (fun S' L' h' => ∃ p, L' = L ++ [p] ∧ Valid h' (L ++ [p]) ∧ wpL P n ops os K E S' (L.set i p) h') (fun _ _ _ _ => False) S L h :=
  op_fnV hf hx c fun v h' M' V' E' r => by
   obtain ⟨p, rfl, r⟩ := r
   exact ⟨p, rfl, V', k v h' p V' E' r⟩
 refine opW_mono ?_ ?_ (w V)
 ·rintro v H ⟨L', h', rfl, V1, p, rfl, V2, w2⟩
  obtain ⟨e, V3⟩ := wl_fillO hi V2
  exact ⟨_, h', e, V3, w2⟩
 ·rintro v H ⟨L', h', _, _, y⟩; exact y.elim
theorem op_open (w : wpL P n ops [⟨d, op, ty, ps, af, none⟩] (fun S' L' h' => h' = h ∧ ∃ b ob, L' = L ++ [some (b, ob)] ∧ ∀ h2, Ext h h2 → h2 b = some ob → wpL P n ops os K E S' L h2) (fun _ _ _ _ => False) S L h) : wpL P n ops (⟨d, op, ty, ps, af, none⟩ :: os) K E S L h := by
 refine op_of fun V => ?_
 refine opW_mono ?_ ?_ (w V)
 ·rintro v H ⟨L', h', rfl, V1, rfl, b, ob, rfl, k⟩
  obtain ⟨V2, hb, _⟩ := wl_last V1
  have hi : (L ++ [some (b, ob)])[L.length]? = some (some (b, ob)) := by simp
  have e0 : (L ++ [some (b, ob)]).set L.length none = L ++ [none] := by simp
  have e1 : cl (L ++ [none]) = cl L := by simp [cl]
  have hp := wl_pub V1 hi
  have Vp := valid_pub V1 hi
  rw [e0] at hp Vp
  unfold wl at hp
  unfold Valid at Vp
  rw [e1] at hp Vp
  exact ⟨L, hupd h' b ob, hp, Vp, k _ (Ext.new (Ext.refl h') (wl_fresh V1 hi) ob) (by simp [hupd])⟩
 ·rintro v H ⟨L', h', _, _, y⟩; exact y.elim
end
theorem runT_more {P : Program} {α : Type} : ∀ (s : Sem α) (w : World) (es es' : Array Event), (∀ e ∈ es, e ∈ es') → ∀ e ∈ (s.runT P w es).2, e ∈ (s.runT P w es').2 := by
 have push : ∀ {es es' : Array Event} {a : Event}, (∀ e ∈ es, e ∈ es') → ∀ e ∈ es.push a, e ∈ es'.push a := fun h e he => by
  rw [Array.mem_push] at he ⊢
  exact he.imp (h e) id
 have app : ∀ {es es' u : Array Event}, (∀ e ∈ es, e ∈ es') → ∀ e ∈ es ++ u, e ∈ es' ++ u := fun h e he => by
  rw [Array.mem_append] at he ⊢
  exact he.imp (h e) id
 intro s
 induction s with
 | pure a => intro w es es' h; exact h
 | load m a k ih =>
  intro w es es' h
  simp only [Sem.runT]
  cases w.cell? a with
  | some v => exact ih v w _ _ (push h)
  | none =>
   cases w.farLoad P a (m == .atomic) with
   | ok p => exact ih p.1 w _ _ (app h)
   | error x => exact h
 | store m a v k ih =>
  intro w es es' h
  have key : ∀ v : Value, plainV v → ∀ e ∈ ((Sem.store m a v k).runT P w es).2, e ∈ ((Sem.store m a v k).runT P w es').2 := by
   intro v hv
   have e2 : ∀ es : Array Event, (Sem.store m a v k).runT P w es = (match w.cell? a with
     | some _ => if w.frozen? a then (.halt (.unsupported (.unsafePointer "a write to bytes that a string shares")) w, es) else k.runT P (w.setCell a v) (es.push ⟨.cell a, true, m == .atomic⟩)
     | none => match w.farStore P a v (m == .atomic) with
      | .ok (w, touched) => k.runT P w (es ++ touched.toArray.map (⟨.cell ·, true, m == .atomic⟩))
      | .error h => (.halt h w, es)) := fun es => by cases v <;> first | exact hv.elim | rfl
   rw [e2, e2]
   cases w.cell? a with
   | some _ =>
    cases w.frozen? a with
    | true => exact h
    | false => exact ih _ _ _ (push h)
   | none =>
    cases w.farStore P a v (m == .atomic) with
    | ok p => exact ih p.1 _ _ (app h)
    | error x => exact h
  cases v <;> first | exact key _ trivial | exact h
 | new o k ih => intro w es es' h; exact ih _ _ _ _ h
 | shape r k ih => intro w es es' h; exact ih _ _ _ _ h
 | freeze a n k ih => intro w es es' h; exact ih _ _ _ h
 | frozen a k ih => intro w es es' h; exact ih _ _ _ _ h
 | getObj r k ih =>
  intro w es es' h
  simp only [Sem.runT]
  cases w.heap[r]? with
  | none => exact h
  | some o => cases o <;> first | exact h | exact ih _ w _ _ (push h)
 | setObj r o k ih =>
  intro w es es' h
  simp only [Sem.runT]
  cases w.heap[r]? with
  | none => exact h
  | some o => cases o <;> first | exact h | exact ih _ _ _ (push h)
 | choose q k ih =>
  intro w es es' h
  simp only [Sem.runT]
  split
  ·exact ih _ _ _ _ (by first | exact h | exact push h)
  ·exact ih _ _ _ _ (by first | exact h | exact push h)
 | sys c k ih => intro w es es' h; exact ih _ _ _ _ (by first | exact h | exact push h | exact app h)
 | program k ih => intro w es es' h; exact ih _ _ _ _ h
 | mark m k ih => intro w es es' h; exact ih _ _ _ (by first | exact h | exact push h | exact app h)
 | halt x => intro w es es' h; exact h
end Go.HL
namespace Go.HL
open Go
variable [Lvl]
section
variable {P : Program} {n : Nat} {ops : Array Oper} {os : List Oper} {K : Sl → Pv → AH → Prop} {E : Value → Sl → Pv → AH → Prop} {S : Sl} {L : Pv} {h : AH} {d : Option Tmp} {ty : TypeId} {ps : String} {af : Array Edge}
variable {α : Type} [DecidableEq α] {kt : TypeId} {enc : α → Value}
theorem op_lookup (i : Nat) {t et : TypeId} {x y : Operand} {m : Nat} {a : α} {z : Value} {l : List (α × Value)} (hk : KeyT P kt enc) (ht : pev P (underlying t) = some (.map kt et)) (hx : ev n S x = .map (some m)) (hy : ev n S y = enc a) (hz : pev P (zeroValue et) = some z) (hi : L[i]? = some (some (m, mapO (encs enc l)))) {w : Value} (hw : (findL a l 0).elim z (·.2) = w)
  (k : wpL P n ops os K E (put S d w) L h) : wpL P n ops (⟨d, .lookup t x y false, ty, ps, af, none⟩ :: os) K E S L h := by
 subst hw
 refine op_of fun V => ?_
 unfold opW
 simp only [execOp, hx, hy]
 refine wM ?_
 unfold Instr.lookup
 refine wG ht ?_
 simp only
 refine wM ?_
 refine ⟨_, zK V hi, trivial, ?_⟩
 show dem P (Instr.checkKey _ 10000 kt (enc a) >>= _) _ _ _
 refine wG (hk.chk _ a) ?_
 have hf : pev P (Instr.findKey kt (enc a) (mapEs (encs enc l) 0).toArray.toList) = some (findL a l 0) := findKey_ok hk a l
 refine wG hf ?_
 cases hfl : findL a l 0 with
 | none =>
  rw [hfl] at k
  refine wG hz ?_
  exact ⟨L, h, rfl, V, k⟩
 | some p =>
  rw [hfl] at k
  exact ⟨L, h, rfl, V, k⟩
end
def cntL {α : Type} [DecidableEq α] : List α → List (α × Value)
 | [] => []
 | x :: l => putL x (.int .i64 ((l.count x : Nat) + 1)) (cntL l)
theorem findL_put {α : Type} [DecidableEq α] (a b : α) (v : Value) : ∀ (l : List (α × Value)) (i : Nat), (findL a (putL b v l) i).map (·.2) = if a = b then some v else (findL a l i).map (·.2)
 | [], i => by
  unfold putL findL
  split
  ·rfl
  ·rfl
 | (c, u) :: l, i => by
  unfold putL
  by_cases hbc : b = c
  ·subst hbc
   rw [if_pos rfl]
   simp only [findL]
   split <;> rfl
  ·rw [if_neg hbc]
   simp only [findL]
   by_cases hac : a = c
   ·subst hac
    rw [if_pos rfl, if_pos rfl, if_neg (fun e => hbc e.symm)]
   ·rw [if_neg hac, if_neg hac]
    exact findL_put a b v l (i + 1)
theorem cnt_find {α : Type} [DecidableEq α] (a : α) : ∀ (l : List α), (findL a (cntL l) 0).elim (.int .i64 0) (·.2) = .int .i64 (l.count a : Nat)
 | [] => rfl
 | x :: l => by
  have ih := cnt_find a l
  have hp := findL_put a x (.int .i64 ((l.count x : Nat) + 1)) (cntL l) 0
  have e : ∀ o : Option (Nat × Value), o.elim (.int .i64 0) (·.2) = (o.map (·.2)).getD (.int .i64 0) := fun o => by cases o <;> rfl
  rw [e] at ih ⊢
  unfold cntL
  rw [hp]
  by_cases hax : a = x
  ·subst hax
   rw [if_pos rfl]
   simp
  ·rw [if_neg hax, ih, List.count_cons_of_ne (fun e => hax e.symm)]
end Go.HL
