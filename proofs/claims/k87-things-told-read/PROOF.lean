import PyProof.Rows.All
import Wide.All
import OpenK.AllK
import Wide.FinOn
import HandS.ForMost
import HandS.IsInst
import HandS.Style
import HandS.Zip
import HandS.Walk
import HandS.Conv
import HandS.Star
import HandS.ReplaceLit
import HandS.ReplaceDef
import HandS.Wide
import HandS.TupAny
import HandS.WordsDict
import KE.DataEq
import KE.GoesMore
import HandS.ExcField
import HandS.ExcIs
import HandS.ExcInit
import HandS.SetFor
import KE.KExcIs
import HandS.Deep
import HandS.SortOrd
import HandS.SortRule
import KE.KSortTupAny
import HandS.WideBits
import KE.IntTextLaws
import PySem.Challenge.RW_comestoend_k87_whole_things_told_and_rea
set_option Elab.async false
set_option linter.all false
set_option maxRecDepth 100000
set_option maxHeartbeats 2000000
namespace Pu
open PySem PySem.Spec PyProof.Rows L2

/-! ### pure values in the heap -/
def keyD : Key → PyData
  | .inl i => .int i
  | .inr x => .str x
mutual
inductive Rp (H : Hp) : PyData → V → Prop
  | non : Rp H .none .non
  | bl (b : Bool) : Rp H (.bool b) (.bl b)
  | int (i : Int) : Rp H (.int i) (.int i)
  | str (x : Str) : Rp H (.str x) (.str x)
  | lst {a : Addr} {xs : List V} {ds : List PyData} : H a = some (.lst xs) → RpAll H ds xs → Rp H (.list ds) (.ref a)
  | tup {a : Addr} {xs : List V} {ds : List PyData} : H a = some (.tup xs) → RpAll H ds xs → Rp H (.tuple ds) (.ref a)
  | dic {a : Addr} {kvs : List (Key × V)} {ps : List (PyData × PyData)} : H a = some (.dK kvs) → RpKV H ps kvs → Rp H (.dict ps) (.ref a)
  /-- an object, by some of its attributes (a dict whose first key is nothing) -/
  | ob {a C dx : Addr} {fs : List (Str × V)} {ps : List (PyData × PyData)} : H a = some (.ins C dx fs) → RpF H ps fs → Rp H (.dict ((.none, .int (C : Nat)) :: ps)) (.ref a)
inductive RpAll (H : Hp) : List PyData → List V → Prop
  | nil : RpAll H [] []
  | cons {d : PyData} {v : V} {ds : List PyData} {vs : List V} : Rp H d v → RpAll H ds vs → RpAll H (d :: ds) (v :: vs)
inductive RpKV (H : Hp) : List (PyData × PyData) → List (Key × V) → Prop
  | nil : RpKV H [] []
  | cons {k : Key} {d : PyData} {v : V} {ps : List (PyData × PyData)} {kvs : List (Key × V)} : Rp H d v → RpKV H ps kvs → RpKV H ((keyD k, d) :: ps) ((k, v) :: kvs)
inductive RpF (H : Hp) : List (PyData × PyData) → List (Str × V) → Prop
  | nil {fs : List (Str × V)} : RpF H [] fs
  | cons {f : Str} {d : PyData} {v : V} {ps : List (PyData × PyData)} {fs : List (Str × V)} : fs.lookup f = some v → Rp H d v → RpF H ps fs → RpF H ((.str f, d) :: ps) fs
end
def isOb : List (PyData × PyData) → Bool
  | (.none, _) :: _ => true
  | _ => false
mutual
theorem Rp.mono {H H' : Hp} (s : Same H H') : ∀ {d : PyData} {v : V}, Rp H d v → Rp H' d v
  | _, _, .non => .non
  | _, _, .bl b => .bl b
  | _, _, .int i => .int i
  | _, _, .str x => .str x
  | _, _, .lst h r => .lst (s _ _ h) (RpAll.mono s r)
  | _, _, .tup h r => .tup (s _ _ h) (RpAll.mono s r)
  | _, _, .dic h r => .dic (s _ _ h) (RpKV.mono s r)
  | _, _, .ob h r => .ob (s _ _ h) (RpF.mono s r)
theorem RpAll.mono {H H' : Hp} (s : Same H H') : ∀ {ds : List PyData} {vs : List V}, RpAll H ds vs → RpAll H' ds vs
  | _, _, .nil => .nil
  | _, _, .cons r t => .cons (Rp.mono s r) (RpAll.mono s t)
theorem RpKV.mono {H H' : Hp} (s : Same H H') : ∀ {ps : List (PyData × PyData)} {kvs : List (Key × V)}, RpKV H ps kvs → RpKV H' ps kvs
  | _, _, .nil => .nil
  | _, _, .cons r t => .cons (Rp.mono s r) (RpKV.mono s t)
theorem RpF.mono {H H' : Hp} (s : Same H H') : ∀ {ps : List (PyData × PyData)} {fs : List (Str × V)}, RpF H ps fs → RpF H' ps fs
  | _, _, .nil => .nil
  | _, _, .cons l r t => .cons l (Rp.mono s r) (RpF.mono s t)
end
theorem RpAll.len {H : Hp} : ∀ {ds : List PyData} {vs : List V}, RpAll H ds vs → ds.length = vs.length
  | _, _, .nil => rfl
  | _, _, .cons _ t => by rw [List.length_cons, List.length_cons, t.len]
theorem RpAll.get {H : Hp} : ∀ {ds : List PyData} {vs : List V} {i : Nat} {d : PyData}, RpAll H ds vs → ds[i]? = some d → ∃ v, vs[i]? = some v ∧ Rp H d v
  | _, _, _, _, .nil, e => by simp at e
  | _, _, 0, _, .cons r _, e => by simp at e; subst e; exact ⟨_, rfl, r⟩
  | _, _, i + 1, d, .cons _ t, e => by
    obtain ⟨u, h1, h2⟩ := RpAll.get (i := i) (d := d) t (by simpa using e)
    exact ⟨u, by simpa using h1, h2⟩
theorem RpAll.get' {H : Hp} : ∀ {ds : List PyData} {vs : List V} {i : Nat} {v : V}, RpAll H ds vs → vs[i]? = some v → ∃ d, ds[i]? = some d ∧ Rp H d v
  | _, _, _, _, .nil, e => by simp at e
  | _, _, 0, _, .cons r _, e => by simp at e; subst e; exact ⟨_, rfl, r⟩
  | _, _, i + 1, d, .cons _ t, e => by
    obtain ⟨u, h1, h2⟩ := RpAll.get' (i := i) t (by simpa using e)
    exact ⟨u, by simpa using h1, h2⟩
theorem RpAll.append {H : Hp} : ∀ {ds es : List PyData} {vs us : List V}, RpAll H ds vs → RpAll H es us → RpAll H (ds ++ es) (vs ++ us)
  | _, _, _, _, .nil, s => s
  | _, _, _, _, .cons r t, s => .cons r (RpAll.append t s)
theorem RpAll.take {H : Hp} : ∀ {ds : List PyData} {vs : List V} (n : Nat), RpAll H ds vs → RpAll H (ds.take n) (vs.take n)
  | _, _, 0, _ => .nil
  | _, _, _ + 1, .nil => .nil
  | _, _, n + 1, .cons r t => .cons r (RpAll.take n t)
theorem RpAll.drop {H : Hp} : ∀ {ds : List PyData} {vs : List V} (n : Nat), RpAll H ds vs → RpAll H (ds.drop n) (vs.drop n)
  | _, _, 0, r => r
  | _, _, _ + 1, .nil => .nil
  | _, _, n + 1, .cons _ t => RpAll.drop n t

/-- all of the heap that grows, and the part Hs that pure values stand in -/
structure Ext (H Hs H' Hs' : Hp) : Prop where
  big : Same H H'
  small : Same Hs Hs'
  sub : Same Hs' H'
  new : ∀ b, Hs b = none → H b ≠ none → Hs' b = none
theorem Ext.refl {H Hs : Hp} (s : Same Hs H) : Ext H Hs H Hs := ⟨Same.refl _, Same.refl _, s, fun _ h _ => h⟩
theorem Ext.trans {H Hs H1 Hs1 H2 Hs2 : Hp} (a : Ext H Hs H1 Hs1) (b : Ext H1 Hs1 H2 Hs2) : Ext H Hs H2 Hs2 :=
  ⟨a.big.trans b.big, a.small.trans b.small, b.sub, fun x h h' => b.new x (a.new x h h') fun z => h' (a.big.free z)⟩
/-- a new object -/
theorem Ext.laid {H Hs H1 Hs1 : Hp} (a : Ext H Hs H1 Hs1) {p : Addr} (hp : H1 p = none) (o : HO) : Ext H Hs (upd H1 p o) (upd Hs1 p o) := by
  have hs : Hs1 p = none := a.sub.free hp
  refine ⟨a.big.trans fun b u e => ?_, a.small.trans fun b u e => ?_, fun b u e => ?_, fun b h h' => ?_⟩
  · rw [upd_ne (ne_of_none e hp)]; exact e
  · rw [upd_ne (ne_of_none e hs)]; exact e
  · by_cases q : b = p
    · subst q; rw [upd_same] at e ⊢; exact e
    · rw [upd_ne q] at e ⊢; exact a.sub _ _ e
  · have q : b ≠ p := fun z => by subst z; exact h' (a.big.free hp)
    rw [upd_ne q]; exact a.new b h h'

/-! ### slots -/
abbrev Ev := List (Option PyData)
structure REnv (Hs : Hp) (σ : L2.St) (ev : Ev) : Prop where
  le : ev.length ≤ σ.length
  at_ : ∀ (i : Nat) (w : PyData), ev[i]? = some (some w) → ∃ v, σ[i]? = some (some v) ∧ Rp Hs w v
theorem REnv.mono {Hs Hs' : Hp} {σ : L2.St} {ev : Ev} (s : Same Hs Hs') (h : REnv Hs σ ev) : REnv Hs' σ ev := ⟨h.le, fun i w e =>
  let ⟨v, h1, h2⟩ := h.at_ i w e
  ⟨v, h1, h2.mono s⟩⟩
theorem REnv.set {Hs : Hp} {σ : L2.St} {ev : Ev} (h : REnv Hs σ ev) {i : Nat} {w : PyData} {v : V} (r : Rp Hs w v) : REnv Hs (σ.set i (some v)) (ev.set i (some w)) := ⟨by rw [List.length_set, List.length_set]; exact h.le, fun j u e => by
  have hl := h.le
  by_cases q : i = j
  · subst q
    by_cases hi : i < ev.length
    · rw [List.getElem?_set_self hi] at e
      cases e
      exact ⟨v, List.getElem?_set_self (by omega), r⟩
    · rw [List.getElem?_eq_none (by simpa using hi)] at e
      cases e
  · rw [List.getElem?_set_ne q] at e
    obtain ⟨x, h1, h2⟩ := h.at_ j u e
    exact ⟨x, by rw [List.getElem?_set_ne q]; exact h1, h2⟩⟩
theorem REnv.unset {Hs : Hp} {σ : L2.St} {ev : Ev} (h : REnv Hs σ ev) {i : Nat} {o : Option V} : REnv Hs (σ.set i o) (ev.set i none) := ⟨by rw [List.length_set, List.length_set]; exact h.le, fun j u e => by
  by_cases q : i = j
  · subst q
    by_cases hi : i < ev.length
    · rw [List.getElem?_set_self hi] at e
      cases e
    · rw [List.getElem?_eq_none (by simpa using hi)] at e
      cases e
  · rw [List.getElem?_set_ne q] at e
    obtain ⟨x, h1, h2⟩ := h.at_ j u e
    exact ⟨x, by rw [List.getElem?_set_ne q]; exact h1, h2⟩⟩

/-! ### judgements -/
def tPu (f : Ev → Option PyData) : TE := fun σ H Q => ∃ (Hs : Hp) (ev : Ev) (w : PyData), Same Hs H ∧ REnv Hs σ ev ∧ f ev = some w ∧ ∀ v H' Hs', Ext H Hs H' Hs' → Rp Hs' w v → Q v H'
def tPuT (f : Ev → Option Bool) : TT := fun σ H Q => ∃ (Hs : Hp) (ev : Ev) (b : Bool), Same Hs H ∧ REnv Hs σ ev ∧ f ev = some b ∧ ∀ H' Hs', Ext H Hs H' Hs' → Q b H'
def tPuA (f : Ev → Option (List PyData)) : TA := fun σ H Q => ∃ (Hs : Hp) (ev : Ev) (ws : List PyData), Same Hs H ∧ REnv Hs σ ev ∧ f ev = some ws ∧ ∀ vs H' Hs', Ext H Hs H' Hs' → RpAll Hs' ws vs → Q vs H'
structure PU (X : Cx) (e : Expr) (f : Ev → Option PyData) : Prop where
  pe : PE X e (tPu f)
structure PUT (X : Cx) (e : Expr) (f : Ev → Option Bool) : Prop where
  pt : PT X e (tPuT f)
structure PUW (X : Cx) (e : Expr) (f : Ev → Option Bool) : Prop where
  pw : PW X e (tPuT f)
structure PUA (X : Cx) (es : List Expr) (f : Ev → Option (List PyData)) : Prop where
  pa : PA X es (tPuA f)
theorem conv {X : Cx} {e : Expr} {t t' : TE} (h : PE X e t) (k : ∀ σ H Q, t' σ H Q → t σ H Q) : PE X e t' := ⟨fun pins s σ H Q I q => h.run pins s σ H Q I (k σ H Q q)⟩
theorem convT {X : Cx} {e : Expr} {t t' : TT} (h : PT X e t) (k : ∀ σ H Q, t' σ H Q → t σ H Q) : PT X e t' := ⟨fun pins s σ H Q I q => h.run pins s σ H Q I (k σ H Q q)⟩
theorem convW {X : Cx} {e : Expr} {t t' : TT} (h : PW X e t) (k : ∀ σ H Q, t' σ H Q → t σ H Q) : PW X e t' := ⟨fun wh pins s σ H Q I q => h.run wh pins s σ H Q I (k σ H Q q)⟩
theorem convA {X : Cx} {es : List Expr} {t t' : TA} (h : PA X es t) (k : ∀ σ H Q, t' σ H Q → t σ H Q) : PA X es t' := ⟨fun pos pins s σ H Q I q => h.run pos pins s σ H Q I (k σ H Q q)⟩
theorem bindS {α β : Type} {o : Option α} {f : α → Option β} {b : β} (h : o.bind f = some b) : ∃ a, o = some a ∧ f a = some b := by
  cases o with
  | none => cases h
  | some a => exact ⟨a, rfl, h⟩

/-! ### names, constants -/
def fVar (i : Nat) : Ev → Option PyData := fun ev => (ev[i]?).bind id
def fC (w : PyData) : Ev → Option PyData := fun _ => some w
section
variable {X : Cx}
theorem fVar_some {i : Nat} {ev : Ev} {w : PyData} (h : fVar i ev = some w) : ev[i]? = some (some w) := by
  unfold fVar at h
  cases e : ev[i]? with
  | none => rw [e] at h; cases h
  | some o =>
    rw [e] at h
    have h' : o = some w := h
    rw [h']
theorem pu_var (i : Nat) {x : Str} {pos : Pos} (hN : X.N[i]? = some x := by rfl) (hv : Vis X.env.scope x := by first | exact Or.inl rfl | exact Or.inr (Or.inl rfl) | exact Or.inr (Or.inr rfl)) (hd : (x == ("__debug__" : Str)) = false := by decide)
    (hcd : (x == ("__classdict__" : Str)) = false := by decide) : PU X (.Name x pos) (fVar i) := ⟨conv (pe_var hN hv hd hcd) fun σ H Q ⟨Hs, ev, w, s, r, e, q⟩ => by
  obtain ⟨v, h1, h2⟩ := r.at_ i w (fVar_some e)
  exact ⟨v, h1, q v H Hs (.refl s) h2⟩⟩
theorem pu_c {e : Expr} {v : V} {w : PyData} (h : PE X e (tC v)) (r : ∀ Hs, Rp Hs w v) : PU X e (fC w) := ⟨conv h fun σ H Q ⟨Hs, ev, w', s, _, e, q⟩ => by
  cases e
  exact q v H Hs (.refl s) (r Hs)⟩
theorem pu_int {i j pos} : PU X (.Constant (.int i) j pos) (fC (.int i)) := pu_c pe_int fun _ => .int i
theorem pu_bl {i j pos} : PU X (.Constant (.bool i) j pos) (fC (.bool i)) := pu_c pe_bl fun _ => .bl i
theorem pu_non {j pos} : PU X (.Constant .none j pos) (fC .none) := pu_c pe_non fun _ => .non
theorem pu_str {x j pos} : PU X (.Constant (.str x) j pos) (fC (.str x)) := pu_c pe_str fun _ => .str x

/-! ### operators -/
def GOp (r : R2) (g : PyData → PyData → Option PyData) : Prop := ∀ (a b w : PyData) (x y : V) (H Hs : Hp) (Q : VK), Same Hs H → Rp Hs a x → Rp Hs b y → g a b = some w → (∀ v H' Hs', Ext H Hs H' Hs' → Rp Hs' w v → Q v H') → r x y H Q
def GCmp (r : R2) (g : PyData → PyData → Option Bool) : Prop := ∀ (a b : PyData) (k : Bool) (x y : V) (H Hs : Hp) (Q : VK), Same Hs H → Rp Hs a x → Rp Hs b y → g a b = some k → Q (.bl k) H → r x y H Q
def f2 (g : PyData → PyData → Option PyData) (f1 f2 : Ev → Option PyData) : Ev → Option PyData := fun ev => (f1 ev).bind fun a => (f2 ev).bind fun b => g a b
def f2T (g : PyData → PyData → Option Bool) (f1 f2 : Ev → Option PyData) : Ev → Option Bool := fun ev => (f1 ev).bind fun a => (f2 ev).bind fun b => g a b
theorem use2 {f1 f2 : Ev → Option PyData} {σ : L2.St} {H Hs : Hp} {ev : Ev} {a b : PyData} {R : V → V → Hp → Prop} (s : Same Hs H) (r : REnv Hs σ ev) (h1 : f1 ev = some a) (h2 : f2 ev = some b)
    (k : ∀ x y H' Hs', Ext H Hs H' Hs' → Rp Hs' a x → Rp Hs' b y → R x y H') : tPu f1 σ H fun x H1 => tPu f2 σ H1 fun y H2 => R x y H2 :=
  ⟨Hs, ev, a, s, r, h1, fun x H1 Hs1 e1 r1 => ⟨Hs1, ev, b, e1.sub, r.mono e1.small, h2, fun y H2 Hs2 e2 r2 => k x y H2 Hs2 (e1.trans e2) (r1.mono e2.small) r2⟩⟩
theorem pu_op {op : Operator} {r : R2} {g : PyData → PyData → Option PyData} {a b : Expr} {fa fb : Ev → Option PyData} {pos : Pos} (ho : OpR X (binaryOp op) r) (hg : GOp r g) (ha : PU X a fa) (hb : PU X b fb) : PU X (.BinOp a op b pos) (f2 g fa fb) :=
  ⟨conv (pe_op ho ha.pe hb.pe) fun σ H Q ⟨Hs, ev, w, s, re, e, q⟩ => by
    obtain ⟨wa, e1, e⟩ := bindS e
    obtain ⟨wb, e2, e⟩ := bindS e
    exact use2 s re e1 e2 fun x y H' Hs' ex rx ry => hg wa wb w x y H' Hs' Q ex.sub rx ry e fun v H2 Hs2 ex2 r2 => q v H2 Hs2 (ex.trans ex2) r2⟩
def fB (f : Ev → Option Bool) : Ev → Option PyData := fun ev => (f ev).map .bool
theorem fB_some {f : Ev → Option Bool} {ev : Ev} {w : PyData} (h : fB f ev = some w) : ∃ b, f ev = some b ∧ w = .bool b := by
  unfold fB at h
  cases e : f ev with
  | none => rw [e] at h; cases h
  | some b =>
    rw [e] at h
    cases h
    exact ⟨b, rfl, rfl⟩
theorem pu_cmp {op : CmpOp} {r : R2} {g : PyData → PyData → Option Bool} {a b : Expr} {fa fb : Ev → Option PyData} {pos : Pos} (ho : OpR X (compareOp op) r) (hg : GCmp r g) (ha : PU X a fa) (hb : PU X b fb) (hm : behindInMarks op b = false) : PU X (.Compare a [op] [b] pos) (fB (f2T g fa fb)) :=
  ⟨conv (pe_cmpR ho ha.pe hb.pe hm) fun σ H Q ⟨Hs, ev, w, s, re, e, q⟩ => by
    obtain ⟨k, e0, rfl⟩ := fB_some e
    obtain ⟨wa, e1, e⟩ := bindS e0
    obtain ⟨wb, e2, e⟩ := bindS e
    exact use2 s re e1 e2 fun x y H' Hs' ex rx ry => hg wa wb k x y H' Hs' Q ex.sub rx ry e (q _ H' Hs' ex (.bl k))⟩
theorem put_cmp {op : CmpOp} {r : R2} {g : PyData → PyData → Option Bool} {a b : Expr} {fa fb : Ev → Option PyData} {pos : Pos} (ho : OpR X (compareOp op) r) (hg : GCmp r g) (ha : PU X a fa) (hb : PU X b fb) (hm : behindInMarks op b = false) : PUT X (.Compare a [op] [b] pos) (f2T g fa fb) :=
  ⟨convT (pt_cmpR ho ha.pe hb.pe hm) fun σ H Q ⟨Hs, ev, k, s, re, e, q⟩ => by
    obtain ⟨wa, e1, e⟩ := bindS e
    obtain ⟨wb, e2, e⟩ := bindS e
    exact use2 (R := fun x y H2 => r x y H2 fun x H' => ∃ k, x = .bl k ∧ Q k H') s re e1 e2 fun x y H' Hs' ex rx ry => hg wa wb k x y H' Hs' _ ex.sub rx ry e ⟨k, rfl, q H' Hs' ex⟩⟩
/-- a op1 b op2 c -/
def fChain (g g' : PyData → PyData → Option Bool) (f1 f2 f3 : Ev → Option PyData) : Ev → Option Bool := fun ev => (f1 ev).bind fun a => (f2 ev).bind fun b => (g a b).bind fun k => if k = true then (f3 ev).bind fun c => g' b c else some false
theorem chain_use {r r' : R2} {g g' : PyData → PyData → Option Bool} {fa fb fc : Ev → Option PyData} {σ : L2.St} {H Hs : Hp} {ev : Ev} {k : Bool} {Q : VK} (hg : GCmp r g) (hg' : GCmp r' g') (s : Same Hs H) (re : REnv Hs σ ev) (e : fChain g g' fa fb fc ev = some k)
    (q : ∀ H' Hs', Ext H Hs H' Hs' → Q (.bl k) H') : tChain r r' (tPu fa) (tPu fb) (tPu fc) σ H Q := by
  obtain ⟨wa, e1, e⟩ := bindS e
  obtain ⟨wb, e2, e⟩ := bindS e
  obtain ⟨k1, e3, e⟩ := bindS e
  refine use2 (R := fun x y H2 => r x y H2 fun z H3 => ∃ k, z = .bl k ∧ (if k = true then tPu fc σ H3 fun w' H4 => r' y w' H4 Q else Q (.bl false) H3)) s re e1 e2 fun x y H' Hs' ex rx ry => ?_
  refine hg wa wb k1 x y H' Hs' _ ex.sub rx ry e3 ⟨k1, rfl, ?_⟩
  cases k1 with
  | false =>
    rw [if_neg Bool.false_ne_true] at e ⊢
    cases e
    exact q H' Hs' ex
  | true =>
    rw [if_pos rfl] at e ⊢
    obtain ⟨wc, e4, e⟩ := bindS e
    exact ⟨Hs', ev, wc, ex.sub, re.mono ex.small, e4, fun z H2 Hs2 ex2 r2 => hg' wb wc k y z H2 Hs2 Q ex2.sub (ry.mono ex2.small) r2 e (q H2 Hs2 (ex.trans ex2))⟩
theorem pu_chain {op op' : CmpOp} {r r' : R2} {g g' : PyData → PyData → Option Bool} {a b c : Expr} {fa fb fc : Ev → Option PyData} {pos : Pos} (ho : OpR X (compareOp op) r) (hg : GCmp r g) (ho' : OpR X (compareOp op') r') (hg' : GCmp r' g') (ha : PU X a fa) (hb : PU X b fb) (hc : PU X c fc)
    (hm : lastMarks [op, op'] [b, c] = false := by with_unfolding_all rfl) : PU X (.Compare a [op, op'] [b, c] pos) (fB (fChain g g' fa fb fc)) :=
  ⟨conv (pe_chain ho ho' ha.pe hb.pe hc.pe hm) fun σ H Q ⟨Hs, ev, w, s, re, e, q⟩ => by
    obtain ⟨k, e0, rfl⟩ := fB_some e
    exact chain_use hg hg' s re e0 fun H' Hs' ex => q _ H' Hs' ex (.bl k)⟩
theorem put_chain {op op' : CmpOp} {r r' : R2} {g g' : PyData → PyData → Option Bool} {a b c : Expr} {fa fb fc : Ev → Option PyData} {pos : Pos} (ho : OpR X (compareOp op) r) (hg : GCmp r g) (ho' : OpR X (compareOp op') r') (hg' : GCmp r' g') (ha : PU X a fa) (hb : PU X b fb) (hc : PU X c fc)
    (hm : lastMarks [op, op'] [b, c] = false := by with_unfolding_all rfl) : PUT X (.Compare a [op, op'] [b, c] pos) (fChain g g' fa fb fc) :=
  ⟨convT (pt_chain ho ho' ha.pe hb.pe hc.pe hm) fun σ H Q ⟨Hs, ev, k, s, re, e, q⟩ => chain_use (Q := fun x H' => ∃ k, x = .bl k ∧ Q k H') hg hg' s re e fun H' Hs' ex => ⟨k, rfl, q H' Hs' ex⟩⟩

/-! ### bools -/
def asB : PyData → Option Bool
  | .bool b => some b
  | _ => none
theorem asB_some {w : PyData} {b : Bool} (h : asB w = some b) : w = .bool b := by
  cases w <;> first | (cases h; rfl) | cases h
def fT (f : Ev → Option PyData) : Ev → Option Bool := fun ev => (f ev).bind asB
theorem Rp.bl_of {Hs : Hp} {b : Bool} {v : V} (r : Rp Hs (.bool b) v) : v = .bl b := by cases r; rfl
theorem put_val {e : Expr} {f : Ev → Option PyData} (h : PU X e f) (he : ∀ whole, isTrue e X.env whole = (do let v ← whole; standAt e.pos; holding [v] (truthy v)) := by intro _; rfl) : PUT X e (fT f) :=
  ⟨convT (pt_val h.pe he) fun σ H Q ⟨Hs, ev, k, s, re, e, q⟩ => by
    obtain ⟨w, e1, e⟩ := bindS e
    have ew := asB_some e
    subst ew
    exact ⟨Hs, ev, _, s, re, e1, fun v H' Hs' ex rv => ⟨k, rv.bl_of, q H' Hs' ex⟩⟩⟩
def fNot (f : Ev → Option Bool) : Ev → Option Bool := fun ev => (f ev).map (! ·)
def fAnd (f g : Ev → Option Bool) : Ev → Option Bool := fun ev => (f ev).bind fun b => if b = true then g ev else some false
def fOr (f g : Ev → Option Bool) : Ev → Option Bool := fun ev => (f ev).bind fun b => if b = true then some true else g ev
theorem map_not {o : Option Bool} {b : Bool} (h : o.map (! ·) = some b) : o = some (!b) := by
  cases o with
  | none => cases h
  | some a => cases h; simp
theorem put_not {a : Expr} {fa : Ev → Option Bool} {pos : Pos} (ha : PUT X a fa) : PUT X (.UnaryOp .Not a pos) (fNot fa) :=
  ⟨convT (pt_not ha.pt) fun σ H Q ⟨Hs, ev, k, s, re, e, q⟩ => ⟨Hs, ev, !k, s, re, map_not e, fun H' Hs' ex => by
    show Q (!(!k)) H'
    rw [Bool.not_not]; exact q H' Hs' ex⟩⟩
theorem pu_not {a : Expr} {fa : Ev → Option PyData} {pos : Pos} (ha : PU X a fa) : PU X (.UnaryOp .Not a pos) (fB (fNot (fT fa))) :=
  ⟨conv (pe_not ha.pe) fun σ H Q ⟨Hs, ev, w, s, re, e, q⟩ => by
    obtain ⟨k, e0, rfl⟩ := fB_some e
    obtain ⟨w, e1, e⟩ := bindS (map_not (o := fT fa ev) e0)
    have ew := asB_some e
    subst ew
    exact ⟨Hs, ev, _, s, re, e1, fun v H' Hs' ex rv => ⟨!k, rv.bl_of, q _ H' Hs' ex (by rw [Bool.not_not]; exact .bl k)⟩⟩⟩
variable {a b : Expr} {rest : List Expr} {pos : Pos}
theorem puw_and1 {fa : Ev → Option Bool} (ha : PUT X a fa) : PUW X (.BoolOp .And [a] pos) fa := ⟨pw_and1 ha.pt⟩
theorem puw_or1 {fa : Ev → Option Bool} (ha : PUT X a fa) : PUW X (.BoolOp .Or [a] pos) fa := ⟨pw_or1 ha.pt⟩
theorem puw_and {fa fb : Ev → Option Bool} (ha : PUT X a fa) (hb : PUW X (.BoolOp .And (b :: rest) pos) fb) : PUW X (.BoolOp .And (a :: b :: rest) pos) (fAnd fa fb) :=
  ⟨convW (pw_and ha.pt hb.pw) fun σ H Q ⟨Hs, ev, k, s, re, e, q⟩ => by
    obtain ⟨k1, e1, e⟩ := bindS e
    refine ⟨Hs, ev, k1, s, re, e1, fun H' Hs' ex => ?_⟩
    cases k1 with
    | true => exact iteT ⟨Hs', ev, k, ex.sub, re.mono ex.small, e, fun H2 Hs2 ex2 => q H2 Hs2 (ex.trans ex2)⟩
    | false => cases e; exact iteF (q H' Hs' ex)⟩
theorem puw_or {fa fb : Ev → Option Bool} (ha : PUT X a fa) (hb : PUW X (.BoolOp .Or (b :: rest) pos) fb) : PUW X (.BoolOp .Or (a :: b :: rest) pos) (fOr fa fb) :=
  ⟨convW (pw_or ha.pt hb.pw) fun σ H Q ⟨Hs, ev, k, s, re, e, q⟩ => by
    obtain ⟨k1, e1, e⟩ := bindS e
    refine ⟨Hs, ev, k1, s, re, e1, fun H' Hs' ex => ?_⟩
    cases k1 with
    | false => exact iteF ⟨Hs', ev, k, ex.sub, re.mono ex.small, e, fun H2 Hs2 ex2 => q H2 Hs2 (ex.trans ex2)⟩
    | true => cases e; exact iteT (q H' Hs' ex)⟩
theorem put_w {e : Expr} {f : Ev → Option Bool} (h : PUW X e f) : PUT X e f := ⟨h.pw.pt⟩
def fAndV (f g : Ev → Option PyData) : Ev → Option PyData := fun ev => (f ev).bind fun w => (asB w).bind fun b => if b = true then g ev else some (.bool false)
def fOrV (f g : Ev → Option PyData) : Ev → Option PyData := fun ev => (f ev).bind fun w => (asB w).bind fun b => if b = true then some (.bool true) else g ev
theorem pu_one {op : BoolOp} {fa : Ev → Option PyData} (ha : PU X a fa) : PU X (.BoolOp op [a] pos) fa := ⟨pe_one ha.pe⟩
theorem pu_and {fa fb : Ev → Option PyData} (ha : PU X a fa) (hb : PU X (.BoolOp .And (b :: rest) pos) fb) : PU X (.BoolOp .And (a :: b :: rest) pos) (fAndV fa fb) :=
  ⟨conv (pe_and ha.pe hb.pe) fun σ H Q ⟨Hs, ev, w, s, re, e, q⟩ => by
    obtain ⟨wa, e1, e⟩ := bindS e
    obtain ⟨k, e2, e⟩ := bindS e
    have ew := asB_some e2
    subst ew
    refine ⟨Hs, ev, _, s, re, e1, fun v H' Hs' ex rv => ⟨k, rv.bl_of, ?_⟩⟩
    cases k with
    | true => exact iteT ⟨Hs', ev, w, ex.sub, re.mono ex.small, e, fun v H2 Hs2 ex2 r => q v H2 Hs2 (ex.trans ex2) r⟩
    | false => cases e; exact iteF (q _ H' Hs' ex (.bl false))⟩
theorem pu_or {fa fb : Ev → Option PyData} (ha : PU X a fa) (hb : PU X (.BoolOp .Or (b :: rest) pos) fb) : PU X (.BoolOp .Or (a :: b :: rest) pos) (fOrV fa fb) :=
  ⟨conv (pe_or ha.pe hb.pe) fun σ H Q ⟨Hs, ev, w, s, re, e, q⟩ => by
    obtain ⟨wa, e1, e⟩ := bindS e
    obtain ⟨k, e2, e⟩ := bindS e
    have ew := asB_some e2
    subst ew
    refine ⟨Hs, ev, _, s, re, e1, fun v H' Hs' ex rv => ⟨k, rv.bl_of, ?_⟩⟩
    cases k with
    | false => exact iteF ⟨Hs', ev, w, ex.sub, re.mono ex.small, e, fun v H2 Hs2 ex2 r => q v H2 Hs2 (ex.trans ex2) r⟩
    | true => cases e; exact iteT (q _ H' Hs' ex (.bl true))⟩
def fIf (c : Ev → Option Bool) (f g : Ev → Option PyData) : Ev → Option PyData := fun ev => (c ev).bind fun b => if b = true then f ev else g ev
theorem pu_ifE {c : Expr} {fc : Ev → Option Bool} {fa fb : Ev → Option PyData} (hc : PUT X c fc) (ha : PU X a fa) (hb : PU X b fb) : PU X (.IfExp c a b pos) (fIf fc fa fb) :=
  ⟨conv (pe_ifExp hc.pt ha.pe hb.pe) fun σ H Q ⟨Hs, ev, w, s, re, e, q⟩ => by
    obtain ⟨k, e1, e⟩ := bindS e
    refine ⟨Hs, ev, k, s, re, e1, fun H' Hs' ex => ?_⟩
    cases k with
    | true => exact iteT ⟨Hs', ev, w, ex.sub, re.mono ex.small, e, fun v H2 Hs2 ex2 r => q v H2 Hs2 (ex.trans ex2) r⟩
    | false => exact iteF ⟨Hs', ev, w, ex.sub, re.mono ex.small, e, fun v H2 Hs2 ex2 r => q v H2 Hs2 (ex.trans ex2) r⟩⟩
end
end Pu

set_option Elab.async false
set_option linter.all false
set_option maxRecDepth 100000
set_option maxHeartbeats 2000000
namespace Pu
open PySem PySem.Spec PyProof.Rows L2

theorem Rp.int_of {Hs : Hp} {i : Int} {v : V} (r : Rp Hs (.int i) v) : v = .int i := by cases r; rfl
theorem Rp.str_of {Hs : Hp} {x : Str} {v : V} (r : Rp Hs (.str x) v) : v = .str x := by cases r; rfl
theorem Rp.non_of {Hs : Hp} {v : V} (r : Rp Hs .none v) : v = .non := by cases r; rfl
theorem Rp.lst_of {Hs : Hp} {ds : List PyData} {v : V} (r : Rp Hs (.list ds) v) : ∃ a xs, v = .ref a ∧ Hs a = some (.lst xs) ∧ RpAll Hs ds xs := by
  cases r with
  | lst h r => exact ⟨_, _, rfl, h, r⟩
theorem Rp.tup_of {Hs : Hp} {ds : List PyData} {v : V} (r : Rp Hs (.tuple ds) v) : ∃ a xs, v = .ref a ∧ Hs a = some (.tup xs) ∧ RpAll Hs ds xs := by
  cases r with
  | tup h r => exact ⟨_, _, rfl, h, r⟩
theorem Rp.dic_of {Hs : Hp} {ps : List (PyData × PyData)} {v : V} (r : Rp Hs (.dict ps) v) (ho : isOb ps = false) : ∃ a kvs, v = .ref a ∧ Hs a = some (.dK kvs) ∧ RpKV Hs ps kvs := by
  cases r with
  | dic h r => exact ⟨_, _, rfl, h, r⟩
  | ob h r => cases ho
/-- a new list, a new tuple -/
theorem Rp.newL {Hs : Hp} {ds : List PyData} {xs : List V} {p : Addr} (hp : Hs p = none) (r : RpAll Hs ds xs) : Rp (upd Hs p (.lst xs)) (.list ds) (.ref p) :=
  .lst upd_same (RpAll.mono (fun b o e => by rw [upd_ne (ne_of_none e hp)]; exact e) r)
theorem Rp.newT {Hs : Hp} {ds : List PyData} {xs : List V} {p : Addr} (hp : Hs p = none) (r : RpAll Hs ds xs) : Rp (upd Hs p (.tup xs)) (.tuple ds) (.ref p) :=
  .tup upd_same (RpAll.mono (fun b o e => by rw [upd_ne (ne_of_none e hp)]; exact e) r)

/-! ### + - * // % -/
def gAdd : PyData → PyData → Option PyData
  | .int i, .int j => some (.int (i + j))
  | .str a, .str b => if a.length + b.length ≤ sizeLine then some (.str (a ++ b)) else none
  | .list a, .list b => if a.length + b.length ≤ sizeLine then some (.list (a ++ b)) else none
  | _, _ => none
def rAdd : R2 := fun x y H Q => (∃ i j, x = .int i ∧ y = .int j ∧ Q (.int (i + j)) H) ∨ (∃ i j, x = .str i ∧ y = .str j ∧ i.length + j.length ≤ sizeLine ∧ Q (.str (i ++ j)) H) ∨ rCat x y H Q
section
variable {X : Cx}
theorem o_add : OpR X (binaryOp .Add) rAdd := op_add.or (op_add_str.or op_cat)
theorem g_add : GOp rAdd gAdd := fun a b w x y H Hs Q s ra rb e q => by
  unfold gAdd at e
  split at e
  · cases e
    exact .inl ⟨_, _, ra.int_of, rb.int_of, q _ H Hs (.refl s) (.int _)⟩
  · split at e
    · cases e
      exact .inr (.inl ⟨_, _, ra.str_of, rb.str_of, by assumption, q _ H Hs (.refl s) (.str _)⟩)
    · cases e
  · split at e
    · cases e
      obtain ⟨p, xs, rfl, hp, r1⟩ := ra.lst_of
      obtain ⟨p2, xs2, rfl, hp2, r2⟩ := rb.lst_of
      refine .inr (.inr ⟨p, p2, xs, xs2, rfl, rfl, s _ _ hp, s _ _ hp2, by rw [← r1.len, ← r2.len]; assumption, fun l hl => ?_⟩)
      have ex := (Ext.refl s).laid hl (.lst (xs ++ xs2))
      exact q _ _ _ ex (Rp.newL (s.free hl) (r1.append r2))
    · cases e
  · cases e
def gI (f : Int → Int → Int) : PyData → PyData → Option PyData
  | .int i, .int j => some (.int (f i j))
  | _, _ => none
def gIc (C : Int → Int → Bool) (f : Int → Int → Int) : PyData → PyData → Option PyData
  | .int i, .int j => if C i j then some (.int (f i j)) else none
  | _, _ => none
theorem g_I {f : Int → Int → Int} : GOp (rI0 fun i j => .int (f i j)) (gI f) := fun a b w x y H Hs Q s ra rb e q => by
  unfold gI at e
  split at e
  · cases e
    exact ⟨_, _, ra.int_of, rb.int_of, q _ H Hs (.refl s) (.int _)⟩
  · cases e
theorem g_Ic {D : Int → Int → Prop} {C : Int → Int → Bool} {f : Int → Int → Int} (k : ∀ i j, C i j = true → D i j) : GOp (rI D fun i j => .int (f i j)) (gIc C f) := fun a b w x y H Hs Q s ra rb e q => by
  unfold gIc at e
  split at e
  · split at e
    · cases e
      exact ⟨_, _, ra.int_of, rb.int_of, k _ _ (by assumption), q _ H Hs (.refl s) (.int _)⟩
    · cases e
  · cases e
theorem o_sub : OpR X (binaryOp .Sub) (rI0 fun i j => .int (i - j)) := op_sub
abbrev gSub := gI fun i j => i - j
theorem g_sub : GOp (rI0 fun i j => .int (i - j)) gSub := g_I
abbrev gMul := gIc (fun i j => decide (i.natAbs.log2 + j.natAbs.log2 < 1000000)) fun i j => i * j
theorem o_mul : OpR X (binaryOp .Mult) (rI CMulW fun i j => .int (i * j)) := op_mulW
theorem g_mul : GOp (rI CMulW fun i j => .int (i * j)) gMul := g_Ic fun i j h => (of_decide_eq_true h : i.natAbs.log2 + j.natAbs.log2 < 1000000)
def fNeg (fa : Ev → Option PyData) : Ev → Option PyData := fun ev => (fa ev).bind fun w => match w with | .int i => some (.int (-i)) | _ => none
theorem pu_neg {a : Expr} {fa : Ev → Option PyData} {pos : Pos} (ha : PU X a fa) : PU X (.UnaryOp .USub a pos) (fNeg fa) :=
  ⟨conv (pe_un un_neg ha.pe) fun σ H Q ⟨Hs, ev, w, s, re, e, q⟩ => by
    obtain ⟨wa, e1, e⟩ := bindS e
    split at e
    · cases e
      exact ⟨Hs, ev, _, s, re, e1, fun v H' Hs' ex r => ⟨_, r.int_of, q _ H' Hs' ex (.int _)⟩⟩
    · cases e⟩

/-! ### comparisons -/
def gLt : PyData → PyData → Option Bool
  | .int i, .int j => some (decide (i < j))
  | .str a, .str b => some (decide (a.cps.toList < b.cps.toList))
  | _, _ => none
def gLe : PyData → PyData → Option Bool
  | .int i, .int j => some (decide (i ≤ j))
  | .str a, .str b => some (!decide (b.cps.toList < a.cps.toList))
  | _, _ => none
def gGt : PyData → PyData → Option Bool
  | .int i, .int j => some (decide (j < i))
  | .str a, .str b => some (decide (b.cps.toList < a.cps.toList))
  | _, _ => none
def gGe : PyData → PyData → Option Bool
  | .int i, .int j => some (decide (j ≤ i))
  | .str a, .str b => some (!decide (a.cps.toList < b.cps.toList))
  | _, _ => none
def rOrd (f : Int → Int → Bool) (g : Str → Str → Bool) : R2 := fun x y H Q => (∃ i j, x = .int i ∧ y = .int j ∧ Q (.bl (f i j)) H) ∨ (∃ i j, x = .str i ∧ y = .str j ∧ Q (.bl (g i j)) H)
theorem o_lt : OpR X (compareOp .Lt) (rOrd (fun i j => decide (i < j)) fun a b => decide (a.cps.toList < b.cps.toList)) := op_lt.or op_lt_str
theorem o_le : OpR X (compareOp .LtE) (rOrd (fun i j => decide (i ≤ j)) fun a b => !decide (b.cps.toList < a.cps.toList)) := op_le.or op_le_str
theorem o_gt : OpR X (compareOp .Gt) (rOrd (fun i j => decide (j < i)) fun a b => decide (b.cps.toList < a.cps.toList)) := op_gt.or op_gt_str
theorem o_ge : OpR X (compareOp .GtE) (rOrd (fun i j => decide (j ≤ i)) fun a b => !decide (a.cps.toList < b.cps.toList)) := op_ge.or op_ge_str
theorem g_lt : GCmp (rOrd (fun i j => decide (i < j)) fun a b => decide (a.cps.toList < b.cps.toList)) gLt := fun a b k x y H Hs Q s ra rb e q => by
  unfold gLt at e
  split at e
  · cases e; exact .inl ⟨_, _, ra.int_of, rb.int_of, q⟩
  · cases e; exact .inr ⟨_, _, ra.str_of, rb.str_of, q⟩
  · cases e
theorem g_le : GCmp (rOrd (fun i j => decide (i ≤ j)) fun a b => !decide (b.cps.toList < a.cps.toList)) gLe := fun a b k x y H Hs Q s ra rb e q => by
  unfold gLe at e
  split at e
  · cases e; exact .inl ⟨_, _, ra.int_of, rb.int_of, q⟩
  · cases e; exact .inr ⟨_, _, ra.str_of, rb.str_of, q⟩
  · cases e
theorem g_gt : GCmp (rOrd (fun i j => decide (j < i)) fun a b => decide (b.cps.toList < a.cps.toList)) gGt := fun a b k x y H Hs Q s ra rb e q => by
  unfold gGt at e
  split at e
  · cases e; exact .inl ⟨_, _, ra.int_of, rb.int_of, q⟩
  · cases e; exact .inr ⟨_, _, ra.str_of, rb.str_of, q⟩
  · cases e
theorem g_ge : GCmp (rOrd (fun i j => decide (j ≤ i)) fun a b => !decide (a.cps.toList < b.cps.toList)) gGe := fun a b k x y H Hs Q s ra rb e q => by
  unfold gGe at e
  split at e
  · cases e; exact .inl ⟨_, _, ra.int_of, rb.int_of, q⟩
  · cases e; exact .inr ⟨_, _, ra.str_of, rb.str_of, q⟩
  · cases e

/-! ### == != -/
def eqG (d e : PyData) : Option Bool := if d.plain && e.plain && decide (min d.depth e.depth ≤ 64) then some (PyData.eqv d e) else none
def gEq : PyData → PyData → Option Bool
  | .none, .none => some true
  | .bool a, .bool b => some (a == b)
  | .int a, .int b => some (a == b)
  | .str a, .str b => some (a == b)
  | .none, .int _ => some false
  | .none, .bool _ => some false
  | .none, .str _ => some false
  | .int _, .none => some false
  | .int _, .str _ => some false
  | .str _, .none => some false
  | .str _, .int _ => some false
  | .bool _, .none => some false
  | .bool _, .str _ => some false
  | .str _, .bool _ => some false
  | .list [], .list [] => some true
  | d, e => eqG d e
def gNe (d e : PyData) : Option Bool := (gEq d e).map (! ·)
/-- two things without dicts, one of them not too deep -/
def rEqR (K : PySem.W.Frag) (neg : Bool) : R2 := fun x y H Q => ∃ p q : PyData, (p.plain = true ∧ q.plain = true ∧ min p.depth q.depth ≤ 64) ∧ Dp K H x p ∧ Dp K H y q ∧ Q (.bl (neg ^^ PyData.eqv p q)) H
theorem op_eqR (hu : X.A.units + 64 < cLine) : OpR X (compareOp .Eq) (rEqR X.K false) := fun pins s σ H x y v u Q I rx ry ⟨p, q, ⟨pp, pq, hm⟩, dx, dy, k⟩ => by
  obtain ⟨as, r1⟩ := Dp.reads I p x v dx rx
  obtain ⟨bs, r2⟩ := Dp.reads I q y u dy ry
  rw [Bool.false_xor] at k
  exact SeqAt.eq_plain r1 r2 pp pq (by have := hm; omega) ⟨.bl _, H, I, rfl, k⟩
theorem op_neR (hu : X.A.units + 64 < cLine) : OpR X (compareOp .NotEq) (rEqR X.K true) := fun pins s σ H x y v u Q I rx ry ⟨p, q, ⟨pp, pq, hm⟩, dx, dy, k⟩ => by
  obtain ⟨as, r1⟩ := Dp.reads I p x v dx rx
  obtain ⟨bs, r2⟩ := Dp.reads I q y u dy ry
  rw [Bool.true_xor] at k
  exact SeqAt.ne_plain r1 r2 pp pq (by have := hm; omega) ⟨.bl _, H, I, rfl, k⟩
def rEqA (K : PySem.W.Frag) : R2 := fun x y H Q => rEq x y H Q ∨ rEqR K false x y H Q
def rNeA (K : PySem.W.Frag) : R2 := fun x y H Q => rNe x y H Q ∨ rEqR K true x y H Q
theorem o_eq (hu : X.A.units + 64 < cLine) : OpR X (compareOp .Eq) (rEqA X.K) := op_eq.or (op_eqR hu)
theorem o_ne (hu : X.A.units + 64 < cLine) : OpR X (compareOp .NotEq) (rNeA X.K) := op_ne.or (op_neR hu)
mutual
theorem Rp.dp {K : PySem.W.Frag} {H : Hp} : ∀ {d : PyData} {v : V}, d.plain = true → Rp H d v → Dp K H v d
  | _, _, _, .non => .non
  | _, _, _, .bl b => .bl b
  | _, _, _, .int i => .int i
  | _, _, _, .str x => .str x
  | .list ds, _, c, .lst h r => .lst (SqL.of h) (RpAll.dp (by unfold PyData.plain at c; exact c) r)
  | .tuple ds, _, c, .tup h r => .tup (SqT.of h) (RpAll.dp (by unfold PyData.plain at c; exact c) r)
  | .dict ps, _, c, .dic _ _ => by unfold PyData.plain at c; cases c
  | .dict _, _, c, .ob _ _ => by unfold PyData.plain at c; cases c
theorem RpAll.dp {K : PySem.W.Frag} {H : Hp} : ∀ {ds : List PyData} {vs : List V}, PyData.plainAll ds = true → RpAll H ds vs → DpAll K H vs ds
  | _, _, _, .nil => .nil
  | d :: ds, _, c, .cons r t => by
    unfold PyData.plainAll at c
    rw [Bool.and_eq_true] at c
    exact .cons (Rp.dp c.1 r) (RpAll.dp c.2 t)
end
theorem eqR_of {K : PySem.W.Frag} {neg : Bool} {a b : PyData} {k : Bool} {x y : V} {H Hs : Hp} {Q : VK} (s : Same Hs H) (ra : Rp Hs a x) (rb : Rp Hs b y) (e : eqG a b = some k) (q : Q (.bl (neg ^^ k)) H) : rEqR K neg x y H Q := by
  unfold eqG at e
  split at e
  · rename_i h
    cases e
    rw [Bool.and_eq_true, Bool.and_eq_true] at h
    exact ⟨a, b, ⟨h.1.1, h.1.2, of_decide_eq_true h.2⟩, (ra.mono s).dp h.1.1, (rb.mono s).dp h.1.2, q⟩
  · cases e
theorem eq_cases {K : PySem.W.Frag} {a b : PyData} {k : Bool} {x y : V} {H Hs : Hp} (s : Same Hs H) (ra : Rp Hs a x) (rb : Rp Hs b y) (e : gEq a b = some k) : (scal x y = true ∧ decide (x = y) = k) ∨ ∀ (neg : Bool) (Q : VK), Q (.bl (neg ^^ k)) H → rEqR K neg x y H Q := by
  unfold gEq at e
  split at e
  case h_1 => cases e; rw [ra.non_of, rb.non_of]; exact .inl ⟨rfl, rfl⟩
  case h_2 => cases e; rw [ra.bl_of, rb.bl_of]; exact .inl ⟨rfl, dec_bl⟩
  case h_3 => cases e; rw [ra.int_of, rb.int_of]; exact .inl ⟨rfl, dec_int⟩
  case h_4 => cases e; rw [ra.str_of, rb.str_of]; exact .inl ⟨rfl, dec_str⟩
  case h_5 => cases e; rw [ra.non_of, rb.int_of]; exact .inl ⟨rfl, rfl⟩
  case h_6 => cases e; rw [ra.non_of, rb.bl_of]; exact .inl ⟨rfl, rfl⟩
  case h_7 => cases e; rw [ra.non_of, rb.str_of]; exact .inl ⟨rfl, rfl⟩
  case h_8 => cases e; rw [ra.int_of, rb.non_of]; exact .inl ⟨rfl, rfl⟩
  case h_9 => cases e; rw [ra.int_of, rb.str_of]; exact .inl ⟨rfl, rfl⟩
  case h_10 => cases e; rw [ra.str_of, rb.non_of]; exact .inl ⟨rfl, rfl⟩
  case h_11 => cases e; rw [ra.str_of, rb.int_of]; exact .inl ⟨rfl, rfl⟩
  case h_12 => cases e; rw [ra.bl_of, rb.non_of]; exact .inl ⟨rfl, rfl⟩
  case h_13 => cases e; rw [ra.bl_of, rb.str_of]; exact .inl ⟨rfl, rfl⟩
  case h_14 => cases e; rw [ra.str_of, rb.bl_of]; exact .inl ⟨rfl, rfl⟩
  case h_15 => exact .inr fun neg Q q => eqR_of (k := k) s ra rb (by cases e; rfl) q
  case h_16 => exact .inr fun neg Q q => eqR_of s ra rb e q
theorem g_eq {K : PySem.W.Frag} : GCmp (rEqA K) gEq := fun a b k x y H Hs Q s ra rb e q => by
  rcases eq_cases (K := K) s ra rb e with ⟨h1, h2⟩ | h
  · exact .inl ⟨h1, by rw [h2]; exact q⟩
  · exact .inr (h false Q (by rw [Bool.false_xor]; exact q))
theorem g_ne {K : PySem.W.Frag} : GCmp (rNeA K) gNe := fun a b k x y H Hs Q s ra rb e q => by
  rcases eq_cases (K := K) s ra rb (map_not e) with ⟨h1, h2⟩ | h
  · exact .inl ⟨h1, by rw [h2, Bool.not_not]; exact q⟩
  · exact .inr (h true Q (by rw [Bool.true_xor, Bool.not_not]; exact q))

/-! ### in, not in -/
def inS (s t : Str) : Bool := !(Builtin.Str.occurrences t s 0 t.length 1).isEmpty
theorem inS_one (c : Nat) (z : Str) : inS ⟨#[c]⟩ z = decide (c ∈ z.cps.toList) := PySem.StrLaws.found_one z c
def flatD : PyData → Bool
  | .none => true
  | .bool _ => true
  | .int _ => true
  | .str _ => true
  | _ => false
def eqD : PyData → PyData → Bool
  | .none, .none => true
  | .bool a, .bool b => a == b
  | .bool a, .int b => (if a then 1 else 0) == b
  | .int a, .bool b => a == (if b then 1 else 0)
  | .int a, .int b => a == b
  | .str a, .str b => a == b
  | _, _ => false
def gIn : PyData → PyData → Option Bool
  | .str s, .str t => some (inS s t)
  | x, .list ds => if flatD x && ds.all flatD then some (ds.any fun y => eqD y x) else none
  | x, .tuple ds => if flatD x && ds.all flatD then some (ds.any fun y => eqD y x) else none
  | _, _ => none
def gNi (d e : PyData) : Option Bool := (gIn d e).map (! ·)
theorem flat_of {Hs : Hp} {d : PyData} {v : V} (r : Rp Hs d v) (h : flatD d = true) : flatV v = true := by
  cases r <;> first | rfl | cases h
theorem eqV_of {Hs : Hp} {d e : PyData} {v u : V} (r : Rp Hs d v) (r' : Rp Hs e u) (h : flatD d = true) (h' : flatD e = true) : eqV v u = eqD d e := by
  cases r <;> first | (cases r' <;> first | rfl | cases h') | cases h
theorem allF_of {Hs : Hp} : ∀ {ds : List PyData} {vs : List V}, RpAll Hs ds vs → ds.all flatD = true → vs.all flatV = true
  | _, _, .nil, _ => rfl
  | _, _, .cons r t, h => by
    rw [List.all_cons, Bool.and_eq_true] at h ⊢
    exact ⟨flat_of r h.1, allF_of t h.2⟩
theorem inV_of {Hs : Hp} {x : PyData} {u : V} (rx : Rp Hs x u) (hx : flatD x = true) : ∀ {ds : List PyData} {vs : List V}, RpAll Hs ds vs → ds.all flatD = true → inV u vs = ds.any fun y => eqD y x
  | _, _, .nil, _ => rfl
  | _, _, .cons (d := d) (v := v) (ds := ds) (vs := vs) r t, h => by
    rw [List.all_cons, Bool.and_eq_true] at h
    have ih := inV_of rx hx t h.2
    unfold inV at ih ⊢
    rw [List.any_cons, List.any_cons, ih, eqV_of r rx h.1 hx]
def rInA (K : PySem.W.Frag) (neg : Bool) : R2 := fun x y H Q => (∃ i j, x = .str i ∧ y = .str j ∧ Q (.bl (neg ^^ inS i j)) H) ∨ rIn K neg x y H Q
theorem o_in : OpR X (compareOp .In) (rInA X.K false) := by
  intro pins s σ H x y v u Q I rx ry h
  rcases h with ⟨i, j, ex, ey, q⟩ | h
  · exact op_in_str pins s σ H x y v u Q I rx ry ⟨i, j, ex, ey, by rw [Bool.false_xor] at q; exact q⟩
  · exact op_in_seq pins s σ H x y v u Q I rx ry h
theorem o_ni : OpR X (compareOp .NotIn) (rInA X.K true) := by
  intro pins s σ H x y v u Q I rx ry h
  rcases h with ⟨i, j, ex, ey, q⟩ | h
  · exact L2.op_notIn_str pins s σ H x y v u Q I rx ry ⟨i, j, ex, ey, by rw [Bool.true_xor] at q; exact q⟩
  · exact op_notIn_seq pins s σ H x y v u Q I rx ry h
theorem in_cases {K : PySem.W.Frag} {neg : Bool} {a b : PyData} {k : Bool} {x y : V} {H Hs : Hp} {Q : VK} (s : Same Hs H) (ra : Rp Hs a x) (rb : Rp Hs b y) (e : gIn a b = some k) (q : Q (.bl (neg ^^ k)) H) : rInA K neg x y H Q := by
  unfold gIn at e
  split at e
  · cases e
    exact .inl ⟨_, _, ra.str_of, rb.str_of, q⟩
  · split at e
    · rename_i h
      cases e
      rw [Bool.and_eq_true] at h
      obtain ⟨p, xs, rfl, hp, r⟩ := rb.lst_of
      refine .inr ⟨p, xs, rfl, .inl (SqL.of (s _ _ hp)), flat_of ra h.1, allF_of r h.2, ?_⟩
      rw [inV_of ra h.1 r h.2]
      cases neg with
      | true => rw [if_pos rfl]; rw [Bool.true_xor] at q; exact q
      | false => rw [if_neg Bool.false_ne_true]; rw [Bool.false_xor] at q; exact q
    · cases e
  · split at e
    · rename_i h
      cases e
      rw [Bool.and_eq_true] at h
      obtain ⟨p, xs, rfl, hp, r⟩ := rb.tup_of
      refine .inr ⟨p, xs, rfl, .inr (SqT.of (s _ _ hp)), flat_of ra h.1, allF_of r h.2, ?_⟩
      rw [inV_of ra h.1 r h.2]
      cases neg with
      | true => rw [if_pos rfl]; rw [Bool.true_xor] at q; exact q
      | false => rw [if_neg Bool.false_ne_true]; rw [Bool.false_xor] at q; exact q
    · cases e
  · cases e
theorem g_in {K : PySem.W.Frag} : GCmp (rInA K false) gIn := fun a b k x y H Hs Q s ra rb e q => in_cases s ra rb e (by rw [Bool.false_xor]; exact q)
theorem g_ni {K : PySem.W.Frag} : GCmp (rInA K true) gNi := fun a b k x y H Hs Q s ra rb e q => in_cases s ra rb (map_not e) (by rw [Bool.true_xor, Bool.not_not]; exact q)

/-! ### is, is not: None, True, False on the right -/
def isD : PyData → PyData → Option Bool
  | .none, .none => some true
  | .bool a, .bool b => some (a == b)
  | _, .none => some false
  | .none, .bool _ => some false
  | .int _, .bool _ => some false
  | .str _, .bool _ => some false
  | _, _ => none
def notIsD (d e : PyData) : Option Bool := (isD d e).map (! ·)
def rIsA (neg : Bool) : R2 := fun x y H Q => (y = .non ∧ Q (.bl (neg ^^ decide (x = .non))) H) ∨ (∃ b, y = .bl b ∧ (x = .non ∨ (∃ a, x = .bl a) ∨ (∃ i, x = .int i) ∨ (∃ z, x = .str z)) ∧ Q (.bl (neg ^^ decide (x = y))) H)
theorem o_is : OpR X (compareOp .Is) (rIsA false) := by
  intro pins s σ H x y v u Q I rx ry h
  rcases h with ⟨ey, q⟩ | ⟨b, ey, hx, q⟩
  · exact op_isN pins s σ H x y v u Q I rx ry ⟨ey, by rw [Bool.false_xor] at q; exact q⟩
  · subst ey
    cases (show u = Value.bool b from ry)
    rw [Bool.false_xor] at q
    rcases hx with rfl | ⟨a, rfl⟩ | ⟨i, rfl⟩ | ⟨z, rfl⟩
    · cases (show v = Value.none from rx)
      exact wpAny_is_other rfl (fun z => by cases z) ⟨.bl false, H, I, rfl, by simpa using q⟩
    · exact op_isBl pins s σ H _ _ v _ Q I rx (show L2.RelV (.bl b) (Value.bool b) from rfl) ⟨a, b, rfl, rfl, by simpa using q⟩
    · obtain ⟨t, rfl⟩ := rx
      exact wpAny_is_other rfl (fun z => by cases z) ⟨.bl false, H, I, rfl, by simpa using q⟩
    · obtain ⟨t, rfl⟩ := rx
      exact wpAny_is_other rfl (fun z => by cases z) ⟨.bl false, H, I, rfl, by simpa using q⟩
theorem o_isN : OpR X (compareOp .IsNot) (rIsA true) := by
  intro pins s σ H x y v u Q I rx ry h
  rcases h with ⟨ey, q⟩ | ⟨b, ey, hx, q⟩
  · exact op_notN pins s σ H x y v u Q I rx ry ⟨ey, by rw [Bool.true_xor] at q; exact q⟩
  · subst ey
    cases (show u = Value.bool b from ry)
    rw [Bool.true_xor] at q
    rcases hx with rfl | ⟨a, rfl⟩ | ⟨i, rfl⟩ | ⟨z, rfl⟩
    · cases (show v = Value.none from rx)
      exact wpAny_isNot_other rfl (fun z => by cases z) ⟨.bl true, H, I, rfl, by simpa using q⟩
    · exact op_notBl pins s σ H _ _ v _ Q I rx (show L2.RelV (.bl b) (Value.bool b) from rfl) ⟨a, b, rfl, rfl, by simpa using q⟩
    · obtain ⟨t, rfl⟩ := rx
      exact wpAny_isNot_other rfl (fun z => by cases z) ⟨.bl true, H, I, rfl, by simpa using q⟩
    · obtain ⟨t, rfl⟩ := rx
      exact wpAny_isNot_other rfl (fun z => by cases z) ⟨.bl true, H, I, rfl, by simpa using q⟩
theorem is_cases {neg : Bool} {a b : PyData} {k : Bool} {x y : V} {H Hs : Hp} {Q : VK} (ra : Rp Hs a x) (rb : Rp Hs b y) (e : isD a b = some k) (q : Q (.bl (neg ^^ k)) H) : rIsA neg x y H Q := by
  unfold isD at e
  cases rb with
  | non =>
    refine .inl ⟨rfl, ?_⟩
    cases ra <;> (cases e; simpa using q)
  | bl b =>
    cases ra with
    | non => cases e; exact .inr ⟨b, rfl, .inl rfl, by simpa using q⟩
    | bl a => cases e; exact .inr ⟨b, rfl, .inr (.inl ⟨a, rfl⟩), by rw [show decide (V.bl a = V.bl b) = (a == b) from dec_bl]; exact q⟩
    | int i => cases e; exact .inr ⟨b, rfl, .inr (.inr (.inl ⟨i, rfl⟩)), by simpa using q⟩
    | str z => cases e; exact .inr ⟨b, rfl, .inr (.inr (.inr ⟨z, rfl⟩)), by simpa using q⟩
    | lst h r => cases e
    | tup h r => cases e
    | dic h r => cases e
    | ob h r => cases e
  | _ => cases ra <;> cases e
theorem g_is : GCmp (rIsA false) isD := fun a b k x y H Hs Q s ra rb e q => is_cases ra rb e (by rw [Bool.false_xor]; exact q)
theorem g_isN : GCmp (rIsA true) notIsD := fun a b k x y H Hs Q s ra rb e q => is_cases ra rb (map_not e) (by rw [Bool.true_xor, Bool.not_not]; exact q)
end
end Pu

set_option Elab.async false
set_option linter.all false
set_option maxRecDepth 100000
set_option maxHeartbeats 2000000
namespace Pu
open PySem PySem.Spec PyProof.Rows L2

theorem PE.or {X : Cx} {e : Expr} {t u : TE} (h1 : PE X e t) (h2 : PE X e u) : PE X e (fun σ H Q => t σ H Q ∨ u σ H Q) :=
  ⟨fun pins s σ H Q I q => q.elim (h1.run pins s σ H Q I) (h2.run pins s σ H Q I)⟩

/-! ### dicts by keys -/
def keyB : PyData → Key → Bool
  | .int i, .inl j => decide (i = j)
  | .str a, .inr b => decide (a = b)
  | _, _ => false
theorem keyB_D (k k' : Key) : keyB (keyD k) k' = decide (k = k') := by
  cases k <;> cases k' <;> simp [keyB, keyD]
def dGet (ps : List (PyData × PyData)) (k : Key) : Option PyData := (ps.find? fun p => keyB p.1 k).map (·.2)
theorem RpKV.val {H : Hp} : ∀ {ps : List (PyData × PyData)} {kvs : List (Key × V)}, RpKV H ps kvs → ∀ k : Key, (dGet ps k = none ∧ valV kvs k = none) ∨ ∃ d v, dGet ps k = some d ∧ valV kvs k = some v ∧ Rp H d v
  | _, _, .nil, k => .inl ⟨rfl, rfl⟩
  | _, _, .cons (k := k0) (d := d) (v := v) (ps := ps) (kvs := kvs) r t, k => by
    by_cases e : k0 = k
    · refine .inr ⟨d, v, ?_, valV_pos e, r⟩
      unfold dGet
      rw [List.find?_cons_of_pos (by rw [keyB_D]; exact decide_eq_true e)]
      rfl
    · have e1 : dGet ((keyD k0, d) :: ps) k = dGet ps k := by
        unfold dGet
        rw [List.find?_cons_of_neg (by rw [keyB_D]; simp [e])]
      have e2 : valV ((k0, v) :: kvs) k = valV kvs k := valV_neg e
      rw [e1, e2]
      exact RpKV.val t k
theorem RpKV.len {H : Hp} : ∀ {ps : List (PyData × PyData)} {kvs : List (Key × V)}, RpKV H ps kvs → ps.length = kvs.length
  | _, _, .nil => rfl
  | _, _, .cons _ t => by rw [List.length_cons, List.length_cons, t.len]
def asKey : PyData → Option Key
  | .int i => some (.inl i)
  | .str x => some (.inr x)
  | _ => none
theorem asKey_some {w : PyData} {k : Key} (h : asKey w = some k) : w = keyD k := by
  cases w <;> first | (cases h; rfl) | cases h
theorem Rp.key {Hs : Hp} {k : Key} {v : V} (r : Rp Hs (keyD k) v) : v = kV k := by
  cases k with
  | inl i => exact r.int_of
  | inr x => exact r.str_of

/-! ### subscripts -/
def gIx : PyData → PyData → Option PyData
  | .list ds, .int i => atI ds i
  | .tuple ds, .int i => atI ds i
  | .str s, .int i => if s.length ≤ sizeLine then (atI s.cps.toList i).map fun c => .str ⟨#[c]⟩ else none
  | .dict ps, k => if isOb ps = true then none else (asKey k).bind fun k => dGet ps k
  | _, _ => none
section
variable {X : Cx}
theorem atI_all {Hs : Hp} {ds : List PyData} {xs : List V} {i : Int} {w : PyData} (r : RpAll Hs ds xs) (h : atI ds i = some w) : ∃ v, atI xs i = some v ∧ Rp Hs w v := by
  unfold atI at h ⊢
  rw [r.len] at h
  obtain ⟨j, e, h⟩ := bindS h
  rw [e]
  exact r.get h
theorem pu_ix {a b : Expr} {fa fb : Ev → Option PyData} {pos : Pos} (hu : X.A.units + 1 < cLine) (ha : PU X a fa) (hb : PU X b fb) (hs : PlainIx b) (hs' : NoSl b) : PU X (.Subscript a b pos) (f2 gIx fa fb) :=
  ⟨conv (PE.or (pe_ix ix_seq ha.pe hb.pe hs) (pe_dget hu ha.pe hb.pe hs')) fun σ H Q ⟨Hs, ev, w, s, re, e, q⟩ => by
    obtain ⟨wa, e1, e⟩ := bindS e
    obtain ⟨wb, e2, e⟩ := bindS e
    unfold gIx at e
    split at e
    · refine .inl (use2 (R := fun x y H2 => rIx X.K x y H2 Q) s re e1 e2 fun x y H' Hs' ex rx ry => ?_)
      obtain ⟨p, xs, rfl, hp, r⟩ := rx.lst_of
      obtain ⟨v, ev, rv⟩ := atI_all r e
      exact .inl ⟨p, xs, _, v, rfl, ry.int_of, SqL.of (ex.sub _ _ hp), ev, q v H' Hs' ex rv⟩
    · refine .inl (use2 (R := fun x y H2 => rIx X.K x y H2 Q) s re e1 e2 fun x y H' Hs' ex rx ry => ?_)
      obtain ⟨p, xs, rfl, hp, r⟩ := rx.tup_of
      obtain ⟨v, ev, rv⟩ := atI_all r e
      exact .inr (.inl ⟨p, xs, _, v, rfl, ry.int_of, SqT.of (ex.sub _ _ hp), ev, q v H' Hs' ex rv⟩)
    · split at e
      · rename_i hl
        refine .inl (use2 (R := fun x y H2 => rIx X.K x y H2 Q) s re e1 e2 fun x y H' Hs' ex rx ry => ?_)
        obtain ⟨c, e3, e4⟩ := Option.map_eq_some_iff.mp e
        subst e4
        exact .inr (.inr ⟨_, _, c, rx.str_of, ry.int_of, hl, e3, q _ H' Hs' ex (.str _)⟩)
      · cases e
    · refine .inr (use2 (R := fun x y H2 => ∃ a v, x = .ref a ∧ DGet H2 a y (some v) ∧ Q v H2) s re e1 e2 fun x y H' Hs' ex rx ry => ?_)
      split at e
      case isTrue => cases e
      rename_i ho
      obtain ⟨k, e3, e4⟩ := bindS e
      have ek := asKey_some e3
      subst ek
      obtain ⟨p, kvs, rfl, hp, r⟩ := rx.dic_of (Bool.eq_false_iff.mpr ho)
      rcases r.val k with ⟨z, _⟩ | ⟨d, v, z1, z2, rv⟩
      · rw [z] at e4; cases e4
      · rw [z1] at e4
        cases e4
        refine ⟨p, v, rfl, ?_, q v H' Hs' ex rv⟩
        rw [ry.key, ← z2]
        exact DGet.k (ex.sub _ _ hp)
    · cases e⟩
/-- k in d, x in xs, s in t -/
def gInD : PyData → PyData → Option Bool
  | k, .dict ps => if isOb ps = true then none else (asKey k).map fun k => (dGet ps k).isSome
  | a, b => gIn a b
def gNiD (a b : PyData) : Option Bool := (gInD a b).map (! ·)
theorem conv2T {a b : Expr} {pos : Pos} {op : CmpOp} {t u : TE} (h1 : PT X (.Compare a [op] [b] pos) (tTest t)) (h2 : PT X (.Compare a [op] [b] pos) (tB u)) : PT X (.Compare a [op] [b] pos) (fun σ H Q => tTest t σ H Q ∨ tB u σ H Q) :=
  ⟨fun pins s σ H Q I q => q.elim (h1.run pins s σ H Q I) (h2.run pins s σ H Q I)⟩
theorem in_use {K : PySem.W.Frag} {neg : Bool} {fa fb : Ev → Option PyData} {σ : L2.St} {H Hs : Hp} {ev : Ev} {k : Bool} {Q : VK} (s : Same Hs H) (re : REnv Hs σ ev) (e : f2T gInD fa fb ev = some k) (q : ∀ H' Hs', Ext H Hs H' Hs' → Q (.bl (neg ^^ k)) H') :
    tOp (rInA K neg) (tPu fa) (tPu fb) σ H Q ∨ (tPu fa σ H fun y H1 => tPu fb σ H1 fun x H2 => ∃ a o, x = .ref a ∧ DGet H2 a y o ∧ Q (.bl (neg ^^ o.isSome)) H2) := by
  obtain ⟨wa, e1, e⟩ := bindS e
  obtain ⟨wb, e2, e⟩ := bindS e
  unfold gInD at e
  split at e
  · refine .inr (use2 s re e1 e2 (R := fun y x H2 => ∃ a o, x = .ref a ∧ DGet H2 a y o ∧ Q (.bl (neg ^^ o.isSome)) H2) fun y x H' Hs' ex ry rx => ?_)
    split at e
    case isTrue => cases e
    rename_i ho
    obtain ⟨k2, e3, e4⟩ := Option.map_eq_some_iff.mp e
    have ek := asKey_some e3
    subst ek
    obtain ⟨p, kvs, rfl, hp, r⟩ := rx.dic_of (Bool.eq_false_iff.mpr ho)
    refine ⟨p, valV kvs k2, rfl, by rw [ry.key]; exact DGet.k (ex.sub _ _ hp), ?_⟩
    have e5 : (valV kvs k2).isSome = k := by
      rcases r.val k2 with ⟨z1, z2⟩ | ⟨d, v, z1, z2, _⟩
      · rw [← e4, z1, z2] <;> rfl
      · rw [← e4, z1, z2] <;> rfl
    rw [e5]
    exact q H' Hs' ex
  · refine .inl (use2 (R := fun x y H2 => rInA K neg x y H2 Q) s re e1 e2 fun x y H' Hs' ex rx ry => ?_)
    exact in_cases ex.sub rx ry e (q H' Hs' ex)
theorem pu_in {a b : Expr} {fa fb : Ev → Option PyData} {pos : Pos} (hu : X.A.units + 1 < cLine) (ha : PU X a fa) (hb : PU X b fb) (hm : behindInMarks .In b = false := by rfl) : PU X (.Compare a [.In] [b] pos) (fB (f2T gInD fa fb)) :=
  ⟨conv (PE.or (pe_cmpR o_in ha.pe hb.pe hm) (pe_cmp (pc_din hu ha.pe hb.pe) hm)) fun σ H Q ⟨Hs, ev, w, s, re, e, q⟩ => by
    obtain ⟨k, e0, rfl⟩ := fB_some e
    rcases in_use (K := X.K) (neg := false) (Q := Q) s re e0 (fun H' Hs' ex => q _ H' Hs' ex (by rw [Bool.false_xor]; exact .bl k)) with h | h
    · exact .inl h
    · refine .inr ?_
      simp only [Bool.false_xor] at h
      exact h⟩
theorem put_in {a b : Expr} {fa fb : Ev → Option PyData} {pos : Pos} (hu : X.A.units + 1 < cLine) (ha : PU X a fa) (hb : PU X b fb) (hm : behindInMarks .In b = false := by rfl) : PUT X (.Compare a [.In] [b] pos) (f2T gInD fa fb) :=
  ⟨convT (conv2T (pt_cmpR o_in ha.pe hb.pe hm) (pt_cmp (pc_din hu ha.pe hb.pe) hm)) fun σ H Q ⟨Hs, ev, k, s, re, e, q⟩ => by
    rcases in_use (K := X.K) (neg := false) (Q := fun x H' => ∃ k, x = .bl k ∧ Q k H') s re e (fun H' Hs' ex => ⟨k, by rw [Bool.false_xor], q H' Hs' ex⟩) with h | h
    · exact .inl h
    · refine .inr ?_
      simp only [Bool.false_xor] at h
      exact h⟩
theorem pu_ni {a b : Expr} {fa fb : Ev → Option PyData} {pos : Pos} (hu : X.A.units + 1 < cLine) (ha : PU X a fa) (hb : PU X b fb) (hm : behindInMarks .NotIn b = false := by rfl) : PU X (.Compare a [.NotIn] [b] pos) (fB (f2T gNiD fa fb)) :=
  ⟨conv (PE.or (pe_cmpR o_ni ha.pe hb.pe hm) (pe_cmp (pc_dnotin hu ha.pe hb.pe) hm)) fun σ H Q ⟨Hs, ev, w, s, re, e, q⟩ => by
    obtain ⟨k, e0, rfl⟩ := fB_some e
    have e1 : f2T gInD fa fb ev = some (!k) := by
      obtain ⟨wa, e1, e⟩ := bindS e0
      obtain ⟨wb, e2, e⟩ := bindS e
      unfold f2T
      rw [e1, Option.bind_some, e2, Option.bind_some]
      exact map_not e
    rcases in_use (K := X.K) (neg := true) (Q := Q) s re e1 (fun H' Hs' ex => q _ H' Hs' ex (by rw [Bool.true_xor, Bool.not_not]; exact .bl k)) with h | h
    · exact .inl h
    · refine .inr ?_
      simp only [Bool.true_xor] at h
      exact h⟩
theorem put_ni {a b : Expr} {fa fb : Ev → Option PyData} {pos : Pos} (hu : X.A.units + 1 < cLine) (ha : PU X a fa) (hb : PU X b fb) (hm : behindInMarks .NotIn b = false := by rfl) : PUT X (.Compare a [.NotIn] [b] pos) (f2T gNiD fa fb) :=
  ⟨convT (conv2T (pt_cmpR o_ni ha.pe hb.pe hm) (pt_cmp (pc_dnotin hu ha.pe hb.pe) hm)) fun σ H Q ⟨Hs, ev, k, s, re, e, q⟩ => by
    have e1 : f2T gInD fa fb ev = some (!k) := by
      obtain ⟨wa, e1, e⟩ := bindS e
      obtain ⟨wb, e2, e⟩ := bindS e
      unfold f2T
      rw [e1, Option.bind_some, e2, Option.bind_some]
      exact map_not e
    rcases in_use (K := X.K) (neg := true) (Q := fun x H' => ∃ k, x = .bl k ∧ Q k H') s re e1 (fun H' Hs' ex => ⟨k, by rw [Bool.true_xor, Bool.not_not], q H' Hs' ex⟩) with h | h
    · exact .inl h
    · refine .inr ?_
      simp only [Bool.true_xor] at h
      exact h⟩

/-! ### slices -/
def cutL {α : Type} (xs : List α) (lo hi : Option Int) : List α := (xs.drop (HT.sIx xs.length 0 lo)).take (HT.sIx xs.length xs.length hi - HT.sIx xs.length 0 lo)
theorem RpAll.cut {Hs : Hp} {ds : List PyData} {xs : List V} (r : RpAll Hs ds xs) (lo hi : Option Int) : RpAll Hs (cutL ds lo hi) (cutV xs lo hi) := by
  unfold cutL cutV
  rw [r.len]
  exact RpAll.take _ (RpAll.drop _ r)
def tPuO (f : Ev → Option (Option Int)) : TO := fun σ H Q => ∃ (Hs : Hp) (ev : Ev) (o : Option Int), Same Hs H ∧ REnv Hs σ ev ∧ f ev = some o ∧ ∀ H' Hs', Ext H Hs H' Hs' → Q o H'
structure PUO (X : Cx) (e : Option Expr) (f : Ev → Option (Option Int)) : Prop where
  po : PO X e (tPuO f)
def asI : PyData → Option Int
  | .int i => some i
  | _ => none
theorem asI_some {w : PyData} {i : Int} (h : asI w = some i) : w = .int i := by
  cases w <;> first | (cases h; rfl) | cases h
def fO (f : Ev → Option PyData) : Ev → Option (Option Int) := fun ev => (f ev).bind fun w => (asI w).map some
def fO0 : Ev → Option (Option Int) := fun _ => some none
theorem puo_none : PUO X none fO0 := ⟨⟨fun pins s σ H Q I ⟨Hs, ev, o, s', re, e, q⟩ => po_none.run pins s σ H Q I (by cases e; exact q H Hs (.refl s'))⟩⟩
theorem puo_some {e : Expr} {f : Ev → Option PyData} (h : PU X e f) : PUO X (some e) (fO f) := ⟨⟨fun pins s σ H Q I ⟨Hs, ev, o, s', re, e, q⟩ => (po_some h.pe).run pins s σ H Q I (by
  obtain ⟨w, e1, e⟩ := bindS e
  obtain ⟨i, e2, rfl⟩ := Option.map_eq_some_iff.mp e
  have ew := asI_some e2
  subst ew
  exact ⟨Hs, ev, _, s', re, e1, fun v H' Hs' ex r => ⟨i, r.int_of, q H' Hs' ex⟩⟩)⟩⟩
def gSl (w : PyData) (lo hi : Option Int) : Option PyData :=
  match w with
  | .list ds => some (.list (cutL ds lo hi))
  | .tuple ds => some (.tuple (cutL ds lo hi))
  | .str s => if s.length ≤ sizeLine then some (.str (cutS s lo hi)) else none
  | _ => none
def fSl (f : Ev → Option PyData) (fl fh : Ev → Option (Option Int)) : Ev → Option PyData := fun ev => (f ev).bind fun w => (fl ev).bind fun lo => (fh ev).bind fun hi => gSl w lo hi
theorem cutL_whole {α : Type} {xs : List α} {lo hi : Option Int} (h : HT.sIx xs.length 0 lo = 0 ∧ HT.sIx xs.length xs.length hi = xs.length) : cutL xs lo hi = xs := by
  unfold cutL
  rw [h.1, h.2, List.drop_zero, Nat.sub_zero, List.take_length]
theorem pu_sl {e : Expr} {lo hi : Option Expr} {f : Ev → Option PyData} {fl fh : Ev → Option (Option Int)} {pos p2 : Pos} (he : PU X e f) (hl : PUO X lo fl) (hh : PUO X hi fh) : PU X (.Subscript e (.Slice lo hi none p2) pos) (fSl f fl fh) :=
  ⟨conv (pe_slice (sl_list.or (sl_tupA.or sl_str)) he.pe hl.po hh.po) fun σ H Q ⟨Hs, ev, w, s, re, e, q⟩ => by
    obtain ⟨w0, e1, e⟩ := bindS e
    obtain ⟨l, e2, e⟩ := bindS e
    obtain ⟨h, e3, e⟩ := bindS e
    refine ⟨Hs, ev, w0, s, re, e1, fun x H1 Hs1 x1 rx => ⟨Hs1, ev, l, x1.sub, re.mono x1.small, e2, fun H2 Hs2 x2 => ⟨Hs2, ev, h, x2.sub, re.mono (x1.trans x2).small, e3, fun H3 Hs3 x3 => ?_⟩⟩⟩
    have ex := (x1.trans x2).trans x3
    have rx := rx.mono (x2.trans x3).small
    unfold gSl at e
    split at e
    · cases e
      obtain ⟨p, xs, rfl, hp, r⟩ := rx.lst_of
      refine .inl ⟨p, xs, rfl, SqL.of (ex.sub _ _ hp), fun p2 hp2 => ?_⟩
      exact q _ _ _ (ex.laid hp2 _) (Rp.newL (ex.sub.free hp2) (r.cut l h))
    · cases e
      obtain ⟨p, xs, rfl, hp, r⟩ := rx.tup_of
      refine .inr (.inl ⟨p, xs, rfl, SqT.of (ex.sub _ _ hp), fun hw => ?_, fun hw p2 hp2 => ?_⟩)
      · refine q _ _ _ ex ?_
        rw [← r.len] at hw
        rw [cutL_whole hw]
        exact rx
      · exact q _ _ _ (ex.laid hp2 _) (Rp.newT (ex.sub.free hp2) (r.cut l h))
    · split at e
      · cases e
        exact .inr (.inr ⟨_, rx.str_of, by assumption, q _ _ _ ex (.str _)⟩)
      · cases e
    · cases e⟩

/-! ### arguments, displays -/
def fNil : Ev → Option (List PyData) := fun _ => some []
def fCons (f : Ev → Option PyData) (fs : Ev → Option (List PyData)) : Ev → Option (List PyData) := fun ev => (f ev).bind fun w => (fs ev).bind fun ws => some (w :: ws)
def asL : PyData → Option (List PyData)
  | .list ds => some ds
  | .tuple ds => some ds
  | _ => none
def fStar (f : Ev → Option PyData) (fs : Ev → Option (List PyData)) : Ev → Option (List PyData) := fun ev => (f ev).bind fun w => (asL w).bind fun us => (fs ev).bind fun ws => some (us ++ ws)
theorem pua_nil : PUA X [] fNil := ⟨convA pa_nil fun σ H Q ⟨Hs, ev, ws, s, re, e, q⟩ => by cases e; exact q [] H Hs (.refl s) .nil⟩
theorem pua_cons {e : Expr} {es : List Expr} {f : Ev → Option PyData} {fs : Ev → Option (List PyData)} (h : PU X e f) (hr : PUA X es fs) (hs : starEach (e :: es) X.env = (false, eval e X.env) :: starEach es X.env := by rfl) : PUA X (e :: es) (fCons f fs) :=
  ⟨convA (pa_cons h.pe hr.pa hs) fun σ H Q ⟨Hs, ev, ws, s, re, e, q⟩ => by
    obtain ⟨w, e1, e⟩ := bindS e
    obtain ⟨ws', e2, e⟩ := bindS e
    cases e
    exact ⟨Hs, ev, w, s, re, e1, fun v H1 Hs1 x1 r1 => ⟨Hs1, ev, ws', x1.sub, re.mono x1.small, e2, fun vs H2 Hs2 x2 r2 => q _ H2 Hs2 (x1.trans x2) (.cons (r1.mono x2.small) r2)⟩⟩⟩
theorem pua_star {e : Expr} {es : List Expr} {p : Pos} {f : Ev → Option PyData} {fs : Ev → Option (List PyData)} (h : PU X e f) (hr : PUA X es fs) (hs : starEach (.Starred e p :: es) X.env = (true, eval e X.env) :: starEach es X.env := by rfl) : PUA X (.Starred e p :: es) (fStar f fs) :=
  ⟨convA (StX.pa_star h.pe hr.pa hs) fun σ H Q ⟨Hs, ev, ws, s, re, e, q⟩ => by
    obtain ⟨w, e1, e⟩ := bindS e
    obtain ⟨us, e2, e⟩ := bindS e
    obtain ⟨ws', e3, e⟩ := bindS e
    cases e
    refine ⟨Hs, ev, w, s, re, e1, fun v H1 Hs1 x1 r1 => ?_⟩
    unfold asL at e2
    split at e2
    · cases e2
      obtain ⟨a, xs, rfl, hp, r⟩ := r1.lst_of
      exact ⟨a, xs, rfl, .inr (SqL.of (x1.sub _ _ hp)), ⟨Hs1, ev, ws', x1.sub, re.mono x1.small, e3, fun vs H2 Hs2 x2 r2 => q _ H2 Hs2 (x1.trans x2) ((r.mono x2.small).append r2)⟩⟩
    · cases e2
      obtain ⟨a, xs, rfl, hp, r⟩ := r1.tup_of
      exact ⟨a, xs, rfl, .inl (SqT.of (x1.sub _ _ hp)), ⟨Hs1, ev, ws', x1.sub, re.mono x1.small, e3, fun vs H2 Hs2 x2 r2 => q _ H2 Hs2 (x1.trans x2) ((r.mono x2.small).append r2)⟩⟩
    · cases e2⟩
def fLst (fs : Ev → Option (List PyData)) : Ev → Option PyData := fun ev => (fs ev).bind fun ws => if ws.length ≤ sizeLine then some (.list ws) else none
def fTup (fs : Ev → Option (List PyData)) : Ev → Option PyData := fun ev => (fs ev).bind fun ws => if ws.length ≤ sizeLine then some (.tuple ws) else none
theorem pu_lst {es : List Expr} {fs : Ev → Option (List PyData)} {pos : Pos} (h : PUA X es fs) : PU X (.List es pos) (fLst fs) :=
  ⟨conv (pe_lst h.pa) fun σ H Q ⟨Hs, ev, w, s, re, e, q⟩ => by
    obtain ⟨ws, e1, e⟩ := bindS e
    split at e
    · cases e
      exact ⟨Hs, ev, ws, s, re, e1, fun vs H1 Hs1 x1 r => ⟨by rw [← r.len]; assumption, fun p hp => q _ _ _ (x1.laid hp _) (Rp.newL (x1.sub.free hp) r)⟩⟩
    · cases e⟩
theorem pu_tup {es : List Expr} {fs : Ev → Option (List PyData)} {x1} {pos : Pos} (h : PUA X es fs) : PU X (.Tuple es x1 pos) (fTup fs) :=
  ⟨conv (pe_tup h.pa) fun σ H Q ⟨Hs, ev, w, s, re, e, q⟩ => by
    obtain ⟨ws, e1, e⟩ := bindS e
    split at e
    · cases e
      exact ⟨Hs, ev, ws, s, re, e1, fun vs H1 Hs1 x1 r => ⟨by rw [← r.len]; assumption, fun p hp => q _ _ _ (x1.laid hp _) (Rp.newT (x1.sub.free hp) r)⟩⟩
    · cases e⟩
/-- a dict display with written, unlike keys -/
theorem putK_new {kvs : List (Key × V)} {k : Key} {v : V} (h : ∀ p ∈ kvs, p.1 ≠ k) : putK kvs k v = kvs ++ [(k, v)] := by
  unfold putK
  rw [if_neg]
  simp only [List.any_eq_true, decide_eq_true_eq, not_exists, not_and]
  exact fun p hp => h p hp
theorem mergeK_new : ∀ (more kvs : List (Key × V)), ((kvs ++ more).map (·.1)).Nodup → mergeK kvs more = kvs ++ more
  | [], kvs, _ => by rw [List.append_nil]; rfl
  | (k, v) :: r, kvs, h => by
    have e : mergeK kvs ((k, v) :: r) = mergeK (putK kvs k v) r := rfl
    rw [e, putK_new, mergeK_new r _ (by rw [List.append_assoc]; exact h), List.append_assoc]
    · rfl
    · intro p hp q
      rw [List.map_append, List.map_cons] at h
      exact (List.nodup_append.mp h).2.2 p.1 (List.mem_map_of_mem hp) k List.mem_cons_self q
def fDic : List (Key × (Ev → Option PyData)) → Ev → Option (List (PyData × PyData))
  | [], _ => some []
  | (k, f) :: r, ev => (f ev).bind fun w => (fDic r ev).bind fun ps => some ((keyD k, w) :: ps)
inductive PUD (X : Cx) (pos : Pos) : List (Option Expr) → List Expr → List (Key × (Ev → Option PyData)) → Prop
  | nil : PUD X pos [] [] []
  | str {x : Str} {j : Nat} {p : Pos} {v : Expr} {ks : List (Option Expr)} {vs : List Expr} {f : Ev → Option PyData} {fs : List (Key × (Ev → Option PyData))} (h : PU X v f) (r : PUD X pos ks vs fs) : PUD X pos (some (.Constant (.str x) j p) :: ks) (v :: vs) ((.inr x, f) :: fs)
theorem pud_pps {pos : Pos} : ∀ {ks : List (Option Expr)} {vs : List Expr} {fs : List (Key × (Ev → Option PyData))}, PUD X pos ks vs fs → PPs X pos ks vs (fs.map fun p => (tC (kV p.1), tPu p.2)) ∧ ks.all (·.isSome) = true ∧ ks.length = vs.length ∧ ks.length = fs.length
  | _, _, _, .nil => ⟨pps_nil, rfl, rfl, rfl⟩
  | _, _, _, .str h r => by
    obtain ⟨a, b, c, d⟩ := pud_pps r
    exact ⟨pps_cons pe_str h.pe a, by rw [List.all_cons, b]; rfl, by rw [List.length_cons, List.length_cons, c], by rw [List.length_cons, List.length_cons, d]⟩
theorem dic_use : ∀ {fs : List (Key × (Ev → Option PyData))} {σ : L2.St} {H Hs : Hp} {ev : Ev} {ps : List (PyData × PyData)} {Q : List (V × V) → Hp → Prop}, Same Hs H → REnv Hs σ ev → fDic fs ev = some ps →
    (∀ (kvs : List (Key × V)) H' Hs', Ext H Hs H' Hs' → kvs.map (·.1) = fs.map (·.1) → RpKV Hs' ps kvs → Q (kvs.map fun kv => (kV kv.1, kv.2)) H') → tPairs (fs.map fun p => (tC (kV p.1), tPu p.2)) σ H Q
  | [], σ, H, Hs, ev, ps, Q, s, re, e, q => by
    cases e
    exact q [] H Hs (.refl s) rfl .nil
  | (k, f) :: r, σ, H, Hs, ev, ps, Q, s, re, e, q => by
    obtain ⟨w, e1, e⟩ := bindS (show (f ev).bind (fun w => (fDic r ev).bind fun ps => some ((keyD k, w) :: ps)) = some ps from e)
    obtain ⟨ps', e2, e⟩ := bindS e
    cases e
    refine ⟨Hs, ev, w, s, re, e1, fun v H1 Hs1 x1 r1 => ?_⟩
    refine dic_use x1.sub (re.mono x1.small) e2 fun kvs H2 Hs2 x2 ek rk => ?_
    exact q ((k, v) :: kvs) H2 Hs2 (x1.trans x2) (by rw [List.map_cons, List.map_cons, ek]) (.cons (r1.mono x2.small) rk)
def fDict (fs : List (Key × (Ev → Option PyData))) : Ev → Option PyData := fun ev => (fDic fs ev).map .dict
theorem pu_dic {keys : List (Option Expr)} {values : List Expr} {fs : List (Key × (Ev → Option PyData))} {pos : Pos} (h : PUD X pos keys values fs) (h0 : keys ≠ []) (h15 : keys.length ≤ 15) (hn : (fs.map (·.1)).Nodup) : PU X (.Dict keys values pos) (fDict fs) := by
  obtain ⟨a, b, c, d⟩ := pud_pps h
  refine ⟨conv (pe_disp a b c h0 h15) fun σ H Q ⟨Hs, ev, w, s, re, e, q⟩ p hp => ?_⟩
  obtain ⟨ps, e1, rfl⟩ := Option.map_eq_some_iff.mp e
  have s1 : Same Hs (upd H p (.dK [])) := fun b o e => by rw [upd_ne (ne_of_none (s _ _ e) hp)]; exact s _ _ e
  refine dic_use (Hs := Hs) s1 re e1 fun kvs H2 Hs2 x2 ek rk => ?_
  have hp2 : H2 p = some (.dK []) := x2.big _ _ upd_same
  have np : Hs2 p = none := x2.new p (s.free hp) (by rw [upd_same]; exact fun z => nomatch z)
  refine ⟨hp2, kvs, rfl, by rw [← List.length_map (f := (·.1)) (as := kvs), ek, List.length_map, ← d]; exact h15, ?_⟩
  rw [mergeK_new kvs [] (by rw [List.nil_append, ek]; exact hn), List.nil_append]
  refine q (.ref p) (upd H2 p (.dK kvs)) (upd Hs2 p (.dK kvs)) ⟨fun b o e => ?_, fun b o e => ?_, fun b o e => ?_, fun b h1 h2 => ?_⟩ (.dic upd_same (rk.mono fun b o e => by rw [upd_ne (ne_of_none e np)]; exact e))
  · rw [upd_ne (ne_of_none e hp)]
    exact x2.big _ _ (by rw [upd_ne (ne_of_none e hp)]; exact e)
  · rw [upd_ne (ne_of_none (x2.small _ _ e) np)]
    exact x2.small _ _ e
  · by_cases z : b = p
    · subst z; rw [upd_same] at e ⊢; exact e
    · rw [upd_ne z] at e ⊢; exact x2.sub _ _ e
  · have z : b ≠ p := fun z => by subst z; exact h2 hp
    rw [upd_ne z]
    exact x2.new b h1 (by rw [upd_ne z]; exact h2)
end
end Pu

set_option Elab.async false
set_option linter.all false
set_option maxRecDepth 100000
set_option maxHeartbeats 2000000
namespace Pu
open PySem PySem.Spec PyProof.Rows L2

/-! ### calls of built-ins -/
def GCall (r : List V → Hp → VK → Prop) (g : List PyData → Option PyData) : Prop := ∀ (ws : List PyData) (w : PyData) (xs : List V) (H Hs : Hp) (Q : VK), Same Hs H → RpAll Hs ws xs → g ws = some w → (∀ v H' Hs', Ext H Hs H' Hs' → Rp Hs' w v → Q v H') → r xs H Q
def fCall (g : List PyData → Option PyData) (fs : Ev → Option (List PyData)) : Ev → Option PyData := fun ev => (fs ev).bind g
section
variable {X : Cx}
theorem call_use {r : List V → Hp → VK → Prop} {g : List PyData → Option PyData} {fs : Ev → Option (List PyData)} {σ : L2.St} {H : Hp} {Q : VK} (hg : GCall r g) (h : tPu (fCall g fs) σ H Q) : tCB r (tPuA fs) σ H Q := by
  obtain ⟨Hs, ev, w, s, re, e, q⟩ := h
  obtain ⟨ws, e1, e⟩ := bindS e
  exact ⟨Hs, ev, ws, s, re, e1, fun vs H1 Hs1 x1 r1 => hg ws w vs H1 Hs1 Q x1.sub r1 e fun v H2 Hs2 x2 r2 => q v H2 Hs2 (x1.trans x2) r2⟩
theorem pu_callB {id : String} {x : Str} {p pos : Pos} {e : Expr} {es : List Expr} {r : List V → Hp → VK → Prop} {g : List PyData → Option PyData} {fs : Ev → Option (List PyData)} (hc : CallR X (.builtin id) r) (hg : GCall r g) (hgl : Gl X x) (hm : X.mg x = none) (hv : bootBuiltins x = some (.builtin id)) (ha : PUA X (e :: es) fs)
    (hn : x ≠ "__name__" := by decide) (hdb : (x == ("__debug__" : Str)) = false := by decide) (he : starEach (e :: es) X.env = (false, eval e X.env) :: starEach es X.env := by rfl) (hpl : (backTo pos (starEach es X.env)).any (·.1) = false := by rfl) :
    PU X (.Call (.Name x p) (e :: es) [] pos) (fCall g fs) := ⟨conv (pe_callB hc hgl hm hv ha.pa hn hdb he hpl) fun σ H Q h => call_use hg h⟩
theorem pu_callTy {T : String} {x : Str} {p pos : Pos} {e : Expr} {es : List Expr} {r : List V → Hp → VK → Prop} {g : List PyData → Option PyData} {fs : Ev → Option (List PyData)} (hc : CallR X (.type T) r) (hg : GCall r g) (hgl : Gl X x) (hm : X.mg x = none) (hv : bootBuiltins x = some (.type T)) (ha : PUA X (e :: es) fs)
    (hn : x ≠ "__name__" := by decide) (hdb : (x == ("__debug__" : Str)) = false := by decide) (he : starEach (e :: es) X.env = (false, eval e X.env) :: starEach es X.env := by rfl) (hpl : (backTo pos (starEach es X.env)).any (·.1) = false := by rfl) :
    PU X (.Call (.Name x p) (e :: es) [] pos) (fCall g fs) := ⟨conv (pe_callTy hc hgl hm hv ha.pa hn hdb he hpl) fun σ H Q h => call_use hg h⟩
theorem RpAll.one {Hs : Hp} {w : PyData} {xs : List V} (r : RpAll Hs [w] xs) : ∃ v, xs = [v] ∧ Rp Hs w v := by
  cases r with
  | cons r t => cases t; exact ⟨_, rfl, r⟩
theorem RpAll.two {Hs : Hp} {w u : PyData} {xs : List V} (r : RpAll Hs [w, u] xs) : ∃ v z, xs = [v, z] ∧ Rp Hs w v ∧ Rp Hs u z := by
  cases r with
  | cons r t => cases t with
    | cons r2 t => cases t; exact ⟨_, _, rfl, r, r2⟩
def gLen : List PyData → Option PyData
  | [.str s] => if s.length ≤ sizeLine then some (.int s.length) else none
  | [.list ds] => some (.int ds.length)
  | [.tuple ds] => some (.int ds.length)
  | [.dict ps] => if isOb ps = true then none else some (.int ps.length)
  | _ => none
def rLenA (K : PySem.W.Frag) : List V → Hp → VK → Prop := fun xs H Q => (∃ x n, xs = [x] ∧ LenV K x H n ∧ Q (.int n) H) ∨ (∃ a kvs, xs = [V.ref a] ∧ H a = some (.dK kvs) ∧ Q (.int kvs.length) H)
theorem c_len : CallR X (.builtin "len") (rLenA X.K) := call_len.or call_lenD
theorem gc_len {K : PySem.W.Frag} : GCall (rLenA K) gLen := fun ws w xs H Hs Q s r e q => by
  unfold gLen at e
  split at e
  · split at e
    · rename_i h
      cases e
      obtain ⟨v, rfl, r1⟩ := r.one
      exact .inl ⟨v, _, rfl, by rw [r1.str_of]; exact ⟨h, rfl⟩, q _ H Hs (.refl s) (.int _)⟩
    · cases e
  · cases e
    obtain ⟨v, rfl, r1⟩ := r.one
    obtain ⟨a, vs, rfl, h, r2⟩ := r1.lst_of
    exact .inl ⟨_, _, rfl, .inl ⟨vs, SqL.of (s _ _ h), r2.len⟩, q _ H Hs (.refl s) (.int _)⟩
  · cases e
    obtain ⟨v, rfl, r1⟩ := r.one
    obtain ⟨a, vs, rfl, h, r2⟩ := r1.tup_of
    exact .inl ⟨_, _, rfl, .inr ⟨vs, SqT.of (s _ _ h), r2.len⟩, q _ H Hs (.refl s) (.int _)⟩
  · split at e
    case isTrue => cases e
    rename_i ho
    cases e
    obtain ⟨v, rfl, r1⟩ := r.one
    obtain ⟨a, kvs, rfl, h, r2⟩ := r1.dic_of (Bool.eq_false_iff.mpr ho)
    refine .inr ⟨a, kvs, rfl, s _ _ h, ?_⟩
    rw [← r2.len]
    exact q _ H Hs (.refl s) (.int _)
  · cases e
def gAbs : List PyData → Option PyData
  | [.int i] => some (.int (if i < 0 then -i else i))
  | _ => none
theorem gc_abs : GCall (fun xs H Q => ∃ i, xs = [.int i] ∧ Q (.int (if i < 0 then -i else i)) H) gAbs := fun ws w xs H Hs Q s r e q => by
  unfold gAbs at e
  split at e
  · cases e
    obtain ⟨v, rfl, r1⟩ := r.one
    exact ⟨_, by rw [r1.int_of], q _ H Hs (.refl s) (.int _)⟩
  · cases e
def asBs : List PyData → Option (List Bool)
  | [] => some []
  | w :: ws => (asB w).bind fun b => (asBs ws).map (b :: ·)
theorem asBs_rp {Hs : Hp} : ∀ {ds : List PyData} {vs : List V} {bs : List Bool}, RpAll Hs ds vs → asBs ds = some bs → vs = bs.map V.bl
  | _, _, _, .nil, e => by cases e; rfl
  | _, _, _, .cons r t, e => by
    obtain ⟨b, e1, e⟩ := bindS e
    obtain ⟨bs, e2, rfl⟩ := Option.map_eq_some_iff.mp e
    have ew := asB_some e1
    subst ew
    rw [r.bl_of, asBs_rp t e2]
    rfl
def gAll : List PyData → Option PyData
  | [.list ds] => (asBs ds).map fun bs => .bool (bs.all id)
  | _ => none
def gAny : List PyData → Option PyData
  | [.list ds] => (asBs ds).map fun bs => .bool (bs.any id)
  | _ => none
theorem gc_all {K : PySem.W.Frag} : GCall (rAll K) gAll := fun ws w xs H Hs Q s r e q => by
  unfold gAll at e
  split at e
  · obtain ⟨bs, e1, rfl⟩ := Option.map_eq_some_iff.mp e
    obtain ⟨v, rfl, r1⟩ := r.one
    obtain ⟨a, vs, rfl, h, r2⟩ := r1.lst_of
    have ev := asBs_rp r2 e1
    subst ev
    exact ⟨a, bs, rfl, SqL.of (s _ _ h), q _ H Hs (.refl s) (.bl _)⟩
  · cases e
def asIs : List PyData → Option (List Int)
  | [] => some []
  | w :: ws => (asI w).bind fun b => (asIs ws).map (b :: ·)
theorem asIs_rp {Hs : Hp} : ∀ {ds : List PyData} {vs : List V} {bs : List Int}, RpAll Hs ds vs → asIs ds = some bs → vs = bs.map V.int
  | _, _, _, .nil, e => by cases e; rfl
  | _, _, _, .cons r t, e => by
    obtain ⟨b, e1, e⟩ := bindS e
    obtain ⟨bs, e2, rfl⟩ := Option.map_eq_some_iff.mp e
    have ew := asI_some e1
    subst ew
    rw [r.int_of, asIs_rp t e2]
    rfl
def gSum : List PyData → Option PyData
  | [.list ds] => (asIs ds).map fun bs => .int bs.sum
  | _ => none
theorem gc_sum {K : PySem.W.Frag} : GCall (rSum K) gSum := fun ws w xs H Hs Q s r e q => by
  unfold gSum at e
  split at e
  · obtain ⟨bs, e1, rfl⟩ := Option.map_eq_some_iff.mp e
    obtain ⟨v, rfl, r1⟩ := r.one
    obtain ⟨a, vs, rfl, h, r2⟩ := r1.lst_of
    have ev := asIs_rp r2 e1
    subst ev
    exact ⟨a, bs, rfl, SqL.of (s _ _ h), q _ H Hs (.refl s) (.int _)⟩
  · cases e
def asSs : List PyData → Option (List Str)
  | [] => some []
  | .str x :: ws => (asSs ws).map (x :: ·)
  | _ => none
theorem asSs_rp {Hs : Hp} : ∀ {ds : List PyData} {vs : List V} {bs : List Str}, RpAll Hs ds vs → asSs ds = some bs → vs = bs.map V.str
  | _, _, _, .nil, e => by cases e; rfl
  | _, _, _, .cons (d := d) r t, e => by
    unfold asSs at e
    split at e
    · rename_i h; cases h
    · rename_i h
      cases h
      obtain ⟨bs, e2, rfl⟩ := Option.map_eq_some_iff.mp e
      rw [r.str_of, asSs_rp t e2]
      rfl
    · cases e
def gTuple : List PyData → Option PyData
  | [.list ds] => some (.tuple ds)
  | [.tuple ds] => some (.tuple ds)
  | _ => none
theorem gc_tuple {K : PySem.W.Frag} : GCall (fun xs H Q => ∃ p ys, xs = [.ref p] ∧ ((SqL K H p ys ∧ ∀ l, H l = none → Q (.ref l) (upd H l (.tup ys))) ∨ (SqT K H p ys ∧ Q (.ref p) H))) gTuple := fun ws w xs H Hs Q s r e q => by
  unfold gTuple at e
  split at e
  · cases e
    obtain ⟨v, rfl, r1⟩ := r.one
    obtain ⟨a, vs, rfl, h, r2⟩ := r1.lst_of
    exact ⟨a, vs, rfl, .inl ⟨SqL.of (s _ _ h), fun l hl => q _ _ _ ((Ext.refl s).laid hl _) (Rp.newT (s.free hl) r2)⟩⟩
  · cases e
    obtain ⟨v, rfl, r1⟩ := r.one
    obtain ⟨a, vs, rfl, h, r2⟩ := r1.tup_of
    exact ⟨a, vs, rfl, .inr ⟨SqT.of (s _ _ h), q _ _ _ (.refl s) r1⟩⟩
  · cases e
def gInt : List PyData → Option PyData
  | [.int i] => some (.int i)
  | [.bool b] => some (.int (if b then 1 else 0))
  | [.str a] => if a.length ≤ 640 then (PySem.intText? a).map .int else none
  | _ => none
def rInt : List V → Hp → VK → Prop := fun xs H Q => ((∃ i, xs = [.int i] ∧ Q (.int i) H) ∨ ∃ k, xs = [.bl k] ∧ Q (.int (if k then 1 else 0)) H) ∨ (∃ a n, xs = [.str a] ∧ PySem.intText? a = some n ∧ a.length ≤ 640 ∧ Q (.int n) H)
theorem c_int : CallR X (.type "int") rInt := call_int1.or call_int_str
theorem gc_int : GCall rInt gInt := fun ws w xs H Hs Q s r e q => by
  unfold gInt at e
  split at e
  · cases e
    obtain ⟨v, rfl, r1⟩ := r.one
    exact .inl (.inl ⟨_, by rw [r1.int_of], q _ H Hs (.refl s) (.int _)⟩)
  · cases e
    obtain ⟨v, rfl, r1⟩ := r.one
    exact .inl (.inr ⟨_, by rw [r1.bl_of], q _ H Hs (.refl s) (.int _)⟩)
  · split at e
    · obtain ⟨n, e1, rfl⟩ := Option.map_eq_some_iff.mp e
      obtain ⟨v, rfl, r1⟩ := r.one
      exact .inr ⟨_, _, by rw [r1.str_of], e1, by assumption, q _ H Hs (.refl s) (.int _)⟩
    · cases e
  · cases e
def gStr : List PyData → Option PyData
  | [.int i] => if i.natAbs.log2 < 1920 then some (.str (toString i)) else none
  | _ => none
theorem gc_str : GCall (fun xs H Q => ∃ i, xs = [.int i] ∧ i.natAbs.log2 < 1920 ∧ Q (.str (toString i)) H) gStr := fun ws w xs H Hs Q s r e q => by
  unfold gStr at e
  split at e
  · split at e
    · cases e
      obtain ⟨v, rfl, r1⟩ := r.one
      exact ⟨_, by rw [r1.int_of], by assumption, q _ H Hs (.refl s) (.str _)⟩
    · cases e
  · cases e

/-! ### isinstance -/
def isT (T : String) : PyData → Bool
  | .none => T == "NoneType"
  | .bool _ => T == "bool" || T == "int"
  | .int _ => T == "int"
  | .str _ => T == "str"
  | .list _ => T == "list"
  | .tuple _ => T == "tuple"
  | .dict _ => T == "dict"
def tyD : PyData → String
  | .none => "NoneType"
  | .bool _ => "bool"
  | .int _ => "int"
  | .str _ => "str"
  | .list _ => "list"
  | .tuple _ => "tuple"
  | .dict _ => "dict"
def obD : PyData → Bool
  | .dict ps => isOb ps
  | _ => false
theorem Rp.tyX {K : PySem.W.Frag} {H : Hp} {d : PyData} {v : V} (r : Rp H d v) (ho : obD d = false) : TyX K H v (.type (tyD d)) := by
  cases r with
  | ob h r => cases ho
  | non => exact .base .non
  | bl b => exact .base (.bl b)
  | int i => exact .base (.int i)
  | str x => exact .base (.str x)
  | lst h _ => exact .base (.lst h)
  | tup h _ => exact .base (.tup h)
  | dic h _ => exact .base (.dK h)
/-- the classes that are asked here -/
def asked6 : List String := ["int", "str", "bool", "list", "tuple", "dict"]
def tys7 : List String := ["NoneType", "bool", "int", "str", "list", "tuple", "dict"]
def isTy (t T : String) : Bool := if t == "bool" then T == "bool" || T == "int" else t == T
theorem kit_all : (tys7.all fun t => asked6.all fun T => kitB t T == some (isTy t T)) = true := by decide +kernel
theorem kit_at {d : PyData} {T : String} (h : T ∈ asked6) : kitB (tyD d) T = some (isTy (tyD d) T) := by
  have h1 := List.all_eq_true.mp kit_all (tyD d) (by cases d <;> simp [tyD, tys7])
  have h2 := List.all_eq_true.mp h1 T h
  exact eq_of_beq h2
def fIsi (f : Ev → Option PyData) (Ts : List String) : Ev → Option PyData := fun ev => (f ev).bind fun w => if obD w = true then none else some (.bool (Ts.any fun T => isTy (tyD w) T))
theorem pu_isi {e : Expr} {f : Ev → Option PyData} {p p2 pos : Pos} {x : Str} {T : String} (h : PU X e f) (hg : Gl X "isinstance") (hm : X.mg "isinstance" = none) (hg2 : Gl X x) (hm2 : X.mg x = none) (hv : bootBuiltins x = some (.type T)) (hT : T ∈ asked6)
    (hn : x ≠ "__name__" := by decide) (hd : (x == ("__debug__" : Str)) = false := by decide) (he : starEach (e :: [.Name x p2]) X.env = (false, eval e X.env) :: starEach [.Name x p2] X.env := by rfl) (hpl : (backTo pos (starEach [.Name x p2] X.env)).any (·.1) = false := by rfl) :
    PU X (.Call (.Name "isinstance" p) [e, .Name x p2] [] pos) (fIsi f [T]) :=
  ⟨conv (pe_callB call_isi hg hm boot_isinstance (pa_cons h.pe (pa_cons (pe_bltn (v := .ty T) hg2 hm2 hv rfl hn hd) pa_nil) he) (by decide) (by decide) he hpl) fun σ H Q ⟨Hs, ev, w, s, re, e, q⟩ => by
    obtain ⟨w0, e1, e⟩ := bindS e
    split at e
    case isTrue => cases e
    rename_i ho
    cases e
    have ho := Bool.eq_false_iff.mpr ho
    refine ⟨Hs, ev, w0, s, re, e1, fun v H1 Hs1 x1 r1 => ?_⟩
    refine ⟨v, .ty T, _, _, _, rfl, .ty T, ((r1.mono x1.sub).tyX ho), kit_ty (kit_at hT), ?_⟩
    have eb : ([T].any fun T => isTy (tyD w0) T) = isTy (tyD w0) T := by simp
    rw [eb] at q
    exact q _ H1 Hs1 x1 (.bl _)⟩
theorem kitAny_all {K : PySem.W.Frag} {t : String} (h : t ∈ tys7) : ∀ Ts : List String, (∀ T ∈ Ts, T ∈ asked6) → PySem.W.kitAny K (.type t) (Ts.map Value.type) = some (Ts.any fun T => isTy t T)
  | [], _ => rfl
  | T :: Ts, hT => by
    have h1 : kitB t T = some (isTy t T) := eq_of_beq (List.all_eq_true.mp (List.all_eq_true.mp kit_all t h) T (hT T List.mem_cons_self))
    have ih := kitAny_all (K := K) h Ts fun T' h' => hT T' (List.mem_cons_of_mem _ h')
    rw [List.map_cons, List.any_cons]
    refine kitAny_cons (kit_ty h1) (fun e => ?_) fun e => by rw [e]; rfl
    rw [e, ih, Bool.false_or]
theorem tyD_mem (d : PyData) : tyD d ∈ tys7 := by cases d <;> simp [tyD, tys7]
theorem clsV_all : ∀ Ts : List String, Paired ClsV (Ts.map V.ty) (Ts.map Value.type)
  | [] => .nil
  | T :: Ts => .cons (.ty T) (clsV_all Ts)
/-- isinstance(e, (T1, T2)) -/
theorem pu_isi2 {e : Expr} {f : Ev → Option PyData} {p p2 p3 p4 pos : Pos} {k : Nat} {x y : Str} {T U : String} (h : PU X e f) (hg : Gl X "isinstance") (hm : X.mg "isinstance" = none) (hg2 : Gl X x) (hm2 : X.mg x = none) (hv : bootBuiltins x = some (.type T)) (hT : T ∈ asked6)
    (hg3 : Gl X y) (hm3 : X.mg y = none) (hv3 : bootBuiltins y = some (.type U)) (hU : U ∈ asked6)
    (hn : x ≠ "__name__" := by decide) (hd : (x == ("__debug__" : Str)) = false := by decide) (hn3 : y ≠ "__name__" := by decide) (hd3 : (y == ("__debug__" : Str)) = false := by decide)
    (he : starEach (e :: [.Tuple [.Name x p2, .Name y p3] k p4]) X.env = (false, eval e X.env) :: starEach [.Tuple [.Name x p2, .Name y p3] k p4] X.env := by rfl) (hpl : (backTo pos (starEach [.Tuple [.Name x p2, .Name y p3] k p4] X.env)).any (·.1) = false := by rfl) :
    PU X (.Call (.Name "isinstance" p) [e, .Tuple [.Name x p2, .Name y p3] k p4] [] pos) (fIsi f [T, U]) :=
  ⟨conv (pe_callB call_isiT hg hm boot_isinstance (pa_cons h.pe (pa_cons (pe_tup (pa_cons (pe_bltn (v := .ty T) hg2 hm2 hv rfl hn hd) (pa_cons (pe_bltn (v := .ty U) hg3 hm3 hv3 rfl hn3 hd3) pa_nil))) pa_nil) he) (by decide) (by decide) he hpl) fun σ H Q ⟨Hs, ev, w, s, re, e, q⟩ => by
    obtain ⟨w0, e1, e⟩ := bindS e
    split at e
    case isTrue => cases e
    rename_i ho
    cases e
    have ho := Bool.eq_false_iff.mpr ho
    refine ⟨Hs, ev, w0, s, re, e1, fun v H1 Hs1 x1 r1 => ?_⟩
    refine ⟨by show 2 ≤ sizeLine; decide, fun t ht => ?_⟩
    have x2 := x1.laid ht (.tup [.ty T, .ty U])
    refine ⟨v, t, [T, U].map V.ty, _, [T, U].map Value.type, _, rfl, upd_same, clsV_all _, ((r1.mono x1.sub).mono fun b o e => by rw [upd_ne (ne_of_none e ht)]; exact e).tyX ho, kitAny_all (tyD_mem w0) [T, U] ?_, q _ _ _ x2 (.bl _)⟩
    intro T' h'
    simp only [List.mem_cons, List.not_mem_nil, or_false] at h'
    rcases h' with rfl | rfl
    · exact hT
    · exact hU⟩

/-- isinstance(e, (T1, T2, T3)) -/
theorem pu_isi3 {e : Expr} {f : Ev → Option PyData} {p p2 p3 p4 p5 pos : Pos} {k : Nat} {x y z : Str} {T U W : String} (h : PU X e f) (hg : Gl X "isinstance") (hm : X.mg "isinstance" = none) (hg2 : Gl X x) (hm2 : X.mg x = none) (hv : bootBuiltins x = some (.type T)) (hT : T ∈ asked6)
    (hg3 : Gl X y) (hm3 : X.mg y = none) (hv3 : bootBuiltins y = some (.type U)) (hU : U ∈ asked6) (hg4 : Gl X z) (hm4 : X.mg z = none) (hv4 : bootBuiltins z = some (.type W)) (hW : W ∈ asked6)
    (hn : x ≠ "__name__" := by decide) (hd : (x == ("__debug__" : Str)) = false := by decide) (hn3 : y ≠ "__name__" := by decide) (hd3 : (y == ("__debug__" : Str)) = false := by decide) (hn4 : z ≠ "__name__" := by decide) (hd4 : (z == ("__debug__" : Str)) = false := by decide)
    (he : starEach (e :: [.Tuple [.Name x p2, .Name y p3, .Name z p5] k p4]) X.env = (false, eval e X.env) :: starEach [.Tuple [.Name x p2, .Name y p3, .Name z p5] k p4] X.env := by rfl) (hpl : (backTo pos (starEach [.Tuple [.Name x p2, .Name y p3, .Name z p5] k p4] X.env)).any (·.1) = false := by rfl) :
    PU X (.Call (.Name "isinstance" p) [e, .Tuple [.Name x p2, .Name y p3, .Name z p5] k p4] [] pos) (fIsi f [T, U, W]) :=
  ⟨conv (pe_callB call_isiT hg hm boot_isinstance (pa_cons h.pe (pa_cons (pe_tup (pa_cons (pe_bltn (v := .ty T) hg2 hm2 hv rfl hn hd) (pa_cons (pe_bltn (v := .ty U) hg3 hm3 hv3 rfl hn3 hd3) (pa_cons (pe_bltn (v := .ty W) hg4 hm4 hv4 rfl hn4 hd4) pa_nil)))) pa_nil) he) (by decide) (by decide) he hpl) fun σ H Q ⟨Hs, ev, w, s, re, e, q⟩ => by
    obtain ⟨w0, e1, e⟩ := bindS e
    split at e
    case isTrue => cases e
    rename_i ho
    cases e
    have ho := Bool.eq_false_iff.mpr ho
    refine ⟨Hs, ev, w0, s, re, e1, fun v H1 Hs1 x1 r1 => ?_⟩
    refine ⟨by show 3 ≤ sizeLine; decide, fun t ht => ?_⟩
    have x2 := x1.laid ht (.tup [.ty T, .ty U, .ty W])
    refine ⟨v, t, [T, U, W].map V.ty, _, [T, U, W].map Value.type, _, rfl, upd_same, clsV_all _, ((r1.mono x1.sub).mono fun b o e => by rw [upd_ne (ne_of_none e ht)]; exact e).tyX ho, kitAny_all (tyD_mem w0) [T, U, W] ?_, q _ _ _ x2 (.bl _)⟩
    intro T' h'
    simp only [List.mem_cons, List.not_mem_nil, or_false] at h'
    rcases h' with rfl | rfl | rfl
    · exact hT
    · exact hU
    · exact hW⟩

/-! ### calls of defs -/
def spP (g : List PyData → Option PyData) : Sp := fun vs H Q _ => ∃ (Hs : Hp) (ws : List PyData) (w : PyData), Same Hs H ∧ RpAll Hs ws vs ∧ g ws = some w ∧ ∀ v H' Hs', Ext H Hs H' Hs' → Rp Hs' w v → Q v H'
theorem spP_imp {g g' : List PyData → Option PyData} (h : ∀ ws w, g' ws = some w → g ws = some w) {vs : List V} {H : Hp} {Q : VK} {E : XK} (q : spP g' vs H Q E) : spP g vs H Q E := by
  obtain ⟨Hs, ws, w, s, r, e, q⟩ := q
  exact ⟨Hs, ws, w, s, r, h ws w e, q⟩
theorem pu_call {CX : CXT} {k : Nat} {f : Addr} {fd : FuncData} {ps : List Str} {E : XK} {x : Str} {p pos : Pos} {e : Expr} {es : List Expr} {g : List PyData → Option PyData} {fs : Ev → Option (List PyData)} (F : FnOk X.prog X.w X.K X.mg X.base CX k f fd ps (spP g)) (hr : Room k X.A) (hg : Gl X x) (hm : X.mg x = some (.ref f)) (hk : PySem.W.keepIn X.K (.ref f) = true) (hb : Binds X.K fd ps []) (hx : Passes CX X E)
    (ha : PUA X (e :: es) fs) (hdb : (x == ("__debug__" : Str)) = false := by decide) (he : starEach (e :: es) X.env = (false, eval e X.env) :: starEach es X.env := by rfl) (hpl : (backTo pos (starEach es X.env)).any (·.1) = false := by rfl) :
    PU X (.Call (.Name x p) (e :: es) [] pos) (fCall g fs) :=
  ⟨conv (pe_call F hr hg hm hk hb .nil hx ha.pa hdb he hpl) fun σ H Q ⟨Hs, ev, w, s, re, e, q⟩ => by
    obtain ⟨ws, e1, e⟩ := bindS e
    refine ⟨Hs, ev, ws, s, re, e1, fun vs H1 Hs1 x1 r1 => ?_⟩
    show spP g (vs ++ []) H1 Q E
    rw [List.append_nil]
    exact ⟨Hs1, ws, w, x1.sub, r1, e, fun v H2 Hs2 x2 r2 => q v H2 Hs2 (x1.trans x2) r2⟩⟩

/-! ### text methods -/
def gJoin (a : Str) (w : PyData) : Option PyData := (asL w).bind fun ds => (asSs ds).bind fun ys => if (ys.map (·.length)).sum + ys.length * a.length ≤ 16777216 then some (.str (Txt.join a ys)) else none
def fJoin (fo f : Ev → Option PyData) : Ev → Option PyData := fun ev => (fo ev).bind fun a => (f ev).bind fun w => match a with | .str a => gJoin a w | _ => none
theorem pu_join {o e : Expr} {fo f : Ev → Option PyData} {apos pos : Pos} (ho : PU X o fo) (h : PU X e f) (hs : starEach [e] X.env = [(false, eval e X.env)] := by rfl) (hbase : attributeBase o "join" X.env (eval o X.env) = eval o X.env := by rfl) (hline : (apos.endLine == pos.line) = true := by rfl) :
    PU X (.Call (.Attribute o "join" apos) [e] [] pos) (fJoin fo f) :=
  ⟨conv (pe_join ho.pe h.pe hs hbase hline) fun σ H Q ⟨Hs, ev, w, s, re, e, q⟩ => by
    obtain ⟨a, e1, e⟩ := bindS e
    obtain ⟨w0, e2, e⟩ := bindS e
    split at e
    · obtain ⟨ds, e3, e⟩ := bindS e
      obtain ⟨ys, e4, e⟩ := bindS e
      split at e
      · rename_i hz
        cases e
        refine ⟨Hs, ev, _, s, re, e1, fun v H1 Hs1 x1 r1 => ⟨⟨_, r1.str_of⟩, Hs1, ev, w0, x1.sub, re.mono x1.small, e2, fun u H2 Hs2 x2 r2 => ?_⟩⟩
        unfold asL at e3
        split at e3
        · cases e3
          obtain ⟨p, xs, rfl, hp, r⟩ := r2.lst_of
          have ex := asSs_rp r e4
          subst ex
          exact ⟨_, p, ys, r1.str_of, rfl, .inl (SqL.of (x2.sub _ _ hp)), hz, q _ H2 Hs2 (x1.trans x2) (.str _)⟩
        · cases e3
          obtain ⟨p, xs, rfl, hp, r⟩ := r2.tup_of
          have ex := asSs_rp r e4
          subst ex
          exact ⟨_, p, ys, r1.str_of, rfl, .inr (SqT.of (x2.sub _ _ hp)), hz, q _ H2 Hs2 (x1.trans x2) (.str _)⟩
        · cases e3
      · cases e
    · cases e⟩
def fSplit (fo f : Ev → Option PyData) : Ev → Option PyData := fun ev => (fo ev).bind fun a => (f ev).bind fun b => match a, b with | .str a, .str b => if (b.length == 0) = false ∧ a.length + 2 ≤ sizeLine then some (.list ((Txt.split a b).map .str)) else none | _, _ => none
theorem rp_strs {Hs : Hp} : ∀ ys : List Str, RpAll Hs (ys.map .str) (ys.map V.str)
  | [] => .nil
  | y :: ys => .cons (.str y) (rp_strs ys)
theorem pu_split {o e : Expr} {fo f : Ev → Option PyData} {apos pos : Pos} (ho : PU X o fo) (h : PU X e f) (hs : starEach [e] X.env = [(false, eval e X.env)] := by rfl) (hbase : attributeBase o "split" X.env (eval o X.env) = eval o X.env := by rfl) (hline : (apos.endLine == pos.line) = true := by rfl) :
    PU X (.Call (.Attribute o "split" apos) [e] [] pos) (fSplit fo f) :=
  ⟨conv (pe_split ho.pe h.pe hs hbase hline) fun σ H Q ⟨Hs, ev, w, s, re, e, q⟩ => by
    obtain ⟨a, e1, e⟩ := bindS e
    obtain ⟨b, e2, e⟩ := bindS e
    split at e
    · split at e
      · rename_i hz
        cases e
        refine ⟨Hs, ev, _, s, re, e1, fun v H1 Hs1 x1 r1 => ⟨⟨_, r1.str_of⟩, Hs1, ev, _, x1.sub, re.mono x1.small, e2, fun u H2 Hs2 x2 r2 => ?_⟩⟩
        refine ⟨_, _, r1.str_of, by rw [r2.str_of], hz.1, hz.2, fun p hp => ?_⟩
        have x3 := x1.trans x2
        exact q _ _ _ (x3.laid hp _) (Rp.newL (x3.sub.free hp) (rp_strs _))
      · cases e
    · cases e⟩
end
end Pu

set_option Elab.async false
set_option linter.all false
set_option maxRecDepth 100000
set_option maxHeartbeats 2000000
namespace Pu
open PySem PySem.Spec PyProof.Rows L2

/-! ### targets -/
def setAll : L2.St → List (Nat × V) → L2.St
  | σ, [] => σ
  | σ, (i, v) :: r => setAll (σ.set i (some v)) r
def setAllE : Ev → List (Nat × PyData) → Ev
  | ev, [] => ev
  | ev, (i, w) :: r => setAllE (ev.set i (some w)) r
theorem REnv.setAll {Hs : Hp} : ∀ {is : List Nat} {us : List PyData} {vs : List V} {σ : L2.St} {ev : Ev}, REnv Hs σ ev → RpAll Hs us vs → REnv Hs (Pu.setAll σ (is.zip vs)) (setAllE ev (is.zip us))
  | [], _, _, _, _, h, _ => h
  | _ :: _, _, _, _, _, h, .nil => h
  | i :: is, _, _, _, _, h, .cons r t => REnv.setAll (is := is) (REnv.set (i := i) h r) t
theorem setAll_len : ∀ (l : List (Nat × V)) (σ : L2.St), (setAll σ l).length = σ.length
  | [], _ => rfl
  | (i, v) :: r, σ => by rw [setAll, setAll_len r, List.length_set]
def GPu (g : TG) (is : List Nat) (as : PyData → Option (List PyData)) : Prop := ∀ (σ : L2.St) (H Hs : Hp) (w : PyData) (v : V) (us : List PyData) (Q : L2.St → Hp → Prop), Same Hs H → Rp Hs w v → as w = some us → (∀ vs, RpAll Hs us vs → Q (setAll σ (is.zip vs)) H) → g v σ H Q
def asOne : PyData → Option (List PyData) := fun w => some [w]
def asTup (n : Nat) : PyData → Option (List PyData)
  | .tuple ds => if ds.length = n then some ds else none
  | _ => none
theorem gp_one {i : Nat} : GPu (gName i) [i] asOne := fun σ H Hs w v us Q s r e q => by
  cases e
  exact q [v] (.cons r .nil)
theorem gp_tup2 {K : PySem.W.Frag} {i j : Nat} : GPu (gTup K 2 (gCons (gName i) (gCons (gName j) gNil))) [i, j] (asTup 2) := fun σ H Hs w v us Q s r e q => by
  unfold asTup at e
  split at e
  · split at e
    · rename_i hl
      cases e
      obtain ⟨a, xs, rfl, h, r2⟩ := r.tup_of
      have hl2 : xs.length = 2 := by rw [← r2.len]; exact hl
      have q2 := q xs r2
      match xs, hl2 with
      | [x, y], _ => exact ⟨a, [x, y], rfl, SqT.of (s _ _ h), rfl, x, [y], rfl, y, [], rfl, rfl, q2⟩
    · cases e
  · cases e

/-! ### what is walked -/
structure WalkP (J : It) (ws : List PyData) (Hs : Hp) : Prop where
  goes : ∀ (i : Nat) (H : Hp), i < ws.length → Same Hs H → J.go i H
  stops : ∀ H : Hp, Same Hs H → J.stop ws.length H
  yields : ∀ (i : Nat) (H Hs1 : Hp) (x : V) (H' : Hp), i < ws.length → Same Hs Hs1 → Same Hs1 H → J.yld i H x H' → ∃ Hs2 w, Ext H Hs1 H' Hs2 ∧ ws[i]? = some w ∧ Rp Hs2 w x
theorem WalkP.mono {J : It} {ws : List PyData} {Hs Hs' : Hp} (w : WalkP J ws Hs) (s : Same Hs Hs') : WalkP J ws Hs' :=
  ⟨fun i H hi h => w.goes i H hi (s.trans h), fun H h => w.stops H (s.trans h), fun i H Hs1 x H' hi h1 h2 y => w.yields i H Hs1 x H' hi (s.trans h1) h2 y⟩
def tPuI (fit : Ev → Option (List PyData)) : TI := fun σ H R => ∃ (Hs : Hp) (ev : Ev) (ws : List PyData), Same Hs H ∧ REnv Hs σ ev ∧ fit ev = some ws ∧ ∀ J H' Hs', Ext H Hs H' Hs' → WalkP J ws Hs' → R J H'
structure PUI (X : Cx) (tg e : Expr) (fit : Ev → Option (List PyData)) : Prop where
  pi : PI X tg e (tPuI fit)
theorem convI {X : Cx} {tg e : Expr} {t t' : TI} (h : PI X tg e t) (k : ∀ σ H R, t' σ H R → t σ H R) : PI X tg e t' := ⟨fun pins s σ H R I q => h.run pins s σ H R I (k σ H R q)⟩
theorem PI.or {X : Cx} {tg e : Expr} {t u : TI} (h1 : PI X tg e t) (h2 : PI X tg e u) : PI X tg e (fun σ H R => t σ H R ∨ u σ H R) :=
  ⟨fun pins s σ H R I q => q.elim (h1.run pins s σ H R I) (h2.run pins s σ H R I)⟩
def signs (s : Str) : List PyData := s.cps.toList.map fun c => .str ⟨#[c]⟩
def gIt : PyData → Option (List PyData)
  | .list ds => some ds
  | .tuple ds => some ds
  | .str s => some (signs s)
  | _ => none
theorem walkp_list {K : PySem.W.Frag} {a : Addr} {xs : List V} {ws : List PyData} {Hs : Hp} (h : Hs a = some (.lst xs)) (r : RpAll Hs ws xs) : WalkP (Itl K a) ws Hs := by
  refine ⟨fun i H hi s => ?_, fun H s => ⟨xs, SqL.of (s _ _ h), by rw [r.len]; exact Nat.le_refl _⟩, fun i H Hs1 x H' hi s1 s2 y => ?_⟩
  · rw [r.len] at hi
    exact ⟨xs, xs[i], SqL.of (s _ _ h), by simp [hi]⟩
  · obtain ⟨rfl, y⟩ := y
    have e := y xs (SqL.of (s2 _ _ (s1 _ _ h)))
    obtain ⟨w, e2, rw⟩ := r.get' e
    exact ⟨Hs1, w, .refl s2, e2, rw.mono s1⟩
theorem walkp_tup {K : PySem.W.Frag} {a : Addr} {xs : List V} {ws : List PyData} {Hs : Hp} (h : Hs a = some (.tup xs)) (r : RpAll Hs ws xs) : WalkP (Itt K a) ws Hs := by
  refine ⟨fun i H hi s => ?_, fun H s => ⟨xs, SqT.of (s _ _ h), by rw [r.len]; exact Nat.le_refl _⟩, fun i H Hs1 x H' hi s1 s2 y => ?_⟩
  · rw [r.len] at hi
    exact ⟨xs, xs[i], SqT.of (s _ _ h), by simp [hi]⟩
  · obtain ⟨rfl, y⟩ := y
    have e := y xs (SqT.of (s2 _ _ (s1 _ _ h)))
    obtain ⟨w, e2, rw⟩ := r.get' e
    exact ⟨Hs1, w, .refl s2, e2, rw.mono s1⟩
theorem walkp_str {z : Str} {Hs : Hp} : WalkP (Its z) (signs z) Hs := by
  have hl : (signs z).length = z.cps.size := by unfold signs; rw [List.length_map, Array.length_toList]
  refine ⟨fun i H hi s => ?_, fun H s => ?_, fun i H Hs1 x H' hi s1 s2 y => ?_⟩
  · rw [hl] at hi; exact hi
  · show z.cps.size ≤ (signs z).length
    rw [hl]; exact Nat.le_refl _
  · obtain ⟨rfl, c, e, rfl⟩ := y
    refine ⟨Hs1, .str ⟨#[c]⟩, .refl s2, ?_, .str _⟩
    unfold signs
    rw [List.getElem?_map, Array.getElem?_toList, e]
    rfl
section
variable {X : Cx}
def fIt (f : Ev → Option PyData) : Ev → Option (List PyData) := fun ev => (f ev).bind gIt
theorem pui_any {tg e : Expr} {f : Ev → Option PyData} (h : PU X e f) : PUI X tg e (fIt f) :=
  ⟨convI (PI.or (pi_list h.pe) (PI.or (pi_tup h.pe) (pi_str h.pe))) fun σ H R ⟨Hs, ev, ws, s, re, e, q⟩ => by
    obtain ⟨w, e1, e⟩ := bindS e
    unfold gIt at e
    split at e
    · cases e
      refine .inl ⟨Hs, ev, _, s, re, e1, fun v H1 Hs1 x1 r => ?_⟩
      obtain ⟨a, xs, rfl, hp, r2⟩ := r.lst_of
      exact ⟨a, rfl, ⟨xs, SqL.of (x1.sub _ _ hp)⟩, q _ H1 Hs1 x1 (walkp_list hp r2)⟩
    · cases e
      refine .inr (.inl ⟨Hs, ev, _, s, re, e1, fun v H1 Hs1 x1 r => ?_⟩)
      obtain ⟨a, xs, rfl, hp, r2⟩ := r.tup_of
      exact ⟨a, rfl, ⟨xs, SqT.of (x1.sub _ _ hp)⟩, q _ H1 Hs1 x1 (walkp_tup hp r2)⟩
    · cases e
      exact .inr (.inr ⟨Hs, ev, _, s, re, e1, fun v H1 Hs1 x1 r => ⟨_, r.str_of, q _ H1 Hs1 x1 walkp_str⟩⟩)
    · cases e⟩
def fRange (f : Ev → Option PyData) : Ev → Option (List PyData) := fun ev => (f ev).bind fun w => (asI w).bind fun n => if -(2 ^ 62) ≤ n ∧ n < 2 ^ 62 then some ((List.range n.toNat).map fun i => .int (i : Nat)) else none
theorem walkp_range {n : Nat} {Hs : Hp} : WalkP (Itr 0 n) ((List.range n).map fun i => .int (i : Nat)) Hs := by
  refine ⟨fun i H hi s => by rw [List.length_map, List.length_range] at hi; exact hi, fun H s => by rw [List.length_map, List.length_range]; exact Nat.le_refl _, fun i H Hs1 x H' hi s1 s2 y => ?_⟩
  obtain ⟨rfl, rfl⟩ := y
  rw [List.length_map, List.length_range] at hi
  refine ⟨Hs1, .int (i : Nat), .refl s2, ?_, ?_⟩
  · rw [List.getElem?_map, List.getElem?_range hi]
    rfl
  · rw [Int.zero_add]
    exact .int _
theorem pui_range {tg e : Expr} {f : Ev → Option PyData} {p pos : Pos} (h : PU X e f) (hg : Gl X "range") (hm : X.mg "range" = none) (hs : starEach [e] X.env = (false, eval e X.env) :: starEach [] X.env := by rfl) : PUI X tg (.Call (.Name "range" p) [e] [] pos) (fRange f) :=
  ⟨convI (pi_range1 hg hm (pa_cons h.pe pa_nil hs) hs) fun σ H R ⟨Hs, ev, ws, s, re, e, q⟩ => by
    obtain ⟨w, e1, e⟩ := bindS e
    obtain ⟨n, e2, e3⟩ := bindS e
    have ew := asI_some e2
    subst ew
    split at e3
    · rename_i hb
      cases e3
      exact ⟨Hs, ev, _, s, re, e1, fun v H1 Hs1 x1 r => ⟨n, by rw [r.int_of], hb.1, hb.2, q _ H1 Hs1 x1 walkp_range⟩⟩
    · cases e3⟩
def zipD (as bs : List PyData) : List PyData := List.zipWith (fun a b => .tuple [a, b]) as bs
def fZip (f g : Ev → Option PyData) : Ev → Option (List PyData) := fun ev => (f ev).bind fun a => (g ev).bind fun b => match a, b with | .list as, .list bs => some (zipD as bs) | .tuple as, .tuple bs => some (zipD as bs) | _, _ => none
theorem zipD_at {as bs : List PyData} {i : Nat} {a b : PyData} (ha : as[i]? = some a) (hb : bs[i]? = some b) : (zipD as bs)[i]? = some (.tuple [a, b]) := by
  unfold zipD
  rw [List.getElem?_zipWith, ha, hb]
theorem zipD_len (as bs : List PyData) : (zipD as bs).length = min as.length bs.length := by unfold zipD; exact List.length_zipWith
theorem pui_zip {es : List Expr} {kk : Nat} {tpos p pos : Pos} {a b : Expr} {f g : Ev → Option PyData} (h : PU X a f) (h2 : PU X b g) (hg : Gl X "zip") (hm : X.mg "zip" = none) (hs : starEach [a, b] X.env = (false, eval a X.env) :: starEach [b] X.env := by rfl) (hs2 : starEach [b] X.env = (false, eval b X.env) :: starEach [] X.env := by rfl) (hpl : (backTo pos (starEach [b] X.env)).any (·.1) = false := by rfl) :
    PUI X (.Tuple es kk tpos) (.Call (.Name "zip" p) [a, b] [] pos) (fZip f g) :=
  ⟨convI (RZ.pi_zipA hg hm (pa_cons h.pe (pa_cons h2.pe pa_nil hs2) hs) hs hpl) fun σ H R ⟨Hs, ev, ws, s, re, e, q⟩ => by
    obtain ⟨wa, e1, e⟩ := bindS e
    obtain ⟨wb, e2, e⟩ := bindS e
    refine ⟨Hs, ev, wa, s, re, e1, fun x H1 Hs1 x1 r1 => ⟨Hs1, ev, wb, x1.sub, re.mono x1.small, e2, fun y H2 Hs2 x2 r2 => ?_⟩⟩
    have r1 := r1.mono x2.small
    split at e
    · cases e
      obtain ⟨pa, xs, rfl, ha, ra⟩ := r1.lst_of
      obtain ⟨pb, ys, rfl, hb, rb⟩ := r2.lst_of
      refine ⟨pa, pb, xs, ys, rfl, .inl ⟨SqL.of (x2.sub _ _ ha), SqL.of (x2.sub _ _ hb), q _ H2 Hs2 (x1.trans x2) ⟨fun i H hi s => ?_, fun H s => ?_, fun i H Hs3 v H' hi s1 s2 y => ?_⟩⟩⟩
      · rw [zipD_len, ra.len, rb.len] at hi
        exact ⟨xs, ys, xs[i]'(by omega), ys[i]'(by omega), SqL.of (s _ _ ha), SqL.of (s _ _ hb), by simp [show i < xs.length by omega], by simp [show i < ys.length by omega]⟩
      · refine ⟨xs, ys, SqL.of (s _ _ ha), SqL.of (s _ _ hb), ?_⟩
        rw [zipD_len, ra.len, rb.len]
        omega
      · obtain ⟨T, x, z, rfl, hT, rfl, y1, y2⟩ := y
        obtain ⟨wx, ex, rx⟩ := ra.get' (y1 xs (SqL.of (s2 _ _ (s1 _ _ ha))))
        obtain ⟨wz, ez, rz⟩ := rb.get' (y2 ys (SqL.of (s2 _ _ (s1 _ _ hb))))
        exact ⟨_, _, (Ext.refl s2).laid hT _, zipD_at ex ez, Rp.newT (s2.free hT) (.cons (rx.mono s1) (.cons (rz.mono s1) .nil))⟩
    · cases e
      obtain ⟨pa, xs, rfl, ha, ra⟩ := r1.tup_of
      obtain ⟨pb, ys, rfl, hb, rb⟩ := r2.tup_of
      refine ⟨pa, pb, xs, ys, rfl, .inr ⟨SqT.of (x2.sub _ _ ha), SqT.of (x2.sub _ _ hb), q _ H2 Hs2 (x1.trans x2) ⟨fun i H hi s => ?_, fun H s => ?_, fun i H Hs3 v H' hi s1 s2 y => ?_⟩⟩⟩
      · rw [zipD_len, ra.len, rb.len] at hi
        exact ⟨xs, ys, xs[i]'(by omega), ys[i]'(by omega), SqT.of (s _ _ ha), SqT.of (s _ _ hb), by simp [show i < xs.length by omega], by simp [show i < ys.length by omega]⟩
      · refine ⟨xs, ys, SqT.of (s _ _ ha), SqT.of (s _ _ hb), ?_⟩
        rw [zipD_len, ra.len, rb.len]
        omega
      · obtain ⟨T, x, z, rfl, hT, rfl, y1, y2⟩ := y
        obtain ⟨wx, ex, rx⟩ := ra.get' (y1 xs (SqT.of (s2 _ _ (s1 _ _ ha))))
        obtain ⟨wz, ez, rz⟩ := rb.get' (y2 ys (SqT.of (s2 _ _ (s1 _ _ hb))))
        exact ⟨_, _, (Ext.refl s2).laid hT _, zipD_at ex ez, Rp.newT (s2.free hT) (.cons (rx.mono s1) (.cons (rz.mono s1) .nil))⟩
    · cases e⟩

/-! ### comprehensions -/
def wipeE (ev : Ev) : List Nat → Ev
  | [] => ev
  | v :: vs => (wipeE ev vs).set v none
theorem REnv.wipe {Hs : Hp} {σ : L2.St} {ev : Ev} (h : REnv Hs σ ev) : ∀ vs : List Nat, REnv Hs (L2.wipe σ vs) (wipeE ev vs)
  | [] => h
  | v :: vs => (REnv.wipe h vs).unset
theorem wipe_at (σ : L2.St) : ∀ (vs : List Nat) (j : Nat), (wipe σ vs)[j]? = if j ∈ vs ∧ j < σ.length then some none else σ[j]?
  | [], j => by simp [wipe]
  | v :: vs, j => by
    have ih := wipe_at σ vs j
    have hl := wipe_length σ vs
    unfold wipe
    by_cases hj : v = j
    · subst hj
      by_cases hb : v < σ.length
      · rw [List.getElem?_set_self (by omega)]
        simp [hb]
      · rw [List.getElem?_eq_none (by simp; omega)]
        simp [hb]
    · rw [List.getElem?_set_ne hj, ih]
      by_cases hm : j ∈ vs
      · simp [hm]
      · simp [hm, Ne.symm hj]
theorem wipe_set {σ : L2.St} {vs : List Nat} {i : Nat} {o : Option V} (h : i ∈ vs) : wipe (σ.set i o) vs = wipe σ vs := by
  apply List.ext_getElem?
  intro j
  rw [wipe_at, wipe_at, List.length_set]
  by_cases hj : j ∈ vs ∧ j < σ.length
  · rw [if_pos hj, if_pos hj]
  · rw [if_neg hj, if_neg hj]
    by_cases e : i = j
    · subst e
      have hn : ¬ i < σ.length := fun z => hj ⟨h, z⟩
      rw [List.getElem?_eq_none (by simp; omega), List.getElem?_eq_none (by omega)]
    · rw [List.getElem?_set_ne e]
theorem wipe_setAll {vs : List Nat} : ∀ (l : List (Nat × V)) (σ : L2.St), (∀ p ∈ l, p.1 ∈ vs) → wipe (setAll σ l) vs = wipe σ vs
  | [], _, _ => rfl
  | (i, v) :: r, σ, h => by
    rw [setAll, wipe_setAll r _ fun p hp => h p (List.mem_cons_of_mem _ hp), wipe_set (h (i, v) List.mem_cons_self)]
theorem wipe_wipe (σ : L2.St) (vs : List Nat) : wipe (wipe σ vs) vs = wipe σ vs := by
  apply List.ext_getElem?
  intro j
  rw [wipe_at, wipe_length, wipe_at]
  by_cases h : j ∈ vs ∧ j < σ.length
  · rw [if_pos h, if_pos h]
  · rw [if_neg h, if_neg h]
def compL (as : PyData → Option (List PyData)) (is : List Nat) (ft : Ev → Option Bool) (fe : Ev → Option PyData) (ev : Ev) : List PyData → Option (List PyData)
  | [] => some []
  | w :: ws => (as w).bind fun us => (ft (setAllE ev (is.zip us))).bind fun b => if b = true then (fe (setAllE ev (is.zip us))).bind fun y => (compL as is ft fe ev ws).bind fun ys => some (y :: ys) else compL as is ft fe ev ws
def fComp (fit : Ev → Option (List PyData)) (as : PyData → Option (List PyData)) (is own : List Nat) (ft : Ev → Option Bool) (fe : Ev → Option PyData) : Ev → Option PyData := fun ev =>
  (fit ev).bind fun ws => if ws.length ≤ sizeLine then (compL as is ft fe (wipeE ev own) ws).bind fun ys => some (.list ys) else none
def TPu (tt : TT) (ft : Ev → Option Bool) : Prop := ∀ σ H Q, tPuT ft σ H Q → tt σ H Q
theorem tp_yes : TPu tYes (fun _ => some true) := fun σ H Q ⟨Hs, ev, b, s, re, e, q⟩ => by cases e; exact q H Hs (.refl s)
theorem tp_self {ft : Ev → Option Bool} : TPu (tPuT ft) ft := fun _ _ _ q => q
/-- what a comprehension has made so far -/
structure CInv (H1 Hs1 : Hp) (D : Addr) (as : PyData → Option (List PyData)) (is : List Nat) (ft : Ev → Option Bool) (fe : Ev → Option PyData) (evw : Ev) (ws out : List PyData) (i : Nat) (H : Hp) (Hs : Hp) (acc : List PyData) (vs : List V) : Prop where
  big : Same H1 H
  small : Same Hs1 Hs
  sub : Same Hs H
  new : ∀ b, Hs1 b = none → H1 b ≠ none → Hs b = none
  dn : Hs D = none
  at_ : H D = some (.lst vs)
  rp : RpAll Hs acc vs
  le : i ≤ ws.length
  sz : acc.length ≤ i
  rest : ∃ rest, compL as is ft fe evw (ws.drop i) = some rest ∧ acc ++ rest = out
theorem lc_use {fit : Ev → Option (List PyData)} {as : PyData → Option (List PyData)} {is own : List Nat} {ft : Ev → Option Bool} {fe : Ev → Option PyData} {g : TG} {tt : TT} (hg : GPu g is as) (ht : TPu tt ft) (hi : ∀ i ∈ is, i ∈ own) {σ : L2.St} {H : Hp} {Q : VK} (h : tPu (fComp fit as is own ft fe) σ H Q) : tLc (tPuI fit) g tt (tPu fe) own σ H Q := by
  obtain ⟨Hs, ev, w, s, re, e, q⟩ := h
  obtain ⟨ws, e1, e⟩ := bindS e
  split at e
  case isFalse => cases e
  rename_i hsz
  obtain ⟨out, e2, e⟩ := bindS e
  cases e
  refine ⟨Hs, ev, ws, s, re, e1, fun J H1 Hs1 x1 wk D hD => ?_⟩
  have rew : REnv Hs1 (wipe σ own) (wipeE ev own) := (re.mono x1.small).wipe own
  refine ⟨fun i m H => m = ws.length - i ∧ ∃ Hs acc vs, CInv H1 Hs1 D as is ft fe (wipeE ev own) ws out i H Hs acc vs, ⟨ws.length, by simp, Hs1, [], [], ?_⟩, ?_⟩
  · refine ⟨fun b o e => by rw [upd_ne (ne_of_none e hD)]; exact e, Same.refl _, fun b o e => by rw [upd_ne (ne_of_none (x1.sub _ _ e) hD)]; exact x1.sub _ _ e, fun b h _ => h, x1.sub.free hD, upd_same, .nil, Nat.zero_le _, Nat.le_refl _, out, ?_, List.nil_append _⟩
    rw [List.drop_zero]
    exact e2
  · rintro i m H2 ⟨rfl, Hs2, acc, vs, C⟩
    obtain ⟨rest, er, eo⟩ := C.rest
    by_cases hlt : i < ws.length
    · refine .inr ⟨wk.goes i H2 hlt (C.small.trans C.sub), fun H' => ∃ Hs acc vs, CInv H1 Hs1 D as is ft fe (wipeE ev own) ws out (i + 1) H' Hs acc vs, fun H' ⟨Hs', acc', vs', C'⟩ => ⟨ws.length - (i + 1), by omega, rfl, Hs', acc', vs', C'⟩, fun x H3 y => ?_⟩
      obtain ⟨Hs3, w, x3, ew, rw3⟩ := wk.yields i H2 Hs2 x H3 hlt C.small C.sub y
      have ed : ws.drop i = w :: ws.drop (i + 1) := by
        rw [List.drop_eq_getElem_cons hlt]
        have : ws[i] = w := by
          rw [List.getElem?_eq_getElem hlt] at ew
          exact Option.some.inj ew
        rw [this]
      rw [ed] at er
      obtain ⟨us, eu, er⟩ := bindS (show (as w).bind _ = some rest from er)
      obtain ⟨b, eb, er⟩ := bindS er
      refine hg _ H3 Hs3 w x us _ x3.sub rw3 eu fun vs3 rvs => ?_
      have re3 : REnv Hs3 (setAll (wipe σ own) (is.zip vs3)) (setAllE (wipeE ev own) (is.zip us)) := (rew.mono (C.small.trans x3.small)).setAll rvs
      refine ⟨?_, ht _ _ _ ⟨Hs3, _, b, x3.sub, re3, eb, fun H4 Hs4 x4 => ?_⟩⟩
      · rw [wipe_setAll _ _ fun p hp => hi _ (List.of_mem_zip hp).1, wipe_wipe]
      · have x34 := x3.trans x4
        have step : ∀ {H5 Hs5 : Hp}, Ext H2 Hs2 H5 Hs5 → Same H1 H5 ∧ Same Hs1 Hs5 ∧ (∀ b, Hs1 b = none → H1 b ≠ none → Hs5 b = none) ∧ Hs5 D = none ∧ H5 D = some (.lst vs) := fun {H5 Hs5} x =>
          ⟨C.big.trans x.big, C.small.trans x.small, fun b h h' => x.new b (C.new b h h') fun z => h' (C.big.free z), x.new D C.dn (by rw [C.at_]; exact fun z => nomatch z), x.big _ _ C.at_⟩
        cases b with
        | false =>
          rw [if_neg Bool.false_ne_true] at er
          obtain ⟨a1, a2, a3, a4, a5⟩ := step x34
          exact iteF ⟨Hs4, acc, vs, a1, a2, x34.sub, a3, a4, a5, C.rp.mono x34.small, hlt, Nat.le_succ_of_le C.sz, rest, er, eo⟩
        | true =>
          rw [if_pos rfl] at er
          obtain ⟨y5, ey, er⟩ := bindS er
          obtain ⟨ys, eys, er⟩ := bindS er
          cases er
          refine iteT ⟨Hs4, _, y5, x4.sub, re3.mono x4.small, ey, fun v H5 Hs5 x5 r5 => ?_⟩
          have x35 := x34.trans x5
          obtain ⟨a1, a2, a3, a4, a5⟩ := step x35
          have hlen : vs.length = acc.length := (C.rp.len).symm
          refine ⟨vs, a5, by have := C.sz; omega, Hs5, acc ++ [y5], vs ++ [v], ?_⟩
          have nD : ∀ {b : Addr} {o : HO}, Hs5 b = some o → b ≠ D := fun {b o} z => ne_of_none z a4
          refine ⟨fun b o z => ?_, a2, fun b o z => ?_, a3, a4, upd_same, (C.rp.mono x35.small).append (.cons r5 .nil), hlt, ?_, ys, eys, ?_⟩
          · rw [upd_ne (ne_of_none z hD)]; exact a1 _ _ z
          · rw [upd_ne (nD z)]; exact x35.sub _ _ z
          · rw [List.length_append]; have := C.sz; simp; omega
          · rw [List.append_assoc]; exact eo
    · have ei : i = ws.length := by have := C.le; omega
      subst ei
      refine .inl ⟨wk.stops H2 (C.small.trans C.sub), ?_⟩
      rw [List.drop_length] at er
      cases er
      rw [List.append_nil] at eo
      subst eo
      refine q (.ref D) H2 (upd Hs2 D (.lst vs)) ⟨x1.big.trans C.big, (x1.small.trans C.small).trans fun b o z => ?_, fun b o z => ?_, fun b h h' => ?_⟩ (Rp.newL C.dn C.rp)
      · rw [upd_ne (ne_of_none z C.dn)]; exact z
      · by_cases hb : b = D
        · subst hb; rw [upd_same] at z; rw [← z]; exact C.at_
        · rw [upd_ne hb] at z; exact C.sub _ _ z
      · have hb : b ≠ D := fun z => by subst z; exact h' (x1.big.free hD)
        rw [upd_ne hb]
        exact C.new b (x1.new b h h') fun z => h' (x1.big.free z)
theorem pu_lc {elt tg iter : Expr} {ifs : List Expr} {scope : Scope} {own : List (Str × Nat)} {pos : Pos} {fit : Ev → Option (List PyData)} {as : PyData → Option (List PyData)} {is : List Nat} {ft : Ev → Option Bool} {fe : Ev → Option PyData} {g : TG} {tt : TT}
    (hc : X.calm = true) (hN : X.N.Nodup) (hi : PUI X tg iter fit) (ok : BlkOk X.N X.env.scope scope own) (gp : GPu g is as) (tp : TPu tt ft) (hown : ∀ i ∈ is, i ∈ own.map (·.2))
    (hg : ∀ (s : Shared) (H : Hp) (C : Addr) (cl : List (Str × Addr)) (fp : List Addr), PG (X.blk s H scope (compEnvC scope cl C X.env) fp) tg g) (ht : ∀ (s : Shared) (H : Hp) (C : Addr) (cl : List (Str × Addr)) (fp : List Addr), PTs (X.blk s H scope (compEnvC scope cl C X.env) fp) ifs tt)
    (he : ∀ (s : Shared) (H : Hp) (C : Addr) (cl : List (Str × Addr)) (fp : List Addr), PU (X.blk s H scope (compEnvC scope cl C X.env) fp) elt fe) (hs : ∀ x, foldedSetIterable iter X.env x = pure x := by intro _; rfl) :
    PU X (.ListComp elt [⟨tg, iter, ifs, 0⟩] scope pos) (fComp fit as is (own.map (·.2)) ft fe) :=
  ⟨conv (pe_lc hc hN hi.pi ok hg ht (fun s H C cl fp => (he s H C cl fp).pe) hs) fun σ H Q h => lc_use gp tp hown h⟩
end

/-! ### statements -/
inductive Out where
  | nx (ev : Ev)
  | rt (w : PyData)
def OutK (D : Ends) (σ : L2.St) (H Hs : Hp) : Out → Prop
  | .nx ev' => ∀ σ' H' Hs', Ext H Hs H' Hs' → REnv Hs' σ' ev' → σ'.length = σ.length → D.nx σ' H'
  | .rt w => ∀ v H' Hs', Ext H Hs H' Hs' → Rp Hs' w v → D.rt v H'
def tPuS (F : Ev → Option Out) : TS := fun D σ H => ∃ (Hs : Hp) (ev : Ev) (o : Out), Same Hs H ∧ REnv Hs σ ev ∧ F ev = some o ∧ OutK D σ H Hs o
structure PUS (X : Cx) (st : Stmt) (F : Ev → Option Out) : Prop where
  ps : PS X st (tPuS F)
structure PUSs (X : Cx) (sts : List Stmt) (F : Ev → Option Out) : Prop where
  pss : PSs X sts (tPuS F)
theorem convS {X : Cx} {st : Stmt} {t t' : TS} (h : PS X st t) (k : ∀ D σ H, t' D σ H → t D σ H) : PS X st t' := ⟨fun pins s σ H D I q => h.run pins s σ H D I (k D σ H q)⟩
theorem convSs {X : Cx} {st : List Stmt} {t t' : TS} (h : PSs X st t) (k : ∀ D σ H, t' D σ H → t D σ H) : PSs X st t' := ⟨fun pins s σ H D I q => h.run pins s σ H D I (k D σ H q)⟩
theorem OutK.later {D : Ends} {σ σ' : L2.St} {H Hs H' Hs' : Hp} {o : Out} (x : Ext H Hs H' Hs') (hl : σ'.length = σ.length) (k : OutK D σ H Hs o) : OutK D σ' H' Hs' o := by
  cases o with
  | nx ev' => exact fun σ2 H2 Hs2 x2 r h => k σ2 H2 Hs2 (x.trans x2) r (h.trans hl)
  | rt w => exact fun v H2 Hs2 x2 r => k v H2 Hs2 (x.trans x2) r
section
variable {X : Cx}
def fNext : Ev → Option Out := fun ev => some (.nx ev)
theorem puss_nil : PUSs X [] fNext := ⟨convSs pss_nil fun D σ H ⟨Hs, ev, o, s, re, e, q⟩ => by cases e; exact q σ H Hs (.refl s) re rfl⟩
def fSeq (F G : Ev → Option Out) : Ev → Option Out := fun ev => (F ev).bind fun o => match o with | .nx ev' => G ev' | .rt w => some (.rt w)
theorem puss_cons {st : Stmt} {sts : List Stmt} {F G : Ev → Option Out} (h : PUS X st F) (hr : PUSs X sts G) : PUSs X (st :: sts) (fSeq F G) :=
  ⟨convSs (pss_cons h.ps hr.pss) fun D σ H ⟨Hs, ev, o, s, re, e, q⟩ => by
    obtain ⟨o1, e1, e⟩ := bindS e
    refine ⟨Hs, ev, o1, s, re, e1, ?_⟩
    cases o1 with
    | nx ev' => exact fun σ' H' Hs' x r hl => ⟨Hs', ev', o, x.sub, r, e, q.later x hl⟩
    | rt w => cases e; exact q⟩
def fSet (i : Nat) (f : Ev → Option PyData) : Ev → Option Out := fun ev => (f ev).bind fun w => some (.nx (ev.set i (some w)))
theorem pus_set {i : Nat} {x : Str} {e : Expr} {f : Ev → Option PyData} {pos pos' : Pos} (hN : X.N.Nodup) (hi : X.N[i]? = some x) (hx : Loc X.env.scope x) (h : PU X e f) (hs : swapsWith e (some (.Name x pos')) pos.line X.env = pure false := by rfl) (hf : X.fn x = true ∨ X.env.scope.names.lookup x = some .local := by first | exact .inl rfl | exact .inr rfl | assumption) :
    PUS X (.Assign [.Name x pos'] e pos) (fSet i f) :=
  ⟨convS (ps_set hN hi hx h.pe hs hf) fun D σ H ⟨Hs, ev, o, s, re, e, q⟩ => by
    obtain ⟨w, e1, e⟩ := bindS e
    cases e
    exact ⟨Hs, ev, w, s, re, e1, fun v H' Hs' x r => q _ H' Hs' x ((re.mono x.small).set r) (by rw [List.length_set])⟩⟩
/-- name = [..] -/
theorem pus_setLc {i : Nat} {y : Str} {py : Pos} {elt tg iter : Expr} {ifs : List Expr} {scope : Scope} {own : List (Str × Nat)} {pos spos : Pos} {fit : Ev → Option (List PyData)} {as : PyData → Option (List PyData)} {is : List Nat} {ft : Ev → Option Bool} {fe : Ev → Option PyData} {g : TG} {tt : TT}
    (hc : X.calm = true) (hN : X.N.Nodup) (hy : X.N[i]? = some y) (hyl : X.env.scope.names.lookup y = some .local)
    (hsw : swapsWith (.ListComp elt [⟨tg, iter, ifs, 0⟩] scope pos) (some (.Name y py)) spos.line X.env = pure true) (hi : PUI X tg iter fit) (ok : BlkOk X.N X.env.scope scope own) (gp : GPu g is as) (tp : TPu tt ft) (hown : ∀ i ∈ is, i ∈ own.map (·.2))
    (hg : ∀ (s : Shared) (H : Hp) (C : Addr) (cl : List (Str × Addr)) (fp : List Addr), PG (X.blk s H scope (compEnvC scope cl C X.env) fp) tg g) (ht : ∀ (s : Shared) (H : Hp) (C : Addr) (cl : List (Str × Addr)) (fp : List Addr), PTs (X.blk s H scope (compEnvC scope cl C X.env) fp) ifs tt)
    (he : ∀ (s : Shared) (H : Hp) (C : Addr) (cl : List (Str × Addr)) (fp : List Addr), PU (X.blk s H scope (compEnvC scope cl C X.env) fp) elt fe) (hs : ∀ x, foldedSetIterable iter X.env x = pure x := by intro _; rfl) :
    PUS X (.Assign [.Name y py] (.ListComp elt [⟨tg, iter, ifs, 0⟩] scope pos) spos) (fSet i (fComp fit as is (own.map (·.2)) ft fe)) :=
  ⟨convS (ps_setLc hc hN hy hyl hsw hi.pi ok hg ht (fun s H C cl fp => (he s H C cl fp).pe) hs) fun D σ H ⟨Hs, ev, o, s, re, e, q⟩ => by
    obtain ⟨w, e1, e⟩ := bindS e
    cases e
    exact lc_use gp tp hown (Q := fun x H1 => gName i x σ H1 D.nx) ⟨Hs, ev, w, s, re, e1, fun v H' Hs' x r => q _ H' Hs' x ((re.mono x.small).set r) (by rw [List.length_set])⟩⟩
def fRet (f : Ev → Option PyData) : Ev → Option Out := fun ev => (f ev).bind fun w => some (.rt w)
theorem pus_ret {e : Expr} {f : Ev → Option PyData} {pos : Pos} (h : PU X e f) : PUS X (.Return (some e) pos) (fRet f) :=
  ⟨convS (ps_ret h.pe) fun D σ H ⟨Hs, ev, o, s, re, e, q⟩ => by
    obtain ⟨w, e1, e⟩ := bindS e
    cases e
    exact ⟨Hs, ev, w, s, re, e1, fun v H' Hs' x r => q v H' Hs' x r⟩⟩
def fIfS (c : Ev → Option Bool) (F G : Ev → Option Out) : Ev → Option Out := fun ev => (c ev).bind fun b => if b = true then F ev else G ev
theorem pus_if {c : Expr} {a b : List Stmt} {fc : Ev → Option Bool} {F G : Ev → Option Out} {pos : Pos} (hc : PUT X c fc) (ha : PUSs X a F) (hb : PUSs X b G) : PUS X (.If c a b pos) (fIfS fc F G) :=
  ⟨convS (ps_if hc.pt ha.pss hb.pss) fun D σ H ⟨Hs, ev, o, s, re, e, q⟩ => by
    obtain ⟨k, e1, e⟩ := bindS e
    refine ⟨Hs, ev, k, s, re, e1, fun H' Hs' x => ?_⟩
    cases k with
    | true => exact iteT ⟨Hs', ev, o, x.sub, re.mono x.small, e, q.later x rfl⟩
    | false => exact iteF ⟨Hs', ev, o, x.sub, re.mono x.small, e, q.later x rfl⟩⟩
/-- a raise that is not reached -/
theorem pus_no {st : Stmt} : PUS X st (fun _ => none) := ⟨convS ps_never fun D σ H ⟨Hs, ev, o, s, re, e, q⟩ => by cases e⟩
def forL (as : PyData → Option (List PyData)) (is : List Nat) (F : Ev → Option Out) : List PyData → Ev → Option Out
  | [], ev => some (.nx ev)
  | w :: ws, ev => (as w).bind fun us => (F (setAllE ev (is.zip us))).bind fun o => match o with | .nx ev' => forL as is F ws ev' | .rt w => some (.rt w)
def fFor (fit : Ev → Option (List PyData)) (as : PyData → Option (List PyData)) (is : List Nat) (F : Ev → Option Out) : Ev → Option Out := fun ev => (fit ev).bind fun ws => forL as is F ws ev
theorem for_use {fit : Ev → Option (List PyData)} {as : PyData → Option (List PyData)} {is : List Nat} {F : Ev → Option Out} {g : TG} (gp : GPu g is as) {D : Ends} {σ : L2.St} {H : Hp} (h : tPuS (fFor fit as is F) D σ H) : tFor (tPuI fit) g (tPuS F) D σ H := by
  obtain ⟨Hs, ev, o, s, re, e, q⟩ := h
  obtain ⟨ws, e1, e⟩ := bindS e
  refine ⟨Hs, ev, ws, s, re, e1, fun J H1 Hs1 x1 wk => ?_⟩
  refine ⟨fun i m σ2 H2 => m = ws.length - i ∧ i ≤ ws.length ∧ ∃ Hs2 ev2, Ext H Hs H2 Hs2 ∧ Same Hs1 Hs2 ∧ REnv Hs2 σ2 ev2 ∧ σ2.length = σ.length ∧ forL as is F (ws.drop i) ev2 = some o,
    ⟨ws.length, by simp, Nat.zero_le _, Hs1, ev, x1, Same.refl _, re.mono x1.small, rfl, by rw [List.drop_zero]; exact e⟩, ?_⟩
  rintro i m σ2 H2 ⟨rfl, hle, Hs2, ev2, x2, s12, re2, hl2, e2⟩
  by_cases hlt : i < ws.length
  · refine .inr ⟨wk.goes i H2 hlt (s12.trans x2.sub), fun σ' H' => ∃ Hs2 ev2, Ext H Hs H' Hs2 ∧ Same Hs1 Hs2 ∧ REnv Hs2 σ' ev2 ∧ σ'.length = σ.length ∧ forL as is F (ws.drop (i + 1)) ev2 = some o, fun σ' H' h => ⟨ws.length - (i + 1), by omega, rfl, hlt, h⟩, fun x H3 y => ?_⟩
    obtain ⟨Hs3, w, x3, ew, rw3⟩ := wk.yields i H2 Hs2 x H3 hlt s12 x2.sub y
    have ed : ws.drop i = w :: ws.drop (i + 1) := by
      rw [List.drop_eq_getElem_cons hlt]
      have : ws[i] = w := by
        rw [List.getElem?_eq_getElem hlt] at ew
        exact Option.some.inj ew
      rw [this]
    rw [ed] at e2
    obtain ⟨us, eu, e2⟩ := bindS (show (as w).bind _ = some o from e2)
    obtain ⟨o2, eo, e2⟩ := bindS e2
    refine gp _ H3 Hs3 w x us _ x3.sub rw3 eu fun vs3 rvs => ?_
    refine ⟨Hs3, _, o2, x3.sub, (re2.mono x3.small).setAll rvs, eo, ?_⟩
    have x23 := x2.trans x3
    cases o2 with
    | nx ev' => exact fun σ' H' Hs' x' r hl => ⟨Hs', ev', x23.trans x', (s12.trans x3.small).trans x'.small, r, by rw [hl, setAll_len, hl2], e2⟩
    | rt w =>
      cases e2
      exact fun v H' Hs' x' r => q v H' Hs' (x23.trans x') r
  · have ei : i = ws.length := by omega
    subst ei
    refine .inl ⟨wk.stops H2 (s12.trans x2.sub), ?_⟩
    rw [List.drop_length] at e2
    cases e2
    exact q σ2 H2 Hs2 x2 re2 hl2
theorem pus_for {tg iter : Expr} {body : List Stmt} {fit : Ev → Option (List PyData)} {as : PyData → Option (List PyData)} {is : List Nat} {F : Ev → Option Out} {g : TG} {pos : Pos} (hp : PassesOwn (model X.prog X.w) X.A X.env X.xe) (hc : X.calm = true) (hi : PUI X tg iter fit) (gp : GPu g is as) (hg : PG X tg g) (hb : PUSs X body F) (hs : ∀ x, foldedSetIterable iter X.env x = pure x := by intro _; rfl) :
    PUS X (.For tg iter body [] pos) (fFor fit as is F) := ⟨convS (ps_for hp hc hi.pi hg hb.pss hs) fun D σ H h => for_use gp h⟩
/-- while, a number of turns at most -/
def whileN (fc : Ev → Option Bool) (F : Ev → Option Out) : Nat → Ev → Option Out
  | 0, _ => none
  | n + 1, ev => (fc ev).bind fun b => if b = true then (F ev).bind fun o => match o with | .nx ev' => whileN fc F n ev' | .rt w => some (.rt w) else some (.nx ev)
theorem while_use {fc : Ev → Option Bool} {F : Ev → Option Out} {N : Ev → Nat} {D : Ends} {σ : L2.St} {H : Hp} (h : tPuS (fun ev => whileN fc F (N ev) ev) D σ H) : tWhile (tPuT fc) (tPuS F) D σ H := by
  obtain ⟨Hs, ev, o, s, re, e, q⟩ := h
  refine ⟨fun m σ2 H2 => ∃ Hs2 ev2, Ext H Hs H2 Hs2 ∧ REnv Hs2 σ2 ev2 ∧ σ2.length = σ.length ∧ whileN fc F m ev2 = some o, ⟨N ev, Hs, ev, .refl s, re, rfl, e⟩, ?_⟩
  rintro m σ2 H2 ⟨Hs2, ev2, x2, re2, hl2, e2⟩
  cases m with
  | zero => cases e2
  | succ m =>
    obtain ⟨b, eb, e2⟩ := bindS (show (fc ev2).bind _ = some o from e2)
    refine ⟨Hs2, ev2, b, x2.sub, re2, eb, fun H3 Hs3 x3 => ?_⟩
    have x23 := x2.trans x3
    cases b with
    | true =>
      rw [if_pos rfl] at e2
      obtain ⟨o2, eo, e2⟩ := bindS e2
      refine iteT ⟨fun σ' H' => ∃ Hs2 ev2, Ext H Hs H' Hs2 ∧ REnv Hs2 σ' ev2 ∧ σ'.length = σ.length ∧ whileN fc F m ev2 = some o, fun σ' H' h => ⟨m, Nat.lt_succ_self _, h⟩, Hs3, ev2, o2, x3.sub, re2.mono x3.small, eo, ?_⟩
      cases o2 with
      | nx ev' => exact fun σ' H' Hs' x' r hl => ⟨Hs', ev', x23.trans x', r, by rw [hl, hl2], e2⟩
      | rt w =>
        cases e2
        exact fun v H' Hs' x' r => q v H' Hs' (x23.trans x') r
    | false =>
      rw [if_neg Bool.false_ne_true] at e2
      cases e2
      exact iteF (q σ2 H3 Hs3 x23 (re2.mono x3.small) hl2)
theorem pus_while {c : Expr} {body : List Stmt} {fc : Ev → Option Bool} {F : Ev → Option Out} {pos : Pos} (N : Ev → Nat) (hp : PassesOwn (model X.prog X.w) X.A X.env X.xe) (hc : PUT X c fc) (hb : PUSs X body F) : PUS X (.While c body [] pos) (fun ev => whileN fc F (N ev) ev) :=
  ⟨convS (ps_while hp hc.pt hb.pss) fun D σ H h => while_use h⟩
end

/-! ### defs -/
def ev0 (N : List Str) (ws : List PyData) : Ev := ws.map some ++ List.replicate (N.length - ws.length) none
theorem REnv.start {Hs : Hp} {N : List Str} {ws : List PyData} {vs : List V} (r : RpAll Hs ws vs) : REnv Hs (L2.start N vs) (ev0 N ws) := by
  have hl := r.len
  refine ⟨?_, fun i w e => ?_⟩
  · unfold ev0 L2.start
    simp only [List.length_append, List.length_map, List.length_replicate]
    omega
  · unfold ev0 at e
    unfold L2.start
    by_cases hi : i < ws.length
    · rw [List.getElem?_append_left (by simpa using hi), List.getElem?_map] at e
      rw [List.getElem?_append_left (by simp; omega), List.getElem?_map]
      cases h : ws[i]? with
      | none => rw [h] at e; cases e
      | some d =>
        rw [h] at e
        cases e
        obtain ⟨v, h1, h2⟩ := r.get h
        exact ⟨v, by rw [h1]; rfl, h2⟩
    · rw [List.getElem?_append_right (by simpa using hi), List.getElem?_replicate] at e
      split at e <;> cases e
/-- what a def's body is worth on its arguments -/
def runF (N : List Str) (n : Nat) (F : Ev → Option Out) (ws : List PyData) : Option PyData := if ws.length = n then (F (ev0 N ws)).bind fun o => match o with | .nx _ => some .none | .rt w => some w else none
section
variable {P : Program} {w : World} {K : PySem.W.Frag} {mg : Str → Option Value} {base : Heap}
theorem spP_len {g : List PyData → Option PyData} {n : Nat} (h : ∀ ws w, g ws = some w → ws.length = n) {vs : List V} {H : Hp} {Q : VK} {E : XK} (q : spP g vs H Q E) : vs.length = n := by
  obtain ⟨Hs, ws, w, s, r, e, q⟩ := q
  rw [← r.len]
  exact h ws w e
theorem body_use {N ps : List Str} {F : Ev → Option Out} {vs : List V} {H : Hp} {Q : VK} {E : XK} (h : spP (runF N ps.length F) vs H Q E) : tPuS F { nx := fun _ H' => Q .non H', rt := Q } (L2.start N vs) H := by
  obtain ⟨Hs, ws, w, s, r, e, q⟩ := h
  unfold runF at e
  split at e
  · obtain ⟨o, e1, e⟩ := bindS e
    refine ⟨Hs, _, o, s, REnv.start r, e1, ?_⟩
    cases o with
    | nx ev' => cases e; exact fun σ' H' Hs' x _ _ => q .non H' Hs' x .non
    | rt u => cases e; exact fun v H' Hs' x r' => q v H' Hs' x r'
  · cases e
theorem runF_len {N : List Str} {n : Nat} {F : Ev → Option Out} {ws : List PyData} {w : PyData} (h : runF N n F ws = some w) : ws.length = n := by
  unfold runF at h
  split at h
  · assumption
  · cases h
/-- a def by its body as a function -/
theorem pu_def {x qual : Str} {st : Stmt} {f : Addr} {fd : FuncData} {N ps : List Str} {k : Nat} {F : Ev → Option Out} (Fn : Fun K x qual st f fd) (S : FnScope N ps (defScope st))
    (hbody : ∀ (cdv : Value) (A : Around) (outer : List Env) (s : Shared) (H : Hp) (E : XK), Room k (A.deeper (envOfC qual (defScope st) s.heap.objs.size f cdv)) → PUSs (cxOf CX0 P w K mg base N qual (defScope st) f cdv A outer s H E).nox (defBody st) F) :
    FnOk P w K mg base CX0 (k + 1) f fd ps (spP (runF N ps.length F)) :=
  Fn.ok S (fun vs H Q E h => spP_len (fun _ _ => runF_len) h) fun cdv A outer s H vs Q E hr h => ⟨tPuS F, (hbody cdv A outer s H E hr).pss, body_use h⟩
theorem FnOk.spW {CX : CXT} {k : Nat} {f : Addr} {fd : FuncData} {ps : List Str} {g g' : List PyData → Option PyData} (F : FnOk P w K mg base CX k f fd ps (spP g)) (h : ∀ ws w, g' ws = some w → g ws = some w) : FnOk P w K mg base CX k f fd ps (spP g') := F.imp fun _ _ _ _ q => spP_imp h q
end
end Pu

set_option Elab.async false
set_option linter.all false
set_option maxRecDepth 100000
set_option maxHeartbeats 2000000
/-! Where a token is out: replace. -/
namespace Pu
open PySem PySem.Spec PyProof.Rows L2
structure PUET (X : Cx) (e : Expr) (f : Ev → Option PyData) : Prop where
  pe : PET X e (tPu f)
structure PUAT (X : Cx) (es : List Expr) (f : Ev → Option (List PyData)) : Prop where
  pa : PAT X es (tPuA f)
structure PUST (X : Cx) (st : Stmt) (F : Ev → Option Out) : Prop where
  ps : PST X st (tPuS F)
structure PUSsT (X : Cx) (sts : List Stmt) (F : Ev → Option Out) : Prop where
  pss : PSsT X sts (tPuS F)
section
variable {X : Cx}
theorem convET {e : Expr} {t t' : TE} (h : PET X e t) (k : ∀ σ H Q, t' σ H Q → t σ H Q) : PET X e t' := fun pins s σ H Q h0 I q => h pins s σ H Q h0 I (k σ H Q q)
theorem convAT {es : List Expr} {t t' : TA} (h : PAT X es t) (k : ∀ σ H Q, t' σ H Q → t σ H Q) : PAT X es t' := fun pos pins s σ H Q h0 I q => h pos pins s σ H Q h0 I (k σ H Q q)
theorem convST {st : Stmt} {t t' : TS} (h : PST X st t) (k : ∀ D σ H, t' D σ H → t D σ H) : PST X st t' := fun pins s σ H D h0 I q => h pins s σ H D h0 I (k D σ H q)
theorem convSsT {st : List Stmt} {t t' : TS} (h : PSsT X st t) (k : ∀ D σ H, t' D σ H → t D σ H) : PSsT X st t' := fun pins s σ H D h0 I q => h pins s σ H D h0 I (k D σ H q)
theorem puet_of {e : Expr} {f : Ev → Option PyData} (h : PU X e f) : PUET X e f := ⟨CwR.PET.of h.pe⟩
def gRepl (y z : Str) : PyData → Option PyData
  | .str x => if x.length + (x.length + 1) * z.length ≤ 16777216 then some (.str (Txt.replace x y z)) else none
  | _ => none
def fRepl (y z : Str) (f : Ev → Option PyData) : Ev → Option PyData := fun ev => (f ev).bind (gRepl y z)
theorem puet_repl {o : Expr} {f : Ev → Option PyData} {y z : Str} {j k : Nat} {c0 c1 apos pos : Pos} (ho : PU X o f) (hyz : (y == z) = false := by decide)
    (hst : starEach [.Constant (.str y) j c0, .Constant (.str z) k c1] X.env = [(false, eval (.Constant (.str y) j c0) X.env), (false, eval (.Constant (.str z) k c1) X.env)] := by rfl)
    (hbase : attributeBase o "replace" X.env (eval o X.env) = eval o X.env := by rfl) (hline : (apos.endLine == pos.line) = true := by rfl) :
    PUET X (.Call (.Attribute o "replace" apos) [.Constant (.str y) j c0, .Constant (.str z) k c1] [] pos) (fRepl y z f) :=
  ⟨convET (CwR.pet_replC ho.pe hyz hst hbase hline) fun σ H Q ⟨Hs, ev, w, s, re, e, q⟩ => by
    obtain ⟨w0, e1, e⟩ := bindS e
    unfold gRepl at e
    split at e
    · split at e
      · cases e
        exact ⟨Hs, ev, _, s, re, e1, fun v H1 Hs1 x1 r => ⟨_, r.str_of, by assumption, q _ H1 Hs1 x1 (.str _)⟩⟩
      · cases e
    · cases e⟩
theorem pet_ifExp {c a b : Expr} {tA : TT} {ta tb : TE} {pos : Pos} (hc : PT X c tA) (ha : PET X a ta) (hb : PET X b tb) : PET X (.IfExp c a b pos) (tIf tA ta tb) := by
  intro pins s σ H Q h0 I h
  refine wpAny_IfExp (wpAny_mono (PySem.wpAny_toks (hc.run pins s σ H _ I h)) (fun d s1 q => ?_) fun _ _ z => z.2)
  obtain ⟨hk, H1, I1, q1⟩ := q
  cases d with
  | true => exact ha pins s1 σ H1 Q (Nat.le_trans h0 hk) I1 q1
  | false => exact hb pins s1 σ H1 Q (Nat.le_trans h0 hk) I1 q1
theorem puet_ifE {c a b : Expr} {fc : Ev → Option Bool} {fa fb : Ev → Option PyData} {pos : Pos} (hc : PUT X c fc) (ha : PUET X a fa) (hb : PUET X b fb) : PUET X (.IfExp c a b pos) (fIf fc fa fb) :=
  ⟨convET (pet_ifExp hc.pt ha.pe hb.pe) fun σ H Q ⟨Hs, ev, w, s, re, e, q⟩ => by
    obtain ⟨k, e1, e⟩ := bindS e
    refine ⟨Hs, ev, k, s, re, e1, fun H' Hs' ex => ?_⟩
    cases k with
    | true => exact iteT ⟨Hs', ev, w, ex.sub, re.mono ex.small, e, fun v H2 Hs2 ex2 r => q v H2 Hs2 (ex.trans ex2) r⟩
    | false => exact iteF ⟨Hs', ev, w, ex.sub, re.mono ex.small, e, fun v H2 Hs2 ex2 r => q v H2 Hs2 (ex.trans ex2) r⟩⟩
theorem puat_nil : PUAT X [] fNil := ⟨convAT pat_nil fun σ H Q ⟨Hs, ev, ws, s, re, e, q⟩ => by cases e; exact q [] H Hs (.refl s) .nil⟩
theorem puat_cons {e : Expr} {es : List Expr} {f : Ev → Option PyData} {fs : Ev → Option (List PyData)} (h : PUET X e f) (hr : PUAT X es fs) (hs : starEach (e :: es) X.env = (false, eval e X.env) :: starEach es X.env := by rfl) : PUAT X (e :: es) (fCons f fs) :=
  ⟨convAT (pat_cons h.pe hr.pa hs) fun σ H Q ⟨Hs, ev, ws, s, re, e, q⟩ => by
    obtain ⟨w, e1, e⟩ := bindS e
    obtain ⟨ws', e2, e⟩ := bindS e
    cases e
    exact ⟨Hs, ev, w, s, re, e1, fun v H1 Hs1 x1 r1 => ⟨Hs1, ev, ws', x1.sub, re.mono x1.small, e2, fun vs H2 Hs2 x2 r2 => q _ H2 Hs2 (x1.trans x2) (.cons (r1.mono x2.small) r2)⟩⟩⟩
theorem puet_lst {es : List Expr} {fs : Ev → Option (List PyData)} {pos : Pos} (h : PUAT X es fs) : PUET X (.List es pos) (fLst fs) :=
  ⟨convET (pet_lst h.pa) fun σ H Q ⟨Hs, ev, w, s, re, e, q⟩ => by
    obtain ⟨ws, e1, e⟩ := bindS e
    split at e
    · cases e
      exact ⟨Hs, ev, ws, s, re, e1, fun vs H1 Hs1 x1 r => ⟨by rw [← r.len]; assumption, fun p hp => q _ _ _ (x1.laid hp _) (Rp.newL (x1.sub.free hp) r)⟩⟩
    · cases e⟩
theorem pet_tup {es : List Expr} {ta : TA} {x1} {pos : Pos} (h : PAT X es ta) : PET X (.Tuple es x1 pos) (tTup ta) := by
  intro pins s σ H Q h0 I hq
  refine wpAny_Tuple_spliced (thn (h pos pins s σ H _ h0 I hq) fun us s1 ⟨xs, H1, I1, r, z, q⟩ => ⟨by rw [← r.length]; exact z, ?_⟩)
  have hf : H1 s1.heap.objs.size = none := I1.hok.fresh (Nat.le_refl _)
  refine ⟨.ref s1.heap.objs.size, upd H1 s1.heap.objs.size (.tup xs), I1.laid (t' := s1.toks) (fun b u e => Heap.get?_push_of_some _ e) (Nat.le_refl _) ?_, rfl, q _ hf⟩
  exact ⟨z, us, r, ⟨_, Heap.get?_push_size _ rfl, rfl, _, rfl⟩⟩
theorem puet_tup {es : List Expr} {fs : Ev → Option (List PyData)} {x1} {pos : Pos} (h : PUAT X es fs) : PUET X (.Tuple es x1 pos) (fTup fs) :=
  ⟨convET (pet_tup h.pa) fun σ H Q ⟨Hs, ev, w, s, re, e, q⟩ => by
    obtain ⟨ws, e1, e⟩ := bindS e
    split at e
    · cases e
      exact ⟨Hs, ev, ws, s, re, e1, fun vs H1 Hs1 x1 r => ⟨by rw [← r.len]; assumption, fun p hp => q _ _ _ (x1.laid hp _) (Rp.newT (x1.sub.free hp) r)⟩⟩
    · cases e⟩
theorem pust_of {st : Stmt} {F : Ev → Option Out} (h : PUS X st F) : PUST X st F := ⟨PST.of h.ps⟩
theorem pust_ret {e : Expr} {f : Ev → Option PyData} {pos : Pos} (h : PUET X e f) : PUST X (.Return (some e) pos) (fRet f) :=
  ⟨convST (CwR.pst_ret h.pe) fun D σ H ⟨Hs, ev, o, s, re, e, q⟩ => by
    obtain ⟨w, e1, e⟩ := bindS e
    cases e
    exact ⟨Hs, ev, w, s, re, e1, fun v H' Hs' x r => q v H' Hs' x r⟩⟩
theorem pusst_nil : PUSsT X [] fNext := ⟨PSsT.of puss_nil.pss⟩
theorem pusst_cons {st : Stmt} {sts : List Stmt} {F G : Ev → Option Out} (h : PUST X st F) (hr : PUSsT X sts G) : PUSsT X (st :: sts) (fSeq F G) :=
  ⟨convSsT (psst_cons h.ps hr.pss) fun D σ H ⟨Hs, ev, o, s, re, e, q⟩ => by
    obtain ⟨o1, e1, e⟩ := bindS e
    refine ⟨Hs, ev, o1, s, re, e1, ?_⟩
    cases o1 with
    | nx ev' => exact fun σ' H' Hs' x r hl => ⟨Hs', ev', o, x.sub, r, e, q.later x hl⟩
    | rt w => cases e; exact q⟩
theorem pust_if {c : Expr} {a b : List Stmt} {fc : Ev → Option Bool} {F G : Ev → Option Out} {pos : Pos} (hc : PUT X c fc) (ha : PUSsT X a F) (hb : PUSsT X b G) : PUST X (.If c a b pos) (fIfS fc F G) :=
  ⟨convST (CwR.pst_if hc.pt ha.pss hb.pss) fun D σ H ⟨Hs, ev, o, s, re, e, q⟩ => by
    obtain ⟨k, e1, e⟩ := bindS e
    refine ⟨Hs, ev, k, s, re, e1, fun H' Hs' x => ?_⟩
    cases k with
    | true => exact iteT ⟨Hs', ev, o, x.sub, re.mono x.small, e, q.later x rfl⟩
    | false => exact iteF ⟨Hs', ev, o, x.sub, re.mono x.small, e, q.later x rfl⟩⟩
theorem noxT {sts : List Stmt} {t : TS} (h : PSsT X.nox sts t) : PSsT X sts t := fun pins s σ H D h0 I hw =>
  wpAny_mono (h pins s σ H D h0 (I.wish _) hw) (fun _ _ q => q.unwish) fun _ _ z => False.elim z
end
section
variable {P : Program} {w : World} {K : PySem.W.Frag} {mg : Str → Option Value} {base : Heap}
/-- a def by its body as a function; a token is out when it begins -/
theorem pu_defT {x qual : Str} {st : Stmt} {f : Addr} {fd : FuncData} {N ps : List Str} {k : Nat} {F : Ev → Option Out} (Fn : Fun K x qual st f fd) (S : FnScope N ps (defScope st)) (hnc : ∀ y ∈ (defScope st).names, y.2 ≠ .cell) (hps : 1 ≤ ps.length)
    (hbody : ∀ (cdv : Value) (A : Around) (outer : List Env) (s : Shared) (H : Hp) (E : XK), Room k (A.deeper (envOfC qual (defScope st) s.heap.objs.size f cdv)) → PUSsT (cxOf CX0 P w K mg base N qual (defScope st) f cdv A outer s H E).nox (defBody st) F) :
    FnOk P w K mg base CX0 (k + 1) f fd ps (spP (runF N ps.length F)) := by
  obtain ⟨oc, od, kV, doc, pm, an, cdv, ct, osl, rfl, lk, hcd⟩ := Fn.ex
  exact fn_ofT lk hcd S hnc hps (fun vs H Q E h => spP_len (fun _ _ => runF_len) h) fun A outer s H vs Q E hr h => ⟨tPuS F, noxT (hbody cdv A outer s H E hr).pss, body_use h⟩
/-- the same, its promise free -/
theorem Fun.okT {x qual : Str} {st : Stmt} {f : Addr} {fd : FuncData} {N ps : List Str} {k : Nat} {sp : Sp} (Fn : Fun K x qual st f fd) (S : FnScope N ps (defScope st)) (hnc : ∀ y ∈ (defScope st).names, y.2 ≠ .cell) (hps : 1 ≤ ps.length) (len : ∀ vs H Q E, sp vs H Q E → vs.length = ps.length)
    (hbody : ∀ (cdv : Value) (A : Around) (outer : List Env) (s : Shared) (H : Hp) (vs : List V) (Q : VK) (E : XK), Room k (A.deeper (envOfC qual (defScope st) s.heap.objs.size f cdv)) → sp vs H Q E →
      ∃ t, PSsT (cxOf CX0 P w K mg base N qual (defScope st) f cdv A outer s H E).nox (defBody st) t ∧ t { nx := fun _ H' => Q .non H', rt := Q } (L2.start N vs) H) : FnOk P w K mg base CX0 (k + 1) f fd ps sp := by
  obtain ⟨oc, od, kV, doc, pm, an, cdv, ct, osl, rfl, lk, hcd⟩ := Fn.ex
  refine fn_ofT lk hcd S hnc hps len fun A outer s H vs Q E hr hsp => ?_
  obtain ⟨t, h, q⟩ := hbody cdv A outer s H vs Q E hr hsp
  exact ⟨t, noxT h, q⟩
end
end Pu

set_option Elab.async false
set_option linter.all false
set_option maxRecDepth 100000
set_option maxHeartbeats 2000000
/-! A def that keeps a pure promise, by its name; the tactic. -/
namespace Pu
open PySem PySem.Spec PyProof.Rows L2
structure DefP (P : Program) (w : World) (K : PySem.W.Frag) (mg : Str → Option Value) (base : Heap) (x : Str) (k : Nat) (ps : List Str) (g : List PyData → Option PyData) : Prop where
  ex : ∃ (f : Addr) (fd : FuncData), FnOk P w K mg base CX0 k f fd ps (spP g) ∧ mg x = some (.ref f) ∧ PySem.W.keepIn K (.ref f) = true ∧ Binds K fd ps []
theorem DefP.mono {P : Program} {w : World} {K : PySem.W.Frag} {mg : Str → Option Value} {base : Heap} {x : Str} {j k : Nat} {ps : List Str} {g : List PyData → Option PyData} (h : DefP P w K mg base x j ps g) (l : j ≤ k) : DefP P w K mg base x k ps g := by
  obtain ⟨f, fd, F, a, b, c⟩ := h.ex
  exact ⟨f, fd, F.mono l, a, b, c⟩
theorem DefP.imp {P : Program} {w : World} {K : PySem.W.Frag} {mg : Str → Option Value} {base : Heap} {x : Str} {k : Nat} {ps : List Str} {g g' : List PyData → Option PyData} (h : DefP P w K mg base x k ps g) (l : ∀ ws w, g' ws = some w → g ws = some w) : DefP P w K mg base x k ps g' := by
  obtain ⟨f, fd, F, a, b, c⟩ := h.ex
  exact ⟨f, fd, FnOk.spW F l, a, b, c⟩
/-- what is known of a def of the top -/
structure DefAt (K : PySem.W.Frag) (mg : Str → Option Value) (x qual : Str) (st : Stmt) (ps : List Str) : Prop where
  ex : ∃ (f : Addr) (fd : FuncData), Fun K x qual st f fd ∧ mg x = some (.ref f) ∧ Binds K fd ps []
section
variable {X : Cx}
theorem pu_callD {k : Nat} {ps : List Str} {x : Str} {p pos : Pos} {e : Expr} {es : List Expr} {g : List PyData → Option PyData} {fs : Ev → Option (List PyData)} (D : DefP X.prog X.w X.K X.mg X.base x k ps g) (hr : Room k X.A) (hg : Gl X x) (ha : PUA X (e :: es) fs)
    (hdb : (x == ("__debug__" : Str)) = false := by decide) (he : starEach (e :: es) X.env = (false, eval e X.env) :: starEach es X.env := by rfl) (hpl : (backTo pos (starEach es X.env)).any (·.1) = false := by rfl) :
    PU X (.Call (.Name x p) (e :: es) [] pos) (fCall g fs) := by
  obtain ⟨f, fd, F, hm, hk, hb⟩ := D.ex
  exact pu_call F hr hg hm hk hb pass0 ha hdb he hpl
theorem u64 {k : Nat} {A : Around} (r : Room k A) : A.units + 64 < cLine := r.units
theorem u1 {k : Nat} {A : Around} (r : Room k A) : A.units + 1 < cLine := by have := r.units; omega
end
/-! ### a, b = e1, e2 -/
section
variable {X : Cx}
def fPar2 (i j : Nat) (fs : Ev → Option (List PyData)) : Ev → Option Out := fun ev => (fs ev).bind fun ws => match ws with | [u, v] => some (.nx ((ev.set i (some u)).set j (some v))) | _ => none
def fPar3 (i j l : Nat) (fs : Ev → Option (List PyData)) : Ev → Option Out := fun ev => (fs ev).bind fun ws => match ws with | [u, v, w] => some (.nx (((ev.set i (some u)).set j (some v)).set l (some w))) | _ => none
theorem pus_par2 {i j : Nat} {x y : Str} {a b : Expr} {fs : Ev → Option (List PyData)} {px py pt pos : Pos} {kt k2 pt2} (hN : X.N.Nodup) (hi : X.N[i]? = some x) (hj : X.N[j]? = some y) (hij : i ≠ j) (hx : X.env.scope.names.lookup x = some .local) (hy : X.env.scope.names.lookup y = some .local) (ha : PUA X [a, b] fs)
    (hc : X.calm = true := by rfl) (hw : swappedStores [.Tuple [.Name x px, .Name y py] kt pt] (.Tuple [a, b] k2 pt2) X.env = pure (some [x, y]) := by rfl) (hs : swapsWithSole [.Tuple [.Name x px, .Name y py] kt pt] (.Tuple [a, b] k2 pt2) pos.line X.env = pure false := by rfl) :
    PUS X (.Assign [.Tuple [.Name x px, .Name y py] kt pt] (.Tuple [a, b] k2 pt2) pos) (fPar2 i j fs) :=
  ⟨convS (ps_par hc hN hi hj hij hx hy ha.pa hw hs) fun D σ H ⟨Hs, ev, o, s, re, e, q⟩ => by
    obtain ⟨ws, e1, e⟩ := bindS e
    split at e
    · cases e
      refine ⟨Hs, ev, _, s, re, e1, fun vs H1 Hs1 x1 r => ?_⟩
      obtain ⟨v, z, rfl, r1, r2⟩ := r.two
      exact ⟨v, z, rfl, q _ H1 Hs1 x1 (((re.mono x1.small).set r1).set r2) (by rw [List.length_set, List.length_set])⟩
    · cases e⟩
theorem pus_par3 {i j l : Nat} {x y z : Str} {a b c : Expr} {fs : Ev → Option (List PyData)} {px py pz pt pos : Pos} {kt k2 pt2} (hN : X.N.Nodup) (hi : X.N[i]? = some x) (hj : X.N[j]? = some y) (hl : X.N[l]? = some z) (hij : i ≠ j) (hil : i ≠ l) (hjl : j ≠ l)
    (hx : X.env.scope.names.lookup x = some .local) (hy : X.env.scope.names.lookup y = some .local) (hz : X.env.scope.names.lookup z = some .local) (ha : PUA X [a, b, c] fs)
    (hc : X.calm = true := by rfl) (hw : swappedStores [.Tuple [.Name x px, .Name y py, .Name z pz] kt pt] (.Tuple [a, b, c] k2 pt2) X.env = pure (some [x, y, z]) := by rfl) (hs : swapsWithSole [.Tuple [.Name x px, .Name y py, .Name z pz] kt pt] (.Tuple [a, b, c] k2 pt2) pos.line X.env = pure false := by rfl) :
    PUS X (.Assign [.Tuple [.Name x px, .Name y py, .Name z pz] kt pt] (.Tuple [a, b, c] k2 pt2) pos) (fPar3 i j l fs) :=
  ⟨convS (ps_par3 hc hN hi hj hl hij hil hjl hx hy hz ha.pa hw hs) fun D σ H ⟨Hs, ev, o, s, re, e, q⟩ => by
    obtain ⟨ws, e1, e⟩ := bindS e
    split at e
    · cases e
      refine ⟨Hs, ev, _, s, re, e1, fun vs H1 Hs1 x1 r => ?_⟩
      cases r with
      | cons r1 t =>
        obtain ⟨v2, v3, rfl, r2, r3⟩ := t.two
        exact ⟨_, v2, v3, rfl, q _ H1 Hs1 x1 ((((re.mono x1.small).set r1).set r2).set r3) (by rw [List.length_set, List.length_set, List.length_set])⟩
    · cases e⟩
end
/-! ### comprehensions in short -/
section
variable {X : Cx} {elt iter c : Expr} {scope : Scope} {pos px py kp : Pos} {x y z : Str} {kk : Nat} {fit : Ev → Option (List PyData)} {ft : Ev → Option Bool} {fe : Ev → Option PyData}
theorem pu_lc1 (i : Nat) (hi : X.N[i]? = some x) (hc : X.calm = true) (hN : X.N.Nodup) (hx : Loc scope x) (hf : scope.names.lookup x = some .local) (ok : BlkOk X.N X.env.scope scope [(x, i)]) (h : PUI X (.Name x px) iter fit)
    (he : ∀ (s : Shared) (H : Hp) (C : Addr) (cl : List (Str × Addr)) (fp : List Addr), PU (X.blk s H scope (compEnvC scope cl C X.env) fp) elt fe) (hg : ∀ (s : Shared) (H : Hp) (C : Addr) (cl : List (Str × Addr)) (fp : List Addr), PG (X.blk s H scope (compEnvC scope cl C X.env) fp) (.Name x px) (gName i)) (hs : ∀ x, foldedSetIterable iter X.env x = pure x := by intro _; rfl) :
    PU X (.ListComp elt [⟨.Name x px, iter, [], 0⟩] scope pos) (fComp fit asOne [i] [i] (fun _ => some true) fe) :=
  pu_lc (own := [(x, i)]) hc hN h ok gp_one tp_yes (fun j hj => hj) hg (fun _ _ _ _ _ => pts_nil) he hs
theorem pu_lc1i (i : Nat) (hi : X.N[i]? = some x) (hc : X.calm = true) (hN : X.N.Nodup) (hx : Loc scope x) (hf : scope.names.lookup x = some .local) (ok : BlkOk X.N X.env.scope scope [(x, i)]) (h : PUI X (.Name x px) iter fit)
    (he : ∀ (s : Shared) (H : Hp) (C : Addr) (cl : List (Str × Addr)) (fp : List Addr), PU (X.blk s H scope (compEnvC scope cl C X.env) fp) elt fe) (ht : ∀ (s : Shared) (H : Hp) (C : Addr) (cl : List (Str × Addr)) (fp : List Addr), PUT (X.blk s H scope (compEnvC scope cl C X.env) fp) c ft)
    (hg : ∀ (s : Shared) (H : Hp) (C : Addr) (cl : List (Str × Addr)) (fp : List Addr), PG (X.blk s H scope (compEnvC scope cl C X.env) fp) (.Name x px) (gName i)) (hs : ∀ x, foldedSetIterable iter X.env x = pure x := by intro _; rfl) :
    PU X (.ListComp elt [⟨.Name x px, iter, [c], 0⟩] scope pos) (fComp fit asOne [i] [i] ft fe) :=
  pu_lc (own := [(x, i)]) hc hN h ok gp_one tp_self (fun j hj => hj) hg (fun s H C cl fp => pts_one (ht s H C cl fp).pt) he hs
theorem pu_lc2 (i j : Nat) (hi : X.N[i]? = some x) (hj : X.N[j]? = some y) (hc : X.calm = true) (hN : X.N.Nodup) (ok : BlkOk X.N X.env.scope scope [(x, i), (y, j)]) (h : PUI X (.Tuple [.Name x px, .Name y py] kk kp) iter fit)
    (he : ∀ (s : Shared) (H : Hp) (C : Addr) (cl : List (Str × Addr)) (fp : List Addr), PU (X.blk s H scope (compEnvC scope cl C X.env) fp) elt fe) (hg : ∀ (s : Shared) (H : Hp) (C : Addr) (cl : List (Str × Addr)) (fp : List Addr), PG (X.blk s H scope (compEnvC scope cl C X.env) fp) (.Tuple [.Name x px, .Name y py] kk kp) (gTup X.K 2 (gCons (gName i) (gCons (gName j) gNil)))) (hs : ∀ x, foldedSetIterable iter X.env x = pure x := by intro _; rfl) :
    PU X (.ListComp elt [⟨.Tuple [.Name x px, .Name y py] kk kp, iter, [], 0⟩] scope pos) (fComp fit (asTup 2) [i, j] [i, j] (fun _ => some true) fe) :=
  pu_lc (own := [(x, i), (y, j)]) hc hN h ok gp_tup2 tp_yes (fun k hk => hk) hg (fun _ _ _ _ _ => pts_nil) he hs
theorem pu_lc2i (i j : Nat) (hi : X.N[i]? = some x) (hj : X.N[j]? = some y) (hc : X.calm = true) (hN : X.N.Nodup) (ok : BlkOk X.N X.env.scope scope [(x, i), (y, j)]) (h : PUI X (.Tuple [.Name x px, .Name y py] kk kp) iter fit)
    (he : ∀ (s : Shared) (H : Hp) (C : Addr) (cl : List (Str × Addr)) (fp : List Addr), PU (X.blk s H scope (compEnvC scope cl C X.env) fp) elt fe) (ht : ∀ (s : Shared) (H : Hp) (C : Addr) (cl : List (Str × Addr)) (fp : List Addr), PUT (X.blk s H scope (compEnvC scope cl C X.env) fp) c ft)
    (hg : ∀ (s : Shared) (H : Hp) (C : Addr) (cl : List (Str × Addr)) (fp : List Addr), PG (X.blk s H scope (compEnvC scope cl C X.env) fp) (.Tuple [.Name x px, .Name y py] kk kp) (gTup X.K 2 (gCons (gName i) (gCons (gName j) gNil)))) (hs : ∀ x, foldedSetIterable iter X.env x = pure x := by intro _; rfl) :
    PU X (.ListComp elt [⟨.Tuple [.Name x px, .Name y py] kk kp, iter, [c], 0⟩] scope pos) (fComp fit (asTup 2) [i, j] [i, j] ft fe) :=
  pu_lc (own := [(x, i), (y, j)]) hc hN h ok gp_tup2 tp_self (fun k hk => hk) hg (fun s H C cl fp => pts_one (ht s H C cl fp).pt) he hs
end
section
variable {P : Program} {w : World} {K : PySem.W.Frag} {mg : Str → Option Value} {base : Heap}
theorem defP_of {x qual : Str} {st : Stmt} {N ps : List Str} {k : Nat} {F : Ev → Option Out} (D : DefAt K mg x qual st ps) (S : FnScope N ps (defScope st))
    (hbody : ∀ (f : Addr) (cdv : Value) (A : Around) (outer : List Env) (s : Shared) (H : Hp) (E : XK), Room k (A.deeper (envOfC qual (defScope st) s.heap.objs.size f cdv)) → N.Nodup → PUSs (cxOf CX0 P w K mg base N qual (defScope st) f cdv A outer s H E).nox (defBody st) F) :
    DefP P w K mg base x (k + 1) ps (runF N ps.length F) := by
  obtain ⟨f, fd, Fn, hm, hb⟩ := D.ex
  exact ⟨f, fd, pu_def Fn S fun cdv A outer s H E hr => hbody f cdv A outer s H E hr S.nd, hm, Fn.kp, hb⟩
theorem defPT_of {x qual : Str} {st : Stmt} {N ps : List Str} {k : Nat} {F : Ev → Option Out} (D : DefAt K mg x qual st ps) (S : FnScope N ps (defScope st)) (hnc : ((defScope st).names.all fun y => decide (y.2 ≠ .cell)) = true) (hps : 1 ≤ ps.length)
    (hbody : ∀ (f : Addr) (cdv : Value) (A : Around) (outer : List Env) (s : Shared) (H : Hp) (E : XK), Room k (A.deeper (envOfC qual (defScope st) s.heap.objs.size f cdv)) → N.Nodup → PUSsT (cxOf CX0 P w K mg base N qual (defScope st) f cdv A outer s H E).nox (defBody st) F) :
    DefP P w K mg base x (k + 1) ps (runF N ps.length F) := by
  obtain ⟨f, fd, Fn, hm, hb⟩ := D.ex
  exact ⟨f, fd, pu_defT Fn S (fun y hy => of_decide_eq_true (List.all_eq_true.mp hnc y hy)) hps fun cdv A outer s H E hr => hbody f cdv A outer s H E hr S.nd, hm, Fn.kp, hb⟩
end
end Pu

set_option Elab.async false
set_option linter.all false
set_option maxRecDepth 100000
set_option maxHeartbeats 2000000
/-! One list of the def's own, in slot i, that grows: it stands apart from the pure values until it is let go. -/
namespace Pu
open PySem PySem.Spec PyProof.Rows L2
/-- all but p stays -/
structure ExtB (p : Addr) (H Hs H' Hs' : Hp) : Prop where
  big : ∀ b o, b ≠ p → H b = some o → H' b = some o
  small : Same Hs Hs'
  sub : Same Hs' H'
  pn : Hs' p = none
  new : ∀ b, Hs b = none → H b ≠ none → Hs' b = none
theorem ExtB.trans {p : Addr} {H Hs H1 Hs1 H2 Hs2 : Hp} (a : ExtB p H Hs H1 Hs1) (b : ExtB p H1 Hs1 H2 Hs2) : ExtB p H Hs H2 Hs2 :=
  ⟨fun x o h e => b.big x o h (a.big x o h e), a.small.trans b.small, b.sub, b.pn, fun x h h' => by
    by_cases q : x = p
    · rw [q]; exact b.pn
    · refine b.new x (a.new x h h') fun z => h' ?_
      cases e : H x with
      | none => rfl
      | some o => rw [a.big x o q e] at z; cases z⟩
theorem ExtB.of {p : Addr} {H Hs H' Hs' : Hp} (a : Ext H Hs H' Hs') (hp : Hs p = none) (hq : H p ≠ none) : ExtB p H Hs H' Hs' := ⟨fun b o _ e => a.big b o e, a.small, a.sub, a.new p hp hq, a.new⟩
structure OwnB (i : Nat) (p : Addr) (σ : L2.St) (H Hs : Hp) (ev : Ev) (ws : List PyData) (vs : List V) : Prop where
  sub : Same Hs H
  env : REnv Hs σ (ev.set i none)
  ev_ : ev[i]? = some (some (.list ws))
  sl : σ[i]? = some (some (.ref p))
  at_ : H p = some (.lst vs)
  pn : Hs p = none
  rp : RpAll Hs ws vs
/-- .. and p's list is a value too, behind it -/
structure ExtR (p : Addr) (H Hs H' Hp' : Hp) : Prop where
  big : ∀ b o, b ≠ p → H b = some o → H' b = some o
  small : Same Hs Hp'
  sub : Same Hp' H'
  new : ∀ b, b ≠ p → Hs b = none → H b ≠ none → Hp' b = none
theorem ExtB.ret {p : Addr} {H Hs H1 Hs1 H2 Hs2 : Hp} (a : ExtB p H Hs H1 Hs1) (b : ExtR p H1 Hs1 H2 Hs2) : ExtR p H Hs H2 Hs2 :=
  ⟨fun x o h e => b.big x o h (a.big x o h e), a.small.trans b.small, b.sub, fun x q h h' => b.new x q (a.new x h h') fun z => h' (by
    cases e : H x with
    | none => rfl
    | some o => rw [a.big x o q e] at z; cases z)⟩
inductive OutB where
  | nx (ev : Ev)
  | rt (w : PyData)
  | bk (ev : Ev)
def OutKB (i : Nat) (p : Addr) (D : Ends) (σ : L2.St) (H Hs : Hp) : OutB → Prop
  | .nx ev' => ∀ σ' H' Hs' ws' vs', ExtB p H Hs H' Hs' → OwnB i p σ' H' Hs' ev' ws' vs' → σ'.length = σ.length → D.nx σ' H'
  | .rt w => ∀ v H' Hp', ExtR p H Hs H' Hp' → Rp Hp' w v → D.rt v H'
  | .bk ev' => ∀ σ' H' Hs' ws' vs', ExtB p H Hs H' Hs' → OwnB i p σ' H' Hs' ev' ws' vs' → σ'.length = σ.length → D.bk σ' H'
def tPuB (i : Nat) (F : Ev → Option OutB) : TS := fun D σ H => ∃ (p : Addr) (Hs : Hp) (ev : Ev) (o : OutB) (ws : List PyData) (vs : List V), OwnB i p σ H Hs ev ws vs ∧ F ev = some o ∧ OutKB i p D σ H Hs o
structure PUB (X : Cx) (i : Nat) (st : Stmt) (F : Ev → Option OutB) : Prop where
  ps : PS X st (tPuB i F)
structure PUBs (X : Cx) (i : Nat) (sts : List Stmt) (F : Ev → Option OutB) : Prop where
  pss : PSs X sts (tPuB i F)
/-- the whole, the list with the pure values -/
theorem OwnB.full {i : Nat} {p : Addr} {σ : L2.St} {H Hs : Hp} {ev : Ev} {ws : List PyData} {vs : List V} (B : OwnB i p σ H Hs ev ws vs) : Same (upd Hs p (.lst vs)) H ∧ REnv (upd Hs p (.lst vs)) σ ev ∧ Same Hs (upd Hs p (.lst vs)) := by
  have s2 : Same Hs (upd Hs p (.lst vs)) := fun b o e => by rw [upd_ne (ne_of_none e B.pn)]; exact e
  refine ⟨fun b o e => ?_, ⟨by have := B.env.le; rw [List.length_set] at this; exact this, fun j w e => ?_⟩, s2⟩
  · by_cases h : b = p
    · subst h; rw [upd_same] at e; rw [← e]; exact B.at_
    · rw [upd_ne h] at e; exact B.sub _ _ e
  · by_cases h : i = j
    · subst h
      rw [B.ev_] at e
      cases e
      exact ⟨.ref p, B.sl, .lst upd_same (B.rp.mono s2)⟩
    · obtain ⟨v, h1, h2⟩ := B.env.at_ j w (by rw [List.getElem?_set_ne h]; exact e)
      exact ⟨v, h1, h2.mono s2⟩
theorem OutKB.later {i : Nat} {p : Addr} {D : Ends} {σ σ' : L2.St} {H Hs H' Hs' : Hp} {o : OutB} (x : ExtB p H Hs H' Hs') (hl : σ'.length = σ.length) (k : OutKB i p D σ H Hs o) : OutKB i p D σ' H' Hs' o := by
  cases o with
  | nx ev' => exact fun σ2 H2 Hs2 ws vs x2 B h => k σ2 H2 Hs2 ws vs (x.trans x2) B (h.trans hl)
  | rt w => exact fun v H2 Hp2 x2 r => k v H2 Hp2 (x.ret x2) r
  | bk ev' => exact fun σ2 H2 Hs2 ws vs x2 B h => k σ2 H2 Hs2 ws vs (x.trans x2) B (h.trans hl)
/-- nothing but the heap grew -/
theorem OwnB.grow {i : Nat} {p : Addr} {σ : L2.St} {H Hs H' : Hp} {ev : Ev} {ws : List PyData} {vs : List V} (B : OwnB i p σ H Hs ev ws vs) (s : Same H H') : OwnB i p σ H' Hs ev ws vs := ⟨B.sub.trans s, B.env, B.ev_, B.sl, s _ _ B.at_, B.pn, B.rp⟩
theorem ExtB.grow {p : Addr} {H Hs H' : Hp} (s : Same H H') (hs : Same Hs H) (hp : Hs p = none) : ExtB p H Hs H' Hs := ⟨fun b o _ e => s b o e, Same.refl _, hs.trans s, hp, fun b h _ => h⟩
theorem OwnB.ext {i : Nat} {p : Addr} {σ : L2.St} {H Hs H' Hs' : Hp} {ev : Ev} {ws : List PyData} {vs : List V} (B : OwnB i p σ H Hs ev ws vs) (x : Ext H Hs H' Hs') : OwnB i p σ H' Hs' ev ws vs :=
  ⟨x.sub, B.env.mono x.small, B.ev_, B.sl, x.big _ _ B.at_, x.new p B.pn (by rw [B.at_]; exact fun z => nomatch z), B.rp.mono x.small⟩
theorem OwnB.np {i : Nat} {p : Addr} {σ : L2.St} {H Hs : Hp} {ev : Ev} {ws : List PyData} {vs : List V} (B : OwnB i p σ H Hs ev ws vs) : H p ≠ none := by rw [B.at_]; exact fun z => nomatch z
theorem set_comm {α : Type} {l : List α} {i j : Nat} (h : i ≠ j) (a b : α) : (l.set j a).set i b = (l.set i b).set j a := List.set_comm a b (Ne.symm h)
theorem OwnB.set {i j : Nat} {p : Addr} {σ : L2.St} {H Hs : Hp} {ev : Ev} {ws : List PyData} {vs : List V} {w : PyData} {v : V} (h : i ≠ j) (B : OwnB i p σ H Hs ev ws vs) (r : Rp Hs w v) : OwnB i p (σ.set j (some v)) H Hs (ev.set j (some w)) ws vs :=
  ⟨B.sub, by rw [set_comm h]; exact B.env.set r, by rw [List.getElem?_set_ne (Ne.symm h)]; exact B.ev_, by rw [List.getElem?_set_ne (Ne.symm h)]; exact B.sl, B.at_, B.pn, B.rp⟩

/-! ### expressions while the list is apart -/
def evB (i : Nat) (f : Ev → Option PyData) (ev : Ev) : Option PyData := match f (ev.set i none) with
  | some w => some w
  | none => (f ev).bind fun w => if flatD w = true then some w else none
def evBA (i : Nat) (f : Ev → Option (List PyData)) (ev : Ev) : Option (List PyData) := match f (ev.set i none) with
  | some w => some w
  | none => (f ev).bind fun ws => if ws.all flatD = true then some ws else none
theorem Rp.flat {H H' : Hp} {d : PyData} {v : V} (h : flatD d = true) (r : Rp H d v) : Rp H' d v := by
  cases r <;> first | exact .non | exact .bl _ | exact .int _ | exact .str _ | cases h
theorem RpAll.flat {H H' : Hp} : ∀ {ds : List PyData} {vs : List V}, ds.all flatD = true → RpAll H ds vs → RpAll H' ds vs
  | _, _, _, .nil => .nil
  | _, _, h, .cons r t => by
    rw [List.all_cons, Bool.and_eq_true] at h
    exact .cons (r.flat h.1) (RpAll.flat h.2 t)
section
variable {i : Nat} {p : Addr} {σ : L2.St} {H Hs : Hp} {ev : Ev} {ws : List PyData} {vs : List V}
theorem evB_use {f : Ev → Option PyData} {w : PyData} {Q : VK} (B : OwnB i p σ H Hs ev ws vs) (e : evB i f ev = some w) (q : ∀ v H' Hs', ExtB p H Hs H' Hs' → OwnB i p σ H' Hs' ev ws vs → Rp Hs' w v → Q v H') : tPu f σ H Q := by
  unfold evB at e
  split at e
  · rename_i w' e1
    cases e
    exact ⟨Hs, _, _, B.sub, B.env, e1, fun v H' Hs' x r => q v H' Hs' (.of x B.pn B.np) (B.ext x) r⟩
  · obtain ⟨w', e1, e⟩ := bindS e
    split at e
    · rename_i hf
      cases e
      obtain ⟨s1, r1, s2⟩ := B.full
      exact ⟨_, ev, _, s1, r1, e1, fun v H' Hs' x r => q v H' Hs (.grow x.big B.sub B.pn) (B.grow x.big) (r.flat hf)⟩
    · cases e
theorem evBA_use {f : Ev → Option (List PyData)} {us : List PyData} {Q : List V → Hp → Prop} (B : OwnB i p σ H Hs ev ws vs) (e : evBA i f ev = some us) (q : ∀ xs H' Hs', ExtB p H Hs H' Hs' → OwnB i p σ H' Hs' ev ws vs → RpAll Hs' us xs → Q xs H') : tPuA f σ H Q := by
  unfold evBA at e
  split at e
  · rename_i w' e1
    cases e
    exact ⟨Hs, _, _, B.sub, B.env, e1, fun v H' Hs' x r => q v H' Hs' (.of x B.pn B.np) (B.ext x) r⟩
  · obtain ⟨w', e1, e⟩ := bindS e
    split at e
    · rename_i hf
      cases e
      obtain ⟨s1, r1, s2⟩ := B.full
      exact ⟨_, ev, _, s1, r1, e1, fun v H' Hs' x r => q v H' Hs (.grow x.big B.sub B.pn) (B.grow x.big) (r.flat hf)⟩
    · cases e
theorem evBT_use {f : Ev → Option Bool} {b : Bool} {Q : Bool → Hp → Prop} (B : OwnB i p σ H Hs ev ws vs) (e : f ev = some b) (q : ∀ H', ExtB p H Hs H' Hs → OwnB i p σ H' Hs ev ws vs → Q b H') : tPuT f σ H Q := by
  obtain ⟨s1, r1, s2⟩ := B.full
  exact ⟨_, ev, _, s1, r1, e, fun H' Hs' x => q H' (.grow x.big B.sub B.pn) (B.grow x.big)⟩
end

/-! ### statements -/
section
variable {X : Cx} {i : Nat}
def fNextB : Ev → Option OutB := fun ev => some (.nx ev)
def fSeqB (F G : Ev → Option OutB) : Ev → Option OutB := fun ev => (F ev).bind fun o => match o with | .nx ev' => G ev' | .rt w => some (.rt w) | .bk ev' => some (.bk ev')
theorem pubs_nil : PUBs X i [] fNextB := ⟨convSs pss_nil fun D σ H ⟨p, Hs, ev, o, ws, vs, B, e, q⟩ => by
  cases e
  exact q σ H Hs ws vs ⟨fun b o _ e => e, Same.refl _, B.sub, B.pn, fun b h _ => h⟩ B rfl⟩
theorem pubs_cons {st : Stmt} {sts : List Stmt} {F G : Ev → Option OutB} (h : PUB X i st F) (hr : PUBs X i sts G) : PUBs X i (st :: sts) (fSeqB F G) :=
  ⟨convSs (pss_cons h.ps hr.pss) fun D σ H ⟨p, Hs, ev, o, ws, vs, B, e, q⟩ => by
    obtain ⟨o1, e1, e⟩ := bindS e
    refine ⟨p, Hs, ev, o1, ws, vs, B, e1, ?_⟩
    cases o1 with
    | nx ev' => exact fun σ' H' Hs' ws' vs' x B' hl => ⟨p, Hs', ev', o, ws', vs', B', e, q.later x hl⟩
    | rt w => cases e; exact q
    | bk ev' => cases e; exact q⟩
def fRetB (f : Ev → Option PyData) : Ev → Option OutB := fun ev => (f ev).bind fun w => some (.rt w)
/-- the list is let go: it is a value as all are -/
theorem pub_ret {e : Expr} {f : Ev → Option PyData} {pos : Pos} (h : PU X e f) : PUB X i (.Return (some e) pos) (fRetB f) :=
  ⟨convS (ps_ret h.pe) fun D σ H ⟨p, Hs, ev, o, ws, vs, B, e, q⟩ => by
    obtain ⟨w, e1, e⟩ := bindS e
    cases e
    obtain ⟨s1, r1, s2⟩ := B.full
    exact ⟨_, ev, w, s1, r1, e1, fun v H' Hs' x r => q v H' Hs' ⟨fun b o _ e => x.big b o e, s2.trans x.small, x.sub, fun b hb hn h' => x.new b (by rw [upd_ne hb]; exact hn) h'⟩ r⟩⟩
def fIfB (c : Ev → Option Bool) (F G : Ev → Option OutB) : Ev → Option OutB := fun ev => (c ev).bind fun b => if b = true then F ev else G ev
theorem pub_if {c : Expr} {a b : List Stmt} {fc : Ev → Option Bool} {F G : Ev → Option OutB} {pos : Pos} (hc : PUT X c fc) (ha : PUBs X i a F) (hb : PUBs X i b G) : PUB X i (.If c a b pos) (fIfB fc F G) :=
  ⟨convS (ps_if hc.pt ha.pss hb.pss) fun D σ H ⟨p, Hs, ev, o, ws, vs, B, e, q⟩ => by
    obtain ⟨k, e1, e⟩ := bindS e
    refine evBT_use B e1 fun H' x B' => ?_
    cases k with
    | true => exact iteT ⟨p, Hs, ev, o, ws, vs, B', e, q.later x rfl⟩
    | false => exact iteF ⟨p, Hs, ev, o, ws, vs, B', e, q.later x rfl⟩⟩
def fBrk : Ev → Option OutB := fun ev => some (.bk ev)
theorem pub_break {pos : Pos} : PUB X i (.Break pos) fBrk :=
  ⟨convS ps_break fun D σ H ⟨p, Hs, ev, o, ws, vs, B, e, q⟩ => by
    cases e
    exact q σ H Hs ws vs ⟨fun b o _ e => e, Same.refl _, B.sub, B.pn, fun b h _ => h⟩ B rfl⟩
def whileB (fc : Ev → Option Bool) (F : Ev → Option OutB) : Nat → Ev → Option OutB
  | 0, _ => none
  | n + 1, ev => (fc ev).bind fun b => if b = true then (F ev).bind fun o => match o with | .nx ev' => whileB fc F n ev' | .rt w => some (.rt w) | .bk ev' => some (.nx ev') else some (.nx ev)
theorem pub_while {c : Expr} {body : List Stmt} {fc : Ev → Option Bool} {F : Ev → Option OutB} {pos : Pos} (N : Ev → Nat) (hp : PassesOwn (model X.prog X.w) X.A X.env X.xe) (hc : PUT X c fc) (hb : PUBs X i body F) : PUB X i (.While c body [] pos) (fun ev => whileB fc F (N ev) ev) :=
  ⟨convS (ps_while hp hc.pt hb.pss) fun D σ H ⟨p, Hs, ev, o, ws, vs, B, e, q⟩ => by
    refine ⟨fun m σ2 H2 => ∃ Hs2 ev2 ws2 vs2, OwnB i p σ2 H2 Hs2 ev2 ws2 vs2 ∧ OutKB i p D σ2 H2 Hs2 o ∧ whileB fc F m ev2 = some o, ⟨N ev, Hs, ev, ws, vs, B, q, e⟩, ?_⟩
    rintro m σ2 H2 ⟨Hs2, ev2, ws2, vs2, B2, q2, e2⟩
    cases m with
    | zero => cases e2
    | succ m =>
      obtain ⟨b, eb, e2⟩ := bindS (show (fc ev2).bind _ = some o from e2)
      refine evBT_use B2 eb fun H3 x3 B3 => ?_
      have q3 := q2.later x3 rfl
      cases b with
      | true =>
        rw [if_pos rfl] at e2
        obtain ⟨o2, eo, e2⟩ := bindS e2
        refine iteT ⟨fun σ' H' => ∃ Hs2 ev2 ws2 vs2, OwnB i p σ' H' Hs2 ev2 ws2 vs2 ∧ OutKB i p D σ' H' Hs2 o ∧ whileB fc F m ev2 = some o, fun σ' H' h => ⟨m, Nat.lt_succ_self _, h⟩, p, Hs2, ev2, o2, ws2, vs2, B3, eo, ?_⟩
        cases o2 with
        | nx ev' => exact fun σ' H' Hs' ws' vs' x' B' hl => ⟨Hs', ev', ws', vs', B', q3.later x' hl, e2⟩
        | rt w =>
          cases e2
          exact q3
        | bk ev' =>
          cases e2
          exact q3
      | false =>
        rw [if_neg Bool.false_ne_true] at e2
        cases e2
        exact iteF (q3 σ2 H3 Hs2 ws2 vs2 ⟨fun b o _ e => e, Same.refl _, B3.sub, B3.pn, fun b h _ => h⟩ B3 rfl)⟩
def fSetB (i j : Nat) (f : Ev → Option PyData) : Ev → Option OutB := fun ev => (evB i f ev).bind fun w => some (.nx (ev.set j (some w)))
theorem pub_set {j : Nat} {x : Str} {e : Expr} {f : Ev → Option PyData} {pos pos' : Pos} (hij : i ≠ j) (hN : X.N.Nodup) (hi : X.N[j]? = some x) (hx : Loc X.env.scope x) (h : PU X e f) (hs : swapsWith e (some (.Name x pos')) pos.line X.env = pure false := by rfl) (hf : X.fn x = true ∨ X.env.scope.names.lookup x = some .local := by first | exact .inl rfl | exact .inr rfl | assumption) :
    PUB X i (.Assign [.Name x pos'] e pos) (fSetB i j f) :=
  ⟨convS (ps_set hN hi hx h.pe hs hf) fun D σ H ⟨p, Hs, ev, o, ws, vs, B, e, q⟩ => by
    obtain ⟨w, e1, e⟩ := bindS e
    cases e
    exact evB_use B e1 fun v H' Hs' x B' r => q _ H' Hs' ws vs x (B'.set hij r) (by rw [List.length_set])⟩
def fApp (i : Nat) (f : Ev → Option PyData) : Ev → Option OutB := fun ev => (evB i f ev).bind fun w => match ev[i]? with | some (some (.list ws)) => if ws.length < sizeLine then some (.nx (ev.set i (some (.list (ws ++ [w]))))) else none | _ => none
theorem OwnB.app {p : Addr} {σ : L2.St} {H Hs : Hp} {ev : Ev} {ws : List PyData} {vs : List V} {w : PyData} {v : V} (B : OwnB i p σ H Hs ev ws vs) (r : Rp Hs w v) : OwnB i p σ (upd H p (.lst (vs ++ [v]))) Hs (ev.set i (some (.list (ws ++ [w])))) (ws ++ [w]) (vs ++ [v]) := by
  refine ⟨fun b o e => ?_, by rw [List.set_set]; exact B.env, ?_, B.sl, upd_same, B.pn, B.rp.append (.cons r .nil)⟩
  · rw [upd_ne (ne_of_none e B.pn)]; exact B.sub _ _ e
  · have : i < ev.length := by
      rcases Nat.lt_or_ge i ev.length with h | h
      · exact h
      · have := B.ev_; rw [List.getElem?_eq_none h] at this; cases this
    rw [List.getElem?_set_self this]
theorem pub_app {x : Str} {e : Expr} {f : Ev → Option PyData} {px apos cpos pos : Pos} (hi : X.N[i]? = some x) (hv : Vis X.env.scope x) (h : PU X e f) (hd : (x == ("__debug__" : Str)) = false := by decide) (hcd : (x == ("__classdict__" : Str)) = false := by decide)
    (hst : starEach [e] X.env = (false, eval e X.env) :: starEach [] X.env := by rfl) (hpl : (backTo cpos (starEach [] X.env)).any (·.1) = false := by rfl) (hb : attributeBase (.Name x px) "append" X.env (eval (.Name x px) X.env) = eval (.Name x px) X.env := by rfl)
    (hfew : ((backTo cpos (starEach [e] X.env)).all (fun x => !x.1) && (backToKw cpos (keywordEach [] X.env)).all (fun x => x.1.isSome)
      && decide (([e] : List Expr).length + ([] : List Keyword).length + (if ([] : List Keyword).isEmpty then 0 else 1) < 30)) = true := by rfl)
    (hline : (apos.endLine == cpos.line) = true := by rfl) (hsw : swapsWith (.Call (.Attribute (.Name x px) "append" apos) [e] [] cpos) none pos.line X.env = pure false := by rfl) :
    PUB X i (.Expr (.Call (.Attribute (.Name x px) "append" apos) [e] [] cpos) pos) (fApp i f) := by
  refine ⟨convS (ps_expr (pe_bm PySem.F.plainAttrs_list PySem.F.slot_list_append PySem.F.type_list_append mt_append (pe_var hi hv hd hcd) (pa_cons h.pe pa_nil hst) hb hfew hline hst hpl) hsw) fun D σ H ⟨p, Hs, ev, o, ws, vs, B, e, q⟩ => ?_⟩
  obtain ⟨w, e1, e⟩ := bindS e
  rw [B.ev_] at e
  simp only at e
  split at e
  · rename_i hl
    cases e
    refine ⟨.ref p, B.sl, .inl ⟨rfl, vs, SqL.of B.at_⟩, ?_⟩
    show tPu f σ H fun v H1 => _
    refine evB_use B e1 fun v H1 Hs1 x B1 r => ?_
    refine ⟨p, vs, v, rfl, rfl, B1.at_, by rw [← B1.rp.len]; exact hl, ?_⟩
    exact q σ _ Hs1 _ _ ⟨fun b o hb z => by rw [upd_ne hb]; exact x.big b o hb z, x.small, fun b o z => by rw [upd_ne (ne_of_none z B1.pn)]; exact x.sub _ _ z, x.pn, x.new⟩ (B1.app r) rfl
  · cases e
end
end Pu

set_option Elab.async false
set_option linter.all false
set_option maxRecDepth 100000
set_option maxHeartbeats 2000000
/-! Where the list of the def's own begins. -/
namespace Pu
open PySem PySem.Spec PyProof.Rows L2
def outB (i : Nat) : OutB → Option Out
  | .nx ev => some (.nx ev)
  | .rt w => some (.rt w)
  | .bk _ => none
theorem ExtR.ext {p : Addr} {H Hs H1 H2 Hs2 : Hp} {o : HO} (hp : H p = none) (h1 : H1 = upd H p o) (x : ExtR p H1 Hs H2 Hs2) : Ext H Hs H2 Hs2 := by
  subst h1
  refine ⟨fun b o e => x.big b o (ne_of_none e hp) (by rw [upd_ne (ne_of_none e hp)]; exact e), x.small, x.sub, fun b h h' => ?_⟩
  have hb : b ≠ p := fun z => by subst z; exact h' hp
  exact x.new b hb h (by rw [upd_ne hb]; exact h')
theorem OutKB.toK {i : Nat} {p : Addr} {D : Ends} {σ σ0 : L2.St} {H H1 Hs : Hp} {o : OutB} {o' : Out} {xs : HO} (e : outB i o = some o') (hp : H p = none) (h1 : H1 = upd H p xs) (hl : σ.length = σ0.length) (k : OutK D σ0 H Hs o') : OutKB i p D σ H1 Hs o := by
  cases o with
  | nx ev =>
    cases e
    refine fun σ' H' Hs' ws vs x B h => ?_
    obtain ⟨s1, r1, s2⟩ := B.full
    exact k σ' H' _ (ExtR.ext hp h1 ⟨x.big, x.small.trans s2, s1, fun b hb hn h' => by rw [upd_ne hb]; exact x.new b hn h'⟩) r1 (h.trans hl)
  | rt w =>
    cases e
    exact fun v H' Hp' x r => k v H' Hp' (ExtR.ext hp h1 x) r
  | bk ev => cases e
section
variable {X : Cx}
/-- a, own, c = e1, [], e3: and all behind it with the list apart -/
def fOwn3 (j i l : Nat) (fa fc : Ev → Option PyData) (G : Ev → Option OutB) : Ev → Option Out := fun ev => (fa ev).bind fun u => (fc ev).bind fun w => if i < ev.length then (G (((ev.set j (some u)).set i (some (.list []))).set l (some w))).bind (outB i) else none
theorem puss_own3 {i j l : Nat} {x y z : Str} {a c : Expr} {fa fc : Ev → Option PyData} {G : Ev → Option OutB} {sts : List Stmt} {px py pz pt pos lp : Pos} {kt k2 pt2} (hN : X.N.Nodup) (hj : X.N[j]? = some x) (hi : X.N[i]? = some y) (hl : X.N[l]? = some z) (hji : j ≠ i) (hjl : j ≠ l) (hil : i ≠ l)
    (hx : X.env.scope.names.lookup x = some .local) (hy : X.env.scope.names.lookup y = some .local) (hz : X.env.scope.names.lookup z = some .local) (ha : PU X a fa) (hc' : PU X c fc) (hr : PUBs X i sts G)
    (hs1 : starEach [a, .List [] lp, c] X.env = (false, eval a X.env) :: starEach [.List [] lp, c] X.env := by rfl) (hs2 : starEach [.List [] lp, c] X.env = (false, eval (.List [] lp) X.env) :: starEach [c] X.env := by rfl) (hs3 : starEach [c] X.env = (false, eval c X.env) :: starEach [] X.env := by rfl)
    (hc : X.calm = true := by rfl) (hw : swappedStores [.Tuple [.Name x px, .Name y py, .Name z pz] kt pt] (.Tuple [a, .List [] lp, c] k2 pt2) X.env = pure (some [x, y, z]) := by rfl) (hs : swapsWithSole [.Tuple [.Name x px, .Name y py, .Name z pz] kt pt] (.Tuple [a, .List [] lp, c] k2 pt2) pos.line X.env = pure false := by rfl) :
    PUSs X (.Assign [.Tuple [.Name x px, .Name y py, .Name z pz] kt pt] (.Tuple [a, .List [] lp, c] k2 pt2) pos :: sts) (fOwn3 j i l fa fc G) :=
  ⟨convSs (pss_cons (ps_par3 hc hN hj hi hl hji hjl hil hx hy hz (pa_cons ha.pe (pa_cons (pe_lst pa_nil) (pa_cons hc'.pe pa_nil hs3) hs2) hs1) hw hs) hr.pss) fun D σ H ⟨Hs, ev, o, s, re, e, q⟩ => by
    obtain ⟨u, e1, e⟩ := bindS e
    obtain ⟨w, e2, e⟩ := bindS e
    split at e
    case isFalse => cases e
    rename_i hlt
    obtain ⟨o1, e3, e⟩ := bindS e
    refine ⟨Hs, ev, u, s, re, e1, fun v H1 Hs1 x1 r1 => ⟨Nat.zero_le _, fun p hp => ?_⟩⟩
    have hs1n : Hs1 p = none := x1.sub.free hp
    have sub2 : Same Hs1 (upd H1 p (.lst [])) := fun b o z => by rw [upd_ne (ne_of_none (x1.sub _ _ z) hp)]; exact x1.sub _ _ z
    refine ⟨Hs1, ev, w, sub2, re.mono x1.small, e2, fun v2 H3 Hs3 x3 r3 => ?_⟩
    refine ⟨v, .ref p, v2, rfl, ?_⟩
    have hp3 : H3 p = some (.lst []) := x3.big _ _ upd_same
    have hs3n : Hs3 p = none := x3.new p hs1n (by rw [upd_same]; exact fun z => nomatch z)
    have le := re.le
    refine ⟨p, Hs3, _, o1, [], [], ⟨x3.sub, ?_, ?_, ?_, hp3, hs3n, .nil⟩, e3, ?_⟩
    · have r0 : REnv Hs3 (((σ.set j (some v)).set i (some (.ref p))).set l (some v2)) ((((ev.set j (some u)).set i none).set l (some w))) :=
        (((re.mono (x1.small.trans x3.small)).set (r1.mono x3.small)).unset).set r3
      have e5 : ((((ev.set j (some u)).set i (some (PyData.list []))).set l (some w)).set i none) = ((ev.set j (some u)).set i none).set l (some w) := by
        rw [List.set_comm _ _ (Ne.symm hil), List.set_set]
      rw [e5]
      exact r0
    · rw [List.getElem?_set_ne (Ne.symm hil), List.getElem?_set_self (by rw [List.length_set]; exact hlt)]
    · rw [List.getElem?_set_ne (Ne.symm hil), List.getElem?_set_self (by rw [List.length_set]; omega)]
    · -- the list is new
      have k1 : OutK D σ H1 Hs1 o := q.later x1 rfl
      have k2 : OutKB i p D (((σ.set j (some v)).set i (some (.ref p))).set l (some v2)) (upd H1 p (.lst [])) Hs1 o1 := OutKB.toK e hp rfl (by simp) k1
      exact k2.later (ExtB.of x3 hs1n (by rw [upd_same]; exact fun z => nomatch z)) rfl⟩
end
end Pu

set_option Elab.async false
set_option linter.all false
set_option maxRecDepth 100000
set_option maxHeartbeats 2000000
/-! An object's attributes, read. -/
namespace Pu
open PySem PySem.Spec PyProof.Rows L2
def fGet (ps : List (PyData × PyData)) (f : Str) : Option PyData := (ps.find? fun p => keyB p.1 (.inr f)).map (·.2)
theorem RpF.get {H : Hp} {f : Str} {w : PyData} : ∀ {ps : List (PyData × PyData)} {fs : List (Str × V)}, RpF H ps fs → fGet ps f = some w → ∃ v, fs.lookup f = some v ∧ Rp H w v
  | _, _, .nil, e => by cases e
  | _, _, .cons (f := g) (d := d) (v := v) l r t, e => by
    by_cases h : g = f
    · subst h
      unfold fGet at e
      rw [List.find?_cons_of_pos (by simp [keyB])] at e
      cases e
      exact ⟨v, l, r⟩
    · unfold fGet at e
      rw [List.find?_cons_of_neg (by simp [keyB, h])] at e
      exact RpF.get t e
theorem RpKV.notOb {H : Hp} : ∀ {ps : List (PyData × PyData)} {kvs : List (Key × V)}, RpKV H ps kvs → isOb ps = false
  | _, _, .nil => rfl
  | _, _, .cons (k := k) _ _ => by cases k <;> rfl
def gFld (C : Addr) (f : Str) : PyData → Option PyData
  | .dict ((.none, .int c) :: ps) => if c = (C : Nat) then fGet ps f else none
  | _ => none
theorem gFld_of {C : Addr} {f : Str} {H : Hp} {d w : PyData} {v : V} (r : Rp H d v) (e : gFld C f d = some w) : ∃ a dx fs u, v = .ref a ∧ H a = some (.ins C dx fs) ∧ fs.lookup f = some u ∧ Rp H w u := by
  unfold gFld at e
  split at e
  · rename_i c ps
    split at e
    · rename_i hc
      cases r with
      | dic h r => have := r.notOb; cases this
      | ob h r =>
        have : (_ : Nat) = C := Int.ofNat.inj hc
        subst this
        obtain ⟨u, l, ru⟩ := r.get e
        exact ⟨_, _, _, u, rfl, h, l, ru⟩
    · cases e
  · cases e
def fFld (C : Addr) (f : Str) (fe : Ev → Option PyData) : Ev → Option PyData := fun ev => (fe ev).bind (gFld C f)
section
variable {X : Cx}
theorem pu_fld {e : Expr} {f : Str} {pos : Pos} {C : Addr} {fe : Ev → Option PyData} (h : PU X e fe) (c : Cls X.K C) (n : NoAttr X.K C f) (hb : attributeBase e f X.env (eval e X.env) = eval e X.env := by rfl) : PU X (.Attribute e f pos) (fFld C f fe) :=
  ⟨conv (pe_fld h.pe hb) fun σ H Q ⟨Hs, ev, w, s, re, e, q⟩ => by
    obtain ⟨w0, e1, e⟩ := bindS e
    refine ⟨Hs, ev, w0, s, re, e1, fun v H1 Hs1 x1 r1 => ?_⟩
    obtain ⟨a, dx, fs, u, rfl, h1, l, ru⟩ := gFld_of r1 e
    exact ⟨a, C, dx, fs, u, rfl, x1.sub _ _ h1, c, n, l, q u H1 Hs1 x1 ru⟩⟩
end
end Pu

set_option Elab.async false
set_option linter.all false
set_option maxRecDepth 100000
set_option maxHeartbeats 2000000
/-! o.f as a target; what a name reads. -/
namespace Pu
open PySem PySem.Spec PyProof.Rows L2
def gAtt (K : PySem.W.Frag) (ta : TE) (f : Str) : TG := fun y σ H Q => ta σ H fun x H2 => ∃ a C dx fs, x = .ref a ∧ H2 a = some (.ins C dx fs) ∧ Cls K C ∧ NoAttr K C f ∧ fs.length < 1000 ∧ Q σ (upd H2 a (.ins C dx (putF f y fs)))
section
variable {X : Cx}
theorem pg_att {o : Expr} {f : Str} {pos : Pos} {ta : TE} (ho : PE X o ta) : PG X (.Attribute o f pos) (gAtt X.K ta f) := by
  refine ⟨fun pins s σ H v u Q I r h => ?_⟩
  rw [arm_assign_Attribute]
  refine wpAny_bind (wpAny_holding (thn (ho.run pins s σ H _ I h) fun ov s1 ⟨x, H1, I1, r1, a, C, dx, fs, ex, ea, c, n, l, q⟩ => ?_))
  subst ex
  obtain rfl : ov = Value.ref a := r1
  refine wpAny_bind (wpAny_standAt (wpAny_bind (wpAny_holding (setattr_ok I1 ea c n l r fun s3 I3 => ?_))))
  exact wpAny_release ⟨σ, _, I3, q⟩
end
end Pu

set_option Elab.async false
set_option linter.all false
set_option maxRecDepth 100000
set_option maxHeartbeats 2000000
/-! for i, c in enumerate(a text). -/
namespace Pu
open PySem PySem.Spec PyProof.Rows L2
def Ites (z : Str) : It := ⟨fun i _ => i < z.cps.size, fun i H v H' => ∃ T c, v = .ref T ∧ H T = none ∧ H' = upd H T (.tup [.int (i : Nat), .str ⟨#[c]⟩]) ∧ z.cps[i]? = some c, fun i _ => i = z.cps.size⟩
theorem turn_ens {P : Program} {w : World} {K : PySem.W.Frag} {elts : List Expr} {kk : Nat} {tpos : Pos} (z : Str) (t : Tok) (e it : Addr) :
    Turn P w K (.Tuple elts kk tpos) (Ites z) [e, it] e (fun i h => (∃ old, IsEnum h e it ((i : Nat) : Int) old) ∧ h.IsStrIter it (strIterType z) z t i ∧ e ≠ it) where
  mem := by simp
  obj := fun i h ⟨⟨old, he⟩, ⟨o, ho, hc, hd⟩, _⟩ b hb => by
    rcases List.mem_cons.mp hb with rfl | hb
    · exact ⟨_, he, fun v q => nomatch q⟩
    · obtain rfl := List.mem_singleton.mp hb
      exact ⟨o, ho, fun v q => by rw [hd] at q; cases q⟩
  keep := fun i h h' ⟨⟨old, he⟩, ⟨o, ho, hr⟩, hne⟩ k => ⟨⟨old, k e (by simp) _ he⟩, ⟨o, k it (by simp) o ho, hr⟩, hne⟩
  item := by
    intro X hP hw hK hc i pins s σ H E I hf ⟨⟨old, he⟩, hit, hne⟩ hg
    subst hP hw hK
    have hel : e < s.heap.objs.size := Heap.lt_size he
    have hil : it < s.heap.objs.size := by obtain ⟨_, q, _⟩ := hit; exact Heap.lt_size q
    refine wpAny_pyNext_enum_itemD (Draws.text (A := X.A.in1) (I.ok.hd hc) it z t) he hit hg hne (by simpa using hne) fun x h' tk ⟨c, u, hx, ex⟩ ho hit' hT hsz hk => ?_
    subst ex
    refine ⟨_, rfl, wpAny_letOwnedTupleGo_enum (s := { s with heap := h', toks := tk + 1 }) ho fun h'' he' sb => ?_⟩
    have hT2 : h''.get? s.heap.objs.size = some { cls := .type "tuple", data := .seq #[.int i tk, .str ⟨#[c]⟩ u] } := (sb.2 _ (Nat.ne_of_gt hel)).trans hT
    have new : ObjOk X.prog X.w (upd H s.heap.objs.size (.tup [.int (i : Nat), .str ⟨#[c]⟩])) h'' s.heap.objs.size (.tup [.int (i : Nat), .str ⟨#[c]⟩]) :=
      ⟨by show 2 ≤ sizeLine; decide, [.int i tk, .str ⟨#[c]⟩ u], .cons ⟨_, rfl⟩ (.cons ⟨_, rfl⟩ .nil), ⟨_, hT2, rfl, _, rfl⟩⟩
    have nb : ∀ b, b ∉ [e, it] → b ≠ e ∧ b ≠ it := fun b hb => ⟨fun q => hb (by simp [q]), fun q => hb (by simp [q])⟩
    have I1 : Inv X pins σ (upd H s.heap.objs.size (.tup [.int (i : Nat), .str ⟨#[c]⟩])) { s with heap := h'', toks := tk + 1 } :=
      I.turnedNew (ch := [e, it]) (fun b ob hb q => (sb.2 b (nb b hb).1).trans (hk b ob (nb b hb).1 (nb b hb).2 q)) hf (Nat.le_refl _) new
    refine ⟨.ref s.heap.objs.size, _, I1, rfl, ⟨_, c, rfl, I.hok.fresh (Nat.le_refl _), rfl, hx⟩, ⟨⟨_, he'⟩, ?_, hne⟩, fun b hb => ?_⟩
    · obtain ⟨o, q1, q2⟩ := hit'
      exact ⟨o, (sb.2 it (Ne.symm hne)).trans q1, q2⟩
    · have hb' : b < s.heap.objs.size := by
        rcases List.mem_cons.mp hb with rfl | hb
        · exact hel
        · obtain rfl := List.mem_singleton.mp hb
          exact hil
      rw [upd_ne (Nat.ne_of_lt hb')]
      exact (hf b hb).1
  done := by
    intro X hP hw hK hc i pins s σ H E I hf ⟨⟨old, he⟩, hit, hne⟩ hg
    subst hP hw hK
    have hg : i = z.cps.size := hg
    subst hg
    obtain ⟨f0, f1, f2, f3, f4, f5⟩ := hf it (by simp)
    exact wpAny_pyNext_enum_endD (Draws.text (A := X.A.in1) (I.ok.hd hc) it z t) he hit fun h' eb => ⟨rfl, I.turned (t' := s.toks) (fun b o hb q => eb b o hb q) f0 f1 f3 f4 f5⟩
  self := fun A i s Q E ⟨⟨_, he⟩, _⟩ h => wpAny_pyIter_enum he h
def iEns (ta : TA) : TI := fun σ H R => ta σ H fun vs H1 => ∃ z, vs = [.str z] ∧ R (Ites z) H1
theorem pi_ens {X : Cx} {e : Expr} {ta : TA} {p pos tpos : Pos} {elts : List Expr} {kk : Nat} (hg : Gl X "enumerate") (hm : X.mg "enumerate" = none) (ha : PA X [e] ta) (hs : starEach [e] X.env = [(false, eval e X.env)] := by rfl) :
    PI X (.Tuple elts kk tpos) (.Call (.Name "enumerate" p) [e] [] pos) (iEns ta) := by
  refine ⟨fun pins s σ H R I h => Call_ (ld_blt I hg hm boot_enumerate (PyProof.Rows.callWith_type1 (thn (ha.run pos pins s σ H _ I h) fun us s1 ⟨vs, H1, I1, r1, z, ex, q⟩ => ?_) hs rfl))⟩
  subst ex
  cases r1 with
  | cons r rr =>
    cases rr
    obtain ⟨t, rfl⟩ := r
    refine call_enumerate_str fun h' he hit hsz hk => wpAny_pyIter_enum he ?_
    refine ⟨s1.heap.objs.size + 1, [s1.heap.objs.size + 1, s1.heap.objs.size], _, _, H1, rfl, I1.kept (t' := s1.toks) hk, turn_ens z t (s1.heap.objs.size + 1) s1.heap.objs.size, ⟨⟨.none, he⟩, hit, Nat.succ_ne_self _⟩, fun b hb => ?_, q⟩
    have hle : s1.heap.objs.size ≤ b := by
      rcases List.mem_cons.mp hb with rfl | hb
      · exact Nat.le_succ _
      · obtain rfl := List.mem_singleton.mp hb
        exact Nat.le_refl _
    exact I1.fpOk hle (I1.hok.fresh hle)
end Pu

set_option Elab.async false
set_option linter.all false
set_option maxRecDepth 100000
set_option maxHeartbeats 4000000
/-! A caught exception that is kept by another name behind the except clause. -/
namespace Pu
open PySem PySem.Spec PyProof.Rows L2
/-- at a: an exception of that class, its dict -/
def exk (a : Addr) (cl : Value) (d : Option Addr) : HO := .ext fun h => ∃ ob, h.get? a = some ob ∧ Zc cl d ob ∧ ∃ fl, ob.data = .fields fl
theorem exk_ok {P : Program} {w : World} {H : Hp} {h : Heap} {a : Addr} {cl : Value} {d : Option Addr} {ob : Obj} (e : h.get? a = some ob) (z : Zc cl d ob) (fl : ∃ fl, ob.data = .fields fl) : ObjOk P w H h a (exk a cl d) :=
  ⟨⟨ob, e, z, fl⟩, ⟨ob, e⟩, fun h1 h2 ⟨o1, e1, r1⟩ k => ⟨o1, k _ e1, r1⟩⟩
theorem exk_at {P : Program} {w : World} {H : Hp} {h : Heap} {a : Addr} {cl : Value} {d : Option Addr} (hok : HOk P w H h) (e : H a = some (exk a cl d)) : ∃ ob, h.get? a = some ob ∧ Zc cl d ob ∧ ∃ fl, ob.data = .fields fl := by
  have x : ObjOk P w H h a (.ext fun h => ∃ ob, h.get? a = some ob ∧ Zc cl d ob ∧ ∃ fl, ob.data = .fields fl) := hok a _ e
  exact x.1
section
variable {X : Cx} {pins : List (Addr × Obj)} {σ : L2.St} {H : Hp} {s : Shared}
/-- a thing that stands in the heap is taken in hand -/
theorem layAt {a : Addr} {u : HO} (I : Inv X pins σ H s) (na : H a = none) (n0 : X.s_0.heap.get? a = none) (nL : a ≠ X.env.locals) (nC : ∀ x c, X.env.cells.lookup x = some c → c ≠ a) (nP : ∀ p ∈ X.pn ++ pins, p.1 ≠ a) (new : ObjOk X.prog X.w (upd H a u) s.heap a u) : Inv X pins σ (upd H a u) s := by
  have up : ∀ {b : Addr} {o : HO}, H b = some o → upd H a u b = some o := fun {b o} e => by rw [upd_ne (ne_of_none e na)]; exact e
  refine ⟨I.ok, I.os, I.bare, ⟨I.base.keep, I.base.slot, fun b o e n hx => ?_, I.base.there, fun b xs e => up (I.base.tups b xs e), fun b o x e => up (I.base.frzs b o x e), fun b ps e => ?_⟩, I.loc, I.cell, ?_, fun x c e => ?_, fun p hp => ?_, fun b o e => ?_, I.len⟩
  · rw [upd_ne (fun z => by rw [z, n0] at e; cases e)]
    exact I.base.free b o e n hx
  · obtain ⟨m, q⟩ := I.base.tbls b ps e
    exact ⟨m, up q⟩
  · rw [upd_ne (Ne.symm nL)]; exact I.free
  · rw [upd_ne (nC x c e)]; exact I.freeC x c e
  · obtain ⟨p1, p2, p3⟩ := I.pin p hp
    exact ⟨p1, by rw [upd_ne (nP p hp)]; exact p2, p3⟩
  · by_cases hb : b = a
    · subst hb
      rw [upd_same] at e
      cases e
      exact new
    · rw [upd_ne hb] at e
      exact (I.hok b o e).stay (fun _ _ _ q => q) (fun _ q => up q) fun _ _ q => up q
/-- what such a clause wishes -/
def wKeep (K : PySem.W.Frag) (c : Value) (i : Nat) (ts : Addr → Value → Option Addr → TS) (Wo : WX) (D : Ends) : WX := fun cl d σ H =>
  ∃ b, PySem.W.exmOne K cl c = some b ∧ (b = false → Wo cl d σ H) ∧
    (b = true → ∀ a, H a = none → ts a cl d { nx := fun σ' H' => H' a = none → D.nx (σ'.set i none) (upd H' a (exk a cl d)), rt := fun _ _ => False } (σ.set i (some (.ref a))) H)
end
section
variable {X : Cx} {x n : Str} {c : Value} {i : Nat} {body more : List Stmt} {b1 : Stmt} {np pos pos' : Pos} {tb : WX → TS} {ts : Addr → Value → Option Addr → TS} {Wo : WX}
theorem ps_tryKeep (hex : X.ex = []) (hs : X.stack = X.env :: X.outer) (hf : X.env.frame = some X.env.locals) (hN : X.N.Nodup) (hi : X.N[i]? = some n) (hln : X.env.kindOf n = some .local) (hc : Names X x c) (tk : Takes X Wo)
    (hb : ∀ (W : WX) (pn : List (Addr × Obj)) (xe : Value → Shared → Prop), Takes (X.tr pn xe) W → PassesOwn (model X.prog X.w) X.A X.env xe → PSs (X.tr pn xe) body (tb W))
    (hsu : ∀ (a : Addr) (ob : Obj) (cl : Value) (d : Option Addr) (pn : List (Addr × Obj)), PSs (X.suite a ((a, ob) :: pn)) (b1 :: more) (ts a cl d)) :
    PS X (.Try body [.ExceptHandler (some (.Name x np)) (some n) (b1 :: more) pos'] [] [] pos) (fun D σ H => tb (wKeep X.K c i ts Wo D) D σ H) := by
  refine ⟨fun pins s σ H D I h => wpAny_Try_except ?_⟩
  have ok := I.ok
  have frames : X.A.frames = some (X.env :: X.outer) := by rw [ok.frames, hs]
  refine wpAny_mono ((hb (wKeep X.K c i ts Wo D) (X.pn ++ pins) (fun e sA => wpAny (model X.prog X.w) X.A (noteFrame e X.env) (fun _ sB => wpAny (model X.prog X.w) X.A (setFlight e none) (fun _ sC => wpAny (model X.prog X.w) X.A (handleBy e X.env [.ExceptHandler (some (.Name x np)) (some n) (b1 :: more) pos']) (SP X pins D) X.xe sC) X.xe sB) X.xe sA)
    (fun u s1 caught => ?_) PassesOwn.looking).run [] s σ H D (I.toTry _) h) (fun fl s1 done => ?_) (fun e s1 he => he)
  · obtain ⟨a, B, sI, pi1, σ1, H1, cl, d, rfl, J0, nb, up1, sky, na, os, ag, b, hb1, hno, hyes⟩ := caught
    have J : Inv X pins σ1 H1 sI := J0.ofTry ok
    rw [hs] at sky
    refine Sky.land Zc.steady frames hf sky fun hA flA upA => ?_
    have JA : Inv X pins σ1 H1 { s1 with heap := hA } := J.landed nb flA.1 (up1.trans upA) os ag
    obtain ⟨obA, vsA, heA, hzA, hdA⟩ := flA.there
    have nfr : a ∉ frs (X.env :: X.outer) := fun hm => by
      obtain ⟨_, o', e', hnf⟩ := flA.2.2.1.mem hm
      rw [heA] at e'
      cases e'
      exact hnf _ hdA
    have nL : a ≠ X.env.locals := fun z => nfr (List.mem_filterMap.mpr ⟨X.env, List.mem_cons_self, by rw [hf, z]⟩)
    have nF : a ∉ X.fs := fun hm => by
      obtain ⟨e, he, q⟩ := List.mem_filterMap.mp hm
      exact nfr (List.mem_filterMap.mpr ⟨e, List.mem_cons_of_mem _ he, q⟩)
    have SA := JA.suite heA hdA na nL nF
    refine wpAny_handleBy_cons (codeAny_handlers_test ?_) (by intro q; cases q)
    have LT : PySem.W.Looks (model X.prog X.w) hA (typeOf (.ref a)) cl := fun A Q E s k q => wpAny_typeOf_ref (k _ _ heA) (by rw [hzA.1]; exact q)
    have LM := PySem.W.exm_one (M := model X.prog X.w) (JA.kIn) LT hb1
    have test : ∀ {Q : Value → Shared → Prop} {E : Value → Shared → Prop}, Q c { s1 with heap := hA } → wpAny (model X.prog X.w) (X.A.mark (some (.ref a))) (eval (.Name x np) X.env) Q E { s1 with heap := hA } := fun {Q E} q => by
      obtain ⟨hg, hdb, hm | ⟨hm, hv, hnn⟩⟩ := hc
      · exact ld_glob (X := X.suite a ((a, obA) :: (X.pn ++ pins))) SA hg hm q hdb
      · exact ld_blt (X := X.suite a ((a, obA) :: (X.pn ++ pins))) SA hg hm hv q hnn hdb
    refine test (LM.here ?_)
    cases b with
    | true =>
      refine codeAny_handlers_suite_as (HandSPX.lands_againZ flA fun hB flB upB => ?_)
      have JB : Inv X pins σ1 H1 { s1 with heap := hB } := J.landed nb flB.1 ((up1.trans upA).trans upB) os ag
      obtain ⟨obB, vsB, heB, hzB, hdB⟩ := flB.there
      have SB := JB.suite heB hdB na nL nF
      -- a is none of the things that stood before
      have n0 : X.s_0.heap.get? a = none := by
        cases e0 : X.s_0.heap.get? a with
        | none => rfl
        | some o0 =>
          obtain ⟨o1, e1⟩ := J.base.there a o0 e0 (by rw [hex]; exact fun z => nomatch z)
          have := nb a o1 e1 (by rw [hs]; exact nfr)
          rw [flB.2.1] at this
          cases this
      have nP : ∀ p ∈ X.pn ++ pins, p.1 ≠ a := fun p hp z => by
        obtain ⟨e1, _⟩ := J.pin p hp
        rw [z] at e1
        have := nb a _ e1 (by rw [hs]; exact nfr)
        rw [flB.2.1] at this
        cases this
      refine store_ok (X := X.suite a ((a, obB) :: (X.pn ++ pins))) (v := .ref a) SB hN hi (.inl hln) rfl (fun s5 S5 => ?_) (.inr hln)
      refine wpAny_mono ((hsu a obB cl d (X.pn ++ pins)).run [] s5 _ H1 _ S5 (hyes rfl a na)) (fun fl s6 done => ?_) (fun _ _ z => False.elim z)
      cases fl with
      | next =>
        obtain ⟨σ6, H6, S6, q6⟩ := done
        refine gone_ok (X := X.suite a ((a, obB) :: (X.pn ++ pins))) (M := model X.prog X.w) (A := X.A) S6 hN hi hln fun s7 S7 => ?_
        obtain ⟨e7, n7, _⟩ := S7.pin (a, obB) (List.mem_append_left _ List.mem_cons_self)
        have J7 : Inv X pins (σ6.set i none) H6 s7 := S7.unsuite ok
        have nC : ∀ y c', X.env.cells.lookup y = some c' → c' ≠ a := fun y c' ey z => by
          obtain ⟨v', oc, e8, d8⟩ := J7.cell y c' ey
          rw [z] at e8
          have e7' : s7.heap.get? a = some obB := e7
          rw [e7'] at e8
          cases e8
          rw [hdB] at d8
          cases d8
        exact ⟨_, _, layAt J7 n7 n0 nL nC nP (exk_ok e7 hzB ⟨_, hdB⟩), q6 n7⟩
      | brk => obtain ⟨σ6, H6, S6, q6⟩ := done; exact q6.elim
      | cont => obtain ⟨σ6, H6, S6, q6⟩ := done; exact q6.elim
      | ret u => obtain ⟨v6, σ6, H6, S6, r6, q6⟩ := done; exact q6.elim
    | false =>
      show wpAny _ X.A (handleBy (.ref a) X.env []) _ _ _
      refine wpAny_handleBy_nil ?_
      obtain ⟨_, _, _, oe, vs, T, oT, ts', he, hz, hd, h1, hr⟩ := id flA
      unfold PySem.passOn
      refine wpAny_bind (wpAny_field he hd h1 ?_)
      rw [if_neg (show ¬ ((Value.ref T == Value.none) = true) from by simp)]
      have fin : wpAny (model X.prog X.w) X.A (setFlight (.ref a) X.env.frame) (fun _ sD => wpAny (model X.prog X.w) X.A (throw (.ref a) : Sem Flow) (SP X pins D) X.xe sD) X.xe { s1 with heap := hA } := by
        rw [hf]
        refine HandSPX.setFlight_upZ flA fun hD flD upD => wpAny_throw (tk _ _ ?_)
        exact ⟨a, B, sI, pins, σ1, H1, cl, d, rfl, J, nb, (up1.trans upA).trans upD, .inr (.inr (by rw [hs]; exact flD)), na, os, ag, hno rfl⟩
      first
        | exact wpAny_bind (wpAny_pure (wpAny_bind fin))
        | exact wpAny_bind fin
  · cases fl with
    | next => obtain ⟨σ1, H1, J1, q⟩ := done; exact wpAny_execs_nil ⟨σ1, H1, J1.ofTry ok, q⟩
    | brk => obtain ⟨σ1, H1, J1, q⟩ := done; exact ⟨σ1, H1, J1.ofTry ok, q⟩
    | cont => obtain ⟨σ1, H1, J1, q⟩ := done; exact ⟨σ1, H1, J1.ofTry ok, q⟩
    | ret u => obtain ⟨v, σ1, H1, J1, r, q⟩ := done; exact ⟨v, σ1, H1, J1.ofTry ok, r, q⟩
end
end Pu

set_option Elab.async false
set_option linter.all false
set_option maxRecDepth 100000
set_option maxHeartbeats 4000000
/-! What is asked of a kept exception; count of a flat list. -/
namespace Pu
open PySem PySem.Spec PyProof.Rows L2
/-- what the class at D must say -/
structure ExD (K : PySem.W.Frag) (D : Addr) : Prop where
  cl : (PySem.W.clsIn K D).isSome = true
  ga : PySem.W.findIn K (.ref D) "__getattribute__" = some (some (.builtin "BaseException.__getattribute__"))
  gg : PySem.W.findIn K (.ref D) "__getattr__" = some none
  sb : PySem.W.subIn K (.ref D) (.type "BaseException") = some true
  hd : PySem.W.hasDictIn K D = true
  ca : PySem.W.findIn K (.ref D) "__class__" = some (some (.builtin "object.__class__"))
  sg : PySem.W.specialIn K (.builtin "object.__class__") "__get__" = some (some (.builtin "getset_descriptor.__get__"))
  tk : PySem.W.takesIn K (.builtin "object.__class__") = some true
  mo : PySem.W.mroIn K D (.type "object") = some true
section
variable {X : Cx}
def rIsK (K : PySem.W.Frag) : List V → Hp → VK → Prop := fun xs H Q => ∃ (a D d : Addr) (fs : List (Str × V)) (c : Addr) (b : Bool), xs = [.ref a, .ref c] ∧ H a = some (exk a (.ref D) (some d)) ∧ H d = some (.xd fs) ∧ ExD K D ∧ PySem.W.kitOne K (.ref D) (.ref c) = some b ∧ Q (.bl b) H
theorem inst_of {pins : List (Addr × Obj)} {σ : L2.St} {H : Hp} {s : Shared} {a D d : Addr} {fs : List (Str × V)} (I : Inv X pins σ H s) (ha : H a = some (exk a (.ref D) (some d))) (hd : H d = some (.xd fs)) : ∃ ob od mA, PySem.W.InstAt s.heap a ob D (some od) ∧ s.heap.get? d = some od ∧ s.heap.Ns1 d mA ∧ (∀ f, RelO (fs.lookup f) (mA f)) := by
  obtain ⟨ob, e1, z, fl, hf⟩ := exk_at I.hok ha
  have hx : ObjOk X.prog X.w H s.heap d (.xd fs) := I.hok d _ hd
  obtain ⟨mA, hns, hr⟩ := hx
  obtain ⟨od, ho, hl⟩ := lookIn_ns hns
  exact ⟨ob, od, mA, ⟨e1, z.1, by unfold PySem.W.notCls; rw [hf] <;> rfl, by rw [z.2]; exact ho⟩, ho, hns, hr⟩
theorem call_isK : CallR X (.builtin "isinstance") (rIsK X.K) := by
  intro pins s σ H xs us Q I r ⟨a, D, d, fs, c, b, ex, ha, hd, T, e, q⟩
  subst ex
  obtain ⟨u1, u2, rfl, r1, r2⟩ := vals2 r
  cases (show u1 = Value.ref a from r1)
  cases (show u2 = Value.ref c from r2)
  obtain ⟨ob, od, mA, J, _⟩ := inst_of I ha hd
  exact PySem.W.kia_one (PySem.W.kitx_exc T.cl T.ga T.gg T.sb T.ca T.sg T.tk T.mo) I.kIn J e (fun z => nomatch z) fun tk => ⟨.bl b, H, I.tok tk, rfl, q⟩
/-- e.f of a kept exception -/
def tXk (K : PySem.W.Frag) (f : Str) (te : TE) : TE := fun σ H Q => te σ H fun x H1 => ∃ (a D d : Addr) (fs : List (Str × V)) (v : V), x = .ref a ∧ H1 a = some (exk a (.ref D) (some d)) ∧ H1 d = some (.xd fs) ∧ ExD K D ∧ PySem.W.findIn K (.ref D) f = some none ∧ fs.lookup f = some v ∧ Q v H1
theorem pe_xk {e : Expr} {te : TE} {pos : Pos} {f : Str} (he : PE X e te) (hb : attributeBase e f X.env (eval e X.env) = eval e X.env := by rfl) : PE X (.Attribute e f pos) (tXk X.K f te) := by
  refine ⟨fun pins s σ H Q I h => attr_of hb (thn (he.run pins s σ H _ I h) fun u s1 ⟨x, H1, I1, rx, a, D, d, fs, v, ex, ha, hd, T, hno, l, q⟩ => ?_)⟩
  subst ex
  cases (show u = Value.ref a from rx)
  obtain ⟨ob, e1, z, fl, hf⟩ := exk_at I1.hok ha
  have hx : ObjOk X.prog X.w H1 s1.heap d (.xd fs) := I1.hok d _ hd
  obtain ⟨mA, hns, hr⟩ := hx
  obtain ⟨od, ho, hl⟩ := lookIn_ns hns
  have J : PySem.W.InstAt s1.heap a ob D (some od) := ⟨e1, z.1, by unfold PySem.W.notCls; rw [hf] <;> rfl, by rw [z.2]; exact ho⟩
  obtain ⟨u', hu, ru⟩ := RelO.some_of (v := v) (o := mA f) (by rw [← l]; exact hr f)
  exact HandSPX.exc_get I1.kIn J T.ga T.gg T.sb (PySem.W.findObj_own T.hd hno rfl (by rw [hl, hu])) (handed_of ru) ⟨v, H1, I1.tok _, ru, q⟩
/-- xs.count(x), flat -/
theorem cnt_of {y : V} : ∀ {ys : List V} {us : List Value}, Vals ys us → ys.all flatV = true → us.countP (eqU y) = ys.countP fun z => eqV z y
  | _, _, .nil, _ => rfl
  | _, _, .cons r t, h => by
    rw [List.all_cons, Bool.and_eq_true] at h
    rw [List.countP_cons, List.countP_cons, cnt_of t h.2, eqU_of r h.1]
def rCntF (K : PySem.W.Frag) : V → List V → Hp → VK → Prop := fun x xs H Q => ∃ (a : Addr) (ys : List V) (y : V), x = .ref a ∧ xs = [y] ∧ SqL K H a ys ∧ flatV y = true ∧ ys.all flatV = true ∧ Q (.int ((ys.countP fun z => eqV z y : Nat))) H
theorem mt_cntF : MtR X "list.count" (rCntF X.K) := by
  intro pins s σ H x xs v us Q I rx rxs ⟨a, ys, y, ex, exs, hs, fy, fys, q⟩
  subst ex exs
  cases (show v = Value.ref a from rx)
  obtain ⟨u, rfl, ru⟩ := rxs.one
  obtain ⟨its, rv, ⟨⟨cls, dd, data, sl⟩, n, ho, hc, hdn, hd⟩, hlen⟩ := I.list hs
  simp only at hc hd
  subst hc hd
  refine call_meets PySem.F.slot_list_count ⟨_, ho, rfl⟩ PySem.F.entry_list_count (PySem.F.args_list_count_2 _ _) (SeqAt.list_countAt a its.toArray n dd sl u (eqU y)) ⟨ho, fun z hz => mem_eqAt ru fy rv fys z (by simpa using hz), ?_⟩
  have ec : its.toArray.toList.countP (eqU y) = ys.countP fun z => eqV z y := cnt_of rv fys
  rw [ec]
  exact ⟨.int _, H, I.tok _, ⟨_, rfl⟩, q⟩
end
end Pu

set_option Elab.async false
set_option linter.all false
set_option maxRecDepth 100000
set_option maxHeartbeats 2000000
/-! What a function on slots comes to, part by part. -/
namespace Pu
open PySem PySem.Spec PyProof.Rows L2
section
variable {ev ev' : Ev} {F G : Ev → Option Out} {c d : Ev → Option Bool} {f g : Ev → Option PyData} {fs : Ev → Option (List PyData)} {w u : PyData} {ws : List PyData} {a b : Bool} {o : Option Out} {i : Nat}
theorem z_rt (h : F ev = some (.rt w)) : fSeq F G ev = some (.rt w) := by unfold fSeq; rw [h]; rfl
theorem z_nx (h : F ev = some (.nx ev')) (k : G ev' = o) : fSeq F G ev = o := by unfold fSeq; rw [h]; exact k
theorem z_ifT (h : c ev = some true) (k : F ev = o) : fIfS c F G ev = o := by unfold fIfS; rw [h]; exact k
theorem z_ifF (h : c ev = some false) (k : G ev = o) : fIfS c F G ev = o := by unfold fIfS; rw [h]; exact k
theorem z_ret (h : f ev = some w) : fRet f ev = some (.rt w) := by unfold fRet; rw [h]; rfl
theorem z_set (h : f ev = some w) : fSet i f ev = some (.nx (ev.set i (some w))) := by unfold fSet; rw [h]; rfl
theorem z_B (h : c ev = some b) : fB c ev = some (.bool b) := by unfold fB; rw [h]; rfl
theorem z_T (h : f ev = some (.bool b)) : fT f ev = some b := by unfold fT; rw [h]; rfl
theorem z_not (h : c ev = some b) : fNot c ev = some (!b) := by unfold fNot; rw [h]; rfl
theorem z_orV (h : f ev = some (.bool a)) (k : g ev = some (.bool b)) : fOrV f g ev = some (.bool (a || b)) := by
  unfold fOrV
  rw [h]
  cases a with
  | true => rfl
  | false => exact k
theorem z_andV (h : f ev = some (.bool a)) (k : g ev = some (.bool b)) : fAndV f g ev = some (.bool (a && b)) := by
  unfold fAndV
  rw [h]
  cases a with
  | true => exact k
  | false => rfl
theorem z_or (h : c ev = some a) (k : d ev = some b) : fOr c d ev = some (a || b) := by
  unfold fOr
  rw [h]
  cases a with
  | true => rfl
  | false => exact k
theorem z_orT (h : c ev = some true) : fOr c d ev = some true := by unfold fOr; rw [h]; rfl
theorem z_orF (h : c ev = some false) (k : d ev = some b) : fOr c d ev = some b := by unfold fOr; rw [h]; exact k
theorem z_and (h : c ev = some a) (k : a = true → d ev = some b) : fAnd c d ev = some (a && b) := by
  unfold fAnd
  rw [h]
  cases a with
  | true => exact k rfl
  | false => rfl
theorem z_andT (h : c ev = some true) (k : d ev = some b) : fAnd c d ev = some b := by unfold fAnd; rw [h]; exact k
theorem z_andF (h : c ev = some false) : fAnd c d ev = some false := by unfold fAnd; rw [h]; rfl
theorem z_ifET (h : c ev = some true) (k : f ev = some w) : fIf c f g ev = some w := by unfold fIf; rw [h]; exact k
theorem z_ifEF (h : c ev = some false) (k : g ev = some w) : fIf c f g ev = some w := by unfold fIf; rw [h]; exact k
theorem z_2T {r : PyData → PyData → Option Bool} (h : f ev = some w) (k : g ev = some u) (e : r w u = some b) : f2T r f g ev = some b := by unfold f2T; rw [h]; show (g ev).bind _ = _; rw [k]; exact e
theorem z_2 {r : PyData → PyData → Option PyData} {x : PyData} (h : f ev = some w) (k : g ev = some u) (e : r w u = some x) : f2 r f g ev = some x := by unfold f2; rw [h]; show (g ev).bind _ = _; rw [k]; exact e
theorem z_cons (h : f ev = some w) (k : fs ev = some ws) : fCons f fs ev = some (w :: ws) := by unfold fCons; rw [h]; show (fs ev).bind _ = _; rw [k]; rfl
theorem z_call {r : List PyData → Option PyData} {x : PyData} (h : fs ev = some ws) (e : r ws = some x) : fCall r fs ev = some x := by unfold fCall; rw [h]; exact e
theorem z_lst (h : fs ev = some ws) (k : ws.length ≤ sizeLine) : fLst fs ev = some (.list ws) := by unfold fLst; rw [h]; show (if _ then _ else _) = _; rw [if_pos k]
theorem z_tup (h : fs ev = some ws) (k : ws.length ≤ sizeLine) : fTup fs ev = some (.tuple ws) := by unfold fTup; rw [h]; show (if _ then _ else _) = _; rw [if_pos k]
theorem z_run {N : List Str} {n : Nat} (hl : ws.length = n) (h : F (ev0 N ws) = some (.rt w)) : runF N n F ws = some w := by unfold runF; rw [if_pos hl, h]; rfl
end
end Pu

set_option Elab.async false
set_option linter.all false
set_option maxRecDepth 100000
set_option maxHeartbeats 2000000
namespace Pu
open PySem PySem.Spec PyProof.Rows L2
section
variable {ev ev' : Ev} {F G : Ev → Option OutB} {c : Ev → Option Bool} {f : Ev → Option PyData} {w : PyData} {ws : List PyData} {o : Option OutB} {i j : Nat}
theorem y_nx (h : F ev = some (.nx ev')) (k : G ev' = o) : fSeqB F G ev = o := by unfold fSeqB; rw [h]; exact k
theorem y_rt (h : F ev = some (.rt w)) : fSeqB F G ev = some (.rt w) := by unfold fSeqB; rw [h]; rfl
theorem y_bk (h : F ev = some (.bk ev')) : fSeqB F G ev = some (.bk ev') := by unfold fSeqB; rw [h]; rfl
theorem y_ifT (h : c ev = some true) (k : F ev = o) : fIfB c F G ev = o := by unfold fIfB; rw [h]; exact k
theorem y_ifF (h : c ev = some false) (k : G ev = o) : fIfB c F G ev = o := by unfold fIfB; rw [h]; exact k
theorem y_ret (h : f ev = some w) : fRetB f ev = some (.rt w) := by unfold fRetB; rw [h]; rfl
theorem y_evB (h : f (ev.set i none) = some w) : evB i f ev = some w := by unfold evB; rw [h]
theorem y_set (h : f (ev.set i none) = some w) : fSetB i j f ev = some (.nx (ev.set j (some w))) := by unfold fSetB; rw [y_evB h]; rfl
theorem y_app (h : f (ev.set i none) = some w) (hl : ev[i]? = some (some (.list ws))) (hz : ws.length < sizeLine) : fApp i f ev = some (.nx (ev.set i (some (.list (ws ++ [w]))))) := by
  unfold fApp
  rw [y_evB h, Option.bind_some, hl]
  simp only
  rw [if_pos hz]
end
end Pu

set_option Elab.async false
set_option linter.all false
set_option maxRecDepth 100000
set_option maxHeartbeats 2000000
namespace Pu
open PySem PySem.Spec PyProof.Rows L2
section
variable {X : Cx}
/-- all([.. for key in mine]), mine an empty dict too -/
def fD0 (i : Nat) (f : Ev → Option PyData) : Ev → Option PyData := fun ev => match fVar i ev with
  | some (.dict []) => some (.bool true)
  | _ => f ev
theorem pu_allD0 {elt tg : Expr} {x : Str} {px p pos pos' : Pos} {scope : Scope} {own : List (Str × Nat)} {i : Nat} {g : TG} {tt : TT} {fe f : Ev → Option PyData}
    (h : PU X (.Call (.Name "all" p) [.ListComp elt [⟨tg, .Name x px, [], 0⟩] scope pos] [] pos') f)
    (hc : X.calm = true) (hN : X.N.Nodup) (hi : X.N[i]? = some x) (hv : Vis X.env.scope x) (hd : (x == ("__debug__" : Str)) = false) (hcd : (x == ("__classdict__" : Str)) = false)
    (ok : BlkOk X.N X.env.scope scope own)
    (hg : ∀ (s : Shared) (H : Hp) (C : Addr) (cl : List (Str × Addr)) (fp : List Addr), PG (X.blk s H scope (compEnvC scope cl C X.env) fp) tg g) (ht : ∀ (s : Shared) (H : Hp) (C : Addr) (cl : List (Str × Addr)) (fp : List Addr), PTs (X.blk s H scope (compEnvC scope cl C X.env) fp) [] tt)
    (he : ∀ (s : Shared) (H : Hp) (C : Addr) (cl : List (Str × Addr)) (fp : List Addr), PU (X.blk s H scope (compEnvC scope cl C X.env) fp) elt fe)
    (hgl : Gl X "all") (hm : X.mg "all" = none) (hs : ∀ y, foldedSetIterable (.Name x px) X.env y = pure y := by intro _; rfl)
    (hst : starEach [Expr.ListComp elt [⟨tg, .Name x px, [], 0⟩] scope pos] X.env = (false, eval (Expr.ListComp elt [⟨tg, .Name x px, [], 0⟩] scope pos) X.env) :: starEach [] X.env := by rfl) (hpl : (backTo pos' (starEach [] X.env)).any (·.1) = false := by rfl) :
    PU X (.Call (.Name "all" p) [.ListComp elt [⟨tg, .Name x px, [], 0⟩] scope pos] [] pos') (fD0 i f) :=
  ⟨conv (PE.or h.pe (pe_lock (pe_callB (cr_all hc) hgl hm boot_all (pa_cons (pe_lc hc hN (pi_keys (pe_var hi hv hd hcd)) ok hg ht (fun s H C cl fp => (he s H C cl fp).pe) hs) pa_nil) (by decide) (by decide) hst hpl))) fun σ H Q ⟨Hs, ev, w, s, re, e, q⟩ => by
    unfold fD0 at e
    split at e
    · rename_i hz
      cases e
      obtain ⟨v, h1, h2⟩ := re.at_ i _ (fVar_some hz)
      obtain ⟨d, kvs, rfl, hd2, hr⟩ := h2.dic_of rfl
      cases hr
      have hH := s _ _ hd2
      refine .inr ⟨d, .dK [], hH, trivial, fun od => ?_⟩
      refine ⟨_, h1, d, od, rfl, .inl ⟨[], upd_same, ?_⟩⟩
      intro D hD
      have hdD : D ≠ d := fun z => by subst z; rw [upd_same] at hD; cases hD
      have hHD : H D = none := by rw [upd_ne hdD] at hD; exact hD
      refine ⟨fun _ _ H2 => H2 = upd (upd H d (.frz od (.dK []))) D (.lst []), ⟨0, rfl⟩, ?_⟩
      rintro j m H2 rfl
      refine .inl ⟨⟨by rw [upd_ne hdD.symm]; exact upd_same, Nat.zero_le _⟩, ?_⟩
      refine ⟨D, [], rfl, SqL.of upd_same, by rw [upd_ne hdD.symm]; exact upd_same, ?_⟩
      refine q _ _ Hs ⟨?_, Same.refl _, ?_, fun _ h _ => h⟩ (.bl _)
      all_goals
        intro b o z
        try replace z := s _ _ z
        by_cases hb : b = d
        · subst hb
          rw [upd_same]
          rw [hH] at z
          exact z
        · have hbD : b ≠ D := fun y => by subst y; rw [hHD] at z; cases z
          rw [upd_ne hb, upd_ne hbD, upd_ne hb]
          exact z
    · exact .inl ⟨Hs, ev, w, s, re, e, q⟩⟩
end
end Pu

set_option Elab.async false
set_option linter.all false
set_option maxRecDepth 100000
set_option maxHeartbeats 2000000
/-! Calls by name: f(y = e). -/
namespace Pu
open PySem PySem.Spec PyProof.Rows L2
section
variable {X : Cx} {CX : CXT} {k : Nat} {f : Addr} {fd : FuncData} {ps ks : List Str} {sp : Sp} {E : XK} {x : Str} {p pos kpos : Pos} {kws : List Keyword} {tk : TA} {g : List Value → List Value → List Value} {gV : List V → List V → List V}
theorem pe_byName (F : FnOk X.prog X.w X.K X.mg X.base CX k f fd ps sp) (hr : Room k X.A) (hg : Gl X x) (hm : X.mg x = some (.ref f)) (hk : PySem.W.keepIn X.K (.ref f) = true) (hb : KBinds X.K fd ps ks g gV) (hx : Passes CX X E)
    (hkw : PK X kws tk) (hall : (backToKw pos (keywordEach kws X.env)).all (·.1.isSome) = true := by rfl) (hks : (backToKw pos (keywordEach kws X.env)).filterMap (·.1) = ks := by rfl) (hdb : (x == ("__debug__" : Str)) = false := by decide)
    (hpl : ((backTo pos (starEach [] X.env)).any (·.1) || (backToKw pos (keywordEach kws X.env)).any (·.1.isNone)) = false := by rfl) :
    PE X (.Call (.Name x p) [] kws pos) (tCallK sp gV E tNil tk) := by
  refine ⟨fun pins s σ H Q I h => wpAny_Call_Name_kw (ld_glob I hg hm ?_ hdb)⟩
  refine PySem.W.callWith_KW0 (h₀ := X.base) I.ok.mod.kin hk hall (thn (hkw.run pos pins s σ H _ I h) fun ws s2 ⟨zs, H2, I2, rz, q2⟩ => ⟨I2.kIn, ?_⟩) hpl
  rw [hks]
  exact run_fnk F hr hb hx I2 .nil rz q2
end
/-- one parameter, by place or by name -/
def KB1 (K : PySem.W.Frag) (fd : FuncData) (y : Str) : Prop := KBinds K fd [y] [y] (fun us ws => us ++ ws) (fun us ws => us ++ ws)
theorem kb_one {K : PySem.W.Frag} {fd : FuncData} {y : Str} (h : ∀ (s : Shared) (v : Value), BindsTo s fd ⟨[v], []⟩ [(y, v)]) (h2 : ∀ (s : Shared) (v : Value), BindsTo s fd ⟨[], [(y, v)]⟩ [(y, v)]) : KB1 K fd y := by
  refine ⟨fun s us ws _ hl => ?_, fun r z => r.append z⟩
  match us, ws, hl with
  | [v], [], _ => exact h s v
  | [], [v], _ => exact h2 s v
  | [], [], e => simp at e
  | _ :: _ :: _, _, e => simp at e
  | [_], _ :: _, e => simp at e
  | [], _ :: _ :: _, e => simp at e
section
variable {X : Cx}
theorem pu_byName {k : Nat} {f : Addr} {fd : FuncData} {y x : Str} {E : XK} {CX : CXT} {p pos kpos : Pos} {e : Expr} {g : List PyData → Option PyData} {fe : Ev → Option PyData} (F : FnOk X.prog X.w X.K X.mg X.base CX k f fd [y] (spP g)) (hr : Room k X.A) (hg : Gl X x) (hm : X.mg x = some (.ref f)) (hk : PySem.W.keepIn X.K (.ref f) = true) (hb : KB1 X.K fd y) (hx : Passes CX X E)
    (he : PU X e fe) (hall : (backToKw pos (keywordEach [⟨some y, e, kpos⟩] X.env)).all (·.1.isSome) = true := by rfl) (hks : (backToKw pos (keywordEach [⟨some y, e, kpos⟩] X.env)).filterMap (·.1) = [y] := by rfl) (hdb : (x == ("__debug__" : Str)) = false := by decide)
    (hpl : ((backTo pos (starEach [] X.env)).any (·.1) || (backToKw pos (keywordEach [⟨some y, e, kpos⟩] X.env)).any (·.1.isNone)) = false := by rfl) :
    PU X (.Call (.Name x p) [] [⟨some y, e, kpos⟩] pos) (fCall g (fCons fe fNil)) :=
  ⟨conv (pe_byName F hr hg hm hk hb hx (pk_cons he.pe pk_nil) hall hks hdb hpl) fun σ H Q ⟨Hs, ev, w, s, re, e, q⟩ => by
    obtain ⟨ws, e1, e⟩ := bindS e
    obtain ⟨w1, e2, e1⟩ := bindS e1
    cases e1
    refine ⟨Hs, ev, w1, s, re, e2, fun v H1 Hs1 x1 r1 => ?_⟩
    exact ⟨Hs1, [w1], w, x1.sub, .cons r1 .nil, e, fun v H2 Hs2 x2 r2 => q v H2 Hs2 (x1.trans x2) r2⟩⟩
end
end Pu

set_option Elab.async false
set_option linter.all false
set_option maxRecDepth 100000
set_option maxHeartbeats 2000000
/-! A list of the def's own that a comprehension makes, or that comes first of three. -/
namespace Pu
open PySem PySem.Spec PyProof.Rows L2
def tPuO1 (f : Ev → Option PyData) (σ : L2.St) (H : Hp) (Q : VK) : Prop := ∃ (Hs : Hp) (ev : Ev) (w : PyData), Same Hs H ∧ REnv Hs σ ev ∧ f ev = some w ∧
  ∀ (D : Addr) (H' Hs' : Hp) (vs : List V) (out : List PyData), w = .list out → H D = none → Ext H Hs H' Hs' → Hs' D = none → H' D = some (.lst vs) → RpAll Hs' out vs → Q (.ref D) H'
theorem lc_own {fit : Ev → Option (List PyData)} {as : PyData → Option (List PyData)} {is own : List Nat} {ft : Ev → Option Bool} {fe : Ev → Option PyData} {g : TG} {tt : TT} (hg : GPu g is as) (ht : TPu tt ft) (hi : ∀ i ∈ is, i ∈ own) {σ : L2.St} {H : Hp} {Q : VK} (h : tPuO1 (fComp fit as is own ft fe) σ H Q) : tLc (tPuI fit) g tt (tPu fe) own σ H Q := by
  obtain ⟨Hs, ev, w, s, re, e, q⟩ := h
  obtain ⟨ws, e1, e⟩ := bindS e
  split at e
  case isFalse => cases e
  rename_i hsz
  obtain ⟨out, e2, e⟩ := bindS e
  cases e
  refine ⟨Hs, ev, ws, s, re, e1, fun J H1 Hs1 x1 wk D hD => ?_⟩
  have rew : REnv Hs1 (wipe σ own) (wipeE ev own) := (re.mono x1.small).wipe own
  refine ⟨fun i m H => m = ws.length - i ∧ ∃ Hs acc vs, CInv H1 Hs1 D as is ft fe (wipeE ev own) ws out i H Hs acc vs, ⟨ws.length, by simp, Hs1, [], [], ?_⟩, ?_⟩
  · refine ⟨fun b o e => by rw [upd_ne (ne_of_none e hD)]; exact e, Same.refl _, fun b o e => by rw [upd_ne (ne_of_none (x1.sub _ _ e) hD)]; exact x1.sub _ _ e, fun b h _ => h, x1.sub.free hD, upd_same, .nil, Nat.zero_le _, Nat.le_refl _, out, ?_, List.nil_append _⟩
    rw [List.drop_zero]
    exact e2
  · rintro i m H2 ⟨rfl, Hs2, acc, vs, C⟩
    obtain ⟨rest, er, eo⟩ := C.rest
    by_cases hlt : i < ws.length
    · refine .inr ⟨wk.goes i H2 hlt (C.small.trans C.sub), fun H' => ∃ Hs acc vs, CInv H1 Hs1 D as is ft fe (wipeE ev own) ws out (i + 1) H' Hs acc vs, fun H' ⟨Hs', acc', vs', C'⟩ => ⟨ws.length - (i + 1), by omega, rfl, Hs', acc', vs', C'⟩, fun x H3 y => ?_⟩
      obtain ⟨Hs3, w, x3, ew, rw3⟩ := wk.yields i H2 Hs2 x H3 hlt C.small C.sub y
      have ed : ws.drop i = w :: ws.drop (i + 1) := by
        rw [List.drop_eq_getElem_cons hlt]
        have : ws[i] = w := by
          rw [List.getElem?_eq_getElem hlt] at ew
          exact Option.some.inj ew
        rw [this]
      rw [ed] at er
      obtain ⟨us, eu, er⟩ := bindS (show (as w).bind _ = some rest from er)
      obtain ⟨b, eb, er⟩ := bindS er
      refine hg _ H3 Hs3 w x us _ x3.sub rw3 eu fun vs3 rvs => ?_
      have re3 : REnv Hs3 (setAll (wipe σ own) (is.zip vs3)) (setAllE (wipeE ev own) (is.zip us)) := (rew.mono (C.small.trans x3.small)).setAll rvs
      refine ⟨?_, ht _ _ _ ⟨Hs3, _, b, x3.sub, re3, eb, fun H4 Hs4 x4 => ?_⟩⟩
      · rw [wipe_setAll _ _ fun p hp => hi _ (List.of_mem_zip hp).1, wipe_wipe]
      · have x34 := x3.trans x4
        have step : ∀ {H5 Hs5 : Hp}, Ext H2 Hs2 H5 Hs5 → Same H1 H5 ∧ Same Hs1 Hs5 ∧ (∀ b, Hs1 b = none → H1 b ≠ none → Hs5 b = none) ∧ Hs5 D = none ∧ H5 D = some (.lst vs) := fun {H5 Hs5} x =>
          ⟨C.big.trans x.big, C.small.trans x.small, fun b h h' => x.new b (C.new b h h') fun z => h' (C.big.free z), x.new D C.dn (by rw [C.at_]; exact fun z => nomatch z), x.big _ _ C.at_⟩
        cases b with
        | false =>
          rw [if_neg Bool.false_ne_true] at er
          obtain ⟨a1, a2, a3, a4, a5⟩ := step x34
          exact iteF ⟨Hs4, acc, vs, a1, a2, x34.sub, a3, a4, a5, C.rp.mono x34.small, hlt, Nat.le_succ_of_le C.sz, rest, er, eo⟩
        | true =>
          rw [if_pos rfl] at er
          obtain ⟨y5, ey, er⟩ := bindS er
          obtain ⟨ys, eys, er⟩ := bindS er
          cases er
          refine iteT ⟨Hs4, _, y5, x4.sub, re3.mono x4.small, ey, fun v H5 Hs5 x5 r5 => ?_⟩
          have x35 := x34.trans x5
          obtain ⟨a1, a2, a3, a4, a5⟩ := step x35
          have hlen : vs.length = acc.length := (C.rp.len).symm
          refine ⟨vs, a5, by have := C.sz; omega, Hs5, acc ++ [y5], vs ++ [v], ?_⟩
          have nD : ∀ {b : Addr} {o : HO}, Hs5 b = some o → b ≠ D := fun {b o} z => ne_of_none z a4
          refine ⟨fun b o z => ?_, a2, fun b o z => ?_, a3, a4, upd_same, (C.rp.mono x35.small).append (.cons r5 .nil), hlt, ?_, ys, eys, ?_⟩
          · rw [upd_ne (ne_of_none z hD)]; exact a1 _ _ z
          · rw [upd_ne (nD z)]; exact x35.sub _ _ z
          · rw [List.length_append]; have := C.sz; simp; omega
          · rw [List.append_assoc]; exact eo
    · have ei : i = ws.length := by have := C.le; omega
      subst ei
      refine .inl ⟨wk.stops H2 (C.small.trans C.sub), ?_⟩
      rw [List.drop_length] at er
      cases er
      rw [List.append_nil] at eo
      subst eo
      exact q D H2 Hs2 vs _ rfl (x1.big.free hD) ⟨x1.big.trans C.big, x1.small.trans C.small, C.sub, fun b h h' => C.new b (x1.new b h h') fun z => h' (x1.big.free z)⟩ C.dn C.at_ C.rp
/-- the list begins at p, new; and all behind it with the list apart -/
theorem own_go {i : Nat} {p : Addr} {G : Ev → Option OutB} {D : Ends} {σ σ' : L2.St} {H Hs H' Hs' : Hp} {ev' : Ev} {o : Out} {out : List PyData} {vs : List V}
    (e : (G ev').bind (outB i) = some o) (q : OutK D σ H Hs o) (hp : H p = none) (x : Ext H Hs H' Hs') (pn : Hs' p = none) (at_ : H' p = some (.lst vs)) (rp : RpAll Hs' out vs)
    (env : REnv Hs' σ' (ev'.set i none)) (he : ev'[i]? = some (some (.list out))) (hs : σ'[i]? = some (some (.ref p))) (hl : σ'.length = σ.length) : tPuB i G D σ' H' := by
  obtain ⟨o1, e1, e2⟩ := bindS e
  refine ⟨p, Hs', ev', o1, out, vs, ⟨x.sub, env, he, hs, at_, pn, rp⟩, e1, ?_⟩
  have k2 : OutKB i p D σ' (upd H p (.lst vs)) Hs o1 := OutKB.toK e2 hp rfl hl q
  refine k2.later ⟨fun b u hb z => ?_, x.small, x.sub, pn, fun b hb hn => ?_⟩ rfl
  · rw [upd_ne hb] at z
    exact x.big b u z
  · by_cases h : b = p
    · rw [h]; exact pn
    · rw [upd_ne h] at hn
      exact x.new b hb hn
section
variable {X : Cx}
def fOwnLc (i : Nat) (f : Ev → Option PyData) (G : Ev → Option OutB) : Ev → Option Out := fun ev => (f ev).bind fun w => if i < ev.length then (G (ev.set i (some w))).bind (outB i) else none
theorem puss_ownLc {i : Nat} {y : Str} {py : Pos} {elt tg iter : Expr} {ifs : List Expr} {scope : Scope} {own : List (Str × Nat)} {pos spos : Pos} {fit : Ev → Option (List PyData)} {as : PyData → Option (List PyData)} {is : List Nat} {ft : Ev → Option Bool} {fe : Ev → Option PyData} {g : TG} {tt : TT} {sts : List Stmt} {G : Ev → Option OutB}
    (hc : X.calm = true) (hN : X.N.Nodup) (hy : X.N[i]? = some y) (hyl : X.env.scope.names.lookup y = some .local)
    (hsw : swapsWith (.ListComp elt [⟨tg, iter, ifs, 0⟩] scope pos) (some (.Name y py)) spos.line X.env = pure true) (hi : PUI X tg iter fit) (ok : BlkOk X.N X.env.scope scope own) (gp : GPu g is as) (tp : TPu tt ft) (hown : ∀ i ∈ is, i ∈ own.map (·.2))
    (hg : ∀ (s : Shared) (H : Hp) (C : Addr) (cl : List (Str × Addr)) (fp : List Addr), PG (X.blk s H scope (compEnvC scope cl C X.env) fp) tg g) (ht : ∀ (s : Shared) (H : Hp) (C : Addr) (cl : List (Str × Addr)) (fp : List Addr), PTs (X.blk s H scope (compEnvC scope cl C X.env) fp) ifs tt)
    (he : ∀ (s : Shared) (H : Hp) (C : Addr) (cl : List (Str × Addr)) (fp : List Addr), PU (X.blk s H scope (compEnvC scope cl C X.env) fp) elt fe) (hr : PUBs X i sts G) (hs : ∀ x, foldedSetIterable iter X.env x = pure x := by intro _; rfl) :
    PUSs X (.Assign [.Name y py] (.ListComp elt [⟨tg, iter, ifs, 0⟩] scope pos) spos :: sts) (fOwnLc i (fComp fit as is (own.map (·.2)) ft fe) G) :=
  ⟨convSs (pss_cons (ps_setLc hc hN hy hyl hsw hi.pi ok hg ht (fun s H C cl fp => (he s H C cl fp).pe) hs) hr.pss) fun D σ H ⟨Hs, ev, o, s, re, e, q⟩ => by
    obtain ⟨w, e1, e⟩ := bindS e
    split at e
    case isFalse => cases e
    rename_i hlt
    refine lc_own gp tp hown (Q := fun x H1 => gName i x σ H1 fun σ' H' => tPuB i G D σ' H') ⟨Hs, ev, w, s, re, e1, fun p H' Hs' vs out ew hp x pn at_ rp => ?_⟩
    subst ew
    have le := re.le
    refine own_go e q hp x pn at_ rp ?_ (by rw [List.getElem?_set_self hlt]) (by rw [List.getElem?_set_self (by omega)]) (by rw [List.length_set])
    rw [List.set_set]
    exact (re.mono x.small).unset⟩
/-- own, b, c = [], e2, e3 -/
def fOwn3a (i j l : Nat) (fa fc : Ev → Option PyData) (G : Ev → Option OutB) : Ev → Option Out := fun ev => (fa ev).bind fun u => (fc ev).bind fun w => if i < ev.length then (G (((ev.set i (some (.list []))).set j (some u)).set l (some w))).bind (outB i) else none
theorem puss_own3a {i j l : Nat} {x y z : Str} {a c : Expr} {fa fc : Ev → Option PyData} {G : Ev → Option OutB} {sts : List Stmt} {px py pz pt pos lp : Pos} {kt k2 pt2} (hN : X.N.Nodup) (hi : X.N[i]? = some y) (hj : X.N[j]? = some x) (hl : X.N[l]? = some z) (hij : i ≠ j) (hil : i ≠ l) (hjl : j ≠ l)
    (hy : X.env.scope.names.lookup y = some .local) (hx : X.env.scope.names.lookup x = some .local) (hz : X.env.scope.names.lookup z = some .local) (ha : PU X a fa) (hc' : PU X c fc) (hr : PUBs X i sts G)
    (hs1 : starEach [.List [] lp, a, c] X.env = (false, eval (.List [] lp) X.env) :: starEach [a, c] X.env := by rfl) (hs2 : starEach [a, c] X.env = (false, eval a X.env) :: starEach [c] X.env := by rfl) (hs3 : starEach [c] X.env = (false, eval c X.env) :: starEach [] X.env := by rfl)
    (hc : X.calm = true := by rfl) (hw : swappedStores [.Tuple [.Name y py, .Name x px, .Name z pz] kt pt] (.Tuple [.List [] lp, a, c] k2 pt2) X.env = pure (some [y, x, z]) := by rfl) (hs : swapsWithSole [.Tuple [.Name y py, .Name x px, .Name z pz] kt pt] (.Tuple [.List [] lp, a, c] k2 pt2) pos.line X.env = pure false := by rfl) :
    PUSs X (.Assign [.Tuple [.Name y py, .Name x px, .Name z pz] kt pt] (.Tuple [.List [] lp, a, c] k2 pt2) pos :: sts) (fOwn3a i j l fa fc G) :=
  ⟨convSs (pss_cons (ps_par3 hc hN hi hj hl hij hil hjl hy hx hz (pa_cons (pe_lst pa_nil) (pa_cons ha.pe (pa_cons hc'.pe pa_nil hs3) hs2) hs1) hw hs) hr.pss) fun D σ H ⟨Hs, ev, o, s, re, e, q⟩ => by
    obtain ⟨u, e1, e⟩ := bindS e
    obtain ⟨w, e2, e⟩ := bindS e
    split at e
    case isFalse => cases e
    rename_i hlt
    refine ⟨Nat.zero_le _, fun p hp => ?_⟩
    have hsn : Hs p = none := s.free hp
    have sub2 : Same Hs (upd H p (.lst [])) := fun b o z => by rw [upd_ne (ne_of_none (s _ _ z) hp)]; exact s _ _ z
    refine ⟨Hs, ev, u, sub2, re, e1, fun v H1 Hs1 x1 r1 => ⟨Hs1, ev, w, x1.sub, re.mono x1.small, e2, fun v2 H3 Hs3 x3 r3 => ?_⟩⟩
    refine ⟨.ref p, v, v2, rfl, ?_⟩
    have x13 := x1.trans x3
    have hp3 : H3 p = some (.lst []) := x13.big _ _ upd_same
    have hs3n : Hs3 p = none := x13.new p hsn (by rw [upd_same]; exact fun z => nomatch z)
    have le := re.le
    have ex : Ext H Hs H3 Hs3 := ⟨fun b o z => x13.big b o (by rw [upd_ne (ne_of_none z hp)]; exact z), x13.small, x13.sub, fun b hb hn => by
      by_cases h : b = p
      · rw [h]; exact hs3n
      · exact x13.new b hb (by rw [upd_ne h]; exact hn)⟩
    refine own_go (out := []) (vs := []) e q hp ex hs3n hp3 .nil ?_ ?_ ?_ (by simp)
    · have e5 : ((((ev.set i (some (PyData.list []))).set j (some u)).set l (some w)).set i none) = ((ev.set i none).set j (some u)).set l (some w) := by
        rw [List.set_comm _ _ (Ne.symm hil), List.set_comm _ _ (Ne.symm hij), List.set_set]
      rw [e5]
      exact ((((re.mono ex.small).unset).set (r1.mono x3.small)).set r3)
    · rw [List.getElem?_set_ne (Ne.symm hil), List.getElem?_set_ne (Ne.symm hij), List.getElem?_set_self hlt]
    · rw [List.getElem?_set_ne (Ne.symm hil), List.getElem?_set_ne (Ne.symm hij), List.getElem?_set_self (by omega)]⟩
end
end Pu

set_option Elab.async false
set_option linter.all false
set_option maxRecDepth 100000
set_option maxHeartbeats 2000000
/-! a, b = e1, e2 while a list is apart; in a list of things; sorted of pairs of a text and a number. -/
namespace Pu
open PySem PySem.Spec PyProof.Rows L2
section
variable {X : Cx}
def fParB2 (i j l : Nat) (fs : Ev → Option (List PyData)) : Ev → Option OutB := fun ev => (evBA i fs ev).bind fun ws => match ws with | [u, v] => some (.nx ((ev.set j (some u)).set l (some v))) | _ => none
theorem pub_par2 {i j l : Nat} {x y : Str} {a b : Expr} {fs : Ev → Option (List PyData)} {px py pt pos : Pos} {kt k2 pt2} (hij : i ≠ j) (hil : i ≠ l) (hN : X.N.Nodup) (hj : X.N[j]? = some x) (hl : X.N[l]? = some y) (hjl : j ≠ l) (hx : X.env.scope.names.lookup x = some .local) (hy : X.env.scope.names.lookup y = some .local) (ha : PUA X [a, b] fs)
    (hc : X.calm = true := by rfl) (hw : swappedStores [.Tuple [.Name x px, .Name y py] kt pt] (.Tuple [a, b] k2 pt2) X.env = pure (some [x, y]) := by rfl) (hs : swapsWithSole [.Tuple [.Name x px, .Name y py] kt pt] (.Tuple [a, b] k2 pt2) pos.line X.env = pure false := by rfl) :
    PUB X i (.Assign [.Tuple [.Name x px, .Name y py] kt pt] (.Tuple [a, b] k2 pt2) pos) (fParB2 i j l fs) :=
  ⟨convS (ps_par hc hN hj hl hjl hx hy ha.pa hw hs) fun D σ H ⟨p, Hs, ev, o, ws, vs, B, e, q⟩ => by
    obtain ⟨us, e1, e⟩ := bindS e
    split at e
    · cases e
      refine evBA_use B e1 fun xs H1 Hs1 x1 B1 r => ?_
      obtain ⟨v, z, rfl, r1, r2⟩ := r.two
      exact ⟨v, z, rfl, q _ H1 Hs1 ws vs x1 ((B1.set hij r1).set hil r2) (by rw [List.length_set, List.length_set])⟩
    · cases e⟩
/-- x in a list of things -/
def gInP : PyData → PyData → Option Bool
  | d, .list ds => if SeqAt.shaped d && SeqAt.shaped (.list ds) && d.plain && PyData.plainAll ds then some (ds.any fun z => PyData.eqv z d) else none
  | _, _ => none
def gNiP (a b : PyData) : Option Bool := (gInP a b).map (! ·)
theorem inP_use {K : PySem.W.Frag} {a b : PyData} {k : Bool} {x y : V} {H Hs : Hp} (s : Same Hs H) (ra : Rp Hs a x) (rb : Rp Hs b y) (e : gInP a b = some k) : ∃ ds, Dp K H x a ∧ Dp K H y (.list ds) ∧ SeqAt.shaped a = true ∧ SeqAt.shaped (.list ds) = true ∧ (ds.any fun z => PyData.eqv z a) = k := by
  unfold gInP at e
  split at e
  · rename_i ds
    split at e
    · rename_i h
      cases e
      rw [Bool.and_eq_true, Bool.and_eq_true, Bool.and_eq_true] at h
      exact ⟨ds, (ra.mono s).dp h.1.2, (rb.mono s).dp (by unfold PyData.plain; exact h.2), h.1.1.1, h.1.1.2, rfl⟩
    · cases e
  · cases e
theorem g_inP {K : PySem.W.Frag} : GCmp (rInD K) gInP := fun a b k x y H Hs Q s ra rb e q => by
  obtain ⟨ds, h1, h2, h3, h4, h5⟩ := inP_use (K := K) s ra rb e
  exact ⟨a, ds, h1, h2, h3, h4, by rw [h5]; exact q⟩
theorem g_niP {K : PySem.W.Frag} : GCmp (rNotInD K) gNiP := fun a b k x y H Hs Q s ra rb e q => by
  obtain ⟨ds, h1, h2, h3, h4, h5⟩ := inP_use (K := K) s ra rb (map_not e)
  exact ⟨a, ds, h1, h2, h3, h4, by rw [h5, Bool.not_not]; exact q⟩
end
/-! ### the order of pairs of a text and a number -/
def ltSI (p q : Str × Int) : Bool := if p.1 = q.1 then decide (p.2 < q.2) else decide (p.1.cps.toList < q.1.cps.toList)
theorem str_ext {a b : Str} (h : a.cps.toList = b.cps.toList) : a = b := by
  cases a; cases b
  simp only [Str.mk.injEq]
  exact Array.ext' h
theorem ltSI_iff {p q : Str × Int} : ltSI p q = true ↔ p.1.cps.toList < q.1.cps.toList ∨ (p.1 = q.1 ∧ p.2 < q.2) := by
  unfold ltSI
  by_cases e : p.1 = q.1
  · rw [if_pos e, decide_eq_true_eq]
    constructor
    · exact fun h => .inr ⟨e, h⟩
    · rintro (h | h)
      · rw [e] at h; exact absurd h (List.lt_irrefl _)
      · exact h.2
  · rw [if_neg e, decide_eq_true_eq]
    constructor
    · exact fun h => .inl h
    · rintro (h | h)
      · exact h
      · exact absurd h.1 e
theorem swo_SI : SrtO.Swo ltSI := by
  refine ⟨fun x y h => ?_, fun x y z h1 h2 => ?_⟩
  · rw [Bool.eq_false_iff]
    intro h'
    rcases ltSI_iff.mp h with a | ⟨a, a2⟩ <;> rcases ltSI_iff.mp h' with b | ⟨b, b2⟩
    · exact List.lt_irrefl _ (List.lt_trans a b)
    · rw [b] at a; exact List.lt_irrefl _ a
    · rw [a] at b; exact List.lt_irrefl _ b
    · omega
  · rw [Bool.eq_false_iff] at h1 h2 ⊢
    intro h'
    rcases ltSI_iff.mp h' with a | ⟨a, a2⟩
    · have n1 : ¬ y.1.cps.toList < x.1.cps.toList := fun w => h1 (ltSI_iff.mpr (.inl w))
      have n2 : ¬ z.1.cps.toList < y.1.cps.toList := fun w => h2 (ltSI_iff.mpr (.inl w))
      exact absurd (List.lt_of_le_of_lt (List.le_trans (List.not_lt.mp n1) (List.not_lt.mp n2)) a) (List.lt_irrefl _)
    · have n1 : ¬ y.1.cps.toList < x.1.cps.toList := fun w => h1 (ltSI_iff.mpr (.inl w))
      have n2 : ¬ z.1.cps.toList < y.1.cps.toList := fun w => h2 (ltSI_iff.mpr (.inl w))
      rw [a] at n2
      have e : x.1 = y.1 := str_ext (List.le_antisymm (List.not_lt.mp n1) (List.not_lt.mp n2))
      have m1 : ¬ y.2 < x.2 := fun w => h1 (ltSI_iff.mpr (.inr ⟨e.symm, w⟩))
      have m2 : ¬ z.2 < y.2 := fun w => h2 (ltSI_iff.mpr (.inr ⟨a.trans e, w⟩))
      omega
theorem swo_by {α : Type} (k : α → Str × Int) : SrtO.Swo fun x y => ltSI (k x) (k y) := ⟨fun x y h => swo_SI.1 (k x) (k y) h, fun x y z h1 h2 => swo_SI.2 (k x) (k y) (k z) h1 h2⟩
/-! ### sorted of such pairs -/
/-- v is a tuple of a text and a number in the heap -/
def IsSI (h : Heap) (v : Value) (p : Str × Int) : Prop := ∃ a o t u n, v = .ref a ∧ h.get? a = some o ∧ o.cls = .type "tuple" ∧ o.data = .seq #[.str p.1 t, .int p.2 u] n
theorem IsSI.keeps {h h' : Heap} {v : Value} {p : Str × Int} (q : IsSI h v p) (k : ∀ b o, h.get? b = some o → o.cls = .type "tuple" → h'.get? b = some o) : IsSI h' v p := by
  obtain ⟨a, o, t, u, n, e, ho, hc, hd⟩ := q
  exact ⟨a, o, t, u, n, e, k _ _ ho hc, hc, hd⟩
section
variable {prog : Program} {w : World} {A : Around} {E : Value → Shared → Prop} {s : Shared}
open SrtO in
theorem si_cmp {vs : List Value} {k : Value → Str × Int} (hp : ∀ v ∈ vs, IsSI s.heap v (k v)) : Cmp prog w A s (tuples' true) (fun p => p.1 ∈ vs) (lt2 fun v u => ltSI (k v) (k u)) := by
  intro p q hm hm'
  have h1 := hp _ hm
  have h2 := hp _ hm'
  show wpAny (model prog w) A (keyLt' (tuples' true) p.1 q.1) (fun r s' => s' = s ∧ r = ltSI (k p.1) (k q.1)) (fun _ _ => False) s
  unfold ltSI
  unfold IsSI at h1 h2
  generalize (k p.1).1 = x at h1 ⊢
  generalize (k p.1).2 = y at h1 ⊢
  generalize (k q.1).1 = x' at h2 ⊢
  generalize (k q.1).2 = y' at h2 ⊢
  obtain ⟨a, o, t, u, n, e, ho, hc, hd⟩ := h1
  obtain ⟨a', o', t', u', n', e', ho', hc', hd'⟩ := h2
  rw [e, e']
  refine PySem.W.kat_lt ho hd ho' hd' ?_
  show PySem.W.KatLex prog w A true (decide (2 < 2)) _ [(.str x t, .str x' t'), (.int y u, .int y' u')] 0 s
  refine PySem.W.kat_cons (SeqAt.EqAt.str_str x t x' t' prog w _ _ ?_)
  refine PySem.W.kat_go (fun e1 => ?_) (fun e1 => ?_)
  · have ex : x = x' := by simpa using e1
    refine PySem.W.kat_yes (PySem.W.kat_cons (SeqAt.EqAt.int_int y u y' u' prog w _ _ ?_))
    refine PySem.W.kat_go (fun e2 => ?_) (fun e2 => ?_)
    · have ey : y = y' := by simpa using e2
      have e3 : (if x = x' then decide (y < y') else decide (x.cps.toList < x'.cps.toList)) = false := by
        rw [if_pos ex, ey]
        exact decide_eq_false (Int.lt_irrefl _)
      exact PySem.W.kat_yes (PySem.W.kat_nil ⟨rfl, e3.symm⟩)
    · have e3 : (if x = x' then decide (y < y') else decide (x.cps.toList < x'.cps.toList)) = decide (y < y') := if_pos ex
      refine PySem.W.kat_no (PySem.W.kat_one _ _ (PyProof.Rows.lt_int ?_))
      exact (show s = s ∧ decide (y < y') = (if x = x' then decide (y < y') else decide (x.cps.toList < x'.cps.toList)) from ⟨rfl, e3.symm⟩)
  · have ex : ¬ x = x' := by simpa using e1
    have e3 : (if x = x' then decide (y < y') else decide (x.cps.toList < x'.cps.toList)) = decide (x.cps.toList < x'.cps.toList) := if_neg ex
    exact PySem.W.kat_no (oneLt_any_str ⟨rfl, e3.symm⟩)
theorem tups_SI {h : Heap} : ∀ {vs : List Value} {k : Value → Str × Int}, (∀ v ∈ vs, IsSI h v (k v)) → ∃ fs, fs.length = vs.length ∧ TupsOf h (fun i => i == 0) vs fs
  | [], _, _ => ⟨[], rfl, .nil⟩
  | v :: vs, k, hp => by
    obtain ⟨fs, h1, h2⟩ := tups_SI (vs := vs) (k := k) fun u hu => hp u (List.mem_cons_of_mem _ hu)
    obtain ⟨a, o, t, u, n, e, ho, hc, hd⟩ := hp v List.mem_cons_self
    exact ⟨.str (k v).1 t :: fs, by rw [List.length_cons, List.length_cons, h1], .cons ⟨a, o, _, n, e, ho, hc, hd, rfl, (fun z => by simp at z), fun _ => ⟨_, _, rfl⟩⟩ h2⟩
open SrtO in
theorem si_sortable {a : Addr} {vs : List Value} {k : Value → Str × Int} (h0 : 0 < vs.length) (hp : ∀ v ∈ vs, IsSI s.heap v (k v)) (ha : ∀ o, s.heap.get? a = some o → o.cls ≠ .type "tuple") : SortableO prog w A s a vs fun v u => ltSI (k v) (k u) := by
  intro h' keep
  have hp' : ∀ v ∈ vs, IsSI h' v (k v) := fun v hm => (hp v hm).keeps fun b o e c => keep b o (fun z => by subst z; exact ha o e c) e
  obtain ⟨fs, h1, h2⟩ := tups_SI hp'
  exact ⟨tuples' true, fun Q E hq => tup_kind (s := { s with heap := h' }) (by omega) h2 hq, si_cmp hp'⟩
open SrtO in
theorem sorted_SI {l : Addr} {vs : List Value} {k : Value → Str × Int} {Q : Value → Shared → Prop} (hl : s.heap.IsList l vs.toArray) (hz : vs.length ≤ sizeLine) (hp : ∀ v ∈ vs, IsSI s.heap v (k v))
    (h : ∀ (h' : Heap) (d : Addr) (out : List Value), Srtd (fun v u => ltSI (k v) (k u)) out → Stb (fun v u => ltSI (k v) (k u)) out vs → (∀ b o, s.heap.get? b = some o → h'.get? b = some o) → s.heap.objs.size ≤ d → (∃ n, h'.get? d = some (seqObj "list" out.toArray n)) → Q (.ref d) { s with heap := h' }) :
    wpAny (model prog w) A (call (.builtin "sorted") [.ref l]) Q E s := by
  refine sorted_ord (swo_by k) hl hz (fun h2 h₁ a ha kk => ?_) fun out hs hb => ?_
  · refine si_sortable (s := { s with heap := h₁ }) (by omega) (fun v hm => (hp v hm).keeps fun b o e _ => (kk b o e).2) fun o e => ?_
    have e' : some o = some (seqObj "list" vs.toArray 0) := e.symm.trans ha
    cases e'
    intro c
    exact absurd (Value.type.inj c) (by decide)
  · exact h _ _ out hs hb (fun b o e => sortedAll_old e) (Nat.le_succ _) (sortedAll_at s.heap vs out.toArray)
end
def rSortSI (K : PySem.W.Frag) : List V → Hp → VK → Prop := fun vs H Q => ∃ (a : Addr) (xs : List V) (k : V → Str × Int), vs = [V.ref a] ∧ SqL K H a xs ∧ (∀ x ∈ xs, ∃ t, x = V.ref t ∧ H t = some (.tup [.str (k x).1, .int (k x).2])) ∧
  ∀ ys p, SrtO.Srtd (fun x y => ltSI (k x) (k y)) ys → SrtO.Stb (fun x y => ltSI (k x) (k y)) ys xs → H p = none → Q (.ref p) (upd H p (.lst ys))
theorem cr_sortSI {X : Cx} : CallR X (.builtin "sorted") (rSortSI X.K) := by
  intro pins s σ H vs us Q I r h
  obtain ⟨a, xs, k, rfl, hs, hx, q⟩ := h
  obtain ⟨its, rv, hl, hz⟩ := I.list hs
  obtain ⟨u, rfl, ru⟩ := vals1 r
  obtain rfl : u = Value.ref a := ru
  obtain ⟨e1, e2⟩ := refs_back rv fun x m => by
    obtain ⟨t, e, _⟩ := hx x m
    exact ⟨t, e⟩
  refine sorted_SI (k := fun u => k (backV u)) hl.isList (by rw [← rv.length]; exact hz) (fun v hv => ?_) fun h' d out h1 h2 kp hd hn => ?_
  · obtain ⟨t, rfl⟩ := e2 v hv
    have hm : V.ref t ∈ xs := by rw [e1]; exact List.mem_map.mpr ⟨_, hv, rfl⟩
    obtain ⟨t', e, ht⟩ := hx _ hm
    cases e
    obtain ⟨_, its2, r2, o, ho, hc, n, hd⟩ := I.hok _ _ ht
    obtain ⟨u1, u2, rfl, ri, rj⟩ := vals2 r2
    obtain ⟨t1, rfl⟩ := ri
    obtain ⟨t2, rfl⟩ := rj
    exact ⟨t, o, t1, t2, n, rfl, ho, hc, hd⟩
  · have h3 : ∀ u ∈ out, ∃ a, u = Value.ref a := fun u hu => e2 u (h2.perm.mem_iff.mp hu)
    obtain ⟨n, hn⟩ := hn
    have hb : SrtO.Stb (fun x y => ltSI (k x) (k y)) (out.map backV) xs := by
      rw [e1]
      exact SrtO.Stb.map (swo_by k) backV h2
    refine ⟨.ref d, upd H d (.lst (out.map backV)), I.laid (t' := s.toks) kp hd ⟨?_, out, n, vals_back h3, hn⟩, rfl, q _ d (SrtO.srtd_map h1) hb (I.hok.fresh hd)⟩
    rw [hb.len]
    exact hz
end Pu

set_option Elab.async false
set_option linter.all false
set_option maxRecDepth 100000
set_option maxHeartbeats 2000000
/-! sorted of pairs as a pure call; list(x); an expression as a statement; the own list let go. -/
namespace Pu
open PySem PySem.Spec PyProof.Rows L2
theorem u65 {k : Nat} {A : Around} (r : Room k A) : A.units + 65 < cLine := by have := r.un; omega
theorem bootSorted : bootBuiltins "sorted" = some (.builtin "sorted") := by decide +kernel
def siD (p : Str × Int) : PyData := .tuple [.str p.1, .int p.2]
def asSI : PyData → Option (Str × Int)
  | .tuple [.str a, .int b] => some (a, b)
  | _ => none
theorem asSI_some {d : PyData} {p : Str × Int} (h : asSI d = some p) : d = siD p := by
  unfold asSI at h
  split at h
  · cases h; rfl
  · cases h
def asSIs : List PyData → Option (List (Str × Int))
  | [] => some []
  | d :: ds => (asSI d).bind fun p => (asSIs ds).bind fun ps => some (p :: ps)
theorem asSIs_of (ps : List (Str × Int)) : asSIs (ps.map siD) = some ps := by
  induction ps with
  | nil => rfl
  | cons p ps ih =>
    show (asSI (siD p)).bind _ = _
    show (asSIs (ps.map siD)).bind (fun ps => some (p :: ps)) = _
    rw [ih]
    rfl
def insSI (p : Str × Int) : List (Str × Int) → List (Str × Int)
  | [] => [p]
  | q :: r => if ltSI q p = true then q :: insSI p r else p :: q :: r
def sortSI : List (Str × Int) → List (Str × Int)
  | [] => []
  | p :: ps => insSI p (sortSI ps)
theorem insSI_perm (p : Str × Int) : ∀ l, (insSI p l).Perm (p :: l)
  | [] => List.Perm.refl _
  | q :: r => by
    unfold insSI
    split
    · exact ((insSI_perm p r).cons q).trans (List.Perm.swap p q r)
    · exact List.Perm.refl _
theorem sortSI_perm : ∀ l, (sortSI l).Perm l
  | [] => List.Perm.refl _
  | p :: ps => (insSI_perm p (sortSI ps)).trans ((sortSI_perm ps).cons p)
theorem insSI_srtd (p : Str × Int) : ∀ {l}, SrtO.Srtd ltSI l → SrtO.Srtd ltSI (insSI p l)
  | [], _ => List.pairwise_singleton _ _
  | q :: r, h => by
    obtain ⟨h1, h2⟩ := List.pairwise_cons.mp h
    unfold insSI
    split
    · rename_i hq
      refine List.pairwise_cons.mpr ⟨fun y hy => ?_, insSI_srtd p h2⟩
      rcases List.mem_cons.mp ((insSI_perm p r).mem_iff.mp hy) with rfl | hy
      · exact swo_SI.1 _ _ hq
      · exact h1 y hy
    · rename_i hq
      have hq : ltSI q p = false := Bool.eq_false_iff.mpr hq
      refine List.pairwise_cons.mpr ⟨fun y hy => ?_, h⟩
      rcases List.mem_cons.mp hy with rfl | hy
      · exact hq
      · exact swo_SI.2 _ _ _ hq (h1 y hy)
theorem sortSI_srtd : ∀ l, SrtO.Srtd ltSI (sortSI l)
  | [] => List.Pairwise.nil
  | p :: ps => insSI_srtd p (sortSI_srtd ps)
theorem eqv_SI {x y : Str × Int} (h : SrtO.eqv ltSI x y = true) : y = x := by
  obtain ⟨h1, h2⟩ := SrtO.eqv_iff.mp h
  have n1 : ¬ x.1.cps.toList < y.1.cps.toList := fun w => by rw [ltSI_iff.mpr (.inl w)] at h1; cases h1
  have n2 : ¬ y.1.cps.toList < x.1.cps.toList := fun w => by rw [ltSI_iff.mpr (.inl w)] at h2; cases h2
  have e : x.1 = y.1 := str_ext (List.le_antisymm (List.not_lt.mp n2) (List.not_lt.mp n1))
  have m1 : ¬ x.2 < y.2 := fun w => by rw [ltSI_iff.mpr (.inr ⟨e, w⟩)] at h1; cases h1
  have m2 : ¬ y.2 < x.2 := fun w => by rw [ltSI_iff.mpr (.inr ⟨e.symm, w⟩)] at h2; cases h2
  exact Prod.ext e.symm (by omega)
theorem stb_of_perm {l m : List (Str × Int)} (h : l.Perm m) : SrtO.Stb ltSI l m := ⟨h, fun x => by
  have rep : ∀ k : List (Str × Int), k.filter (SrtO.eqv ltSI x) = List.replicate (k.filter (SrtO.eqv ltSI x)).length x := fun k =>
    List.eq_replicate_iff.mpr ⟨rfl, fun y hy => eqv_SI (List.mem_filter.mp hy).2⟩
  rw [rep l, rep m, (h.filter _).length_eq]⟩
/-- a sorted rearrangement is the sorted list -/
theorem sortSI_uniq {l m : List (Str × Int)} (hs : SrtO.Srtd ltSI l) (hp : l.Perm m) : l = sortSI m :=
  SrtO.stb_uniq swo_SI hs (sortSI_srtd m) (stb_of_perm (hp.trans (sortSI_perm m).symm))
def gSortSI : List PyData → Option PyData
  | [.list ds] => (asSIs ds).map fun ps => .list ((sortSI ps).map siD)
  | _ => none
def keySI (H : Hp) : V → Str × Int
  | .ref t => match H t with
    | some (.tup [.str a, .int b]) => (a, b)
    | _ => ("", 0)
  | _ => ("", 0)
theorem keySI_of {H : Hp} {d : PyData} {p : Str × Int} {v : V} (r : Rp H d v) (h : asSI d = some p) : keySI H v = p ∧ ∃ t, v = .ref t ∧ H t = some (.tup [.str p.1, .int p.2]) := by
  have e := asSI_some h
  subst e
  obtain ⟨t, xs, rfl, ht, rr⟩ := r.tup_of
  obtain ⟨x, y, rfl, rx, ry⟩ := rr.two
  obtain rfl := rx.str_of
  obtain rfl := ry.int_of
  refine ⟨?_, t, rfl, ht⟩
  show (match H t with | some (.tup [.str a, .int b]) => (a, b) | _ => ("", 0)) = p
  rw [ht]
theorem keysSI {H : Hp} : ∀ {ds : List PyData} {xs : List V} {ps : List (Str × Int)}, RpAll H ds xs → asSIs ds = some ps → xs.map (keySI H) = ps ∧ ∀ x ∈ xs, ∃ t, x = .ref t ∧ H t = some (.tup [.str (keySI H x).1, .int (keySI H x).2])
  | _, _, _, .nil, h => by
    cases h
    exact ⟨rfl, fun x hx => nomatch hx⟩
  | _, _, ps, .cons (d := d) (v := v) r t, h => by
    obtain ⟨p, h1, h⟩ := bindS h
    obtain ⟨ps', h2, h⟩ := bindS h
    cases h
    obtain ⟨e1, t1, e2, e3⟩ := keySI_of r h1
    obtain ⟨e4, e5⟩ := keysSI t h2
    refine ⟨by rw [List.map_cons, e1, e4], fun x hx => ?_⟩
    rcases List.mem_cons.mp hx with rfl | hx
    · exact ⟨t1, e2, by rw [e1]; exact e3⟩
    · exact e5 x hx
theorem rp_keys {H : Hp} : ∀ {ys : List V}, (∀ y ∈ ys, ∃ t, y = .ref t ∧ H t = some (.tup [.str (keySI H y).1, .int (keySI H y).2])) → RpAll H ((ys.map (keySI H)).map siD) ys
  | [], _ => .nil
  | y :: ys, h => by
    obtain ⟨t, e, ht⟩ := h y List.mem_cons_self
    refine .cons ?_ (rp_keys fun z hz => h z (List.mem_cons_of_mem _ hz))
    have : Rp H (siD (keySI H y)) (.ref t) := .tup ht (.cons (.str _) (.cons (.int _) .nil))
    rw [← e] at this
    exact this
theorem gc_sortSI {K : PySem.W.Frag} : GCall (rSortSI K) gSortSI := fun ws w xs H Hs Q s r e q => by
  unfold gSortSI at e
  split at e
  · obtain ⟨ps, e1, e2⟩ := Option.map_eq_some_iff.mp e
    subst e2
    obtain ⟨v, rfl, r1⟩ := r.one
    obtain ⟨a, vs, rfl, ha, r2⟩ := r1.lst_of
    obtain ⟨k1, k2⟩ := keysSI r2 e1
    refine ⟨a, vs, keySI Hs, rfl, SqL.of (s _ _ ha), fun x hx => ?_, fun ys p hs hb hp => ?_⟩
    · obtain ⟨t, h1, h2⟩ := k2 x hx
      exact ⟨t, h1, s _ _ h2⟩
    · have hm : SrtO.Srtd ltSI (ys.map (keySI Hs)) := List.pairwise_map.mpr hs
      have hpm : (ys.map (keySI Hs)).Perm ps := by rw [← k1]; exact hb.perm.map _
      have e3 := sortSI_uniq hm hpm
      have r3 := rp_keys (H := Hs) (ys := ys) fun y hy => k2 y (hb.perm.mem_iff.mp hy)
      rw [e3] at r3
      exact q _ _ _ ((Ext.refl s).laid hp _) (Rp.newL (s.free hp) r3)
  · cases e
/-! ### list(x) -/
def gList : List PyData → Option PyData
  | [.list ds] => some (.list ds)
  | [.tuple ds] => some (.list ds)
  | _ => none
theorem gc_list {K : PySem.W.Frag} : GCall (fun xs H Q => ∃ p ys, xs = [.ref p] ∧ (SqL K H p ys ∨ SqT K H p ys) ∧ ∀ l, H l = none → Q (.ref l) (upd H l (.lst ys))) gList := fun ws w xs H Hs Q s r e q => by
  unfold gList at e
  split at e
  · cases e
    obtain ⟨v, rfl, r1⟩ := r.one
    obtain ⟨a, vs, rfl, h, r2⟩ := r1.lst_of
    exact ⟨a, vs, rfl, .inl (SqL.of (s _ _ h)), fun l hl => q _ _ _ ((Ext.refl s).laid hl _) (Rp.newL (s.free hl) r2)⟩
  · cases e
    obtain ⟨v, rfl, r1⟩ := r.one
    obtain ⟨a, vs, rfl, h, r2⟩ := r1.tup_of
    exact ⟨a, vs, rfl, .inr (SqT.of (s _ _ h)), fun l hl => q _ _ _ ((Ext.refl s).laid hl _) (Rp.newL (s.free hl) r2)⟩
  · cases e
section
variable {X : Cx} {i : Nat}
def fExp (f : Ev → Option PyData) : Ev → Option Out := fun ev => (f ev).bind fun _ => some (.nx ev)
theorem pus_exp {e : Expr} {f : Ev → Option PyData} {pos : Pos} (h : PU X e f) (hs : swapsWith e none pos.line X.env = pure false := by rfl) : PUS X (.Expr e pos) (fExp f) :=
  ⟨convS (ps_expr h.pe hs) fun D σ H ⟨Hs, ev, o, s, re, e, q⟩ => by
    obtain ⟨w, e1, e⟩ := bindS e
    cases e
    exact ⟨Hs, ev, w, s, re, e1, fun v H' Hs' x r => q σ H' Hs' x (re.mono x.small) rfl⟩⟩
/-- a, b = e -/
def fAsg (as : PyData → Option (List PyData)) (is : List Nat) (f : Ev → Option PyData) : Ev → Option Out := fun ev => (f ev).bind fun w => (as w).bind fun us => some (.nx (setAllE ev (is.zip us)))
theorem pus_asg {tg e : Expr} {f : Ev → Option PyData} {g : TG} {as : PyData → Option (List PyData)} {is : List Nat} {pos : Pos} (h : PU X e f) (hg : PG X tg g) (gp : GPu g is as) (hs : swapsWithSole [tg] e pos.line X.env = pure false := by rfl) (hw : swappedStores [tg] e X.env = pure none := by rfl)
    (h1 : (assignEach [tg] X.env).map (·.2) = [assign tg X.env] := by rfl) : PUS X (.Assign [tg] e pos) (fAsg as is f) :=
  ⟨convS (ps_asg h.pe hg hs hw h1) fun D σ H ⟨Hs, ev, o, s, re, e, q⟩ => by
    obtain ⟨w, e1, e⟩ := bindS e
    obtain ⟨us, e2, e⟩ := bindS e
    cases e
    refine ⟨Hs, ev, w, s, re, e1, fun v H1 Hs1 x1 r1 => ?_⟩
    exact gp σ H1 Hs1 w v us D.nx x1.sub r1 e2 fun vs rvs => q _ H1 Hs1 x1 ((re.mono x1.small).setAll rvs) (by rw [setAll_len])⟩
/-- from here on nothing is done to the own list -/
def fPureB (F : Ev → Option Out) : Ev → Option OutB := fun ev => (F ev).bind fun o => match o with | .rt w => some (.rt w) | .nx _ => none
theorem pubs_pure {sts : List Stmt} {F : Ev → Option Out} (h : PUSs X sts F) : PUBs X i sts (fPureB F) :=
  ⟨convSs h.pss fun D σ H ⟨p, Hs, ev, o, ws, vs, B, e, q⟩ => by
    obtain ⟨o1, e1, e⟩ := bindS e
    split at e
    · cases e
      obtain ⟨s1, r1, s2⟩ := B.full
      exact ⟨_, ev, _, s1, r1, e1, fun v H' Hs' x r => q v H' Hs' ⟨fun b o _ e => x.big b o e, s2.trans x.small, x.sub, fun b hb hn h' => x.new b (by rw [upd_ne hb]; exact hn) h'⟩ r⟩
    · cases e⟩
end
end Pu

set_option Elab.async false
set_option linter.all false
set_option maxRecDepth 100000
set_option maxHeartbeats 2000000
/-! sorted(d): the keys, texts. -/
namespace Pu
open PySem PySem.Spec PyProof.Rows L2
def keysS : List (PyData × PyData) → Option (List Str)
  | [] => some []
  | (.str z, _) :: ps => (keysS ps).map (z :: ·)
  | _ :: _ => none
def sortS (zs : List Str) : List Str := (sortSI (zs.map fun z => (z, 0))).map (·.1)
def gSortD : List PyData → Option PyData
  | [.dict ps] => if isOb ps = true then none else (keysS ps).bind fun zs => if zs.length < 64 then some (.list ((sortS zs).map .str)) else none
  | _ => none
theorem keysS_rp {H : Hp} : ∀ {ps : List (PyData × PyData)} {kvs : List (Key × V)} {zs : List Str}, RpKV H ps kvs → keysS ps = some zs → kvs.map (·.1) = zs.map Sum.inr
  | _, _, _, .nil, e => by cases e; rfl
  | _, _, zs, .cons (k := k) (d := d) (v := v) (ps := ps) (kvs := kvs) r t, e => by
    cases k with
    | inl i => cases e
    | inr z =>
      obtain ⟨zs', e1, rfl⟩ := Option.map_eq_some_iff.mp (show (keysS ps).map (z :: ·) = some zs from e)
      rw [List.map_cons, List.map_cons, keysS_rp t e1]
theorem rising_le : ∀ {xs : List Str} {p : Str}, risingS p xs = true → ∀ x ∈ xs, p.cps.toList ≤ x.cps.toList
  | y :: ys, p, h, x, hx => by
    unfold risingS at h
    rw [Bool.and_eq_true, Bool.not_eq_true'] at h
    have h1 : p.cps.toList ≤ y.cps.toList := List.not_lt.mp fun w => by
      have : ltCps y.cps.toList p.cps.toList = true := by first | exact decide_eq_true w | (rw [ltCps_eq]; exact decide_eq_true w)
      rw [this] at h
      cases h.1
    rcases List.mem_cons.mp hx with rfl | hx
    · exact h1
    · exact List.le_trans h1 (rising_le h.2 x hx)
theorem sortedS_srtd : ∀ {ys : List Str}, sortedS ys = true → SrtO.Srtd ltSI (ys.map fun z => (z, (0 : Int)))
  | [], _ => List.Pairwise.nil
  | [x], _ => List.pairwise_singleton _ _
  | x :: y :: r, h => by
    have h' : risingS x (y :: r) = true := h
    have ih := sortedS_srtd (ys := y :: r) (by unfold risingS at h'; rw [Bool.and_eq_true] at h'; exact h'.2)
    refine List.pairwise_cons.mpr ⟨fun q hq => ?_, ih⟩
    obtain ⟨z, hz, rfl⟩ := List.mem_map.mp hq
    have hl := rising_le h' z hz
    rw [Bool.eq_false_iff]
    intro w
    rcases ltSI_iff.mp w with a | ⟨_, a⟩
    · exact absurd a (List.not_lt.mpr hl)
    · exact absurd a (by simp)
theorem sortS_uniq {ys zs : List Str} (hs : sortedS ys = true) (hp : ys.Perm zs) : ys = sortS zs := by
  have h := sortSI_uniq (sortedS_srtd hs) (hp.map fun z => (z, (0 : Int)))
  unfold sortS
  rw [← h, List.map_map]
  exact (List.map_id _).symm
theorem rp_str : ∀ {H : Hp} (ys : List Str), RpAll H (ys.map .str) (ys.map V.str)
  | _, [] => .nil
  | _, y :: ys => .cons (.str y) (rp_str ys)
theorem gc_sortD : GCall (fun xs H Q => ∃ (a : Addr) (kvs : List (Key × V)) (ks : List Str), xs = [.ref a] ∧ L2.Rd H a (.dK kvs) ∧ kvs.map (·.1) = ks.map Sum.inr ∧ ks.length < 64 ∧
    ∀ ys p, ys.Perm ks → sortedS ys = true → H p = none → Q (.ref p) (upd H p (.lst (ys.map V.str)))) gSortD := fun ws w xs H Hs Q s r e q => by
  unfold gSortD at e
  split at e
  · split at e
    case isTrue => cases e
    rename_i ho
    obtain ⟨zs, e1, e⟩ := bindS e
    split at e
    · rename_i hl
      cases e
      obtain ⟨v, rfl, r1⟩ := r.one
      obtain ⟨a, kvs, rfl, ha, hr⟩ := r1.dic_of (Bool.eq_false_iff.mpr ho)
      refine ⟨a, kvs, zs, rfl, .inl (s _ _ ha), keysS_rp hr e1, hl, fun ys p hp hs hn => ?_⟩
      rw [sortS_uniq hs hp]
      exact q _ _ _ ((Ext.refl s).laid hn _) (Rp.newL (s.free hn) (rp_str _))
    · cases e
  · cases e
end Pu

set_option Elab.async false
set_option linter.all false
set_option maxRecDepth 100000
set_option maxHeartbeats 4000000
namespace K87
open PySem PySem.Spec PyProof.Rows L2 Pu
def topS (i : Nat) : Stmt := PySem.Challenge.pw_comestoend_k87_whole_things_told_and_rea.main.body.getD i (.Pass ⟨0, 0, 0, 0⟩)
theorem of_cells {st : Stmt} (h : ((defScope st).names.all fun y => decide (y.2 ≠ .cell)) = true) : ∀ y ∈ (defScope st).names, y.2 ≠ .cell := fun y hy => of_decide_eq_true (List.all_eq_true.mp h y hy)
end K87

set_option Elab.async false
set_option linter.all false
set_option maxRecDepth 100000
set_option maxHeartbeats 4000000
namespace K87
open PySem PySem.Spec PyProof.Rows L2 Pu
section
variable {P : Program} {w : World} {K : PySem.W.Frag} {mg : Str → Option Value} {base : Heap}
abbrev s_is_paper_word : Stmt := topS 39
theorem sc_is_paper_word : FnScope ["value", "sign"] ["value"] (defScope s_is_paper_word) := ⟨rfl, rfl, rfl, by decide +kernel, rfl, by decide +kernel, by decide +kernel⟩
def F_is_paper_word  : Ev → Option Out := (fSeq (fIfS (fOr (fNot (fT (fIsi (fVar 0) ["str"]))) (fOr (f2T gEq (fVar 0) (fC (.str ""))) (fNot (fOr (fChain gLe gLe (fC (.str "a")) (f2 gIx (fVar 0) (fC (.int 0))) (fC (.str "z"))) (f2T gEq (f2 gIx (fVar 0) (fC (.int 0))) (fC (.str "?"))))))) (fSeq (fRet (fC (.bool false))) fNext) fNext) (fSeq (fIfS (fNot (fT (fCall gAll (fCons (fComp (fIt (fVar 0)) asOne [1] [1] (fun _ => some true) (fOrV (fB (fChain gLe gLe (fC (.str "a")) (fVar 1) (fC (.str "z")))) (fOrV (fB (fChain gLe gLe (fC (.str "0")) (fVar 1) (fC (.str "9")))) (fB (f2T gInD (fVar 1) (fC (.str "@? "))))))) fNil)))) (fSeq (fRet (fC (.bool false))) fNext) fNext) (fSeq (fRet (fAndV (fB (f2T gNe (f2 gIx (fVar 0) (fNeg (fC (.int 1)))) (fC (.str " ")))) (fB (f2T gNiD (fC (.str "  ")) (fVar 0))))) fNext)))
theorem d_is_paper_word {k : Nat}   (D : DefAt K mg "is_paper_word" "is_paper_word" s_is_paper_word ["value"]) (m_all : mg "all" = none) (m_isinstance : mg "isinstance" = none) (m_str : mg "str" = none) : DefP P w K mg base "is_paper_word" (k + 1) ["value"] (runF ["value", "sign"] 1 (F_is_paper_word )) :=
  defP_of D sc_is_paper_word fun f cdv A outer s H E hr nd => (puss_cons (pus_if (put_w (puw_or (put_not (put_val (pu_isi (x := "str") (T := "str") (pu_var 0) rfl m_isinstance rfl m_str (by decide +kernel) (by decide)))) (puw_or (put_cmp (o_eq (u64 hr)) g_eq (pu_var 0) pu_str (nomark _)) (puw_or1 (put_not (put_w (puw_or (put_chain o_le g_le o_le g_le pu_str (pu_ix (u1 hr) (pu_var 0) pu_int (fun _ _ => rfl) (fun _ _ => rfl)) pu_str) (puw_or1 (put_cmp (o_eq (u64 hr)) g_eq (pu_ix (u1 hr) (pu_var 0) pu_int (fun _ _ => rfl) (fun _ _ => rfl)) pu_str (nomark _)))))))))) (puss_cons (pus_ret pu_bl) puss_nil) puss_nil) (puss_cons (pus_if (put_not (put_val (pu_callB (cr_all rfl) gc_all rfl m_all boot_all (pua_cons (pu_lc (own := [("sign", 1)]) (is := [1]) rfl nd (pui_any (pu_var 0)) (blkOk_by (N := ["value", "sign"]) (sc := defScope s_is_paper_word) (by decide +kernel)) gp_one tp_yes (by decide) (fun _ _ _ _ _ => (pg_name (i := 1) nd rfl (Or.inl rfl))) (fun _ _ _ _ _ => pts_nil) (fun _ _ _ _ _ => (pu_or (pu_chain o_le g_le o_le g_le pu_str (pu_var 1) pu_str) (pu_or (pu_chain o_le g_le o_le g_le pu_str (pu_var 1) pu_str) (pu_one (pu_in (u1 hr) (pu_var 1) pu_str)))))) pua_nil)))) (puss_cons (pus_ret pu_bl) puss_nil) puss_nil) (puss_cons (pus_ret (pu_and (pu_cmp (o_ne (u64 hr)) g_ne (pu_ix (u1 hr) (pu_var 0) (pu_neg pu_int) (fun _ _ => rfl) (fun _ _ => rfl)) pu_str (nomark _)) (pu_one (pu_ni (u1 hr) pu_str (pu_var 0))))) puss_nil)))

abbrev s_is_thing : Stmt := topS 40
theorem sc_is_thing : FnScope ["value", "part"] ["value"] (defScope s_is_thing) := ⟨rfl, rfl, rfl, by decide +kernel, rfl, by decide +kernel, by decide +kernel⟩
def F_is_thing (g_is_paper_word : List PyData → Option PyData) (g_is_thing : List PyData → Option PyData) : Ev → Option Out := (fSeq (fIfS (fT (fIsi (fVar 0) ["list", "tuple"])) (fSeq (fRet (fCall gAll (fCons (fComp (fIt (fVar 0)) asOne [1] [1] (fun _ => some true) (fCall g_is_thing (fCons (fVar 1) fNil))) fNil))) fNext) fNext) (fSeq (fRet (fOrV (fB (f2T isD (fVar 0) (fC .none))) (fOrV (fIsi (fVar 0) ["int"]) (fCall g_is_paper_word (fCons (fVar 0) fNil))))) fNext))
theorem d_is_thing {k : Nat} {g_is_paper_word : List PyData → Option PyData} {g_is_thing : List PyData → Option PyData}  (D : DefAt K mg "is_thing" "is_thing" s_is_thing ["value"]) (m_isinstance : mg "isinstance" = none) (m_int : mg "int" = none) (m_list : mg "list" = none) (m_tuple : mg "tuple" = none) (m_all : mg "all" = none) (D_is_paper_word : DefP P w K mg base "is_paper_word" k ["value"] g_is_paper_word) (D_is_thing : DefP P w K mg base "is_thing" k ["value"] g_is_thing) : DefP P w K mg base "is_thing" (k + 1) ["value"] (runF ["value", "part"] 1 (F_is_thing g_is_paper_word g_is_thing)) :=
  defP_of D sc_is_thing fun f cdv A outer s H E hr nd => (puss_cons (pus_if (put_val (pu_isi2 (x := "list") (y := "tuple") (T := "list") (U := "tuple") (pu_var 0) rfl m_isinstance rfl m_list (by decide +kernel) (by decide) rfl m_tuple (by decide +kernel) (by decide))) (puss_cons (pus_ret (pu_callB (cr_all rfl) gc_all rfl m_all boot_all (pua_cons (pu_lc (own := [("part", 1)]) (is := [1]) rfl nd (pui_any (pu_var 0)) (blkOk_by (N := ["value", "part"]) (sc := defScope s_is_thing) (by decide +kernel)) gp_one tp_yes (by decide) (fun _ _ _ _ _ => (pg_name (i := 1) nd rfl (Or.inl rfl))) (fun _ _ _ _ _ => pts_nil) (fun _ _ _ _ _ => (pu_callD D_is_thing hr rfl (pua_cons (pu_var 1) pua_nil)))) pua_nil))) puss_nil) puss_nil) (puss_cons (pus_ret (pu_or (pu_cmp o_is g_is (pu_var 0) pu_non (nomark _)) (pu_or (pu_isi (x := "int") (T := "int") (pu_var 0) rfl m_isinstance rfl m_int (by decide +kernel) (by decide)) (pu_one (pu_callD D_is_paper_word hr rfl (pua_cons (pu_var 0) pua_nil)))))) puss_nil))

abbrev s_thing_told : Stmt := topS 41
theorem sc_thing_told : FnScope ["thing", "text", "part"] ["thing"] (defScope s_thing_told) := ⟨rfl, rfl, rfl, by decide +kernel, rfl, by decide +kernel, by decide +kernel⟩
def F_thing_told (g_thing_told : List PyData → Option PyData) : Ev → Option Out := (fSeq (fIfS (fT (fIsi (fVar 0) ["list", "tuple"])) (fSeq (fSet 1 (fJoin (fC (.str " ")) (fComp (fIt (fVar 0)) asOne [2] [2] (fun _ => some true) (fCall g_thing_told (fCons (fVar 2) fNil))))) (fSeq (fRet (fIf (fT (fIsi (fVar 0) ["tuple"])) (f2 gAdd (f2 gAdd (fC (.str "(")) (fVar 1)) (fC (.str ")"))) (f2 gAdd (f2 gAdd (fC (.str "[")) (fVar 1)) (fC (.str "]"))))) fNext)) fNext) (fSeq (fIfS (f2T isD (fVar 0) (fC .none)) (fSeq (fRet (fC (.str "~"))) fNext) fNext) (fSeq (fIfS (fT (fIsi (fVar 0) ["bool"])) (fSeq (fRet (fIf (fT (fVar 0)) (fC (.str "!")) (fC (.str ".")))) fNext) fNext) (fSeq (fRet (fIf (fT (fIsi (fVar 0) ["int"])) (fCall gStr (fCons (fVar 0) fNil)) (fRepl " " "_" (fVar 0)))) fNext))))
theorem d_thing_told {k : Nat} {g_thing_told : List PyData → Option PyData}  (D : DefAt K mg "thing_told" "thing_told" s_thing_told ["thing"]) (m_isinstance : mg "isinstance" = none) (m_int : mg "int" = none) (m_str : mg "str" = none) (m_bool : mg "bool" = none) (m_list : mg "list" = none) (m_tuple : mg "tuple" = none) (D_thing_told : DefP P w K mg base "thing_told" k ["thing"] g_thing_told) : DefP P w K mg base "thing_told" (k + 1) ["thing"] (runF ["thing", "text", "part"] 1 (F_thing_told g_thing_told)) :=
  defPT_of D sc_thing_told (by decide +kernel) (by decide) fun f cdv A outer s H E hr nd => (pusst_cons (pust_of (pus_if (put_val (pu_isi2 (x := "list") (y := "tuple") (T := "list") (U := "tuple") (pu_var 0) rfl m_isinstance rfl m_list (by decide +kernel) (by decide) rfl m_tuple (by decide +kernel) (by decide))) (puss_cons (pus_set (i := 1) nd rfl (Or.inl rfl) (pu_join pu_str (pu_lc (own := [("part", 2)]) (is := [2]) rfl nd (pui_any (pu_var 0)) (blkOk_by (N := ["thing", "text", "part"]) (sc := defScope s_thing_told) (by decide +kernel)) gp_one tp_yes (by decide) (fun _ _ _ _ _ => (pg_name (i := 2) nd rfl (Or.inl rfl))) (fun _ _ _ _ _ => pts_nil) (fun _ _ _ _ _ => (pu_callD D_thing_told hr rfl (pua_cons (pu_var 2) pua_nil)))))) (puss_cons (pus_ret (pu_ifE (put_val (pu_isi (x := "tuple") (T := "tuple") (pu_var 0) rfl m_isinstance rfl m_tuple (by decide +kernel) (by decide))) (pu_op o_add g_add (pu_op o_add g_add pu_str (pu_var 1)) pu_str) (pu_op o_add g_add (pu_op o_add g_add pu_str (pu_var 1)) pu_str))) puss_nil)) puss_nil)) (pusst_cons (pust_of (pus_if (put_cmp o_is g_is (pu_var 0) pu_non (nomark _)) (puss_cons (pus_ret pu_str) puss_nil) puss_nil)) (pusst_cons (pust_of (pus_if (put_val (pu_isi (x := "bool") (T := "bool") (pu_var 0) rfl m_isinstance rfl m_bool (by decide +kernel) (by decide))) (puss_cons (pus_ret (pu_ifE (put_val (pu_var 0)) pu_str pu_str)) puss_nil) puss_nil)) (pusst_cons (pust_ret (puet_ifE (put_val (pu_isi (x := "int") (T := "int") (pu_var 0) rfl m_isinstance rfl m_int (by decide +kernel) (by decide))) (puet_of (pu_callTy call_str_int gc_str rfl m_str boot_str (pua_cons (pu_var 0) pua_nil))) (puet_repl (pu_var 0)))) pusst_nil))))

abbrev s__law_exact : Stmt := topS 55
theorem sc__law_exact : FnScope ["mine", "theirs", "key", "is_list", "is_like", "a", "b"] ["mine", "theirs"] (defScope s__law_exact) := ⟨rfl, rfl, rfl, by decide +kernel, rfl, by decide +kernel, by decide +kernel⟩
def F__law_exact (g__law_exact : List PyData → Option PyData) : Ev → Option Out := (fSeq (fIfS (fT (fIsi (fVar 0) ["dict"])) (fSeq (fIfS (fOr (fNot (fT (fIsi (fVar 1) ["dict"]))) (f2T gNe (fCall gLen (fCons (fVar 0) fNil)) (fCall gLen (fCons (fVar 1) fNil)))) (fSeq (fRet (fC (.bool false))) fNext) fNext) (fSeq (fRet (fCall gAll (fCons (fComp (fIt (fVar 0)) asOne [2] [2] (fun _ => some true) (fAndV (fB (f2T gInD (fVar 2) (fVar 1))) (fCall g__law_exact (fCons (f2 gIx (fVar 0) (fVar 2)) (fCons (f2 gIx (fVar 1) (fVar 2)) fNil))))) fNil))) fNext)) fNext) (fSeq (fIfS (fT (fIsi (fVar 0) ["list", "tuple"])) (fSeq (fSet 3 (fB (f2T gEq (fIsi (fVar 1) ["list"]) (fIsi (fVar 0) ["list"])))) (fSeq (fSet 4 (fAndV (fVar 3) (fB (f2T gEq (fIsi (fVar 1) ["tuple"]) (fIsi (fVar 0) ["tuple"]))))) (fSeq (fRet (fAndV (fVar 4) (fAndV (fB (f2T gEq (fCall gLen (fCons (fVar 0) fNil)) (fCall gLen (fCons (fVar 1) fNil)))) (fCall gAll (fCons (fComp (fZip (fVar 0) (fVar 1)) (asTup 2) [5, 6] [5, 6] (fun _ => some true) (fCall g__law_exact (fCons (fVar 5) (fCons (fVar 6) fNil)))) fNil))))) fNext))) fNext) (fSeq (fIfS (fOr (fT (fIsi (fVar 1) ["list", "tuple", "dict"])) (f2T gNe (fB (f2T isD (fVar 0) (fC .none))) (fB (f2T isD (fVar 1) (fC .none))))) (fSeq (fRet (fC (.bool false))) fNext) fNext) (fSeq (fSet 4 (fAndV (fB (f2T gEq (fIsi (fVar 0) ["int"]) (fIsi (fVar 1) ["int"]))) (fB (f2T gEq (fIsi (fVar 0) ["str"]) (fIsi (fVar 1) ["str"]))))) (fSeq (fRet (fAndV (fVar 4) (fAndV (fB (f2T gEq (fIsi (fVar 0) ["bool"]) (fIsi (fVar 1) ["bool"]))) (fB (f2T gEq (fVar 0) (fVar 1)))))) fNext)))))
theorem d__law_exact {k : Nat} {g__law_exact : List PyData → Option PyData}  (D : DefAt K mg "_law_exact" "_law_exact" s__law_exact ["mine", "theirs"]) (m_isinstance : mg "isinstance" = none) (m_bool : mg "bool" = none) (m_str : mg "str" = none) (m_int : mg "int" = none) (m_list : mg "list" = none) (m_tuple : mg "tuple" = none) (m_dict : mg "dict" = none) (m_zip : mg "zip" = none) (m_all : mg "all" = none) (m_len : mg "len" = none) (D__law_exact : DefP P w K mg base "_law_exact" k ["mine", "theirs"] g__law_exact) : DefP P w K mg base "_law_exact" (k + 1) ["mine", "theirs"] (runF ["mine", "theirs", "key", "is_list", "is_like", "a", "b"] 2 (F__law_exact g__law_exact)) :=
  defP_of D sc__law_exact fun f cdv A outer s H E hr nd => (puss_cons (pus_if (put_val (pu_isi (x := "dict") (T := "dict") (pu_var 0) rfl m_isinstance rfl m_dict (by decide +kernel) (by decide))) (puss_cons (pus_if (put_w (puw_or (put_not (put_val (pu_isi (x := "dict") (T := "dict") (pu_var 1) rfl m_isinstance rfl m_dict (by decide +kernel) (by decide)))) (puw_or1 (put_cmp (o_ne (u64 hr)) g_ne (pu_callB c_len gc_len rfl m_len boot_len (pua_cons (pu_var 0) pua_nil)) (pu_callB c_len gc_len rfl m_len boot_len (pua_cons (pu_var 1) pua_nil)) (nomark _))))) (puss_cons (pus_ret pu_bl) puss_nil) puss_nil) (puss_cons (pus_ret (pu_callB (cr_all rfl) gc_all rfl m_all boot_all (pua_cons (pu_lc (own := [("key", 2)]) (is := [2]) rfl nd (pui_any (pu_var 0)) (blkOk_by (N := ["mine", "theirs", "key", "is_list", "is_like", "a", "b"]) (sc := defScope s__law_exact) (by decide +kernel)) gp_one tp_yes (by decide) (fun _ _ _ _ _ => (pg_name (i := 2) nd rfl (Or.inl rfl))) (fun _ _ _ _ _ => pts_nil) (fun _ _ _ _ _ => (pu_and (pu_in (u1 hr) (pu_var 2) (pu_var 1)) (pu_one (pu_callD D__law_exact hr rfl (pua_cons (pu_ix (u1 hr) (pu_var 0) (pu_var 2) (fun _ _ => rfl) (fun _ _ => rfl)) (pua_cons (pu_ix (u1 hr) (pu_var 1) (pu_var 2) (fun _ _ => rfl) (fun _ _ => rfl)) pua_nil))))))) pua_nil))) puss_nil)) puss_nil) (puss_cons (pus_if (put_val (pu_isi2 (x := "list") (y := "tuple") (T := "list") (U := "tuple") (pu_var 0) rfl m_isinstance rfl m_list (by decide +kernel) (by decide) rfl m_tuple (by decide +kernel) (by decide))) (puss_cons (pus_set (i := 3) nd rfl (Or.inl rfl) (pu_cmp (o_eq (u64 hr)) g_eq (pu_isi (x := "list") (T := "list") (pu_var 1) rfl m_isinstance rfl m_list (by decide +kernel) (by decide)) (pu_isi (x := "list") (T := "list") (pu_var 0) rfl m_isinstance rfl m_list (by decide +kernel) (by decide)) (nomark _))) (puss_cons (pus_set (i := 4) nd rfl (Or.inl rfl) (pu_and (pu_var 3) (pu_one (pu_cmp (o_eq (u64 hr)) g_eq (pu_isi (x := "tuple") (T := "tuple") (pu_var 1) rfl m_isinstance rfl m_tuple (by decide +kernel) (by decide)) (pu_isi (x := "tuple") (T := "tuple") (pu_var 0) rfl m_isinstance rfl m_tuple (by decide +kernel) (by decide)) (nomark _))))) (puss_cons (pus_ret (pu_and (pu_var 4) (pu_and (pu_cmp (o_eq (u64 hr)) g_eq (pu_callB c_len gc_len rfl m_len boot_len (pua_cons (pu_var 0) pua_nil)) (pu_callB c_len gc_len rfl m_len boot_len (pua_cons (pu_var 1) pua_nil)) (nomark _)) (pu_one (pu_callB (cr_all rfl) gc_all rfl m_all boot_all (pua_cons (pu_lc (own := [("a", 5), ("b", 6)]) (is := [5, 6]) rfl nd (pui_zip (pu_var 0) (pu_var 1) rfl m_zip) (blkOk_by (N := ["mine", "theirs", "key", "is_list", "is_like", "a", "b"]) (sc := defScope s__law_exact) (by decide +kernel)) gp_tup2 tp_yes (by decide) (fun _ _ _ _ _ => (pg_tup rfl (pgs_cons (pg_name (i := 5) nd rfl (Or.inl rfl)) (pgs_cons (pg_name (i := 6) nd rfl (Or.inl rfl)) pgs_nil)))) (fun _ _ _ _ _ => pts_nil) (fun _ _ _ _ _ => (pu_callD D__law_exact hr rfl (pua_cons (pu_var 5) (pua_cons (pu_var 6) pua_nil))))) pua_nil)))))) puss_nil))) puss_nil) (puss_cons (pus_if (put_w (puw_or (put_val (pu_isi3 (x := "list") (y := "tuple") (z := "dict") (T := "list") (U := "tuple") (W := "dict") (pu_var 1) rfl m_isinstance rfl m_list (by decide +kernel) (by decide) rfl m_tuple (by decide +kernel) (by decide) rfl m_dict (by decide +kernel) (by decide))) (puw_or1 (put_cmp (o_ne (u64 hr)) g_ne (pu_cmp o_is g_is (pu_var 0) pu_non (nomark _)) (pu_cmp o_is g_is (pu_var 1) pu_non (nomark _)) (nomark _))))) (puss_cons (pus_ret pu_bl) puss_nil) puss_nil) (puss_cons (pus_set (i := 4) nd rfl (Or.inl rfl) (pu_and (pu_cmp (o_eq (u64 hr)) g_eq (pu_isi (x := "int") (T := "int") (pu_var 0) rfl m_isinstance rfl m_int (by decide +kernel) (by decide)) (pu_isi (x := "int") (T := "int") (pu_var 1) rfl m_isinstance rfl m_int (by decide +kernel) (by decide)) (nomark _)) (pu_one (pu_cmp (o_eq (u64 hr)) g_eq (pu_isi (x := "str") (T := "str") (pu_var 0) rfl m_isinstance rfl m_str (by decide +kernel) (by decide)) (pu_isi (x := "str") (T := "str") (pu_var 1) rfl m_isinstance rfl m_str (by decide +kernel) (by decide)) (nomark _))))) (puss_cons (pus_ret (pu_and (pu_var 4) (pu_and (pu_cmp (o_eq (u64 hr)) g_eq (pu_isi (x := "bool") (T := "bool") (pu_var 0) rfl m_isinstance rfl m_bool (by decide +kernel) (by decide)) (pu_isi (x := "bool") (T := "bool") (pu_var 1) rfl m_isinstance rfl m_bool (by decide +kernel) (by decide)) (nomark _)) (pu_one (pu_cmp (o_eq (u64 hr)) g_eq (pu_var 0) (pu_var 1) (nomark _)))))) puss_nil)))))

abbrev s__law_thing_text : Stmt := topS 63
theorem sc__law_thing_text : FnScope ["thing", "text", "part"] ["thing"] (defScope s__law_thing_text) := ⟨rfl, rfl, rfl, by decide +kernel, rfl, by decide +kernel, by decide +kernel⟩
def F__law_thing_text (g__law_thing_text : List PyData → Option PyData) : Ev → Option Out := (fSeq (fIfS (fT (fIsi (fVar 0) ["tuple", "list"])) (fSeq (fSet 1 (fJoin (fC (.str " ")) (fComp (fIt (fVar 0)) asOne [2] [2] (fun _ => some true) (fCall g__law_thing_text (fCons (fVar 2) fNil))))) (fSeq (fRet (fIf (fT (fIsi (fVar 0) ["tuple"])) (f2 gAdd (f2 gAdd (fC (.str "(")) (fVar 1)) (fC (.str ")"))) (f2 gAdd (f2 gAdd (fC (.str "[")) (fVar 1)) (fC (.str "]"))))) fNext)) fNext) (fSeq (fIfS (fOr (f2T isD (fVar 0) (fC .none)) (fOr (f2T isD (fVar 0) (fC (.bool true))) (f2T isD (fVar 0) (fC (.bool false))))) (fSeq (fRet (fIf (f2T isD (fVar 0) (fC .none)) (fC (.str "~")) (fIf (fT (fVar 0)) (fC (.str "!")) (fC (.str "."))))) fNext) fNext) (fSeq (fRet (fIf (fT (fIsi (fVar 0) ["int"])) (fCall gStr (fCons (fVar 0) fNil)) (fRepl " " "_" (fVar 0)))) fNext)))
theorem d__law_thing_text {k : Nat} {g__law_thing_text : List PyData → Option PyData}  (D : DefAt K mg "_law_thing_text" "_law_thing_text" s__law_thing_text ["thing"]) (m_isinstance : mg "isinstance" = none) (m_int : mg "int" = none) (m_str : mg "str" = none) (m_tuple : mg "tuple" = none) (m_list : mg "list" = none) (D__law_thing_text : DefP P w K mg base "_law_thing_text" k ["thing"] g__law_thing_text) : DefP P w K mg base "_law_thing_text" (k + 1) ["thing"] (runF ["thing", "text", "part"] 1 (F__law_thing_text g__law_thing_text)) :=
  defPT_of D sc__law_thing_text (by decide +kernel) (by decide) fun f cdv A outer s H E hr nd => (pusst_cons (pust_of (pus_if (put_val (pu_isi2 (x := "tuple") (y := "list") (T := "tuple") (U := "list") (pu_var 0) rfl m_isinstance rfl m_tuple (by decide +kernel) (by decide) rfl m_list (by decide +kernel) (by decide))) (puss_cons (pus_set (i := 1) nd rfl (Or.inl rfl) (pu_join pu_str (pu_lc (own := [("part", 2)]) (is := [2]) rfl nd (pui_any (pu_var 0)) (blkOk_by (N := ["thing", "text", "part"]) (sc := defScope s__law_thing_text) (by decide +kernel)) gp_one tp_yes (by decide) (fun _ _ _ _ _ => (pg_name (i := 2) nd rfl (Or.inl rfl))) (fun _ _ _ _ _ => pts_nil) (fun _ _ _ _ _ => (pu_callD D__law_thing_text hr rfl (pua_cons (pu_var 2) pua_nil)))))) (puss_cons (pus_ret (pu_ifE (put_val (pu_isi (x := "tuple") (T := "tuple") (pu_var 0) rfl m_isinstance rfl m_tuple (by decide +kernel) (by decide))) (pu_op o_add g_add (pu_op o_add g_add pu_str (pu_var 1)) pu_str) (pu_op o_add g_add (pu_op o_add g_add pu_str (pu_var 1)) pu_str))) puss_nil)) puss_nil)) (pusst_cons (pust_of (pus_if (put_w (puw_or (put_cmp o_is g_is (pu_var 0) pu_non (nomark _)) (puw_or (put_cmp o_is g_is (pu_var 0) pu_bl (nomark _)) (puw_or1 (put_cmp o_is g_is (pu_var 0) pu_bl (nomark _)))))) (puss_cons (pus_ret (pu_ifE (put_cmp o_is g_is (pu_var 0) pu_non (nomark _)) pu_str (pu_ifE (put_val (pu_var 0)) pu_str pu_str))) puss_nil) puss_nil)) (pusst_cons (pust_ret (puet_ifE (put_val (pu_isi (x := "int") (T := "int") (pu_var 0) rfl m_isinstance rfl m_int (by decide +kernel) (by decide))) (puet_of (pu_callTy call_str_int gc_str rfl m_str boot_str (pua_cons (pu_var 0) pua_nil))) (puet_repl (pu_var 0)))) pusst_nil)))

end
end K87

set_option Elab.async false
set_option linter.all false
set_option maxRecDepth 100000
set_option maxHeartbeats 4000000
namespace K87
open PySem PySem.Spec PyProof.Rows L2 Pu
section
variable {P : Program} {w : World} {K : PySem.W.Frag} {mg : Str → Option Value} {base : Heap}
abbrev s_is_whole : Stmt := topS 1
theorem sc_is_whole : FnScope ["value"] ["value"] (defScope s_is_whole) := ⟨rfl, rfl, rfl, by decide +kernel, rfl, by decide +kernel, by decide +kernel⟩
def F_is_whole  : Ev → Option Out := (fSeq (fRet (fAndV (fIsi (fVar 0) ["int"]) (fB (fNot (fT (fIsi (fVar 0) ["bool"])))))) fNext)
theorem d_is_whole {k : Nat}   (D : DefAt K mg "is_whole" "is_whole" s_is_whole ["value"]) (m_isinstance : mg "isinstance" = none) (m_bool : mg "bool" = none) (m_int : mg "int" = none) : DefP P w K mg base "is_whole" (k + 1) ["value"] (runF ["value"] 1 (F_is_whole )) :=
  defP_of D sc_is_whole fun f cdv A outer s H E hr nd => (puss_cons (pus_ret (pu_and (pu_isi (x := "int") (T := "int") (pu_var 0) rfl m_isinstance rfl m_int (by decide +kernel) (by decide)) (pu_one (pu_not (pu_isi (x := "bool") (T := "bool") (pu_var 0) rfl m_isinstance rfl m_bool (by decide +kernel) (by decide)))))) puss_nil)


abbrev s_is_word : Stmt := topS 2
theorem sc_is_word : FnScope ["value", "sign"] ["value"] (defScope s_is_word) := ⟨rfl, rfl, rfl, by decide +kernel, rfl, by decide +kernel, by decide +kernel⟩
def F_is_word  : Ev → Option Out := (fSeq (fRet (fAndV (fIsi (fVar 0) ["str"]) (fAndV (fB (fChain gLt gLt (fC (.int 0)) (fCall gLen (fCons (fVar 0) fNil)) (fC (.int 13)))) (fCall gAll (fCons (fComp (fIt (fVar 0)) asOne [1] [1] (fun _ => some true) (fB (fChain gLe gLe (fC (.str "a")) (fVar 1) (fC (.str "z"))))) fNil))))) fNext)
theorem d_is_word {k : Nat}   (D : DefAt K mg "is_word" "is_word" s_is_word ["value"]) (m_all : mg "all" = none) (m_len : mg "len" = none) (m_isinstance : mg "isinstance" = none) (m_str : mg "str" = none) : DefP P w K mg base "is_word" (k + 1) ["value"] (runF ["value", "sign"] 1 (F_is_word )) :=
  defP_of D sc_is_word fun f cdv A outer s H E hr nd => (puss_cons (pus_ret (pu_and (pu_isi (x := "str") (T := "str") (pu_var 0) rfl m_isinstance rfl m_str (by decide +kernel) (by decide)) (pu_and (pu_chain o_lt g_lt o_lt g_lt pu_int (pu_callB c_len gc_len rfl m_len boot_len (pua_cons (pu_var 0) pua_nil)) pu_int) (pu_one (pu_callB (cr_all rfl) gc_all rfl m_all boot_all (pua_cons (pu_lc (own := [("sign", 1)]) (is := [1]) rfl nd (pui_any (pu_var 0)) (blkOk_by (N := ["value", "sign"]) (sc := defScope s_is_word) (by decide +kernel)) gp_one tp_yes (by decide) (fun _ _ _ _ _ => (pg_name (i := 1) nd rfl (Or.inl rfl))) (fun _ _ _ _ _ => pts_nil) (fun _ _ _ _ _ => (pu_chain o_le g_le o_le g_le pu_str (pu_var 1) pu_str))) pua_nil)))))) puss_nil)


abbrev s_is_tuple_of : Stmt := topS 3
theorem sc_is_tuple_of : FnScope ["value", "size"] ["value", "size"] (defScope s_is_tuple_of) := ⟨rfl, rfl, rfl, by decide +kernel, rfl, by decide +kernel, by decide +kernel⟩
def F_is_tuple_of  : Ev → Option Out := (fSeq (fRet (fAndV (fIsi (fVar 0) ["tuple"]) (fB (f2T gEq (fCall gLen (fCons (fVar 0) fNil)) (fVar 1))))) fNext)
theorem d_is_tuple_of {k : Nat}   (D : DefAt K mg "is_tuple_of" "is_tuple_of" s_is_tuple_of ["value", "size"]) (m_len : mg "len" = none) (m_isinstance : mg "isinstance" = none) (m_tuple : mg "tuple" = none) : DefP P w K mg base "is_tuple_of" (k + 1) ["value", "size"] (runF ["value", "size"] 2 (F_is_tuple_of )) :=
  defP_of D sc_is_tuple_of fun f cdv A outer s H E hr nd => (puss_cons (pus_ret (pu_and (pu_isi (x := "tuple") (T := "tuple") (pu_var 0) rfl m_isinstance rfl m_tuple (by decide +kernel) (by decide)) (pu_one (pu_cmp (o_eq (u64 hr)) g_eq (pu_callB c_len gc_len rfl m_len boot_len (pua_cons (pu_var 0) pua_nil)) (pu_var 1) (nomark _))))) puss_nil)


abbrev s_is_name : Stmt := topS 8
theorem sc_is_name : FnScope ["value", "figures", "is_count", "sign"] ["value"] (defScope s_is_name) := ⟨rfl, rfl, rfl, by decide +kernel, rfl, by decide +kernel, by decide +kernel⟩
def F_is_name (g_is_word : List PyData → Option PyData) : Ev → Option Out := (fSeq (fIfS (fOr (fNot (fT (fIsi (fVar 0) ["str"]))) (f2T gEq (fVar 0) (fC (.str "")))) (fSeq (fRet (fC (.bool false))) fNext) fNext) (fSeq (fIfS (f2T gEq (f2 gIx (fVar 0) (fC (.int 0))) (fC (.str "?"))) (fSeq (fSet 1 (fSl (fVar 0) (fO (fC (.int 1))) fO0)) (fSeq (fSet 2 (fAndV (fB (f2T gNe (fVar 1) (fC (.str "")))) (fCall gAll (fCons (fComp (fIt (fVar 1)) asOne [3] [3] (fun _ => some true) (fB (fChain gLe gLe (fC (.str "0")) (fVar 3) (fC (.str "9"))))) fNil)))) (fSeq (fRet (fAndV (fVar 2) (fOrV (fB (f2T gEq (fVar 1) (fC (.str "0")))) (fB (f2T gNe (f2 gIx (fVar 1) (fC (.int 0))) (fC (.str "0"))))))) fNext))) fNext) (fSeq (fRet (fCall g_is_word (fCons (fIf (f2T gEq (f2 gIx (fVar 0) (fNeg (fC (.int 1)))) (fC (.str "@"))) (fSl (fVar 0) fO0 (fO (fNeg (fC (.int 1))))) (fVar 0)) fNil))) fNext)))
theorem d_is_name {k : Nat} {g_is_word : List PyData → Option PyData}  (D : DefAt K mg "is_name" "is_name" s_is_name ["value"]) (m_all : mg "all" = none) (m_isinstance : mg "isinstance" = none) (m_str : mg "str" = none) (D_is_word : DefP P w K mg base "is_word" k ["value"] g_is_word) : DefP P w K mg base "is_name" (k + 1) ["value"] (runF ["value", "figures", "is_count", "sign"] 1 (F_is_name g_is_word)) :=
  defP_of D sc_is_name fun f cdv A outer s H E hr nd => (puss_cons (pus_if (put_w (puw_or (put_not (put_val (pu_isi (x := "str") (T := "str") (pu_var 0) rfl m_isinstance rfl m_str (by decide +kernel) (by decide)))) (puw_or1 (put_cmp (o_eq (u64 hr)) g_eq (pu_var 0) pu_str (nomark _))))) (puss_cons (pus_ret pu_bl) puss_nil) puss_nil) (puss_cons (pus_if (put_cmp (o_eq (u64 hr)) g_eq (pu_ix (u1 hr) (pu_var 0) pu_int (fun _ _ => rfl) (fun _ _ => rfl)) pu_str (nomark _)) (puss_cons (pus_set (i := 1) nd rfl (Or.inl rfl) (pu_sl (pu_var 0) (puo_some pu_int) puo_none)) (puss_cons (pus_set (i := 2) nd rfl (Or.inl rfl) (pu_and (pu_cmp (o_ne (u64 hr)) g_ne (pu_var 1) pu_str (nomark _)) (pu_one (pu_callB (cr_all rfl) gc_all rfl m_all boot_all (pua_cons (pu_lc (own := [("sign", 3)]) (is := [3]) rfl nd (pui_any (pu_var 1)) (blkOk_by (N := ["value", "figures", "is_count", "sign"]) (sc := defScope s_is_name) (by decide +kernel)) gp_one tp_yes (by decide) (fun _ _ _ _ _ => (pg_name (i := 3) nd rfl (Or.inl rfl))) (fun _ _ _ _ _ => pts_nil) (fun _ _ _ _ _ => (pu_chain o_le g_le o_le g_le pu_str (pu_var 3) pu_str))) pua_nil))))) (puss_cons (pus_ret (pu_and (pu_var 2) (pu_one (pu_or (pu_cmp (o_eq (u64 hr)) g_eq (pu_var 1) pu_str (nomark _)) (pu_one (pu_cmp (o_ne (u64 hr)) g_ne (pu_ix (u1 hr) (pu_var 1) pu_int (fun _ _ => rfl) (fun _ _ => rfl)) pu_str (nomark _))))))) puss_nil))) puss_nil) (puss_cons (pus_ret (pu_callD D_is_word hr rfl (pua_cons (pu_ifE (put_cmp (o_eq (u64 hr)) g_eq (pu_ix (u1 hr) (pu_var 0) (pu_neg pu_int) (fun _ _ => rfl) (fun _ _ => rfl)) pu_str (nomark _)) (pu_sl (pu_var 0) puo_none (puo_some (pu_neg pu_int))) (pu_var 0)) pua_nil))) puss_nil)))


abbrev s_is_form : Stmt := topS 9
theorem sc_is_form : FnScope ["value", "pair", "name", "factor", "one", "other"] ["value"] (defScope s_is_form) := ⟨rfl, rfl, rfl, by decide +kernel, rfl, by decide +kernel, by decide +kernel⟩
def F_is_form (g_is_whole : List PyData → Option PyData) (g_is_name : List PyData → Option PyData) (g_is_tuple_of : List PyData → Option PyData) : Ev → Option Out := (fSeq (fIfS (fOr (fNot (fT (fCall g_is_tuple_of (fCons (fVar 0) (fCons (fC (.int 2)) fNil))))) (fOr (fNot (fT (fCall g_is_whole (fCons (f2 gIx (fVar 0) (fC (.int 0))) fNil)))) (fNot (fT (fIsi (f2 gIx (fVar 0) (fC (.int 1))) ["tuple"]))))) (fSeq (fRet (fC (.bool false))) fNext) fNext) (fSeq (fIfS (fNot (fT (fCall gAll (fCons (fComp (fIt (f2 gIx (fVar 0) (fC (.int 1)))) asOne [1] [1] (fun _ => some true) (fAndV (fCall g_is_tuple_of (fCons (fVar 1) (fCons (fC (.int 2)) fNil))) (fAndV (fCall g_is_name (fCons (f2 gIx (fVar 1) (fC (.int 0))) fNil)) (fCall g_is_whole (fCons (f2 gIx (fVar 1) (fC (.int 1))) fNil))))) fNil)))) (fSeq (fRet (fC (.bool false))) fNext) fNext) (fSeq (fIfS (fNot (fT (fCall gAll (fCons (fComp (fIt (f2 gIx (fVar 0) (fC (.int 1)))) (asTup 2) [2, 3] [2, 3] (fun _ => some true) (fB (f2T gNe (fVar 3) (fC (.int 0))))) fNil)))) (fSeq (fRet (fC (.bool false))) fNext) fNext) (fSeq (fRet (fCall gAll (fCons (fComp (fZip (f2 gIx (fVar 0) (fC (.int 1))) (fSl (f2 gIx (fVar 0) (fC (.int 1))) (fO (fC (.int 1))) fO0)) (asTup 2) [4, 5] [4, 5] (fun _ => some true) (fB (f2T gLt (f2 gIx (fVar 4) (fC (.int 0))) (f2 gIx (fVar 5) (fC (.int 0)))))) fNil))) fNext))))
theorem d_is_form {k : Nat} {g_is_whole : List PyData → Option PyData} {g_is_name : List PyData → Option PyData} {g_is_tuple_of : List PyData → Option PyData}  (D : DefAt K mg "is_form" "is_form" s_is_form ["value"]) (m_zip : mg "zip" = none) (m_all : mg "all" = none) (m_isinstance : mg "isinstance" = none) (m_tuple : mg "tuple" = none) (D_is_whole : DefP P w K mg base "is_whole" k ["value"] g_is_whole) (D_is_name : DefP P w K mg base "is_name" k ["value"] g_is_name) (D_is_tuple_of : DefP P w K mg base "is_tuple_of" k ["value", "size"] g_is_tuple_of) : DefP P w K mg base "is_form" (k + 1) ["value"] (runF ["value", "pair", "name", "factor", "one", "other"] 1 (F_is_form g_is_whole g_is_name g_is_tuple_of)) :=
  defP_of D sc_is_form fun f cdv A outer s H E hr nd => (puss_cons (pus_if (put_w (puw_or (put_not (put_val (pu_callD D_is_tuple_of hr rfl (pua_cons (pu_var 0) (pua_cons pu_int pua_nil))))) (puw_or (put_not (put_val (pu_callD D_is_whole hr rfl (pua_cons (pu_ix (u1 hr) (pu_var 0) pu_int (fun _ _ => rfl) (fun _ _ => rfl)) pua_nil)))) (puw_or1 (put_not (put_val (pu_isi (x := "tuple") (T := "tuple") (pu_ix (u1 hr) (pu_var 0) pu_int (fun _ _ => rfl) (fun _ _ => rfl)) rfl m_isinstance rfl m_tuple (by decide +kernel) (by decide)))))))) (puss_cons (pus_ret pu_bl) puss_nil) puss_nil) (puss_cons (pus_if (put_not (put_val (pu_callB (cr_all rfl) gc_all rfl m_all boot_all (pua_cons (pu_lc (own := [("pair", 1)]) (is := [1]) rfl nd (pui_any (pu_ix (u1 hr) (pu_var 0) pu_int (fun _ _ => rfl) (fun _ _ => rfl))) (blkOk_by (N := ["value", "pair", "name", "factor", "one", "other"]) (sc := defScope s_is_form) (by decide +kernel)) gp_one tp_yes (by decide) (fun _ _ _ _ _ => (pg_name (i := 1) nd rfl (Or.inl rfl))) (fun _ _ _ _ _ => pts_nil) (fun _ _ _ _ _ => (pu_and (pu_callD D_is_tuple_of hr rfl (pua_cons (pu_var 1) (pua_cons pu_int pua_nil))) (pu_and (pu_callD D_is_name hr rfl (pua_cons (pu_ix (u1 hr) (pu_var 1) pu_int (fun _ _ => rfl) (fun _ _ => rfl)) pua_nil)) (pu_one (pu_callD D_is_whole hr rfl (pua_cons (pu_ix (u1 hr) (pu_var 1) pu_int (fun _ _ => rfl) (fun _ _ => rfl)) pua_nil))))))) pua_nil)))) (puss_cons (pus_ret pu_bl) puss_nil) puss_nil) (puss_cons (pus_if (put_not (put_val (pu_callB (cr_all rfl) gc_all rfl m_all boot_all (pua_cons (pu_lc (own := [("name", 2), ("factor", 3)]) (is := [2, 3]) rfl nd (pui_any (pu_ix (u1 hr) (pu_var 0) pu_int (fun _ _ => rfl) (fun _ _ => rfl))) (blkOk_by (N := ["value", "pair", "name", "factor", "one", "other"]) (sc := defScope s_is_form) (by decide +kernel)) gp_tup2 tp_yes (by decide) (fun _ _ _ _ _ => (pg_tup rfl (pgs_cons (pg_name (i := 2) nd rfl (Or.inl rfl)) (pgs_cons (pg_name (i := 3) nd rfl (Or.inl rfl)) pgs_nil)))) (fun _ _ _ _ _ => pts_nil) (fun _ _ _ _ _ => (pu_cmp (o_ne (u64 hr)) g_ne (pu_var 3) pu_int (nomark _)))) pua_nil)))) (puss_cons (pus_ret pu_bl) puss_nil) puss_nil) (puss_cons (pus_ret (pu_callB (cr_all rfl) gc_all rfl m_all boot_all (pua_cons (pu_lc (own := [("one", 4), ("other", 5)]) (is := [4, 5]) rfl nd (pui_zip (pu_ix (u1 hr) (pu_var 0) pu_int (fun _ _ => rfl) (fun _ _ => rfl)) (pu_sl (pu_ix (u1 hr) (pu_var 0) pu_int (fun _ _ => rfl) (fun _ _ => rfl)) (puo_some pu_int) puo_none) rfl m_zip) (blkOk_by (N := ["value", "pair", "name", "factor", "one", "other"]) (sc := defScope s_is_form) (by decide +kernel)) gp_tup2 tp_yes (by decide) (fun _ _ _ _ _ => (pg_tup rfl (pgs_cons (pg_name (i := 4) nd rfl (Or.inl rfl)) (pgs_cons (pg_name (i := 5) nd rfl (Or.inl rfl)) pgs_nil)))) (fun _ _ _ _ _ => pts_nil) (fun _ _ _ _ _ => (pu_cmp o_lt g_lt (pu_ix (u1 hr) (pu_var 4) pu_int (fun _ _ => rfl) (fun _ _ => rfl)) (pu_ix (u1 hr) (pu_var 5) pu_int (fun _ _ => rfl) (fun _ _ => rfl)) (nomark _)))) pua_nil))) puss_nil))))


abbrev s_is_word_there : Stmt := topS 17
theorem sc_is_word_there : FnScope ["value", "sign"] ["value"] (defScope s_is_word_there) := ⟨rfl, rfl, rfl, by decide +kernel, rfl, by decide +kernel, by decide +kernel⟩
def F_is_word_there  : Ev → Option Out := (fSeq (fIfS (fOr (fNot (fT (fIsi (fVar 0) ["str"]))) (fOr (fNot (fChain gLt gLt (fC (.int 0)) (fCall gLen (fCons (fVar 0) fNil)) (fC (.int 9)))) (fNot (fT (fCall gAll (fCons (fComp (fIt (fVar 0)) asOne [1] [1] (fun _ => some true) (fB (fChain gLe gLe (fC (.str "a")) (fVar 1) (fC (.str "z"))))) fNil)))))) (fSeq (fRet (fC (.bool false))) fNext) fNext) (fSeq (fRet (fB (f2T gNiD (f2 gAdd (f2 gAdd (fC (.str " ")) (fVar 0)) (fC (.str " "))) (fC (.str " and call draw either else from give if into maybe or pass set to while "))))) fNext))
theorem d_is_word_there {k : Nat}  {u_WORDS : Value} (D : DefAt K mg "is_word_there" "is_word_there" s_is_word_there ["value"]) (c_WORDS : RelV (.str " and call draw either else from give if into maybe or pass set to while ") u_WORDS ∧ mg "WORDS" = some u_WORDS) (m_all : mg "all" = none) (m_len : mg "len" = none) (m_isinstance : mg "isinstance" = none) (m_str : mg "str" = none) : DefP P w K mg base "is_word_there" (k + 1) ["value"] (runF ["value", "sign"] 1 (F_is_word_there )) :=
  defP_of D sc_is_word_there fun f cdv A outer s H E hr nd => (puss_cons (pus_if (put_w (puw_or (put_not (put_val (pu_isi (x := "str") (T := "str") (pu_var 0) rfl m_isinstance rfl m_str (by decide +kernel) (by decide)))) (puw_or (put_not (put_chain o_lt g_lt o_lt g_lt pu_int (pu_callB c_len gc_len rfl m_len boot_len (pua_cons (pu_var 0) pua_nil)) pu_int)) (puw_or1 (put_not (put_val (pu_callB (cr_all rfl) gc_all rfl m_all boot_all (pua_cons (pu_lc (own := [("sign", 1)]) (is := [1]) rfl nd (pui_any (pu_var 0)) (blkOk_by (N := ["value", "sign"]) (sc := defScope s_is_word_there) (by decide +kernel)) gp_one tp_yes (by decide) (fun _ _ _ _ _ => (pg_name (i := 1) nd rfl (Or.inl rfl))) (fun _ _ _ _ _ => pts_nil) (fun _ _ _ _ _ => (pu_chain o_le g_le o_le g_le pu_str (pu_var 1) pu_str))) pua_nil)))))))) (puss_cons (pus_ret pu_bl) puss_nil) puss_nil) (puss_cons (pus_ret (pu_ni (u1 hr) (pu_op o_add g_add (pu_op o_add g_add pu_str (pu_var 0)) pu_str) (pu_c (pe_glob (v := .str " and call draw either else from give if into maybe or pass set to while ") rfl c_WORDS.2 c_WORDS.1) fun _ => .str _))) puss_nil))


abbrev s_is_own_form : Stmt := topS 18
theorem sc_is_own_form : FnScope ["value", "name", "_"] ["value"] (defScope s_is_own_form) := ⟨rfl, rfl, rfl, by decide +kernel, rfl, by decide +kernel, by decide +kernel⟩
def F_is_own_form (g_is_word_there : List PyData → Option PyData) (g_is_form : List PyData → Option PyData) : Ev → Option Out := (fSeq (fRet (fAndV (fCall g_is_form (fCons (fVar 0) fNil)) (fCall gAll (fCons (fComp (fIt (f2 gIx (fVar 0) (fC (.int 1)))) (asTup 2) [1, 2] [1, 2] (fun _ => some true) (fCall g_is_word_there (fCons (fVar 1) fNil))) fNil)))) fNext)
theorem d_is_own_form {k : Nat} {g_is_word_there : List PyData → Option PyData} {g_is_form : List PyData → Option PyData}  (D : DefAt K mg "is_own_form" "is_own_form" s_is_own_form ["value"]) (m_all : mg "all" = none) (D_is_word_there : DefP P w K mg base "is_word_there" k ["value"] g_is_word_there) (D_is_form : DefP P w K mg base "is_form" k ["value"] g_is_form) : DefP P w K mg base "is_own_form" (k + 1) ["value"] (runF ["value", "name", "_"] 1 (F_is_own_form g_is_word_there g_is_form)) :=
  defP_of D sc_is_own_form fun f cdv A outer s H E hr nd => (puss_cons (pus_ret (pu_and (pu_callD D_is_form hr rfl (pua_cons (pu_var 0) pua_nil)) (pu_one (pu_callB (cr_all rfl) gc_all rfl m_all boot_all (pua_cons (pu_lc (own := [("name", 1), ("_", 2)]) (is := [1, 2]) rfl nd (pui_any (pu_ix (u1 hr) (pu_var 0) pu_int (fun _ _ => rfl) (fun _ _ => rfl))) (blkOk_by (N := ["value", "name", "_"]) (sc := defScope s_is_own_form) (by decide +kernel)) gp_tup2 tp_yes (by decide) (fun _ _ _ _ _ => (pg_tup rfl (pgs_cons (pg_name (i := 1) nd rfl (Or.inl rfl)) (pgs_cons (pg_name (i := 2) nd rfl (Or.inl rfl)) pgs_nil)))) (fun _ _ _ _ _ => pts_nil) (fun _ _ _ _ _ => (pu_callD D_is_word_there hr rfl (pua_cons (pu_var 1) pua_nil)))) pua_nil))))) puss_nil)


abbrev s_is_headed : Stmt := topS 19
theorem sc_is_headed : FnScope ["value", "words", "size"] ["value", "words", "size"] (defScope s_is_headed) := ⟨rfl, rfl, rfl, by decide +kernel, rfl, by decide +kernel, by decide +kernel⟩
def F_is_headed  : Ev → Option Out := (fSeq (fRet (fAndV (fIsi (fVar 0) ["tuple"]) (fAndV (fB (f2T gEq (fCall gLen (fCons (fVar 0) fNil)) (fVar 2))) (fAndV (fIsi (f2 gIx (fVar 0) (fC (.int 0))) ["str"]) (fB (f2T gInD (f2 gIx (fVar 0) (fC (.int 0))) (fVar 1))))))) fNext)
theorem d_is_headed {k : Nat}   (D : DefAt K mg "is_headed" "is_headed" s_is_headed ["value", "words", "size"]) (m_isinstance : mg "isinstance" = none) (m_str : mg "str" = none) (m_len : mg "len" = none) (m_tuple : mg "tuple" = none) : DefP P w K mg base "is_headed" (k + 1) ["value", "words", "size"] (runF ["value", "words", "size"] 3 (F_is_headed )) :=
  defP_of D sc_is_headed fun f cdv A outer s H E hr nd => (puss_cons (pus_ret (pu_and (pu_isi (x := "tuple") (T := "tuple") (pu_var 0) rfl m_isinstance rfl m_tuple (by decide +kernel) (by decide)) (pu_and (pu_cmp (o_eq (u64 hr)) g_eq (pu_callB c_len gc_len rfl m_len boot_len (pua_cons (pu_var 0) pua_nil)) (pu_var 2) (nomark _)) (pu_and (pu_isi (x := "str") (T := "str") (pu_ix (u1 hr) (pu_var 0) pu_int (fun _ _ => rfl) (fun _ _ => rfl)) rfl m_isinstance rfl m_str (by decide +kernel) (by decide)) (pu_one (pu_in (u1 hr) (pu_ix (u1 hr) (pu_var 0) pu_int (fun _ _ => rfl) (fun _ _ => rfl)) (pu_var 1))))))) puss_nil)


abbrev s_is_atom : Stmt := topS 20
theorem sc_is_atom : FnScope ["value"] ["value"] (defScope s_is_atom) := ⟨rfl, rfl, rfl, by decide +kernel, rfl, by decide +kernel, by decide +kernel⟩
def F_is_atom (g_is_headed : List PyData → Option PyData) (g_is_own_form : List PyData → Option PyData) : Ev → Option Out := (fSeq (fIfS (fT (fCall g_is_headed (fCons (fVar 0) (fCons (fTup (fCons (fC (.str "least")) (fCons (fC (.str "is")) (fCons (fC (.str "not")) fNil)))) (fCons (fC (.int 2)) fNil))))) (fSeq (fRet (fCall g_is_own_form (fCons (f2 gIx (fVar 0) (fC (.int 1))) fNil))) fNext) fNext) (fSeq (fRet (fCall g_is_headed (fCons (fVar 0) (fCons (fTup (fCons (fC (.str "maybe")) fNil)) (fCons (fC (.int 1)) fNil))))) fNext))
theorem d_is_atom {k : Nat} {g_is_headed : List PyData → Option PyData} {g_is_own_form : List PyData → Option PyData}  (D : DefAt K mg "is_atom" "is_atom" s_is_atom ["value"]) (D_is_headed : DefP P w K mg base "is_headed" k ["value", "words", "size"] g_is_headed) (D_is_own_form : DefP P w K mg base "is_own_form" k ["value"] g_is_own_form) : DefP P w K mg base "is_atom" (k + 1) ["value"] (runF ["value"] 1 (F_is_atom g_is_headed g_is_own_form)) :=
  defP_of D sc_is_atom fun f cdv A outer s H E hr nd => (puss_cons (pus_if (put_val (pu_callD D_is_headed hr rfl (pua_cons (pu_var 0) (pua_cons (pu_tup (pua_cons pu_str (pua_cons pu_str (pua_cons pu_str pua_nil)))) (pua_cons pu_int pua_nil))))) (puss_cons (pus_ret (pu_callD D_is_own_form hr rfl (pua_cons (pu_ix (u1 hr) (pu_var 0) pu_int (fun _ _ => rfl) (fun _ _ => rfl)) pua_nil))) puss_nil) puss_nil) (puss_cons (pus_ret (pu_callD D_is_headed hr rfl (pua_cons (pu_var 0) (pua_cons (pu_tup (pua_cons pu_str pua_nil)) (pua_cons pu_int pua_nil))))) puss_nil))


abbrev s_has_one : Stmt := topS 21
theorem sc_has_one : FnScope ["test"] ["test"] (defScope s_has_one) := ⟨rfl, rfl, rfl, by decide +kernel, rfl, by decide +kernel, by decide +kernel⟩
def F_has_one (g_has_one : List PyData → Option PyData) : Ev → Option Out := (fSeq (fRet (fOrV (fB (f2T gEq (f2 gIx (fVar 0) (fC (.int 0))) (fC (.str "one")))) (fAndV (fB (f2T gEq (f2 gIx (fVar 0) (fC (.int 0))) (fC (.str "both")))) (fCall g_has_one (fCons (f2 gIx (fVar 0) (fC (.int 1))) fNil))))) fNext)
theorem d_has_one {k : Nat} {g_has_one : List PyData → Option PyData}  (D : DefAt K mg "has_one" "has_one" s_has_one ["test"]) (D_has_one : DefP P w K mg base "has_one" k ["test"] g_has_one) : DefP P w K mg base "has_one" (k + 1) ["test"] (runF ["test"] 1 (F_has_one g_has_one)) :=
  defP_of D sc_has_one fun f cdv A outer s H E hr nd => (puss_cons (pus_ret (pu_or (pu_cmp (o_eq (u64 hr)) g_eq (pu_ix (u1 hr) (pu_var 0) pu_int (fun _ _ => rfl) (fun _ _ => rfl)) pu_str (nomark _)) (pu_one (pu_and (pu_cmp (o_eq (u64 hr)) g_eq (pu_ix (u1 hr) (pu_var 0) pu_int (fun _ _ => rfl) (fun _ _ => rfl)) pu_str (nomark _)) (pu_one (pu_callD D_has_one hr rfl (pua_cons (pu_ix (u1 hr) (pu_var 0) pu_int (fun _ _ => rfl) (fun _ _ => rfl)) pua_nil))))))) puss_nil)


abbrev s_is_test : Stmt := topS 22
theorem sc_is_test : FnScope ["value"] ["value"] (defScope s_is_test) := ⟨rfl, rfl, rfl, by decide +kernel, rfl, by decide +kernel, by decide +kernel⟩
def F_is_test (g_is_atom : List PyData → Option PyData) (g_is_headed : List PyData → Option PyData) (g_is_test : List PyData → Option PyData) (g_has_one : List PyData → Option PyData) : Ev → Option Out := (fSeq (fIfS (fT (fCall g_is_headed (fCons (fVar 0) (fCons (fTup (fCons (fC (.str "both")) fNil)) (fCons (fC (.int 3)) fNil))))) (fSeq (fRet (fAndV (fCall g_is_test (fCons (f2 gIx (fVar 0) (fC (.int 1))) fNil)) (fAndV (fB (fNot (fT (fCall g_has_one (fCons (f2 gIx (fVar 0) (fC (.int 1))) fNil))))) (fCall g_is_atom (fCons (f2 gIx (fVar 0) (fC (.int 2))) fNil))))) fNext) fNext) (fSeq (fIfS (fT (fCall g_is_headed (fCons (fVar 0) (fCons (fTup (fCons (fC (.str "one")) fNil)) (fCons (fC (.int 3)) fNil))))) (fSeq (fRet (fAndV (fCall g_is_test (fCons (f2 gIx (fVar 0) (fC (.int 1))) fNil)) (fAndV (fCall g_is_test (fCons (f2 gIx (fVar 0) (fC (.int 2))) fNil)) (fB (f2T gNe (f2 gIx (f2 gIx (fVar 0) (fC (.int 2))) (fC (.int 0))) (fC (.str "one"))))))) fNext) fNext) (fSeq (fRet (fCall g_is_atom (fCons (fVar 0) fNil))) fNext)))
theorem d_is_test {k : Nat} {g_is_atom : List PyData → Option PyData} {g_is_headed : List PyData → Option PyData} {g_is_test : List PyData → Option PyData} {g_has_one : List PyData → Option PyData}  (D : DefAt K mg "is_test" "is_test" s_is_test ["value"]) (D_is_atom : DefP P w K mg base "is_atom" k ["value"] g_is_atom) (D_is_headed : DefP P w K mg base "is_headed" k ["value", "words", "size"] g_is_headed) (D_is_test : DefP P w K mg base "is_test" k ["value"] g_is_test) (D_has_one : DefP P w K mg base "has_one" k ["test"] g_has_one) : DefP P w K mg base "is_test" (k + 1) ["value"] (runF ["value"] 1 (F_is_test g_is_atom g_is_headed g_is_test g_has_one)) :=
  defP_of D sc_is_test fun f cdv A outer s H E hr nd => (puss_cons (pus_if (put_val (pu_callD D_is_headed hr rfl (pua_cons (pu_var 0) (pua_cons (pu_tup (pua_cons pu_str pua_nil)) (pua_cons pu_int pua_nil))))) (puss_cons (pus_ret (pu_and (pu_callD D_is_test hr rfl (pua_cons (pu_ix (u1 hr) (pu_var 0) pu_int (fun _ _ => rfl) (fun _ _ => rfl)) pua_nil)) (pu_and (pu_not (pu_callD D_has_one hr rfl (pua_cons (pu_ix (u1 hr) (pu_var 0) pu_int (fun _ _ => rfl) (fun _ _ => rfl)) pua_nil))) (pu_one (pu_callD D_is_atom hr rfl (pua_cons (pu_ix (u1 hr) (pu_var 0) pu_int (fun _ _ => rfl) (fun _ _ => rfl)) pua_nil)))))) puss_nil) puss_nil) (puss_cons (pus_if (put_val (pu_callD D_is_headed hr rfl (pua_cons (pu_var 0) (pua_cons (pu_tup (pua_cons pu_str pua_nil)) (pua_cons pu_int pua_nil))))) (puss_cons (pus_ret (pu_and (pu_callD D_is_test hr rfl (pua_cons (pu_ix (u1 hr) (pu_var 0) pu_int (fun _ _ => rfl) (fun _ _ => rfl)) pua_nil)) (pu_and (pu_callD D_is_test hr rfl (pua_cons (pu_ix (u1 hr) (pu_var 0) pu_int (fun _ _ => rfl) (fun _ _ => rfl)) pua_nil)) (pu_one (pu_cmp (o_ne (u64 hr)) g_ne (pu_ix (u1 hr) (pu_ix (u1 hr) (pu_var 0) pu_int (fun _ _ => rfl) (fun _ _ => rfl)) pu_int (fun _ _ => rfl) (fun _ _ => rfl)) pu_str (nomark _)))))) puss_nil) puss_nil) (puss_cons (pus_ret (pu_callD D_is_atom hr rfl (pua_cons (pu_var 0) pua_nil))) puss_nil)))


abbrev s_check_test : Stmt := topS 23
theorem sc_check_test : FnScope ["value"] ["value"] (defScope s_check_test) := ⟨rfl, rfl, rfl, by decide +kernel, rfl, by decide +kernel, by decide +kernel⟩
def F_check_test (g_is_test : List PyData → Option PyData) : Ev → Option Out := (fSeq (fIfS (fNot (fT (fCall g_is_test (fCons (fVar 0) fNil)))) (fSeq (fun _ => none) fNext) fNext) fNext)
theorem d_check_test {k : Nat} {g_is_test : List PyData → Option PyData}  (D : DefAt K mg "check_test" "check_test" s_check_test ["value"]) (D_is_test : DefP P w K mg base "is_test" k ["value"] g_is_test) : DefP P w K mg base "check_test" (k + 1) ["value"] (runF ["value"] 1 (F_check_test g_is_test)) :=
  defP_of D sc_check_test fun f cdv A outer s H E hr nd => (puss_cons (pus_if (put_not (put_val (pu_callD D_is_test hr rfl (pua_cons (pu_var 0) pua_nil)))) (puss_cons pus_no puss_nil) puss_nil) puss_nil)


end
end K87

set_option Elab.async false
set_option linter.all false
set_option maxRecDepth 100000
set_option maxHeartbeats 4000000
namespace K87
open PySem PySem.Spec PyProof.Rows L2 Pu
section
variable {P : Program} {w : World} {K : PySem.W.Frag} {mg : Str → Option Value} {base : Heap}
abbrev s_term_text : Stmt := topS 25
theorem sc_term_text : FnScope ["name", "factor"] ["name", "factor"] (defScope s_term_text) := ⟨rfl, rfl, rfl, by decide +kernel, rfl, by decide +kernel, by decide +kernel⟩
def F_term_text  : Ev → Option Out := (fSeq (fRet (fIf (f2T gInD (fVar 1) (fTup (fCons (fC (.int 1)) (fCons (fNeg (fC (.int 1))) fNil)))) (fVar 0) (f2 gAdd (f2 gAdd (fCall gStr (fCons (fCall gAbs (fCons (fVar 1) fNil)) fNil)) (fC (.str " "))) (fVar 0)))) fNext)
theorem d_term_text {k : Nat}   (D : DefAt K mg "term_text" "term_text" s_term_text ["name", "factor"]) (m_abs : mg "abs" = none) (m_str : mg "str" = none) : DefP P w K mg base "term_text" (k + 1) ["name", "factor"] (runF ["name", "factor"] 2 (F_term_text )) :=
  defP_of D sc_term_text fun f cdv A outer s H E hr nd => (puss_cons (pus_ret (pu_ifE (put_in (u1 hr) (pu_var 1) (pu_tup (pua_cons pu_int (pua_cons (pu_neg pu_int) pua_nil)))) (pu_var 0) (pu_op o_add g_add (pu_op o_add g_add (pu_callTy call_str_int gc_str rfl m_str boot_str (pua_cons (pu_callB call_abs gc_abs rfl m_abs boot_abs (pua_cons (pu_var 1) pua_nil)) pua_nil)) pu_str) (pu_var 0)))) puss_nil)


abbrev s_form_told : Stmt := topS 26
theorem sc_form_told : FnScope ["form", "terms", "name", "factor", "found", "text"] ["form"] (defScope s_form_told) := ⟨rfl, rfl, rfl, by decide +kernel, rfl, by decide +kernel, by decide +kernel⟩
def F_form_told (g_term_text : List PyData → Option PyData) : Ev → Option Out := (fOwnLc 1 (fComp (fIt (f2 gIx (fVar 0) (fC (.int 1)))) (asTup 2) [2, 3] [2, 3] (fun _ => some true) (fTup (fCons (fVar 3) (fCons (fCall g_term_text (fCons (fVar 2) (fCons (fVar 3) fNil))) fNil)))) (fSeqB (fIfB (fOr (f2T gNe (f2 gIx (fVar 0) (fC (.int 0))) (fC (.int 0))) (f2T gEq (fVar 1) (fLst fNil))) (fSeqB (fApp 1 (fTup (fCons (f2 gIx (fVar 0) (fC (.int 0))) (fCons (fCall gStr (fCons (fCall gAbs (fCons (f2 gIx (fVar 0) (fC (.int 0))) fNil)) fNil)) fNil)))) fNextB) fNextB) (fPureB (fSeq (fSet 4 (f2 gAdd (fIf (f2T gLt (f2 gIx (f2 gIx (fVar 1) (fC (.int 0))) (fC (.int 0))) (fC (.int 0))) (fC (.str "-")) (fC (.str ""))) (f2 gIx (f2 gIx (fVar 1) (fC (.int 0))) (fC (.int 1))))) (fSeq (fFor (fIt (fSl (fVar 1) (fO (fC (.int 1))) fO0)) (asTup 2) [3, 5] (fSeq (fSet 4 (f2 gAdd (f2 gAdd (fVar 4) (fIf (f2T gLt (fVar 3) (fC (.int 0))) (fC (.str " - ")) (fC (.str " + ")))) (fVar 5))) fNext)) (fSeq (fRet (fVar 4)) fNext))))))
theorem d_form_told {k : Nat} {g_term_text : List PyData → Option PyData}  (D : DefAt K mg "form_told" "form_told" s_form_told ["form"]) (m_abs : mg "abs" = none) (m_str : mg "str" = none) (D_term_text : DefP P w K mg base "term_text" k ["name", "factor"] g_term_text) : DefP P w K mg base "form_told" (k + 1) ["form"] (runF ["form", "terms", "name", "factor", "found", "text"] 1 (F_form_told g_term_text)) :=
  defP_of D sc_form_told fun f cdv A outer s H E hr nd => (puss_ownLc (i := 1) (own := [("name", 2), ("factor", 3)]) (is := [2, 3]) rfl nd rfl rfl (sw_true rfl rfl rfl (by decide +kernel)) (pui_any (pu_ix (u1 hr) (pu_var 0) pu_int (fun _ _ => rfl) (fun _ _ => rfl))) (blkOk_by (N := ["form", "terms", "name", "factor", "found", "text"]) (sc := defScope s_form_told) (by decide +kernel)) gp_tup2 tp_yes (by decide) (fun _ _ _ _ _ => (pg_tup rfl (pgs_cons (pg_name (i := 2) nd rfl (Or.inl rfl)) (pgs_cons (pg_name (i := 3) nd rfl (Or.inl rfl)) pgs_nil)))) (fun _ _ _ _ _ => pts_nil) (fun _ _ _ _ _ => (pu_tup (pua_cons (pu_var 3) (pua_cons (pu_callD D_term_text hr rfl (pua_cons (pu_var 2) (pua_cons (pu_var 3) pua_nil))) pua_nil)))) (pubs_cons (pub_if (put_w (puw_or (put_cmp (o_ne (u64 hr)) g_ne (pu_ix (u1 hr) (pu_var 0) pu_int (fun _ _ => rfl) (fun _ _ => rfl)) pu_int (nomark _)) (puw_or1 (put_cmp (o_eq (u64 hr)) g_eq (pu_var 1) (pu_lst pua_nil) (nomark _))))) (pubs_cons (pub_app (i := 1) rfl (Or.inl rfl) (pu_tup (pua_cons (pu_ix (u1 hr) (pu_var 0) pu_int (fun _ _ => rfl) (fun _ _ => rfl)) (pua_cons (pu_callTy call_str_int gc_str rfl m_str boot_str (pua_cons (pu_callB call_abs gc_abs rfl m_abs boot_abs (pua_cons (pu_ix (u1 hr) (pu_var 0) pu_int (fun _ _ => rfl) (fun _ _ => rfl)) pua_nil)) pua_nil)) pua_nil)))) pubs_nil) pubs_nil) (pubs_pure (puss_cons (pus_set (i := 4) nd rfl (Or.inl rfl) (pu_op o_add g_add (pu_ifE (put_cmp o_lt g_lt (pu_ix (u1 hr) (pu_ix (u1 hr) (pu_var 1) pu_int (fun _ _ => rfl) (fun _ _ => rfl)) pu_int (fun _ _ => rfl) (fun _ _ => rfl)) pu_int (nomark _)) pu_str pu_str) (pu_ix (u1 hr) (pu_ix (u1 hr) (pu_var 1) pu_int (fun _ _ => rfl) (fun _ _ => rfl)) pu_int (fun _ _ => rfl) (fun _ _ => rfl)))) (puss_cons (pus_for PassesOwn.never rfl (pui_any (pu_sl (pu_var 1) (puo_some pu_int) puo_none)) (is := [3, 5]) gp_tup2 (pg_tup rfl (pgs_cons (pg_name (i := 3) nd rfl (Or.inl rfl)) (pgs_cons (pg_name (i := 5) nd rfl (Or.inl rfl)) pgs_nil))) (puss_cons (pus_set (i := 4) nd rfl (Or.inl rfl) (pu_op o_add g_add (pu_op o_add g_add (pu_var 4) (pu_ifE (put_cmp o_lt g_lt (pu_var 3) pu_int (nomark _)) pu_str pu_str)) (pu_var 5))) puss_nil)) (puss_cons (pus_ret (pu_var 4)) puss_nil))))))


abbrev s_side_of : Stmt := topS 27
theorem sc_side_of : FnScope ["form", "sign", "pairs", "name", "factor"] ["form", "sign"] (defScope s_side_of) := ⟨rfl, rfl, rfl, by decide +kernel, rfl, by decide +kernel, by decide +kernel⟩
def F_side_of  : Ev → Option Out := (fSeq (fSet 2 (fCall gTuple (fCons (fComp (fIt (f2 gIx (fVar 0) (fC (.int 1)))) (asTup 2) [3, 4] [3, 4] (f2T gGt (f2 gMul (fVar 4) (fVar 1)) (fC (.int 0))) (fTup (fCons (fVar 3) (fCons (fCall gAbs (fCons (fVar 4) fNil)) fNil)))) fNil))) (fSeq (fRet (fTup (fCons (fIf (f2T gGt (f2 gMul (f2 gIx (fVar 0) (fC (.int 0))) (fVar 1)) (fC (.int 0))) (fCall gAbs (fCons (f2 gIx (fVar 0) (fC (.int 0))) fNil)) (fC (.int 0))) (fCons (fVar 2) fNil)))) fNext))
theorem d_side_of {k : Nat}   (D : DefAt K mg "side_of" "side_of" s_side_of ["form", "sign"]) (m_abs : mg "abs" = none) (m_tuple : mg "tuple" = none) : DefP P w K mg base "side_of" (k + 1) ["form", "sign"] (runF ["form", "sign", "pairs", "name", "factor"] 2 (F_side_of )) :=
  defP_of D sc_side_of fun f cdv A outer s H E hr nd => (puss_cons (pus_set (i := 2) nd rfl (Or.inl rfl) (pu_callTy call_tuple_of gc_tuple rfl m_tuple boot_tuple (pua_cons (pu_lc (own := [("name", 3), ("factor", 4)]) (is := [3, 4]) rfl nd (pui_any (pu_ix (u1 hr) (pu_var 0) pu_int (fun _ _ => rfl) (fun _ _ => rfl))) (blkOk_by (N := ["form", "sign", "pairs", "name", "factor"]) (sc := defScope s_side_of) (by decide +kernel)) gp_tup2 tp_self (by decide) (fun _ _ _ _ _ => (pg_tup rfl (pgs_cons (pg_name (i := 3) nd rfl (Or.inl rfl)) (pgs_cons (pg_name (i := 4) nd rfl (Or.inl rfl)) pgs_nil)))) (fun _ _ _ _ _ => pts_one ((put_cmp o_gt g_gt (pu_op o_mul g_mul (pu_var 4) (pu_var 1)) pu_int (nomark _))).pt) (fun _ _ _ _ _ => (pu_tup (pua_cons (pu_var 3) (pua_cons (pu_callB call_abs gc_abs rfl m_abs boot_abs (pua_cons (pu_var 4) pua_nil)) pua_nil))))) pua_nil))) (puss_cons (pus_ret (pu_tup (pua_cons (pu_ifE (put_cmp o_gt g_gt (pu_op o_mul g_mul (pu_ix (u1 hr) (pu_var 0) pu_int (fun _ _ => rfl) (fun _ _ => rfl)) (pu_var 1)) pu_int (nomark _)) (pu_callB call_abs gc_abs rfl m_abs boot_abs (pua_cons (pu_ix (u1 hr) (pu_var 0) pu_int (fun _ _ => rfl) (fun _ _ => rfl)) pua_nil)) pu_int) (pua_cons (pu_var 2) pua_nil)))) puss_nil))


abbrev s_test_told : Stmt := topS 28
theorem sc_test_told : FnScope ["test", "signs"] ["test"] (defScope s_test_told) := ⟨rfl, rfl, rfl, by decide +kernel, rfl, by decide +kernel, by decide +kernel⟩
def F_test_told (g_form_told : List PyData → Option PyData) (g_side_of : List PyData → Option PyData) (g_test_told : List PyData → Option PyData) : Ev → Option Out := (fSeq (fIfS (f2T gInD (f2 gIx (fVar 0) (fC (.int 0))) (fTup (fCons (fC (.str "both")) (fCons (fC (.str "one")) fNil)))) (fSeq (fRet (f2 gAdd (f2 gAdd (fCall g_test_told (fCons (f2 gIx (fVar 0) (fC (.int 1))) fNil)) (fIf (f2T gEq (f2 gIx (fVar 0) (fC (.int 0))) (fC (.str "both"))) (fC (.str " and ")) (fC (.str " or ")))) (fCall g_test_told (fCons (f2 gIx (fVar 0) (fC (.int 2))) fNil)))) fNext) fNext) (fSeq (fIfS (f2T gEq (f2 gIx (fVar 0) (fC (.int 0))) (fC (.str "maybe"))) (fSeq (fRet (fC (.str "maybe"))) fNext) fNext) (fSeq (fSet 1 (fDict [(.inr "least", (fC (.str " >= "))), (.inr "is", (fC (.str " == "))), (.inr "not", (fC (.str " != ")))])) (fSeq (fRet (f2 gAdd (f2 gAdd (fCall g_form_told (fCons (fCall g_side_of (fCons (f2 gIx (fVar 0) (fC (.int 1))) (fCons (fC (.int 1)) fNil))) fNil)) (f2 gIx (fVar 1) (f2 gIx (fVar 0) (fC (.int 0))))) (fCall g_form_told (fCons (fCall g_side_of (fCons (f2 gIx (fVar 0) (fC (.int 1))) (fCons (fNeg (fC (.int 1))) fNil))) fNil)))) fNext))))
theorem d_test_told {k : Nat} {g_form_told : List PyData → Option PyData} {g_side_of : List PyData → Option PyData} {g_test_told : List PyData → Option PyData}  (D : DefAt K mg "test_told" "test_told" s_test_told ["test"]) (D_form_told : DefP P w K mg base "form_told" k ["form"] g_form_told) (D_side_of : DefP P w K mg base "side_of" k ["form", "sign"] g_side_of) (D_test_told : DefP P w K mg base "test_told" k ["test"] g_test_told) : DefP P w K mg base "test_told" (k + 1) ["test"] (runF ["test", "signs"] 1 (F_test_told g_form_told g_side_of g_test_told)) :=
  defP_of D sc_test_told fun f cdv A outer s H E hr nd => (puss_cons (pus_if (put_in (u1 hr) (pu_ix (u1 hr) (pu_var 0) pu_int (fun _ _ => rfl) (fun _ _ => rfl)) (pu_tup (pua_cons pu_str (pua_cons pu_str pua_nil)))) (puss_cons (pus_ret (pu_op o_add g_add (pu_op o_add g_add (pu_callD D_test_told hr rfl (pua_cons (pu_ix (u1 hr) (pu_var 0) pu_int (fun _ _ => rfl) (fun _ _ => rfl)) pua_nil)) (pu_ifE (put_cmp (o_eq (u64 hr)) g_eq (pu_ix (u1 hr) (pu_var 0) pu_int (fun _ _ => rfl) (fun _ _ => rfl)) pu_str (nomark _)) pu_str pu_str)) (pu_callD D_test_told hr rfl (pua_cons (pu_ix (u1 hr) (pu_var 0) pu_int (fun _ _ => rfl) (fun _ _ => rfl)) pua_nil)))) puss_nil) puss_nil) (puss_cons (pus_if (put_cmp (o_eq (u64 hr)) g_eq (pu_ix (u1 hr) (pu_var 0) pu_int (fun _ _ => rfl) (fun _ _ => rfl)) pu_str (nomark _)) (puss_cons (pus_ret pu_str) puss_nil) puss_nil) (puss_cons (pus_set (i := 1) nd rfl (Or.inl rfl) (pu_dic (.str pu_str (.str pu_str (.str pu_str .nil))) (by decide) (by decide) (by decide +kernel))) (puss_cons (pus_ret (pu_op o_add g_add (pu_op o_add g_add (pu_callD D_form_told hr rfl (pua_cons (pu_callD D_side_of hr rfl (pua_cons (pu_ix (u1 hr) (pu_var 0) pu_int (fun _ _ => rfl) (fun _ _ => rfl)) (pua_cons pu_int pua_nil))) pua_nil)) (pu_ix (u1 hr) (pu_var 1) (pu_ix (u1 hr) (pu_var 0) pu_int (fun _ _ => rfl) (fun _ _ => rfl)) (fun _ _ => rfl) (fun _ _ => rfl))) (pu_callD D_form_told hr rfl (pua_cons (pu_callD D_side_of hr rfl (pua_cons (pu_ix (u1 hr) (pu_var 0) pu_int (fun _ _ => rfl) (fun _ _ => rfl)) (pua_cons (pu_neg pu_int) pua_nil))) pua_nil)))) puss_nil))))


abbrev s_test_text : Stmt := topS 29
theorem sc_test_text : FnScope ["test"] ["test"] (defScope s_test_text) := ⟨rfl, rfl, rfl, by decide +kernel, rfl, by decide +kernel, by decide +kernel⟩
def F_test_text (g_test_told : List PyData → Option PyData) (g_check_test : List PyData → Option PyData) : Ev → Option Out := (fSeq (fExp (fCall g_check_test (fCons (fVar 0) fNil))) (fSeq (fRet (fCall g_test_told (fCons (fVar 0) fNil))) fNext))
theorem d_test_text {k : Nat} {g_test_told : List PyData → Option PyData} {g_check_test : List PyData → Option PyData}  (D : DefAt K mg "test_text" "test_text" s_test_text ["test"]) (D_test_told : DefP P w K mg base "test_told" k ["test"] g_test_told) (D_check_test : DefP P w K mg base "check_test" k ["value"] g_check_test) : DefP P w K mg base "test_text" (k + 1) ["test"] (runF ["test"] 1 (F_test_text g_test_told g_check_test)) :=
  defP_of D sc_test_text fun f cdv A outer s H E hr nd => (puss_cons (pus_exp (pu_callD D_check_test hr rfl (pua_cons (pu_var 0) pua_nil))) (puss_cons (pus_ret (pu_callD D_test_told hr rfl (pua_cons (pu_var 0) pua_nil))) puss_nil))


abbrev s_is_figures : Stmt := topS 30
theorem sc_is_figures : FnScope ["word", "sign"] ["word"] (defScope s_is_figures) := ⟨rfl, rfl, rfl, by decide +kernel, rfl, by decide +kernel, by decide +kernel⟩
def F_is_figures  : Ev → Option Out := (fSeq (fRet (fAndV (fB (f2T gNe (fVar 0) (fC (.str "")))) (fCall gAll (fCons (fComp (fIt (fVar 0)) asOne [1] [1] (fun _ => some true) (fB (fChain gLe gLe (fC (.str "0")) (fVar 1) (fC (.str "9"))))) fNil)))) fNext)
theorem d_is_figures {k : Nat}   (D : DefAt K mg "is_figures" "is_figures" s_is_figures ["word"]) (m_all : mg "all" = none) : DefP P w K mg base "is_figures" (k + 1) ["word"] (runF ["word", "sign"] 1 (F_is_figures )) :=
  defP_of D sc_is_figures fun f cdv A outer s H E hr nd => (puss_cons (pus_ret (pu_and (pu_cmp (o_ne (u64 hr)) g_ne (pu_var 0) pu_str (nomark _)) (pu_one (pu_callB (cr_all rfl) gc_all rfl m_all boot_all (pua_cons (pu_lc (own := [("sign", 1)]) (is := [1]) rfl nd (pui_any (pu_var 0)) (blkOk_by (N := ["word", "sign"]) (sc := defScope s_is_figures) (by decide +kernel)) gp_one tp_yes (by decide) (fun _ _ _ _ _ => (pg_name (i := 1) nd rfl (Or.inl rfl))) (fun _ _ _ _ _ => pts_nil) (fun _ _ _ _ _ => (pu_chain o_le g_le o_le g_le pu_str (pu_var 1) pu_str))) pua_nil))))) puss_nil)


abbrev s_terms_read : Stmt := topS 31
theorem sc_terms_read : FnScope ["words", "found", "at", "sign", "is_number", "factor"] ["words"] (defScope s_terms_read) := ⟨rfl, rfl, rfl, by decide +kernel, rfl, by decide +kernel, by decide +kernel⟩
def F_terms_read (g_is_figures : List PyData → Option PyData) (g_is_word_there : List PyData → Option PyData) (WN : Ev → Nat) : Ev → Option Out := (fOwn3a 1 2 3 (fC (.int 0)) (fC (.int 1)) (fSeqB (fun ev => whileB (fT (fC (.bool true))) (fSeqB (fSetB 1 4 (fCall g_is_figures (fCons (f2 gIx (fVar 0) (fVar 2)) fNil))) (fSeqB (fIfB (fAnd (fNot (fT (fVar 4))) (fNot (fT (fCall g_is_word_there (fCons (f2 gIx (fVar 0) (fVar 2)) fNil))))) (fSeqB (fRetB (fC .none)) fNextB) fNextB) (fSeqB (fSetB 1 5 (f2 gMul (fVar 3) (fIf (fT (fVar 4)) (fCall gInt (fCons (f2 gIx (fVar 0) (fVar 2)) fNil)) (fC (.int 1))))) (fSeqB (fSetB 1 2 (f2 gAdd (fVar 2) (fCall gInt (fCons (fAndV (fVar 4) (fAndV (fB (f2T gLt (f2 gAdd (fVar 2) (fC (.int 1))) (fCall gLen (fCons (fVar 0) fNil)))) (fCall g_is_word_there (fCons (f2 gIx (fVar 0) (f2 gAdd (fVar 2) (fC (.int 1)))) fNil)))) fNil)))) (fSeqB (fApp 1 (fTup (fCons (fIf (fT (fCall g_is_word_there (fCons (f2 gIx (fVar 0) (fVar 2)) fNil))) (f2 gIx (fVar 0) (fVar 2)) (fC (.str ""))) (fCons (fVar 5) fNil)))) (fSeqB (fIfB (f2T gEq (f2 gAdd (fVar 2) (fC (.int 1))) (fCall gLen (fCons (fVar 0) fNil))) (fSeqB (fRetB (fVar 1)) fNextB) fNextB) (fSeqB (fIfB (fOr (f2T gGe (f2 gAdd (fVar 2) (fC (.int 2))) (fCall gLen (fCons (fVar 0) fNil))) (f2T gNiD (f2 gIx (fVar 0) (f2 gAdd (fVar 2) (fC (.int 1)))) (fTup (fCons (fC (.str "+")) (fCons (fC (.str "-")) fNil))))) (fSeqB (fRetB (fC .none)) fNextB) fNextB) (fSeqB (fParB2 1 2 3 (fCons (f2 gAdd (fVar 2) (fC (.int 2))) (fCons (fIf (f2T gEq (f2 gIx (fVar 0) (f2 gAdd (fVar 2) (fC (.int 1)))) (fC (.str "+"))) (fC (.int 1)) (fNeg (fC (.int 1)))) fNil))) fNextB)))))))) (WN ev) ev) fNextB))
theorem d_terms_read {k : Nat} {g_is_figures : List PyData → Option PyData} {g_is_word_there : List PyData → Option PyData} (WN : Ev → Nat)  (D : DefAt K mg "terms_read" "terms_read" s_terms_read ["words"]) (m_int : mg "int" = none) (m_len : mg "len" = none) (D_is_figures : DefP P w K mg base "is_figures" k ["word"] g_is_figures) (D_is_word_there : DefP P w K mg base "is_word_there" k ["value"] g_is_word_there) : DefP P w K mg base "terms_read" (k + 1) ["words"] (runF ["words", "found", "at", "sign", "is_number", "factor"] 1 (F_terms_read g_is_figures g_is_word_there WN)) :=
  defP_of D sc_terms_read fun f cdv A outer s H E hr nd => (puss_own3a (i := 1) (j := 2) (l := 3) nd rfl rfl rfl (by decide) (by decide) (by decide) rfl rfl rfl pu_int pu_int (pubs_cons (pub_while WN PassesOwn.never (put_val pu_bl) (pubs_cons (pub_set (i := 1) (j := 4) (by decide) nd rfl (Or.inl rfl) (pu_callD D_is_figures hr rfl (pua_cons (pu_ix (u1 hr) (pu_var 0) (pu_var 2) (fun _ _ => rfl) (fun _ _ => rfl)) pua_nil))) (pubs_cons (pub_if (put_w (puw_and (put_not (put_val (pu_var 4))) (puw_and1 (put_not (put_val (pu_callD D_is_word_there hr rfl (pua_cons (pu_ix (u1 hr) (pu_var 0) (pu_var 2) (fun _ _ => rfl) (fun _ _ => rfl)) pua_nil))))))) (pubs_cons (pub_ret pu_non) pubs_nil) pubs_nil) (pubs_cons (pub_set (i := 1) (j := 5) (by decide) nd rfl (Or.inl rfl) (pu_op o_mul g_mul (pu_var 3) (pu_ifE (put_val (pu_var 4)) (pu_callTy c_int gc_int rfl m_int boot_int (pua_cons (pu_ix (u1 hr) (pu_var 0) (pu_var 2) (fun _ _ => rfl) (fun _ _ => rfl)) pua_nil)) pu_int))) (pubs_cons (pub_set (i := 1) (j := 2) (by decide) nd rfl (Or.inl rfl) (pu_op o_add g_add (pu_var 2) (pu_callTy c_int gc_int rfl m_int boot_int (pua_cons (pu_and (pu_var 4) (pu_and (pu_cmp o_lt g_lt (pu_op o_add g_add (pu_var 2) pu_int) (pu_callB c_len gc_len rfl m_len boot_len (pua_cons (pu_var 0) pua_nil)) (nomark _)) (pu_one (pu_callD D_is_word_there hr rfl (pua_cons (pu_ix (u1 hr) (pu_var 0) (pu_op o_add g_add (pu_var 2) pu_int) (fun _ _ => rfl) (fun _ _ => rfl)) pua_nil))))) pua_nil)))) (pubs_cons (pub_app (i := 1) rfl (Or.inl rfl) (pu_tup (pua_cons (pu_ifE (put_val (pu_callD D_is_word_there hr rfl (pua_cons (pu_ix (u1 hr) (pu_var 0) (pu_var 2) (fun _ _ => rfl) (fun _ _ => rfl)) pua_nil))) (pu_ix (u1 hr) (pu_var 0) (pu_var 2) (fun _ _ => rfl) (fun _ _ => rfl)) pu_str) (pua_cons (pu_var 5) pua_nil)))) (pubs_cons (pub_if (put_cmp (o_eq (u64 hr)) g_eq (pu_op o_add g_add (pu_var 2) pu_int) (pu_callB c_len gc_len rfl m_len boot_len (pua_cons (pu_var 0) pua_nil)) (nomark _)) (pubs_cons (pub_ret (pu_var 1)) pubs_nil) pubs_nil) (pubs_cons (pub_if (put_w (puw_or (put_cmp o_ge g_ge (pu_op o_add g_add (pu_var 2) pu_int) (pu_callB c_len gc_len rfl m_len boot_len (pua_cons (pu_var 0) pua_nil)) (nomark _)) (puw_or1 (put_ni (u1 hr) (pu_ix (u1 hr) (pu_var 0) (pu_op o_add g_add (pu_var 2) pu_int) (fun _ _ => rfl) (fun _ _ => rfl)) (pu_tup (pua_cons pu_str (pua_cons pu_str pua_nil))))))) (pubs_cons (pub_ret pu_non) pubs_nil) pubs_nil) (pubs_cons (pub_par2 (i := 1) (j := 2) (l := 3) (by decide) (by decide) nd rfl rfl (by decide) rfl rfl (pua_cons (pu_op o_add g_add (pu_var 2) pu_int) (pua_cons (pu_ifE (put_cmp (o_eq (u64 hr)) g_eq (pu_ix (u1 hr) (pu_var 0) (pu_op o_add g_add (pu_var 2) pu_int) (fun _ _ => rfl) (fun _ _ => rfl)) pu_str (nomark _)) pu_int (pu_neg pu_int)) pua_nil))) pubs_nil))))))))) pubs_nil))


abbrev s_form_read : Stmt := topS 32
theorem sc_form_read : FnScope ["text", "is_below", "terms", "pairs", "name", "factor", "form"] ["text"] (defScope s_form_read) := ⟨rfl, rfl, rfl, by decide +kernel, rfl, by decide +kernel, by decide +kernel⟩
def F_form_read (g_form_told : List PyData → Option PyData) (g_is_own_form : List PyData → Option PyData) (g_terms_read : List PyData → Option PyData) : Ev → Option Out := (fSeq (fSet 1 (fB (f2T gEq (fSl (fVar 0) fO0 (fO (fC (.int 1)))) (fC (.str "-"))))) (fSeq (fSet 2 (fCall g_terms_read (fCons (fSplit (fIf (fT (fVar 1)) (fSl (fVar 0) (fO (fC (.int 1))) fO0) (fVar 0)) (fC (.str " "))) fNil))) (fSeq (fIfS (f2T isD (fVar 2) (fC .none)) (fSeq (fRet (fC .none)) fNext) fNext) (fSeq (fSet 2 (fIf (fT (fVar 1)) (fLst (fCons (fTup (fCons (f2 gIx (f2 gIx (fVar 2) (fC (.int 0))) (fC (.int 0))) (fCons (fNeg (f2 gIx (f2 gIx (fVar 2) (fC (.int 0))) (fC (.int 1)))) fNil))) (fStar (fSl (fVar 2) (fO (fC (.int 1))) fO0) fNil))) (fVar 2))) (fSeq (fSet 3 (fCall gTuple (fCons (fComp (fIt (fVar 2)) (asTup 2) [4, 5] [4, 5] (f2T gNe (fVar 4) (fC (.str ""))) (fTup (fCons (fVar 4) (fCons (fVar 5) fNil)))) fNil))) (fSeq (fSet 6 (fTup (fCons (fCall gSum (fCons (fComp (fIt (fVar 2)) (asTup 2) [4, 5] [4, 5] (f2T gEq (fVar 4) (fC (.str ""))) (fVar 5)) fNil)) (fCons (fVar 3) fNil)))) (fSeq (fRet (fIf (fAnd (fT (fCall g_is_own_form (fCons (fVar 6) fNil))) (f2T gEq (fCall g_form_told (fCons (fVar 6) fNil)) (fVar 0))) (fVar 6) (fC .none))) fNext)))))))
theorem d_form_read {k : Nat} {g_form_told : List PyData → Option PyData} {g_is_own_form : List PyData → Option PyData} {g_terms_read : List PyData → Option PyData}  (D : DefAt K mg "form_read" "form_read" s_form_read ["text"]) (m_sum : mg "sum" = none) (m_tuple : mg "tuple" = none) (D_form_told : DefP P w K mg base "form_told" k ["form"] g_form_told) (D_is_own_form : DefP P w K mg base "is_own_form" k ["value"] g_is_own_form) (D_terms_read : DefP P w K mg base "terms_read" k ["words"] g_terms_read) : DefP P w K mg base "form_read" (k + 1) ["text"] (runF ["text", "is_below", "terms", "pairs", "name", "factor", "form"] 1 (F_form_read g_form_told g_is_own_form g_terms_read)) :=
  defP_of D sc_form_read fun f cdv A outer s H E hr nd => (puss_cons (pus_set (i := 1) nd rfl (Or.inl rfl) (pu_cmp (o_eq (u64 hr)) g_eq (pu_sl (pu_var 0) puo_none (puo_some pu_int)) pu_str (nomark _))) (puss_cons (pus_set (i := 2) nd rfl (Or.inl rfl) (pu_callD D_terms_read hr rfl (pua_cons (pu_split (pu_ifE (put_val (pu_var 1)) (pu_sl (pu_var 0) (puo_some pu_int) puo_none) (pu_var 0)) pu_str) pua_nil))) (puss_cons (pus_if (put_cmp o_is g_is (pu_var 2) pu_non (nomark _)) (puss_cons (pus_ret pu_non) puss_nil) puss_nil) (puss_cons (pus_set (i := 2) nd rfl (Or.inl rfl) (pu_ifE (put_val (pu_var 1)) (pu_lst (pua_cons (pu_tup (pua_cons (pu_ix (u1 hr) (pu_ix (u1 hr) (pu_var 2) pu_int (fun _ _ => rfl) (fun _ _ => rfl)) pu_int (fun _ _ => rfl) (fun _ _ => rfl)) (pua_cons (pu_neg (pu_ix (u1 hr) (pu_ix (u1 hr) (pu_var 2) pu_int (fun _ _ => rfl) (fun _ _ => rfl)) pu_int (fun _ _ => rfl) (fun _ _ => rfl))) pua_nil))) (pua_star (pu_sl (pu_var 2) (puo_some pu_int) puo_none) pua_nil))) (pu_var 2))) (puss_cons (pus_set (i := 3) nd rfl (Or.inl rfl) (pu_callTy call_tuple_of gc_tuple rfl m_tuple boot_tuple (pua_cons (pu_lc (own := [("name", 4), ("factor", 5)]) (is := [4, 5]) rfl nd (pui_any (pu_var 2)) (blkOk_by (N := ["text", "is_below", "terms", "pairs", "name", "factor", "form"]) (sc := defScope s_form_read) (by decide +kernel)) gp_tup2 tp_self (by decide) (fun _ _ _ _ _ => (pg_tup rfl (pgs_cons (pg_name (i := 4) nd rfl (Or.inl rfl)) (pgs_cons (pg_name (i := 5) nd rfl (Or.inl rfl)) pgs_nil)))) (fun _ _ _ _ _ => pts_one ((put_cmp (o_ne (u64 hr)) g_ne (pu_var 4) pu_str (nomark _))).pt) (fun _ _ _ _ _ => (pu_tup (pua_cons (pu_var 4) (pua_cons (pu_var 5) pua_nil))))) pua_nil))) (puss_cons (pus_set (i := 6) nd rfl (Or.inl rfl) (pu_tup (pua_cons (pu_callB (cr_sum rfl) gc_sum rfl m_sum boot_sum (pua_cons (pu_lc (own := [("name", 4), ("factor", 5)]) (is := [4, 5]) rfl nd (pui_any (pu_var 2)) (blkOk_by (N := ["text", "is_below", "terms", "pairs", "name", "factor", "form"]) (sc := defScope s_form_read) (by decide +kernel)) gp_tup2 tp_self (by decide) (fun _ _ _ _ _ => (pg_tup rfl (pgs_cons (pg_name (i := 4) nd rfl (Or.inl rfl)) (pgs_cons (pg_name (i := 5) nd rfl (Or.inl rfl)) pgs_nil)))) (fun _ _ _ _ _ => pts_one ((put_cmp (o_eq (u64 hr)) g_eq (pu_var 4) pu_str (nomark _))).pt) (fun _ _ _ _ _ => (pu_var 5))) pua_nil)) (pua_cons (pu_var 3) pua_nil)))) (puss_cons (pus_ret (pu_ifE (put_w (puw_and (put_val (pu_callD D_is_own_form hr rfl (pua_cons (pu_var 6) pua_nil))) (puw_and1 (put_cmp (o_eq (u64 hr)) g_eq (pu_callD D_form_told hr rfl (pua_cons (pu_var 6) pua_nil)) (pu_var 0) (nomark _))))) (pu_var 6) pu_non)) puss_nil)))))))


abbrev s_atom_read : Stmt := topS 33
theorem sc_atom_read : FnScope ["text", "word", "sign", "sides", "part", "pairs", "name", "factor", "test"] ["text"] (defScope s_atom_read) := ⟨rfl, rfl, rfl, by decide +kernel, rfl, by decide +kernel, by decide +kernel⟩
def F_atom_read (g_test_told : List PyData → Option PyData) (g_is_test : List PyData → Option PyData) (g_form_read : List PyData → Option PyData) : Ev → Option Out := (fSeq (fIfS (f2T gEq (fVar 0) (fC (.str "maybe"))) (fSeq (fRet (fTup (fCons (fC (.str "maybe")) fNil))) fNext) fNext) (fSeq (fFor (fIt (fTup (fCons (fTup (fCons (fC (.str "least")) (fCons (fC (.str " >= ")) fNil))) (fCons (fTup (fCons (fC (.str "is")) (fCons (fC (.str " == ")) fNil))) (fCons (fTup (fCons (fC (.str "not")) (fCons (fC (.str " != ")) fNil))) fNil))))) (asTup 2) [1, 2] (fSeq (fSet 3 (fComp (fIt (fSplit (fVar 0) (fVar 2))) asOne [4] [4] (fun _ => some true) (fCall g_form_read (fCons (fVar 4) fNil)))) (fSeq (fIfS (fAnd (f2T gEq (fCall gLen (fCons (fVar 3) fNil)) (fC (.int 2))) (f2T gNiP (fC .none) (fVar 3))) (fSeq (fSet 5 (fCall gSortSI (fCons (fLst (fStar (f2 gIx (f2 gIx (fVar 3) (fC (.int 0))) (fC (.int 1))) (fStar (fComp (fIt (f2 gIx (f2 gIx (fVar 3) (fC (.int 1))) (fC (.int 1)))) (asTup 2) [6, 7] [6, 7] (fun _ => some true) (fTup (fCons (fVar 6) (fCons (fNeg (fVar 7)) fNil)))) fNil))) fNil))) (fSeq (fSet 8 (fTup (fCons (fVar 1) (fCons (fTup (fCons (f2 gSub (f2 gIx (f2 gIx (fVar 3) (fC (.int 0))) (fC (.int 0))) (f2 gIx (f2 gIx (fVar 3) (fC (.int 1))) (fC (.int 0)))) (fCons (fCall gTuple (fCons (fVar 5) fNil)) fNil))) fNil)))) (fSeq (fRet (fIf (fAnd (fT (fCall g_is_test (fCons (fVar 8) fNil))) (f2T gEq (fCall g_test_told (fCons (fVar 8) fNil)) (fVar 0))) (fVar 8) (fC .none))) fNext))) fNext) fNext))) (fSeq (fRet (fC .none)) fNext)))
theorem d_atom_read {k : Nat} {g_test_told : List PyData → Option PyData} {g_is_test : List PyData → Option PyData} {g_form_read : List PyData → Option PyData}  (D : DefAt K mg "atom_read" "atom_read" s_atom_read ["text"]) (m_len : mg "len" = none) (m_tuple : mg "tuple" = none) (m_sorted : mg "sorted" = none) (D_test_told : DefP P w K mg base "test_told" k ["test"] g_test_told) (D_is_test : DefP P w K mg base "is_test" k ["value"] g_is_test) (D_form_read : DefP P w K mg base "form_read" k ["text"] g_form_read) : DefP P w K mg base "atom_read" (k + 1) ["text"] (runF ["text", "word", "sign", "sides", "part", "pairs", "name", "factor", "test"] 1 (F_atom_read g_test_told g_is_test g_form_read)) :=
  defP_of D sc_atom_read fun f cdv A outer s H E hr nd => (puss_cons (pus_if (put_cmp (o_eq (u64 hr)) g_eq (pu_var 0) pu_str (nomark _)) (puss_cons (pus_ret (pu_tup (pua_cons pu_str pua_nil))) puss_nil) puss_nil) (puss_cons (pus_for PassesOwn.never rfl (pui_any (pu_tup (pua_cons (pu_tup (pua_cons pu_str (pua_cons pu_str pua_nil))) (pua_cons (pu_tup (pua_cons pu_str (pua_cons pu_str pua_nil))) (pua_cons (pu_tup (pua_cons pu_str (pua_cons pu_str pua_nil))) pua_nil))))) (is := [1, 2]) gp_tup2 (pg_tup rfl (pgs_cons (pg_name (i := 1) nd rfl (Or.inl rfl)) (pgs_cons (pg_name (i := 2) nd rfl (Or.inl rfl)) pgs_nil))) (puss_cons (pus_setLc (i := 3) (own := [("part", 4)]) (is := [4]) rfl nd rfl rfl (sw_true rfl rfl rfl (by decide +kernel)) (pui_any (pu_split (pu_var 0) (pu_var 2))) (blkOk_by (N := ["text", "word", "sign", "sides", "part", "pairs", "name", "factor", "test"]) (sc := defScope s_atom_read) (by decide +kernel)) gp_one tp_yes (by decide) (fun _ _ _ _ _ => (pg_name (i := 4) nd rfl (Or.inl rfl))) (fun _ _ _ _ _ => pts_nil) (fun _ _ _ _ _ => (pu_callD D_form_read hr rfl (pua_cons (pu_var 4) pua_nil)))) (puss_cons (pus_if (put_w (puw_and (put_cmp (o_eq (u64 hr)) g_eq (pu_callB c_len gc_len rfl m_len boot_len (pua_cons (pu_var 3) pua_nil)) pu_int (nomark _)) (puw_and1 (put_cmp (op_notInD (u65 hr)) g_niP pu_non (pu_var 3) (by rfl))))) (puss_cons (pus_set (i := 5) nd rfl (Or.inl rfl) (pu_callB cr_sortSI gc_sortSI rfl m_sorted boot_sorted (pua_cons (pu_lst (pua_star (pu_ix (u1 hr) (pu_ix (u1 hr) (pu_var 3) pu_int (fun _ _ => rfl) (fun _ _ => rfl)) pu_int (fun _ _ => rfl) (fun _ _ => rfl)) (pua_star (pu_lc (own := [("name", 6), ("factor", 7)]) (is := [6, 7]) rfl nd (pui_any (pu_ix (u1 hr) (pu_ix (u1 hr) (pu_var 3) pu_int (fun _ _ => rfl) (fun _ _ => rfl)) pu_int (fun _ _ => rfl) (fun _ _ => rfl))) (blkOk_by (N := ["text", "word", "sign", "sides", "part", "pairs", "name", "factor", "test"]) (sc := defScope s_atom_read) (by decide +kernel)) gp_tup2 tp_yes (by decide) (fun _ _ _ _ _ => (pg_tup rfl (pgs_cons (pg_name (i := 6) nd rfl (Or.inl rfl)) (pgs_cons (pg_name (i := 7) nd rfl (Or.inl rfl)) pgs_nil)))) (fun _ _ _ _ _ => pts_nil) (fun _ _ _ _ _ => (pu_tup (pua_cons (pu_var 6) (pua_cons (pu_neg (pu_var 7)) pua_nil))))) pua_nil))) pua_nil))) (puss_cons (pus_set (i := 8) nd rfl (Or.inl rfl) (pu_tup (pua_cons (pu_var 1) (pua_cons (pu_tup (pua_cons (pu_op o_sub g_sub (pu_ix (u1 hr) (pu_ix (u1 hr) (pu_var 3) pu_int (fun _ _ => rfl) (fun _ _ => rfl)) pu_int (fun _ _ => rfl) (fun _ _ => rfl)) (pu_ix (u1 hr) (pu_ix (u1 hr) (pu_var 3) pu_int (fun _ _ => rfl) (fun _ _ => rfl)) pu_int (fun _ _ => rfl) (fun _ _ => rfl))) (pua_cons (pu_callTy call_tuple_of gc_tuple rfl m_tuple boot_tuple (pua_cons (pu_var 5) pua_nil)) pua_nil))) pua_nil)))) (puss_cons (pus_ret (pu_ifE (put_w (puw_and (put_val (pu_callD D_is_test hr rfl (pua_cons (pu_var 8) pua_nil))) (puw_and1 (put_cmp (o_eq (u64 hr)) g_eq (pu_callD D_test_told hr rfl (pua_cons (pu_var 8) pua_nil)) (pu_var 0) (nomark _))))) (pu_var 8) pu_non)) puss_nil))) puss_nil) puss_nil))) (puss_cons (pus_ret pu_non) puss_nil)))


abbrev s_joined : Stmt := topS 34
theorem sc_joined : FnScope ["word", "parts", "found", "part"] ["word", "parts"] (defScope s_joined) := ⟨rfl, rfl, rfl, by decide +kernel, rfl, by decide +kernel, by decide +kernel⟩
def F_joined  : Ev → Option Out := (fSeq (fIfS (f2T gInP (fC .none) (fVar 1)) (fSeq (fRet (fC .none)) fNext) fNext) (fSeq (fSet 2 (f2 gIx (fVar 1) (fC (.int 0)))) (fSeq (fFor (fIt (fSl (fVar 1) (fO (fC (.int 1))) fO0)) asOne [3] (fSeq (fSet 2 (fTup (fCons (fVar 0) (fCons (fVar 2) (fCons (fVar 3) fNil))))) fNext)) (fSeq (fRet (fVar 2)) fNext))))
theorem d_joined {k : Nat}   (D : DefAt K mg "joined" "joined" s_joined ["word", "parts"]) : DefP P w K mg base "joined" (k + 1) ["word", "parts"] (runF ["word", "parts", "found", "part"] 2 (F_joined )) :=
  defP_of D sc_joined fun f cdv A outer s H E hr nd => (puss_cons (pus_if (put_cmp (op_inD (u65 hr)) g_inP pu_non (pu_var 1) (by rfl)) (puss_cons (pus_ret pu_non) puss_nil) puss_nil) (puss_cons (pus_set (i := 2) nd rfl (Or.inl rfl) (pu_ix (u1 hr) (pu_var 1) pu_int (fun _ _ => rfl) (fun _ _ => rfl))) (puss_cons (pus_for PassesOwn.never rfl (pui_any (pu_sl (pu_var 1) (puo_some pu_int) puo_none)) (is := [3]) gp_one (pg_name (i := 3) nd rfl (Or.inl rfl)) (puss_cons (pus_set (i := 2) nd rfl (Or.inl rfl) (pu_tup (pua_cons (pu_var 0) (pua_cons (pu_var 2) (pua_cons (pu_var 3) pua_nil))))) puss_nil)) (puss_cons (pus_ret (pu_var 2)) puss_nil))))


abbrev s_test_read : Stmt := topS 35
theorem sc_test_read : FnScope ["text", "lots", "part", "lot"] ["text"] (defScope s_test_read) := ⟨rfl, rfl, rfl, by decide +kernel, rfl, by decide +kernel, by decide +kernel⟩
def F_test_read (g_joined : List PyData → Option PyData) (g_atom_read : List PyData → Option PyData) : Ev → Option Out := (fSeq (fSet 1 (fComp (fIt (fSplit (fVar 0) (fC (.str " or ")))) asOne [3] [3] (fun _ => some true) (fCall g_joined (fCons (fC (.str "both")) (fCons (fComp (fIt (fSplit (fVar 3) (fC (.str " and ")))) asOne [2] [2] (fun _ => some true) (fCall g_atom_read (fCons (fVar 2) fNil))) fNil))))) (fSeq (fRet (fCall g_joined (fCons (fC (.str "one")) (fCons (fVar 1) fNil)))) fNext))
theorem d_test_read {k : Nat} {g_joined : List PyData → Option PyData} {g_atom_read : List PyData → Option PyData}  (D : DefAt K mg "test_read" "test_read" s_test_read ["text"]) (D_joined : DefP P w K mg base "joined" k ["word", "parts"] g_joined) (D_atom_read : DefP P w K mg base "atom_read" k ["text"] g_atom_read) : DefP P w K mg base "test_read" (k + 1) ["text"] (runF ["text", "lots", "part", "lot"] 1 (F_test_read g_joined g_atom_read)) :=
  defP_of D sc_test_read fun f cdv A outer s H E hr nd => (puss_cons (pus_setLc (i := 1) (own := [("lot", 3)]) (is := [3]) rfl nd rfl rfl (sw_true rfl rfl rfl (by decide +kernel)) (pui_any (pu_split (pu_var 0) pu_str)) (blkOk_by (N := ["text", "lots", "part", "lot"]) (sc := defScope s_test_read) (by decide +kernel)) gp_one tp_yes (by decide) (fun _ _ _ _ _ => (pg_name (i := 3) nd rfl (Or.inl rfl))) (fun _ _ _ _ _ => pts_nil) (fun _ _ _ _ _ => (pu_callD D_joined hr rfl (pua_cons pu_str (pua_cons (pu_lc (own := [("part", 2)]) (is := [2]) rfl nd (pui_any (pu_split (pu_var 3) pu_str)) (blkOk_by (N := ["text", "lots", "part", "lot"]) (sc := { kind := .function, names := [(".0", .local), ("lot", .local), ("joined", .globalImplicit)], isGenerator := false, isCoroutine := false, more := [] }) (scope := { kind := .function, names := [(".0", .local), ("part", .local), ("atom_read", .globalImplicit)], isGenerator := false, isCoroutine := false, more := [] }) (by decide +kernel)) gp_one tp_yes (by decide) (fun _ _ _ _ _ => (pg_name (i := 2) nd rfl (Or.inl rfl))) (fun _ _ _ _ _ => pts_nil) (fun _ _ _ _ _ => (pu_callD D_atom_read hr rfl (pua_cons (pu_var 2) pua_nil)))) pua_nil))))) (puss_cons (pus_ret (pu_callD D_joined hr rfl (pua_cons pu_str (pua_cons (pu_var 1) pua_nil)))) puss_nil))


end
end K87

set_option Elab.async false
set_option linter.all false
set_option maxRecDepth 100000
set_option maxHeartbeats 4000000
namespace K87
open PySem PySem.Spec PyProof.Rows L2 Pu
section
variable {P : Program} {w : World} {K : PySem.W.Frag} {mg : Str → Option Value} {base : Heap}
abbrev s_check_row : Stmt := topS 36
theorem sc_check_row : FnScope ["text", "sign"] ["text"] (defScope s_check_row) := ⟨rfl, rfl, rfl, by decide +kernel, rfl, by decide +kernel, by decide +kernel⟩
def F_check_row  : Ev → Option Out := (fSeq (fIfS (fOr (fNot (fT (fIsi (fVar 0) ["str"]))) (fNot (fT (fCall gAll (fCons (fComp (fIt (fVar 0)) asOne [1] [1] (fun _ => some true) (fB (fChain gLe gLe (fC (.str " ")) (fVar 1) (fC (.str "~"))))) fNil))))) (fSeq (fun _ => none) fNext) fNext) fNext)
theorem d_check_row {k : Nat}   (D : DefAt K mg "check_row" "check_row" s_check_row ["text"]) (m_all : mg "all" = none) (m_isinstance : mg "isinstance" = none) (m_str : mg "str" = none) : DefP P w K mg base "check_row" (k + 1) ["text"] (runF ["text", "sign"] 1 (F_check_row )) :=
  defP_of D sc_check_row fun f cdv A outer s H E hr nd => (puss_cons (pus_if (put_w (puw_or (put_not (put_val (pu_isi (x := "str") (T := "str") (pu_var 0) rfl m_isinstance rfl m_str (by decide +kernel) (by decide)))) (puw_or1 (put_not (put_val (pu_callB (cr_all rfl) gc_all rfl m_all boot_all (pua_cons (pu_lc (own := [("sign", 1)]) (is := [1]) rfl nd (pui_any (pu_var 0)) (blkOk_by (N := ["text", "sign"]) (sc := defScope s_check_row) (by decide +kernel)) gp_one tp_yes (by decide) (fun _ _ _ _ _ => (pg_name (i := 1) nd rfl (Or.inl rfl))) (fun _ _ _ _ _ => pts_nil) (fun _ _ _ _ _ => (pu_chain o_le g_le o_le g_le pu_str (pu_var 1) pu_str))) pua_nil))))))) (puss_cons pus_no puss_nil) puss_nil) puss_nil)


abbrev s_read_test : Stmt := topS 37
theorem sc_read_test : FnScope ["text", "test"] ["text"] (defScope s_read_test) := ⟨rfl, rfl, rfl, by decide +kernel, rfl, by decide +kernel, by decide +kernel⟩
def F_read_test (g_test_read : List PyData → Option PyData) (g_check_row : List PyData → Option PyData) : Ev → Option Out := (fSeq (fExp (fCall g_check_row (fCons (fVar 0) fNil))) (fSeq (fSet 1 (fCall g_test_read (fCons (fVar 0) fNil))) (fSeq (fIfS (f2T isD (fVar 1) (fC .none)) (fSeq (fun _ => none) fNext) fNext) (fSeq (fRet (fVar 1)) fNext))))
theorem d_read_test {k : Nat} {g_test_read : List PyData → Option PyData} {g_check_row : List PyData → Option PyData}  (D : DefAt K mg "read_test" "read_test" s_read_test ["text"]) (D_test_read : DefP P w K mg base "test_read" k ["text"] g_test_read) (D_check_row : DefP P w K mg base "check_row" k ["text"] g_check_row) : DefP P w K mg base "read_test" (k + 1) ["text"] (runF ["text", "test"] 1 (F_read_test g_test_read g_check_row)) :=
  defP_of D sc_read_test fun f cdv A outer s H E hr nd => (puss_cons (pus_exp (pu_callD D_check_row hr rfl (pua_cons (pu_var 0) pua_nil))) (puss_cons (pus_set (i := 1) nd rfl (Or.inl rfl) (pu_callD D_test_read hr rfl (pua_cons (pu_var 0) pua_nil))) (puss_cons (pus_if (put_cmp o_is g_is (pu_var 1) pu_non (nomark _)) (puss_cons pus_no puss_nil) puss_nil) (puss_cons (pus_ret (pu_var 1)) puss_nil))))


abbrev s_thing_text : Stmt := topS 42
theorem sc_thing_text : FnScope ["thing"] ["thing"] (defScope s_thing_text) := ⟨rfl, rfl, rfl, by decide +kernel, rfl, by decide +kernel, by decide +kernel⟩
def F_thing_text (g_thing_told : List PyData → Option PyData) (g_is_thing : List PyData → Option PyData) : Ev → Option Out := (fSeq (fIfS (fNot (fT (fCall g_is_thing (fCons (fVar 0) fNil)))) (fSeq (fun _ => none) fNext) fNext) (fSeq (fRet (fCall g_thing_told (fCons (fVar 0) fNil))) fNext))
theorem d_thing_text {k : Nat} {g_thing_told : List PyData → Option PyData} {g_is_thing : List PyData → Option PyData}  (D : DefAt K mg "thing_text" "thing_text" s_thing_text ["thing"]) (D_thing_told : DefP P w K mg base "thing_told" k ["thing"] g_thing_told) (D_is_thing : DefP P w K mg base "is_thing" k ["value"] g_is_thing) : DefP P w K mg base "thing_text" (k + 1) ["thing"] (runF ["thing"] 1 (F_thing_text g_thing_told g_is_thing)) :=
  defP_of D sc_thing_text fun f cdv A outer s H E hr nd => (puss_cons (pus_if (put_not (put_val (pu_callD D_is_thing hr rfl (pua_cons (pu_var 0) pua_nil)))) (puss_cons pus_no puss_nil) puss_nil) (puss_cons (pus_ret (pu_callD D_thing_told hr rfl (pua_cons (pu_var 0) pua_nil))) puss_nil))


abbrev s_read_thing : Stmt := topS 45
theorem sc_read_thing : FnScope ["text", "found", "at"] ["text"] (defScope s_read_thing) := ⟨rfl, rfl, rfl, by decide +kernel, rfl, by decide +kernel, by decide +kernel⟩
def F_read_thing (g_thing_read : List PyData → Option PyData) (g_check_row : List PyData → Option PyData) : Ev → Option Out := (fSeq (fExp (fCall g_check_row (fCons (fVar 0) fNil))) (fSeq (fAsg (asTup 2) [1, 2] (fCall g_thing_read (fCons (fVar 0) fNil))) (fSeq (fIfS (f2T notIsD (fVar 2) (fC .none)) (fSeq (fun _ => none) fNext) fNext) (fSeq (fRet (fVar 1)) fNext))))
theorem d_read_thing {k : Nat} {g_thing_read : List PyData → Option PyData} {g_check_row : List PyData → Option PyData}  (D : DefAt K mg "read_thing" "read_thing" s_read_thing ["text"]) (D_thing_read : DefP P w K mg base "thing_read" k ["text"] g_thing_read) (D_check_row : DefP P w K mg base "check_row" k ["text"] g_check_row) : DefP P w K mg base "read_thing" (k + 1) ["text"] (runF ["text", "found", "at"] 1 (F_read_thing g_thing_read g_check_row)) :=
  defP_of D sc_read_thing fun f cdv A outer s H E hr nd => (puss_cons (pus_exp (pu_callD D_check_row hr rfl (pua_cons (pu_var 0) pua_nil))) (puss_cons (pus_asg (is := [1, 2]) (pu_callD D_thing_read hr rfl (pua_cons (pu_var 0) pua_nil)) (pg_tup rfl (pgs_cons (pg_name (i := 1) nd rfl (Or.inl rfl)) (pgs_cons (pg_name (i := 2) nd rfl (Or.inl rfl)) pgs_nil))) gp_tup2) (puss_cons (pus_if (put_cmp o_isN g_isN (pu_var 2) pu_non (nomark _)) (puss_cons pus_no puss_nil) puss_nil) (puss_cons (pus_ret (pu_var 1)) puss_nil))))


abbrev s_row_told : Stmt := topS 47
theorem sc_row_told : FnScope ["row"] ["row"] (defScope s_row_told) := ⟨rfl, rfl, rfl, by decide +kernel, rfl, by decide +kernel, by decide +kernel⟩
def F_row_told (g_test_told : List PyData → Option PyData) (g_is_form : List PyData → Option PyData) : Ev → Option Out := (fSeq (fIfS (fNot (fT (fCall g_is_form (fCons (fVar 0) fNil)))) (fSeq (fun _ => none) fNext) fNext) (fSeq (fRet (fCall g_test_told (fCons (fTup (fCons (fC (.str "least")) (fCons (fVar 0) fNil))) fNil))) fNext))
theorem d_row_told {k : Nat} {g_test_told : List PyData → Option PyData} {g_is_form : List PyData → Option PyData}  (D : DefAt K mg "row_told" "row_told" s_row_told ["row"]) (D_test_told : DefP P w K mg base "test_told" k ["test"] g_test_told) (D_is_form : DefP P w K mg base "is_form" k ["value"] g_is_form) : DefP P w K mg base "row_told" (k + 1) ["row"] (runF ["row"] 1 (F_row_told g_test_told g_is_form)) :=
  defP_of D sc_row_told fun f cdv A outer s H E hr nd => (puss_cons (pus_if (put_not (put_val (pu_callD D_is_form hr rfl (pua_cons (pu_var 0) pua_nil)))) (puss_cons pus_no puss_nil) puss_nil) (puss_cons (pus_ret (pu_callD D_test_told hr rfl (pua_cons (pu_tup (pua_cons pu_str (pua_cons (pu_var 0) pua_nil))) pua_nil))) puss_nil))


abbrev s__law_copied : Stmt := topS 56
theorem sc__law_copied : FnScope ["thing", "item", "key"] ["thing"] (defScope s__law_copied) := ⟨rfl, rfl, rfl, by decide +kernel, rfl, by decide +kernel, by decide +kernel⟩
def F__law_copied (g__law_copied : List PyData → Option PyData) : Ev → Option Out := (fSeq (fIfS (fT (fIsi (fVar 0) ["list"])) (fSeq (fRet (fComp (fIt (fVar 0)) asOne [1] [1] (fun _ => some true) (fCall g__law_copied (fCons (fVar 1) fNil)))) fNext) fNext) (fSeq (fIfS (fT (fIsi (fVar 0) ["tuple"])) (fSeq (fRet (fCall gTuple (fCons (fComp (fIt (fVar 0)) asOne [1] [1] (fun _ => some true) (fCall g__law_copied (fCons (fVar 1) fNil))) fNil))) fNext) fNext) (fSeq (fIfS (fT (fIsi (fVar 0) ["dict"])) (fSeq (fun _ => none) fNext) fNext) (fSeq (fRet (fVar 0)) fNext))))
theorem d__law_copied {k : Nat} {g__law_copied : List PyData → Option PyData}  (D : DefAt K mg "_law_copied" "_law_copied" s__law_copied ["thing"]) (m_isinstance : mg "isinstance" = none) (m_dict : mg "dict" = none) (m_tuple : mg "tuple" = none) (m_list : mg "list" = none) (D__law_copied : DefP P w K mg base "_law_copied" k ["thing"] g__law_copied) : DefP P w K mg base "_law_copied" (k + 1) ["thing"] (runF ["thing", "item", "key"] 1 (F__law_copied g__law_copied)) :=
  defP_of D sc__law_copied fun f cdv A outer s H E hr nd => (puss_cons (pus_if (put_val (pu_isi (x := "list") (T := "list") (pu_var 0) rfl m_isinstance rfl m_list (by decide +kernel) (by decide))) (puss_cons (pus_ret (pu_lc (own := [("item", 1)]) (is := [1]) rfl nd (pui_any (pu_var 0)) (blkOk_by (N := ["thing", "item", "key"]) (sc := defScope s__law_copied) (by decide +kernel)) gp_one tp_yes (by decide) (fun _ _ _ _ _ => (pg_name (i := 1) nd rfl (Or.inl rfl))) (fun _ _ _ _ _ => pts_nil) (fun _ _ _ _ _ => (pu_callD D__law_copied hr rfl (pua_cons (pu_var 1) pua_nil))))) puss_nil) puss_nil) (puss_cons (pus_if (put_val (pu_isi (x := "tuple") (T := "tuple") (pu_var 0) rfl m_isinstance rfl m_tuple (by decide +kernel) (by decide))) (puss_cons (pus_ret (pu_callTy call_tuple_of gc_tuple rfl m_tuple boot_tuple (pua_cons (pu_lc (own := [("item", 1)]) (is := [1]) rfl nd (pui_any (pu_var 0)) (blkOk_by (N := ["thing", "item", "key"]) (sc := defScope s__law_copied) (by decide +kernel)) gp_one tp_yes (by decide) (fun _ _ _ _ _ => (pg_name (i := 1) nd rfl (Or.inl rfl))) (fun _ _ _ _ _ => pts_nil) (fun _ _ _ _ _ => (pu_callD D__law_copied hr rfl (pua_cons (pu_var 1) pua_nil)))) pua_nil))) puss_nil) puss_nil) (puss_cons (pus_if (put_val (pu_isi (x := "dict") (T := "dict") (pu_var 0) rfl m_isinstance rfl m_dict (by decide +kernel) (by decide))) (puss_cons pus_no puss_nil) puss_nil) (puss_cons (pus_ret (pu_var 0)) puss_nil))))


abbrev s__law_plus : Stmt := topS 58
theorem sc__law_plus : FnScope ["one", "many", "other", "name", "factor"] ["one", "many", "other"] (defScope s__law_plus) := ⟨rfl, rfl, rfl, by decide +kernel, rfl, by decide +kernel, by decide +kernel⟩
def F__law_plus (g__law_form : List PyData → Option PyData) : Ev → Option Out := (fSeq (fRet (fCall g__law_form (fCons (f2 gAdd (f2 gIx (fVar 0) (fC (.int 0))) (f2 gMul (fVar 1) (f2 gIx (fVar 2) (fC (.int 0))))) (fCons (f2 gAdd (fCall gList (fCons (f2 gIx (fVar 0) (fC (.int 1))) fNil)) (fComp (fIt (f2 gIx (fVar 2) (fC (.int 1)))) (asTup 2) [3, 4] [3, 4] (fun _ => some true) (fTup (fCons (fVar 3) (fCons (f2 gMul (fVar 1) (fVar 4)) fNil))))) fNil)))) fNext)
theorem d__law_plus {k : Nat} {g__law_form : List PyData → Option PyData}  (D : DefAt K mg "_law_plus" "_law_plus" s__law_plus ["one", "many", "other"]) (m_list : mg "list" = none) (D__law_form : DefP P w K mg base "_law_form" k ["number", "pairs"] g__law_form) : DefP P w K mg base "_law_plus" (k + 1) ["one", "many", "other"] (runF ["one", "many", "other", "name", "factor"] 3 (F__law_plus g__law_form)) :=
  defP_of D sc__law_plus fun f cdv A outer s H E hr nd => (puss_cons (pus_ret (pu_callD D__law_form hr rfl (pua_cons (pu_op o_add g_add (pu_ix (u1 hr) (pu_var 0) pu_int (fun _ _ => rfl) (fun _ _ => rfl)) (pu_op o_mul g_mul (pu_var 1) (pu_ix (u1 hr) (pu_var 2) pu_int (fun _ _ => rfl) (fun _ _ => rfl)))) (pua_cons (pu_op o_add g_add (pu_callTy call_list_of gc_list rfl m_list boot_list (pua_cons (pu_ix (u1 hr) (pu_var 0) pu_int (fun _ _ => rfl) (fun _ _ => rfl)) pua_nil)) (pu_lc (own := [("name", 3), ("factor", 4)]) (is := [3, 4]) rfl nd (pui_any (pu_ix (u1 hr) (pu_var 2) pu_int (fun _ _ => rfl) (fun _ _ => rfl))) (blkOk_by (N := ["one", "many", "other", "name", "factor"]) (sc := defScope s__law_plus) (by decide +kernel)) gp_tup2 tp_yes (by decide) (fun _ _ _ _ _ => (pg_tup rfl (pgs_cons (pg_name (i := 3) nd rfl (Or.inl rfl)) (pgs_cons (pg_name (i := 4) nd rfl (Or.inl rfl)) pgs_nil)))) (fun _ _ _ _ _ => pts_nil) (fun _ _ _ _ _ => (pu_tup (pua_cons (pu_var 3) (pua_cons (pu_op o_mul g_mul (pu_var 1) (pu_var 4)) pua_nil)))))) pua_nil)))) puss_nil)


abbrev s__law_side : Stmt := topS 60
theorem sc__law_side : FnScope ["form", "sign", "pairs", "name", "factor"] ["form", "sign"] (defScope s__law_side) := ⟨rfl, rfl, rfl, by decide +kernel, rfl, by decide +kernel, by decide +kernel⟩
def F__law_side (g__law_form_text : List PyData → Option PyData) : Ev → Option Out := (fSeq (fSet 2 (fComp (fIt (f2 gIx (fVar 0) (fC (.int 1)))) (asTup 2) [3, 4] [3, 4] (f2T gEq (fB (f2T gGt (fVar 4) (fC (.int 0)))) (fB (f2T gGt (fVar 1) (fC (.int 0))))) (fTup (fCons (fVar 3) (fCons (fCall gAbs (fCons (fVar 4) fNil)) fNil))))) (fSeq (fRet (fCall g__law_form_text (fCons (fTup (fCons (fIf (f2T gGt (f2 gMul (f2 gIx (fVar 0) (fC (.int 0))) (fVar 1)) (fC (.int 0))) (fCall gAbs (fCons (f2 gIx (fVar 0) (fC (.int 0))) fNil)) (fC (.int 0))) (fCons (fVar 2) fNil))) fNil))) fNext))
theorem d__law_side {k : Nat} {g__law_form_text : List PyData → Option PyData}  (D : DefAt K mg "_law_side" "_law_side" s__law_side ["form", "sign"]) (m_abs : mg "abs" = none) (D__law_form_text : DefP P w K mg base "_law_form_text" k ["form"] g__law_form_text) : DefP P w K mg base "_law_side" (k + 1) ["form", "sign"] (runF ["form", "sign", "pairs", "name", "factor"] 2 (F__law_side g__law_form_text)) :=
  defP_of D sc__law_side fun f cdv A outer s H E hr nd => (puss_cons (pus_setLc (i := 2) (own := [("name", 3), ("factor", 4)]) (is := [3, 4]) rfl nd rfl rfl (sw_true rfl rfl rfl (by decide +kernel)) (pui_any (pu_ix (u1 hr) (pu_var 0) pu_int (fun _ _ => rfl) (fun _ _ => rfl))) (blkOk_by (N := ["form", "sign", "pairs", "name", "factor"]) (sc := defScope s__law_side) (by decide +kernel)) gp_tup2 tp_self (by decide) (fun _ _ _ _ _ => (pg_tup rfl (pgs_cons (pg_name (i := 3) nd rfl (Or.inl rfl)) (pgs_cons (pg_name (i := 4) nd rfl (Or.inl rfl)) pgs_nil)))) (fun _ _ _ _ _ => pts_one ((put_cmp (o_eq (u64 hr)) g_eq (pu_cmp o_gt g_gt (pu_var 4) pu_int (nomark _)) (pu_cmp o_gt g_gt (pu_var 1) pu_int (nomark _)) (nomark _))).pt) (fun _ _ _ _ _ => (pu_tup (pua_cons (pu_var 3) (pua_cons (pu_callB call_abs gc_abs rfl m_abs boot_abs (pua_cons (pu_var 4) pua_nil)) pua_nil))))) (puss_cons (pus_ret (pu_callD D__law_form_text hr rfl (pua_cons (pu_tup (pua_cons (pu_ifE (put_cmp o_gt g_gt (pu_op o_mul g_mul (pu_ix (u1 hr) (pu_var 0) pu_int (fun _ _ => rfl) (fun _ _ => rfl)) (pu_var 1)) pu_int (nomark _)) (pu_callB call_abs gc_abs rfl m_abs boot_abs (pua_cons (pu_ix (u1 hr) (pu_var 0) pu_int (fun _ _ => rfl) (fun _ _ => rfl)) pua_nil)) pu_int) (pua_cons (pu_var 2) pua_nil))) pua_nil))) puss_nil))


abbrev s__law_form_text : Stmt := topS 61
theorem sc__law_form_text : FnScope ["form", "parts", "name", "factor", "text", "number", "part"] ["form"] (defScope s__law_form_text) := ⟨rfl, rfl, rfl, by decide +kernel, rfl, by decide +kernel, by decide +kernel⟩
def F__law_form_text  : Ev → Option Out := (fSeq (fSet 1 (fComp (fIt (f2 gIx (fVar 0) (fC (.int 1)))) (asTup 2) [2, 3] [2, 3] (fun _ => some true) (fTup (fCons (fVar 3) (fCons (fIf (f2T gEq (fCall gAbs (fCons (fVar 3) fNil)) (fC (.int 1))) (fVar 2) (f2 gAdd (f2 gAdd (fCall gStr (fCons (fCall gAbs (fCons (fVar 3) fNil)) fNil)) (fC (.str " "))) (fVar 2))) fNil))))) (fSeq (fIfS (fOr (f2T gNe (f2 gIx (fVar 0) (fC (.int 0))) (fC (.int 0))) (f2T gEq (fVar 1) (fLst fNil))) (fSeq (fSet 1 (f2 gAdd (fVar 1) (fLst (fCons (fTup (fCons (f2 gIx (fVar 0) (fC (.int 0))) (fCons (fCall gStr (fCons (fCall gAbs (fCons (f2 gIx (fVar 0) (fC (.int 0))) fNil)) fNil)) fNil))) fNil)))) fNext) fNext) (fSeq (fSet 4 (fC (.str ""))) (fSeq (fFor (fIt (fVar 1)) (asTup 2) [5, 6] (fSeq (fSet 4 (f2 gAdd (f2 gAdd (fVar 4) (fIf (f2T gLt (fVar 5) (fC (.int 0))) (fC (.str " - ")) (fC (.str " + ")))) (fVar 6))) fNext)) (fSeq (fRet (f2 gAdd (fIf (f2T gEq (fSl (fVar 4) fO0 (fO (fC (.int 3)))) (fC (.str " - "))) (fC (.str "-")) (fC (.str ""))) (fSl (fVar 4) (fO (fC (.int 3))) fO0))) fNext)))))
theorem d__law_form_text {k : Nat}   (D : DefAt K mg "_law_form_text" "_law_form_text" s__law_form_text ["form"]) (m_abs : mg "abs" = none) (m_str : mg "str" = none) : DefP P w K mg base "_law_form_text" (k + 1) ["form"] (runF ["form", "parts", "name", "factor", "text", "number", "part"] 1 (F__law_form_text )) :=
  defP_of D sc__law_form_text fun f cdv A outer s H E hr nd => (puss_cons (pus_setLc (i := 1) (own := [("name", 2), ("factor", 3)]) (is := [2, 3]) rfl nd rfl rfl (sw_true rfl rfl rfl (by decide +kernel)) (pui_any (pu_ix (u1 hr) (pu_var 0) pu_int (fun _ _ => rfl) (fun _ _ => rfl))) (blkOk_by (N := ["form", "parts", "name", "factor", "text", "number", "part"]) (sc := defScope s__law_form_text) (by decide +kernel)) gp_tup2 tp_yes (by decide) (fun _ _ _ _ _ => (pg_tup rfl (pgs_cons (pg_name (i := 2) nd rfl (Or.inl rfl)) (pgs_cons (pg_name (i := 3) nd rfl (Or.inl rfl)) pgs_nil)))) (fun _ _ _ _ _ => pts_nil) (fun _ _ _ _ _ => (pu_tup (pua_cons (pu_var 3) (pua_cons (pu_ifE (put_cmp (o_eq (u64 hr)) g_eq (pu_callB call_abs gc_abs rfl m_abs boot_abs (pua_cons (pu_var 3) pua_nil)) pu_int (nomark _)) (pu_var 2) (pu_op o_add g_add (pu_op o_add g_add (pu_callTy call_str_int gc_str rfl m_str boot_str (pua_cons (pu_callB call_abs gc_abs rfl m_abs boot_abs (pua_cons (pu_var 3) pua_nil)) pua_nil)) pu_str) (pu_var 2))) pua_nil))))) (puss_cons (pus_if (put_w (puw_or (put_cmp (o_ne (u64 hr)) g_ne (pu_ix (u1 hr) (pu_var 0) pu_int (fun _ _ => rfl) (fun _ _ => rfl)) pu_int (nomark _)) (puw_or1 (put_cmp (o_eq (u64 hr)) g_eq (pu_var 1) (pu_lst pua_nil) (nomark _))))) (puss_cons (pus_set (i := 1) nd rfl (Or.inl rfl) (pu_op o_add g_add (pu_var 1) (pu_lst (pua_cons (pu_tup (pua_cons (pu_ix (u1 hr) (pu_var 0) pu_int (fun _ _ => rfl) (fun _ _ => rfl)) (pua_cons (pu_callTy call_str_int gc_str rfl m_str boot_str (pua_cons (pu_callB call_abs gc_abs rfl m_abs boot_abs (pua_cons (pu_ix (u1 hr) (pu_var 0) pu_int (fun _ _ => rfl) (fun _ _ => rfl)) pua_nil)) pua_nil)) pua_nil))) pua_nil)))) puss_nil) puss_nil) (puss_cons (pus_set (i := 4) nd rfl (Or.inl rfl) pu_str) (puss_cons (pus_for PassesOwn.never rfl (pui_any (pu_var 1)) (is := [5, 6]) gp_tup2 (pg_tup rfl (pgs_cons (pg_name (i := 5) nd rfl (Or.inl rfl)) (pgs_cons (pg_name (i := 6) nd rfl (Or.inl rfl)) pgs_nil))) (puss_cons (pus_set (i := 4) nd rfl (Or.inl rfl) (pu_op o_add g_add (pu_op o_add g_add (pu_var 4) (pu_ifE (put_cmp o_lt g_lt (pu_var 5) pu_int (nomark _)) pu_str pu_str)) (pu_var 6))) puss_nil)) (puss_cons (pus_ret (pu_op o_add g_add (pu_ifE (put_cmp (o_eq (u64 hr)) g_eq (pu_sl (pu_var 4) puo_none (puo_some pu_int)) pu_str (nomark _)) pu_str pu_str) (pu_sl (pu_var 4) (puo_some pu_int) puo_none))) puss_nil)))))


abbrev s__law_test_text : Stmt := topS 62
theorem sc__law_test_text : FnScope ["test"] ["test"] (defScope s__law_test_text) := ⟨rfl, rfl, rfl, by decide +kernel, rfl, by decide +kernel, by decide +kernel⟩
def F__law_test_text (g__law_side : List PyData → Option PyData) (g__law_test_text : List PyData → Option PyData) : Ev → Option Out := (fSeq (fIfS (f2T gInD (f2 gIx (fVar 0) (fC (.int 0))) (fLst (fCons (fC (.str "both")) (fCons (fC (.str "one")) fNil)))) (fSeq (fRet (f2 gAdd (f2 gAdd (fCall g__law_test_text (fCons (f2 gIx (fVar 0) (fC (.int 1))) fNil)) (f2 gIx (fDict [(.inr "both", (fC (.str " and "))), (.inr "one", (fC (.str " or ")))]) (f2 gIx (fVar 0) (fC (.int 0))))) (fCall g__law_test_text (fCons (f2 gIx (fVar 0) (fC (.int 2))) fNil)))) fNext) fNext) (fSeq (fIfS (f2T gEq (f2 gIx (fVar 0) (fC (.int 0))) (fC (.str "maybe"))) (fSeq (fRet (fC (.str "maybe"))) fNext) fNext) (fSeq (fRet (f2 gAdd (f2 gAdd (fCall g__law_side (fCons (f2 gIx (fVar 0) (fC (.int 1))) (fCons (fC (.int 1)) fNil))) (f2 gIx (fDict [(.inr "least", (fC (.str " >= "))), (.inr "is", (fC (.str " == "))), (.inr "not", (fC (.str " != ")))]) (f2 gIx (fVar 0) (fC (.int 0))))) (fCall g__law_side (fCons (f2 gIx (fVar 0) (fC (.int 1))) (fCons (f2 gSub (fC (.int 0)) (fC (.int 1))) fNil))))) fNext)))
theorem d__law_test_text {k : Nat} {g__law_side : List PyData → Option PyData} {g__law_test_text : List PyData → Option PyData}  (D : DefAt K mg "_law_test_text" "_law_test_text" s__law_test_text ["test"]) (D__law_side : DefP P w K mg base "_law_side" k ["form", "sign"] g__law_side) (D__law_test_text : DefP P w K mg base "_law_test_text" k ["test"] g__law_test_text) : DefP P w K mg base "_law_test_text" (k + 1) ["test"] (runF ["test"] 1 (F__law_test_text g__law_side g__law_test_text)) :=
  defP_of D sc__law_test_text fun f cdv A outer s H E hr nd => (puss_cons (pus_if (put_in (u1 hr) (pu_ix (u1 hr) (pu_var 0) pu_int (fun _ _ => rfl) (fun _ _ => rfl)) (pu_lst (pua_cons pu_str (pua_cons pu_str pua_nil)))) (puss_cons (pus_ret (pu_op o_add g_add (pu_op o_add g_add (pu_callD D__law_test_text hr rfl (pua_cons (pu_ix (u1 hr) (pu_var 0) pu_int (fun _ _ => rfl) (fun _ _ => rfl)) pua_nil)) (pu_ix (u1 hr) (pu_dic (.str pu_str (.str pu_str .nil)) (by decide) (by decide) (by decide +kernel)) (pu_ix (u1 hr) (pu_var 0) pu_int (fun _ _ => rfl) (fun _ _ => rfl)) (fun _ _ => rfl) (fun _ _ => rfl))) (pu_callD D__law_test_text hr rfl (pua_cons (pu_ix (u1 hr) (pu_var 0) pu_int (fun _ _ => rfl) (fun _ _ => rfl)) pua_nil)))) puss_nil) puss_nil) (puss_cons (pus_if (put_cmp (o_eq (u64 hr)) g_eq (pu_ix (u1 hr) (pu_var 0) pu_int (fun _ _ => rfl) (fun _ _ => rfl)) pu_str (nomark _)) (puss_cons (pus_ret pu_str) puss_nil) puss_nil) (puss_cons (pus_ret (pu_op o_add g_add (pu_op o_add g_add (pu_callD D__law_side hr rfl (pua_cons (pu_ix (u1 hr) (pu_var 0) pu_int (fun _ _ => rfl) (fun _ _ => rfl)) (pua_cons pu_int pua_nil))) (pu_ix (u1 hr) (pu_dic (.str pu_str (.str pu_str (.str pu_str .nil))) (by decide) (by decide) (by decide +kernel)) (pu_ix (u1 hr) (pu_var 0) pu_int (fun _ _ => rfl) (fun _ _ => rfl)) (fun _ _ => rfl) (fun _ _ => rfl))) (pu_callD D__law_side hr rfl (pua_cons (pu_ix (u1 hr) (pu_var 0) pu_int (fun _ _ => rfl) (fun _ _ => rfl)) (pua_cons (pu_op o_sub g_sub pu_int pu_int) pua_nil))))) puss_nil)))


end
end K87

set_option Elab.async false
set_option linter.all false
set_option maxRecDepth 100000
set_option maxHeartbeats 4000000
namespace K87
open PySem PySem.Spec PyProof.Rows L2 Pu
section
variable {P : Program} {w : World} {K : PySem.W.Frag} {mg : Str → Option Value} {base : Heap}
abbrev s_ThingReader_goes_on : Stmt := inClass (topS 43) 2
theorem sc_ThingReader_goes_on : FnScope ["self", "sign", "is_sign"] ["self", "sign"] (defScope s_ThingReader_goes_on) := ⟨rfl, rfl, rfl, by decide +kernel, rfl, by decide +kernel, by decide +kernel⟩
def F_ThingReader_goes_on (C : Addr)  : Ev → Option Out := (fSeq (fIfS (f2T gEq (fFld C "word" (fVar 0)) (fC (.str ""))) (fSeq (fRet (fOrV (fB (fChain gLe gLe (fC (.str "a")) (fVar 1) (fC (.str "z")))) (fOrV (fB (fChain gLe gLe (fC (.str "0")) (fVar 1) (fC (.str "9")))) (fB (f2T gInD (fVar 1) (fC (.str "?-!.~"))))))) fNext) fNext) (fSeq (fIfS (f2T gInD (f2 gIx (fFld C "word" (fVar 0)) (fC (.int 0))) (fC (.str "-0123456789"))) (fSeq (fRet (fAndV (fB (fChain gLe gLe (fC (.str "0")) (fVar 1) (fC (.str "9")))) (fAndV (fB (f2T gNe (fFld C "word" (fVar 0)) (fC (.str "0")))) (fOrV (fB (f2T gNe (fFld C "word" (fVar 0)) (fC (.str "-")))) (fB (f2T gNe (fVar 1) (fC (.str "0")))))))) fNext) fNext) (fSeq (fIfS (f2T gInD (fFld C "word" (fVar 0)) (fTup (fCons (fC (.str "!")) (fCons (fC (.str ".")) (fCons (fC (.str "~")) fNil))))) (fSeq (fRet (fC (.bool false))) fNext) fNext) (fSeq (fSet 2 (fOrV (fB (fChain gLe gLe (fC (.str "a")) (fVar 1) (fC (.str "z")))) (fOrV (fB (fChain gLe gLe (fC (.str "0")) (fVar 1) (fC (.str "9")))) (fB (f2T gInD (fVar 1) (fC (.str "@?"))))))) (fSeq (fRet (fOrV (fVar 2) (fAndV (fB (f2T gEq (fVar 1) (fC (.str "_")))) (fB (f2T gNe (f2 gIx (fFld C "word" (fVar 0)) (fNeg (fC (.int 1)))) (fC (.str "_"))))))) fNext)))))
theorem d_ThingReader_goes_on {k : Nat} {f0 : Addr} {fd0 : FuncData}  {C : Addr} (Fn : Fun K "goes_on" "ThingReader.goes_on" s_ThingReader_goes_on f0 fd0) (cl : Cls K C) (n_word : NoAttr K C "word") : FnOk P w K mg base CX0 (k + 1) f0 fd0 ["self", "sign"] (spP (runF ["self", "sign", "is_sign"] 2 (F_ThingReader_goes_on C ))) :=
  pu_def Fn sc_ThingReader_goes_on fun cdv A outer s H E hr => have nd := sc_ThingReader_goes_on.nd; (puss_cons (pus_if (put_cmp (o_eq (u64 hr)) g_eq (pu_fld (pu_var 0) cl n_word) pu_str (nomark _)) (puss_cons (pus_ret (pu_or (pu_chain o_le g_le o_le g_le pu_str (pu_var 1) pu_str) (pu_or (pu_chain o_le g_le o_le g_le pu_str (pu_var 1) pu_str) (pu_one (pu_in (u1 hr) (pu_var 1) pu_str))))) puss_nil) puss_nil) (puss_cons (pus_if (put_in (u1 hr) (pu_ix (u1 hr) (pu_fld (pu_var 0) cl n_word) pu_int (fun _ _ => rfl) (fun _ _ => rfl)) pu_str) (puss_cons (pus_ret (pu_and (pu_chain o_le g_le o_le g_le pu_str (pu_var 1) pu_str) (pu_and (pu_cmp (o_ne (u64 hr)) g_ne (pu_fld (pu_var 0) cl n_word) pu_str (nomark _)) (pu_one (pu_or (pu_cmp (o_ne (u64 hr)) g_ne (pu_fld (pu_var 0) cl n_word) pu_str (nomark _)) (pu_one (pu_cmp (o_ne (u64 hr)) g_ne (pu_var 1) pu_str (nomark _)))))))) puss_nil) puss_nil) (puss_cons (pus_if (put_in (u1 hr) (pu_fld (pu_var 0) cl n_word) (pu_tup (pua_cons pu_str (pua_cons pu_str (pua_cons pu_str pua_nil))))) (puss_cons (pus_ret pu_bl) puss_nil) puss_nil) (puss_cons (pus_set (i := 2) nd rfl (Or.inl rfl) (pu_or (pu_chain o_le g_le o_le g_le pu_str (pu_var 1) pu_str) (pu_or (pu_chain o_le g_le o_le g_le pu_str (pu_var 1) pu_str) (pu_one (pu_in (u1 hr) (pu_var 1) pu_str))))) (puss_cons (pus_ret (pu_or (pu_var 2) (pu_one (pu_and (pu_cmp (o_eq (u64 hr)) g_eq (pu_var 1) pu_str (nomark _)) (pu_one (pu_cmp (o_ne (u64 hr)) g_ne (pu_ix (u1 hr) (pu_fld (pu_var 0) cl n_word) (pu_neg pu_int) (fun _ _ => rfl) (fun _ _ => rfl)) pu_str (nomark _))))))) puss_nil)))))

abbrev s_ThingReader_item : Stmt := inClass (topS 43) 3
theorem sc_ThingReader_item : FnScope ["self", "items"] ["self"] (defScope s_ThingReader_item) := ⟨rfl, rfl, rfl, by decide +kernel, rfl, by decide +kernel, by decide +kernel⟩
def F_ThingReader_item (C : Addr)  : Ev → Option Out := (fSeq (fIfS (fOr (f2T gInD (fFld C "word" (fVar 0)) (fTup (fCons (fC (.str "")) (fCons (fC (.str "-")) fNil)))) (f2T gEq (f2 gIx (fFld C "word" (fVar 0)) (fNeg (fC (.int 1)))) (fC (.str "_")))) (fSeq (fRet (fC .none)) fNext) fNext) (fSeq (fIfS (f2T gInD (f2 gIx (fFld C "word" (fVar 0)) (fC (.int 0))) (fC (.str "-0123456789"))) (fSeq (fRet (fTup (fCons (fCall gInt (fCons (fFld C "word" (fVar 0)) fNil)) fNil))) fNext) fNext) (fSeq (fSet 1 (fDict [(.inr "!", (fC (.bool true))), (.inr ".", (fC (.bool false))), (.inr "~", (fC .none))])) (fSeq (fRet (fTup (fCons (fIf (f2T gInD (fFld C "word" (fVar 0)) (fVar 1)) (f2 gIx (fVar 1) (fFld C "word" (fVar 0))) (fRepl "_" " " (fFld C "word" (fVar 0)))) fNil))) fNext))))
theorem d_ThingReader_item {k : Nat} {f0 : Addr} {fd0 : FuncData}  {C : Addr} (Fn : Fun K "item" "ThingReader.item" s_ThingReader_item f0 fd0) (cl : Cls K C) (n_word : NoAttr K C "word") (m_int : mg "int" = none) : FnOk P w K mg base CX0 (k + 1) f0 fd0 ["self"] (spP (runF ["self", "items"] 1 (F_ThingReader_item C ))) :=
  pu_defT Fn sc_ThingReader_item (of_cells (by decide +kernel)) (by decide) fun cdv A outer s H E hr => have nd := sc_ThingReader_item.nd; (pusst_cons (pust_of (pus_if (put_w (puw_or (put_in (u1 hr) (pu_fld (pu_var 0) cl n_word) (pu_tup (pua_cons pu_str (pua_cons pu_str pua_nil)))) (puw_or1 (put_cmp (o_eq (u64 hr)) g_eq (pu_ix (u1 hr) (pu_fld (pu_var 0) cl n_word) (pu_neg pu_int) (fun _ _ => rfl) (fun _ _ => rfl)) pu_str (nomark _))))) (puss_cons (pus_ret pu_non) puss_nil) puss_nil)) (pusst_cons (pust_of (pus_if (put_in (u1 hr) (pu_ix (u1 hr) (pu_fld (pu_var 0) cl n_word) pu_int (fun _ _ => rfl) (fun _ _ => rfl)) pu_str) (puss_cons (pus_ret (pu_tup (pua_cons (pu_callTy c_int gc_int rfl m_int boot_int (pua_cons (pu_fld (pu_var 0) cl n_word) pua_nil)) pua_nil))) puss_nil) puss_nil)) (pusst_cons (pust_of (pus_set (i := 1) nd rfl (Or.inl rfl) (pu_dic (.str pu_bl (.str pu_bl (.str pu_non .nil))) (by decide) (by decide) (by decide +kernel)))) (pusst_cons (pust_ret (puet_tup (puat_cons (puet_ifE (put_in (u1 hr) (pu_fld (pu_var 0) cl n_word) (pu_var 1)) (puet_of (pu_ix (u1 hr) (pu_var 1) (pu_fld (pu_var 0) cl n_word) (fun _ _ => rfl) (fun _ _ => rfl))) (puet_repl (pu_fld (pu_var 0) cl n_word))) puat_nil))) pusst_nil))))

end
end K87

set_option Elab.async false
set_option linter.all false
set_option maxRecDepth 100000
set_option maxHeartbeats 4000000
/-! The reader's object: what it holds, how it grows. -/
namespace K87
open PySem PySem.Spec PyProof.Rows L2 Pu
structure RdSt where
  lots : List (List PyData)
  signs : List Str
  word : Str
  ended : Bool
def rdF (L S : Addr) (w : Str) (b : Bool) : List (Str × V) := [("lots", .ref L), ("signs", .ref S), ("word", .str w), ("is_ended", .bl b)]
theorem rd_lots {L S w b} : (rdF L S w b).lookup ("lots" : Str) = some (.ref L) := rfl
theorem rd_signs {L S w b} : (rdF L S w b).lookup ("signs" : Str) = some (.ref S) := rfl
theorem rd_word {L S w b} : (rdF L S w b).lookup ("word" : Str) = some (.str w) := rfl
theorem rd_ended {L S w b} : (rdF L S w b).lookup ("is_ended" : Str) = some (.bl b) := rfl
theorem rd_put_word {L S w b u} : putF "word" (.str u) (rdF L S w b) = rdF L S u b := rfl
theorem rd_put_ended {L S w b u} : putF "is_ended" (.bl u) (rdF L S w b) = rdF L S w u := rfl
def obD (C : Addr) (st : RdSt) : PyData := .dict ((.none, .int (C : Nat)) :: [(.str "lots", .list (st.lots.map .list).reverse), (.str "signs", .list (st.signs.map .str).reverse), (.str "word", .str st.word), (.str "is_ended", .bool st.ended)])
inductive Lots (H Hs : Hp) : List Addr → List (List PyData) → Prop
  | nil : Lots H Hs [] []
  | cons {l : Addr} {ds : List PyData} {vs : List V} {ls : List Addr} {dss : List (List PyData)} : H l = some (.lst vs) → RpAll Hs ds vs → Lots H Hs ls dss → Lots H Hs (l :: ls) (ds :: dss)
theorem Lots.mono {H H' Hs Hs' : Hp} : ∀ {ls : List Addr} {dss : List (List PyData)}, (∀ l ∈ ls, ∀ o, H l = some o → H' l = some o) → Same Hs Hs' → Lots H Hs ls dss → Lots H' Hs' ls dss
  | _, _, _, _, .nil => .nil
  | _, _, h, s, .cons e r t => .cons (h _ List.mem_cons_self _ e) (r.mono s) (Lots.mono (fun l hl => h l (List.mem_cons_of_mem _ hl)) s t)
theorem Lots.all {H Hs : Hp} : ∀ {ls : List Addr} {dss : List (List PyData)}, Same Hs H → Lots H Hs ls dss → RpAll H (dss.map .list) (ls.map .ref)
  | _, _, _, .nil => .nil
  | _, _, s, .cons e r t => .cons (.lst e (r.mono s)) (Lots.all s t)
theorem Lots.len {H Hs : Hp} : ∀ {ls : List Addr} {dss : List (List PyData)}, Lots H Hs ls dss → ls.length = dss.length
  | _, _, .nil => rfl
  | _, _, .cons _ _ t => by rw [List.length_cons, List.length_cons, t.len]
theorem rpAll_rev {H : Hp} : ∀ {ds : List PyData} {vs : List V}, RpAll H ds vs → RpAll H ds.reverse vs.reverse
  | _, _, .nil => .nil
  | _, _, .cons r t => by rw [List.reverse_cons, List.reverse_cons]; exact (rpAll_rev t).append (.cons r .nil)
theorem rpAll_strs {H : Hp} : ∀ (zs : List Str), RpAll H (zs.map .str) (zs.map .str)
  | [] => .nil
  | z :: zs => .cons (.str z) (rpAll_strs zs)
/-- the reader at r, all it owns new behind H0 -/
structure RdA (H0 Hs0 H Hs : Hp) (C r dx L S : Addr) (ls : List Addr) (st : RdSt) : Prop where
  ext : Ext H0 Hs0 H Hs
  nd : (r :: L :: S :: ls).Nodup
  out : ∀ x ∈ r :: L :: S :: ls, H0 x = none ∧ Hs x = none
  ro : H r = some (.ins C dx (rdF L S st.word st.ended))
  lo : H L = some (.lst (ls.map V.ref).reverse)
  so : H S = some (.lst (st.signs.map V.str).reverse)
  lots : Lots H Hs ls st.lots
def Rd (H0 Hs0 : Hp) (C r : Addr) (st : RdSt) (H : Hp) : Prop := ∃ Hs dx L S ls, RdA H0 Hs0 H Hs C r dx L S ls st
section
variable {H0 Hs0 H Hs H' : Hp} {C r dx L S : Addr} {ls : List Addr} {st : RdSt}
theorem RdA.view (R : RdA H0 Hs0 H Hs C r dx L S ls st) : Rp H (obD C st) (.ref r) :=
  .ob R.ro (.cons rd_lots (.lst R.lo (rpAll_rev (R.lots.all R.ext.sub))) (.cons rd_signs (.lst R.so (rpAll_rev (rpAll_strs _))) (.cons rd_word (.str _) (.cons rd_ended (.bl _) .nil))))
theorem RdA.grow (R : RdA H0 Hs0 H Hs C r dx L S ls st) (s : Same H H') : RdA H0 Hs0 H' Hs C r dx L S ls st :=
  ⟨⟨R.ext.big.trans s, R.ext.small, R.ext.sub.trans s, R.ext.new⟩, R.nd, R.out, s _ _ R.ro, s _ _ R.lo, s _ _ R.so, R.lots.mono (fun l _ o e => s l o e) (Same.refl _)⟩
theorem Rd.grow (R : Rd H0 Hs0 C r st H) (s : Same H H') : Rd H0 Hs0 C r st H' := let ⟨Hs, dx, L, S, ls, R⟩ := R; ⟨Hs, dx, L, S, ls, R.grow s⟩
/-- one of its own objects is changed -/
theorem RdA.exo (R : RdA H0 Hs0 H Hs C r dx L S ls st) {x : Addr} {o : HO} (hx : x ∈ r :: L :: S :: ls) : Ext H0 Hs0 (upd H x o) Hs :=
  ⟨fun b u e => by rw [upd_ne (ne_of_none e (R.out x hx).1)]; exact R.ext.big _ _ e, R.ext.small, fun b u e => by rw [upd_ne (ne_of_none e (R.out x hx).2)]; exact R.ext.sub _ _ e, R.ext.new⟩
theorem RdA.r_in (R : RdA H0 Hs0 H Hs C r dx L S ls st) : r ∈ r :: L :: S :: ls := List.mem_cons_self
theorem RdA.nrL (R : RdA H0 Hs0 H Hs C r dx L S ls st) : r ≠ L := fun e => by have := R.nd; simp [e] at this
theorem RdA.nrS (R : RdA H0 Hs0 H Hs C r dx L S ls st) : r ≠ S := fun e => by have := R.nd; simp [e] at this
theorem RdA.nLS (R : RdA H0 Hs0 H Hs C r dx L S ls st) : L ≠ S := fun e => by have := R.nd; simp [e] at this
theorem RdA.nrl (R : RdA H0 Hs0 H Hs C r dx L S ls st) {l : Addr} (h : l ∈ ls) : l ≠ r := fun e => by subst e; have := R.nd; simp [h] at this
theorem RdA.nLl (R : RdA H0 Hs0 H Hs C r dx L S ls st) {l : Addr} (h : l ∈ ls) : l ≠ L := fun e => by subst e; have := R.nd; simp [h] at this
theorem RdA.nSl (R : RdA H0 Hs0 H Hs C r dx L S ls st) {l : Addr} (h : l ∈ ls) : l ≠ S := fun e => by subst e; have := R.nd; simp [h] at this
/-- word, is_ended -/
theorem RdA.fields (R : RdA H0 Hs0 H Hs C r dx L S ls st) (w : Str) (b : Bool) : RdA H0 Hs0 (upd H r (.ins C dx (rdF L S w b))) Hs C r dx L S ls { st with word := w, ended := b } :=
  ⟨R.exo List.mem_cons_self, R.nd, R.out, upd_same, by rw [upd_ne R.nrL.symm]; exact R.lo, by rw [upd_ne R.nrS.symm]; exact R.so, R.lots.mono (fun l hl o e => by rw [upd_ne (R.nrl hl)]; exact e) (Same.refl _)⟩
/-- signs -/
theorem RdA.signs (R : RdA H0 Hs0 H Hs C r dx L S ls st) (zs : List Str) : RdA H0 Hs0 (upd H S (.lst (zs.map V.str).reverse)) Hs C r dx L S ls { st with signs := zs } :=
  ⟨R.exo (by simp), R.nd, R.out, by rw [upd_ne R.nrS]; exact R.ro, by rw [upd_ne R.nLS]; exact R.lo, upd_same, R.lots.mono (fun l hl o e => by rw [upd_ne (R.nSl hl)]; exact e) (Same.refl _)⟩
/-- a new lot -/
theorem RdA.push (R : RdA H0 Hs0 H Hs C r dx L S ls st) {p : Addr} (hp : H p = none) : RdA H0 Hs0 (upd (upd H p (.lst [])) L (.lst ((ls.map V.ref).reverse ++ [.ref p]))) Hs C r dx L S (p :: ls) { st with lots := [] :: st.lots } := by
  have g := R.grow (H' := upd H p (.lst [])) fun b u e => by rw [upd_ne (ne_of_none e hp)]; exact e
  have nr : r ≠ p := ne_of_none R.ro hp
  have nL : L ≠ p := ne_of_none R.lo hp
  have nS : S ≠ p := ne_of_none R.so hp
  have nl : p ∉ ls := fun h => by
    have : ∀ {ls : List Addr} {dss : List (List PyData)}, Lots H Hs ls dss → p ∈ ls → False := by
      intro ls dss t
      induction t with
      | nil => intro h; cases h
      | cons e r t ih =>
        intro h
        rcases List.mem_cons.mp h with rfl | h
        · rw [hp] at e; cases e
        · exact ih h
    exact this R.lots h
  refine ⟨g.exo (by simp), ?_, fun x hx => ?_, by rw [upd_ne R.nrL]; exact g.ro, ?_, by rw [upd_ne R.nLS.symm]; exact g.so, .cons ?_ .nil (g.lots.mono (fun l hl o e => by rw [upd_ne (R.nLl hl)]; exact e) (Same.refl _))⟩
  · have := R.nd
    simp only [List.nodup_cons, List.mem_cons, not_or] at this ⊢
    exact ⟨⟨this.1.1, this.1.2.1, nr, this.1.2.2⟩, ⟨this.2.1.1, nL, this.2.1.2⟩, ⟨nS, this.2.2.1⟩, nl, this.2.2.2⟩
  · by_cases h : x = p
    · subst h; exact ⟨R.ext.big.free hp, R.ext.sub.free hp⟩
    · refine R.out x ?_
      simp only [List.mem_cons] at hx ⊢
      rcases hx with z | z | z | z | z
      · exact .inl z
      · exact .inr (.inl z)
      · exact .inr (.inr (.inl z))
      · exact absurd z h
      · exact .inr (.inr (.inr z))
  · rw [upd_same, List.map_cons, List.reverse_cons] <;> rfl
  · rw [upd_ne nL.symm, upd_same] <;> rfl
/-- a thing into the lot on top -/
theorem RdA.put {l : Addr} {ds : List PyData} {dss : List (List PyData)} {d : PyData} {v : V} (R : RdA H0 Hs0 H Hs C r dx L S (l :: ls) st) (e : st.lots = ds :: dss) (rv : Rp Hs d v) : ∃ vs, H l = some (.lst vs) ∧ vs.length = ds.length ∧ RdA H0 Hs0 (upd H l (.lst (vs ++ [v]))) Hs C r dx L S (l :: ls) { st with lots := (ds ++ [d]) :: dss } := by
  have t := R.lots
  rw [e] at t
  cases t with
  | cons hl rl t =>
    rename_i vs
    have hm : l ∈ l :: ls := List.mem_cons_self
    refine ⟨vs, hl, rl.len.symm, R.exo (by simp), R.nd, R.out, by rw [upd_ne (R.nrl hm).symm]; exact R.ro, by rw [upd_ne (R.nLl hm).symm]; exact R.lo, by rw [upd_ne (R.nSl hm).symm]; exact R.so, .cons upd_same (rl.append (.cons rv .nil)) (t.mono (fun k hk o e => ?_) (Same.refl _))⟩
    have nk : k ≠ l := fun z => by
      subst z
      have := R.nd
      simp only [List.nodup_cons, List.mem_cons, not_or] at this
      exact this.2.2.2.1 hk
    rw [upd_ne nk]
    exact e
theorem RdA.np (R : RdA H0 Hs0 H Hs C r dx L S ls st) {x : Addr} (hx : x ∈ r :: L :: S :: ls) : H x ≠ none := by
  have : ∀ {ls : List Addr} {dss : List (List PyData)}, Lots H Hs ls dss → x ∈ ls → H x ≠ none := by
    intro ls dss t
    induction t with
    | nil => intro h; cases h
    | cons e r t ih =>
      intro h
      rcases List.mem_cons.mp h with rfl | h
      · rw [e]; exact fun z => nomatch z
      · exact ih h
  simp only [List.mem_cons] at hx
  rcases hx with rfl | rfl | rfl | h
  · rw [R.ro]; exact fun z => nomatch z
  · rw [R.lo]; exact fun z => nomatch z
  · rw [R.so]; exact fun z => nomatch z
  · exact this R.lots h
theorem RdA.more {Hs' : Hp} (R : RdA H0 Hs0 H Hs C r dx L S ls st) (x : Ext H Hs H' Hs') : RdA H0 Hs0 H' Hs' C r dx L S ls st :=
  ⟨R.ext.trans x, R.nd, fun y hy => ⟨(R.out y hy).1, x.new y (R.out y hy).2 (R.np hy)⟩, x.big _ _ R.ro, x.big _ _ R.lo, x.big _ _ R.so, R.lots.mono (fun l _ o e => x.big _ _ e) x.small⟩
/-- the lot on top is taken off: a value as all are -/
theorem RdA.pop {l : Addr} {ds : List PyData} {dss : List (List PyData)} (R : RdA H0 Hs0 H Hs C r dx L S (l :: ls) st) (e : st.lots = ds :: dss) : ∃ vs, RdA H0 Hs0 (upd H L (.lst (ls.map V.ref).reverse)) (upd Hs l (.lst vs)) C r dx L S ls { st with lots := dss } ∧ Rp (upd Hs l (.lst vs)) (.list ds) (.ref l) := by
  have t := R.lots
  rw [e] at t
  cases t with
  | cons hl rl t =>
    rename_i vs
    have hm : l ∈ l :: ls := List.mem_cons_self
    have hsl : Hs l = none := (R.out l (by simp)).2
    have s2 : Same Hs (upd Hs l (.lst vs)) := fun b u z => by rw [upd_ne (ne_of_none z hsl)]; exact z
    have nd := R.nd
    simp only [List.nodup_cons, List.mem_cons, not_or] at nd
    refine ⟨vs, ⟨⟨fun b u z => ?_, R.ext.small.trans s2, fun b u z => ?_, fun b h h' => ?_⟩, ?_, fun x hx => ?_, by rw [upd_ne R.nrL]; exact R.ro, upd_same, by rw [upd_ne R.nLS.symm]; exact R.so, t.mono (fun k hk o z => ?_) s2⟩, .lst upd_same (rl.mono s2)⟩
    · rw [upd_ne (ne_of_none z (R.out L (by simp)).1)]; exact R.ext.big _ _ z
    · by_cases hb : b = l
      · subst hb
        rw [upd_same] at z
        rw [upd_ne (R.nLl hm), ← z]
        exact hl
      · rw [upd_ne hb] at z
        rw [upd_ne (ne_of_none z (R.out L (by simp)).2)]
        exact R.ext.sub _ _ z
    · have hb : b ≠ l := fun q => by subst q; exact h' (R.out b (by simp)).1
      rw [upd_ne hb]
      exact R.ext.new b h h'
    · simp only [List.nodup_cons, List.mem_cons, not_or]
      exact ⟨⟨nd.1.1, nd.1.2.1, nd.1.2.2.2⟩, ⟨nd.2.1.1, nd.2.1.2.2⟩, nd.2.2.1.2, nd.2.2.2.2⟩
    · have hb : x ≠ l := fun q => by
        subst q
        simp only [List.mem_cons] at hx
        rcases hx with z | z | z | z
        · exact nd.1.2.2.1 z.symm
        · exact nd.2.1.2.1 z.symm
        · exact nd.2.2.1.1 z.symm
        · exact nd.2.2.2.1 z
      rw [upd_ne hb]
      refine R.out x ?_
      simp only [List.mem_cons] at hx ⊢
      rcases hx with z | z | z | z
      · exact .inl z
      · exact .inr (.inl z)
      · exact .inr (.inr (.inl z))
      · exact .inr (.inr (.inr (.inr z)))
    · rw [upd_ne (R.nLl (List.mem_cons_of_mem _ hk))]
      exact z
end
end K87

set_option Elab.async false
set_option linter.all false
set_option maxRecDepth 100000
set_option maxHeartbeats 4000000
/-! The reader's methods. -/
namespace K87
open PySem PySem.Spec PyProof.Rows L2 Pu
structure TR (K : PySem.W.Frag) (C : Addr) : Prop where
  cl : Cls K C
  nL : NoAttr K C "lots"
  nS : NoAttr K C "signs"
  nW : NoAttr K C "word"
  nE : NoAttr K C "is_ended"
theorem rd_noM {L S w b} {m : Str} (h1 : (m == "lots") = false) (h2 : (m == "signs") = false) (h3 : (m == "word") = false) (h4 : (m == "is_ended") = false) : (rdF L S w b).lookup m = none := by
  unfold rdF
  simp only [List.lookup, h1, h2, h3, h4]
section
variable {C : Addr} {st : RdSt} {ev : Ev} {i : Nat}
theorem g_lots : gFld C "lots" (obD C st) = some (.list (st.lots.map .list).reverse) := by unfold gFld obD; simp only; rw [if_pos trivial]; rfl
theorem g_signs : gFld C "signs" (obD C st) = some (.list (st.signs.map .str).reverse) := by unfold gFld obD; simp only; rw [if_pos trivial]; rfl
theorem g_word : gFld C "word" (obD C st) = some (.str st.word) := by unfold gFld obD; simp only; rw [if_pos trivial]; rfl
theorem g_ended : gFld C "is_ended" (obD C st) = some (.bool st.ended) := by unfold gFld obD; simp only; rw [if_pos trivial]; rfl
end
theorem atI_last {α : Type} (xs : List α) (x : α) : atI (xs ++ [x]) (-1) = some x := by
  unfold atI ixN
  rw [if_neg (by decide), if_pos (by rw [List.length_append, List.length_singleton]; omega)]
  show (xs ++ [x])[_]? = some x
  rw [List.length_append, List.length_singleton]
  have e : ((-1 : Int) + ((xs.length + 1 : Nat) : Int)).toNat = xs.length := by omega
  rw [e, List.getElem?_append_right (Nat.le_refl _), Nat.sub_self]
  rfl
def itemD : Option PyData → PyData
  | none => .none
  | some d => .tuple [d]
def itF (C : Addr) (st : RdSt) : Option (Option PyData) := match runF ["self", "items"] 1 (F_ThingReader_item C) [obD C st] with
  | some .none => some none
  | some (.tuple [d]) => if flatD d = true then some (some d) else none
  | _ => none
theorem itF_some {C : Addr} {st : RdSt} {f : Option PyData} (h : itF C st = some f) : runF ["self", "items"] 1 (F_ThingReader_item C) [obD C st] = some (itemD f) ∧ ∀ d, f = some d → flatD d = true := by
  unfold itF at h
  split at h
  · rename_i e; cases h; exact ⟨e, fun d z => nomatch z⟩
  · rename_i e
    split at h
    · rename_i hf; cases h; exact ⟨e, fun d z => by cases z; exact hf⟩
    · cases h
  · cases h
def endsF (C : Addr) (st : RdSt) : Option (Bool × RdSt) := (itF C st).bind fun f => if st.ended = true then some (true, { st with word := "", ended := false }) else match f with
  | none => some (false, st)
  | some d => match st.lots with
    | ds :: dss => if ds.length < sizeLine then some (true, { lots := (ds ++ [d]) :: dss, signs := st.signs, word := "", ended := false }) else none
    | [] => none
def spEnds (C : Addr) : Sp := fun vs H Q _ => ∃ H0 Hs0 r st b st', vs = [.ref r] ∧ Rd H0 Hs0 C r st H ∧ endsF C st = some (b, st') ∧ ∀ H', Rd H0 Hs0 C r st' H' → Q (.bl b) H'
abbrev s_ends : Stmt := inClass (topS 43) 4
theorem sc_ends : FnScope ["self", "found"] ["self"] (defScope s_ends) := ⟨rfl, rfl, rfl, by decide +kernel, rfl, by decide +kernel, by decide +kernel⟩
section
variable {P : Program} {w : World} {K : PySem.W.Frag} {mg : Str → Option Value} {base : Heap}
theorem ok_ends {C f fi : Addr} {fd fdi : FuncData} {k : Nat} (F : Fun K "ends" "ThingReader.ends" s_ends f fd) (T : TR K C) (FI : FnOk P w K mg base CX0 k fi fdi ["self"] (spP (runF ["self", "items"] 1 (F_ThingReader_item C)))) (bI : Binds K fdi ["self"] []) (mI : Meth K C "item" fi) :
    FnOk P w K mg base CX0 (k + 1) f fd ["self"] (spEnds C) := by
  refine F.ok sc_ends (fun vs H Q E h => ?_) (fun cdv A outer s H vs Q E hr h => ?_)
  · obtain ⟨H0, Hs0, r, st, b, st', rfl, _⟩ := h
    rfl
  · obtain ⟨H0, Hs0, r, st, b, st', rfl, ⟨Hs, dx, L, S, ls, R⟩, e, q⟩ := h
    obtain ⟨cl, nL, nS, nW, nE⟩ := T
    have nd := sc_ends.nd
    refine ⟨_, pss_cons (ps_set (i := 1) nd rfl (Or.inl rfl) (pe_meth0 (pv 0) cl mI FI hr bI .nil pass0))
      (pss_cons (ps_if (put_w (puw_and (put_cmp (o_is) g_is (pu_var 1) pu_non (nomark _)) (puw_and1 (put_not (put_val (pu_fld (pu_var 0) cl nE)))))).pt (pss_one (ps_ret pe_bl)) pss_nil)
      (pss_cons (ps_if (put_not (put_val (pu_fld (pu_var 0) cl nE))).pt (pss_one (ps_expr (pe_bm PySem.F.plainAttrs_list PySem.F.slot_list_append PySem.F.type_list_append mt_append (pe_ix ix_list (pe_fld (f := "lots") (pv 0) rfl) (pu_neg pu_int).pe (fun _ _ => rfl)) (pa_cons (pu_ix (u1 hr) (pu_var 1) pu_int (fun _ _ => rfl) (fun _ _ => rfl)).pe pa_nil)))) pss_nil)
      (pss_cons (ps_asg (pe_tup (pa_cons pe_str (pa_cons pe_bl pa_nil))) (pg_tup rfl (pgs_cons (pg_att (f := "word") (pv 0)) (pgs_cons (pg_att (f := "is_ended") (pv 0)) pgs_nil))))
      (pss_one (ps_ret pe_bl))))), ?_⟩
    obtain ⟨it, e1, e⟩ := bindS e
    obtain ⟨e2, hfl⟩ := itF_some e1
    refine ⟨_, rfl, r, dx, _, rfl, R.ro, rd_noM (by decide +kernel) (by decide +kernel) (by decide +kernel) (by decide +kernel), H, [obD C st], itemD it, Same.refl _, .cons R.view .nil, e2, fun v1 H1 Hs1 x1 r1 => ?_⟩
    have R1 := R.grow x1.big
    -- found is None and (not self.is_ended)
    have re1 : REnv Hs1 [some (.ref r), some v1] [some (obD C st), some (itemD it)] := REnv.start (N := ["self", "found"]) (ws := [obD C st, itemD it]) (vs := [.ref r, v1]) (.cons (R.view.mono x1.small) (.cons r1 .nil))
    have R2 : ∀ {H2 Hs2}, Ext H1 Hs1 H2 Hs2 → RdA H0 Hs0 H2 Hs C r dx L S ls st := fun x => R1.grow x.big
    have fin : ∀ (H2 : Hp) (st2 : RdSt), RdA H0 Hs0 H2 Hs C r dx L S ls st2 → b = true → st' = { st2 with word := "", ended := false } → tSeq (tAsg (tTup (tCons (tC (.str "")) (tCons (tC (.bl false)) tNil))) (gTup K 2 (gCons (gAtt K (tVar 0) "word") (gCons (gAtt K (tVar 0) "is_ended") gNil)))) (tRet (tC (.bl true))) { nx := fun _ H' => Q .non H', rt := Q } [some (.ref r), some v1] H2 := by
      rintro H2 st2 R2 rfl rfl
      refine ⟨by show 2 ≤ sizeLine; decide, fun t ht => ?_⟩
      have R3 := R2.grow (H' := upd H2 t (.tup [.str "", .bl false])) fun b o z => by rw [upd_ne (ne_of_none z ht)]; exact z
      refine ⟨t, _, rfl, SqT.of upd_same, rfl, _, _, rfl, _, rfl, r, C, dx, _, rfl, R3.ro, cl, nW, (by show 4 < 1000; decide), _, _, rfl, _, rfl, r, C, dx, _, rfl, upd_same, cl, nE, (by show 4 < 1000; decide), rfl, ?_⟩
      rw [rd_put_word, rd_put_ended, upd_upd]
      exact q _ ⟨Hs, dx, L, S, ls, R3.fields _ _⟩
    have hend : fNot (fT (fFld C "is_ended" (fVar 0))) [some (obD C st), some (itemD it)] = some (!st.ended) := by simp [fVar, fNot, fT, fFld, g_ended, asB]
    have htest : fAnd (f2T isD (fVar 1) (fC .none)) (fNot (fT (fFld C "is_ended" (fVar 0)))) [some (obD C st), some (itemD it)] = some (it.isNone && !st.ended) := by
      cases it <;> simp [fAnd, f2T, fVar, fC, isD, fNot, fT, fFld, g_ended, itemD, asB, flatD]
    cases hb : st.ended with
    | true =>
      rw [hb] at e
      simp only [if_true, Option.some.injEq, Prod.mk.injEq] at e
      refine ⟨Hs1, _, false, x1.sub, re1, by rw [htest, hb]; cases it <;> rfl, fun H2 Hs2 x2 => iteF ?_⟩
      refine ⟨Hs2, _, false, x2.sub, re1.mono x2.small, by rw [hend, hb]; rfl, fun H3 Hs3 x3 => iteF ?_⟩
      exact fin H3 st (R2 (x2.trans x3)) e.1.symm e.2.symm
    | false =>
      rw [hb] at e
      cases it with
      | none =>
        simp only [if_false, Option.some.injEq, Prod.mk.injEq, Bool.false_eq_true] at e
        obtain ⟨rfl, rfl⟩ := e
        refine ⟨Hs1, _, true, x1.sub, re1, by rw [htest, hb]; rfl, fun H2 Hs2 x2 => iteT ?_⟩
        exact q _ ⟨Hs, dx, L, S, ls, R2 x2⟩
      | some d =>
        simp only [if_false, Bool.false_eq_true] at e
        split at e
        · rename_i ds dss hl
          split at e
          · rename_i hlen
            cases e
            refine ⟨Hs1, _, false, x1.sub, re1, by rw [htest]; rfl, fun H2 Hs2 x2 => iteF ?_⟩
            refine ⟨Hs2, _, true, x2.sub, re1.mono x2.small, by rw [hend, hb]; rfl, fun H3 Hs3 x3 => iteT ?_⟩
            have R3 := R2 (x2.trans x3)
            cases ls with
            | nil => have := R3.lots.len; rw [hl] at this; cases this
            | cons l ls =>
            refine ⟨_, rfl, r, C, dx, _, _, rfl, R3.ro, cl, nL, rd_lots, ?_⟩
            refine ⟨H3, [], .int (-1), Same.refl _, ⟨Nat.zero_le _, fun i w z => by cases z⟩, rfl, fun v4 H4 Hs4 x4 r4 => ?_⟩
            have R4 := R3.grow x4.big
            refine ⟨L, _, -1, .ref l, rfl, r4.int_of, SqL.of R4.lo, by rw [List.map_cons, List.reverse_cons]; exact atI_last _ _, ?_⟩
            obtain ⟨vs, h5, h6, _⟩ := R4.put hl (Rp.non (H := Hs))
            refine ⟨.inl ⟨rfl, _, SqL.of h5⟩, ?_⟩
            refine ⟨H4, _, d, Same.refl _, (re1.mono (x2.small.trans (x3.small.trans x3.sub))).mono x4.big, ?_, fun v5 H5 Hs5 x5 r5 => ?_⟩
            · simp [f2, fVar, fC, gIx, itemD, atI, ixN]
            have R5 := R4.grow x5.big
            obtain ⟨vs', h7, h8, R6⟩ := R5.put hl (r5.flat (H' := Hs) (hfl d rfl))
            refine ⟨l, vs', v5, rfl, rfl, h7, by rw [h8]; exact hlen, ?_⟩
            exact fin _ _ R6 rfl rfl
          · cases e
        · cases e
end
end K87

set_option Elab.async false
set_option linter.all false
set_option maxRecDepth 100000
set_option maxHeartbeats 4000000
namespace K87
open PySem PySem.Spec PyProof.Rows L2 Pu
def goShut (st : RdSt) (sg : Str) : Option RdSt := match st.lots with
  | ds :: es :: dss => if es.length < sizeLine then some { lots := (es ++ [if sg = ")" then PyData.tuple ds else .list ds]) :: dss, signs := st.signs.tail, word := st.word, ended := true } else none
  | _ => none
def opens (sg : Str) : Str := if sg = ")" then "(" else "["
def bareB (st : RdSt) (ds : List PyData) : Bool := st.word == "" && !st.ended && ds.isEmpty
def shutsF (C : Addr) (st : RdSt) (sg : Str) : Option (Bool × RdSt) :=
  if sg = ")" ∨ sg = "]" then match st.lots with
    | [] => none
    | ds :: _ => if PyData.plainAll ds = true then match st.signs with
      | [] => some (false, st)
      | z :: _ => if z = opens sg then (if bareB st ds = true then (goShut st sg).map fun s => (true, s) else (endsF C st).bind fun p => if p.1 = true then (goShut p.2 sg).map fun s => (true, s) else some (false, p.2)) else some (false, st)
      else none
  else none
def spShuts (C : Addr) : Sp := fun vs H Q _ => ∃ H0 Hs0 r st sg b st', vs = [.ref r, .str sg] ∧ Rd H0 Hs0 C r st H ∧ shutsF C st sg = some (b, st') ∧ ∀ H', Rd H0 Hs0 C r st' H' → Q (.bl b) H'
abbrev s_shuts : Stmt := inClass (topS 43) 5
theorem sc_shuts : FnScope ["self", "sign", "is_bare", "lot"] ["self", "sign"] (defScope s_shuts) := ⟨rfl, rfl, rfl, by decide +kernel, rfl, by decide +kernel, by decide +kernel⟩
theorem endsF_signs {C : Addr} {st st' : RdSt} {b : Bool} (h : endsF C st = some (b, st')) : st'.signs = st.signs := by
  obtain ⟨it, e1, e⟩ := bindS h
  cases hb : st.ended with
  | true => rw [hb] at e; cases e; rfl
  | false =>
    rw [hb] at e
    cases it with
    | none => cases e; rfl
    | some d =>
      simp only [Bool.false_eq_true, if_false] at e
      split at e
      · split at e
        · cases e; rfl
        · cases e
      · cases e
theorem plain_strs : ∀ zs : List Str, PyData.plainAll (zs.map .str) = true
  | [] => rfl
  | z :: zs => by unfold List.map PyData.plainAll; rw [plain_strs zs]; rfl
theorem plainAll_app : ∀ xs ys : List PyData, PyData.plainAll (xs ++ ys) = (PyData.plainAll xs && PyData.plainAll ys)
  | [], ys => by rw [List.nil_append]; unfold PyData.plainAll; cases ys <;> rfl
  | x :: xs, ys => by rw [List.cons_append, PyData.plainAll, PyData.plainAll, plainAll_app xs ys, Bool.and_assoc]
theorem gEq_nil {ds : List PyData} (h : PyData.plainAll ds = true) : gEq (.list ds) (.list []) = some ds.isEmpty := by
  cases ds with
  | nil => rfl
  | cons d ds =>
    show eqG _ _ = _
    unfold eqG
    have e1 : (PyData.list (d :: ds)).plain = true := by unfold PyData.plain; exact h
    have e2 : (PyData.list []).plain = true := rfl
    have e3 : decide (min (PyData.list (d :: ds)).depth (PyData.list []).depth ≤ 64) = true := decide_eq_true (Nat.le_trans (Nat.min_le_right _ _) (by decide))
    rw [e1, e2, e3]
    rfl
theorem gNe_nil {ds : List PyData} (h : PyData.plainAll ds = true) : gNe (.list ds) (.list []) = some (!ds.isEmpty) := by
  unfold gNe
  rw [gEq_nil h]
  rfl
theorem rev_last {α : Type} (x : α) (xs : List α) : (x :: xs).reverse[(x :: xs).reverse.length - 1]? = some x := by
  rw [List.reverse_cons, List.length_append, List.length_singleton, Nat.add_sub_cancel, List.getElem?_append_right (Nat.le_refl _), Nat.sub_self]
  rfl
theorem rev_drop {α : Type} (x : α) (xs : List α) : (x :: xs).reverse.dropLast = xs.reverse := by rw [List.reverse_cons, List.dropLast_concat]
section
variable {P : Program} {w : World} {K : PySem.W.Frag} {mg : Str → Option Value} {base : Heap}
theorem ok_shuts {C f fe : Addr} {fd fde : FuncData} {k : Nat} (F : Fun K "shuts" "ThingReader.shuts" s_shuts f fd) (T : TR K C) (FE : FnOk P w K mg base CX0 k fe fde ["self"] (spEnds C)) (bE : Binds K fde ["self"] []) (mE : Meth K C "ends" fe) (m_tuple : mg "tuple" = none) :
    FnOk P w K mg base CX0 (k + 1) f fd ["self", "sign"] (spShuts C) := by
  refine F.ok sc_shuts (fun vs H Q E h => ?_) (fun cdv A outer s H vs Q E hr h => ?_)
  · obtain ⟨H0, Hs0, r, st, sg, b, st', rfl, _⟩ := h
    rfl
  · obtain ⟨H0, Hs0, r, st, sg, b, st', rfl, ⟨Hs, dx, L, S, ls, R⟩, e, q⟩ := h
    obtain ⟨cl, nL, nS, nW, nE⟩ := T
    have nd := sc_shuts.nd
    refine ⟨_, pss_cons (ps_set (i := 2) nd rfl (Or.inl rfl) (pu_and (pu_cmp (o_eq (u64 hr)) g_eq (pu_fld (pu_var 0) cl nW) pu_str (nomark _)) (pu_and (pu_not (pu_fld (pu_var 0) cl nE)) (pu_one (pu_cmp (o_eq (u64 hr)) g_eq (pu_ix (u1 hr) (pu_fld (pu_var 0) cl nL) (pu_neg pu_int) (fun _ _ => rfl) (fun _ _ => rfl)) (pu_lst pua_nil) (nomark _))))).pe)
      (pss_cons (ps_if (pw_or (put_cmp (o_eq (u64 hr)) g_eq (pu_fld (pu_var 0) cl nS) (pu_lst pua_nil) (nomark _)).pt (pw_or (put_cmp (o_ne (u64 hr)) g_ne (pu_ix (u1 hr) (pu_fld (pu_var 0) cl nS) (pu_neg pu_int) (fun _ _ => rfl) (fun _ _ => rfl)) (pu_ix (u1 hr) (pu_dic (.str pu_str (.str pu_str .nil)) (by decide) (by decide) (by decide +kernel)) (pu_var 1) (fun _ _ => rfl) (fun _ _ => rfl)) (nomark _)).pt (pw_or1 (pt_not (pw_or (put_val (pu_var 2)).pt (pw_or1 (pt_val (pe_meth0 (pv 0) cl mE FE hr bE .nil pass0)))).pt)))).pt (pss_one (ps_ret pe_bl)) pss_nil)
      (pss_cons (ps_expr (pe_bm0 PySem.F.plainAttrs_list PySem.F.slot_list_pop PySem.F.type_list_pop mt_pop (pe_fld (f := "signs") (pv 0) rfl)))
      (pss_cons (ps_set (i := 3) nd rfl (Or.inl rfl) (pe_bm0 PySem.F.plainAttrs_list PySem.F.slot_list_pop PySem.F.type_list_pop mt_pop (pe_fld (f := "lots") (pv 0) rfl)))
      (pss_cons (ps_expr (pe_bm PySem.F.plainAttrs_list PySem.F.slot_list_append PySem.F.type_list_append mt_append (pe_ix ix_list (pe_fld (f := "lots") (pv 0) rfl) (pu_neg pu_int).pe (fun _ _ => rfl)) (pa_cons (PU.pe (pu_ifE (put_cmp (o_eq (u64 hr)) g_eq (pu_var 1) pu_str (nomark _)) (pu_callTy call_tuple_of gc_tuple rfl m_tuple boot_tuple (pua_cons (pu_var 3) pua_nil)) (pu_var 3))) pa_nil)))
      (pss_cons (ps_fld (f := "is_ended") (pv 0) pe_bl rfl)
      (pss_one (ps_ret pe_bl))))))), ?_⟩
    unfold shutsF at e
    split at e
    case isFalse => cases e
    rename_i hsg
    split at e
    · cases e
    rename_i ds dss hl
    split at e
    case isFalse => cases e
    rename_i hp
    have re0 : ∀ {H : Hp}, RdA H0 Hs0 H Hs C r dx L S ls st → REnv H [some (.ref r), some (.str sg), none, none] [some (obD C st), some (.str sg), none, none] := fun R => REnv.start (N := ["self", "sign", "is_bare", "lot"]) (ws := [obD C st, .str sg]) (vs := [.ref r, .str sg]) (.cons R.view (.cons (.str sg) .nil))
    have hbare : fAndV (fB (f2T gEq (fFld C "word" (fVar 0)) (fC (.str "")))) (fAndV (fB (fNot (fT (fFld C "is_ended" (fVar 0))))) (fB (f2T gEq (f2 gIx (fFld C "lots" (fVar 0)) (fNeg (fC (.int 1)))) (fLst fNil)))) [some (obD C st), some (.str sg), none, none] = some (.bool (bareB st ds)) := by
      have e1 : gIx (.list (st.lots.map .list).reverse) (.int (-1)) = some (.list ds) := by
        rw [hl, List.map_cons, List.reverse_cons]
        exact atI_last _ _
      have e0 : fVar 0 [some (obD C st), some (PyData.str sg), none, none] = some (obD C st) := rfl
      have e2 : f2 gIx (fFld C "lots" (fVar 0)) (fNeg (fC (.int 1))) [some (obD C st), some (.str sg), none, none] = some (.list ds) := by
        unfold f2 fFld
        rw [e0, Option.bind_some, g_lots, Option.bind_some]
        exact e1
      have e3 : f2T gEq (f2 gIx (fFld C "lots" (fVar 0)) (fNeg (fC (.int 1)))) (fLst fNil) [some (obD C st), some (.str sg), none, none] = some ds.isEmpty := by
        unfold f2T
        rw [e2]
        exact gEq_nil hp
      have e4 : f2T gEq (fFld C "word" (fVar 0)) (fC (.str "")) [some (obD C st), some (.str sg), none, none] = some (st.word == "") := by
        unfold f2T fFld
        rw [e0, Option.bind_some, g_word]
        rfl
      have e5 : fNot (fT (fFld C "is_ended" (fVar 0))) [some (obD C st), some (.str sg), none, none] = some (!st.ended) := by
        unfold fNot fT fFld
        rw [e0, Option.bind_some, g_ended]
        rfl
      unfold fAndV fB bareB
      rw [e4, e5, e3]
      cases (st.word == "") <;> cases st.ended <;> cases ds.isEmpty <;> rfl
    refine ⟨H, _, _, Same.refl _, re0 R, hbare, fun v1 H1 Hs1 x1 r1 => ?_⟩
    obtain rfl := r1.bl_of
    have R1 := R.grow x1.big
    generalize hbb : bareB st ds = bb at e ⊢
    have re1 : ∀ {H : Hp} {st : RdSt} {ls : List Addr}, RdA H0 Hs0 H Hs C r dx L S ls st → REnv H [some (.ref r), some (.str sg), some (.bl (bb)), none] [some (obD C st), some (.str sg), some (.bool (bb)), none] := fun R =>
      (REnv.start (N := ["self", "sign", "is_bare", "lot"]) (ws := [obD C _, .str sg]) (vs := [.ref r, .str sg]) (.cons R.view (.cons (.str sg) .nil))).set (i := 2) (.bl _)
    have fin : ∀ (H2 Hs : Hp) (dx L S : Addr) (st2 s2 : RdSt) (ls : List Addr), RdA H0 Hs0 H2 Hs C r dx L S ls st2 → st2.signs ≠ [] → goShut st2 sg = some s2 → b = true → st' = s2 →
        tSeq (tDrop (tBM0 K "list" rPop (tFld K (tVar 0) "signs"))) (tSeq (tAsg (tBM0 K "list" rPop (tFld K (tVar 0) "lots")) (gName 3)) (tSeq (tDrop (tBM K "list" rAppend (tOp (rIxL K) (tFld K (tVar 0) "lots") (tPu (fNeg (fC (.int 1))))) (tCons (tPu (fIf (f2T gEq (fVar 1) (fC (.str ")"))) (fCall gTuple (fCons (fVar 3) fNil)) (fVar 3))) tNil))) (tSeq (sFld K (tVar 0) (tC (.bl true)) "is_ended") (tRet (tC (.bl true)))))) { nx := fun _ H' => Q .non H', rt := Q } [some (.ref r), some (.str sg), some (.bl (bb)), none] H2 := by
      rintro H2 Hs dx L S st2 s2 ls R2 hsn hgo rfl rfl
      unfold goShut at hgo
      split at hgo
      case h_2 => cases hgo
      rename_i ds2 es dss2 hl2
      split at hgo
      case isFalse => cases hgo
      rename_i hlen
      cases hgo
      cases hs2 : st2.signs with
      | nil => exact absurd hs2 hsn
      | cons z zs =>
      have so2 := R2.so
      rw [hs2, List.map_cons] at so2
      refine ⟨_, rfl, r, C, dx, _, _, rfl, R2.ro, cl, nS, rd_signs, .inl ⟨rfl, _, SqL.of so2⟩, S, _, .str z, rfl, rfl, so2, rev_last _ _, ?_⟩
      rw [rev_drop]
      have R3 := R2.signs zs
      cases ls with
      | nil => have := R2.lots.len; rw [hl2] at this; cases this
      | cons l1 ls =>
      cases ls with
      | nil => have := R2.lots.len; rw [hl2] at this; cases this
      | cons l2 ls =>
      have lo3 := R3.lo
      rw [List.map_cons] at lo3
      refine ⟨_, rfl, r, C, dx, _, _, rfl, R3.ro, cl, nL, rd_lots, .inl ⟨rfl, _, SqL.of lo3⟩, L, _, .ref l1, rfl, rfl, lo3, rev_last _ _, ?_⟩
      rw [rev_drop]
      obtain ⟨vs4, R4, r4⟩ := R3.pop hl2
      refine ⟨_, rfl, r, C, dx, _, _, rfl, R4.ro, cl, nL, rd_lots, ?_⟩
      refine ⟨_, [], .int (-1), Same.refl _, ⟨Nat.zero_le _, fun i w z => by cases z⟩, rfl, fun v5 H5 Hs5 x5 r5 => ?_⟩
      have R5 := R4.grow x5.big
      refine ⟨L, _, -1, .ref l2, rfl, r5.int_of, SqL.of R5.lo, by rw [List.map_cons, List.reverse_cons]; exact atI_last _ _, ?_⟩
      obtain ⟨vs6, h6, _, _⟩ := R5.put rfl (Rp.non (H := _))
      refine ⟨.inl ⟨rfl, _, SqL.of h6⟩, ?_⟩
      have re5 : REnv (upd Hs l1 (.lst vs4)) [some (.ref r), some (.str sg), some (.bl bb), some (.ref l1)] [none, some (.str sg), none, some (.list ds2)] := ⟨Nat.le_refl 4, fun i w hi => by
        rcases i with _ | _ | _ | _ | i
        · cases hi
        · cases hi; exact ⟨_, rfl, .str _⟩
        · cases hi
        · cases hi; exact ⟨_, rfl, r4⟩
        · cases hi⟩
      refine ⟨_, _, if sg = ")" then PyData.tuple ds2 else .list ds2, R5.ext.sub, re5, ?_, fun v7 H7 Hs7 x7 r7 => ?_⟩
      · by_cases hq : sg = ")"
        · rw [if_pos hq, hq]; rfl
        · rw [if_neg hq]
          rcases hsg with z | z
          · exact absurd z hq
          · rw [z]; rfl
      have R7 := R5.more x7
      obtain ⟨vs8, h8, e8, R8⟩ := R7.put rfl r7
      refine ⟨l2, vs8, v7, rfl, rfl, h8, by rw [e8]; exact hlen, ?_⟩
      refine ⟨_, rfl, r, C, dx, _, rfl, R8.ro, cl, nE, (by show 4 < 1000; decide), ?_⟩
      rw [rd_put_ended]
      have R9 := R8.fields st2.word true
      have es : (st2.signs.tail) = zs := by rw [hs2]; rfl
      rw [es] at q
      exact q _ ⟨_, _, _, _, _, R9⟩
    refine ⟨H1, _, st.signs.isEmpty, Same.refl _, re1 R1, ?_, fun H2 Hs2 x2 => ?_⟩
    · unfold f2T fFld
      rw [show fVar 0 [some (obD C st), some (PyData.str sg), some (PyData.bool bb), none] = some (obD C st) from rfl, Option.bind_some, g_signs]
      have := gEq_nil (ds := (st.signs.map PyData.str).reverse) (by rw [← List.map_reverse]; exact plain_strs _)
      refine this.trans ?_
      cases st.signs with
      | nil => rfl
      | cons z zs => simp
    have R2 := R1.grow x2.big
    cases hsg2 : st.signs with
    | nil =>
      rw [hsg2] at e
      cases e
      exact iteT (iteT (q _ ⟨_, _, _, _, _, R2⟩))
    | cons z zs =>
    rw [hsg2] at e
    simp only at e
    refine iteF ?_
    have hB : f2T gNe (f2 gIx (fFld C "signs" (fVar 0)) (fNeg (fC (.int 1)))) (f2 gIx (fDict [(.inr ")", (fC (.str "("))), (.inr "]", (fC (.str "[")))]) (fVar 1)) [some (obD C st), some (.str sg), some (.bool bb), none] = some (!(z == opens sg)) := by
      have e1 : f2 gIx (fFld C "signs" (fVar 0)) (fNeg (fC (.int 1))) [some (obD C st), some (.str sg), some (.bool bb), none] = some (.str z) := by
        unfold f2 fFld
        rw [show fVar 0 [some (obD C st), some (PyData.str sg), some (PyData.bool bb), none] = some (obD C st) from rfl, Option.bind_some, g_signs, hsg2, List.map_cons, List.reverse_cons]
        exact atI_last _ _
      have e2 : f2 gIx (fDict [(.inr ")", (fC (.str "("))), (.inr "]", (fC (.str "[")))]) (fVar 1) [some (obD C st), some (.str sg), some (.bool bb), none] = some (.str (opens sg)) := by
        rcases hsg with z | z <;> (rw [z]; rfl)
      unfold f2T
      rw [e1, e2]
      rfl
    refine ⟨H2, _, _, Same.refl _, re1 R2, hB, fun H3 Hs3 x3 => ?_⟩
    have R3 := R2.grow x3.big
    split at e
    case isFalse hz =>
      cases e
      rw [beq_eq_false_iff_ne.mpr hz]
      exact iteT (iteT (q _ ⟨_, _, _, _, _, R3⟩))
    rename_i hz
    rw [beq_iff_eq.mpr hz]
    refine iteF ?_
    refine ⟨H3, _, bb, Same.refl _, re1 R3, rfl, fun H4 Hs4 x4 => ?_⟩
    have R4 := R3.grow x4.big
    have hsn : st.signs ≠ [] := by rw [hsg2]; exact fun z => nomatch z
    split at e
    · rename_i hb
      obtain ⟨s2, e2, e3⟩ := Option.map_eq_some_iff.mp e
      cases e3
      subst hb
      refine iteT (iteF ?_)
      exact fin _ _ _ _ _ st _ _ R4 hsn e2 rfl rfl
    · rename_i hb
      obtain rfl := Bool.eq_false_iff.mpr hb
      refine iteF ?_
      obtain ⟨⟨b1, st1⟩, e1, e⟩ := bindS e
      refine ⟨_, rfl, r, dx, _, rfl, R4.ro, rd_noM (by decide +kernel) (by decide +kernel) (by decide +kernel) (by decide +kernel), ?_⟩
      refine ⟨H0, Hs0, r, st, b1, st1, rfl, ⟨_, _, _, _, _, R4⟩, e1, fun H5 ⟨Hs5, dx5, L5, S5, ls5, R5⟩ => ⟨b1, rfl, ?_⟩⟩
      cases b1 with
      | true =>
        obtain ⟨s2, e2, e3⟩ := Option.map_eq_some_iff.mp e
        cases e3
        exact iteF (fin _ _ _ _ _ _ _ _ R5 (by rw [endsF_signs e1]; exact hsn) e2 rfl rfl)
      | false =>
        cases e
        exact iteT (q _ ⟨_, _, _, _, _, R5⟩)
end
end K87

set_option Elab.async false
set_option linter.all false
set_option maxRecDepth 100000
set_option maxHeartbeats 4000000
namespace K87
open PySem PySem.Spec PyProof.Rows L2 Pu
def one (c : Nat) : Str := ⟨#[c]⟩
def goF (C : Addr) (st : RdSt) (c : Nat) : Option Bool := match runF ["self", "sign", "is_sign"] 2 (F_ThingReader_goes_on C) [obD C st, .str (one c)] with
  | some (.bool b) => some b
  | _ => none
theorem goF_some {C : Addr} {st : RdSt} {c : Nat} {b : Bool} (h : goF C st c = some b) : runF ["self", "sign", "is_sign"] 2 (F_ThingReader_goes_on C) [obD C st, .str (one c)] = some (.bool b) := by
  unfold goF at h
  split at h
  · rename_i e; cases h; exact e
  · cases h
def takesF (C : Addr) (st : RdSt) (c : Nat) : Option (Bool × RdSt) :=
  if c = 41 ∨ c = 93 then shutsF C st (one c)
  else if c = 32 then (if st.signs.isEmpty = true then some (false, st) else endsF C st)
  else if st.ended = true then some (false, st)
  else if (st.word == "" && (c == 40 || c == 91)) = true then (if st.lots.length < sizeLine ∧ st.signs.length < sizeLine then some (true, { lots := [] :: st.lots, signs := one c :: st.signs, word := st.word, ended := st.ended }) else none)
  else (goF C st c).bind fun g => if g = true then (if st.word.length + 1 ≤ sizeLine then some (true, { lots := st.lots, signs := st.signs, word := st.word ++ one c, ended := st.ended }) else none) else some (false, st)
def spTakes (C : Addr) : Sp := fun vs H Q _ => ∃ H0 Hs0 r st c b st', vs = [.ref r, .str (one c)] ∧ Rd H0 Hs0 C r st H ∧ takesF C st c = some (b, st') ∧ ∀ H', Rd H0 Hs0 C r st' H' → Q (.bl b) H'
abbrev s_takes : Stmt := inClass (topS 43) 1
theorem sc_takes : FnScope ["self", "sign", "is_good"] ["self", "sign"] (defScope s_takes) := ⟨rfl, rfl, rfl, by decide +kernel, rfl, by decide +kernel, by decide +kernel⟩
theorem one_in (c a b : Nat) (z : Str) (h : z.cps.toList = [a, b]) : gInD (.str (one c)) (.str z) = some (decide (c = a ∨ c = b)) := by
  show some (inS ⟨#[c]⟩ z) = _
  rw [inS_one, h]
  simp
theorem one_eq (c a : Nat) (z : Str) (h : z = one a) : gEq (.str (one c)) (.str z) = some (decide (c = a)) := by
  show some (one c == z) = _
  rw [h]
  congr 1
  by_cases e : c = a
  · subst e; simp
  · rw [decide_eq_false e, beq_eq_false_iff_ne]
    intro z
    apply e
    have : (one c).cps = (one a).cps := by rw [z]
    simpa [one] using this
section
variable {P : Program} {w : World} {K : PySem.W.Frag} {mg : Str → Option Value} {base : Heap}
theorem ok_takes {C f fe fs fg : Addr} {fd fde fds fdg : FuncData} {k : Nat} (F : Fun K "takes" "ThingReader.takes" s_takes f fd) (T : TR K C) (FE : FnOk P w K mg base CX0 k fe fde ["self"] (spEnds C)) (bE : Binds K fde ["self"] []) (mE : Meth K C "ends" fe)
    (FS : FnOk P w K mg base CX0 k fs fds ["self", "sign"] (spShuts C)) (bS : Binds K fds ["self", "sign"] []) (mS : Meth K C "shuts" fs) (FG : FnOk P w K mg base CX0 k fg fdg ["self", "sign"] (spP (runF ["self", "sign", "is_sign"] 2 (F_ThingReader_goes_on C)))) (bG : Binds K fdg ["self", "sign"] []) (mG : Meth K C "goes_on" fg) :
    FnOk P w K mg base CX0 (k + 1) f fd ["self", "sign"] (spTakes C) := by
  refine F.ok sc_takes (fun vs H Q E h => ?_) (fun cdv A outer s H vs Q E hr h => ?_)
  · obtain ⟨H0, Hs0, r, st, c, b, st', rfl, _⟩ := h
    rfl
  · obtain ⟨H0, Hs0, r, st, c, b, st', rfl, ⟨Hs, dx, L, S, ls, R⟩, e, q⟩ := h
    obtain ⟨cl, nL, nS, nW, nE⟩ := T
    have nd := sc_takes.nd
    refine ⟨_, pss_cons (ps_if (put_in (u1 hr) (pu_var 1) pu_str).pt (pss_one (ps_ret (pe_meth (pv 0) cl mS FS hr bS .nil pass0 (pa_cons (pv 1) pa_nil)))) pss_nil)
      (pss_cons (ps_if (put_cmp (o_eq (u64 hr)) g_eq (pu_var 1) pu_str (nomark _)).pt (pss_one (ps_ret (pe_and (PU.pe (pu_cmp (o_ne (u64 hr)) g_ne (pu_fld (pu_var 0) cl nS) (pu_lst pua_nil) (nomark _))) (pe_one (pe_meth0 (pv 0) cl mE FE hr bE .nil pass0))))) pss_nil)
      (pss_cons (ps_if (put_val (pu_fld (pu_var 0) cl nE)).pt (pss_one (ps_ret pe_bl)) pss_nil)
      (pss_cons (ps_if (put_w (puw_and (put_cmp (o_eq (u64 hr)) g_eq (pu_fld (pu_var 0) cl nW) pu_str (nomark _)) (puw_and1 (put_in (u1 hr) (pu_var 1) pu_str)))).pt
        (pss_cons (ps_expr (pe_bm PySem.F.plainAttrs_list PySem.F.slot_list_append PySem.F.type_list_append mt_append (pe_fld (f := "lots") (pv 0) rfl) (pa_cons (pe_lst pa_nil) pa_nil)))
        (pss_cons (ps_expr (pe_bm PySem.F.plainAttrs_list PySem.F.slot_list_append PySem.F.type_list_append mt_append (pe_fld (f := "signs") (pv 0) rfl) (pa_cons (pv 1) pa_nil)))
        (pss_one (ps_ret pe_bl)))) pss_nil)
      (pss_cons (ps_set (i := 2) nd rfl (Or.inl rfl) (pe_meth (pv 0) cl mG FG hr bG .nil pass0 (pa_cons (pv 1) pa_nil)))
      (pss_cons (ps_fld (f := "word") (pv 0) (PU.pe (pu_ifE (put_val (pu_var 2)) (pu_op o_add g_add (pu_fld (pu_var 0) cl nW) (pu_var 1)) (pu_fld (pu_var 0) cl nW))) rfl)
      (pss_one (ps_ret (pv 2)))))))), ?_⟩
    have re0 : ∀ {H : Hp} {st : RdSt} {ls : List Addr}, RdA H0 Hs0 H Hs C r dx L S ls st → REnv H [some (.ref r), some (.str (one c)), none] [some (obD C st), some (.str (one c)), none] := fun R => REnv.start (N := ["self", "sign", "is_good"]) (ws := [obD C _, .str (one c)]) (vs := [.ref r, .str (one c)]) (.cons R.view (.cons (.str (one c)) .nil))
    have e0 : ∀ (st : RdSt), fVar 0 [some (obD C st), some (PyData.str (one c)), none] = some (obD C st) := fun _ => rfl
    have nm : ∀ {st : RdSt} {m : Str}, (m == "lots") = false → (m == "signs") = false → (m == "word") = false → (m == "is_ended") = false → (rdF L S st.word st.ended).lookup m = none := fun h1 h2 h3 h4 => rd_noM h1 h2 h3 h4
    unfold takesF at e
    refine ⟨H, _, _, Same.refl _, re0 R, one_in c 41 93 ")]" rfl, fun H1 Hs1 x1 => ?_⟩
    have R1 := R.grow x1.big
    split at e
    · rename_i hc
      rw [decide_eq_true hc]
      refine iteT ?_
      refine ⟨_, rfl, r, dx, _, rfl, R1.ro, nm (by decide +kernel) (by decide +kernel) (by decide +kernel) (by decide +kernel), ?_⟩
      exact ⟨_, rfl, H0, Hs0, r, st, one c, b, st', rfl, ⟨_, _, _, _, _, R1⟩, e, q⟩
    rename_i hc
    rw [decide_eq_false hc]
    refine iteF ?_
    refine ⟨H1, _, _, Same.refl _, re0 R1, one_eq c 32 " " rfl, fun H2 Hs2 x2 => ?_⟩
    have R2 := R1.grow x2.big
    split at e
    · rename_i hc2
      rw [decide_eq_true hc2]
      refine iteT ?_
      refine ⟨H2, _, .bool (!st.signs.isEmpty), Same.refl _, re0 R2, ?_, fun v3 H3 Hs3 x3 r3 => ⟨!st.signs.isEmpty, r3.bl_of, ?_⟩⟩
      · unfold fB f2T fFld
        rw [e0, Option.bind_some, g_signs]
        have := gNe_nil (ds := (st.signs.map PyData.str).reverse) (by rw [← List.map_reverse]; exact plain_strs _)
        show (gNe (PyData.list (st.signs.map PyData.str).reverse) (.list [])).map PyData.bool = _
        rw [this]
        cases st.signs with
        | nil => rfl
        | cons z zs => simp
      have R3 := R2.grow x3.big
      cases hs : st.signs.isEmpty with
      | true =>
        rw [hs] at e
        cases e
        exact iteF (q _ ⟨_, _, _, _, _, R3⟩)
      | false =>
        rw [hs] at e
        refine iteT ?_
        refine ⟨_, rfl, r, dx, _, rfl, R3.ro, nm (by decide +kernel) (by decide +kernel) (by decide +kernel) (by decide +kernel), ?_⟩
        exact ⟨H0, Hs0, r, st, b, st', rfl, ⟨_, _, _, _, _, R3⟩, e, q⟩
    rename_i hc2
    rw [decide_eq_false hc2]
    refine iteF ?_
    refine ⟨H2, _, st.ended, Same.refl _, re0 R2, ?_, fun H3 Hs3 x3 => ?_⟩
    · unfold fT fFld
      rw [e0, Option.bind_some, g_ended]
      rfl
    have R3 := R2.grow x3.big
    split at e
    · rename_i he
      cases e
      rw [he]
      exact iteT (q _ ⟨_, _, _, _, _, R3⟩)
    rename_i he
    rw [Bool.eq_false_iff.mpr he]
    refine iteF ?_
    refine ⟨H3, _, (st.word == "" && (c == 40 || c == 91)), Same.refl _, re0 R3, ?_, fun H4 Hs4 x4 => ?_⟩
    · unfold fAnd f2T fFld
      rw [e0, Option.bind_some, g_word, Option.bind_some]
      show (some (st.word == "")).bind _ = _
      cases (st.word == "") with
      | false => rfl
      | true =>
        show gInD (.str (one c)) (.str "([") = _
        rw [one_in c 40 91 "([" rfl]
        by_cases h1 : c = 40 <;> by_cases h2 : c = 91 <;> simp [h1, h2]
    have R4 := R3.grow x4.big
    split at e
    · rename_i hw
      split at e
      case isFalse => cases e
      rename_i hlen
      cases e
      rw [hw]
      refine iteT ?_
      refine ⟨_, rfl, r, C, dx, _, _, rfl, R4.ro, cl, nL, rd_lots, .inl ⟨rfl, _, SqL.of R4.lo⟩, Nat.zero_le _, fun p hp => ?_⟩
      have np : L ≠ p := ne_of_none R4.lo hp
      refine ⟨L, _, .ref p, rfl, rfl, (upd_ne np).trans R4.lo, by rw [List.length_reverse, List.length_map, R4.lots.len]; exact hlen.1, ?_⟩
      have R5 := R4.push hp
      have so5 := R5.so
      refine ⟨_, rfl, r, C, dx, _, _, rfl, R5.ro, cl, nS, rd_signs, .inl ⟨rfl, _, SqL.of so5⟩, _, rfl, S, _, .str (one c), rfl, rfl, so5, by rw [List.length_reverse, List.length_map]; exact hlen.2, ?_⟩
      have R6 := R5.signs (one c :: st.signs)
      rw [List.map_cons, List.reverse_cons] at R6
      exact q _ ⟨_, _, _, _, _, R6⟩
    rename_i hw
    rw [Bool.eq_false_iff.mpr hw]
    refine iteF ?_
    obtain ⟨g, eg, e⟩ := bindS e
    refine ⟨_, rfl, r, dx, _, rfl, R4.ro, nm (by decide +kernel) (by decide +kernel) (by decide +kernel) (by decide +kernel), _, rfl, H4, [obD C st, .str (one c)], .bool g, Same.refl _, .cons R4.view (.cons (.str _) .nil), goF_some eg, fun v5 H5 Hs5 x5 r5 => ?_⟩
    obtain rfl := r5.bl_of
    have R5 := R4.grow x5.big
    have re5 : REnv H5 [some (.ref r), some (.str (one c)), some (.bl g)] [some (obD C st), some (.str (one c)), some (.bool g)] := (re0 R5).set (i := 2) (.bl g)
    have e5 : fVar 0 [some (obD C st), some (PyData.str (one c)), some (PyData.bool g)] = some (obD C st) := rfl
    have ew : fFld C "word" (fVar 0) [some (obD C st), some (PyData.str (one c)), some (PyData.bool g)] = some (.str st.word) := by
      unfold fFld
      rw [e5, Option.bind_some, g_word]
    have fin : ∀ w' : Str, fIf (fT (fVar 2)) (f2 gAdd (fFld C "word" (fVar 0)) (fVar 1)) (fFld C "word" (fVar 0)) [some (obD C st), some (PyData.str (one c)), some (PyData.bool g)] = some (.str w') → b = g → st' = { st with word := w' } → sFld K (tVar 0) (tPu (fIf (fT (fVar 2)) (f2 gAdd (fFld C "word" (fVar 0)) (fVar 1)) (fFld C "word" (fVar 0)))) "word" { nx := tRet (tVar 2) { nx := fun _ H' => Q .non H', rt := Q }, rt := Q } [some (.ref r), some (.str (one c)), some (.bl g)] H5 := by
      rintro w' h1 rfl rfl
      refine ⟨H5, _, .str w', Same.refl _, re5, h1, fun v6 H6 Hs6 x6 r6 => ?_⟩
      obtain rfl := r6.str_of
      have R6 := R5.grow x6.big
      refine ⟨_, rfl, r, C, dx, _, rfl, R6.ro, cl, nW, (by show 4 < 1000; decide), _, rfl, ?_⟩
      rw [rd_put_word]
      exact q _ ⟨_, _, _, _, _, R6.fields w' st.ended⟩
    cases g with
    | true =>
      rw [if_pos rfl] at e
      split at e
      case isFalse => cases e
      rename_i hl
      cases e
      refine fin (st.word ++ one c) ?_ rfl rfl
      unfold fIf f2
      rw [ew]
      show gAdd (.str st.word) (.str (one c)) = _
      show (if st.word.length + (one c).length ≤ sizeLine then some (PyData.str (st.word ++ one c)) else none) = _
      rw [if_pos (by show st.word.length + 1 ≤ sizeLine; exact hl)]
    | false =>
      cases e
      refine fin st.word ?_ rfl rfl
      unfold fIf
      rw [ew]
      rfl
end
end K87

set_option Elab.async false
set_option linter.all false
set_option maxRecDepth 100000
set_option maxHeartbeats 4000000
namespace K87
open PySem PySem.Spec PyProof.Rows L2 Pu
theorem atI_first {α : Type} (x : α) (xs : List α) : atI (x :: xs) 0 = some x := by
  unfold atI ixN
  rw [if_pos (Int.le_refl 0), if_pos (by rw [List.length_cons]; omega)]
  rfl
def st0 : RdSt := ⟨[[]], [], "", false⟩
def spInit (C : Addr) : Sp := fun vs H Q _ => ∃ H0 Hs0 r dx, vs = [.ref r] ∧ Same Hs0 H0 ∧ H = upd (upd H0 dx (.own r)) r (.ins C dx []) ∧ H0 r = none ∧ H0 dx = none ∧ dx ≠ r ∧ ∀ H', Rd H0 Hs0 C r st0 H' → Q .non H'
abbrev s_init : Stmt := inClass (topS 43) 0
theorem sc_init : FnScope ["self"] ["self"] (defScope s_init) := ⟨rfl, rfl, rfl, by decide +kernel, rfl, by decide +kernel, by decide +kernel⟩
def runT (C : Addr) : RdSt → Nat → List Nat → Option (Nat ⊕ RdSt)
  | st, _, [] => some (.inr st)
  | st, i, c :: cs => (takesF C st c).bind fun p => if p.1 = true then runT C p.2 (i + 1) cs else some (.inl i)
def doneF (C : Addr) (z : Str) : Nat ⊕ RdSt → Option PyData
  | .inl i => some (.tuple [.none, .int (i : Nat)])
  | .inr st => if st.signs.isEmpty = true then (endsF C st).bind fun p => if p.1 = true then (match p.2.lots with | [d :: _] => some (.tuple [d, .none]) | _ => none) else some (.tuple [.none, .int z.length]) else some (.tuple [.none, .int z.length])
def readF (C : Addr) : List PyData → Option PyData
  | [.str z] => if z.length ≤ sizeLine then (runT C st0 0 z.cps.toList).bind (doneF C z) else none
  | _ => none
abbrev s_thing_read : Stmt := topS 44
theorem sc_thing_read : FnScope ["text", "reader", "at", "sign"] ["text"] (defScope s_thing_read) := ⟨rfl, rfl, rfl, by decide +kernel, rfl, by decide +kernel, by decide +kernel⟩
section
variable {P : Program} {w : World} {K : PySem.W.Frag} {mg : Str → Option Value} {base : Heap}
theorem ok_init {C f : Addr} {fd : FuncData} {k : Nat} (F : Fun K "__init__" "ThingReader.__init__" s_init f fd) (T : TR K C) : FnOk P w K mg base CX0 (k + 1) f fd ["self"] (spInit C) := by
  refine F.ok sc_init (fun vs H Q E h => ?_) (fun cdv A outer s H vs Q E hr h => ?_)
  · obtain ⟨H0, Hs0, r, dx, rfl, _⟩ := h
    rfl
  · obtain ⟨H0, Hs0, r, dx, rfl, s0, rfl, r0, d0, hne, q⟩ := h
    obtain ⟨cl, nL, nS, nW, nE⟩ := T
    refine ⟨_, pss_cons (ps_fld (f := "lots") (pv 0) (pe_lst (pa_cons (pe_lst pa_nil) pa_nil)) rfl) (pss_cons (ps_fld (f := "signs") (pv 0) (pe_lst pa_nil) rfl) (pss_cons (ps_fld (f := "word") (pv 0) pe_str rfl) (pss_one (ps_fld (f := "is_ended") (pv 0) pe_bl rfl)))), ?_⟩
    refine ⟨Nat.zero_le _, fun p hp => ⟨by show 1 ≤ sizeLine; decide, fun L hL => ?_⟩⟩
    have npr : r ≠ p := ne_of_none upd_same hp
    have nLr : r ≠ L := ne_of_none ((upd_ne npr).trans upd_same) hL
    have nLp : p ≠ L := ne_of_none upd_same hL
    refine ⟨_, rfl, r, C, dx, [], rfl, (upd_ne nLr).trans ((upd_ne npr).trans upd_same), cl, nL, (by show 0 < 1000; decide), Nat.zero_le _, fun S hS => ?_⟩
    have nSr : r ≠ S := ne_of_none upd_same hS
    have nSL : L ≠ S := ne_of_none ((upd_ne nLr.symm).trans upd_same) hS
    have nSp : p ≠ S := ne_of_none ((upd_ne npr.symm).trans ((upd_ne nLp).trans upd_same)) hS
    refine ⟨_, rfl, r, C, dx, _, rfl, (upd_ne nSr).trans upd_same, cl, nS, (by show 1 < 1000; decide), _, rfl, r, C, dx, _, rfl, upd_same, cl, nW, (by show 2 < 1000; decide), _, rfl, r, C, dx, _, rfl, upd_same, cl, nE, (by show 3 < 1000; decide), ?_⟩
    rw [upd_upd, upd_upd]
    have ndr : ∀ {b}, H0 b ≠ none → b ≠ dx := fun h z => h (z ▸ d0)
    have out : ∀ {b : Addr}, H0 b ≠ none → b ≠ r ∧ b ≠ dx ∧ b ≠ p ∧ b ≠ L ∧ b ≠ S := by
      intro b h
      have h1 : b ≠ r := fun z => h (z ▸ r0)
      have h2 : b ≠ dx := fun z => h (z ▸ d0)
      have h3 : b ≠ p := fun z => by
        subst z
        rw [upd_ne h1, upd_ne h2] at hp
        exact h hp
      have h4 : b ≠ L := fun z => by
        subst z
        rw [upd_ne h3, upd_ne h1, upd_ne h2] at hL
        exact h hL
      have h5 : b ≠ S := fun z => by
        subst z
        rw [upd_ne h1, upd_ne h4, upd_ne h3, upd_ne h1, upd_ne h2] at hS
        exact h hS
      exact ⟨h1, h2, h3, h4, h5⟩
    have big : ∀ b o, H0 b = some o → (upd (upd (upd (upd (upd (upd (upd H0 dx (.own r)) r (.ins C dx [])) p (.lst [])) L (.lst [.ref p])) r (.ins C dx (putF "lots" (.ref L) []))) S (.lst [])) r (.ins C dx (rdF L S "" false))) b = some o := fun b o e => by
      obtain ⟨h1, h2, h3, h4, h5⟩ := out (b := b) (by rw [e]; exact fun z => nomatch z)
      rw [upd_ne h1, upd_ne h5, upd_ne h1, upd_ne h4, upd_ne h3, upd_ne h1, upd_ne h2]
      exact e
    have nn : ∀ {b : Addr}, (b = r ∨ b = L ∨ b = S ∨ b = p) → H0 b = none := by
      intro b hb
      cases h : H0 b with
      | none => rfl
      | some o =>
        obtain ⟨h1, h2, h3, h4, h5⟩ := out (b := b) (by rw [h]; exact fun z => nomatch z)
        rcases hb with z | z | z | z
        · exact absurd z h1
        · exact absurd z h4
        · exact absurd z h5
        · exact absurd z h3
    refine q _ ⟨Hs0, dx, L, S, [p], ⟨big, Same.refl _, fun b o e => big _ _ (s0 _ _ e), fun b h _ => h⟩, ?_, fun x hx => ?_, upd_same, ?_, ?_, .cons (vs := []) ?_ .nil .nil⟩
    · simp only [List.nodup_cons, List.mem_cons, List.not_mem_nil, or_false, not_or, List.nodup_nil, and_true, not_false_iff]
      exact ⟨⟨nLr, nSr, npr⟩, ⟨nSL, nLp.symm⟩, nSp.symm⟩
    · have : x = r ∨ x = L ∨ x = S ∨ x = p := by simpa using hx
      exact ⟨nn this, s0.free (nn this)⟩
    · rw [upd_ne nLr.symm, upd_ne nSL, upd_ne nLr.symm, upd_same] <;> rfl
    · rw [upd_ne nSr.symm, upd_same] <;> rfl
    · rw [upd_ne npr.symm, upd_ne nSp, upd_ne npr.symm, upd_ne nLp, upd_same] <;> rfl
theorem ok_thing_read {C f fi ft fe : Addr} {fd fdi fdt fde : FuncData} {k : Nat} (F : Fun K "thing_read" "thing_read" s_thing_read f fd) (T : TR K C) (M : Mk K C fi) (hC : mg "ThingReader" = some (.ref C)) (m_en : mg "enumerate" = none) (m_len : mg "len" = none)
    (FI : FnOk P w K mg base CX0 k fi fdi ["self"] (spInit C)) (bI : Binds K fdi ["self"] []) (FT : FnOk P w K mg base CX0 (k + 1) ft fdt ["self", "sign"] (spTakes C)) (bT : Binds K fdt ["self", "sign"] []) (mT : Meth K C "takes" ft) (FE : FnOk P w K mg base CX0 (k + 1) fe fde ["self"] (spEnds C)) (bE : Binds K fde ["self"] []) (mE : Meth K C "ends" fe) :
    FnOk P w K mg base CX0 (k + 2) f fd ["text"] (spP (readF C)) := by
  refine F.ok sc_thing_read (fun vs H Q E h => ?_) (fun cdv A outer s H vs Q E hr h => ?_)
  · refine spP_len (g := readF C) (n := 1) (fun ws w e => ?_) h
    unfold readF at e
    split at e
    · rfl
    · cases e
  · obtain ⟨Hs0, ws, w0, s0, rws, e, q⟩ := h
    obtain ⟨cl, nL, nS, nW, nE⟩ := T
    have nd := sc_thing_read.nd
    unfold readF at e
    split at e
    case h_2 => cases e
    rename_i z
    split at e
    case isFalse => cases e
    rename_i hz
    obtain ⟨v0, rfl, r0⟩ := rws.one
    obtain rfl := r0.str_of
    refine ⟨_, pss_cons (ps_set (i := 1) nd rfl (Or.inl rfl) (pe_make0 M FI hr rfl hC bI .nil pass0))
      (pss_cons (ps_for PassesOwn.never rfl (pi_ens rfl m_en (pa_cons (pv 0) pa_nil)) (pg_tup rfl (pgs_cons (pg_name (i := 2) nd rfl (Or.inl rfl)) (pgs_cons (pg_name (i := 3) nd rfl (Or.inl rfl)) pgs_nil)))
        (pss_one (ps_if (pt_not (pt_val (pe_meth (pv 1) cl mT FT hr bT .nil pass0 (pa_cons (pv 3) pa_nil)))) (pss_one (ps_ret (pe_tup (pa_cons pe_non (pa_cons (pv 2) pa_nil))))) pss_nil)))
      (pss_one (ps_ret (pe_ifExp (pw_and (put_cmp (o_eq (u64 hr)) g_eq (pu_fld (pu_var 1) cl nS) (pu_lst pua_nil) (nomark _)).pt (pw_and1 (pt_val (pe_meth0 (pv 1) cl mE FE hr bE .nil pass0)))).pt
        (pe_tup (pa_cons (pe_ix ix_list (pe_ix ix_list (pe_fld (f := "lots") (pv 1) rfl) pe_int (fun _ _ => rfl)) pe_int (fun _ _ => rfl)) (pa_cons pe_non pa_nil)))
        (pe_tup (pa_cons pe_non (pa_cons (PU.pe (pu_callB c_len gc_len rfl m_len boot_len (pua_cons (pu_var 0) pua_nil))) pa_nil))))))), ?_⟩
    have nm : ∀ {L S : Addr} {st : RdSt} {m : Str}, (m == "lots") = false → (m == "signs") = false → (m == "word") = false → (m == "is_ended") = false → (rdF L S st.word st.ended).lookup m = none := fun h1 h2 h3 h4 => rd_noM h1 h2 h3 h4
    intro r dx nx ndx nex
    refine ⟨H, Hs0, r, dx, rfl, s0, rfl, nx, ndx, nex, fun H1 R1 => ⟨rfl, ?_⟩⟩
    refine ⟨_, rfl, z, rfl, fun i m σ H' => m = z.cps.size - i ∧ i ≤ z.cps.size ∧ ∃ st a b, σ = [some (.str z), some (.ref r), a, b] ∧ Rd H Hs0 C r st H' ∧ (runT C st i (z.cps.toList.drop i)).bind (doneF C z) = some w0,
      ⟨z.cps.size, by simp, Nat.zero_le _, st0, none, none, rfl, R1, by rw [List.drop_zero]; exact e⟩, ?_⟩
    rintro i m σ H2 ⟨rfl, hle, st, a, b, rfl, R2, e2⟩
    by_cases hlt : i < z.cps.size
    · refine .inr ⟨hlt, fun σ' H' => ∃ st a b, σ' = [some (.str z), some (.ref r), a, b] ∧ Rd H Hs0 C r st H' ∧ (runT C st (i + 1) (z.cps.toList.drop (i + 1))).bind (doneF C z) = some w0, fun σ' H' h => ⟨z.cps.size - (i + 1), by omega, rfl, hlt, h⟩, ?_⟩
      rintro x H3 ⟨t, c, rfl, ht, rfl, hc⟩
      have R3 := R2.grow (H' := upd H2 t (.tup [.int (i : Nat), .str ⟨#[c]⟩])) fun b u h => by rw [upd_ne (ne_of_none h ht)]; exact h
      have ed : z.cps.toList.drop i = c :: z.cps.toList.drop (i + 1) := by
        rw [List.drop_eq_getElem_cons (by rw [Array.length_toList]; exact hlt)]
        congr 1
        rw [Array.getElem?_eq_getElem hlt] at hc
        rw [Array.getElem_toList]
        exact Option.some.inj hc
      rw [ed] at e2
      obtain ⟨o, e2, e3⟩ := bindS e2
      obtain ⟨⟨k1, st1⟩, e4, e5⟩ := bindS e2
      refine ⟨t, _, rfl, SqT.of upd_same, rfl, _, _, rfl, _, _, rfl, rfl, ?_⟩
      obtain ⟨Hs3, dx3, L3, S3, ls3, R3'⟩ := id R3
      refine ⟨_, rfl, r, dx3, _, rfl, R3'.ro, nm (by decide +kernel) (by decide +kernel) (by decide +kernel) (by decide +kernel), _, rfl, ?_⟩
      refine ⟨H, Hs0, r, st, c, k1, st1, rfl, R3, e4, fun H4 R4 => ⟨k1, rfl, ?_⟩⟩
      cases k1 with
      | true => exact iteF ⟨st1, _, _, rfl, R4, by rw [show runT C st1 (i + 1) (z.cps.toList.drop (i + 1)) = some o from e5]; exact e3⟩
      | false =>
        cases e5
        cases e3
        refine iteT ⟨_, rfl, by show 2 ≤ sizeLine; decide, fun p hp => ?_⟩
        obtain ⟨Hs4, dx4, L4, S4, ls4, R4'⟩ := R4
        exact q _ _ _ (R4'.ext.laid hp _) (Rp.newT (R4'.ext.sub.free hp) (.cons .non (.cons (.int _) .nil)))
    · have ei : i = z.cps.size := by omega
      subst ei
      refine .inl ⟨rfl, ?_⟩
      rw [List.drop_eq_nil_of_le (by rw [Array.length_toList]; exact Nat.le_refl _)] at e2
      have e2 : doneF C z (.inr st) = some w0 := e2
      obtain ⟨Hs2, dx2, L2, S2, ls2, R2'⟩ := id R2
      have re : REnv H2 [some (.str z), some (.ref r), a, b] [some (.str z), some (obD C st), none, none] := ⟨Nat.le_refl 4, fun i w hi => by
        rcases i with _ | _ | _ | _ | i
        · cases hi; exact ⟨_, rfl, .str _⟩
        · cases hi; exact ⟨_, rfl, R2'.view⟩
        · cases hi
        · cases hi
        · cases hi⟩
      have elen : w0 = .tuple [.none, .int z.length] → ∀ H5, Rd H Hs0 C r st H5 ∨ (∃ s, Rd H Hs0 C r s H5) → tTup (tCons (tC .non) (tCons (tPu (fCall gLen (fCons (fVar 0) fNil))) tNil)) [some (.str z), some (.ref r), a, b] H5 Q := by
        rintro rfl H5 hR
        obtain ⟨s5, Hs5, dx5, L5, S5, ls5, R5⟩ : ∃ s, Rd H Hs0 C r s H5 := by
          rcases hR with h | h
          · exact ⟨_, h⟩
          · exact h
        refine ⟨Hs5, [some (.str z)], .int z.length, R5.ext.sub, ⟨by show 1 ≤ 4; decide, fun i w hi => by
          rcases i with _ | i
          · cases hi; exact ⟨_, rfl, .str _⟩
          · cases hi⟩, ?_, fun v6 H6 Hs6 x6 r6 => ⟨by show 2 ≤ sizeLine; decide, fun p hp => ?_⟩⟩
        · show (if z.length ≤ sizeLine then some (PyData.int z.length) else none) = _
          rw [if_pos hz]
        · exact q _ _ _ ((R5.ext.trans x6).laid hp _) (Rp.newT (x6.sub.free hp) (.cons .non (.cons r6 .nil)))
      refine ⟨H2, _, st.signs.isEmpty, Same.refl _, re, ?_, fun H3 Hs3 x3 => ?_⟩
      · unfold f2T fFld
        rw [show fVar 1 [some (PyData.str z), some (obD C st), none, none] = some (obD C st) from rfl, Option.bind_some, g_signs]
        have := gEq_nil (ds := (st.signs.map PyData.str).reverse) (by rw [← List.map_reverse]; exact plain_strs _)
        refine this.trans ?_
        cases st.signs with
        | nil => rfl
        | cons z zs => simp
      have R3 := R2'.grow x3.big
      unfold doneF at e2
      simp only at e2
      split at e2
      · rename_i hs
        rw [hs]
        refine iteT ?_
        obtain ⟨⟨b1, st1⟩, e3, e4⟩ := bindS e2
        refine ⟨_, rfl, r, dx2, _, rfl, R3.ro, nm (by decide +kernel) (by decide +kernel) (by decide +kernel) (by decide +kernel), ?_⟩
        refine ⟨H, Hs0, r, st, b1, st1, rfl, ⟨_, _, _, _, _, R3⟩, e3, fun H4 R4 => ⟨b1, rfl, ?_⟩⟩
        cases b1 with
        | true =>
          refine iteT ?_
          rw [if_pos rfl] at e4
          split at e4
          case h_2 => cases e4
          rename_i d ds hl
          cases e4
          obtain ⟨Hs4, dx4, L4, S4, ls4, R4'⟩ := R4
          have hl : st1.lots = [d :: ds] := hl
          have t4 := R4'.lots
          have lo4 := R4'.lo
          rw [hl] at t4
          cases t4 with
          | cons hl4 rl4 tt =>
          cases tt
          cases rl4 with
          | cons rd rt =>
          refine ⟨_, rfl, r, C, dx4, _, _, rfl, R4'.ro, cl, nL, rd_lots, ?_⟩
          refine ⟨L4, _, 0, _, rfl, rfl, SqL.of lo4, rfl, ?_⟩
          refine ⟨_, _, 0, _, rfl, rfl, SqL.of hl4, atI_first _ _, ?_⟩
          refine ⟨by show 2 ≤ sizeLine; decide, fun p hp => ?_⟩
          exact q _ _ _ (R4'.ext.laid hp _) (Rp.newT (R4'.ext.sub.free hp) (.cons rd (.cons .non .nil)))
        | false =>
          cases e4
          exact iteF (elen rfl H4 (.inr ⟨_, R4⟩))
      · rename_i hs
        cases e2
        rw [Bool.eq_false_iff.mpr hs]
        exact iteF (iteF (elen rfl H3 (.inl ⟨_, _, _, _, _, R3⟩)))
end
end K87

set_option Elab.async false
set_option linter.all false
set_option maxRecDepth 100000
set_option maxHeartbeats 4000000
/-! What the pure functions on slots come to. -/
namespace K87
open PySem PySem.Spec PyProof.Rows L2 Pu
theorem compL_map {i : Nat} {fe : Ev → Option PyData} {ev : Ev} {h : PyData → PyData} : ∀ {ws : List PyData}, (∀ w ∈ ws, fe (ev.set i (some w)) = some (h w)) → compL asOne [i] (fun _ => some true) fe ev ws = some (ws.map h)
  | [], _ => rfl
  | w :: ws, k => by
    show ((fe (ev.set i (some w))).bind fun y => (compL asOne [i] (fun _ => some true) fe ev ws).bind fun ys => some (y :: ys)) = _
    rw [k w List.mem_cons_self, compL_map fun w' hw' => k w' (List.mem_cons_of_mem _ hw')]
    rfl
theorem lt_one (a b : Nat) : decide (([a] : List Nat) < [b]) = decide (a < b) := by
  by_cases h : a < b
  · rw [decide_eq_true h]; exact decide_eq_true (List.Lex.rel h)
  · rw [decide_eq_false h]
    refine decide_eq_false fun z => ?_
    cases z with
    | rel z => exact h z
    | cons z => cases z
theorem gLe_one (a b : Nat) : gLe (.str (one a)) (.str (one b)) = some (decide (a ≤ b)) := by
  have e : gLe (.str (one a)) (.str (one b)) = some (!decide ([b] < [a])) := rfl
  rw [e, lt_one]
  by_cases h : b < a
  · rw [decide_eq_true h, decide_eq_false (by omega : ¬ a ≤ b)]; rfl
  · rw [decide_eq_false h, decide_eq_true (by omega : a ≤ b)]; rfl
theorem chain_one {f : Ev → Option PyData} {ev : Ev} {a b c : Nat} (za zb : Str) (ha : za = one a) (hb : zb = one b) (h : f ev = some (.str (one c))) : fChain gLe gLe (fC (.str za)) f (fC (.str zb)) ev = some (decide (a ≤ c) && decide (c ≤ b)) := by
  subst ha hb
  unfold fChain fC
  rw [h]
  simp only [Option.bind_some]
  rw [gLe_one]
  simp only [Option.bind_some]
  rw [gLe_one]
  by_cases h1 : a ≤ c
  · rw [decide_eq_true h1]; rfl
  · rw [decide_eq_false h1]; rfl
theorem in_one (c : Nat) (z : Str) : gInD (.str (one c)) (.str z) = some (decide (c ∈ z.cps.toList)) := by
  show some (inS ⟨#[c]⟩ z) = _
  rw [inS_one]
theorem asBs_map {α : Type} {h : α → Bool} : ∀ (ws : List α), asBs (ws.map fun w => .bool (h w)) = some (ws.map h)
  | [] => rfl
  | w :: ws => by
    have e : asBs ((w :: ws).map fun w => .bool (h w)) = (asBs (ws.map fun w => .bool (h w))).map (h w :: ·) := rfl
    rw [e, asBs_map ws]
    rfl
end K87

set_option Elab.async false
set_option linter.all false
set_option maxRecDepth 100000
set_option maxHeartbeats 4000000
/-! The purse: what is drawn. -/
namespace K87
open PySem PySem.Spec PyProof.Rows L2 Pu
/-- the purse at p, apart from the pure values; n: how often it may have turned -/
structure Pur (p : Addr) (H Hs : Hp) (n : Nat) : Prop where
  at_ : ∃ a b c d : Int, H p = some (.lst [.int a, .int b, .int c, .int d]) ∧ 0 ≤ a ∧ 0 ≤ b ∧ b < 2 ^ 32 ∧ 0 ≤ c ∧ c ≤ n ∧ 0 ≤ d ∧ d < 2 ^ 32
  pn : Hs p = none
  sub : Same Hs H
theorem Pur.np {p : Addr} {H Hs : Hp} {n : Nat} (h : Pur p H Hs n) : H p ≠ none := by
  obtain ⟨a, b, c, d, e, _⟩ := h.at_
  rw [e]
  exact fun z => nomatch z
theorem Pur.ext {p : Addr} {H Hs H' Hs' : Hp} {n : Nat} (h : Pur p H Hs n) (x : Ext H Hs H' Hs') : Pur p H' Hs' n := by
  obtain ⟨a, b, c, d, e, r⟩ := h.at_
  exact ⟨⟨a, b, c, d, x.big _ _ e, r⟩, x.new p h.pn h.np, x.sub⟩
theorem Pur.grow {p : Addr} {H Hs H' : Hp} {n : Nat} (h : Pur p H Hs n) (s : Same H H') : Pur p H' Hs n := by
  obtain ⟨a, b, c, d, e, r⟩ := h.at_
  exact ⟨⟨a, b, c, d, s _ _ e, r⟩, h.pn, h.sub.trans s⟩
theorem Pur.more {p : Addr} {H Hs : Hp} {n m : Nat} (h : Pur p H Hs n) (l : n ≤ m) : Pur p H Hs m := by
  obtain ⟨a, b, c, d, e, h1, h2, h3, h4, h5, h6⟩ := h.at_
  exact ⟨⟨a, b, c, d, e, h1, h2, h3, h4, by omega, h6⟩, h.pn, h.sub⟩
theorem Pur.keep {p : Addr} {H Hs : Hp} {n : Nat} (h : Pur p H Hs n) : ExtB p H Hs H Hs := ⟨fun _ _ _ e => e, Same.refl _, h.sub, h.pn, fun _ z _ => z⟩
/-- the purse is written, or the heap grew -/
theorem Pur.extB {p : Addr} {H Hs H' : Hp} {n : Nat} (h : Pur p H Hs n) (s : ∀ b o, b ≠ p → H b = some o → H' b = some o) : ExtB p H Hs H' Hs :=
  ⟨s, Same.refl _, fun b o e => s b o (ne_of_none e h.pn) (h.sub b o e), h.pn, fun _ z _ => z⟩
theorem at4_0 {α : Type} (a b c d : α) : atI [a, b, c, d] 0 = some a := rfl
theorem at4_1 {α : Type} (a b c d : α) : atI [a, b, c, d] 1 = some b := rfl
theorem at4_2 {α : Type} (a b c d : α) : atI [a, b, c, d] 2 = some c := rfl
theorem at4_3 {α : Type} (a b c d : α) : atI [a, b, c, d] 3 = some d := rfl
def spMixed : Sp := fun vs H Q _ => ∃ a b c : Int, vs = [.int a, .int b, .int c] ∧ 0 ≤ a ∧ a < 2 ^ 32 ∧ 0 ≤ b ∧ b < 2 ^ 60 ∧ ∀ r : Int, 0 ≤ r → Q (.int r) H
abbrev s_mixed : Stmt := topS 50
theorem sc_mixed : FnScope ["seed", "spin", "at", "mixed"] ["seed", "spin", "at"] (defScope s_mixed) := ⟨rfl, rfl, rfl, by decide +kernel, rfl, by decide +kernel, by decide +kernel⟩
abbrev s_draw : Stmt := topS 51
theorem sc_draw : FnScope ["purse", "many", "drawn", "found", "piece"] ["purse", "many"] (defScope s_draw) := ⟨rfl, rfl, rfl, by decide +kernel, rfl, by decide +kernel, by decide +kernel⟩
def spDraw : Sp := fun vs H Q _ => ∃ (p : Addr) (Hs : Hp) (n : Nat) (many : Int), vs = [.ref p, .int many] ∧ Pur p H Hs n ∧ n < 2 ^ 50 ∧ 0 < many ∧ many < 2 ^ 112 ∧ ∀ (r : Int) (H' : Hp), 0 ≤ r → r < many → ExtB p H Hs H' Hs → Pur p H' Hs (n + 5) → Q (.int r) H'
section
variable {P : Program} {w : World} {K : PySem.W.Frag} {mg : Str → Option Value} {base : Heap}
theorem ok_mixed {f : Addr} {fd : FuncData} {k : Nat} (F : Fun K "_law_mixed" "_law_mixed" s_mixed f fd) (m_int : mg "int" = none) : FnOk P w K mg base CX0 (k + 1) f fd ["seed", "spin", "at"] spMixed := by
  refine F.ok sc_mixed (fun vs H Q E h => ?_) (fun cdv A outer s H vs Q E hr h => ?_)
  · obtain ⟨a, b, c, rfl, _⟩ := h
    rfl
  · obtain ⟨a, b, c, rfl, ha, ha2, hb, hb2, q⟩ := h
    have nd := sc_mixed.nd
    refine ⟨_, pss_cons (ps_set (i := 3) nd rfl (Or.inl rfl) (pe_op op_add (pe_op op_mul (pv 0) pe_int) (pe_op op_mul (pe_op op_mul pe_int (pv 1)) (pv 1))))
      (pss_cons (ps_set (i := 3) nd rfl (Or.inl rfl) (pe_op op_mod (pe_callTy call_int1 rfl m_int boot_int (pa_cons (pe_op op_add (pe_op op_add (pv 3) (pe_op op_mul pe_int (pv 2))) (pv 1)) pa_nil)) pe_int))
      (pss_cons (ps_set (i := 3) nd rfl (Or.inl rfl) (pe_op op_mod (pe_callTy call_int1 rfl m_int boot_int (pa_cons (pe_op op_add (pe_op op_mul (pv 3) (pv 3)) pe_int) pa_nil)) pe_int))
      (pss_one (ps_ret (pe_op op_mod (pe_callTy call_int1 rfl m_int boot_int (pa_cons (pe_op op_mul (pv 3) pe_int) pa_nil)) pe_int))))), ?_⟩
    refine ⟨_, rfl, _, _, rfl, rfl, .inr ⟨by decide, by decide⟩, _, rfl, _, _, rfl, rfl, .inl ⟨by decide, by decide⟩, _, rfl, _, _, rfl, rfl, .inr ⟨by omega, by omega⟩, _, _, rfl, rfl, ?_⟩
    refine ⟨_, rfl, _, rfl, _, _, rfl, rfl, .inl ⟨by decide, by decide⟩, _, _, rfl, rfl, _, rfl, _, _, rfl, rfl, .inl ⟨_, rfl, _, _, rfl, rfl, (by show (0 : Int) < _; decide), ?_⟩⟩
    generalize a * 69069 + 104729 * b * b + 7919 * c + b = x
    refine ⟨_, rfl, _, rfl, _, _, rfl, rfl, .inl ⟨by omega, by omega⟩, _, _, rfl, rfl, .inl ⟨_, rfl, _, _, rfl, rfl, (by show (0 : Int) < _; decide), ?_⟩⟩
    generalize x % 2147483647 * (x % 2147483647) + 40503 = y
    refine ⟨_, rfl, _, _, rfl, rfl, .inr ⟨by decide, by decide⟩, .inl ⟨_, rfl, _, _, rfl, rfl, (by show (0 : Int) < _; decide), q _ ?_⟩⟩
    exact Int.emod_nonneg _ (by decide)
theorem ok_draw {f fm : Addr} {fd fdm : FuncData} {k : Nat} (F : Fun K "_law_draw" "_law_draw" s_draw f fd) (FM : FnOk P w K mg base CX0 k fm fdm ["seed", "spin", "at"] spMixed) (mM : mg "_law_mixed" = some (.ref fm)) (kM : PySem.W.keepIn K (.ref fm) = true) (bM : Binds K fdm ["seed", "spin", "at"] [])
    (m_int : mg "int" = none) (m_range : mg "range" = none) : FnOk P w K mg base CX0 (k + 1) f fd ["purse", "many"] spDraw := by
  refine F.ok sc_draw (fun vs H Q E h => ?_) (fun cdv A outer s H vs Q E hr h => ?_)
  · obtain ⟨p, Hs, n, many, rfl, _⟩ := h
    rfl
  · obtain ⟨p, Hs, n, many, rfl, R, hn, h0, h1, q⟩ := h
    have nd := sc_draw.nd
    refine ⟨_, pss_cons (ps_if (pt_cmpR op_gt (pe_ix ix_list (pv 0) pe_int (fun _ _ => rfl)) pe_int (nomark _))
        (pss_cons (ps_set (i := 2) nd rfl (Or.inl rfl) (pe_op op_mod (pe_callTy call_int1 rfl m_int boot_int (pa_cons (pe_ix ix_list (pv 0) pe_int (fun _ _ => rfl)) pa_nil)) (pv 1)))
        (pss_cons (ps_asg (pe_op op_fdivW (pe_ix ix_list (pv 0) pe_int (fun _ _ => rfl)) (pv 1)) (pg_sub (pv 0) pe_int set_list))
        (pss_one (ps_ret (pv 2))))) pss_nil)
      (pss_cons (ps_set (i := 3) nd rfl (Or.inl rfl) pe_int)
      (pss_cons (ps_for PassesOwn.never rfl (pi_range1 rfl m_range (pa_cons (pe_op op_add pe_int (pe_op op_fdiv (pe_bits (pv 1)) pe_int)) pa_nil)) (pg_name (i := 4) nd rfl (Or.inl rfl))
        (pss_cons (ps_asg (pe_op op_add (pe_ix ix_list (pv 0) pe_int (fun _ _ => rfl)) pe_int) (pg_sub (pv 0) pe_int set_list))
        (pss_one (ps_set (i := 3) nd rfl (Or.inl rfl) (pe_op op_add (pe_op op_mul (pv 3) pe_int) (pe_call FM hr rfl mM kM bM .nil pass0 (pa_cons (pe_ix ix_list (pv 0) pe_int (fun _ _ => rfl)) (pa_cons (pe_ix ix_list (pv 0) pe_int (fun _ _ => rfl)) (pa_cons (pe_ix ix_list (pv 0) pe_int (fun _ _ => rfl)) pa_nil)))))))))
      (pss_one (ps_ret (pe_op op_mod (pe_callTy call_int1 rfl m_int boot_int (pa_cons (pv 3) pa_nil)) (pv 1)))))), ?_⟩
    obtain ⟨a, b, c, d, e, ha, hb, hb2, hc, hc2, hd, hd2⟩ := R.at_
    have mk : ∀ {H' : Hp} {a' c' : Int} {m : Nat}, (∀ x o, x ≠ p → H x = some o → H' x = some o) → H' p = some (.lst [.int a', .int b, .int c', .int d]) → 0 ≤ a' → 0 ≤ c' → c' ≤ m → Pur p H' Hs m := fun s e' h1 h2 h3 =>
      ⟨⟨_, b, _, d, e', h1, hb, hb2, h2, h3, hd, hd2⟩, R.pn, fun x o z => s x o (ne_of_none z R.pn) (R.sub x o z)⟩
    refine ⟨_, rfl, p, _, 0, _, rfl, rfl, SqL.of e, at4_0 _ _ _ _, _, _, rfl, rfl, decide (0 < a), rfl, ?_⟩
    by_cases hpos : 0 < a
    · rw [decide_eq_true hpos]
      refine iteT ⟨_, rfl, p, _, 0, _, rfl, rfl, SqL.of e, at4_0 _ _ _ _, .inl ⟨_, rfl, ?_⟩⟩
      refine ⟨_, rfl, _, _, rfl, rfl, h0, ?_⟩
      refine ⟨_, rfl, p, _, 0, _, rfl, rfl, SqL.of e, at4_0 _ _ _ _, _, rfl, _, _, rfl, rfl, ⟨h0, ?_⟩, ?_⟩
      · have h9 : many.natAbs < 2 ^ 112 := by omega
        exact Nat.lt_of_lt_of_le (PySem.Flt.log2_lt_of (by decide) h9) (by decide)
      refine ⟨_, rfl, p, _, 0, 0, rfl, rfl, e, rfl, ?_⟩
      have hr1 : 0 ≤ a % many := Int.emod_nonneg _ (by omega)
      have hr2 : a % many < many := Int.emod_lt_of_pos _ h0
      have k := fun (x : Addr) (o : HO) (hx : x ≠ p) (z : H x = some o) => (upd_ne (o := .lst [.int (a / many), .int b, .int c, .int d]) hx).trans z
      exact ⟨_, rfl, q _ _ hr1 hr2 (R.extB k) (mk (m := n + 5) k upd_same (Int.ediv_nonneg ha (by omega)) hc (by omega))⟩
    · rw [decide_eq_false hpos]
      refine iteF ?_
      have hbits : PySem.Builtin.Int.intBits many ≤ 112 := PyProof.Rows.intBits_le (by omega)
      refine ⟨_, rfl, _, rfl, _, _, rfl, rfl, ⟨by decide, by decide⟩, _, _, rfl, rfl, _, rfl, by omega, by omega, ?_⟩
      generalize hN : (1 + ((PySem.Builtin.Int.intBits many : Nat) : Int) / 28).toNat = N
      have hN5 : N ≤ 5 := by omega
      refine ⟨fun i m σ H' => m = N - i ∧ i ≤ N ∧ ∃ (found c' : Int) (v2 v4 : Option V), σ = [some (.ref p), some (.int many), v2, some (.int found), v4] ∧ (∀ x o, x ≠ p → H x = some o → H' x = some o) ∧ H' p = some (.lst [.int a, .int b, .int c', .int d]) ∧ 0 ≤ c' ∧ c' ≤ (n + i : Nat),
        ⟨N, by simp, Nat.zero_le _, 0, c, none, none, rfl, fun _ _ _ z => z, e, hc, by simpa using hc2⟩, ?_⟩
      rintro i m σ H2 ⟨rfl, hle, found, c', v2, v4, rfl, k2, e2, hc1, hc3⟩
      by_cases hlt : i < N
      · refine .inr ⟨hlt, fun σ' H' => ∃ (found c' : Int) (v2 v4 : Option V), σ' = [some (.ref p), some (.int many), v2, some (.int found), v4] ∧ (∀ x o, x ≠ p → H x = some o → H' x = some o) ∧ H' p = some (.lst [.int a, .int b, .int c', .int d]) ∧ 0 ≤ c' ∧ c' ≤ (n + (i + 1) : Nat), fun σ' H' h => ⟨N - (i + 1), by omega, rfl, hlt, h⟩, ?_⟩
        rintro x H3 ⟨rfl, rfl⟩
        refine ⟨_, rfl, p, _, 2, _, rfl, rfl, SqL.of e2, at4_2 _ _ _ _, _, _, rfl, rfl, ?_⟩
        refine ⟨_, rfl, p, _, 2, 2, rfl, rfl, e2, rfl, ?_⟩
        have e3 : (upd H3 p (.lst [.int a, .int b, .int (c' + 1), .int d])) p = some (.lst [.int a, .int b, .int (c' + 1), .int d]) := upd_same
        refine ⟨_, rfl, _, _, rfl, rfl, .inr ⟨by decide, by decide⟩, ?_⟩
        refine ⟨_, rfl, p, _, 1, _, rfl, rfl, SqL.of e3, at4_1 _ _ _ _, _, rfl, p, _, 2, _, rfl, rfl, SqL.of e3, at4_2 _ _ _ _, _, rfl, p, _, 3, _, rfl, rfl, SqL.of e3, at4_3 _ _ _ _, ?_⟩
        refine ⟨b, c' + 1, d, rfl, hb, by omega, by omega, by omega, fun r hr => ?_⟩
        refine ⟨_, _, rfl, rfl, ?_⟩
        exact ⟨_, c' + 1, v2, _, rfl, fun x o hx z => (upd_ne hx).trans (k2 x o hx z), e3, by omega, by omega⟩
      · have ei : i = N := by omega
        subst ei
        refine .inl ⟨Nat.le_refl _, ?_⟩
        refine ⟨_, rfl, .inl ⟨_, rfl, _, rfl, _, _, rfl, rfl, h0, ?_⟩⟩
        exact q _ _ (Int.emod_nonneg _ (by omega)) (Int.emod_lt_of_pos _ h0) (R.extB k2) (mk k2 e2 ha hc1 (by omega))
end
end K87

set_option Elab.async false
set_option linter.all false
set_option maxRecDepth 100000
set_option maxHeartbeats 4000000
namespace K87
open PySem PySem.Spec PyProof.Rows L2 Pu
theorem Pur.extOf {p : Addr} {H Hs H' Hs' : Hp} {n : Nat} (h : Pur p H Hs n) (x : Ext H Hs H' Hs') : ExtB p H Hs H' Hs' := .of x h.pn h.np
/-- a new thing beside the pure ones -/
theorem extB_own {p D : Addr} {H Hs H' Hs' : Hp} {o : HO} (x : ExtB p H Hs H' Hs') (hD : H D = none) (nD : Hs' D = none) (h : H' D = some o) (ne : D ≠ p) : ExtB p H Hs H' (upd Hs' D o) :=
  ⟨x.big, x.small.trans fun b u e => by rw [upd_ne (ne_of_none e nD)]; exact e, fun b u e => by
    by_cases hb : b = D
    · subst hb; rw [upd_same] at e; rw [← e]; exact h
    · rw [upd_ne hb] at e; exact x.sub b u e, by rw [upd_ne (Ne.symm ne)]; exact x.pn, fun b h1 h2 => by
    have hb : b ≠ D := fun z => by subst z; exact h2 hD
    rw [upd_ne hb]; exact x.new b h1 h2⟩
theorem tAnd_of {t u : TT} {σ : L2.St} {H : Hp} {Q : Bool → Hp → Prop} (a b : Bool) (h1 : ∀ Q' : Bool → Hp → Prop, Q' a H → t σ H Q') (h2 : ∀ Q' : Bool → Hp → Prop, Q' b H → u σ H Q') (q : Q (a && b) H) : tAnd t u σ H Q := by
  refine h1 _ ?_
  cases a with
  | true => exact iteT (h2 _ q)
  | false => exact iteF q
def wordsL : List Str := ["ends", "none", "comes again", "x", "x@", "?0", "?12", "a b c", "zz9@", "?", "lasso", "q0 9", "fghijklm", "opqrstuvw"]
def Leaf (w : PyData) : Prop := w = .none ∨ (∃ b, w = .bool b) ∨ (∃ i : Int, w = .int i ∧ -(10 ^ 31) < i ∧ i < 10 ^ 31) ∨ ∃ z, z ∈ wordsL ∧ w = .str z
def ThingOk : Nat → PyData → Prop
  | 0, w => Leaf w
  | d + 1, w => Leaf w ∨ ∃ ds : List PyData, (w = .tuple ds ∨ w = .list ds) ∧ ds.length ≤ 3 ∧ ∀ x ∈ ds, ThingOk d x
theorem ThingOk.leaf {w : PyData} (h : Leaf w) : ∀ d, ThingOk d w
  | 0 => h
  | _ + 1 => .inl h
def cost : Nat → Nat
  | 0 => 20
  | d + 1 => 3 * cost d + 30
theorem cost_ge (d : Nat) : 20 ≤ cost d := by
  cases d with
  | zero => exact Nat.le_refl _
  | succ d => unfold cost; omega
def spOneOf : Sp := fun vs H Q _ => ∃ (p : Addr) (Hs : Hp) (n : Nat) (ds : List PyData) (v : V), vs = [.ref p, v] ∧ Pur p H Hs n ∧ n < 2 ^ 50 ∧ Rp Hs (.list ds) v ∧ ds ≠ [] ∧ ds.length ≤ sizeLine ∧ ∀ (w : PyData) (v' : V) (H' : Hp), w ∈ ds → Rp Hs w v' → ExtB p H Hs H' Hs → Pur p H' Hs (n + 5) → Q v' H'
abbrev s_one_of : Stmt := topS 53
theorem sc_one_of : FnScope ["purse", "some"] ["purse", "some"] (defScope s_one_of) := ⟨rfl, rfl, rfl, by decide +kernel, rfl, by decide +kernel, by decide +kernel⟩
abbrev s_thing : Stmt := topS 64
theorem sc_thing : FnScope ["purse", "deep", "way", "parts", "spin", "words"] ["purse", "deep"] (defScope s_thing) := ⟨rfl, rfl, rfl, by decide +kernel, rfl, by decide +kernel, by decide +kernel⟩
def spThing (D : Nat) : Sp := fun vs H Q _ => ∃ (p : Addr) (Hs : Hp) (n d : Nat), vs = [.ref p, .int (d : Nat)] ∧ d < D ∧ Pur p H Hs n ∧ n + cost d < 2 ^ 50 ∧ ∀ (w : PyData) (v : V) (H' Hs' : Hp), ExtB p H Hs H' Hs' → Rp Hs' w v → ThingOk d w → Pur p H' Hs' (n + cost d) → Q v H'
section
variable {P : Program} {w : World} {K : PySem.W.Frag} {mg : Str → Option Value} {base : Heap}
theorem ok_one_of {f fD : Addr} {fd fdD : FuncData} {k : Nat} (F : Fun K "_law_one_of" "_law_one_of" s_one_of f fd) (FD : FnOk P w K mg base CX0 k fD fdD ["purse", "many"] spDraw) (mD : mg "_law_draw" = some (.ref fD)) (kD : PySem.W.keepIn K (.ref fD) = true) (bD : Binds K fdD ["purse", "many"] [])
    (m_len : mg "len" = none) : FnOk P w K mg base CX0 (k + 1) f fd ["purse", "some"] spOneOf := by
  refine F.ok sc_one_of (fun vs H Q E h => ?_) (fun cdv A outer s H vs Q E hr h => ?_)
  · obtain ⟨p, Hs, n, ds, v, rfl, _⟩ := h
    rfl
  · obtain ⟨p, Hs, n, ds, v, rfl, R, hn, r, hne, hl, q⟩ := h
    refine ⟨_, pss_one (ps_ret (pe_ix ix_list (pv 1) (pe_call FD hr rfl mD kD bD .nil pass0 (pa_cons (pv 0) (pa_cons (pe_callB call_len_seq (by rfl) m_len boot_len (pa_cons (pv 1) pa_nil)) pa_nil))) (fun _ _ => rfl))), ?_⟩
    obtain ⟨a, xs, rfl, ha, ra⟩ := r.lst_of
    have hlen := ra.len
    have hpos : 0 < ds.length := List.length_pos_iff.mpr hne
    have hsz := sizeLine_eq
    refine ⟨_, rfl, _, rfl, _, rfl, a, xs, rfl, .inl (SqL.of (R.sub _ _ ha)), p, Hs, n, _, rfl, R, hn, by omega, by omega, fun i H1 h1 h2 x1 R1 => ?_⟩
    have hi : i.toNat < xs.length := by omega
    have hget : xs[i.toNat]? = some (xs[i.toNat]'hi) := List.getElem?_eq_getElem hi
    have hat : atI xs i = some (xs[i.toNat]'hi) := by
      unfold atI ixN
      rw [if_pos h1, if_pos h2]
      exact hget
    obtain ⟨w0, ew, rw0⟩ := ra.get' hget
    refine ⟨a, xs, i, _, rfl, rfl, SqL.of (R1.sub _ _ ha), hat, q w0 _ H1 (List.mem_of_getElem? ew) rw0 x1 R1⟩
theorem ok_thing {f fD fO : Addr} {fd fdD fdO : FuncData} {k D : Nat} (F : Fun K "_law_thing" "_law_thing" s_thing f fd) (mF : mg "_law_thing" = some (.ref f)) (kF : PySem.W.keepIn K (.ref f) = true) (bF : Binds K fd ["purse", "deep"] []) (FT : FnOk P w K mg base CX0 k f fd ["purse", "deep"] (spThing D))
    (FD : FnOk P w K mg base CX0 k fD fdD ["purse", "many"] spDraw) (mD : mg "_law_draw" = some (.ref fD)) (kD : PySem.W.keepIn K (.ref fD) = true) (bD : Binds K fdD ["purse", "many"] [])
    (FO : FnOk P w K mg base CX0 k fO fdO ["purse", "some"] spOneOf) (mO : mg "_law_one_of" = some (.ref fO)) (kO : PySem.W.keepIn K (.ref fO) = true) (bO : Binds K fdO ["purse", "some"] [])
    (m_range : mg "range" = none) (m_tuple : mg "tuple" = none) : FnOk P w K mg base CX0 (k + 1) f fd ["purse", "deep"] (spThing (D + 1)) := by
  refine F.ok sc_thing (fun vs H Q E h => ?_) (fun cdv A outer s H vs Q E hr h => ?_)
  · obtain ⟨p, Hs, n, d, rfl, _⟩ := h
    rfl
  · obtain ⟨p, Hs, n, d, rfl, hd, R, hn, q⟩ := h
    have nd := sc_thing.nd
    refine ⟨_, pss_cons (ps_set (i := 2) nd rfl (Or.inl rfl) (pe_call FD hr rfl mD kD bD .nil pass0 (pa_cons (pv 0) (pa_cons pe_int pa_nil))))
      (pss_cons (ps_if (pw_and (pt_cmpR op_gt (pv 1) pe_int (nomark _)) (pw_and1 (pt_cmpR op_lt (pv 2) pe_int (nomark _)))).pt
        (pss_cons (ps_setLc (i := 3) (own := [("spin", 4)]) rfl nd rfl rfl (sw_true rfl rfl rfl (by decide +kernel)) (pi_range1 rfl m_range (pa_cons (pe_call FD hr rfl mD kD bD .nil pass0 (pa_cons (pv 0) (pa_cons pe_int pa_nil))) pa_nil)) (blkOk_by (N := ["purse", "deep", "way", "parts", "spin", "words"]) (sc := defScope s_thing) (by decide +kernel))
            (fun _ _ _ _ _ => (pg_name (i := 4) nd rfl (Or.inl rfl))) (fun _ _ _ _ _ => pts_nil) (fun _ _ _ _ _ => pe_call FT hr rfl mF kF bF .nil pass0 (pa_cons (pv 0) (pa_cons (pe_op op_sub (pv 1) pe_int) pa_nil))))
        (pss_one (ps_ret (PU.pe (pu_ifE (put_cmp o_lt g_lt (pu_var 2) pu_int (nomark _)) (pu_callTy call_tuple_of gc_tuple rfl m_tuple boot_tuple (pua_cons (pu_var 3) pua_nil)) (pu_var 3)))))) pss_nil)
      (pss_cons (ps_if (pt_cmpR op_lt (pv 2) pe_int (nomark _))
        (pss_one (ps_ret (pe_call FO hr rfl mO kO bO .nil pass0 (pa_cons (pv 0) (pa_cons (pe_lst (pa_cons pe_int (pa_cons pe_int (pa_cons (pe_op op_sub pe_int pe_int) (pa_cons pe_int (pa_cons (pe_call FD hr rfl mD kD bD .nil pass0 (pa_cons (pv 0) (pa_cons (pe_op op_pow pe_int pe_int) pa_nil))) (pa_cons (pe_op op_sub (pe_op op_sub pe_int pe_int) (pe_call FD hr rfl mD kD bD .nil pass0 (pa_cons (pv 0) (pa_cons pe_int pa_nil)))) pa_nil))))))) pa_nil))))) pss_nil)
      (pss_cons (ps_set (i := 5) nd rfl (Or.inl rfl) (PU.pe (pu_lst (pua_cons pu_str (pua_cons pu_str (pua_cons pu_str (pua_cons pu_str (pua_cons pu_str (pua_cons pu_str (pua_cons pu_str (pua_cons pu_str (pua_cons pu_str (pua_cons pu_str (pua_cons pu_str (pua_cons pu_str (pua_cons pu_str (pua_cons pu_str pua_nil)))))))))))))))))
      (pss_one (ps_ret (pe_call FO hr rfl mO kO bO .nil pass0 (pa_cons (pv 0) (pa_cons (PU.pe (pu_op o_add g_add (pu_lst (pua_cons pu_non (pua_cons pu_bl (pua_cons pu_bl pua_nil)))) (pu_var 5))) pa_nil)))))))), ?_⟩
    have c20 := cost_ge d
    refine ⟨_, rfl, p, Hs, n, 9, rfl, R, by omega, by decide, by decide, fun way H1 w1 w2 x1 R1 => ?_⟩
    show tAnd (tTest (tOp (rI0 fun i j => V.bl (decide (j < i))) (tVar 1) (tC (.int 0)))) (tTest (tOp (rI0 fun i j => V.bl (decide (i < j))) (tVar 2) (tC (.int 6)))) [some (.ref p), some (.int (d : Nat)), some (.int way), none, none, none] H1 _
    refine tAnd_of (decide ((0 : Int) < (d : Nat))) (decide (way < 6)) (fun Q' h => ⟨_, rfl, _, _, rfl, rfl, _, rfl, h⟩) (fun Q' h => ⟨_, rfl, _, _, rfl, rfl, _, rfl, h⟩) ?_
    cases hab : (decide ((0 : Int) < (d : Nat)) && decide (way < 6)) with
    | true =>
      rw [Bool.and_eq_true, decide_eq_true_eq, decide_eq_true_eq] at hab
      refine iteT ?_
      obtain ⟨e, rfl⟩ : ∃ e, d = e + 1 := ⟨d - 1, by omega⟩
      have hc : cost (e + 1) = 3 * cost e + 30 := rfl
      rw [hc] at hn q
      refine ⟨_, rfl, p, Hs, n + 5, 4, rfl, R1, by omega, by decide, by decide, fun m H2 m1 m2 x2 R2 => ⟨m, rfl, by omega, by omega, fun Dl hDl => ?_⟩⟩
      have nDp : Dl ≠ p := fun z => R2.np (z ▸ hDl)
      have x12 := x1.trans x2
      have hD0 : H Dl = none := by
        cases hh : H Dl with
        | none => rfl
        | some o => rw [x12.big Dl o nDp hh] at hDl; cases hDl
      have big0 : ∀ b o, H2 b = some o → (upd H2 Dl (.lst [])) b = some o := fun b o z => (upd_ne (ne_of_none z hDl)).trans z
      generalize hm : m.toNat = M
      have hM : M ≤ 3 := by omega
      refine ⟨fun i k H' => k = M - i ∧ i ≤ M ∧ ∃ Hs' ds vs, ExtB p H Hs H' Hs' ∧ H' Dl = some (.lst vs) ∧ Hs' Dl = none ∧ RpAll Hs' ds vs ∧ ds.length = i ∧ (∀ x ∈ ds, ThingOk e x) ∧ Pur p H' Hs' (n + 10 + i * cost e),
        ⟨M, by simp, Nat.zero_le _, Hs, [], [], x12.trans (R2.extB fun b o _ z => big0 b o z), upd_same, R2.sub.free hDl, .nil, rfl, (fun x hx => nomatch hx), by rw [Nat.zero_mul]; exact R2.grow big0⟩, ?_⟩
      rintro i k H3 ⟨rfl, hle, Hs3, ds, vs, x3, hD3, hs3, rp3, hl3, ok3, R3⟩
      by_cases hlt : i < M
      · refine .inr ⟨hlt, fun H' => ∃ Hs' ds vs, ExtB p H Hs H' Hs' ∧ H' Dl = some (.lst vs) ∧ Hs' Dl = none ∧ RpAll Hs' ds vs ∧ ds.length = i + 1 ∧ (∀ x ∈ ds, ThingOk e x) ∧ Pur p H' Hs' (n + 10 + (i + 1) * cost e), fun H' h => ⟨M - (i + 1), by omega, rfl, hlt, h⟩, ?_⟩
        rintro x H4 ⟨rfl, rfl⟩
        have hmul : (i + 1) * cost e ≤ 3 * cost e := Nat.mul_le_mul_right _ (by omega)
        rw [Nat.succ_mul] at hmul
        refine ⟨rfl, ?_⟩
        change tCall (spThing D) [] E0 (tCons (tVar 0) (tCons (tOp (rI0 fun i j => V.int (i - j)) (tVar 1) (tC (V.int 1))) tNil)) [some (.ref p), some (.int (e + 1 : Nat)), some (.int way), none, some (.int (0 + (i : Nat))), none] H4 _
        refine ⟨_, rfl, _, rfl, _, _, rfl, rfl, ?_⟩
        refine ⟨p, Hs3, n + 10 + i * cost e, e, ?_, by omega, R3, by omega, fun w v H5 Hs5 x5 rw5 ok5 R5 => ?_⟩
        · show [V.ref p, V.int (((e + 1 : Nat) : Int) - 1)] = [V.ref p, V.int (e : Nat)]
          have : ((e + 1 : Nat) : Int) - 1 = (e : Nat) := by omega
          rw [this]
        have hD5 : H5 Dl = some (.lst vs) := x5.big _ _ nDp hD3
        have hs5 : Hs5 Dl = none := x5.new Dl hs3 (by rw [hD3]; exact fun z => nomatch z)
        have hsz := sizeLine_eq
        have hv : vs.length = i := by rw [← rp3.len]; exact hl3
        have big5 : ∀ b o, b ≠ Dl → H5 b = some o → (upd H5 Dl (.lst (vs ++ [v]))) b = some o := fun b o hb z => (upd_ne hb).trans z
        refine ⟨vs, hD5, by omega, Hs5, ds ++ [w], vs ++ [v], ?_, upd_same, hs5, (rp3.mono x5.small).append (.cons rw5 .nil), by rw [List.length_append, hl3]; rfl, fun y hy => ?_, ?_⟩
        · have x35 := x3.trans x5
          refine ⟨fun b o hb z => ?_, x35.small, fun b o z => ?_, x35.pn, x35.new⟩
          · have hbD : b ≠ Dl := fun q => by rw [q, hD0] at z; cases z
            rw [upd_ne hbD]; exact x35.big b o hb z
          · rw [upd_ne (ne_of_none z hs5)]; exact x35.sub b o z
        · rcases List.mem_append.mp hy with h | h
          · exact ok3 y h
          · rw [List.mem_singleton.mp h]; exact ok5
        · obtain ⟨a, b, c, d', e5, rest⟩ := R5.at_
          rw [Nat.succ_mul, ← Nat.add_assoc]
          exact ⟨⟨a, b, c, d', (upd_ne (Ne.symm nDp)).trans e5, rest⟩, R5.pn, fun b o z => by rw [upd_ne (ne_of_none z hs5)]; exact R5.sub b o z⟩
      · have ei : i = M := by omega
        subst ei
        refine .inl ⟨Nat.le_refl _, ?_⟩
        have xf := extB_own x3 hD0 hs3 hD3 nDp
        have Rf : Pur p H3 (upd Hs3 Dl (.lst vs)) (n + 10 + i * cost e) := ⟨R3.at_, xf.pn, xf.sub⟩
        have rf : Rp (upd Hs3 Dl (.lst vs)) (.list ds) (.ref Dl) := Rp.newL hs3 rp3
        have hmul : i * cost e ≤ 3 * cost e := Nat.mul_le_mul_right _ (by omega)
        have re : REnv (upd Hs3 Dl (.lst vs)) [some (.ref p), some (.int (e + 1 : Nat)), some (.int way), some (.ref Dl), none, none] [none, none, some (.int way), some (.list ds)] := ⟨by show 4 ≤ 6; decide, fun j w hj => by
          rcases j with _ | _ | _ | _ | j
          · cases hj
          · cases hj
          · cases hj; exact ⟨_, rfl, .int _⟩
          · cases hj; exact ⟨_, rfl, rf⟩
          · cases hj⟩
        refine ⟨_, _, if way < 3 then .tuple ds else .list ds, xf.sub, re, ?_, fun v5 H5 Hs5 x5 r5 => ?_⟩
        · show (some (decide (way < 3))).bind _ = _
          by_cases h : way < 3
          · rw [decide_eq_true h, if_pos h]; rfl
          · rw [decide_eq_false h, if_neg h]; rfl
        · refine q _ v5 H5 Hs5 (xf.trans (Rf.extOf x5)) r5 (.inr ⟨ds, ?_, by omega, ok3⟩) ((Rf.ext x5).more (by omega))
          by_cases h : way < 3
          · rw [if_pos h]; exact .inl rfl
          · rw [if_neg h]; exact .inr rfl
    | false =>
      refine iteF ⟨_, rfl, _, _, rfl, rfl, decide (way < 5), rfl, ?_⟩
      by_cases h5 : way < 5
      · rw [decide_eq_true h5]
        refine iteT ⟨_, rfl, _, _, rfl, rfl, _, rfl, _, _, rfl, rfl, ⟨by decide, by decide, by decide⟩, p, Hs, n + 5, _, rfl, R1, by omega, by decide +kernel, by decide +kernel, fun r1 H2 a1 a2 x2 R2 => ?_⟩
        refine ⟨_, _, rfl, rfl, _, rfl, p, Hs, n + 5 + 5, 999, rfl, R2, by omega, by decide, by decide, fun r2 H3 b1 b2 x3 R3 => ?_⟩
        refine ⟨_, _, rfl, rfl, by show 6 ≤ sizeLine; decide, fun a ha => ?_⟩
        have xl := Ext.laid (Ext.refl R3.sub) ha (.lst [.int 0, .int 1, .int (0 - 1), .int 10, .int r1, .int (0 - 7 - r2)])
        have Rl := R3.ext xl
        refine ⟨p, _, n + 15, [.int 0, .int 1, .int (0 - 1), .int 10, .int r1, .int (0 - 7 - r2)], .ref a, rfl, Rl, by omega, Rp.newL (R3.sub.free ha) (.cons (.int _) (.cons (.int _) (.cons (.int _) (.cons (.int _) (.cons (.int _) (.cons (.int _) .nil)))))), (fun z => nomatch z), by show 6 ≤ sizeLine; decide, fun w v' H' hw rw' x4 R4 => ?_⟩
        refine q w v' H' _ ((((x1.trans x2).trans x3).trans (R3.extOf xl)).trans x4) rw' (ThingOk.leaf (.inr (.inr (.inl ?_))) d) (R4.more (by omega))
        have a2' : r1 < 10 ^ 30 := a2
        have p30 : (10 : Int) ^ 30 = 1000000000000000000000000000000 := by decide +kernel
        have p31 : (10 : Int) ^ 31 = 10000000000000000000000000000000 := by decide +kernel
        rw [p30] at a2'
        rw [p31]
        simp only [List.mem_cons, List.not_mem_nil, or_false] at hw
        rcases hw with rfl | rfl | rfl | rfl | rfl | rfl
        · exact ⟨_, rfl, by decide, by decide⟩
        · exact ⟨_, rfl, by decide, by decide⟩
        · exact ⟨_, rfl, by decide, by decide⟩
        · exact ⟨_, rfl, by decide, by decide⟩
        · exact ⟨_, rfl, by omega, by omega⟩
        · exact ⟨_, rfl, by omega, by omega⟩
      · rw [decide_eq_false h5]
        refine iteF ?_
        refine ⟨Hs, [], .list (wordsL.map .str), R1.sub, ⟨Nat.zero_le _, fun i w z => by cases z⟩, rfl, fun v2 H2 Hs2 x2 r2 => ?_⟩
        have R2 := R1.ext x2
        have re : REnv Hs2 [some (.ref p), some (.int (d : Nat)), some (.int way), none, none, some v2] [none, none, none, none, none, some (.list (wordsL.map .str))] := ⟨Nat.le_refl 6, fun j w hj => by
          rcases j with _ | _ | _ | _ | _ | _ | j
          · cases hj
          · cases hj
          · cases hj
          · cases hj
          · cases hj
          · cases hj; exact ⟨_, rfl, r2⟩
          · cases hj⟩
        refine ⟨_, rfl, Hs2, _, .list ([.none, .bool true, .bool false] ++ wordsL.map .str), R2.sub, re, rfl, fun v3 H3 Hs3 x3 r3 => ?_⟩
        have R3 := R2.ext x3
        refine ⟨p, Hs3, n + 5, _, v3, rfl, R3, by omega, r3, (fun z => nomatch z), by decide, fun w v' H' hw rw' x4 R4 => ?_⟩
        refine q w v' H' _ (((x1.trans (R1.extOf x2)).trans (R2.extOf x3)).trans x4) rw' (ThingOk.leaf ?_ d) (R4.more (by omega))
        simp only [List.cons_append, List.nil_append, List.mem_cons, List.mem_map] at hw
        rcases hw with rfl | rfl | rfl | ⟨z, hz, rfl⟩
        · exact .inl rfl
        · exact .inr (.inl ⟨_, rfl⟩)
        · exact .inr (.inl ⟨_, rfl⟩)
        · exact .inr (.inr (.inr ⟨z, hz, rfl⟩))
end
end K87

set_option Elab.async false
set_option linter.all false
set_option maxRecDepth 100000
set_option maxHeartbeats 4000000
namespace K87
open PySem PySem.Spec PyProof.Rows L2 Pu
theorem vals_get : ∀ {xs : List V} {us : List Value}, xs.length = us.length → (∀ (i : Nat) (x : V) (u : Value), xs[i]? = some x → us[i]? = some u → L2.RelV x u) → Vals xs us
  | [], [], _, _ => .nil
  | [], _ :: _, h, _ => by cases h
  | _ :: _, [], h, _ => by cases h
  | x :: xs, u :: us, h, k => .cons (k 0 x u rfl rfl) (vals_get (by simpa using h) fun i y v h1 h2 => k (i + 1) y v (by simpa using h1) (by simpa using h2))
/-! ### a power that is not small; list(text) -/
section
variable {X : Cx}
theorem op_powB : OpR X (binaryOp .Pow) (rI (fun i j => 0 ≤ j ∧ (PySem.Builtin.Int.intBits i : Int) * j ≤ 2 ^ 27) fun i j => .int (i ^ j.toNat)) := opI fun _ _ _ _ _ _ _ hc q => pow_int hc.1 hc.2 q
theorem call_listS (hc : X.calm = true) : CallR X (.type "list") (fun xs H Q => ∃ z, xs = [.str z] ∧ z.cps.size ≤ sizeLine ∧ ∀ p, H p = none → Q (.ref p) (upd H p (.lst (z.cps.toList.map fun c => .str (⟨#[c]⟩ : Str))))) := by
  intro pins s σ H xs us Q I r ⟨z, ex, hz, q⟩
  subst ex
  obtain ⟨u, rfl, t, rfl⟩ := r.one
  refine PySem.call_list_str (I.ok.hd hc) z t (fun h' tk acc c' hk hS hacc => ?_) hz
  have hv : Vals (z.cps.toList.map fun c => V.str (⟨#[c]⟩ : Str)) acc.toList := by
    refine vals_get ?_ fun i x u h1 h2 => ?_
    · rw [List.length_map, Array.length_toList, Array.length_toList, hacc.1]
    · rw [Array.getElem?_toList] at h2
      obtain ⟨c, t', hc2, rfl⟩ := hacc.2 i u h2
      rw [List.getElem?_map, Array.getElem?_toList, hc2] at h1
      cases h1
      exact ⟨_, rfl⟩
  exact ⟨.ref s.heap.objs.size, _, I.laid (t' := tk) hk (Nat.le_refl _) (show ObjOk X.prog X.w _ _ _ (.lst _) from ⟨by rw [List.length_map, Array.length_toList]; exact hz, acc.toList, c', hv, by rw [Array.toArray_toList]; exact hS⟩), rfl, q _ (I.hok.fresh (Nat.le_refl _))⟩
end
def tx (l : List Nat) : Str := ⟨l.toArray⟩
def bentL (l : List Nat) (i j : Nat) (sg : List Nat) : List (List Nat) := [l.take i ++ sg ++ l.drop i, l.take i ++ l.drop (i + 1), l.take i ++ sg ++ l.drop (i + 1), l.take i, l.drop i, l ++ [32], [32] ++ l, l ++ l, l.take i ++ l.drop j]
def signS : Str := " ()[]0129-ax@?_!.~,X{"
def pairS : List Str := ["  ", "()", "[]", " -", "00", "__", "-0", " )", "a_"]
def signL : List (List Nat) := (signS.cps.toList.map fun c => [c]) ++ pairS.map fun z => z.cps.toList
def Bent (l l' : List Nat) : Prop := ∃ i j sg, i ≤ l.length ∧ j ≤ l.length ∧ sg ∈ signL ∧ l' ∈ bentL l i j sg
def HE : Hp := fun _ => none
theorem Pur.empty {p : Addr} {H Hs : Hp} {n : Nat} (h : Pur p H Hs n) : Pur p H HE n := ⟨h.at_, rfl, fun _ _ e => nomatch e⟩
def spPurse (K : PySem.W.Frag) : Sp := fun vs H Q _ => ∃ (a : Addr) (ns : List Int) (i : Nat), vs = [.ref a, .int (i : Nat)] ∧ SqL K H a (ns.map V.int) ∧ ns.length ≤ 63 ∧ i < 64 ∧ ∀ (p : Addr) (H' : Hp), Same H H' → H p = none → Pur p H' HE 0 → Q (.ref p) H'
abbrev s_purse : Stmt := topS 49
theorem sc_purse : FnScope ["script", "at", "seed"] ["script", "at"] (defScope s_purse) := ⟨rfl, rfl, rfl, by decide +kernel, rfl, by decide +kernel, by decide +kernel⟩
abbrev s_purses : Stmt := topS 52
theorem sc_purses : FnScope ["script", "few", "at"] ["script", "few"] (defScope s_purses) := ⟨rfl, rfl, rfl, by decide +kernel, rfl, by decide +kernel, by decide +kernel⟩
/-- several purses, none of them twice -/
def Purs (H0 H : Hp) (ps : List Addr) : Prop := ps.Nodup ∧ ∀ p ∈ ps, H0 p = none ∧ Pur p H HE 0
def spPurses (K : PySem.W.Frag) : Sp := fun vs H Q _ => ∃ (a : Addr) (ns : List Int), vs = [.ref a, .int 3] ∧ SqL K H a (ns.map V.int) ∧ ns.length ≤ 63 ∧ ∀ (lp : Addr) (ps : List Addr) (H' : Hp), Same H H' → H lp = none → lp ∉ ps → H' lp = some (.lst (ps.map V.ref)) → ps.length ≤ 63 → Purs H H' ps → Q (.ref lp) H'
section
variable {P : Program} {w : World} {K : PySem.W.Frag} {mg : Str → Option Value} {base : Heap}
theorem ok_purse {f : Addr} {fd : FuncData} {k : Nat} (F : Fun K "_law_purse" "_law_purse" s_purse f fd) (m_int : mg "int" = none) (m_sum : mg "sum" = none) (m_max : mg "max" = none) : FnOk P w K mg base CX0 (k + 1) f fd ["script", "at"] (spPurse K) := by
  refine F.ok sc_purse (fun vs H Q E h => ?_) (fun cdv A outer s H vs Q E hr h => ?_)
  · obtain ⟨a, ns, i, rfl, _⟩ := h
    rfl
  · obtain ⟨a, ns, i, rfl, hS, hl, hi, q⟩ := h
    have nd := sc_purse.nd
    refine ⟨_, pss_cons (ps_set (i := 2) nd rfl (Or.inl rfl) (pe_callB (cr_sum rfl) rfl m_sum boot_sum (pa_cons (pe_slice sl_list (pv 0) (po_some (pv 1)) (po_some (pe_op op_add (pv 1) pe_int))) pa_nil)))
      (pss_one (ps_ret (pe_lst (pa_cons (pe_op op_mod (pe_callTy call_int1 rfl m_int boot_int (pa_cons (pe_callB (call_max2 rfl) rfl m_max boot_max (pa_cons (pe_op op_sub (pv 2) (pe_op op_pow pe_int pe_int)) (pa_cons pe_int pa_nil))) pa_nil)) (pe_op op_powB (pe_op op_pow pe_int pe_int) pe_int))
        (pa_cons (pe_op op_mod (pe_callTy call_int1 rfl m_int boot_int (pa_cons (pv 2) pa_nil)) pe_int) (pa_cons pe_int (pa_cons (pv 1) pa_nil))))))), ?_⟩
    have ec : ∀ lo hi, cutV (ns.map V.int) lo hi = (cutL ns lo hi).map V.int := fun lo hi => by
      unfold cutV cutL
      rw [List.map_take, List.map_drop, List.length_map]
    refine ⟨_, rfl, _, rfl, _, rfl, _, rfl, _, _, rfl, rfl, _, rfl, a, _, rfl, hS, fun p1 hp1 => ?_⟩
    rw [ec]
    refine ⟨p1, _, rfl, SqL.of upd_same, ?_⟩
    have s1 : Same H (upd H p1 (.lst ((cutL ns (some (i : Nat)) (some ((i : Nat) + 1))).map V.int))) := fun b o e => (upd_ne (ne_of_none e hp1)).trans e
    generalize (cutL ns (some ((i : Nat) : Int)) (some (((i : Nat) : Int) + 1))).sum = seed
    refine ⟨_, rfl, _, _, rfl, rfl, ⟨by decide, by decide, by decide⟩, _, _, rfl, rfl, _, _, rfl, .inl ⟨_, rfl, ?_⟩⟩
    refine ⟨_, _, rfl, rfl, ⟨by decide, by decide, by decide⟩, _, _, rfl, rfl, ⟨by decide, ?_⟩, _, _, rfl, rfl, ?_, ?_⟩
    · have : PySem.Builtin.Int.intBits ((10 : Int) ^ (60 : Int).toNat) ≤ 200 := PyProof.Rows.intBits_le (by decide +kernel)
      omega
    · show (0 : Int) < ((10 : Int) ^ (60 : Int).toNat) ^ (8 : Int).toNat
      exact Int.pow_pos (Int.pow_pos (by decide))
    refine ⟨_, rfl, .inl ⟨_, rfl, _, _, rfl, rfl, (by show (0 : Int) < _; decide), _, rfl, by show 4 ≤ sizeLine; decide, fun p hp => ?_⟩⟩
    have np : p ≠ p1 := fun z => by subst z; rw [upd_same] at hp; cases hp
    have hp0 : H p = none := by rw [upd_ne np] at hp; exact hp
    refine q p _ (fun b o e => (upd_ne (ne_of_none e hp0)).trans (s1 b o e)) hp0 ⟨⟨_, _, _, _, upd_same, ?_, ?_, ?_, ?_, ?_, ?_, ?_⟩, rfl, fun _ _ e => nomatch e⟩
    · exact Int.emod_nonneg _ (Int.ne_of_gt (Int.pow_pos (Int.pow_pos (by decide))))
    · exact Int.emod_nonneg _ (by decide)
    · have := Int.emod_lt_of_pos seed (show (0 : Int) < 2147483629 by decide)
      omega
    · decide
    · decide
    · omega
    · omega
theorem ok_purses {f fP : Addr} {fd fdP : FuncData} {k : Nat} (F : Fun K "_law_purses" "_law_purses" s_purses f fd) (FP : FnOk P w K mg base CX0 k fP fdP ["script", "at"] (spPurse K)) (mP : mg "_law_purse" = some (.ref fP)) (kP : PySem.W.keepIn K (.ref fP) = true) (bP : Binds K fdP ["script", "at"] [])
    (m_range : mg "range" = none) (m_max : mg "max" = none) (m_min : mg "min" = none) (m_len : mg "len" = none) : FnOk P w K mg base CX0 (k + 1) f fd ["script", "few"] (spPurses K) := by
  refine F.ok sc_purses (fun vs H Q E h => ?_) (fun cdv A outer s H vs Q E hr h => ?_)
  · obtain ⟨a, ns, rfl, _⟩ := h
    rfl
  · obtain ⟨a, ns, rfl, hS, hl, q⟩ := h
    have nd := sc_purses.nd
    refine ⟨_, pss_one (ps_ret (pe_lc (own := [("at", 2)]) rfl nd (pi_range1 rfl m_range (pa_cons (pe_callB (call_max2 rfl) rfl m_max boot_max (pa_cons pe_int (pa_cons (pe_callB (call_min2 rfl) rfl m_min boot_min (pa_cons (pv 1) (pa_cons (pe_callB call_len_seq (by rfl) m_len boot_len (pa_cons (pv 0) pa_nil)) pa_nil))) pa_nil))) pa_nil)) (blkOk_by (N := ["script", "few", "at"]) (sc := defScope s_purses) (by decide +kernel))
      (fun _ _ _ _ _ => (pg_name (i := 2) nd rfl (Or.inl rfl))) (fun _ _ _ _ _ => pts_nil) (fun _ _ _ _ _ => pe_call FP hr rfl mP kP bP .nil pass0 (pa_cons (pv 0) (pa_cons (pv 2) pa_nil))))), ?_⟩
    have hr3 : ∃ N : Int, N ≤ 3 ∧ 0 ≤ N ∧ N = (if (if ((ns.map V.int).length : Int) < 3 then ((ns.map V.int).length : Int) else 3) > 1 then (if ((ns.map V.int).length : Int) < 3 then ((ns.map V.int).length : Int) else 3) else 1) := by
      refine ⟨_, ?_, ?_, rfl⟩ <;> (repeat' split) <;> omega
    obtain ⟨N0, hN1, hN2, hN3⟩ := hr3
    refine ⟨_, rfl, _, rfl, a, _, rfl, .inl hS, _, _, rfl, _, _, rfl, _, rfl, ?_, ?_, ?_⟩
    · rw [← hN3]; omega
    · rw [← hN3]; omega
    rw [← hN3]
    intro D hD
    generalize hN : N0.toNat = N
    have hN4 : N ≤ 3 := by omega
    refine ⟨fun i k H' => k = N - i ∧ i ≤ N ∧ ∃ ps : List Addr, Same H H' ∧ H' D = some (.lst (ps.map V.ref)) ∧ ps.length = i ∧ D ∉ ps ∧ Purs H H' ps,
      ⟨N, by simp, Nat.zero_le _, [], fun b o e => (upd_ne (ne_of_none e hD)).trans e, upd_same, rfl, (fun z => nomatch z), List.nodup_nil, fun p hp => nomatch hp⟩, ?_⟩
    rintro i k H3 ⟨rfl, hle, ps, s3, hD3, hl3, nD3, hn3, hp3⟩
    by_cases hlt : i < N
    · refine .inr ⟨hlt, fun H' => ∃ ps : List Addr, Same H H' ∧ H' D = some (.lst (ps.map V.ref)) ∧ ps.length = i + 1 ∧ D ∉ ps ∧ Purs H H' ps, fun H' h => ⟨N - (i + 1), by omega, rfl, hlt, h⟩, ?_⟩
      rintro x H4 ⟨rfl, rfl⟩
      refine ⟨rfl, ?_⟩
      change tCall (spPurse K) [] E0 (tCons (tVar 0) (tCons (tVar 2) tNil)) [some (.ref a), some (.int 3), some (.int (0 + (i : Nat)))] H4 _
      refine ⟨_, rfl, _, rfl, a, ns, i, ?_, s3.seq hS, hl, by omega, fun p H5 s5 np5 R5 => ?_⟩
      · show [V.ref a, V.int (0 + (i : Nat))] = _
        rw [Int.zero_add]
      have hsz := sizeLine_eq
      have hD5 := s5 _ _ hD3
      have npD : p ≠ D := fun z => by rw [z, hD3] at np5; cases np5
      have npps : p ∉ ps := fun h => (hp3 p h).2.np np5
      refine ⟨_, hD5, by rw [List.length_map, hl3]; omega, ps ++ [p], fun b o e => ?_, ?_, by rw [List.length_append, hl3]; rfl, ?_, ?_, fun p' hp' => ?_⟩
      · rw [upd_ne (ne_of_none e hD)]; exact s5 _ _ (s3 _ _ e)
      · rw [upd_same, List.map_append] <;> rfl
      · intro h
        rcases List.mem_append.mp h with h | h
        · exact nD3 h
        · exact npD (List.mem_singleton.mp h).symm
      · refine List.nodup_append.mpr ⟨hn3, (by simp), fun x hx y hy => ?_⟩
        rw [List.mem_singleton.mp hy]
        exact fun z => npps (z ▸ hx)
      · have mv : ∀ {q0 : Addr}, q0 ≠ D → Pur q0 H5 HE 0 → Pur q0 (upd H5 D (.lst (ps.map V.ref ++ [V.ref p]))) HE 0 := fun {q0} hq R => by
          obtain ⟨a', b', c', d', e', r'⟩ := R.at_
          exact ⟨⟨a', b', c', d', (upd_ne hq).trans e', r'⟩, rfl, fun _ _ e => nomatch e⟩
        rcases List.mem_append.mp hp' with h | h
        · obtain ⟨h1, h2⟩ := hp3 p' h
          exact ⟨h1, mv (fun z => nD3 (z ▸ h)) (h2.grow s5)⟩
        · rw [List.mem_singleton.mp h]
          refine ⟨?_, mv npD R5⟩
          cases hh : H p with
          | none => rfl
          | some o => rw [s3 _ _ hh] at np5; cases np5
    · have ei : i = N := by omega
      subst ei
      exact .inl ⟨Nat.le_refl _, q D ps H3 s3 hD nD3 hD3 (by omega) ⟨hn3, hp3⟩⟩
end
end K87

set_option Elab.async false
set_option linter.all false
set_option maxRecDepth 100000
set_option maxHeartbeats 4000000
namespace K87
open PySem PySem.Spec PyProof.Rows L2 Pu
theorem tx_len (l : List Nat) : (tx l).length = l.length := by show l.toArray.size = _; rw [List.size_toArray]
theorem tx_app (a b : List Nat) : tx a ++ tx b = tx (a ++ b) := by
  show (⟨a.toArray ++ b.toArray⟩ : Str) = ⟨(a ++ b).toArray⟩
  congr 1
  simp
theorem gAdd_tx {a b : List Nat} (h : a.length + b.length ≤ sizeLine) : gAdd (.str (tx a)) (.str (tx b)) = some (.str (tx (a ++ b))) := by
  show (if (tx a).length + (tx b).length ≤ sizeLine then some (PyData.str (tx a ++ tx b)) else none) = _
  rw [tx_len, tx_len, if_pos h, tx_app]
theorem gSl_to {l : List Nat} {i : Nat} (hi : i ≤ l.length) (hl : l.length ≤ sizeLine) : gSl (.str (tx l)) none (some (i : Nat)) = some (.str (tx (l.take i))) := by
  show (if (tx l).length ≤ sizeLine then some (PyData.str (cutS (tx l) none (some (i : Nat)))) else none) = _
  rw [tx_len, if_pos hl]
  unfold cutS
  rw [tx_len, HT.sIx_nat, HT.sIx_none, List.drop_zero, Nat.sub_zero, Nat.min_eq_left hi]
  rfl
theorem gSl_from {l : List Nat} {i : Nat} (hl : l.length ≤ sizeLine) : gSl (.str (tx l)) (some (i : Nat)) none = some (.str (tx (l.drop i))) := by
  show (if (tx l).length ≤ sizeLine then some (PyData.str (cutS (tx l) (some (i : Nat)) none)) else none) = _
  rw [tx_len, if_pos hl]
  unfold cutS
  rw [tx_len, HT.sIx_nat, HT.sIx_none]
  have e : (List.drop (min i l.length) l).take (l.length - min i l.length) = l.drop i := by
    rw [List.take_of_length_le (by rw [List.length_drop]; exact Nat.le_refl _)]
    by_cases h : i ≤ l.length
    · rw [Nat.min_eq_left h]
    · rw [Nat.min_eq_right (by omega), List.drop_length, List.drop_eq_nil_of_le (by omega)]
  show some (PyData.str (tx ((List.drop (min i l.length) l).take (l.length - min i l.length)))) = _
  rw [e]
theorem f2_tx {fa fb : Ev → Option PyData} {ev : Ev} {a b : List Nat} (ha : fa ev = some (.str (tx a))) (hb : fb ev = some (.str (tx b))) (h : a.length + b.length ≤ sizeLine) : f2 gAdd fa fb ev = some (.str (tx (a ++ b))) := by
  unfold f2
  rw [ha]
  show (fb ev).bind _ = _
  rw [hb]
  exact gAdd_tx h
theorem fCons_some {f : Ev → Option PyData} {fs : Ev → Option (List PyData)} {ev : Ev} {w : PyData} {ws : List PyData} (h : f ev = some w) (hs : fs ev = some ws) : fCons f fs ev = some (w :: ws) := by
  unfold fCons
  rw [h]
  show (fs ev).bind _ = _
  rw [hs]
  rfl
end K87

set_option Elab.async false
set_option linter.all false
set_option maxRecDepth 100000
set_option maxHeartbeats 4000000
/-! The reader in plain words: signs are numbers. -/
namespace K87
open PySem PySem.Spec PyProof.Rows L2 Pu
def isDig (c : Nat) : Bool := decide (48 ≤ c) && decide (c ≤ 57)
def isLow (c : Nat) : Bool := decide (97 ≤ c) && decide (c ≤ 122)
def numS : Str := "-0123456789"
def goesOn (w : List Nat) (c : Nat) : Bool :=
  match w with
  | [] => isLow c || (isDig c || decide (c ∈ ("?-!.~" : Str).cps.toList))
  | a :: r => if a ∈ numS.cps.toList then isDig c && (!(w == [48]) && (!(w == [45]) || !(c == 48)))
    else if w == [33] || w == [46] || w == [126] then false
    else (isLow c || (isDig c || decide (c ∈ ("@?" : Str).cps.toList))) || (c == 95 && !((a :: r).getLast (List.cons_ne_nil a r) == 95))
theorem goesOn_num {a : Nat} {r : List Nat} {c : Nat} (h : a ∈ numS.cps.toList) : goesOn (a :: r) c = (isDig c && (!((a :: r) == [48]) && (!((a :: r) == [45]) || !(c == 48)))) := if_pos h
theorem goesOn_oth {a : Nat} {r : List Nat} {c : Nat} (h : a ∉ numS.cps.toList) : goesOn (a :: r) c = (if (a :: r) == [33] || (a :: r) == [46] || (a :: r) == [126] then false
    else (isLow c || (isDig c || decide (c ∈ ("@?" : Str).cps.toList))) || (c == 95 && !((a :: r).getLast (List.cons_ne_nil a r) == 95))) := if_neg h
theorem tx_beq (a b : List Nat) : (tx a == tx b) = (a == b) := by
  by_cases h : a = b
  · subst h; simp
  · have : tx a ≠ tx b := fun e => h (by
      have e2 : (tx a).cps.toList = (tx b).cps.toList := by rw [e]
      simpa [tx] using e2)
    rw [beq_eq_false_iff_ne.mpr this, beq_eq_false_iff_ne.mpr h]
theorem one_beq (a b : Nat) : (one a == one b) = (a == b) := by
  have := tx_beq [a] [b]
  have e : ([a] == [b]) = (a == b) := by simp
  rw [e] at this
  exact this
section
variable {C : Addr} {st : RdSt} {w : List Nat} {ev : Ev}
theorem fw (h0 : fVar 0 ev = some (obD C st)) (hw : st.word = tx w) : fFld C "word" (fVar 0) ev = some (.str (tx w)) := by
  unfold fFld
  rw [h0, Option.bind_some, g_word, hw]
theorem gIx_first {a : Nat} {r : List Nat} (hz : (a :: r).length ≤ sizeLine) : gIx (.str (tx (a :: r))) (.int 0) = some (.str (one a)) := by
  show (if (tx (a :: r)).length ≤ sizeLine then (atI (tx (a :: r)).cps.toList 0).map fun c => PyData.str ⟨#[c]⟩ else none) = _
  rw [tx_len, if_pos hz]
  show (atI (a :: r) 0).map _ = _
  rw [atI_first]
  rfl
theorem gIx_last {l : List Nat} (hl : l ≠ []) (hz : l.length ≤ sizeLine) : gIx (.str (tx l)) (.int (-1)) = some (.str (one (l.getLast hl))) := by
  show (if (tx l).length ≤ sizeLine then (atI (tx l).cps.toList (-1)).map fun c => PyData.str ⟨#[c]⟩ else none) = _
  rw [tx_len, if_pos hz]
  show (atI l (-1)).map _ = _
  have e : l = l.dropLast ++ [l.getLast hl] := (List.dropLast_concat_getLast hl).symm
  have e2 : atI l (-1) = some (l.getLast hl) := by
    conv => lhs; rw [e]
    exact atI_last _ _
  rw [e2]
  rfl
theorem goF_is (hw : st.word = tx w) (hz : w.length ≤ sizeLine) (c : Nat) : goF C st c = some (goesOn w c) := by
  have h : runF ["self", "sign", "is_sign"] 2 (F_ThingReader_goes_on C) [obD C st, .str (one c)] = some (.bool (goesOn w c)) := by
    show (F_ThingReader_goes_on C [some (obD C st), some (.str (one c)), none]).bind _ = _
    generalize hev : ([some (obD C st), some (.str (one c)), none] : Ev) = ev
    have h0 : fVar 0 ev = some (obD C st) := by rw [← hev]; rfl
    have h1 : fVar 1 ev = some (.str (one c)) := by rw [← hev]; rfl
    have hW := fw h0 hw
    have hlow : fChain gLe gLe (fC (.str "a")) (fVar 1) (fC (.str "z")) ev = some (isLow c) := chain_one "a" "z" rfl rfl h1
    have hdig : fChain gLe gLe (fC (.str "0")) (fVar 1) (fC (.str "9")) ev = some (isDig c) := chain_one "0" "9" rfl rfl h1
    have hin : ∀ z : Str, f2T gInD (fVar 1) (fC (.str z)) ev = some (decide (c ∈ z.cps.toList)) := fun z => by
      unfold f2T
      rw [h1]
      exact in_one c z
    have heq : ∀ (z : Str) (m : List Nat), z = tx m → f2T gEq (fFld C "word" (fVar 0)) (fC (.str z)) ev = some (w == m) := fun z m hz => by
      unfold f2T
      rw [hW, hz, ← tx_beq]
      rfl
    have hne : ∀ (z : Str) (m : List Nat), z = tx m → f2T gNe (fFld C "word" (fVar 0)) (fC (.str z)) ev = some (!(w == m)) := fun z m hz => by
      unfold f2T
      rw [hW, hz, ← tx_beq]
      rfl
    have hret : ∀ F : Ev → Option Out, F ev = some (.rt (.bool (goesOn w c))) → ((F ev).bind fun o => match o with | .nx _ => some PyData.none | .rt w => some w) = some (.bool (goesOn w c)) := fun F e => by rw [e]; rfl
    refine hret _ ?_
    unfold F_ThingReader_goes_on
    cases w with
    | nil => exact z_rt (z_ifT (heq "" [] rfl) (z_rt (z_ret (z_orV (z_B hlow) (z_orV (z_B hdig) (z_B (hin _)))))))
    | cons a r =>
      have hfirst : f2T gInD (f2 gIx (fFld C "word" (fVar 0)) (fC (.int 0))) (fC (.str "-0123456789")) ev = some (decide (a ∈ numS.cps.toList)) :=
        z_2T (z_2 hW rfl (gIx_first hz)) rfl (in_one a "-0123456789")
      have hthree : f2T gInD (fFld C "word" (fVar 0)) (fTup (fCons (fC (.str "!")) (fCons (fC (.str ".")) (fCons (fC (.str "~")) fNil)))) ev = some ((a :: r) == [33] || (a :: r) == [46] || (a :: r) == [126]) := by
        refine z_2T hW (z_tup (z_cons rfl (z_cons rfl (z_cons rfl rfl))) (by show 3 ≤ sizeLine; decide)) ?_
        show some ((("!" : Str) == tx (a :: r)) || ((("." : Str) == tx (a :: r)) || ((("~" : Str) == tx (a :: r)) || false))) = _
        rw [show ("!" : Str) = tx [33] from rfl, show ("." : Str) = tx [46] from rfl, show ("~" : Str) = tx [126] from rfl, tx_beq, tx_beq, tx_beq, Bool.or_false, ← Bool.or_assoc]
        rw [show ([33] == a :: r) = (a :: r == [33]) from BEq.comm, show ([46] == a :: r) = (a :: r == [46]) from BEq.comm, show ([126] == a :: r) = (a :: r == [126]) from BEq.comm]
      refine z_nx (z_ifF (heq "" [] rfl) rfl) ?_
      by_cases hn : a ∈ numS.cps.toList
      · rw [decide_eq_true hn] at hfirst
        rw [goesOn_num hn]
        have h4 : f2T gNe (fVar 1) (fC (.str "0")) ev = some (!(c == 48)) := z_2T h1 rfl (by
          show some (!(one c == one 48)) = _
          rw [one_beq])
        exact z_rt (z_ifT hfirst (z_rt (z_ret (z_andV (z_B hdig) (z_andV (z_B (hne "0" [48] rfl)) (z_orV (z_B (hne "-" [45] rfl)) (z_B h4)))))))
      · rw [decide_eq_false hn] at hfirst
        rw [goesOn_oth hn]
        refine z_nx (z_ifF hfirst rfl) ?_
        cases ht : ((a :: r) == [33] || (a :: r) == [46] || (a :: r) == [126]) with
        | true =>
          rw [ht] at hthree
          exact z_rt (z_ifT hthree (z_rt (z_ret rfl)))
        | false =>
          rw [ht] at hthree
          refine z_nx (z_ifF hthree rfl) ?_
          refine z_nx (z_set (z_orV (z_B hlow) (z_orV (z_B hdig) (z_B (hin _))))) ?_
          have hW2 : fFld C "word" (fVar 0) (ev.set 2 (some (.bool (isLow c || (isDig c || decide (c ∈ ("@?" : Str).cps.toList)))))) = some (.str (tx (a :: r))) := fw (by rw [← hev]; rfl) hw
          have h12 : fVar 1 (ev.set 2 (some (.bool (isLow c || (isDig c || decide (c ∈ ("@?" : Str).cps.toList)))))) = some (.str (one c)) := by rw [← hev]; rfl
          refine z_rt (z_ret (z_orV (show fVar 2 _ = _ from ?_) (z_andV (z_B (z_2T h12 rfl (?_ : _ = some (c == 95)))) (z_B (z_2T (z_2 hW2 rfl (gIx_last (List.cons_ne_nil a r) hz)) rfl (?_ : _ = some (!((a :: r).getLast (List.cons_ne_nil a r) == 95))))))))
          · rw [← hev]; rfl
          · show some (one c == one 95) = _
            rw [one_beq]
          · show some (!(one _ == one 95)) = _
            rw [one_beq]
  unfold goF
  rw [h]
end
end K87

set_option Elab.async false
set_option linter.all false
set_option maxRecDepth 100000
set_option maxHeartbeats 4000000
namespace K87
open PySem PySem.Spec PyProof.Rows L2 Pu
/-- no thing as yet -/
def stopW (w : List Nat) : Bool := w == [] || w == [45] || w.getLast? == some 95
/-- what a word is worth -/
def valM (w : List Nat) : Option PyData :=
  if (match w with | a :: _ => decide (a ∈ numS.cps.toList) | [] => false) = true then gInt [.str (tx w)]
  else if w = [33] then some (.bool true) else if w = [46] then some (.bool false) else if w = [126] then some .none else gRepl "_" " " (.str (tx w))
theorem valM_num {a : Nat} {r : List Nat} (h : a ∈ numS.cps.toList) : valM (a :: r) = gInt [.str (tx (a :: r))] := if_pos (decide_eq_true h)
theorem valM_oth {a : Nat} {r : List Nat} (h : a ∉ numS.cps.toList) : valM (a :: r) = if (a :: r) = [33] then some (.bool true) else if (a :: r) = [46] then some (.bool false) else if (a :: r) = [126] then some .none else gRepl "_" " " (.str (tx (a :: r))) := if_neg (fun z => h (of_decide_eq_true z))
theorem tx_inj {a b : List Nat} (h : tx a = tx b) : a = b := by
  have e : (tx a).cps.toList = (tx b).cps.toList := by rw [h]
  simpa [tx] using e
section
variable {C : Addr} {st : RdSt} {w : List Nat}
theorem dic3 {w : List Nat} : dGet [(.str "!", .bool true), (.str ".", .bool false), (.str "~", .none)] (.inr (tx w)) = if w = [33] then some (.bool true) else if w = [46] then some (.bool false) else if w = [126] then some .none else none := by
  have k : ∀ (z : Str) (m : List Nat), z = tx m → keyB (.str z) (.inr (tx w)) = decide (w = m) := fun z m hz => by
    subst hz
    show decide (tx m = tx w) = _
    by_cases h : w = m
    · rw [h, decide_eq_true rfl, decide_eq_true rfl]
    · rw [decide_eq_false h, decide_eq_false fun e => h (tx_inj e).symm]
  unfold dGet
  rw [List.find?_cons, List.find?_cons, List.find?_cons, List.find?_nil]
  simp only [k "!" [33] rfl, k "." [46] rfl, k "~" [126] rfl]
  by_cases h1 : w = [33]
  · simp [h1]
  · by_cases h2 : w = [46]
    · simp [h2]
    · by_cases h3 : w = [126]
      · simp [h3]
      · simp [h1, h2, h3]
theorem itF_is (hw : st.word = tx w) (hz : w.length ≤ sizeLine) {f : Option PyData} (hf : (stopW w = true ∧ f = none) ∨ (stopW w = false ∧ ∃ v, valM w = some v ∧ flatD v = true ∧ f = some v)) : itF C st = some f := by
  suffices h : runF ["self", "items"] 1 (F_ThingReader_item C) [obD C st] = some (itemD f) by
    unfold itF
    rw [h]
    rcases hf with ⟨_, rfl⟩ | ⟨_, v, _, hv, rfl⟩
    · rfl
    · show (if flatD v = true then some (some v) else none) = _
      rw [if_pos hv]
  refine z_run rfl ?_
  show F_ThingReader_item C [some (obD C st), none] = _
  generalize hev : ([some (obD C st), none] : Ev) = ev
  have h0 : fVar 0 ev = some (obD C st) := by rw [← hev]; rfl
  have hW := fw h0 hw
  have htwo : f2T gInD (fFld C "word" (fVar 0)) (fTup (fCons (fC (.str "")) (fCons (fC (.str "-")) fNil))) ev = some (w == [] || w == [45]) := by
    refine z_2T hW (z_tup (z_cons rfl (z_cons rfl rfl)) (by show 2 ≤ sizeLine; decide)) ?_
    show some ((("" : Str) == tx w) || ((("-" : Str) == tx w) || false)) = _
    rw [show ("" : Str) = tx [] from rfl, show ("-" : Str) = tx [45] from rfl, tx_beq, tx_beq, Bool.or_false]
    rw [show ([] == w) = (w == []) from BEq.comm, show ([45] == w) = (w == [45]) from BEq.comm]
  unfold F_ThingReader_item
  have hstop : ∀ b, stopW w = b → fOr (f2T gInD (fFld C "word" (fVar 0)) (fTup (fCons (fC (.str "")) (fCons (fC (.str "-")) fNil)))) (f2T gEq (f2 gIx (fFld C "word" (fVar 0)) (fNeg (fC (.int 1)))) (fC (.str "_"))) ev = some b := by
    rintro b rfl
    unfold stopW
    cases h2 : (w == [] || w == [45]) with
    | true => rw [h2] at htwo; exact z_orT htwo
    | false =>
      rw [h2] at htwo
      have hne : w ≠ [] := fun e => by rw [e] at h2; cases h2
      refine z_orF htwo (z_2T (z_2 hW rfl (gIx_last hne hz)) rfl ?_)
      show some (one _ == one 95) = _
      rw [one_beq, List.getLast?_eq_some_getLast hne, Bool.false_or]
      congr 1
  rcases hf with ⟨hs, rfl⟩ | ⟨hs, v, hv, hfl, rfl⟩
  · exact z_rt (z_ifT (hstop true hs) (z_rt (z_ret rfl)))
  · refine z_nx (z_ifF (hstop false hs) rfl) ?_
    cases w with
    | nil => cases hs
    | cons a r =>
    have hfirst : f2T gInD (f2 gIx (fFld C "word" (fVar 0)) (fC (.int 0))) (fC (.str "-0123456789")) ev = some (decide (a ∈ numS.cps.toList)) :=
      z_2T (z_2 hW rfl (gIx_first hz)) rfl (in_one a "-0123456789")
    by_cases hn : a ∈ numS.cps.toList
    · rw [decide_eq_true hn] at hfirst
      rw [valM_num hn] at hv
      exact z_rt (z_ifT hfirst (z_rt (z_ret (z_tup (z_cons (z_call (z_cons hW rfl) hv) rfl) (by show 1 ≤ sizeLine; decide)))))
    · rw [decide_eq_false hn] at hfirst
      rw [valM_oth hn] at hv
      refine z_nx (z_ifF hfirst rfl) ?_
      refine z_nx (z_set (w := .dict [(.str "!", .bool true), (.str ".", .bool false), (.str "~", .none)]) rfl) ?_
      have hW2 : fFld C "word" (fVar 0) (ev.set 1 (some (.dict [(.str "!", .bool true), (.str ".", .bool false), (.str "~", .none)]))) = some (.str (tx (a :: r))) := fw (by rw [← hev]; rfl) hw
      have hV : fVar 1 (ev.set 1 (some (.dict [(.str "!", .bool true), (.str ".", .bool false), (.str "~", .none)]))) = some (.dict [(.str "!", .bool true), (.str ".", .bool false), (.str "~", .none)]) := by rw [← hev]; rfl
      refine z_rt (z_ret (z_tup (z_cons (w := v) ?_ rfl) (by show 1 ≤ sizeLine; decide)))
      have hd := dic3 (w := a :: r)
      by_cases h3 : (a :: r) = [33] ∨ (a :: r) = [46] ∨ (a :: r) = [126]
      · have hv2 : dGet [(.str "!", .bool true), (.str ".", .bool false), (.str "~", .none)] (.inr (tx (a :: r))) = some v := by
          rw [hd]
          rcases h3 with h | h | h <;> (rw [h] at hv ⊢; simpa using hv)
        refine z_ifET (z_2T hW2 hV ?_) (z_2 hV hW2 ?_)
        · show some ((dGet _ (.inr (tx (a :: r)))).isSome) = _
          rw [hv2]; rfl
        · exact hv2
      · have h33 : ¬ (a :: r) = [33] := fun e => h3 (.inl e)
        have h46 : ¬ (a :: r) = [46] := fun e => h3 (.inr (.inl e))
        have h126 : ¬ (a :: r) = [126] := fun e => h3 (.inr (.inr e))
        rw [if_neg h33, if_neg h46, if_neg h126] at hd hv
        refine z_ifEF (z_2T hW2 hV ?_) ?_
        · show some ((dGet _ (.inr (tx (a :: r)))).isSome) = _
          rw [hd]; rfl
        · unfold fRepl
          rw [hW2]
          exact hv
end
end K87

set_option Elab.async false
set_option linter.all false
set_option maxRecDepth 100000
set_option maxHeartbeats 4000000
/-! The reader, sign by sign, in plain words. -/
namespace K87
open PySem PySem.Spec PyProof.Rows L2 Pu
structure RS where
  lots : List (List PyData)
  signs : List Nat
  word : List Nat
  ended : Bool
def toSt (rs : RS) : RdSt := ⟨rs.lots, rs.signs.map one, tx rs.word, rs.ended⟩
def rs0 : RS := ⟨[[]], [], [], false⟩
def rEnds (rs : RS) : Option RS :=
  if rs.ended = true then some { rs with word := [], ended := false }
  else if stopW rs.word = true then none else match valM rs.word, rs.lots with
    | some v, ds :: dss => some { lots := (ds ++ [v]) :: dss, signs := rs.signs, word := [], ended := false }
    | _, _ => none
def rGo (rs : RS) (c : Nat) : Option RS := match rs.lots with
  | ds :: es :: dss => some { lots := (es ++ [if c = 41 then PyData.tuple ds else .list ds]) :: dss, signs := rs.signs.tail, word := rs.word, ended := true }
  | _ => none
def rShut (rs : RS) (c : Nat) : Option RS := match rs.lots, rs.signs with
  | ds :: _, z :: _ => if z = (if c = 41 then 40 else 91) then (if (rs.word == [] && !rs.ended && ds.isEmpty) = true then rGo rs c else (rEnds rs).bind fun r => rGo r c) else none
  | _, _ => none
def rStep (rs : RS) (c : Nat) : Option RS :=
  if c = 41 ∨ c = 93 then rShut rs c
  else if c = 32 then (if rs.signs = [] then none else rEnds rs)
  else if rs.ended = true then none
  else if rs.word = [] ∧ (c = 40 ∨ c = 91) then some { lots := [] :: rs.lots, signs := c :: rs.signs, word := rs.word, ended := rs.ended }
  else if goesOn rs.word c = true then some { lots := rs.lots, signs := rs.signs, word := rs.word ++ [c], ended := rs.ended } else none
/-- the reader is sound behind m signs -/
structure RI (rs : RS) (m : Nat) : Prop where
  len : rs.lots.length = rs.signs.length + 1
  sg : rs.signs.length ≤ m
  sb : ∀ z ∈ rs.signs, z = 40 ∨ z = 91
  wd : rs.word.length ≤ m
  ld : ∀ ds ∈ rs.lots, ds.length ≤ m ∧ PyData.plainAll ds = true
  en : rs.ended = true → rs.word = []
/-- the word, if it is one, is worth something -/
def VD (rs : RS) : Prop := stopW rs.word = false → ∃ v, valM rs.word = some v ∧ flatD v = true
theorem flat_plain {v : PyData} (h : flatD v = true) : v.plain = true := by
  cases v <;> first | rfl | cases h
section
variable {C : Addr} {rs : RS} {m : Nat}
theorem rEnds_is (R : RI rs m) (vd : VD rs) (hm : m < 1000000) : endsF C (toSt rs) = some (match rEnds rs with | some r => (true, toSt r) | none => (false, toSt rs)) := by
  have hz := sizeLine_eq
  have wl : rs.word.length ≤ sizeLine := by have := R.wd; omega
  unfold endsF rEnds
  cases he : rs.ended with
  | true =>
    have hw := R.en he
    rw [itF_is (st := toSt rs) (w := rs.word) rfl wl (.inl ⟨by rw [hw]; rfl, rfl⟩)]
    show (if rs.ended = true then _ else _) = _
    rw [he]
    rfl
  | false =>
    have e0 : (toSt rs).ended = false := he
    cases hs : stopW rs.word with
    | true =>
      rw [itF_is (st := toSt rs) (w := rs.word) rfl wl (.inl ⟨hs, rfl⟩), Option.bind_some]
      rw [e0]
      rfl
    | false =>
      obtain ⟨v, hv, hf⟩ := vd hs
      rw [itF_is (st := toSt rs) (w := rs.word) rfl wl (.inr ⟨hs, v, hv, hf, rfl⟩), Option.bind_some]
      rw [e0, hv]
      have hl := R.len
      cases hlots : rs.lots with
      | nil => rw [hlots] at hl; cases hl
      | cons ds dss =>
        have hd := (R.ld ds (by rw [hlots]; exact List.mem_cons_self)).1
        have e1 : (toSt rs).lots = ds :: dss := hlots
        simp only [Bool.false_eq_true, if_false]
        rw [e1]
        simp only
        rw [if_pos (by omega)]
        rfl
theorem rEnds_inv (R : RI rs m) (vd : VD rs) {r : RS} (h : rEnds rs = some r) : RI r (m + 1) ∧ r.signs = rs.signs ∧ r.word = [] ∧ r.ended = false := by
  unfold rEnds at h
  split at h
  · cases h
    exact ⟨⟨R.len, Nat.le_succ_of_le R.sg, R.sb, Nat.zero_le _, fun ds hd => ⟨Nat.le_succ_of_le (R.ld ds hd).1, (R.ld ds hd).2⟩, (fun z => nomatch z)⟩, rfl, rfl, rfl⟩
  · split at h
    · cases h
    · rename_i hs
      split at h
      · rename_i v ds dss hv hl
        cases h
        have hl2 := R.len
        obtain ⟨v', hv', hf'⟩ := vd (Bool.eq_false_iff.mpr hs)
        rw [hv] at hv'
        cases hv'
        refine ⟨⟨by rw [hl] at hl2; exact hl2, Nat.le_succ_of_le R.sg, R.sb, Nat.zero_le _, fun es he => ?_, (fun z => nomatch z)⟩, rfl, rfl, rfl⟩
        rcases List.mem_cons.mp he with rfl | he
        · have hd := R.ld ds (by rw [hl]; exact List.mem_cons_self)
          refine ⟨by rw [List.length_append]; exact Nat.succ_le_succ hd.1, ?_⟩
          rw [plainAll_app, hd.2, PyData.plainAll, flat_plain hf']
          rfl
        · have hd := R.ld es (by rw [hl]; exact List.mem_cons_of_mem _ he)
          exact ⟨Nat.le_succ_of_le hd.1, hd.2⟩
      · cases h
theorem opens_is (c : Nat) (hc : c = 41 ∨ c = 93) : opens (one c) = one (if c = 41 then 40 else 91) := by
  rcases hc with rfl | rfl <;> rfl
theorem one_inj {a b : Nat} (h : one a = one b) : a = b := by
  have := tx_inj (a := [a]) (b := [b]) h
  simpa using this
theorem rGo_is (R : RI rs m) (hm : m < 1000000) {c : Nat} (hc : c = 41 ∨ c = 93) : goShut (toSt rs) (one c) = (rGo rs c).map toSt := by
  have hz := sizeLine_eq
  unfold goShut rGo
  have e : (toSt rs).lots = rs.lots := rfl
  rw [e]
  cases hl : rs.lots with
  | nil => rfl
  | cons ds t =>
    cases t with
    | nil => rfl
    | cons es dss =>
      have he := (R.ld es (by rw [hl]; simp)).1
      simp only
      rw [if_pos (by omega)]
      have e1 : (if one c = ")" then PyData.tuple ds else .list ds) = (if c = 41 then PyData.tuple ds else .list ds) := by
        rcases hc with rfl | rfl <;> rfl
      rw [e1]
      show some _ = some _
      congr 1
      unfold toSt
      rw [List.map_tail]
theorem rShut_is (R : RI rs m) (vd : VD rs) (hm : m + 1 < 1000000) {c : Nat} (hc : c = 41 ∨ c = 93) : ∃ st', shutsF C (toSt rs) (one c) = some ((rShut rs c).isSome, st') ∧ ∀ r, rShut rs c = some r → st' = toSt r := by
  have h1 : one c = ")" ∨ one c = "]" := by rcases hc with rfl | rfl; exact .inl rfl; exact .inr rfl
  unfold shutsF rShut
  rw [if_pos h1]
  have hl := R.len
  have e : (toSt rs).lots = rs.lots := rfl
  have es : (toSt rs).signs = rs.signs.map one := rfl
  rw [e, es]
  cases hlots : rs.lots with
  | nil => rw [hlots] at hl; cases hl
  | cons ds dss =>
    simp only
    rw [if_pos (R.ld ds (by rw [hlots]; exact List.mem_cons_self)).2]
    cases hsg : rs.signs with
    | nil => exact ⟨_, rfl, fun r h => nomatch h⟩
    | cons z zs =>
      simp only [List.map_cons]
      by_cases hzo : z = (if c = 41 then 40 else 91)
      · have h2 : one z = opens (one c) := by rw [opens_is c hc, hzo]
        rw [if_pos h2, if_pos hzo]
        have eb : bareB (toSt rs) ds = (rs.word == [] && !rs.ended && ds.isEmpty) := by
          unfold bareB
          show ((tx rs.word == tx []) && _ && _) = _
          rw [tx_beq]
          rfl
        rw [eb]
        cases hb : (rs.word == [] && !rs.ended && ds.isEmpty) with
        | true =>
          rw [if_pos rfl, if_pos rfl, rGo_is R (by omega) hc]
          cases hg : rGo rs c with
          | none =>
            exfalso
            unfold rGo at hg
            rw [hlots] at hg hl
            rw [hsg] at hl
            cases dss with
            | nil => cases hl
            | cons _ _ => cases hg
          | some r => exact ⟨_, rfl, fun r' h => by cases h; rfl⟩
        | false =>
          rw [if_neg Bool.false_ne_true, if_neg Bool.false_ne_true, rEnds_is R vd (by omega), Option.bind_some]
          cases hr : rEnds rs with
          | none => exact ⟨_, rfl, fun r h => nomatch h⟩
          | some r1 =>
            obtain ⟨R1, hs1, _, _⟩ := rEnds_inv R vd hr
            simp only [if_true, Option.bind_some]
            rw [rGo_is R1 hm hc]
            cases hg : rGo r1 c with
            | none =>
              exfalso
              unfold rGo at hg
              have hl1 := R1.len
              rw [hs1, hsg] at hl1
              cases h2 : r1.lots with
              | nil => rw [h2] at hl1; cases hl1
              | cons x t =>
                rw [h2] at hg hl1
                cases t with
                | nil => cases hl1
                | cons _ _ => cases hg
            | some r => exact ⟨_, rfl, fun r' h => by cases h; rfl⟩
      · have h2 : ¬ one z = opens (one c) := by rw [opens_is c hc]; exact fun h => hzo (one_inj h)
        rw [if_neg h2, if_neg hzo]
        exact ⟨_, rfl, fun r h => nomatch h⟩
theorem rStep_is (R : RI rs m) (hm : m + 1 < 1000000) (c : Nat) (vd : c = 32 ∨ c = 41 ∨ c = 93 → VD rs) : ∃ st', takesF C (toSt rs) c = some ((rStep rs c).isSome, st') ∧ ∀ r, rStep rs c = some r → st' = toSt r := by
  have hz := sizeLine_eq
  have hl := R.len
  have hs := R.sg
  have hw := R.wd
  unfold takesF rStep
  by_cases h1 : c = 41 ∨ c = 93
  · rw [if_pos h1, if_pos h1]; exact rShut_is R (vd (.inr h1)) hm h1
  rw [if_neg h1, if_neg h1]
  by_cases h2 : c = 32
  · rw [if_pos h2, if_pos h2]
    have e : (toSt rs).signs = rs.signs.map one := rfl
    rw [e]
    cases hsg : rs.signs with
    | nil => exact ⟨_, rfl, fun r h => nomatch h⟩
    | cons z zs =>
      rw [if_neg (by simp), if_neg (by simp), rEnds_is R (vd (.inl h2)) (by omega)]
      cases rEnds rs with
      | none => exact ⟨_, rfl, fun r h => nomatch h⟩
      | some r => exact ⟨_, rfl, fun r' h => by cases h; rfl⟩
  rw [if_neg h2, if_neg h2]
  have ee : (toSt rs).ended = rs.ended := rfl
  rw [ee]
  cases he : rs.ended with
  | true => exact ⟨_, rfl, fun r h => nomatch h⟩
  | false =>
    rw [if_neg Bool.false_ne_true, if_neg Bool.false_ne_true]
    have ew : ((toSt rs).word == "" && (c == 40 || c == 91)) = decide (rs.word = [] ∧ (c = 40 ∨ c = 91)) := by
      show ((tx rs.word == tx []) && _) = _
      rw [tx_beq]
      by_cases a1 : rs.word = [] <;> by_cases a2 : c = 40 <;> by_cases a3 : c = 91 <;> simp [a1, a2, a3]
    rw [ew]
    by_cases h3 : rs.word = [] ∧ (c = 40 ∨ c = 91)
    · rw [if_pos (decide_eq_true h3), if_pos h3]
      have e1 : (toSt rs).lots.length < sizeLine ∧ (toSt rs).signs.length < sizeLine := ⟨by show rs.lots.length < _; omega, by show (rs.signs.map one).length < _; rw [List.length_map]; omega⟩
      rw [if_pos e1]
      exact ⟨_, rfl, fun r h => by cases h; rw [← he]; rfl⟩
    · rw [if_neg (by simpa using h3), if_neg h3, goF_is (st := toSt rs) (w := rs.word) rfl (by omega), Option.bind_some]
      cases hg : goesOn rs.word c with
      | true =>
        rw [if_pos rfl, if_pos rfl]
        have e1 : (toSt rs).word.length + 1 ≤ sizeLine := by show (tx rs.word).length + 1 ≤ _; rw [tx_len]; omega
        rw [if_pos e1]
        refine ⟨_, rfl, fun r h => ?_⟩
        cases h
        unfold toSt
        simp only
        rw [← tx_app]
        rfl
      | false => exact ⟨_, rfl, fun r h => nomatch h⟩
end
end K87

set_option Elab.async false
set_option linter.all false
set_option maxRecDepth 100000
set_option maxHeartbeats 4000000
namespace K87
open PySem PySem.Spec PyProof.Rows L2 Pu
/-! ### sizes -/
mutual
def small : PyData → Bool
  | .list xs => decide (xs.length ≤ 1000000) && smallAll xs
  | .tuple xs => decide (xs.length ≤ 1000000) && smallAll xs
  | _ => true
def smallAll : List PyData → Bool
  | [] => true
  | x :: xs => small x && smallAll xs
end
def Sz (n : Nat) (v : PyData) : Prop := v.depth ≤ n ∧ small v = true
def SzA (n : Nat) (vs : List PyData) : Prop := PyData.depthAll vs ≤ n ∧ smallAll vs = true
theorem depthAll_app : ∀ xs ys : List PyData, PyData.depthAll (xs ++ ys) = max (PyData.depthAll xs) (PyData.depthAll ys)
  | [], ys => by rw [List.nil_append, PyData.depthAll, Nat.zero_max]
  | x :: xs, ys => by rw [List.cons_append, PyData.depthAll, PyData.depthAll, depthAll_app xs ys, Nat.max_assoc]
theorem smallAll_app : ∀ xs ys : List PyData, smallAll (xs ++ ys) = (smallAll xs && smallAll ys)
  | [], ys => by rw [List.nil_append, smallAll, Bool.true_and]
  | x :: xs, ys => by rw [List.cons_append, smallAll, smallAll, smallAll_app xs ys, Bool.and_assoc]
theorem SzA.nil {n : Nat} : SzA n [] := ⟨Nat.zero_le _, rfl⟩
theorem SzA.snoc {n : Nat} {vs : List PyData} {v : PyData} (h : SzA n vs) (k : Sz n v) : SzA n (vs ++ [v]) := by
  refine ⟨?_, ?_⟩
  · have := h.1
    have := k.1
    rw [depthAll_app]
    simp only [PyData.depthAll]
    omega
  · rw [smallAll_app, h.2, smallAll, k.2]
    rfl
theorem Sz.flat {n : Nat} {v : PyData} (h : flatD v = true) : Sz n v := by
  cases v <;> first | exact ⟨Nat.zero_le _, rfl⟩ | cases h

theorem gEq_nat (a b : Nat) : gEq (.int (a : Nat)) (.int (b : Nat)) = some (a == b) := by
  show some ((a : Int) == b) = _
  congr 1
  by_cases h : a = b
  · subst h; simp
  · rw [beq_eq_false_iff_ne.mpr h, beq_eq_false_iff_ne.mpr (by omega)]
end K87

set_option Elab.async false
set_option linter.all false
set_option maxRecDepth 100000
set_option maxHeartbeats 4000000
namespace K87
open PySem PySem.Spec PyProof.Rows L2 Pu
section
variable {P : Program} {w : World} {K : PySem.W.Frag} {mg : Str → Option Value} {base : Heap}
def FE2 (g__law_exact : List PyData → Option PyData) : Ev → Option Out := (fSeq (fIfS (fT (fIsi (fVar 0) ["dict"])) (fSeq (fIfS (fOr (fNot (fT (fIsi (fVar 1) ["dict"]))) (f2T gNe (fCall gLen (fCons (fVar 0) fNil)) (fCall gLen (fCons (fVar 1) fNil)))) (fSeq (fRet (fC (.bool false))) fNext) fNext) (fSeq (fRet (fD0 0 (fCall gAll (fCons (fComp (fIt (fVar 0)) asOne [2] [2] (fun _ => some true) (fAndV (fB (f2T gInD (fVar 2) (fVar 1))) (fCall g__law_exact (fCons (f2 gIx (fVar 0) (fVar 2)) (fCons (f2 gIx (fVar 1) (fVar 2)) fNil))))) fNil)))) fNext)) fNext) (fSeq (fIfS (fT (fIsi (fVar 0) ["list", "tuple"])) (fSeq (fSet 3 (fB (f2T gEq (fIsi (fVar 1) ["list"]) (fIsi (fVar 0) ["list"])))) (fSeq (fSet 4 (fAndV (fVar 3) (fB (f2T gEq (fIsi (fVar 1) ["tuple"]) (fIsi (fVar 0) ["tuple"]))))) (fSeq (fRet (fAndV (fVar 4) (fAndV (fB (f2T gEq (fCall gLen (fCons (fVar 0) fNil)) (fCall gLen (fCons (fVar 1) fNil)))) (fCall gAll (fCons (fComp (fZip (fVar 0) (fVar 1)) (asTup 2) [5, 6] [5, 6] (fun _ => some true) (fCall g__law_exact (fCons (fVar 5) (fCons (fVar 6) fNil)))) fNil))))) fNext))) fNext) (fSeq (fIfS (fOr (fT (fIsi (fVar 1) ["list", "tuple", "dict"])) (f2T gNe (fB (f2T isD (fVar 0) (fC .none))) (fB (f2T isD (fVar 1) (fC .none))))) (fSeq (fRet (fC (.bool false))) fNext) fNext) (fSeq (fSet 4 (fAndV (fB (f2T gEq (fIsi (fVar 0) ["int"]) (fIsi (fVar 1) ["int"]))) (fB (f2T gEq (fIsi (fVar 0) ["str"]) (fIsi (fVar 1) ["str"]))))) (fSeq (fRet (fAndV (fVar 4) (fAndV (fB (f2T gEq (fIsi (fVar 0) ["bool"]) (fIsi (fVar 1) ["bool"]))) (fB (f2T gEq (fVar 0) (fVar 1)))))) fNext)))))
theorem d_exact2 {k : Nat} {g__law_exact : List PyData → Option PyData}  (D : DefAt K mg "_law_exact" "_law_exact" s__law_exact ["mine", "theirs"]) (m_isinstance : mg "isinstance" = none) (m_bool : mg "bool" = none) (m_str : mg "str" = none) (m_int : mg "int" = none) (m_list : mg "list" = none) (m_tuple : mg "tuple" = none) (m_dict : mg "dict" = none) (m_zip : mg "zip" = none) (m_all : mg "all" = none) (m_len : mg "len" = none) (D__law_exact : DefP P w K mg base "_law_exact" k ["mine", "theirs"] g__law_exact) : DefP P w K mg base "_law_exact" (k + 1) ["mine", "theirs"] (runF ["mine", "theirs", "key", "is_list", "is_like", "a", "b"] 2 (FE2 g__law_exact)) :=
  defP_of D sc__law_exact fun f cdv A outer s H E hr nd => (puss_cons (pus_if (put_val (pu_isi (x := "dict") (T := "dict") (pu_var 0) rfl m_isinstance rfl m_dict (by decide +kernel) (by decide))) (puss_cons (pus_if (put_w (puw_or (put_not (put_val (pu_isi (x := "dict") (T := "dict") (pu_var 1) rfl m_isinstance rfl m_dict (by decide +kernel) (by decide)))) (puw_or1 (put_cmp (o_ne (u64 hr)) g_ne (pu_callB c_len gc_len rfl m_len boot_len (pua_cons (pu_var 0) pua_nil)) (pu_callB c_len gc_len rfl m_len boot_len (pua_cons (pu_var 1) pua_nil)) (nomark _))))) (puss_cons (pus_ret pu_bl) puss_nil) puss_nil) (puss_cons (pus_ret (pu_allD0 (pu_callB (cr_all rfl) gc_all rfl m_all boot_all (pua_cons (pu_lc (own := [("key", 2)]) (is := [2]) rfl nd (pui_any (pu_var 0)) (blkOk_by (N := ["mine", "theirs", "key", "is_list", "is_like", "a", "b"]) (sc := defScope s__law_exact) (by decide +kernel)) gp_one tp_yes (by decide) (fun _ _ _ _ _ => (pg_name (i := 2) nd rfl (Or.inl rfl))) (fun _ _ _ _ _ => pts_nil) (fun _ _ _ _ _ => (pu_and (pu_in (u1 hr) (pu_var 2) (pu_var 1)) (pu_one (pu_callD D__law_exact hr rfl (pua_cons (pu_ix (u1 hr) (pu_var 0) (pu_var 2) (fun _ _ => rfl) (fun _ _ => rfl)) (pua_cons (pu_ix (u1 hr) (pu_var 1) (pu_var 2) (fun _ _ => rfl) (fun _ _ => rfl)) pua_nil))))))) pua_nil)) rfl nd rfl (by first | exact Or.inl rfl | exact Or.inr (Or.inl rfl) | exact Or.inr (Or.inr rfl)) (by decide) (by decide) (blkOk_by (N := ["mine", "theirs", "key", "is_list", "is_like", "a", "b"]) (sc := defScope s__law_exact) (own := [("key", 2)]) (by decide +kernel)) (fun _ _ _ _ _ => pg_name (i := 2) nd rfl (Or.inl rfl)) (fun _ _ _ _ _ => pts_nil) (fun _ _ _ _ _ => (pu_and (pu_in (u1 hr) (pu_var 2) (pu_var 1)) (pu_one (pu_callD D__law_exact hr rfl (pua_cons (pu_ix (u1 hr) (pu_var 0) (pu_var 2) (fun _ _ => rfl) (fun _ _ => rfl)) (pua_cons (pu_ix (u1 hr) (pu_var 1) (pu_var 2) (fun _ _ => rfl) (fun _ _ => rfl)) pua_nil)))))) rfl m_all)) puss_nil)) puss_nil) (puss_cons (pus_if (put_val (pu_isi2 (x := "list") (y := "tuple") (T := "list") (U := "tuple") (pu_var 0) rfl m_isinstance rfl m_list (by decide +kernel) (by decide) rfl m_tuple (by decide +kernel) (by decide))) (puss_cons (pus_set (i := 3) nd rfl (Or.inl rfl) (pu_cmp (o_eq (u64 hr)) g_eq (pu_isi (x := "list") (T := "list") (pu_var 1) rfl m_isinstance rfl m_list (by decide +kernel) (by decide)) (pu_isi (x := "list") (T := "list") (pu_var 0) rfl m_isinstance rfl m_list (by decide +kernel) (by decide)) (nomark _))) (puss_cons (pus_set (i := 4) nd rfl (Or.inl rfl) (pu_and (pu_var 3) (pu_one (pu_cmp (o_eq (u64 hr)) g_eq (pu_isi (x := "tuple") (T := "tuple") (pu_var 1) rfl m_isinstance rfl m_tuple (by decide +kernel) (by decide)) (pu_isi (x := "tuple") (T := "tuple") (pu_var 0) rfl m_isinstance rfl m_tuple (by decide +kernel) (by decide)) (nomark _))))) (puss_cons (pus_ret (pu_and (pu_var 4) (pu_and (pu_cmp (o_eq (u64 hr)) g_eq (pu_callB c_len gc_len rfl m_len boot_len (pua_cons (pu_var 0) pua_nil)) (pu_callB c_len gc_len rfl m_len boot_len (pua_cons (pu_var 1) pua_nil)) (nomark _)) (pu_one (pu_callB (cr_all rfl) gc_all rfl m_all boot_all (pua_cons (pu_lc (own := [("a", 5), ("b", 6)]) (is := [5, 6]) rfl nd (pui_zip (pu_var 0) (pu_var 1) rfl m_zip) (blkOk_by (N := ["mine", "theirs", "key", "is_list", "is_like", "a", "b"]) (sc := defScope s__law_exact) (by decide +kernel)) gp_tup2 tp_yes (by decide) (fun _ _ _ _ _ => (pg_tup rfl (pgs_cons (pg_name (i := 5) nd rfl (Or.inl rfl)) (pgs_cons (pg_name (i := 6) nd rfl (Or.inl rfl)) pgs_nil)))) (fun _ _ _ _ _ => pts_nil) (fun _ _ _ _ _ => (pu_callD D__law_exact hr rfl (pua_cons (pu_var 5) (pua_cons (pu_var 6) pua_nil))))) pua_nil)))))) puss_nil))) puss_nil) (puss_cons (pus_if (put_w (puw_or (put_val (pu_isi3 (x := "list") (y := "tuple") (z := "dict") (T := "list") (U := "tuple") (W := "dict") (pu_var 1) rfl m_isinstance rfl m_list (by decide +kernel) (by decide) rfl m_tuple (by decide +kernel) (by decide) rfl m_dict (by decide +kernel) (by decide))) (puw_or1 (put_cmp (o_ne (u64 hr)) g_ne (pu_cmp o_is g_is (pu_var 0) pu_non (nomark _)) (pu_cmp o_is g_is (pu_var 1) pu_non (nomark _)) (nomark _))))) (puss_cons (pus_ret pu_bl) puss_nil) puss_nil) (puss_cons (pus_set (i := 4) nd rfl (Or.inl rfl) (pu_and (pu_cmp (o_eq (u64 hr)) g_eq (pu_isi (x := "int") (T := "int") (pu_var 0) rfl m_isinstance rfl m_int (by decide +kernel) (by decide)) (pu_isi (x := "int") (T := "int") (pu_var 1) rfl m_isinstance rfl m_int (by decide +kernel) (by decide)) (nomark _)) (pu_one (pu_cmp (o_eq (u64 hr)) g_eq (pu_isi (x := "str") (T := "str") (pu_var 0) rfl m_isinstance rfl m_str (by decide +kernel) (by decide)) (pu_isi (x := "str") (T := "str") (pu_var 1) rfl m_isinstance rfl m_str (by decide +kernel) (by decide)) (nomark _))))) (puss_cons (pus_ret (pu_and (pu_var 4) (pu_and (pu_cmp (o_eq (u64 hr)) g_eq (pu_isi (x := "bool") (T := "bool") (pu_var 0) rfl m_isinstance rfl m_bool (by decide +kernel) (by decide)) (pu_isi (x := "bool") (T := "bool") (pu_var 1) rfl m_isinstance rfl m_bool (by decide +kernel) (by decide)) (nomark _)) (pu_one (pu_cmp (o_eq (u64 hr)) g_eq (pu_var 0) (pu_var 1) (nomark _)))))) puss_nil)))))
end
end K87

set_option Elab.async false
set_option linter.all false
set_option maxRecDepth 100000
set_option maxHeartbeats 4000000
namespace K87
open PySem PySem.Spec PyProof.Rows L2 Pu
def gE : Nat → List PyData → Option PyData
  | 0 => fun _ => none
  | n + 1 => runF ["mine", "theirs", "key", "is_list", "is_like", "a", "b"] 2 (FE2 (gE n))
theorem compL_pairs {fe : Ev → Option PyData} {ev : Ev} {i j : Nat} : ∀ {xs : List PyData}, (∀ x ∈ xs, fe ((ev.set i (some x)).set j (some x)) = some (.bool true)) → compL (asTup 2) [i, j] (fun _ => some true) fe ev (zipD xs xs) = some (xs.map fun _ => .bool true)
  | [], _ => rfl
  | x :: xs, h => by
    show ((fe ((ev.set i (some x)).set j (some x))).bind fun y => (compL (asTup 2) [i, j] (fun _ => some true) fe ev (zipD xs xs)).bind fun ys => some (y :: ys)) = _
    rw [h x List.mem_cons_self, compL_pairs fun y hy => h y (List.mem_cons_of_mem _ hy)]
    rfl
theorem all_true (xs : List PyData) : gAll [.list (xs.map fun _ => .bool true)] = some (.bool true) := by
  show (asBs (xs.map fun _ => .bool true)).map (fun bs => PyData.bool (bs.all id)) = _
  rw [asBs_map (h := fun _ => true)]
  show some (PyData.bool ((xs.map fun _ => true).all id)) = _
  congr 2
  rw [List.all_eq_true]
  intro b hb
  obtain ⟨_, _, rfl⟩ := List.mem_map.mp hb
  rfl
theorem plain_mem : ∀ {xs : List PyData}, PyData.plainAll xs = true → ∀ x ∈ xs, x.plain = true
  | y :: ys, h, x, hx => by
    rw [PyData.plainAll, Bool.and_eq_true] at h
    rcases List.mem_cons.mp hx with rfl | hx
    · exact h.1
    · exact plain_mem h.2 x hx
theorem szA_mem {n : Nat} : ∀ {xs : List PyData}, SzA n xs → ∀ x ∈ xs, Sz n x
  | y :: ys, ⟨h1, h2⟩, x, hx => by
    rw [PyData.depthAll] at h1
    rw [smallAll, Bool.and_eq_true] at h2
    rcases List.mem_cons.mp hx with rfl | hx
    · exact ⟨by omega, h2.1⟩
    · exact szA_mem ⟨by omega, h2.2⟩ x hx
theorem exact_refl : ∀ (n : Nat) (w : PyData), w.plain = true → Sz n w → gE (n + 1) [w, w] = some (.bool true) := by
  intro n
  induction n with
  | zero =>
    intro w hp hs
    cases w with
    | none => rfl
    | bool b => cases b <;> rfl
    | int i =>
      refine z_run rfl ?_
      show FE2 (gE 0) [some (.int i), some (.int i), none, none, none, none, none] = _
      unfold FE2
      refine z_nx (z_ifF rfl rfl) (z_nx (z_ifF rfl rfl) (z_nx (z_ifF rfl rfl) (z_nx (z_set (w := .bool true) rfl) (z_rt (z_ret (z_andV (a := true) (b := true) rfl (z_andV (a := true) (b := true) rfl (z_B (z_2T rfl rfl (?_ : _ = some true))))))))))
      show some (i == i) = _
      rw [beq_self_eq_true]
    | str z =>
      refine z_run rfl ?_
      show FE2 (gE 0) [some (.str z), some (.str z), none, none, none, none, none] = _
      unfold FE2
      refine z_nx (z_ifF rfl rfl) (z_nx (z_ifF rfl rfl) (z_nx (z_ifF rfl rfl) (z_nx (z_set (w := .bool true) rfl) (z_rt (z_ret (z_andV (a := true) (b := true) rfl (z_andV (a := true) (b := true) rfl (z_B (z_2T rfl rfl (?_ : _ = some true))))))))))
      show some (z == z) = _
      rw [beq_self_eq_true]
    | list xs => have := hs.1; rw [PyData.depth] at this; omega
    | tuple xs => have := hs.1; rw [PyData.depth] at this; omega
    | dict ps => cases hp
  | succ n ih =>
    intro w hp hs
    have flatc : (∀ xs, w ≠ .list xs) → (∀ xs, w ≠ .tuple xs) → gE (n + 1 + 1) [w, w] = some (.bool true) := by
      intro h1 h2
      cases w with
      | none => rfl
      | bool b => cases b <;> rfl
      | int i =>
        refine z_run rfl ?_
        show FE2 (gE (n + 1)) [some (.int i), some (.int i), none, none, none, none, none] = _
        unfold FE2
        refine z_nx (z_ifF rfl rfl) (z_nx (z_ifF rfl rfl) (z_nx (z_ifF rfl rfl) (z_nx (z_set (w := .bool true) rfl) (z_rt (z_ret (z_andV (a := true) (b := true) rfl (z_andV (a := true) (b := true) rfl (z_B (z_2T rfl rfl (?_ : _ = some true))))))))))
        show some (i == i) = _
        rw [beq_self_eq_true]
      | str z =>
        refine z_run rfl ?_
        show FE2 (gE (n + 1)) [some (.str z), some (.str z), none, none, none, none, none] = _
        unfold FE2
        refine z_nx (z_ifF rfl rfl) (z_nx (z_ifF rfl rfl) (z_nx (z_ifF rfl rfl) (z_nx (z_set (w := .bool true) rfl) (z_rt (z_ret (z_andV (a := true) (b := true) rfl (z_andV (a := true) (b := true) rfl (z_B (z_2T rfl rfl (?_ : _ = some true))))))))))
        show some (z == z) = _
        rw [beq_self_eq_true]
      | list xs => exact absurd rfl (h1 xs)
      | tuple xs => exact absurd rfl (h2 xs)
      | dict ps => cases hp
    have rec_ : ∀ xs : List PyData, PyData.plainAll xs = true → SzA n xs → xs.length ≤ 1000000 → ∀ ev0 : Ev, fZip (fVar 0) (fVar 1) ev0 = some (zipD xs xs) → fCall gAll (fCons (fComp (fZip (fVar 0) (fVar 1)) (asTup 2) [5, 6] [5, 6] (fun _ => some true) (fCall (gE (n + 1)) (fCons (fVar 5) (fCons (fVar 6) fNil)))) fNil) ev0 = some (.bool true) ∨ ev0.length ≠ 7 := by
      intro xs h1 h2 h3 ev0 hz
      by_cases hl : ev0.length = 7
      · left
        have hsz := sizeLine_eq
        refine z_call (z_cons (w := .list (xs.map fun _ => .bool true)) ?_ rfl) (all_true xs)
        unfold fComp
        rw [hz, Option.bind_some]
        rw [if_pos (by rw [zipD_len]; omega)]
        have hc : compL (asTup 2) [5, 6] (fun _ => some true) (fCall (gE (n + 1)) (fCons (fVar 5) (fCons (fVar 6) fNil))) (wipeE ev0 [5, 6]) (zipD xs xs) = some (xs.map fun _ => .bool true) := by
          refine compL_pairs fun x hx => ?_
          have wl : (wipeE ev0 [5, 6]).length = 7 := by
            show ((ev0.set 6 none).set 5 none).length = 7
            rw [List.length_set, List.length_set, hl]
          have e5 : fVar 5 (((wipeE ev0 [5, 6]).set 5 (some x)).set 6 (some x)) = some x := by
            unfold fVar
            rw [List.getElem?_set_ne (by decide), List.getElem?_set_self (by omega)]
            rfl
          have e6 : fVar 6 (((wipeE ev0 [5, 6]).set 5 (some x)).set 6 (some x)) = some x := by
            unfold fVar
            rw [List.getElem?_set_self (by rw [List.length_set]; omega)]
            rfl
          exact z_call (z_cons e5 (z_cons e6 rfl)) (ih x (plain_mem h1 x hx) (szA_mem h2 x hx))
        rw [hc]
        rfl
      · exact .inr hl
    cases w with
    | list xs =>
      have h1 : SzA n xs := ⟨by have := hs.1; rw [PyData.depth] at this; omega, by have := hs.2; rw [small, Bool.and_eq_true] at this; exact this.2⟩
      have h2 : xs.length ≤ 1000000 := by have := hs.2; rw [small, Bool.and_eq_true] at this; exact of_decide_eq_true this.1
      have hlen : f2T gEq (fCall gLen (fCons (fVar 0) fNil)) (fCall gLen (fCons (fVar 1) fNil)) [some (.list xs), some (.list xs), none, some (.bool true), some (.bool true), none, none] = some true := by
        refine z_2T (w := .int xs.length) (u := .int xs.length) rfl rfl ?_
        rw [gEq_nat]; simp
      refine z_run rfl ?_
      show FE2 (gE (n + 1)) [some (.list xs), some (.list xs), none, none, none, none, none] = _
      unfold FE2
      refine z_nx (z_ifF rfl rfl) (z_rt (z_ifT rfl (z_nx (z_set (w := .bool true) rfl) (z_nx (z_set (w := .bool true) rfl) (z_rt (z_ret (z_andV (a := true) (b := true) rfl (z_andV (a := true) (b := true) (z_B hlen) ?_))))))))
      rcases rec_ xs hp h1 h2 [some (.list xs), some (.list xs), none, some (.bool true), some (.bool true), none, none] rfl with h | h
      · exact h
      · exact absurd rfl h
    | tuple xs =>
      have h1 : SzA n xs := ⟨by have := hs.1; rw [PyData.depth] at this; omega, by have := hs.2; rw [small, Bool.and_eq_true] at this; exact this.2⟩
      have h2 : xs.length ≤ 1000000 := by have := hs.2; rw [small, Bool.and_eq_true] at this; exact of_decide_eq_true this.1
      have hlen : f2T gEq (fCall gLen (fCons (fVar 0) fNil)) (fCall gLen (fCons (fVar 1) fNil)) [some (.tuple xs), some (.tuple xs), none, some (.bool true), some (.bool true), none, none] = some true := by
        refine z_2T (w := .int xs.length) (u := .int xs.length) rfl rfl ?_
        rw [gEq_nat]; simp
      refine z_run rfl ?_
      show FE2 (gE (n + 1)) [some (.tuple xs), some (.tuple xs), none, none, none, none, none] = _
      unfold FE2
      refine z_nx (z_ifF rfl rfl) (z_rt (z_ifT rfl (z_nx (z_set (w := .bool true) rfl) (z_nx (z_set (w := .bool true) rfl) (z_rt (z_ret (z_andV (a := true) (b := true) rfl (z_andV (a := true) (b := true) (z_B hlen) ?_))))))))
      rcases rec_ xs hp h1 h2 [some (.tuple xs), some (.tuple xs), none, some (.bool true), some (.bool true), none, none] rfl with h | h
      · exact h
      · exact absurd rfl h
    | none => exact flatc (fun _ z => nomatch z) (fun _ z => nomatch z)
    | bool b => exact flatc (fun _ z => nomatch z) (fun _ z => nomatch z)
    | int i => exact flatc (fun _ z => nomatch z) (fun _ z => nomatch z)
    | str z => exact flatc (fun _ z => nomatch z) (fun _ z => nomatch z)
    | dict ps => cases hp
theorem exact_d0 (n : Nat) : gE (n + 1) [.dict [], .dict []] = some (.bool true) := by
  refine z_run rfl ?_
  show FE2 (gE n) [some (.dict []), some (.dict []), none, none, none, none, none] = _
  unfold FE2
  exact z_rt (z_ifT rfl (z_nx (z_ifF rfl rfl) (z_rt (z_ret rfl))))
end K87

set_option Elab.async false
set_option linter.all false
set_option maxRecDepth 100000
set_option maxHeartbeats 4000000
/-! Texts of things, read back sign by sign. -/
namespace K87
open PySem PySem.Spec PyProof.Rows L2 Pu
def wordsX : List Str := wordsL ++ (["a b", "?7"] : List Str)
mutual
def txT : PyData → List Nat
  | .none => [126]
  | .bool b => if b = true then [33] else [46]
  | .int i => (Str.ofString (toString i)).cps.toList
  | .str z => (Txt.replace z " " "_").cps.toList
  | .list ds => [91] ++ TL.joinL [32] (txA ds) ++ [93]
  | .tuple ds => [40] ++ TL.joinL [32] (txA ds) ++ [41]
  | .dict _ => []
def txA : List PyData → List (List Nat)
  | [] => []
  | d :: ds => txT d :: txA ds
end
mutual
def okT : PyData → Bool
  | .none => true
  | .bool _ => true
  | .int i => decide (-(10 ^ 31) < i) && decide (i < 10 ^ 31)
  | .str z => wordsX.contains z
  | .list ds => okA ds
  | .tuple ds => okA ds
  | .dict _ => false
def okA : List PyData → Bool
  | [] => true
  | d :: ds => okT d && okA ds
end
/-! ### words -/
def accAll (p : List Nat) : List Nat → Bool
  | [] => true
  | c :: q => goesOn p c && accAll (p ++ [c]) q
def chkW (z : Str) : Bool :=
  let t := (Txt.replace z " " "_").cps.toList
  accAll [] t && !stopW t && (match valM t with | some (.str y) => y == z | _ => false)
theorem words_chk : (wordsX.all chkW) = true := by decide +kernel
theorem word_acc {z : Str} (h : wordsX.contains z = true) : accAll [] (txT (.str z)) = true ∧ stopW (txT (.str z)) = false ∧ valM (txT (.str z)) = some (.str z) := by
  have hz : z ∈ wordsX := by simpa using h
  have hc := List.all_eq_true.mp words_chk z hz
  unfold chkW at hc
  simp only [Bool.and_eq_true, Bool.not_eq_true'] at hc
  refine ⟨by rw [txT]; exact hc.1.1, by rw [txT]; exact hc.1.2, ?_⟩
  rw [txT]
  have h3 := hc.2
  split at h3
  · rename_i y e
    rw [e, eq_of_beq h3]
  · cases h3
/-! ### numbers -/
theorem numL_head : ∀ (n : Nat), ∃ d r, TL.numL n = d :: r ∧ 48 ≤ d ∧ d ≤ 57 ∧ (1 ≤ n → d ≠ 48) ∧ (n = 0 → r = []) := by
  intro n
  induction n using Nat.strongRecOn with
  | _ n ih =>
    by_cases h : n < 10
    · exact ⟨48 + n, [], TL.numL_lt h, by omega, by omega, fun _ => by omega, fun _ => rfl⟩
    · obtain ⟨d, r, e, h1, h2, h3, _⟩ := ih (n / 10) (by omega)
      exact ⟨d, r ++ [48 + n % 10], by rw [TL.numL_step (by omega), e]; rfl, h1, h2, fun _ => h3 (by omega), fun z => by omega⟩
theorem mem_numS (c : Nat) : c ∈ numS.cps.toList ↔ c = 45 ∨ (48 ≤ c ∧ c ≤ 57) := by
  have e : numS.cps.toList = [45, 48, 49, 50, 51, 52, 53, 54, 55, 56, 57] := by decide +kernel
  rw [e]
  simp only [List.mem_cons, List.not_mem_nil, or_false]
  omega
theorem acc_tail {a : Nat} (ha : a ∈ numS.cps.toList) : ∀ (q r : List Nat), a :: r ≠ [48] → a :: r ≠ [45] → (∀ c ∈ q, 48 ≤ c ∧ c ≤ 57) → accAll (a :: r) q = true
  | [], _, _, _, _ => rfl
  | c :: q, r, h1, h2, hq => by
    have hc := hq c List.mem_cons_self
    rw [accAll, goesOn_num ha, Bool.and_eq_true]
    refine ⟨?_, ?_⟩
    · rw [beq_eq_false_iff_ne.mpr h1, beq_eq_false_iff_ne.mpr h2]
      simp [isDig, hc.1, hc.2]
    · show accAll (a :: (r ++ [c])) q = true
      exact acc_tail ha q (r ++ [c]) (by simp) (by simp) fun x hx => hq x (List.mem_cons_of_mem _ hx)
theorem acc_nat (n : Nat) : accAll [] (TL.numL n) = true := by
  obtain ⟨d, r, e, h1, h2, h3, h4⟩ := numL_head n
  have hd := TL.numL_digits n
  rw [e] at hd ⊢
  rw [accAll, Bool.and_eq_true]
  refine ⟨by simp [goesOn, isDig, h1, h2], ?_⟩
  show accAll [d] r = true
  by_cases hn : n = 0
  · rw [h4 hn]; rfl
  · exact acc_tail ((mem_numS d).mpr (.inr ⟨h1, h2⟩)) r [] (by have := h3 (by omega); simpa using this) (by simp; omega) fun c hc => hd c (List.mem_cons_of_mem _ hc)
theorem acc_neg (n : Nat) (hn : 1 ≤ n) : accAll [] (45 :: TL.numL n) = true := by
  obtain ⟨d, r, e, h1, h2, h3, h4⟩ := numL_head n
  have hd := TL.numL_digits n
  rw [e] at hd ⊢
  have h45 : (45 : Nat) ∈ numS.cps.toList := (mem_numS 45).mpr (.inl rfl)
  rw [accAll, Bool.and_eq_true]
  refine ⟨by decide, ?_⟩
  show accAll [45] (d :: r) = true
  rw [accAll, Bool.and_eq_true]
  refine ⟨?_, ?_⟩
  · rw [goesOn_num h45]
    have := h3 hn
    simp [isDig, h1, h2, this]
  · exact acc_tail h45 r [d] (by simp) (by simp) fun c hc => hd c (List.mem_cons_of_mem _ hc)
theorem ofs_nat (n : Nat) : (Str.ofString (toString ((n : Nat) : Int))).cps.toList = TL.numL n := TL.tl_num n
theorem ofs_neg (n : Nat) : (Str.ofString (toString (Int.negSucc n))).cps.toList = 45 :: TL.numL (n + 1) := by
  rw [PyProof.Rows.signs_ofString]
  have e : toString (Int.negSucc n) = "-" ++ Nat.repr (n + 1) := rfl
  rw [e, String.toList_append, List.map_append]
  show [45] ++ _ = _
  have h := ofs_nat (n + 1)
  rw [PyProof.Rows.signs_ofString] at h
  have e2 : toString (((n + 1 : Nat)) : Int) = Nat.repr (n + 1) := rfl
  rw [e2] at h
  rw [h]
  rfl
theorem tx_of (z : Str) : tx z.cps.toList = z := by
  show (⟨z.cps.toList.toArray⟩ : Str) = z
  rw [Array.toArray_toList]
theorem int_acc {i : Int} (h : okT (.int i) = true) : accAll [] (txT (.int i)) = true ∧ stopW (txT (.int i)) = false ∧ valM (txT (.int i)) = some (.int i) ∧ (txT (.int i)).length ≤ 32 := by
  unfold okT at h
  rw [Bool.and_eq_true, decide_eq_true_eq, decide_eq_true_eq] at h
  have p31 : (10 : Int) ^ 31 = 10000000000000000000000000000000 := by decide +kernel
  have p31' : (10 : Nat) ^ 31 = 10000000000000000000000000000000 := by decide +kernel
  rw [txT]
  cases i with
  | ofNat n =>
    have hl : (TL.numL n).length ≤ 31 := TL.numL_len (by decide) (by rw [p31']; have h2 : ((n : Nat) : Int) < 10 ^ 31 := h.2; rw [p31] at h2; omega)
    have e : (Str.ofString (toString (Int.ofNat n))).cps.toList = TL.numL n := ofs_nat n
    rw [e]
    obtain ⟨d, r, e2, h1, h2, h3, h4⟩ := numL_head n
    refine ⟨acc_nat n, ?_, ?_, by omega⟩
    · have hd := TL.numL_digits n
      have hlast : ∀ x, (TL.numL n).getLast? = some x → x ≠ 95 := fun x hx => by
        have := hd x (List.mem_of_getLast? hx)
        omega
      unfold stopW
      have n1 : (TL.numL n == []) = false := beq_eq_false_iff_ne.mpr (TL.numL_ne n)
      have n2 : (TL.numL n == [45]) = false := beq_eq_false_iff_ne.mpr fun z => by
        rw [e2] at z
        have := (List.cons.inj z).1
        omega
      have n3 : ((TL.numL n).getLast? == some 95) = false := beq_eq_false_iff_ne.mpr fun z => hlast 95 z rfl
      rw [n1, n2, n3]
      rfl
    · rw [e2, valM_num ((mem_numS d).mpr (.inr ⟨h1, h2⟩)), ← e2]
      have et : tx (TL.numL n) = Str.ofString (toString ((n : Nat) : Int)) := by rw [← ofs_nat n, tx_of]
      rw [et]
      show (if (Str.ofString (toString ((n : Nat) : Int))).length ≤ 640 then (PySem.intText? (Str.ofString (toString ((n : Nat) : Int)))).map PyData.int else none) = _
      rw [if_pos (by rw [← et]; show (TL.numL n).toArray.size ≤ 640; rw [List.size_toArray]; omega), TL.int_num (by omega)]
      rfl
  | negSucc n =>
    have hl : (TL.numL (n + 1)).length ≤ 31 := TL.numL_len (by decide) (by rw [p31']; have := h.1; rw [p31] at this; omega)
    have hne := TL.numL_ne (n + 1)
    rw [ofs_neg]
    have hd := TL.numL_digits (n + 1)
    refine ⟨acc_neg (n + 1) (by omega), ?_, ?_, by rw [List.length_cons]; omega⟩
    · unfold stopW
      have n1 : (45 :: TL.numL (n + 1) == []) = false := rfl
      have n2 : (45 :: TL.numL (n + 1) == [45]) = false := beq_eq_false_iff_ne.mpr (by simpa using hne)
      have n3 : ((45 :: TL.numL (n + 1)).getLast? == some 95) = false := beq_eq_false_iff_ne.mpr fun z => by
        rcases List.mem_cons.mp (List.mem_of_getLast? z) with q | q
        · omega
        · have := hd 95 q; omega
      rw [n1, n2, n3]
      rfl
    · rw [valM_num ((mem_numS 45).mpr (.inl rfl))]
      have hs : (tx (45 :: TL.numL (n + 1))).cps.toList = 45 :: TL.numL (n + 1) := by simp [tx]
      have hlen : (tx (45 :: TL.numL (n + 1))).length ≤ 32 := by rw [tx_len, List.length_cons]; omega
      show (if (tx (45 :: TL.numL (n + 1))).length ≤ 640 then (PySem.intText? (tx (45 :: TL.numL (n + 1)))).map PyData.int else none) = _
      rw [if_pos (by omega), PySem.intText_neg hs hd hne (by omega), TL.numL_val]
      rfl
end K87

set_option Elab.async false
set_option linter.all false
set_option maxRecDepth 100000
set_option maxHeartbeats 4000000
namespace K87
open PySem PySem.Spec PyProof.Rows L2 Pu
theorem small_mem {S : List Nat} {f : Nat → Bool} (h : ∀ c, c < 128 → decide (c ∈ S) = f c) (hS : ∀ x ∈ S, x < 128) (hf : ∀ c, 128 ≤ c → f c = false) (c : Nat) : decide (c ∈ S) = f c := by
  by_cases hc : c < 128
  · exact h c hc
  · rw [hf c (by omega)]
    exact decide_eq_false fun m => hc (hS c m)
def okW (c : Nat) : Bool := isLow c || (isDig c || (c == 64 || (c == 63 || c == 95)))
theorem mem_word (c : Nat) : decide (c ∈ ("abcdefghijklmnopqrstuvwxyz0123456789@?_" : Str).cps.toList) = okW c :=
  small_mem (f := okW) (by decide +kernel) (by decide +kernel) (fun c h => by unfold okW isLow isDig; simp; omega) c
theorem mem_low (c : Nat) : decide (c ∈ ("abcdefghijklmnopqrstuvwxyz?" : Str).cps.toList) = (isLow c || c == 63) :=
  small_mem (f := fun c => isLow c || c == 63) (by decide +kernel) (by decide +kernel) (fun c h => by unfold isLow; simp; omega) c
theorem mem_dig (c : Nat) : decide (c ∈ ("0123456789" : Str).cps.toList) = isDig c :=
  small_mem (f := isDig) (by decide +kernel) (by decide +kernel) (fun c h => by unfold isDig; simp; omega) c
theorem mem_num (c : Nat) : decide (c ∈ numS.cps.toList) = (isDig c || c == 45) :=
  small_mem (f := fun c => isDig c || c == 45) (by decide +kernel) (by decide +kernel) (fun c h => by unfold isDig; simp; omega) c
theorem mem_tru (c : Nat) : decide (c ∈ ("!.~" : Str).cps.toList) = (c == 33 || (c == 46 || c == 126)) :=
  small_mem (f := fun c => c == 33 || (c == 46 || c == 126)) (by decide +kernel) (by decide +kernel) (fun c h => by simp; omega) c
theorem mem_first (c : Nat) : decide (c ∈ ("?-!.~" : Str).cps.toList) = (c == 63 || (c == 45 || (c == 33 || (c == 46 || c == 126)))) :=
  small_mem (f := fun c => c == 63 || (c == 45 || (c == 33 || (c == 46 || c == 126)))) (by decide +kernel) (by decide +kernel) (fun c h => by simp; omega) c
theorem mem_at (c : Nat) : decide (c ∈ ("@?" : Str).cps.toList) = (c == 64 || c == 63) :=
  small_mem (f := fun c => c == 64 || c == 63) (by decide +kernel) (by decide +kernel) (fun c h => by simp; omega) c
/-- signs that go on are none of the marks -/
theorem goesOn_ok {w : List Nat} {c : Nat} (h : goesOn w c = true) : c ≠ 32 ∧ c ≠ 40 ∧ c ≠ 41 ∧ c ≠ 91 ∧ c ≠ 93 := by
  have key : (isLow c || (isDig c || (c == 64 || (c == 63 || (c == 95 || (c == 45 || (c == 33 || (c == 46 || c == 126)))))))) = true := by
    cases w with
    | nil =>
      unfold goesOn at h
      rw [mem_first] at h
      revert h
      cases isLow c <;> cases isDig c <;> cases (c == 63) <;> cases (c == 45) <;> cases (c == 33) <;> cases (c == 46) <;> cases (c == 126) <;> simp
    | cons a r =>
      by_cases hn : a ∈ numS.cps.toList
      · rw [goesOn_num hn] at h
        cases hd : isDig c with
        | true => simp
        | false => rw [hd] at h; cases h
      · rw [goesOn_oth hn, mem_at] at h
        split at h
        · cases h
        · revert h
          cases isLow c <;> cases isDig c <;> cases (c == 64) <;> cases (c == 63) <;> cases (c == 95) <;> simp
  refine ⟨?_, ?_, ?_, ?_, ?_⟩ <;> (rintro rfl; revert key; decide)

def opener (sh : Nat) : Nat := if sh = 41 then 40 else 91
def lval (sh : Nat) (ds : List PyData) : PyData := if sh = 41 then .tuple ds else .list ds
theorem plain_lval {sh : Nat} {ds : List PyData} (h : PyData.plainAll ds = true) : (lval sh ds).plain = true := by
  unfold lval
  split <;> (unfold PyData.plain; exact h)
structure Rdy (rs : RS) (m : Nat) : Prop where
  ri : RI rs m
  wd : rs.word = []
  en : rs.ended = false
/-- behind m signs a thing is complete -/
structure Cp (rs rs' : RS) (v : PyData) (m : Nat) : Prop where
  ri : RI rs' m
  sg : rs'.signs = rs.signs
  vp : v.plain = true
  wh : (rs'.ended = true ∧ rs'.word = [] ∧ ∃ ds dss, rs.lots = ds :: dss ∧ rs'.lots = (ds ++ [v]) :: dss) ∨
    (rs'.ended = false ∧ rs'.lots = rs.lots ∧ rs'.word ≠ [] ∧ stopW rs'.word = false ∧ valM rs'.word = some v ∧ flatD v = true)
def GlR (C : Addr) (rs : RS) (a : Nat) (x : List Nat) (rs' : RS) : Prop := ∀ rest, runT C (toSt rs) a (x ++ rest) = runT C (toSt rs') (a + x.length) rest
section
variable {C : Addr} {rs rs1 rs2 : RS} {a c m : Nat} {x y : List Nat} {v : PyData}
theorem GlR.nil : GlR C rs a [] rs := fun _ => rfl
theorem GlR.app (h : GlR C rs a x rs1) (k : GlR C rs1 (a + x.length) y rs2) : GlR C rs a (x ++ y) rs2 := fun rest => by
  rw [List.append_assoc, h, k, List.length_append, Nat.add_assoc]
theorem gl1 (ha : a + 1 ≤ 500000) (R : RI rs a) (vd : c = 32 ∨ c = 41 ∨ c = 93 → VD rs) {r : RS} (h : rStep rs c = some r) : GlR C rs a [c] r := fun rest => by
  obtain ⟨st', h1, h2⟩ := rStep_is (C := C) R (by omega) c vd
  show (takesF C (toSt rs) c).bind _ = _
  rw [h1, h, Option.bind_some, h2 r h]
  rfl
theorem step_word {w : List Nat} (he : rs.ended = false) (hw : rs.word = w) (hg : goesOn w c = true) : rStep rs c = some { rs with word := w ++ [c] } := by
  obtain ⟨h1, h2, h3, h4, h5⟩ := goesOn_ok hg
  unfold rStep
  rw [if_neg (by omega), if_neg h1, he, if_neg Bool.false_ne_true, if_neg (by omega), hw, if_pos hg]
theorem gl_word : ∀ (q p : List Nat) (rs : RS) (a : Nat), rs.word = p → rs.ended = false → RI rs a → accAll p q = true → a + q.length ≤ 500000 → GlR C rs a q { rs with word := p ++ q } ∧ RI { rs with word := p ++ q } (a + q.length)
  | [], p, rs, a, hw, he, R, _, _ => by
    have e : ({ rs with word := p ++ [] } : RS) = rs := by rw [List.append_nil, ← hw]
    rw [e]
    exact ⟨GlR.nil, R⟩
  | c :: q, p, rs, a, hw, he, R, hq, hl => by
    rw [accAll, Bool.and_eq_true] at hq
    rw [List.length_cons] at hl
    obtain ⟨n1, n2, n3, n4, n5⟩ := goesOn_ok hq.1
    have s := step_word he hw hq.1
    have g1 : GlR C rs a [c] { rs with word := p ++ [c] } := gl1 (by omega) R (fun z => by omega) s
    have R1 : RI { rs with word := p ++ [c] } (a + 1) := ⟨R.len, Nat.le_succ_of_le R.sg, R.sb, by show (p ++ [c]).length ≤ _; have := R.wd; rw [hw] at this; rw [List.length_append, List.length_singleton]; omega, fun ds hd => ⟨Nat.le_succ_of_le (R.ld ds hd).1, (R.ld ds hd).2⟩, fun z => by
      have z : rs.ended = true := z
      rw [he] at z; cases z⟩
    obtain ⟨g2, R2⟩ := gl_word q (p ++ [c]) { rs with word := p ++ [c] } (a + 1) rfl he R1 hq.2 (by omega)
    have e : p ++ [c] ++ q = p ++ c :: q := by simp
    rw [e] at g2 R2
    refine ⟨?_, by rw [List.length_cons, show a + (q.length + 1) = a + 1 + q.length by omega]; exact R2⟩
    have := g1.app (y := q) g2
    exact this
theorem cp_word {t : List Nat} (R : Rdy rs a) (h1 : accAll [] t = true) (h2 : stopW t = false) (h3 : valM t = some v) (hf : flatD v = true) (hl : a + t.length ≤ 500000) : ∃ rs', GlR C rs a t rs' ∧ Cp rs rs' v (a + t.length) := by
  obtain ⟨g, I⟩ := gl_word (C := C) t [] rs a R.wd R.en R.ri h1 hl
  rw [List.nil_append] at g I
  refine ⟨_, g, I, rfl, flat_plain hf, .inr ⟨R.en, rfl, ?_, h2, h3, hf⟩⟩
  intro e
  have e : t = [] := e
  rw [e] at h2
  cases h2
theorem Cp.vd (h : Cp rs rs1 v m) : VD rs1 := by
  rcases h.wh with ⟨_, hw, _⟩ | ⟨_, _, _, hs, hv, hf⟩
  · intro z; rw [hw] at z; cases z
  · exact fun _ => ⟨v, hv, hf⟩
theorem Cp.ends {found : List PyData} {tl : List (List PyData)} (h : Cp rs rs1 v m) (hl : rs.lots = found :: tl) : rEnds rs1 = some { lots := (found ++ [v]) :: tl, signs := rs.signs, word := [], ended := false } := by
  unfold rEnds
  rcases h.wh with ⟨he, hw, ds, dss, h1, h2⟩ | ⟨he, h1, _, hs, hv, hf⟩
  · rw [hl] at h1
    cases h1
    rw [if_pos he, h2, ← h.sg]
  · rw [if_neg (by rw [he]; exact Bool.false_ne_true), if_neg (by rw [hs]; exact Bool.false_ne_true), hv, h1, hl, ← h.sg]
theorem Cp.space {z : Nat} {zs : List Nat} {found : List PyData} {tl : List (List PyData)} (h : Cp rs rs1 v m) (hl : rs.lots = found :: tl) (hs : rs.signs = z :: zs) : rStep rs1 32 = some { lots := (found ++ [v]) :: tl, signs := rs.signs, word := [], ended := false } := by
  unfold rStep
  rw [if_neg (by decide), if_pos rfl, if_neg (by rw [h.sg, hs]; exact fun z => nomatch z)]
  exact h.ends hl
theorem Cp.shut {sh : Nat} {zs : List Nat} {found es : List PyData} {dss : List (List PyData)} (h : Cp rs rs1 v m) (hsh : sh = 41 ∨ sh = 93) (hl : rs.lots = found :: es :: dss) (hs : rs.signs = opener sh :: zs) :
    rStep rs1 sh = some { lots := (es ++ [lval sh (found ++ [v])]) :: dss, signs := zs, word := [], ended := true } := by
  unfold rStep
  rw [if_pos hsh]
  unfold rShut
  have hE := h.ends hl
  have hs1 : rs1.signs = opener sh :: zs := by rw [h.sg, hs]
  have hl1 : ∃ x t, rs1.lots = x :: t := by
    rcases h.wh with ⟨_, _, ds, dss', _, h2⟩ | ⟨_, h1, _⟩
    · exact ⟨_, _, h2⟩
    · exact ⟨_, _, h1.trans hl⟩
  obtain ⟨x, t, hx⟩ := hl1
  rw [hx, hs1]
  simp only
  rw [if_pos (show opener sh = (if sh = 41 then 40 else 91) from rfl)]
  have hb : (rs1.word == [] && !rs1.ended && x.isEmpty) = false := by
    rcases h.wh with ⟨he, _⟩ | ⟨_, _, hne, _⟩
    · rw [he]; simp
    · rw [beq_eq_false_iff_ne.mpr hne]; rfl
  rw [hb, if_neg Bool.false_ne_true, hE, Option.bind_some]
  unfold rGo
  simp only
  rw [hs]
  rfl
/-- a bracket is opened -/
theorem gl_open {o : Nat} (ho : o = 40 ∨ o = 91) (R : Rdy rs a) (ha : a + 1 ≤ 500000) : GlR C rs a [o] { lots := [] :: rs.lots, signs := o :: rs.signs, word := [], ended := false } ∧ Rdy { lots := [] :: rs.lots, signs := o :: rs.signs, word := [], ended := false } (a + 1) := by
  have s : rStep rs o = some { lots := [] :: rs.lots, signs := o :: rs.signs, word := [], ended := false } := by
    unfold rStep
    rw [if_neg (by omega), if_neg (by omega), R.en, if_neg Bool.false_ne_true, if_pos ⟨R.wd, ho⟩, R.wd]
  refine ⟨gl1 ha R.ri (fun z => by omega) s, ⟨?_, rfl, rfl⟩⟩
  refine ⟨?_, ?_, ?_, Nat.zero_le _, ?_, (fun z => nomatch z)⟩
  · show ([] :: rs.lots).length = (o :: rs.signs).length + 1
    rw [List.length_cons, List.length_cons, R.ri.len]
  · show (o :: rs.signs).length ≤ a + 1
    rw [List.length_cons]; have := R.ri.sg; omega
  · intro z hz
    rcases List.mem_cons.mp hz with rfl | hz
    · exact ho
    · exact R.ri.sb z hz
  · intro ds hd
    rcases List.mem_cons.mp hd with rfl | hd
    · exact ⟨Nat.zero_le _, rfl⟩
    · exact ⟨Nat.le_succ_of_le (R.ri.ld ds hd).1, (R.ri.ld ds hd).2⟩
/-- an empty one -/
theorem cp_empty {sh : Nat} (hsh : sh = 41 ∨ sh = 93) (R : Rdy rs a) (ha : a + 2 ≤ 500000) : ∃ rs', GlR C rs a ([opener sh] ++ [] ++ [sh]) rs' ∧ Cp rs rs' (lval sh []) (a + 2) := by
  have ho : opener sh = 40 ∨ opener sh = 91 := by rcases hsh with rfl | rfl; exact .inl rfl; exact .inr rfl
  obtain ⟨g1, R1⟩ := gl_open (C := C) ho R (by omega)
  obtain ⟨es, dss, hl⟩ : ∃ es dss, rs.lots = es :: dss := by
    have := R.ri.len
    cases h : rs.lots with
    | nil => rw [h] at this; cases this
    | cons x t => exact ⟨x, t, rfl⟩
  have s : rStep { lots := [] :: rs.lots, signs := opener sh :: rs.signs, word := [], ended := false } sh = some { lots := (es ++ [lval sh []]) :: dss, signs := rs.signs, word := [], ended := true } := by
    unfold rStep
    rw [if_pos hsh]
    unfold rShut
    simp only
    rw [if_pos (show opener sh = (if sh = 41 then 40 else 91) from rfl), if_pos (show (([] : List Nat) == [] && !false && ([] : List PyData).isEmpty) = true from rfl)]
    unfold rGo
    rw [hl]
    rfl
  have g2 : GlR C { lots := [] :: rs.lots, signs := opener sh :: rs.signs, word := [], ended := false } (a + 1) [sh] _ := gl1 (by omega) R1.ri (fun _ z => nomatch z) s
  refine ⟨_, g1.app g2, ⟨?_, ?_, ?_, Nat.zero_le _, ?_, fun _ => rfl⟩, rfl, plain_lval rfl, .inl ⟨rfl, rfl, es, dss, hl, rfl⟩⟩
  · have := R.ri.len; rw [hl] at this; exact this
  · exact Nat.le_trans R.ri.sg (by omega)
  · exact R.ri.sb
  · intro ds hd
    rcases List.mem_cons.mp hd with rfl | hd
    · have := R.ri.ld es (by rw [hl]; exact List.mem_cons_self)
      refine ⟨by rw [List.length_append, List.length_singleton]; omega, ?_⟩
      rw [plainAll_app, this.2, PyData.plainAll, plain_lval rfl]
      rfl
    · have := R.ri.ld ds (by rw [hl]; exact List.mem_cons_of_mem _ hd)
      exact ⟨by omega, this.2⟩
/-- a full one -/
theorem cp_shut {sh : Nat} {zs : List Nat} {found es : List PyData} {dss : List (List PyData)} (h : Cp rs rs1 v m) (hm : m + 1 ≤ 500000) (hsh : sh = 41 ∨ sh = 93) (hl : rs.lots = found :: es :: dss) (hs : rs.signs = opener sh :: zs) {r0 : RS} (h0 : r0.lots = es :: dss) (h0s : r0.signs = zs) :
    ∃ rs', GlR C rs1 m [sh] rs' ∧ Cp r0 rs' (lval sh (found ++ [v])) (m + 1) := by
  have s := h.shut hsh hl hs
  have E := h.ends hl
  obtain ⟨RE, _⟩ := rEnds_inv h.ri h.vd E
  have hes : es ∈ rs1.lots ∧ ∀ ds ∈ dss, ds ∈ rs1.lots := by
    rcases h.wh with ⟨_, _, ds, dss', e1, e2⟩ | ⟨_, e1, _⟩
    · rw [hl] at e1; cases e1
      rw [e2]
      exact ⟨by simp, fun ds hd => by simp [hd]⟩
    · rw [e1, hl]
      exact ⟨by simp, fun ds hd => by simp [hd]⟩
  refine ⟨_, gl1 hm h.ri (fun _ => h.vd) s, ⟨?_, ?_, ?_, Nat.zero_le _, ?_, fun _ => rfl⟩, h0s.symm, plain_lval (RE.ld _ List.mem_cons_self).2, .inl ⟨rfl, rfl, es, dss, h0, rfl⟩⟩
  · have := RE.len
    rw [hs] at this
    simp only [List.length_cons] at this ⊢
    omega
  · have := h.ri.sg
    rw [h.sg, hs, List.length_cons] at this
    show zs.length ≤ _
    omega
  · intro z hz
    exact h.ri.sb z (by rw [h.sg, hs]; exact List.mem_cons_of_mem _ hz)
  · intro ds hd
    rcases List.mem_cons.mp hd with rfl | hd
    · have := h.ri.ld es hes.1
      refine ⟨by rw [List.length_append, List.length_singleton]; omega, ?_⟩
      rw [plainAll_app, this.2, PyData.plainAll, plain_lval (RE.ld _ List.mem_cons_self).2]
      rfl
    · have := h.ri.ld ds (hes.2 ds hd)
      exact ⟨by omega, this.2⟩
end
mutual
theorem read_th {C : Addr} : ∀ (w : PyData), okT w = true → ∀ (rs : RS) (a : Nat), Rdy rs a → a + (txT w).length ≤ 500000 → ∃ rs', GlR C rs a (txT w) rs' ∧ Cp rs rs' w (a + (txT w).length)
  | .none, _, rs, a, R, hl => cp_word R (by decide) (by decide) (by rw [txT]; rfl) rfl hl
  | .bool b, _, rs, a, R, hl => by
    refine cp_word R ?_ ?_ ?_ rfl hl <;> (rw [txT]; cases b <;> first | rfl | decide)
  | .int i, h, rs, a, R, hl => by
    obtain ⟨h1, h2, h3, _⟩ := int_acc h
    exact cp_word R h1 h2 h3 rfl hl
  | .str z, h, rs, a, R, hl => by
    obtain ⟨h1, h2, h3⟩ := word_acc (by rw [okT] at h; exact h)
    exact cp_word R h1 h2 h3 rfl hl
  | .dict _, h, _, _, _, _ => by rw [okT] at h; cases h
  | .list ds, h, rs, a, R, hl => by
    rw [okT] at h
    rw [txT] at hl ⊢
    exact read_br (sh := 93) ds h (.inr rfl) rs a R hl
  | .tuple ds, h, rs, a, R, hl => by
    rw [okT] at h
    rw [txT] at hl ⊢
    exact read_br (sh := 41) ds h (.inl rfl) rs a R hl
  termination_by w => (sizeOf w, 0)
  decreasing_by all_goals (simp_wf; try omega)
theorem read_br {C : Addr} {sh : Nat} : ∀ (ds : List PyData), okA ds = true → (sh = 41 ∨ sh = 93) → ∀ (rs : RS) (a : Nat), Rdy rs a → a + ([opener sh] ++ TL.joinL [32] (txA ds) ++ [sh]).length ≤ 500000 →
    ∃ rs', GlR C rs a ([opener sh] ++ TL.joinL [32] (txA ds) ++ [sh]) rs' ∧ Cp rs rs' (lval sh ds) (a + ([opener sh] ++ TL.joinL [32] (txA ds) ++ [sh]).length)
  | [], _, hsh, rs, a, R, hl => by
    rw [txA] at hl ⊢
    exact cp_empty hsh R hl
  | x :: xs, h, hsh, rs, a, R, hl => by
    have ho : opener sh = 40 ∨ opener sh = 91 := by rcases hsh with rfl | rfl; exact .inl rfl; exact .inr rfl
    rw [List.length_append, List.length_append, List.length_singleton, List.length_singleton] at hl
    obtain ⟨g1, R1⟩ := gl_open (C := C) ho R (by omega)
    obtain ⟨es, dss, hlo⟩ : ∃ es dss, rs.lots = es :: dss := by
      have := R.ri.len
      cases h : rs.lots with
      | nil => rw [h] at this; cases this
      | cons x t => exact ⟨x, t, rfl⟩
    obtain ⟨init, last, rsA, rsB, e1, g2, c2, hA, hS⟩ := read_ths (C := C) x xs h _ (a + 1) [] rs.lots (opener sh) rs.signs R1 rfl rfl (by omega)
    rw [List.nil_append] at hA
    obtain ⟨rs', g3, c3⟩ := cp_shut (C := C) c2 (by omega) hsh (by rw [hA, hlo]) hS (r0 := rs) hlo rfl
    have e2 : a + ([opener sh] ++ TL.joinL [32] (txA (x :: xs)) ++ [sh]).length = a + 1 + (TL.joinL [32] (txA (x :: xs))).length + 1 := by
      rw [List.length_append, List.length_append, List.length_singleton, List.length_singleton]; omega
    refine ⟨rs', ?_, ?_⟩
    · refine (g1.app g2).app ?_
      rw [List.length_append, List.length_singleton, ← Nat.add_assoc]
      exact g3
    · rw [e2]
      rw [← e1] at c3
      exact c3
  termination_by ds => (sizeOf ds, 1)
  decreasing_by all_goals (simp_wf; try omega)
theorem read_ths {C : Addr} : ∀ (x : PyData) (xs : List PyData), okA (x :: xs) = true → ∀ (rs : RS) (a : Nat) (found : List PyData) (tl : List (List PyData)) (z : Nat) (zs : List Nat), Rdy rs a → rs.lots = found :: tl → rs.signs = z :: zs → a + (TL.joinL [32] (txA (x :: xs))).length ≤ 500000 →
    ∃ init last rsA rsB, x :: xs = init ++ [last] ∧ GlR C rs a (TL.joinL [32] (txA (x :: xs))) rsB ∧ Cp rsA rsB last (a + (TL.joinL [32] (txA (x :: xs))).length) ∧ rsA.lots = (found ++ init) :: tl ∧ rsA.signs = z :: zs
  | x, [], h, rs, a, found, tl, z, zs, R, hl, hs, hn => by
    rw [okA, Bool.and_eq_true] at h
    have e : TL.joinL [32] (txA [x]) = txT x := by rw [txA, txA]; rfl
    rw [e] at hn ⊢
    obtain ⟨rs', g, c⟩ := read_th (C := C) x h.1 rs a R hn
    exact ⟨[], x, rs, rs', rfl, g, c, by rw [List.append_nil]; exact hl, hs⟩
  | x, y :: ys, h, rs, a, found, tl, z, zs, R, hl, hs, hn => by
    rw [okA, Bool.and_eq_true] at h
    have e : TL.joinL [32] (txA (x :: y :: ys)) = txT x ++ ([32] ++ TL.joinL [32] (txA (y :: ys))) := by rw [txA, txA]; rfl
    rw [e] at hn ⊢
    rw [List.length_append, List.length_append, List.length_singleton] at hn
    obtain ⟨rs', g, c⟩ := read_th (C := C) x h.1 rs a R (by omega)
    have s := c.space hl hs
    obtain ⟨R2, _⟩ := rEnds_inv c.ri c.vd (c.ends hl)
    have g2 : GlR C rs' (a + (txT x).length) [32] _ := gl1 (by omega) c.ri (fun _ => c.vd) s
    obtain ⟨init, last, rsA, rsB, e1, g3, c3, hA, hS⟩ := read_ths (C := C) y ys h.2 _ (a + (txT x).length + 1) (found ++ [x]) tl z zs ⟨R2, rfl, rfl⟩ rfl hs (by omega)
    refine ⟨x :: init, last, rsA, rsB, by rw [e1]; rfl, g.app (g2.app g3), ?_, by rw [hA, List.append_assoc]; rfl, hS⟩
    have e3 : a + (txT x ++ ([32] ++ TL.joinL [32] (txA (y :: ys)))).length = a + (txT x).length + 1 + (TL.joinL [32] (txA (y :: ys))).length := by
      rw [List.length_append, List.length_append, List.length_singleton]; omega
    rw [e3]
    exact c3
  termination_by x xs => (sizeOf (x :: xs), 0)
  decreasing_by all_goals (simp_wf; try omega)
end
theorem rdy0 : Rdy rs0 0 := ⟨⟨rfl, Nat.zero_le _, (fun z h => nomatch h), Nat.zero_le _, (fun ds h => by
  rcases List.mem_cons.mp h with h | h
  · rw [h]; exact ⟨Nat.zero_le _, rfl⟩
  · cases h), (fun z => nomatch z)⟩, rfl, rfl⟩
theorem read_back {C : Addr} {w : PyData} (h : okT w = true) (hl : (txT w).length ≤ 500000) : readF C [.str (tx (txT w))] = some (.tuple [w, .none]) := by
  have hz := sizeLine_eq
  obtain ⟨rs', g, c⟩ := read_th (C := C) w h rs0 0 rdy0 (by omega)
  show (if (tx (txT w)).length ≤ sizeLine then (runT C st0 0 (tx (txT w)).cps.toList).bind (doneF C (tx (txT w))) else none) = _
  rw [tx_len, if_pos (by omega)]
  have e0 : (tx (txT w)).cps.toList = txT w := by simp [tx]
  have e1 : runT C st0 0 (tx (txT w)).cps.toList = some (.inr (toSt rs')) := by
    have := g []
    rw [List.append_nil] at this
    rw [e0]
    exact this
  rw [e1, Option.bind_some]
  have sg : rs'.signs = [] := c.sg
  have E := c.ends (found := []) (tl := []) rfl
  unfold doneF
  have e2 : (toSt rs').signs.isEmpty = true := by
    show (rs'.signs.map one).isEmpty = true
    rw [sg]; rfl
  simp only
  rw [e2, if_pos rfl, rEnds_is c.ri c.vd (by omega), E]
  rfl
end K87

set_option Elab.async false
set_option linter.all false
set_option maxRecDepth 100000
set_option maxHeartbeats 4000000
/-! What the defs on things come to. -/
namespace K87
open PySem PySem.Spec PyProof.Rows L2 Pu
def gT : Nat → List PyData → Option PyData
  | 0 => fun _ => none
  | n + 1 => runF ["thing", "text", "part"] 1 (F__law_thing_text (gT n))
def gIT : Nat → List PyData → Option PyData
  | 0 => fun _ => none
  | n + 1 => runF ["value", "part"] 1 (F_is_thing (runF ["value", "sign"] 1 F_is_paper_word) (gIT n))
def gTo : Nat → List PyData → Option PyData
  | 0 => fun _ => none
  | n + 1 => runF ["thing", "text", "part"] 1 (F_thing_told (gTo n))
def gTh (n : Nat) : List PyData → Option PyData := runF ["thing"] 1 (F_thing_text (gTo n) (gIT n))
def gCp : Nat → List PyData → Option PyData
  | 0 => fun _ => none
  | n + 1 => runF ["thing", "item", "key"] 1 (F__law_copied (gCp n))
theorem txA_map : ∀ ds : List PyData, txA ds = ds.map txT
  | [] => by rw [txA]; rfl
  | d :: ds => by rw [txA, txA_map ds]; rfl
theorem okA_mem : ∀ {ds : List PyData}, okA ds = true → ∀ x ∈ ds, okT x = true
  | y :: ys, h, x, hx => by
    rw [okA, Bool.and_eq_true] at h
    rcases List.mem_cons.mp hx with rfl | hx
    · exact h.1
    · exact okA_mem h.2 x hx
theorem depth_mem : ∀ {ds : List PyData} {n : Nat}, PyData.depthAll ds ≤ n → ∀ x ∈ ds, x.depth ≤ n
  | y :: ys, n, h, x, hx => by
    rw [PyData.depthAll] at h
    rcases List.mem_cons.mp hx with rfl | hx
    · omega
    · exact depth_mem (by omega) x hx
theorem join_len : ∀ ls : List (List Nat), (ls.map (·.length)).sum + ls.length ≤ (TL.joinL [32] ls).length + 1
  | [] => Nat.zero_le _
  | [p] => by simp [TL.joinL]
  | p :: q :: r => by
    have h := join_len (q :: r)
    have e : (TL.joinL [32] (p :: q :: r)).length = p.length + (1 + (TL.joinL [32] (q :: r)).length) := by
      show (p ++ ([32] ++ TL.joinL [32] (q :: r))).length = _
      rw [List.length_append, List.length_append, List.length_singleton]
    rw [e]
    simp only [List.map_cons, List.sum_cons, List.length_cons] at h ⊢
    omega
theorem len_sum : ∀ {ls : List (List Nat)} {l : List Nat}, l ∈ ls → l.length ≤ (ls.map (·.length)).sum
  | m :: ls, l, h => by
    simp only [List.map_cons, List.sum_cons]
    rcases List.mem_cons.mp h with rfl | h
    · omega
    · have := len_sum h; omega
/-- the parts of a text are no longer than it -/
theorem part_len {ds : List PyData} {n : Nat} (h : (TL.joinL [32] (txA ds)).length + 2 ≤ n) : ds.length + 1 ≤ n ∧ ∀ x ∈ ds, (txT x).length ≤ n := by
  have h1 := join_len (txA ds)
  rw [txA_map] at h h1
  rw [List.length_map] at h1
  refine ⟨by omega, fun x hx => ?_⟩
  have h2 := len_sum (List.mem_map_of_mem (f := txT) hx)
  have : ds.length ≥ 1 := List.length_pos_of_mem hx
  omega
theorem br_len (o c : Nat) (m : List Nat) : ([o] ++ m ++ [c]).length = m.length + 2 := by
  rw [List.length_append, List.length_append, List.length_singleton, List.length_singleton]; omega
theorem comp_at {g : List PyData → Option PyData} {f : PyData → PyData} {i : Nat} {ev : Ev} (hi : i < ev.length) {ds : List PyData} (h : ∀ x ∈ ds, g [x] = some (f x)) : compL asOne [i] (fun _ => some true) (fCall g (fCons (fVar i) fNil)) ev ds = some (ds.map f) :=
  compL_map fun x hx => z_call (z_cons (w := x) (by
    unfold fVar
    rw [List.getElem?_set_self hi]
    rfl) rfl) (h x hx)
theorem comp_is {g : List PyData → Option PyData} {f : PyData → PyData} {i : Nat} {ev : Ev} {fit : Ev → Option (List PyData)} (hi : i < ev.length) {ds : List PyData} (hit : fit ev = some ds) (hz : ds.length ≤ sizeLine) (h : ∀ x ∈ ds, g [x] = some (f x)) :
    fComp fit asOne [i] [i] (fun _ => some true) (fCall g (fCons (fVar i) fNil)) ev = some (.list (ds.map f)) := by
  unfold fComp
  rw [hit, Option.bind_some, if_pos hz]
  have hw : i < (wipeE ev [i]).length := by
    show i < ((ev).set i none).length
    rw [List.length_set]; exact hi
  rw [comp_at hw h]
  rfl
theorem asSs_tx : ∀ ls : List (List Nat), asSs (ls.map fun l => PyData.str (tx l)) = some (ls.map tx)
  | [] => rfl
  | l :: ls => by
    show (asSs (ls.map fun l => PyData.str (tx l))).map (tx l :: ·) = _
    rw [asSs_tx ls]
    rfl
theorem join_is {ev : Ev} {f : Ev → Option PyData} {ls : List (List Nat)} (h : f ev = some (.list (ls.map fun l => .str (tx l)))) (hl : (TL.joinL [32] ls).length ≤ 1000000) : fJoin (fC (.str " ")) f ev = some (.str (tx (TL.joinL [32] ls))) := by
  have hsum : ((ls.map tx).map (·.length)).sum + (ls.map tx).length * (" " : Str).length ≤ 16777216 := by
    have e : (ls.map tx).map (·.length) = ls.map (·.length) := by
      rw [List.map_map]
      refine List.map_congr_left fun l _ => ?_
      show (tx l).length = _
      rw [tx_len]
    have := join_len ls
    rw [e, List.length_map]
    show _ + ls.length * 1 ≤ _
    omega
  unfold fJoin
  rw [h]
  show gJoin " " (.list (ls.map fun l => .str (tx l))) = _
  unfold gJoin
  show (asSs (ls.map fun l => PyData.str (tx l))).bind _ = _
  rw [asSs_tx, Option.bind_some, if_pos hsum]
  congr 2
  refine TL.ext_tl ?_
  rw [TL.join_eq, TL.tl_join, List.map_map]
  have e : ls.map (TL.tl ∘ tx) = ls := by
    have : (TL.tl ∘ tx) = id := by funext l; show (tx l).cps.toList = l; simp [tx]
    rw [this, List.map_id]
  rw [e]
  show TL.joinL [32] ls = (tx _).cps.toList
  simp [tx]
theorem br_is {o c : Nat} {zo zc : Str} (ho : zo = tx [o]) (hc : zc = tx [c]) {i : Nat} {ev : Ev} {m : List Nat} (h : fVar i ev = some (.str (tx m))) (hl : m.length ≤ 1000000) : f2 gAdd (f2 gAdd (fC (.str zo)) (fVar i)) (fC (.str zc)) ev = some (.str (tx ([o] ++ m ++ [c]))) := by
  subst ho hc
  have hz := sizeLine_eq
  refine f2_tx (f2_tx rfl h ?_) rfl ?_
  · rw [List.length_singleton]; omega
  · rw [List.length_append, List.length_singleton, List.length_singleton]; omega
theorem gStr_int {i : Int} (h : okT (.int i) = true) : gStr [.int i] = some (.str (tx (txT (.int i)))) := by
  rw [okT, Bool.and_eq_true, decide_eq_true_eq, decide_eq_true_eq] at h
  have hlog : i.natAbs.log2 < 1920 := by
    have h9 : i.natAbs < 2 ^ 110 := by
      have p31 : (10 : Int) ^ 31 = 10000000000000000000000000000000 := by decide +kernel
      rw [p31] at h
      omega
    exact Nat.lt_of_lt_of_le (PySem.Flt.log2_lt_of (by decide) h9) (by decide)
  show (if i.natAbs.log2 < 1920 then some (PyData.str (Str.ofString (toString i))) else none) = _
  rw [if_pos hlog, txT, tx_of]
theorem repl_ok : (wordsX.all fun z => decide (z.length + (z.length + 1) * 1 ≤ 16777216)) = true := by decide +kernel
theorem gRepl_word {z : Str} (h : wordsX.contains z = true) : gRepl " " "_" (.str z) = some (.str (tx (txT (.str z)))) := by
  have hz : z ∈ wordsX := by simpa using h
  have := of_decide_eq_true (List.all_eq_true.mp repl_ok z hz)
  show (if z.length + (z.length + 1) * 1 ≤ 16777216 then _ else none) = _
  rw [if_pos this, txT, tx_of]
/-- the law's text -/
theorem law_text : ∀ (n : Nat) (w : PyData), okT w = true → w.depth ≤ n → (txT w).length ≤ 500000 → gT (n + 1) [w] = some (.str (tx (txT w))) := by
  have hz := sizeLine_eq
  intro n
  induction n with
  | zero =>
    intro w ok hd hl
    cases w with
    | none => rw [txT]; rfl
    | bool b => rw [txT]; cases b <;> rfl
    | int i =>
      refine z_run rfl ?_
      show F__law_thing_text (gT 0) [some (.int i), none, none] = _
      exact z_nx (z_ifF rfl rfl) (z_nx (z_ifF rfl rfl) (z_rt (z_ret (z_ifET rfl (z_call (z_cons rfl rfl) (gStr_int ok))))))
    | str z =>
      refine z_run rfl ?_
      show F__law_thing_text (gT 0) [some (.str z), none, none] = _
      exact z_nx (z_ifF rfl rfl) (z_nx (z_ifF rfl rfl) (z_rt (z_ret (z_ifEF rfl (gRepl_word (by rw [okT] at ok; exact ok))))))
    | list ds => rw [PyData.depth] at hd; omega
    | tuple ds => rw [PyData.depth] at hd; omega
    | dict ps => rw [okT] at ok; cases ok
  | succ n ih =>
    intro w ok hd hl
    have hmap : ∀ ds : List PyData, okA ds = true → PyData.depthAll ds ≤ n → (TL.joinL [32] (txA ds)).length + 2 ≤ 500000 → ∀ u : PyData, (u = .list ds ∨ u = .tuple ds) → fSet 1 (fJoin (fC (.str " ")) (fComp (fIt (fVar 0)) asOne [2] [2] (fun _ => some true) (fCall (gT (n + 1)) (fCons (fVar 2) fNil)))) [some u, none, none] = some (.nx [some u, some (.str (tx (TL.joinL [32] (txA ds)))), none]) := by
      intro ds h1 h2 h3 u hu
      obtain ⟨p1, p2⟩ := part_len h3
      refine z_set (join_is ?_ (by omega))
      rw [comp_is (f := fun x => .str (tx (txT x))) (ds := ds) (by show 2 < 3; decide) (by rcases hu with rfl | rfl <;> rfl) (by omega) fun x hx => ih x (okA_mem h1 x hx) (depth_mem h2 x hx) (p2 x hx), txA_map, List.map_map]
      rfl
    cases w with
    | none => rw [txT]; rfl
    | bool b => rw [txT]; cases b <;> rfl
    | int i =>
      refine z_run rfl ?_
      show F__law_thing_text (gT (n + 1)) [some (.int i), none, none] = _
      exact z_nx (z_ifF rfl rfl) (z_nx (z_ifF rfl rfl) (z_rt (z_ret (z_ifET rfl (z_call (z_cons rfl rfl) (gStr_int ok))))))
    | str z =>
      refine z_run rfl ?_
      show F__law_thing_text (gT (n + 1)) [some (.str z), none, none] = _
      exact z_nx (z_ifF rfl rfl) (z_nx (z_ifF rfl rfl) (z_rt (z_ret (z_ifEF rfl (gRepl_word (by rw [okT] at ok; exact ok))))))
    | list ds =>
      rw [okT] at ok
      rw [PyData.depth] at hd
      rw [txT, br_len] at hl
      rw [txT]
      refine z_run rfl ?_
      show F__law_thing_text (gT (n + 1)) [some (.list ds), none, none] = _
      exact z_rt (z_ifT rfl (z_nx (hmap ds ok (by omega) hl _ (.inl rfl)) (z_rt (z_ret (z_ifEF rfl (br_is (o := 91) (c := 93) rfl rfl rfl (by omega)))))))
    | tuple ds =>
      rw [okT] at ok
      rw [PyData.depth] at hd
      rw [txT, br_len] at hl
      rw [txT]
      refine z_run rfl ?_
      show F__law_thing_text (gT (n + 1)) [some (.tuple ds), none, none] = _
      exact z_rt (z_ifT rfl (z_nx (hmap ds ok (by omega) hl _ (.inr rfl)) (z_rt (z_ret (z_ifET rfl (br_is (o := 40) (c := 41) rfl rfl rfl (by omega)))))))
    | dict ps => rw [okT] at ok; cases ok
/-- the program's -/
theorem told_text : ∀ (n : Nat) (w : PyData), okT w = true → w.depth ≤ n → (txT w).length ≤ 500000 → gTo (n + 1) [w] = some (.str (tx (txT w))) := by
  have hz := sizeLine_eq
  intro n
  induction n with
  | zero =>
    intro w ok hd hl
    cases w with
    | none => rw [txT]; rfl
    | bool b => rw [txT]; cases b <;> rfl
    | int i =>
      refine z_run rfl ?_
      show F_thing_told (gTo 0) [some (.int i), none, none] = _
      exact z_nx (z_ifF rfl rfl) (z_nx (z_ifF rfl rfl) (z_nx (z_ifF rfl rfl) (z_rt (z_ret (z_ifET rfl (z_call (z_cons rfl rfl) (gStr_int ok)))))))
    | str z =>
      refine z_run rfl ?_
      show F_thing_told (gTo 0) [some (.str z), none, none] = _
      exact z_nx (z_ifF rfl rfl) (z_nx (z_ifF rfl rfl) (z_nx (z_ifF rfl rfl) (z_rt (z_ret (z_ifEF rfl (gRepl_word (by rw [okT] at ok; exact ok)))))))
    | list ds => rw [PyData.depth] at hd; omega
    | tuple ds => rw [PyData.depth] at hd; omega
    | dict ps => rw [okT] at ok; cases ok
  | succ n ih =>
    intro w ok hd hl
    have hmap : ∀ ds : List PyData, okA ds = true → PyData.depthAll ds ≤ n → (TL.joinL [32] (txA ds)).length + 2 ≤ 500000 → ∀ u : PyData, (u = .list ds ∨ u = .tuple ds) → fSet 1 (fJoin (fC (.str " ")) (fComp (fIt (fVar 0)) asOne [2] [2] (fun _ => some true) (fCall (gTo (n + 1)) (fCons (fVar 2) fNil)))) [some u, none, none] = some (.nx [some u, some (.str (tx (TL.joinL [32] (txA ds)))), none]) := by
      intro ds h1 h2 h3 u hu
      obtain ⟨p1, p2⟩ := part_len h3
      refine z_set (join_is ?_ (by omega))
      rw [comp_is (f := fun x => .str (tx (txT x))) (ds := ds) (by show 2 < 3; decide) (by rcases hu with rfl | rfl <;> rfl) (by omega) fun x hx => ih x (okA_mem h1 x hx) (depth_mem h2 x hx) (p2 x hx), txA_map, List.map_map]
      rfl
    cases w with
    | none => rw [txT]; rfl
    | bool b => rw [txT]; cases b <;> rfl
    | int i =>
      refine z_run rfl ?_
      show F_thing_told (gTo (n + 1)) [some (.int i), none, none] = _
      exact z_nx (z_ifF rfl rfl) (z_nx (z_ifF rfl rfl) (z_nx (z_ifF rfl rfl) (z_rt (z_ret (z_ifET rfl (z_call (z_cons rfl rfl) (gStr_int ok)))))))
    | str z =>
      refine z_run rfl ?_
      show F_thing_told (gTo (n + 1)) [some (.str z), none, none] = _
      exact z_nx (z_ifF rfl rfl) (z_nx (z_ifF rfl rfl) (z_nx (z_ifF rfl rfl) (z_rt (z_ret (z_ifEF rfl (gRepl_word (by rw [okT] at ok; exact ok)))))))
    | list ds =>
      rw [okT] at ok
      rw [PyData.depth] at hd
      rw [txT, br_len] at hl
      rw [txT]
      refine z_run rfl ?_
      show F_thing_told (gTo (n + 1)) [some (.list ds), none, none] = _
      exact z_rt (z_ifT rfl (z_nx (hmap ds ok (by omega) hl _ (.inl rfl)) (z_rt (z_ret (z_ifEF rfl (br_is (o := 91) (c := 93) rfl rfl rfl (by omega)))))))
    | tuple ds =>
      rw [okT] at ok
      rw [PyData.depth] at hd
      rw [txT, br_len] at hl
      rw [txT]
      refine z_run rfl ?_
      show F_thing_told (gTo (n + 1)) [some (.tuple ds), none, none] = _
      exact z_rt (z_ifT rfl (z_nx (hmap ds ok (by omega) hl _ (.inr rfl)) (z_rt (z_ret (z_ifET rfl (br_is (o := 40) (c := 41) rfl rfl rfl (by omega)))))))
    | dict ps => rw [okT] at ok; cases ok
end K87

set_option Elab.async false
set_option linter.all false
set_option maxRecDepth 100000
set_option maxHeartbeats 4000000
namespace K87
open PySem PySem.Spec PyProof.Rows L2 Pu
/-! ### is_thing -/
def gPW : List PyData → Option PyData := runF ["value", "sign"] 1 F_is_paper_word
def isTrue : Option PyData → Bool
  | some (.bool b) => b
  | _ => false
theorem isTrue_ok {o : Option PyData} (h : isTrue o = true) : o = some (.bool true) := by
  unfold isTrue at h
  split at h
  · rw [h]
  · cases h
theorem words_paper : (wordsX.all fun z => isTrue (gPW [.str z])) = true := by decide +kernel
theorem is_thing_ok : ∀ (n : Nat) (w : PyData), okT w = true → w.depth ≤ n → (txT w).length ≤ 500000 → gIT (n + 1) [w] = some (.bool true) := by
  have hz := sizeLine_eq
  have word : ∀ (n : Nat) (z : Str), wordsX.contains z = true → gIT (n + 1) [.str z] = some (.bool true) := fun n z h => by
    have h1 := isTrue_ok (List.all_eq_true.mp words_paper z (by simpa using h))
    refine z_run rfl ?_
    show F_is_thing gPW (gIT n) [some (.str z), none] = _
    exact z_nx (z_ifF rfl rfl) (z_rt (z_ret (z_orV (a := false) (b := true) rfl (z_orV (a := false) (b := true) rfl (z_call (z_cons rfl rfl) h1)))))
  intro n
  induction n with
  | zero =>
    intro w ok hd hl
    cases w with
    | none => rfl
    | bool b => rfl
    | int i => rfl
    | str z => exact word 0 z (by rw [okT] at ok; exact ok)
    | list ds => rw [PyData.depth] at hd; omega
    | tuple ds => rw [PyData.depth] at hd; omega
    | dict ps => rw [okT] at ok; cases ok
  | succ n ih =>
    intro w ok hd hl
    have hall : ∀ ds : List PyData, okA ds = true → PyData.depthAll ds ≤ n → (TL.joinL [32] (txA ds)).length + 2 ≤ 500000 → ∀ u : PyData, (u = .list ds ∨ u = .tuple ds) → fCall gAll (fCons (fComp (fIt (fVar 0)) asOne [1] [1] (fun _ => some true) (fCall (gIT (n + 1)) (fCons (fVar 1) fNil))) fNil) [some u, none] = some (.bool true) := by
      intro ds h1 h2 h3 u hu
      obtain ⟨p1, p2⟩ := part_len h3
      refine z_call (z_cons (comp_is (f := fun _ => .bool true) (ds := ds) (by show 1 < 2; decide) (by rcases hu with rfl | rfl <;> rfl) (by omega) fun x hx => ih x (okA_mem h1 x hx) (depth_mem h2 x hx) (p2 x hx)) rfl) (all_true ds)
    cases w with
    | none => rfl
    | bool b => rfl
    | int i => rfl
    | str z => exact word (n + 1) z (by rw [okT] at ok; exact ok)
    | list ds =>
      rw [okT] at ok
      rw [PyData.depth] at hd
      rw [txT, br_len] at hl
      refine z_run rfl ?_
      show F_is_thing gPW (gIT (n + 1)) [some (.list ds), none] = _
      exact z_rt (z_ifT rfl (z_rt (z_ret (hall ds ok (by omega) hl _ (.inl rfl)))))
    | tuple ds =>
      rw [okT] at ok
      rw [PyData.depth] at hd
      rw [txT, br_len] at hl
      refine z_run rfl ?_
      show F_is_thing gPW (gIT (n + 1)) [some (.tuple ds), none] = _
      exact z_rt (z_ifT rfl (z_rt (z_ret (hall ds ok (by omega) hl _ (.inr rfl)))))
    | dict ps => rw [okT] at ok; cases ok
theorem thing_text_ok (n : Nat) (w : PyData) (ok : okT w = true) (hd : w.depth ≤ n) (hl : (txT w).length ≤ 500000) : gTh (n + 1) [w] = some (.str (tx (txT w))) := by
  refine z_run rfl ?_
  show F_thing_text (gTo (n + 1)) (gIT (n + 1)) [some w] = _
  exact z_nx (z_ifF (z_not (z_T (z_call (z_cons rfl rfl) (is_thing_ok n w ok hd hl)))) rfl) (z_rt (z_ret (z_call (z_cons rfl rfl) (told_text n w ok hd hl))))
/-! ### a copy -/
theorem copied_ok : ∀ (n : Nat) (w : PyData), okT w = true → w.depth ≤ n → (txT w).length ≤ 500000 → gCp (n + 1) [w] = some w := by
  have hz := sizeLine_eq
  intro n
  induction n with
  | zero =>
    intro w ok hd hl
    cases w with
    | none => rfl
    | bool b => rfl
    | int i => rfl
    | str z => rfl
    | list ds => rw [PyData.depth] at hd; omega
    | tuple ds => rw [PyData.depth] at hd; omega
    | dict ps => rw [okT] at ok; cases ok
  | succ n ih =>
    intro w ok hd hl
    have hall : ∀ ds : List PyData, okA ds = true → PyData.depthAll ds ≤ n → (TL.joinL [32] (txA ds)).length + 2 ≤ 500000 → ∀ u : PyData, (u = .list ds ∨ u = .tuple ds) → fComp (fIt (fVar 0)) asOne [1] [1] (fun _ => some true) (fCall (gCp (n + 1)) (fCons (fVar 1) fNil)) [some u, none, none] = some (.list ds) := by
      intro ds h1 h2 h3 u hu
      obtain ⟨p1, p2⟩ := part_len h3
      rw [comp_is (f := fun x => x) (ds := ds) (by show 1 < 3; decide) (by rcases hu with rfl | rfl <;> rfl) (by omega) fun x hx => ih x (okA_mem h1 x hx) (depth_mem h2 x hx) (p2 x hx), List.map_id']
    cases w with
    | none => rfl
    | bool b => rfl
    | int i => rfl
    | str z => rfl
    | list ds =>
      rw [okT] at ok
      rw [PyData.depth] at hd
      rw [txT, br_len] at hl
      refine z_run rfl ?_
      show F__law_copied (gCp (n + 1)) [some (.list ds), none, none] = _
      exact z_rt (z_ifT rfl (z_rt (z_ret (hall ds ok (by omega) hl _ (.inl rfl)))))
    | tuple ds =>
      rw [okT] at ok
      rw [PyData.depth] at hd
      rw [txT, br_len] at hl
      refine z_run rfl ?_
      show F__law_copied (gCp (n + 1)) [some (.tuple ds), none, none] = _
      exact z_nx (z_ifF rfl rfl) (z_rt (z_ifT rfl (z_rt (z_ret (z_call (z_cons (hall ds ok (by omega) hl _ (.inr rfl)) rfl) rfl)))))
    | dict ps => rw [okT] at ok; cases ok
/-! ### printable -/
def prT (c : Nat) : Prop := 32 ≤ c ∧ c ≤ 126
theorem words_pr : (wordsX.all fun z => (Txt.replace z " " "_").cps.toList.all fun c => decide (32 ≤ c) && decide (c ≤ 126)) = true := by decide +kernel
mutual
theorem txT_pr : ∀ w, okT w = true → ∀ c ∈ txT w, prT c
  | .none, _, c, h => by rw [txT] at h; cases List.mem_singleton.mp h; exact ⟨by decide, by decide⟩
  | .bool b, _, c, h => by rw [txT] at h; cases b <;> (cases List.mem_singleton.mp h; exact ⟨by decide, by decide⟩)
  | .int i, _, c, h => by
    rw [txT] at h
    cases i with
    | ofNat n =>
      have e : (Str.ofString (toString (Int.ofNat n))).cps.toList = TL.numL n := ofs_nat n
      rw [e] at h
      have := TL.numL_digits n c h
      exact ⟨by omega, by omega⟩
    | negSucc n =>
      rw [ofs_neg] at h
      rcases List.mem_cons.mp h with rfl | h
      · exact ⟨by decide, by decide⟩
      · have := TL.numL_digits _ c h
        exact ⟨by omega, by omega⟩
  | .str z, ok, c, h => by
    rw [okT] at ok
    rw [txT] at h
    have h1 := List.all_eq_true.mp (List.all_eq_true.mp words_pr z (by simpa using ok)) c h
    rw [Bool.and_eq_true] at h1
    exact ⟨of_decide_eq_true h1.1, of_decide_eq_true h1.2⟩
  | .list ds, ok, c, h => by
    rw [okT] at ok
    rw [txT] at h
    rcases List.mem_append.mp h with h | h
    · rcases List.mem_append.mp h with h | h
      · cases List.mem_singleton.mp h; exact ⟨by decide, by decide⟩
      · exact txA_pr ds ok c h
    · cases List.mem_singleton.mp h; exact ⟨by decide, by decide⟩
  | .tuple ds, ok, c, h => by
    rw [okT] at ok
    rw [txT] at h
    rcases List.mem_append.mp h with h | h
    · rcases List.mem_append.mp h with h | h
      · cases List.mem_singleton.mp h; exact ⟨by decide, by decide⟩
      · exact txA_pr ds ok c h
    · cases List.mem_singleton.mp h; exact ⟨by decide, by decide⟩
  | .dict _, ok, _, _ => by rw [okT] at ok; cases ok
theorem txA_pr : ∀ ds, okA ds = true → ∀ c ∈ TL.joinL [32] (txA ds), prT c
  | [], _, c, h => by rw [txA] at h; cases h
  | [x], ok, c, h => by
    rw [okA, Bool.and_eq_true] at ok
    rw [txA, txA] at h
    exact txT_pr x ok.1 c h
  | x :: y :: ys, ok, c, h => by
    rw [okA, Bool.and_eq_true] at ok
    have e : TL.joinL [32] (txA (x :: y :: ys)) = txT x ++ ([32] ++ TL.joinL [32] (txA (y :: ys))) := by rw [txA, txA]; rfl
    rw [e] at h
    rcases List.mem_append.mp h with h | h
    · exact txT_pr x ok.1 c h
    · rcases List.mem_append.mp h with h | h
      · cases List.mem_singleton.mp h; exact ⟨by decide, by decide⟩
      · exact txA_pr (y :: ys) ok.2 c h
end
/-! ### read_thing -/
def gChk : List PyData → Option PyData := runF ["text", "sign"] 1 F_check_row
def gRd (C : Addr) : List PyData → Option PyData := runF ["text", "found", "at"] 1 (F_read_thing (readF C) gChk)
theorem check_ok {l : List Nat} (h : ∀ c ∈ l, prT c) (hl : l.length ≤ 1000000) : gChk [.str (tx l)] = some .none := by
  have hz := sizeLine_eq
  have hc : fComp (fIt (fVar 0)) asOne [1] [1] (fun _ => some true) (fB (fChain gLe gLe (fC (.str " ")) (fVar 1) (fC (.str "~")))) [some (.str (tx l)), none] = some (.list (l.map fun c => .bool true)) := by
    unfold fComp
    have hit : fIt (fVar 0) [some (PyData.str (tx l)), none] = some (l.map fun c => .str (one c)) := by
      show some (Pu.signs (tx l)) = _
      unfold Pu.signs
      have e : (tx l).cps.toList = l := by simp [tx]
      rw [e]
      rfl
    rw [hit, Option.bind_some, if_pos (by rw [List.length_map]; omega)]
    have key : ∀ m : List Nat, (∀ c ∈ m, prT c) → compL asOne [1] (fun _ => some true) (fB (fChain gLe gLe (fC (.str " ")) (fVar 1) (fC (.str "~")))) (wipeE [some (.str (tx l)), none] [1]) (m.map fun c => .str (one c)) = some (m.map fun c => .bool true) := by
      intro m hm
      induction m with
      | nil => rfl
      | cons c m ih =>
        have h1 := hm c List.mem_cons_self
        have e1 : fB (fChain gLe gLe (fC (.str " ")) (fVar 1) (fC (.str "~"))) ((wipeE [some (.str (tx l)), none] [1]).set 1 (some (.str (one c)))) = some (.bool true) := by
          refine z_B ?_
          rw [chain_one (a := 32) (b := 126) (c := c) " " "~" rfl rfl rfl, decide_eq_true h1.1, decide_eq_true h1.2]
          rfl
        show ((fB (fChain gLe gLe (fC (.str " ")) (fVar 1) (fC (.str "~"))) ((wipeE [some (.str (tx l)), none] [1]).set 1 (some (.str (one c))))).bind fun y => (compL asOne [1] (fun _ => some true) (fB (fChain gLe gLe (fC (.str " ")) (fVar 1) (fC (.str "~")))) (wipeE [some (.str (tx l)), none] [1]) (m.map fun c => .str (one c))).bind fun ys => some (y :: ys)) = _
        rw [e1, ih fun x hx => hm x (List.mem_cons_of_mem _ hx)]
        rfl
    rw [key l h]
    rfl
  have hall : fCall gAll (fCons (fComp (fIt (fVar 0)) asOne [1] [1] (fun _ => some true) (fB (fChain gLe gLe (fC (.str " ")) (fVar 1) (fC (.str "~"))))) fNil) [some (.str (tx l)), none] = some (.bool true) := by
    refine z_call (z_cons hc rfl) ?_
    have e : (l.map fun _ => PyData.bool true) = ((l.map fun c => PyData.int (c : Nat)).map fun _ => PyData.bool true) := by rw [List.map_map]; rfl
    rw [e]
    exact all_true _
  have hF : F_check_row [some (.str (tx l)), none] = some (.nx [some (.str (tx l)), none]) := by
    exact z_nx (z_ifF (z_orF rfl (z_not (z_T hall))) rfl) rfl
  unfold gChk runF
  rw [if_pos (show [PyData.str (tx l)].length = 1 from rfl)]
  show (F_check_row [some (.str (tx l)), none]).bind _ = _
  rw [hF]
  rfl
theorem read_ok {C : Addr} {w : PyData} (ok : okT w = true) (hl : (txT w).length ≤ 500000) : gRd C [.str (tx (txT w))] = some w := by
  refine z_run rfl ?_
  show F_read_thing (readF C) gChk [some (.str (tx (txT w))), none, none] = _
  have h1 := check_ok (txT_pr w ok) (by omega)
  have h2 := read_back (C := C) ok hl
  refine z_nx (ev' := [some (.str (tx (txT w))), none, none]) ?_ (z_nx (ev' := [some (.str (tx (txT w))), some w, some .none]) ?_ (z_nx (z_ifF rfl rfl) (z_rt (z_ret rfl))))
  · unfold fExp
    rw [z_call (z_cons rfl rfl) h1]
    rfl
  · unfold fAsg
    rw [z_call (z_cons rfl rfl) h2]
    rfl
end K87

set_option Elab.async false
set_option linter.all false
set_option maxRecDepth 100000
set_option maxHeartbeats 4000000
/-! Rows: their texts. -/
namespace K87
open PySem PySem.Spec PyProof.Rows L2 Pu
abbrev SI := Str × Int
def rowD (n : Int) (ps : List SI) : PyData := .tuple [.int n, .tuple (ps.map siD)]
def names7 : List Str := ["a", "b@", "?0", "?1", "x", "x@", "zabcdefg"]
/-- a form of the law's -/
structure RowOk (n : Int) (ps : List SI) : Prop where
  nm : ∀ p ∈ ps, p.1 ∈ names7
  nz : ∀ p ∈ ps, p.2 ≠ 0
  bd : ∀ p ∈ ps, -100000 ≤ p.2 ∧ p.2 ≤ 100000
  nb : -100000 ≤ n ∧ n ≤ 100000
  srt : ps.Pairwise fun p q => p.1.cps.toList < q.1.cps.toList
  ln : ps.length ≤ 7
def sdP (sg : Int) (ps : List SI) : List SI := (ps.filter fun p => decide (0 < p.2 * sg)).map fun p => (p.1, (p.2.natAbs : Int))
def sdN (sg n : Int) : Int := if 0 < n * sg then (n.natAbs : Int) else 0
theorem abs_nat (i : Int) : (if i < 0 then -i else i) = (i.natAbs : Int) := by split <;> omega
theorem gAbs_int (i : Int) : gAbs [.int i] = some (.int (i.natAbs : Int)) := by
  show some (PyData.int (if i < 0 then -i else i)) = _
  rw [abs_nat]
theorem gMul_ok {i j : Int} (h : -1000000 ≤ i ∧ i ≤ 1000000) (k : -1000000 ≤ j ∧ j ≤ 1000000) : gMul (.int i) (.int j) = some (.int (i * j)) := by
  have h1 : i.natAbs.log2 < 20 := PySem.Flt.log2_lt_of (by decide) (by omega)
  have h2 : j.natAbs.log2 < 20 := PySem.Flt.log2_lt_of (by decide) (by omega)
  show (if decide (i.natAbs.log2 + j.natAbs.log2 < 1000000) = true then some (PyData.int (i * j)) else none) = _
  rw [if_pos (decide_eq_true (by omega))]
theorem gMul_sg {i sg : Int} (hs : sg = 1 ∨ sg = -1) (h : -100000 ≤ i ∧ i ≤ 100000) : gMul (.int i) (.int sg) = some (.int (i * sg)) := gMul_ok (by omega) (by omega)
/-! ### comprehensions over pairs -/
theorem compL_si {ft : Ev → Option Bool} {fe : Ev → Option PyData} {ev : Ev} {i j : Nat} {t : SI → Bool} {e : SI → PyData} : ∀ {ps : List SI}, (∀ p ∈ ps, ft ((ev.set i (some (.str p.1))).set j (some (.int p.2))) = some (t p)) → (∀ p ∈ ps, t p = true → fe ((ev.set i (some (.str p.1))).set j (some (.int p.2))) = some (e p)) →
    compL (asTup 2) [i, j] ft fe ev (ps.map siD) = some ((ps.filter t).map e)
  | [], _, _ => rfl
  | p :: ps, h1, h2 => by
    have ih := compL_si (ps := ps) (fun q hq => h1 q (List.mem_cons_of_mem _ hq)) fun q hq => h2 q (List.mem_cons_of_mem _ hq)
    have a1 := h1 p List.mem_cons_self
    show (ft ((ev.set i (some (.str p.1))).set j (some (.int p.2)))).bind _ = _
    rw [a1, Option.bind_some]
    cases ht : t p with
    | true =>
      rw [if_pos rfl]
      show (fe ((ev.set i (some (.str p.1))).set j (some (.int p.2)))).bind _ = _
      rw [h2 p List.mem_cons_self ht, Option.bind_some, ih, List.filter_cons_of_pos ht]
      rfl
    | false =>
      rw [if_neg Bool.false_ne_true, ih, List.filter_cons_of_neg (by rw [ht]; exact Bool.false_ne_true)]
theorem comp_si {fit : Ev → Option (List PyData)} {ft : Ev → Option Bool} {fe : Ev → Option PyData} {ev : Ev} {i j : Nat} {t : SI → Bool} {e : SI → PyData} {ps : List SI} (hit : fit ev = some (ps.map siD)) (hz : ps.length ≤ 1000) (h1 : ∀ p ∈ ps, ft (((wipeE ev [i, j]).set i (some (.str p.1))).set j (some (.int p.2))) = some (t p)) (h2 : ∀ p ∈ ps, t p = true → fe (((wipeE ev [i, j]).set i (some (.str p.1))).set j (some (.int p.2))) = some (e p)) :
    fComp fit (asTup 2) [i, j] [i, j] ft fe ev = some (.list ((ps.filter t).map e)) := by
  have hz2 := sizeLine_eq
  unfold fComp
  rw [hit, Option.bind_some, if_pos (by rw [List.length_map]; omega), compL_si h1 h2]
  rfl
theorem filter_true {α : Type} (l : List α) : l.filter (fun _ => true) = l := List.filter_eq_self.mpr fun _ _ => rfl
/-! ### the sides -/
def gSide : List PyData → Option PyData := runF ["form", "sign", "pairs", "name", "factor"] 2 F_side_of
theorem gGt_0 (i : Int) : gGt (.int i) (.int 0) = some (decide (0 < i)) := rfl
theorem side_ok {n sg : Int} {ps : List SI} (hs : sg = 1 ∨ sg = -1) (R : RowOk n ps) : gSide [rowD n ps, .int sg] = some (rowD (sdN sg n) (sdP sg ps)) := by
  have hln := R.ln
  refine z_run rfl ?_
  show F_side_of [some (rowD n ps), some (.int sg), none, none, none] = _
  have hc : fComp (fIt (f2 gIx (fVar 0) (fC (.int 1)))) (asTup 2) [3, 4] [3, 4] (f2T gGt (f2 gMul (fVar 4) (fVar 1)) (fC (.int 0))) (fTup (fCons (fVar 3) (fCons (fCall gAbs (fCons (fVar 4) fNil)) fNil))) [some (rowD n ps), some (.int sg), none, none, none] = some (.list ((sdP sg ps).map siD)) := by
    rw [comp_si (t := fun p => decide (0 < p.2 * sg)) (e := fun p => siD (p.1, (p.2.natAbs : Int))) rfl (by omega)]
    · unfold sdP
      rw [List.map_map]
      rfl
    · intro p hp
      exact z_2T (z_2 rfl rfl (gMul_sg hs (R.bd p hp))) rfl (gGt_0 _)
    · intro p hp _
      exact z_tup (z_cons rfl (z_cons (z_call (z_cons rfl rfl) (gAbs_int _)) rfl)) (by show 2 ≤ sizeLine; decide)
  refine z_nx (z_set (z_call (z_cons hc rfl) rfl)) (z_rt (z_ret (z_tup (z_cons (w := .int (sdN sg n)) ?_ (z_cons rfl rfl)) (by show 2 ≤ sizeLine; decide))))
  have hm := gMul_sg hs R.nb
  unfold sdN
  by_cases h : 0 < n * sg
  · rw [if_pos h]
    refine z_ifET (z_2T (z_2 rfl rfl hm) rfl (by rw [gGt_0, decide_eq_true h])) (z_call (z_cons rfl rfl) (gAbs_int n))
  · rw [if_neg h]
    exact z_ifEF (z_2T (z_2 rfl rfl hm) rfl (by rw [gGt_0, decide_eq_false h])) rfl
end K87

set_option Elab.async false
set_option linter.all false
set_option maxRecDepth 100000
set_option maxHeartbeats 4000000
namespace K87
open PySem PySem.Spec PyProof.Rows L2 Pu
/-- one side of a row -/
structure SideOk (m : Int) (qs : List SI) : Prop where
  nm : ∀ p ∈ qs, p.1 ∈ names7
  bd : ∀ p ∈ qs, 1 ≤ p.2 ∧ p.2 ≤ 100000
  mb : 0 ≤ m ∧ m ≤ 100000
  srt : qs.Pairwise fun p q => p.1.cps.toList < q.1.cps.toList
  ln : qs.length ≤ 7
theorem RowOk.side {n sg : Int} {ps : List SI} (R : RowOk n ps) (hs : sg = 1 ∨ sg = -1) : SideOk (sdN sg n) (sdP sg ps) := by
  have mem : ∀ p ∈ sdP sg ps, ∃ q ∈ ps, p = (q.1, (q.2.natAbs : Int)) := fun p hp => by
    obtain ⟨q, hq, rfl⟩ := List.mem_map.mp hp
    exact ⟨q, (List.mem_filter.mp hq).1, rfl⟩
  refine ⟨fun p hp => ?_, fun p hp => ?_, ?_, ?_, ?_⟩
  · obtain ⟨q, hq, rfl⟩ := mem p hp
    exact R.nm q hq
  · obtain ⟨q, hq, rfl⟩ := mem p hp
    have h1 := R.nz q hq
    have h2 := R.bd q hq
    simp only
    omega
  · have := R.nb
    unfold sdN
    split <;> omega
  · unfold sdP
    rw [List.pairwise_map]
    exact R.srt.filter _
  · unfold sdP
    rw [List.length_map]
    exact Nat.le_trans (List.length_filter_le _ _) R.ln
def termL (p : SI) : List Nat := if p.2 = 1 then p.1.cps.toList else TL.numL p.2.natAbs ++ [32] ++ p.1.cps.toList
def partsL (m : Int) (qs : List SI) : List (Int × List Nat) := qs.map (fun p => (p.2, termL p)) ++ if m ≠ 0 ∨ qs = [] then [(m, TL.numL m.natAbs)] else []
def partD (x : Int × List Nat) : PyData := .tuple [.int x.1, .str (tx x.2)]
def tailL (xs : List (Int × List Nat)) : List Nat := xs.flatMap fun x => [32, 43, 32] ++ x.2
def sideL (m : Int) (qs : List SI) : List Nat := TL.joinL [32, 43, 32] ((partsL m qs).map (·.2))
theorem names_len : (names7.all fun z => decide (z.cps.toList.length ≤ 8)) = true := by decide +kernel
theorem name_len {z : Str} (h : z ∈ names7) : z.cps.toList.length ≤ 8 := of_decide_eq_true (List.all_eq_true.mp names_len z h)
theorem num_len {i : Int} (h : 0 ≤ i ∧ i ≤ 100000) : (TL.numL i.natAbs).length ≤ 6 := TL.numL_len (by decide) (by omega)
theorem tx_num {i : Int} (h : 0 ≤ i) : tx (TL.numL i.natAbs) = Str.ofString (toString ((i.natAbs : Nat) : Int)) := by rw [← ofs_nat, tx_of]
theorem gStr_abs {i : Int} (h : -100000 ≤ i ∧ i ≤ 100000) : gStr [.int (i.natAbs : Int)] = some (.str (tx (TL.numL i.natAbs))) := by
  have hl : ((i.natAbs : Nat) : Int).natAbs.log2 < 1920 := Nat.lt_of_lt_of_le (PySem.Flt.log2_lt_of (k := 20) (by decide) (by omega)) (by decide)
  show (if ((i.natAbs : Nat) : Int).natAbs.log2 < 1920 then some (PyData.str (Str.ofString (toString ((i.natAbs : Nat) : Int)))) else none) = _
  rw [if_pos hl, ← ofs_nat, tx_of]
theorem parts_ok {m : Int} {qs : List SI} (S : SideOk m qs) : (∀ x ∈ partsL m qs, 0 ≤ x.1 ∧ x.2.length ≤ 15) ∧ (partsL m qs).length ≤ 8 ∧ partsL m qs ≠ [] := by
  refine ⟨fun x hx => ?_, ?_, ?_⟩
  · rcases List.mem_append.mp hx with h | h
    · obtain ⟨p, hp, rfl⟩ := List.mem_map.mp h
      have h1 := S.bd p hp
      have h2 := name_len (S.nm p hp)
      have h3 := num_len (i := p.2) (by omega)
      refine ⟨by simp only; omega, ?_⟩
      unfold termL
      split
      · simp only; omega
      · simp only [List.length_append, List.length_singleton]; omega
    · split at h
      · cases List.mem_singleton.mp h
        have := num_len S.mb
        exact ⟨S.mb.1, by simp only; omega⟩
      · cases h
  · have := S.ln
    unfold partsL
    rw [List.length_append, List.length_map]
    split <;> simp <;> omega
  · unfold partsL
    cases qs with
    | nil => simp
    | cons p qs => simp
theorem join_tail : ∀ (x : Int × List Nat) (xs : List (Int × List Nat)), TL.joinL [32, 43, 32] ((x :: xs).map (·.2)) = x.2 ++ tailL xs
  | x, [] => by simp [TL.joinL, tailL]
  | x, y :: ys => by
    have e : TL.joinL [32, 43, 32] ((x :: y :: ys).map (·.2)) = x.2 ++ ([32, 43, 32] ++ TL.joinL [32, 43, 32] ((y :: ys).map (·.2))) := rfl
    rw [e, join_tail y ys]
    unfold tailL
    rw [List.flatMap_cons]
    simp
theorem tail_len : ∀ (xs : List (Int × List Nat)), (∀ x ∈ xs, x.2.length ≤ 15) → (tailL xs).length ≤ 18 * xs.length
  | [], _ => Nat.zero_le _
  | x :: xs, h => by
    have ih := tail_len xs fun y hy => h y (List.mem_cons_of_mem _ hy)
    have h1 := h x List.mem_cons_self
    unfold tailL at ih ⊢
    rw [List.flatMap_cons, List.length_append, List.length_append, List.length_cons]
    simp only [List.length_cons, List.length_nil]
    omega
/-! ### term_text -/
def gTerm : List PyData → Option PyData := runF ["name", "factor"] 2 F_term_text
theorem gIn_one {f : Int} (h : 1 ≤ f) : gInD (.int f) (.tuple [.int 1, .int (-1)]) = some (decide (f = 1)) := by
  show some ([PyData.int 1, .int (-1)].any fun y => eqD y (.int f)) = _
  show some (((1 : Int) == f) || (((-1 : Int) == f) || false)) = _
  have h1 : ((-1 : Int) == f) = false := beq_eq_false_iff_ne.mpr (by omega)
  rw [h1]
  by_cases e : f = 1
  · subst e; rfl
  · rw [decide_eq_false e, beq_eq_false_iff_ne.mpr (Ne.symm e)]; rfl
theorem term_at {f : Int} {z : Str} (hz : z ∈ names7) (hf : 1 ≤ f ∧ f ≤ 100000) {ev : Ev} {i j : Nat} (h0 : fVar i ev = some (.str z)) (h1 : fVar j ev = some (.int f)) :
    f2 gAdd (f2 gAdd (fCall gStr (fCons (fCall gAbs (fCons (fVar j) fNil)) fNil)) (fC (.str " "))) (fVar i) ev = some (.str (tx (TL.numL f.natAbs ++ [32] ++ z.cps.toList))) := by
  have hl := sizeLine_eq
  have h2 := name_len hz
  have h3 := num_len (i := f) (by omega)
  refine f2_tx (f2_tx (a := TL.numL f.natAbs) (b := [32]) (z_call (z_cons (z_call (z_cons h1 rfl) (gAbs_int f)) rfl) (gStr_abs (by omega))) rfl ?_) (b := z.cps.toList) ?_ ?_
  · rw [List.length_singleton]; omega
  · rw [tx_of]; exact h0
  · rw [List.length_append, List.length_singleton]; omega
theorem term_ok {f : Int} {z : Str} (hz : z ∈ names7) (hf : 1 ≤ f ∧ f ≤ 100000) : gTerm [.str z, .int f] = some (.str (tx (termL (z, f)))) := by
  refine z_run rfl ?_
  show F_term_text [some (.str z), some (.int f)] = _
  have hin : f2T gInD (fVar 1) (fTup (fCons (fC (.int 1)) (fCons (fNeg (fC (.int 1))) fNil))) [some (.str z), some (.int f)] = some (decide (f = 1)) := z_2T rfl (z_tup (z_cons rfl (z_cons rfl rfl)) (by show 2 ≤ sizeLine; decide)) (gIn_one hf.1)
  unfold termL
  by_cases e : f = 1
  · rw [decide_eq_true e] at hin
    rw [if_pos e, tx_of]
    exact z_rt (z_ret (z_ifET hin rfl))
  · rw [decide_eq_false e] at hin
    rw [if_neg e]
    exact z_rt (z_ret (z_ifEF hin (term_at hz hf rfl rfl)))
/-! ### the loop that glues -/
def glueB (i j : Nat) : Ev → Option Out := fSeq (fSet 4 (f2 gAdd (f2 gAdd (fVar 4) (fIf (f2T gLt (fVar i) (fC (.int 0))) (fC (.str " - ")) (fC (.str " + ")))) (fVar j))) fNext
theorem fVar_set {ev : Ev} {i : Nat} {w : PyData} (h : i < ev.length) : fVar i (ev.set i (some w)) = some w := by
  unfold fVar
  rw [List.getElem?_set_self h]
  rfl
theorem fVar_set_ne {ev : Ev} {i j : Nat} {o : Option PyData} (h : i ≠ j) : fVar j (ev.set i o) = fVar j ev := by
  unfold fVar
  rw [List.getElem?_set_ne h]
theorem glue_ok {i j : Nat} (hij : i ≠ j) (h4i : i ≠ 4) (h4j : j ≠ 4) : ∀ (xs : List (Int × List Nat)) (ev : Ev) (acc : List Nat), i < ev.length → j < ev.length → 4 < ev.length → fVar 4 ev = some (.str (tx acc)) → (∀ x ∈ xs, 0 ≤ x.1) → acc.length + (tailL xs).length ≤ 1000000 →
    ∃ ev', forL (asTup 2) [i, j] (glueB i j) (xs.map partD) ev = some (.nx ev') ∧ fVar 4 ev' = some (.str (tx (acc ++ tailL xs)))
  | [], ev, acc, _, _, _, h, _, _ => ⟨ev, rfl, by show _ = some (PyData.str (tx (acc ++ []))); rw [List.append_nil]; exact h⟩
  | x :: xs, ev, acc, hi, hj, h4, h, hp, hl => by
    have hz := sizeLine_eq
    have el : tailL (x :: xs) = [32, 43, 32] ++ x.2 ++ tailL xs := by unfold tailL; rw [List.flatMap_cons]
    rw [el, List.length_append, List.length_append] at hl
    have l3 : ([32, 43, 32] : List Nat).length = 3 := rfl
    have e1 : fVar 4 ((ev.set i (some (.int x.1))).set j (some (.str (tx x.2)))) = some (.str (tx acc)) := by rw [fVar_set_ne h4j, fVar_set_ne h4i]; exact h
    have e2 : fVar i ((ev.set i (some (.int x.1))).set j (some (.str (tx x.2)))) = some (.int x.1) := by rw [fVar_set_ne (Ne.symm hij), fVar_set hi]
    have e3 : fVar j ((ev.set i (some (.int x.1))).set j (some (.str (tx x.2)))) = some (.str (tx x.2)) := fVar_set (by rw [List.length_set]; exact hj)
    have hx := hp x List.mem_cons_self
    have s : glueB i j ((ev.set i (some (.int x.1))).set j (some (.str (tx x.2)))) = some (.nx (((ev.set i (some (.int x.1))).set j (some (.str (tx x.2)))).set 4 (some (.str (tx (acc ++ [32, 43, 32] ++ x.2)))))) := by
      refine z_nx (z_set ?_) rfl
      refine f2_tx (f2_tx e1 (b := [32, 43, 32]) (z_ifEF (z_2T e2 rfl ?_) rfl) ?_) e3 ?_
      · show some (decide (x.1 < 0)) = _
        rw [decide_eq_false (by omega)]
      · omega
      · rw [List.length_append]; omega
    obtain ⟨ev', g1, g2⟩ := glue_ok hij h4i h4j xs (((ev.set i (some (.int x.1))).set j (some (.str (tx x.2)))).set 4 (some (.str (tx (acc ++ [32, 43, 32] ++ x.2))))) (acc ++ [32, 43, 32] ++ x.2) (by simp; exact hi) (by simp; exact hj) (by simp; exact h4) (fVar_set (by simp; exact h4)) (fun y hy => hp y (List.mem_cons_of_mem _ hy)) (by rw [List.length_append, List.length_append]; omega)
    refine ⟨ev', ?_, by rw [g2, el]; simp⟩
    show ((glueB i j ((ev.set i (some (.int x.1))).set j (some (.str (tx x.2)))))).bind _ = _
    rw [s]
    exact g1
/-! ### form_told -/
def gForm : List PyData → Option PyData := runF ["form", "terms", "name", "factor", "found", "text"] 1 (F_form_told gTerm)
theorem z_ownLc {f : Ev → Option PyData} {G : Ev → Option OutB} {ev : Ev} {i : Nat} {w : PyData} {o : OutB} {o' : Out} (h : f ev = some w) (hi : i < ev.length) (k : G (ev.set i (some w)) = some o) (e : outB i o = some o') : fOwnLc i f G ev = some o' := by
  unfold fOwnLc
  rw [h, Option.bind_some, if_pos hi, k]
  exact e
theorem y_pure {F : Ev → Option Out} {ev : Ev} {w : PyData} (h : F ev = some (.rt w)) : fPureB F ev = some (.rt w) := by unfold fPureB; rw [h]; rfl
theorem cut_tail {α : Type} (x : α) (xs : List α) : cutL (x :: xs) (some 1) none = xs := by
  unfold cutL
  have e1 : HT.sIx (x :: xs).length 0 (some 1) = 1 := by
    simp [HT.sIx]
  have e2 : HT.sIx (x :: xs).length (x :: xs).length none = (x :: xs).length := rfl
  rw [e1, e2]
  simp
theorem form_ok {m : Int} {qs : List SI} (S : SideOk m qs) : gForm [rowD m qs] = some (.str (tx (sideL m qs))) := by
  have hz := sizeLine_eq
  have hln := S.ln
  obtain ⟨p1, p2, p3⟩ := parts_ok S
  obtain ⟨x, xs, hx⟩ : ∃ x xs, partsL m qs = x :: xs := by
    cases h : partsL m qs with
    | nil => exact absurd h p3
    | cons x xs => exact ⟨x, xs, rfl⟩
  have tl := tail_len xs fun y hy => (p1 y (by rw [hx]; exact List.mem_cons_of_mem _ hy)).2
  have hx1 := p1 x (by rw [hx]; exact List.mem_cons_self)
  have hxl : xs.length ≤ 7 := by rw [hx, List.length_cons] at p2; omega
  refine z_run rfl ?_
  show F_form_told gTerm [some (rowD m qs), none, none, none, none, none] = _
  have hc : fComp (fIt (f2 gIx (fVar 0) (fC (.int 1)))) (asTup 2) [2, 3] [2, 3] (fun _ => some true) (fTup (fCons (fVar 3) (fCons (fCall gTerm (fCons (fVar 2) (fCons (fVar 3) fNil))) fNil))) [some (rowD m qs), none, none, none, none, none] = some (.list ((qs.map fun p => (p.2, termL p)).map partD)) := by
    rw [comp_si (t := fun _ => true) (e := fun p => partD (p.2, termL p)) rfl (by omega), filter_true, List.map_map]
    · rfl
    · intro p hp; rfl
    · intro p hp _
      exact z_tup (z_cons rfl (z_cons (z_call (z_cons rfl (z_cons rfl rfl)) (term_ok (S.nm p hp) (S.bd p hp))) rfl)) (by show 2 ≤ sizeLine; decide)
  -- the rest, with all parts
  have rest : ∀ o2, (fSeq (fSet 4 (f2 gAdd (fIf (f2T gLt (f2 gIx (f2 gIx (fVar 1) (fC (.int 0))) (fC (.int 0))) (fC (.int 0))) (fC (.str "-")) (fC (.str ""))) (f2 gIx (f2 gIx (fVar 1) (fC (.int 0))) (fC (.int 1))))) (fSeq (fFor (fIt (fSl (fVar 1) (fO (fC (.int 1))) fO0)) (asTup 2) [3, 5] (glueB 3 5)) (fSeq (fRet (fVar 4)) fNext))) [some (rowD m qs), some (.list ((x :: xs).map partD)), o2, none, none, none] = some (.rt (.str (tx (sideL m qs)))) := by
    intro o2
    have a1 : f2 gIx (f2 gIx (fVar 1) (fC (.int 0))) (fC (.int 0)) [some (rowD m qs), some (.list ((x :: xs).map partD)), o2, none, none, none] = some (.int x.1) := z_2 (z_2 (x := partD x) rfl rfl (atI_first _ _)) rfl rfl
    have a2 : f2 gIx (f2 gIx (fVar 1) (fC (.int 0))) (fC (.int 1)) [some (rowD m qs), some (.list ((x :: xs).map partD)), o2, none, none, none] = some (.str (tx x.2)) := z_2 (z_2 (x := partD x) rfl rfl (atI_first _ _)) rfl rfl
    have a3 : f2 gAdd (fIf (f2T gLt (f2 gIx (f2 gIx (fVar 1) (fC (.int 0))) (fC (.int 0))) (fC (.int 0))) (fC (.str "-")) (fC (.str ""))) (f2 gIx (f2 gIx (fVar 1) (fC (.int 0))) (fC (.int 1))) [some (rowD m qs), some (.list ((x :: xs).map partD)), o2, none, none, none] = some (.str (tx x.2)) := by
      have := f2_tx (fa := fIf (f2T gLt (f2 gIx (f2 gIx (fVar 1) (fC (.int 0))) (fC (.int 0))) (fC (.int 0))) (fC (.str "-")) (fC (.str ""))) (a := []) (z_ifEF (z_2T a1 rfl (by show some (decide (x.1 < 0)) = _; rw [decide_eq_false (by omega)])) rfl) a2 (by simp; omega)
      rw [List.nil_append] at this
      exact this
    refine z_nx (z_set a3) ?_
    obtain ⟨ev', g1, g2⟩ := glue_ok (i := 3) (j := 5) (by decide) (by decide) (by decide) xs [some (rowD m qs), some (.list ((x :: xs).map partD)), o2, none, some (.str (tx x.2)), none] x.2 (by show 3 < 6; decide) (by show 5 < 6; decide) (by show 4 < 6; decide) rfl (fun y hy => (p1 y (by rw [hx]; exact List.mem_cons_of_mem _ hy)).1) (by omega)
    have hfor : fFor (fIt (fSl (fVar 1) (fO (fC (.int 1))) fO0)) (asTup 2) [3, 5] (glueB 3 5) [some (rowD m qs), some (.list ((x :: xs).map partD)), o2, none, some (.str (tx x.2)), none] = some (.nx ev') := by
      have hit : fIt (fSl (fVar 1) (fO (fC (.int 1))) fO0) [some (rowD m qs), some (.list ((x :: xs).map partD)), o2, none, some (.str (tx x.2)), none] = some (xs.map partD) := by
        show some (cutL ((x :: xs).map partD) (some 1) none) = _
        rw [List.map_cons, cut_tail]
      unfold fFor
      rw [hit]
      exact g1
    refine z_nx hfor (z_rt (z_ret ?_))
    rw [g2]
    unfold sideL
    rw [hx, join_tail]
  have hne : f2T gNe (f2 gIx (fVar 0) (fC (.int 0))) (fC (.int 0)) [some (rowD m qs), some (.list ((qs.map fun p => (p.2, termL p)).map partD)), none, none, none, none] = some (decide (m ≠ 0)) := by
    refine z_2T rfl rfl ?_
    show some (!(m == 0)) = _
    by_cases e : m = 0
    · subst e; rfl
    · rw [beq_eq_false_iff_ne.mpr e, decide_eq_true e]; rfl
  have heq : f2T gEq (fVar 1) (fLst fNil) [some (rowD m qs), some (.list ((qs.map fun p => (p.2, termL p)).map partD)), none, none, none, none] = some (decide (qs = [])) := by
    refine z_2T rfl (z_lst rfl (Nat.zero_le _)) ?_
    cases qs with
    | nil => rfl
    | cons p qs =>
      rw [decide_eq_false (by simp)]
      show eqG (.list (partD (p.2, termL p) :: (qs.map fun p => (p.2, termL p)).map partD)) (.list []) = _
      have hp : PyData.plainAll ((qs.map fun p => (p.2, termL p)).map partD) = true := by
        clear hne rest hc hx p1 p2 p3 S hln
        induction qs with
        | nil => rfl
        | cons q qs ih => rw [List.map_cons, List.map_cons, PyData.plainAll, ih]; rfl
      unfold eqG
      have h1 : (PyData.list (partD (p.2, termL p) :: (qs.map fun p => (p.2, termL p)).map partD)).plain = true := by
        rw [PyData.plain, PyData.plainAll, hp]; rfl
      have h2 : (PyData.list []).plain = true := rfl
      have h3 : min (PyData.list (partD (p.2, termL p) :: (qs.map fun p => (p.2, termL p)).map partD)).depth (PyData.list []).depth ≤ 64 := Nat.le_trans (Nat.min_le_right _ _) (by decide)
      rw [h1, h2, decide_eq_true h3]
      rfl
  by_cases hb : m ≠ 0 ∨ qs = []
  · have hparts : partsL m qs = (qs.map fun p => (p.2, termL p)) ++ [(m, TL.numL m.natAbs)] := by unfold partsL; rw [if_pos hb]
    have hcond : fOr (f2T gNe (f2 gIx (fVar 0) (fC (.int 0))) (fC (.int 0))) (f2T gEq (fVar 1) (fLst fNil)) [some (rowD m qs), some (.list ((qs.map fun p => (p.2, termL p)).map partD)), none, none, none, none] = some true := by
      rcases hb with h | h
      · rw [decide_eq_true h] at hne; exact z_orT hne
      · by_cases h' : m ≠ 0
        · rw [decide_eq_true h'] at hne; exact z_orT hne
        · rw [decide_eq_false h'] at hne
          rw [decide_eq_true h] at heq
          exact z_orF hne heq
    refine z_ownLc (o := .rt (.str (tx (sideL m qs)))) hc (by show 1 < 6; decide) ?_ rfl
    have happ : fApp 1 (fTup (fCons (f2 gIx (fVar 0) (fC (.int 0))) (fCons (fCall gStr (fCons (fCall gAbs (fCons (f2 gIx (fVar 0) (fC (.int 0))) fNil)) fNil)) fNil))) [some (rowD m qs), some (.list ((qs.map fun p => (p.2, termL p)).map partD)), none, none, none, none] = some (.nx [some (rowD m qs), some (.list ((x :: xs).map partD)), none, none, none, none]) := by
      have := y_app (f := fTup (fCons (f2 gIx (fVar 0) (fC (.int 0))) (fCons (fCall gStr (fCons (fCall gAbs (fCons (f2 gIx (fVar 0) (fC (.int 0))) fNil)) fNil)) fNil))) (i := 1) (ev := [some (rowD m qs), some (.list ((qs.map fun p => (p.2, termL p)).map partD)), none, none, none, none]) (w := partD (m, TL.numL m.natAbs)) (ws := (qs.map fun p => (p.2, termL p)).map partD)
        (z_tup (z_cons rfl (z_cons (z_call (z_cons (z_call (z_cons rfl rfl) (gAbs_int m)) rfl) (gStr_abs (by have := S.mb; omega))) rfl)) (by show 2 ≤ sizeLine; decide)) rfl (by rw [List.length_map, List.length_map]; omega)
      rw [this, ← hx, hparts, List.map_append]
      rfl
    exact y_nx (y_ifT hcond (y_nx happ rfl)) (y_pure (rest none))
  · have hparts : partsL m qs = (qs.map fun p => (p.2, termL p)) := by unfold partsL; rw [if_neg hb, List.append_nil]
    have hb1 : ¬ m ≠ 0 := fun z => hb (.inl z)
    have hb2 : ¬ qs = [] := fun z => hb (.inr z)
    rw [decide_eq_false hb1] at hne
    rw [decide_eq_false hb2] at heq
    refine z_ownLc (o := .rt (.str (tx (sideL m qs)))) hc (by show 1 < 6; decide) ?_ rfl
    refine y_nx (ev' := [some (rowD m qs), some (.list ((x :: xs).map partD)), none, none, none, none]) (y_ifF (z_orF hne heq) ?_) (y_pure (rest none))
    rw [← hx, hparts]
    rfl
end K87

set_option Elab.async false
set_option linter.all false
set_option maxRecDepth 100000
set_option maxHeartbeats 4000000
namespace K87
open PySem PySem.Spec PyProof.Rows L2 Pu
def rowL (n : Int) (ps : List SI) : List Nat := sideL (sdN 1 n) (sdP 1 ps) ++ [32, 62, 61, 32] ++ sideL (sdN (-1) n) (sdP (-1) ps)
theorem side_len {m : Int} {qs : List SI} (S : SideOk m qs) : (sideL m qs).length ≤ 200 := by
  obtain ⟨p1, p2, p3⟩ := parts_ok S
  unfold sideL
  cases h : partsL m qs with
  | nil => exact absurd h p3
  | cons x xs =>
    rw [h] at p1 p2
    have tl := tail_len xs fun y hy => (p1 y (List.mem_cons_of_mem _ hy)).2
    have hx := (p1 x List.mem_cons_self).2
    rw [join_tail, List.length_append]
    rw [List.length_cons] at p2
    omega
def gTold : Nat → List PyData → Option PyData
  | 0 => fun _ => none
  | n + 1 => runF ["test", "signs"] 1 (F_test_told gForm gSide (gTold n))
def leastD (n : Int) (ps : List SI) : PyData := .tuple [.str "least", rowD n ps]
theorem told_ok {n : Int} {ps : List SI} (R : RowOk n ps) (k : Nat) : gTold (k + 1) [leastD n ps] = some (.str (tx (rowL n ps))) := by
  have hz := sizeLine_eq
  have S1 := R.side (.inl rfl)
  have S2 := R.side (.inr rfl)
  have l1 := side_len S1
  have l2 := side_len S2
  refine z_run rfl ?_
  show F_test_told gForm gSide (gTold k) [some (leastD n ps), none] = _
  refine z_nx (z_ifF rfl rfl) (z_nx (z_ifF rfl rfl) (z_nx (z_set rfl) (z_rt (z_ret ?_))))
  refine f2_tx (f2_tx (z_call (z_cons (z_call (z_cons rfl (z_cons rfl rfl)) (side_ok (.inl rfl) R)) rfl) (form_ok S1)) (b := [32, 62, 61, 32]) rfl ?_) (z_call (z_cons (z_call (z_cons rfl (z_cons rfl rfl)) (side_ok (.inr rfl) R)) rfl) (form_ok S2)) ?_
  · show _ + 4 ≤ _; omega
  · rw [List.length_append]; show _ + 4 + _ ≤ _; omega
/-! ### the law's texts -/
def gLF : List PyData → Option PyData := runF ["form", "parts", "name", "factor", "text", "number", "part"] 1 F__law_form_text
def gLS : List PyData → Option PyData := runF ["form", "sign", "pairs", "name", "factor"] 2 (F__law_side gLF)
def gLT : Nat → List PyData → Option PyData
  | 0 => fun _ => none
  | n + 1 => runF ["test"] 1 (F__law_test_text gLS (gLT n))
theorem law_form {m : Int} {qs : List SI} (S : SideOk m qs) : gLF [.tuple [.int m, .list (qs.map siD)]] = some (.str (tx (sideL m qs))) := by
  have hz := sizeLine_eq
  have hln := S.ln
  obtain ⟨p1, p2, p3⟩ := parts_ok S
  obtain ⟨x, xs, hx⟩ : ∃ x xs, partsL m qs = x :: xs := by
    cases h : partsL m qs with
    | nil => exact absurd h p3
    | cons x xs => exact ⟨x, xs, rfl⟩
  have tl := tail_len xs fun y hy => (p1 y (by rw [hx]; exact List.mem_cons_of_mem _ hy)).2
  have hx1 := p1 x (by rw [hx]; exact List.mem_cons_self)
  have hxl : xs.length ≤ 7 := by rw [hx, List.length_cons] at p2; omega
  refine z_run rfl ?_
  show F__law_form_text [some (.tuple [.int m, .list (qs.map siD)]), none, none, none, none, none, none] = _
  have hc : fComp (fIt (f2 gIx (fVar 0) (fC (.int 1)))) (asTup 2) [2, 3] [2, 3] (fun _ => some true) (fTup (fCons (fVar 3) (fCons (fIf (f2T gEq (fCall gAbs (fCons (fVar 3) fNil)) (fC (.int 1))) (fVar 2) (f2 gAdd (f2 gAdd (fCall gStr (fCons (fCall gAbs (fCons (fVar 3) fNil)) fNil)) (fC (.str " "))) (fVar 2))) fNil))) [some (.tuple [.int m, .list (qs.map siD)]), none, none, none, none, none, none] = some (.list ((qs.map fun p => (p.2, termL p)).map partD)) := by
    rw [comp_si (t := fun _ => true) (e := fun p => partD (p.2, termL p)) rfl (by omega), filter_true, List.map_map]
    · rfl
    · intro p hp; rfl
    · intro p hp _
      have hb := S.bd p hp
      refine z_tup (z_cons rfl (z_cons (w := .str (tx (termL p))) ?_ rfl)) (by show 2 ≤ sizeLine; decide)
      have hq : f2T gEq (fCall gAbs (fCons (fVar 3) fNil)) (fC (.int 1)) (((wipeE [some (.tuple [.int m, .list (qs.map siD)]), none, none, none, none, none, none] [2, 3]).set 2 (some (.str p.1))).set 3 (some (.int p.2))) = some (decide (p.2 = 1)) := by
        refine z_2T (z_call (z_cons rfl rfl) (gAbs_int p.2)) rfl ?_
        show some (((p.2.natAbs : Nat) : Int) == 1) = _
        by_cases e : p.2 = 1
        · rw [e]; rfl
        · rw [decide_eq_false e, beq_eq_false_iff_ne.mpr (by omega)]
      unfold termL
      by_cases e : p.2 = 1
      · rw [decide_eq_true e] at hq
        rw [if_pos e, tx_of]
        exact z_ifET hq rfl
      · rw [decide_eq_false e] at hq
        rw [if_neg e]
        exact z_ifEF hq (term_at (S.nm p hp) hb rfl rfl)
  refine z_nx (z_set hc) ?_
  have rest : (fSeq (fSet 4 (fC (.str ""))) (fSeq (fFor (fIt (fVar 1)) (asTup 2) [5, 6] (glueB 5 6)) (fSeq (fRet (f2 gAdd (fIf (f2T gEq (fSl (fVar 4) fO0 (fO (fC (.int 3)))) (fC (.str " - "))) (fC (.str "-")) (fC (.str ""))) (fSl (fVar 4) (fO (fC (.int 3))) fO0))) fNext))) [some (.tuple [.int m, .list (qs.map siD)]), some (.list ((x :: xs).map partD)), none, none, none, none, none] = some (.rt (.str (tx (sideL m qs)))) := by
    have el : tailL (x :: xs) = [32, 43, 32] ++ x.2 ++ tailL xs := by unfold tailL; rw [List.flatMap_cons]
    have ell : (tailL (x :: xs)).length ≤ 200 := by
      rw [el, List.length_append, List.length_append]
      have l3 : ([32, 43, 32] : List Nat).length = 3 := rfl
      omega
    obtain ⟨ev', g1, g2⟩ := glue_ok (i := 5) (j := 6) (by decide) (by decide) (by decide) (x :: xs) [some (.tuple [.int m, .list (qs.map siD)]), some (.list ((x :: xs).map partD)), none, none, some (.str (tx [])), none, none] [] (by show 5 < 7; decide) (by show 6 < 7; decide) (by show 4 < 7; decide) rfl (fun y hy => (p1 y (by rw [hx]; exact hy)).1) (by show 0 + _ ≤ _; omega)
    rw [List.nil_append] at g2
    refine z_nx (ev' := [some (.tuple [.int m, .list (qs.map siD)]), some (.list ((x :: xs).map partD)), none, none, some (.str (tx [])), none, none]) (z_set rfl) (z_nx (ev' := ev') ?_ (z_rt (z_ret ?_)))
    · unfold fFor
      exact g1
    · have c1 : fSl (fVar 4) fO0 (fO (fC (.int 3))) ev' = some (.str (tx ((tailL (x :: xs)).take 3))) := by
        unfold fSl
        rw [g2]
        show gSl (.str (tx (tailL (x :: xs)))) none (some ((3 : Nat) : Int)) = _
        refine gSl_to ?_ (by omega)
        rw [el, List.length_append, List.length_append]
        show 3 ≤ 3 + _ + _
        omega
      have c2 : fSl (fVar 4) (fO (fC (.int 3))) fO0 ev' = some (.str (tx ((tailL (x :: xs)).drop 3))) := by
        unfold fSl
        rw [g2]
        show gSl (.str (tx (tailL (x :: xs)))) (some ((3 : Nat) : Int)) none = _
        exact gSl_from (by omega)
      have e3 : (tailL (x :: xs)).take 3 = [32, 43, 32] := by rw [el]; rfl
      have e4 : (tailL (x :: xs)).drop 3 = sideL m qs := by
        rw [el]
        unfold sideL
        rw [hx, join_tail]
        rfl
      rw [e3] at c1
      rw [e4] at c2
      have c3 : f2T gEq (fSl (fVar 4) fO0 (fO (fC (.int 3)))) (fC (.str " - ")) ev' = some false := z_2T c1 rfl (by decide +kernel)
      have := f2_tx (fa := fIf (f2T gEq (fSl (fVar 4) fO0 (fO (fC (.int 3)))) (fC (.str " - "))) (fC (.str "-")) (fC (.str ""))) (a := []) (z_ifEF c3 rfl) c2 (by have := side_len S; simp; omega)
      rw [List.nil_append] at this
      exact this
  have hne : f2T gNe (f2 gIx (fVar 0) (fC (.int 0))) (fC (.int 0)) [some (.tuple [.int m, .list (qs.map siD)]), some (.list ((qs.map fun p => (p.2, termL p)).map partD)), none, none, none, none, none] = some (decide (m ≠ 0)) := by
    refine z_2T rfl rfl ?_
    show some (!(m == 0)) = _
    by_cases e : m = 0
    · subst e; rfl
    · rw [beq_eq_false_iff_ne.mpr e, decide_eq_true e]; rfl
  have heq : f2T gEq (fVar 1) (fLst fNil) [some (.tuple [.int m, .list (qs.map siD)]), some (.list ((qs.map fun p => (p.2, termL p)).map partD)), none, none, none, none, none] = some (decide (qs = [])) := by
    refine z_2T rfl (z_lst rfl (Nat.zero_le _)) ?_
    cases qs with
    | nil => rfl
    | cons p qs =>
      rw [decide_eq_false (by simp)]
      show eqG (.list (partD (p.2, termL p) :: (qs.map fun p => (p.2, termL p)).map partD)) (.list []) = _
      have hp : PyData.plainAll ((qs.map fun p => (p.2, termL p)).map partD) = true := by
        clear hne rest hc hx p1 p2 p3 S hln
        induction qs with
        | nil => rfl
        | cons q qs ih => rw [List.map_cons, List.map_cons, PyData.plainAll, ih]; rfl
      unfold eqG
      have h1 : (PyData.list (partD (p.2, termL p) :: (qs.map fun p => (p.2, termL p)).map partD)).plain = true := by
        rw [PyData.plain, PyData.plainAll, hp]; rfl
      have h2 : (PyData.list []).plain = true := rfl
      have h3 : min (PyData.list (partD (p.2, termL p) :: (qs.map fun p => (p.2, termL p)).map partD)).depth (PyData.list []).depth ≤ 64 := Nat.le_trans (Nat.min_le_right _ _) (by decide)
      rw [h1, h2, decide_eq_true h3]
      rfl
  by_cases hb : m ≠ 0 ∨ qs = []
  · have hparts : partsL m qs = (qs.map fun p => (p.2, termL p)) ++ [(m, TL.numL m.natAbs)] := by unfold partsL; rw [if_pos hb]
    have hcond : fOr (f2T gNe (f2 gIx (fVar 0) (fC (.int 0))) (fC (.int 0))) (f2T gEq (fVar 1) (fLst fNil)) [some (.tuple [.int m, .list (qs.map siD)]), some (.list ((qs.map fun p => (p.2, termL p)).map partD)), none, none, none, none, none] = some true := by
      rcases hb with h | h
      · rw [decide_eq_true h] at hne; exact z_orT hne
      · by_cases h' : m ≠ 0
        · rw [decide_eq_true h'] at hne; exact z_orT hne
        · rw [decide_eq_false h'] at hne
          rw [decide_eq_true h] at heq
          exact z_orF hne heq
    have hadd : f2 gAdd (fVar 1) (fLst (fCons (fTup (fCons (f2 gIx (fVar 0) (fC (.int 0))) (fCons (fCall gStr (fCons (fCall gAbs (fCons (f2 gIx (fVar 0) (fC (.int 0))) fNil)) fNil)) fNil))) fNil)) [some (.tuple [.int m, .list (qs.map siD)]), some (.list ((qs.map fun p => (p.2, termL p)).map partD)), none, none, none, none, none] = some (.list ((x :: xs).map partD)) := by
      refine z_2 rfl (z_lst (z_cons (w := partD (m, TL.numL m.natAbs)) (z_tup (z_cons rfl (z_cons (z_call (z_cons (z_call (z_cons rfl rfl) (gAbs_int m)) rfl) (gStr_abs (by have := S.mb; omega))) rfl)) (by show 2 ≤ sizeLine; decide)) rfl) (by show 1 ≤ sizeLine; decide)) ?_
      show (if ((qs.map fun p => (p.2, termL p)).map partD).length + 1 ≤ sizeLine then some (PyData.list (((qs.map fun p => (p.2, termL p)).map partD) ++ [partD (m, TL.numL m.natAbs)])) else none) = _
      rw [if_pos (by rw [List.length_map, List.length_map]; omega), ← hx, hparts, List.map_append]
      rfl
    exact z_nx (ev' := [some (.tuple [.int m, .list (qs.map siD)]), some (.list ((x :: xs).map partD)), none, none, none, none, none]) (z_ifT hcond (z_nx (z_set hadd) rfl)) rest
  · have hparts : partsL m qs = (qs.map fun p => (p.2, termL p)) := by unfold partsL; rw [if_neg hb, List.append_nil]
    have hb1 : ¬ m ≠ 0 := fun z => hb (.inl z)
    have hb2 : ¬ qs = [] := fun z => hb (.inr z)
    rw [decide_eq_false hb1] at hne
    rw [decide_eq_false hb2] at heq
    refine z_nx (ev' := [some (.tuple [.int m, .list (qs.map siD)]), some (.list ((x :: xs).map partD)), none, none, none, none, none]) (z_ifF (z_orF hne heq) ?_) rest
    rw [← hx, hparts]
    rfl
theorem law_side {n sg : Int} {ps : List SI} (hs : sg = 1 ∨ sg = -1) (R : RowOk n ps) : gLS [rowD n ps, .int sg] = some (.str (tx (sideL (sdN sg n) (sdP sg ps)))) := by
  have hln := R.ln
  refine z_run rfl ?_
  show F__law_side gLF [some (rowD n ps), some (.int sg), none, none, none] = _
  have hc : fComp (fIt (f2 gIx (fVar 0) (fC (.int 1)))) (asTup 2) [3, 4] [3, 4] (f2T gEq (fB (f2T gGt (fVar 4) (fC (.int 0)))) (fB (f2T gGt (fVar 1) (fC (.int 0))))) (fTup (fCons (fVar 3) (fCons (fCall gAbs (fCons (fVar 4) fNil)) fNil))) [some (rowD n ps), some (.int sg), none, none, none] = some (.list ((sdP sg ps).map siD)) := by
    rw [comp_si (t := fun p => decide (0 < p.2 * sg)) (e := fun p => siD (p.1, (p.2.natAbs : Int))) rfl (by omega)]
    · unfold sdP
      rw [List.map_map]
      rfl
    · intro p hp
      have h0 := R.nz p hp
      refine z_2T (z_B (z_2T rfl rfl (gGt_0 _))) (z_B (z_2T rfl rfl (gGt_0 _))) ?_
      show some (decide (0 < p.2) == decide (0 < sg)) = _
      rcases hs with rfl | rfl
      · rw [Int.mul_one]
        cases decide (0 < p.2) <;> rfl
      · by_cases h : 0 < p.2
        · rw [decide_eq_true h, decide_eq_false (by omega : ¬ 0 < p.2 * -1)]; rfl
        · rw [decide_eq_false h, decide_eq_true (by omega : 0 < p.2 * -1)]; rfl
    · intro p hp _
      exact z_tup (z_cons rfl (z_cons (z_call (z_cons rfl rfl) (gAbs_int _)) rfl)) (by show 2 ≤ sizeLine; decide)
  refine z_nx (z_set hc) (z_rt (z_ret (z_call (z_cons (z_tup (z_cons (w := .int (sdN sg n)) ?_ (z_cons rfl rfl)) (by show 2 ≤ sizeLine; decide)) rfl) (law_form (R.side hs)))))
  have hm := gMul_sg hs R.nb
  unfold sdN
  by_cases h : 0 < n * sg
  · rw [if_pos h]
    exact z_ifET (z_2T (z_2 rfl rfl hm) rfl (by rw [gGt_0, decide_eq_true h])) (z_call (z_cons rfl rfl) (gAbs_int n))
  · rw [if_neg h]
    exact z_ifEF (z_2T (z_2 rfl rfl hm) rfl (by rw [gGt_0, decide_eq_false h])) rfl
theorem law_test {n : Int} {ps : List SI} (R : RowOk n ps) (k : Nat) : gLT (k + 1) [leastD n ps] = some (.str (tx (rowL n ps))) := by
  have hz := sizeLine_eq
  have l1 := side_len (R.side (.inl rfl))
  have l2 := side_len (R.side (.inr rfl))
  refine z_run rfl ?_
  show F__law_test_text gLS (gLT k) [some (leastD n ps)] = _
  refine z_nx (z_ifF rfl rfl) (z_nx (z_ifF rfl rfl) (z_rt (z_ret ?_)))
  refine f2_tx (f2_tx (z_call (z_cons rfl (z_cons rfl rfl)) (law_side (.inl rfl) R)) (b := [32, 62, 61, 32]) rfl ?_) (z_call (z_cons rfl (z_cons (w := .int (-1)) rfl rfl)) (law_side (.inr rfl) R)) ?_
  · show _ + 4 ≤ _; omega
  · rw [List.length_append]; show _ + 4 + _ ≤ _; omega
end K87

set_option Elab.async false
set_option linter.all false
set_option maxRecDepth 100000
set_option maxHeartbeats 4000000
/-! Rows: they are forms, and tests of them are tests. -/
namespace K87
open PySem PySem.Spec PyProof.Rows L2 Pu
def gWd : List PyData → Option PyData := runF ["value", "sign"] 1 F_is_word
def gNm : List PyData → Option PyData := runF ["value", "figures", "is_count", "sign"] 1 (F_is_name gWd)
def gWh : List PyData → Option PyData := runF ["value"] 1 F_is_whole
def gTu : List PyData → Option PyData := runF ["value", "size"] 2 F_is_tuple_of
def gIF : List PyData → Option PyData := runF ["value", "pair", "name", "factor", "one", "other"] 1 (F_is_form gWh gNm gTu)
def gWT : List PyData → Option PyData := runF ["value", "sign"] 1 F_is_word_there
def gOF : List PyData → Option PyData := runF ["value", "name", "_"] 1 (F_is_own_form gWT gIF)
def gHd : List PyData → Option PyData := runF ["value", "words", "size"] 3 F_is_headed
def gAt : List PyData → Option PyData := runF ["value"] 1 (F_is_atom gHd gOF)
def gHo : Nat → List PyData → Option PyData
  | 0 => fun _ => none
  | n + 1 => runF ["test"] 1 (F_has_one (gHo n))
def gTs (m : Nat) : Nat → List PyData → Option PyData
  | 0 => fun _ => none
  | n + 1 => runF ["value"] 1 (F_is_test gAt gHd (gTs m n) (gHo m))
theorem all1 {fit : Ev → Option (List PyData)} {fe : Ev → Option PyData} {ev : Ev} {i : Nat} {ds : List PyData} (hit : fit ev = some ds) (hz : ds.length ≤ 1000) (h : ∀ x ∈ ds, fe ((wipeE ev [i]).set i (some x)) = some (.bool true)) : fCall gAll (fCons (fComp fit asOne [i] [i] (fun _ => some true) fe) fNil) ev = some (.bool true) := by
  have hz2 := sizeLine_eq
  refine z_call (z_cons (w := .list (ds.map fun _ => .bool true)) ?_ rfl) (all_true ds)
  unfold fComp
  rw [hit, Option.bind_some, if_pos (by omega), compL_map (h := fun _ => .bool true) h]
  rfl
theorem all2 {fit : Ev → Option (List PyData)} {fe : Ev → Option PyData} {ev : Ev} {i j : Nat} {ps : List SI} (hit : fit ev = some (ps.map siD)) (hz : ps.length ≤ 1000) (h : ∀ p ∈ ps, fe (((wipeE ev [i, j]).set i (some (.str p.1))).set j (some (.int p.2))) = some (.bool true)) : fCall gAll (fCons (fComp fit (asTup 2) [i, j] [i, j] (fun _ => some true) fe) fNil) ev = some (.bool true) := by
  refine z_call (z_cons (w := .list (ps.map fun _ => .bool true)) ?_ rfl) ?_
  · rw [comp_si (t := fun _ => true) (e := fun _ => .bool true) hit hz (fun _ _ => rfl) fun p hp _ => h p hp, filter_true]
  · have e : (ps.map fun _ => PyData.bool true) = ((ps.map siD).map fun _ => PyData.bool true) := by rw [List.map_map]; rfl
    rw [e]
    exact all_true _
theorem names_nm : (names7.all fun z => isTrue (gNm [.str z])) = true := by decide +kernel
theorem name_ok {z : Str} (h : z ∈ names7) : gNm [.str z] = some (.bool true) := isTrue_ok (List.all_eq_true.mp names_nm z h)
theorem whole_ok (i : Int) : gWh [.int i] = some (.bool true) := rfl
theorem tup2_ok (a b : PyData) : gTu [.tuple [a, b], .int 2] = some (.bool true) := rfl
/-- neighbours are in order -/
theorem adj_ok {ev : Ev} (h4 : 4 < ev.length) (h5 : 5 < ev.length) : ∀ (x : SI) (xs : List SI), ((x :: xs).Pairwise fun p q => p.1.cps.toList < q.1.cps.toList) →
    compL (asTup 2) [4, 5] (fun _ => some true) (fB (f2T gLt (f2 gIx (fVar 4) (fC (.int 0))) (f2 gIx (fVar 5) (fC (.int 0))))) ev (zipD ((x :: xs).map siD) (xs.map siD)) = some (xs.map fun _ => .bool true)
  | x, [], _ => rfl
  | x, y :: ys, h => by
    obtain ⟨h1, h2⟩ := List.pairwise_cons.mp h
    have ih := adj_ok h4 h5 y ys h2
    have e4 : fVar 4 ((ev.set 4 (some (siD x))).set 5 (some (siD y))) = some (siD x) := by rw [fVar_set_ne (by decide), fVar_set h4]
    have e5 : fVar 5 ((ev.set 4 (some (siD x))).set 5 (some (siD y))) = some (siD y) := fVar_set (by rw [List.length_set]; exact h5)
    have e1 : fB (f2T gLt (f2 gIx (fVar 4) (fC (.int 0))) (f2 gIx (fVar 5) (fC (.int 0)))) ((ev.set 4 (some (siD x))).set 5 (some (siD y))) = some (.bool true) := by
      refine z_B (z_2T (w := .str x.1) (u := .str y.1) (z_2 e4 rfl rfl) (z_2 e5 rfl rfl) ?_)
      show some (decide (x.1.cps.toList < y.1.cps.toList)) = _
      rw [decide_eq_true (h1 y List.mem_cons_self)]
    show ((fB (f2T gLt (f2 gIx (fVar 4) (fC (.int 0))) (f2 gIx (fVar 5) (fC (.int 0)))) ((ev.set 4 (some (siD x))).set 5 (some (siD y)))).bind fun z => (compL (asTup 2) [4, 5] (fun _ => some true) (fB (f2T gLt (f2 gIx (fVar 4) (fC (.int 0))) (f2 gIx (fVar 5) (fC (.int 0))))) ev (zipD ((y :: ys).map siD) (ys.map siD))).bind fun zs => some (z :: zs)) = _
    rw [e1, ih]
    rfl
theorem is_form_gen {n : Int} {ps : List SI} (nm : ∀ p ∈ ps, p.1 ∈ names7) (nz : ∀ p ∈ ps, p.2 ≠ 0) (srt : ps.Pairwise fun p q => p.1.cps.toList < q.1.cps.toList) (ln : ps.length ≤ 7) : gIF [rowD n ps] = some (.bool true) := by
  have hz := sizeLine_eq
  refine z_run rfl ?_
  show F_is_form gWh gNm gTu [some (rowD n ps), none, none, none, none, none] = _
  have c1 : fCall gAll (fCons (fComp (fIt (f2 gIx (fVar 0) (fC (.int 1)))) asOne [1] [1] (fun _ => some true) (fAndV (fCall gTu (fCons (fVar 1) (fCons (fC (.int 2)) fNil))) (fAndV (fCall gNm (fCons (f2 gIx (fVar 1) (fC (.int 0))) fNil)) (fCall gWh (fCons (f2 gIx (fVar 1) (fC (.int 1))) fNil))))) fNil) [some (rowD n ps), none, none, none, none, none] = some (.bool true) := by
    refine all1 (ds := ps.map siD) rfl (by rw [List.length_map]; omega) fun x hx => ?_
    obtain ⟨p, hp, rfl⟩ := List.mem_map.mp hx
    exact z_andV (a := true) (b := true) (z_call (z_cons (w := siD p) rfl (z_cons rfl rfl)) (tup2_ok _ _)) (z_andV (a := true) (b := true) (z_call (z_cons (w := .str p.1) rfl rfl) (name_ok (nm p hp))) (z_call (z_cons (w := .int p.2) rfl rfl) (whole_ok _)))
  have c2 : fCall gAll (fCons (fComp (fIt (f2 gIx (fVar 0) (fC (.int 1)))) (asTup 2) [2, 3] [2, 3] (fun _ => some true) (fB (f2T gNe (fVar 3) (fC (.int 0))))) fNil) [some (rowD n ps), none, none, none, none, none] = some (.bool true) := by
    refine all2 (ps := ps) rfl (by omega) fun p hp => z_B (z_2T rfl rfl ?_)
    show some (!(p.2 == 0)) = _
    rw [beq_eq_false_iff_ne.mpr (nz p hp)]
    rfl
  have c3 : fCall gAll (fCons (fComp (fZip (f2 gIx (fVar 0) (fC (.int 1))) (fSl (f2 gIx (fVar 0) (fC (.int 1))) (fO (fC (.int 1))) fO0)) (asTup 2) [4, 5] [4, 5] (fun _ => some true) (fB (f2T gLt (f2 gIx (fVar 4) (fC (.int 0))) (f2 gIx (fVar 5) (fC (.int 0)))))) fNil) [some (rowD n ps), none, none, none, none, none] = some (.bool true) := by
    cases ps with
    | nil => rfl
    | cons x xs =>
      have hit : fZip (f2 gIx (fVar 0) (fC (.int 1))) (fSl (f2 gIx (fVar 0) (fC (.int 1))) (fO (fC (.int 1))) fO0) [some (rowD n (x :: xs)), none, none, none, none, none] = some (zipD ((x :: xs).map siD) (xs.map siD)) := by
        show some (zipD ((x :: xs).map siD) (cutL ((x :: xs).map siD) (some 1) none)) = _
        rw [List.map_cons, cut_tail]
      have hl : (zipD ((x :: xs).map siD) (xs.map siD)).length ≤ sizeLine := by
        rw [zipD_len, List.length_map, List.length_map]
        rw [List.length_cons] at ln ⊢
        omega
      refine z_call (z_cons (w := .list ((xs.map siD).map fun _ => .bool true)) ?_ rfl) (all_true _)
      unfold fComp
      rw [hit, Option.bind_some, if_pos hl, adj_ok (by show 4 < 6; decide) (by show 5 < 6; decide) x xs srt, List.map_map]
      rfl
  refine z_nx (z_ifF (z_orF (z_not (z_T (z_call (z_cons rfl (z_cons rfl rfl)) (tup2_ok _ _)))) (z_orF (z_not (z_T (z_call (z_cons (w := .int n) rfl rfl) (whole_ok n)))) rfl)) rfl) ?_
  exact z_nx (z_ifF (z_not (z_T c1)) rfl) (z_nx (z_ifF (z_not (z_T c2)) rfl) (z_rt (z_ret c3)))
theorem is_form_ok {n : Int} {ps : List SI} (R : RowOk n ps) : gIF [rowD n ps] = some (.bool true) := is_form_gen R.nm R.nz R.srt R.ln
def names3 : List Str := ["a", "x", "zabcdefg"]
theorem names_there : (names3.all fun z => isTrue (gWT [.str z])) = true := by decide +kernel
theorem there_ok {z : Str} (h : z ∈ names3) : gWT [.str z] = some (.bool true) := isTrue_ok (List.all_eq_true.mp names_there z h)
theorem own_form_gen {n : Int} {ps : List SI} (h : gIF [rowD n ps] = some (.bool true)) (n3 : ∀ p ∈ ps, p.1 ∈ names3) (ln : ps.length ≤ 7) : gOF [rowD n ps] = some (.bool true) := by
  refine z_run rfl ?_
  show F_is_own_form gWT gIF [some (rowD n ps), none, none] = _
  refine z_rt (z_ret (z_andV (a := true) (b := true) (z_call (z_cons rfl rfl) h) ?_))
  exact all2 (ps := ps) rfl (by omega) fun p hp => z_call (z_cons (w := .str p.1) rfl rfl) (there_ok (n3 p hp))
theorem is_test_gen {n : Int} {ps : List SI} (h : gOF [rowD n ps] = some (.bool true)) (m k : Nat) : gTs m (k + 1) [leastD n ps] = some (.bool true) := by
  have ha : gAt [leastD n ps] = some (.bool true) := by
    refine z_run rfl ?_
    show F_is_atom gHd gOF [some (leastD n ps)] = _
    exact z_rt (z_ifT (z_T (b := true) (z_call (z_cons (w := leastD n ps) rfl (z_cons (w := .tuple [.str "least", .str "is", .str "not"]) rfl (z_cons (w := .int 2) rfl rfl))) rfl)) (z_rt (z_ret (z_call (z_cons (w := rowD n ps) rfl rfl) h))))
  refine z_run rfl ?_
  show F_is_test gAt gHd (gTs m k) (gHo m) [some (leastD n ps)] = _
  refine z_nx (z_ifF (z_T (b := false) (z_call (z_cons (w := leastD n ps) rfl (z_cons (w := .tuple [.str "both"]) rfl (z_cons (w := .int 3) rfl rfl))) rfl)) rfl) ?_
  refine z_nx (z_ifF (z_T (b := false) (z_call (z_cons (w := leastD n ps) rfl (z_cons (w := .tuple [.str "one"]) rfl (z_cons (w := .int 3) rfl rfl))) rfl)) rfl) ?_
  exact z_rt (z_ret (z_call (z_cons rfl rfl) ha))
def gCT (m k : Nat) : List PyData → Option PyData := runF ["value"] 1 (F_check_test (gTs m k))
def gTT (m k : Nat) : List PyData → Option PyData := runF ["test"] 1 (F_test_text (gTold k) (gCT m k))
def gRow (k : Nat) : List PyData → Option PyData := runF ["row"] 1 (F_row_told (gTold k) gIF)
theorem test_text_ok {n : Int} {ps : List SI} (R : RowOk n ps) (n3 : ∀ p ∈ ps, p.1 ∈ names3) (m k : Nat) : gTT m (k + 1) [leastD n ps] = some (.str (tx (rowL n ps))) := by
  have ht := is_test_gen (own_form_gen (is_form_ok R) n3 R.ln) m k
  have hc : gCT m (k + 1) [leastD n ps] = some .none := by
    have hF : F_check_test (gTs m (k + 1)) [some (leastD n ps)] = some (.nx [some (leastD n ps)]) := z_nx (z_ifF (z_not (z_T (z_call (z_cons rfl rfl) ht))) rfl) rfl
    unfold gCT runF
    rw [if_pos (show [leastD n ps].length = 1 from rfl)]
    show (F_check_test (gTs m (k + 1)) [some (leastD n ps)]).bind _ = _
    rw [hF]
    rfl
  refine z_run rfl ?_
  show F_test_text (gTold (k + 1)) (gCT m (k + 1)) [some (leastD n ps)] = _
  refine z_nx (ev' := [some (leastD n ps)]) ?_ (z_rt (z_ret (z_call (z_cons rfl rfl) (told_ok R k))))
  unfold fExp
  rw [z_call (z_cons rfl rfl) hc]
  rfl
theorem row_told_ok {n : Int} {ps : List SI} (R : RowOk n ps) (k : Nat) : gRow (k + 1) [rowD n ps] = some (.str (tx (rowL n ps))) := by
  refine z_run rfl ?_
  show F_row_told (gTold (k + 1)) gIF [some (rowD n ps)] = _
  exact z_nx (z_ifF (z_not (z_T (z_call (z_cons rfl rfl) (is_form_ok R)))) rfl) (z_rt (z_ret (z_call (z_cons (z_tup (z_cons rfl (z_cons rfl rfl)) (by show 2 ≤ sizeLine; decide)) rfl) (told_ok R k))))
end K87

set_option Elab.async false
set_option linter.all false
set_option maxRecDepth 100000
set_option maxHeartbeats 4000000
/-! A side, read. -/
namespace K87
open PySem PySem.Spec PyProof.Rows L2 Pu
/-! ### signs of a word -/
theorem chars_all {a b : Nat} {za zb : Str} (ha : za = one a) (hb : zb = one b) {l : List Nat} (hl : l.length ≤ 1000000) :
    fCall gAll (fCons (fComp (fIt (fVar 0)) asOne [1] [1] (fun _ => some true) (fB (fChain gLe gLe (fC (.str za)) (fVar 1) (fC (.str zb))))) fNil) [some (.str (tx l)), none] = some (.bool (l.all fun c => decide (a ≤ c) && decide (c ≤ b))) := by
  have hz := sizeLine_eq
  have hc : fComp (fIt (fVar 0)) asOne [1] [1] (fun _ => some true) (fB (fChain gLe gLe (fC (.str za)) (fVar 1) (fC (.str zb)))) [some (.str (tx l)), none] = some (.list (l.map fun c => .bool (decide (a ≤ c) && decide (c ≤ b)))) := by
    unfold fComp
    have hit : fIt (fVar 0) [some (PyData.str (tx l)), none] = some (l.map fun c => .str (one c)) := by
      show some (Pu.signs (tx l)) = _
      unfold Pu.signs
      have e : (tx l).cps.toList = l := by simp [tx]
      rw [e]
      rfl
    rw [hit, Option.bind_some, if_pos (by rw [List.length_map]; omega)]
    have key : ∀ m : List Nat, compL asOne [1] (fun _ => some true) (fB (fChain gLe gLe (fC (.str za)) (fVar 1) (fC (.str zb)))) (wipeE [some (.str (tx l)), none] [1]) (m.map fun c => .str (one c)) = some (m.map fun c => .bool (decide (a ≤ c) && decide (c ≤ b))) := by
      intro m
      induction m with
      | nil => rfl
      | cons c m ih =>
        have e1 : fB (fChain gLe gLe (fC (.str za)) (fVar 1) (fC (.str zb))) ((wipeE [some (.str (tx l)), none] [1]).set 1 (some (.str (one c)))) = some (.bool (decide (a ≤ c) && decide (c ≤ b))) :=
          z_B (chain_one (a := a) (b := b) (c := c) za zb ha hb rfl)
        show ((fB (fChain gLe gLe (fC (.str za)) (fVar 1) (fC (.str zb))) ((wipeE [some (.str (tx l)), none] [1]).set 1 (some (.str (one c))))).bind fun y => (compL asOne [1] (fun _ => some true) (fB (fChain gLe gLe (fC (.str za)) (fVar 1) (fC (.str zb)))) (wipeE [some (.str (tx l)), none] [1]) (m.map fun c => .str (one c))).bind fun ys => some (y :: ys)) = _
        rw [e1, ih]
        rfl
    rw [key l]
    rfl
  refine z_call (z_cons hc rfl) ?_
  show (asBs (l.map fun c => .bool (decide (a ≤ c) && decide (c ≤ b)))).map (fun bs => PyData.bool (bs.all id)) = _
  rw [asBs_map (h := fun c => decide (a ≤ c) && decide (c ≤ b))]
  show some (PyData.bool ((l.map fun c => decide (a ≤ c) && decide (c ≤ b)).all id)) = _
  rw [List.all_map]
  rfl
def gFig : List PyData → Option PyData := runF ["word", "sign"] 1 F_is_figures
def isFalse_ : Option PyData → Bool
  | some (.bool b) => !b
  | _ => false
theorem isFalse_ok {o : Option PyData} (h : isFalse_ o = true) : o = some (.bool false) := by
  unfold isFalse_ at h
  split at h
  · rename_i b
    cases b
    · rfl
    · cases h
  · cases h
theorem fig_names : (names3.all fun z => isFalse_ (gFig [.str z])) = true := by decide +kernel
theorem fig_name {z : Str} (h : z ∈ names3) : gFig [.str z] = some (.bool false) := isFalse_ok (List.all_eq_true.mp fig_names z h)
theorem digs (n : Nat) : ∀ c ∈ TL.numL n, 48 ≤ c ∧ c ≤ 57 := TL.numL_digits n
theorem fig_num {n : Nat} (hn : n ≤ 100000) : gFig [.str (tx (TL.numL n))] = some (.bool true) := by
  have hl : (TL.numL n).length ≤ 6 := TL.numL_len (by decide) (by omega)
  refine z_run rfl ?_
  show F_is_figures [some (.str (tx (TL.numL n))), none] = _
  refine z_rt (z_ret (z_andV (a := true) (b := true) (z_B (z_2T rfl rfl ?_)) ?_))
  · show some (!(tx (TL.numL n) == tx [])) = _
    rw [tx_beq, beq_eq_false_iff_ne.mpr (TL.numL_ne n)]
    rfl
  · rw [chars_all (a := 48) (b := 57) (za := "0") (zb := "9") rfl rfl (by omega)]
    congr 2
    refine List.all_eq_true.mpr fun c hc => ?_
    have := digs n c hc
    rw [decide_eq_true this.1, decide_eq_true this.2]
    rfl
theorem there_num {n : Nat} (hn : n ≤ 100000) : gWT [.str (tx (TL.numL n))] = some (.bool false) := by
  have hl : (TL.numL n).length ≤ 6 := TL.numL_len (by decide) (by omega)
  have hz := sizeLine_eq
  have hpos : 0 < (TL.numL n).length := List.length_pos_iff.mpr (TL.numL_ne n)
  refine z_run rfl ?_
  show F_is_word_there [some (.str (tx (TL.numL n))), none] = _
  have hall : fCall gAll (fCons (fComp (fIt (fVar 0)) asOne [1] [1] (fun _ => some true) (fB (fChain gLe gLe (fC (.str "a")) (fVar 1) (fC (.str "z"))))) fNil) [some (.str (tx (TL.numL n))), none] = some (.bool false) := by
    rw [chars_all (a := 97) (b := 122) (za := "a") (zb := "z") rfl rfl (by omega)]
    congr 2
    obtain ⟨d, r, e, h1, h2, _⟩ := numL_head n
    rw [e, List.all_cons, decide_eq_false (by omega)]
    rfl
  have hch : fChain gLt gLt (fC (.int 0)) (fCall gLen (fCons (fVar 0) fNil)) (fC (.int 9)) [some (.str (tx (TL.numL n))), none] = some true := by
    have hlen : fCall gLen (fCons (fVar 0) fNil) [some (.str (tx (TL.numL n))), none] = some (.int ((TL.numL n).length : Nat)) := by
      refine z_call (z_cons rfl rfl) ?_
      show (if (tx (TL.numL n)).length ≤ sizeLine then some (PyData.int (tx (TL.numL n)).length) else none) = _
      rw [tx_len, if_pos (by omega)]
    unfold fChain
    show (fCall gLen (fCons (fVar 0) fNil) [some (.str (tx (TL.numL n))), none]).bind _ = _
    rw [hlen, Option.bind_some]
    show (some (decide ((0 : Int) < ((TL.numL n).length : Nat)))).bind _ = _
    rw [decide_eq_true (by omega), Option.bind_some, if_pos rfl]
    show some (decide (((TL.numL n).length : Int) < 9)) = _
    rw [decide_eq_true (by omega)]
  exact z_rt (z_ifT (z_orF rfl (z_orF (z_not hch) (z_not (z_T hall)))) (z_rt (z_ret rfl)))
theorem int_of_num {n : Nat} (hn : n ≤ 100000) : gInt [.str (tx (TL.numL n))] = some (.int (n : Nat)) := by
  have hl : (TL.numL n).length ≤ 6 := TL.numL_len (by decide) (by omega)
  have e : tx (TL.numL n) = Str.ofString (toString ((n : Nat) : Int)) := by rw [← ofs_nat, tx_of]
  show (if (tx (TL.numL n)).length ≤ 640 then (PySem.intText? (tx (TL.numL n))).map PyData.int else none) = _
  rw [if_pos (by rw [tx_len]; omega), e, TL.int_num (by omega)]
  rfl
/-! ### the words of a side -/
/-- a number's item has an empty name -/
def itemsOf (m : Int) (qs : List SI) : List SI := qs ++ if m ≠ 0 ∨ qs = [] then [((("" : Str), m) : SI)] else []
def wordsI (p : SI) : List (List Nat) := if p.1 = "" then [TL.numL p.2.natAbs] else if p.2 = 1 then [p.1.cps.toList] else [TL.numL p.2.natAbs, p.1.cps.toList]
def joinW : List SI → List (List Nat)
  | [] => []
  | [p] => wordsI p
  | p :: q :: r => wordsI p ++ ([43] :: joinW (q :: r))
def wsD (W : List (List Nat)) : PyData := .list (W.map fun w => .str (tx w))
def ItemOk (p : SI) : Prop := (p.1 = "" ∧ 0 ≤ p.2 ∧ p.2 ≤ 100000) ∨ (p.1 ∈ names3 ∧ 1 ≤ p.2 ∧ p.2 ≤ 100000)
theorem names3_ne : ∀ z ∈ names3, z ≠ "" := by decide +kernel
def WNr : Ev → Nat := fun ev => match (ev[0]? : Option (Option PyData)) with
  | some (some (.list ds)) => ds.length + 1
  | _ => 0
def mkT (W : List (List Nat)) (found : List SI) (at_ : Nat) (o4 o5 : Option PyData) : Ev := [some (wsD W), some (.list (found.map siD)), some (.int (at_ : Nat)), some (.int 1), o4, o5]
abbrev cT : Ev → Option Bool := fT (fC (.bool true))
def bT : Ev → Option OutB := (fSeqB (fSetB 1 4 (fCall gFig (fCons (f2 gIx (fVar 0) (fVar 2)) fNil))) (fSeqB (fIfB (fAnd (fNot (fT (fVar 4))) (fNot (fT (fCall gWT (fCons (f2 gIx (fVar 0) (fVar 2)) fNil))))) (fSeqB (fRetB (fC .none)) fNextB) fNextB) (fSeqB (fSetB 1 5 (f2 gMul (fVar 3) (fIf (fT (fVar 4)) (fCall gInt (fCons (f2 gIx (fVar 0) (fVar 2)) fNil)) (fC (.int 1))))) (fSeqB (fSetB 1 2 (f2 gAdd (fVar 2) (fCall gInt (fCons (fAndV (fVar 4) (fAndV (fB (f2T gLt (f2 gAdd (fVar 2) (fC (.int 1))) (fCall gLen (fCons (fVar 0) fNil)))) (fCall gWT (fCons (f2 gIx (fVar 0) (f2 gAdd (fVar 2) (fC (.int 1)))) fNil)))) fNil)))) (fSeqB (fApp 1 (fTup (fCons (fIf (fT (fCall gWT (fCons (f2 gIx (fVar 0) (fVar 2)) fNil))) (f2 gIx (fVar 0) (fVar 2)) (fC (.str ""))) (fCons (fVar 5) fNil)))) (fSeqB (fIfB (f2T gEq (f2 gAdd (fVar 2) (fC (.int 1))) (fCall gLen (fCons (fVar 0) fNil))) (fSeqB (fRetB (fVar 1)) fNextB) fNextB) (fSeqB (fIfB (fOr (f2T gGe (f2 gAdd (fVar 2) (fC (.int 2))) (fCall gLen (fCons (fVar 0) fNil))) (f2T gNiD (f2 gIx (fVar 0) (f2 gAdd (fVar 2) (fC (.int 1)))) (fTup (fCons (fC (.str "+")) (fCons (fC (.str "-")) fNil))))) (fSeqB (fRetB (fC .none)) fNextB) fNextB) (fSeqB (fParB2 1 2 3 (fCons (f2 gAdd (fVar 2) (fC (.int 2))) (fCons (fIf (f2T gEq (f2 gIx (fVar 0) (f2 gAdd (fVar 2) (fC (.int 1)))) (fC (.str "+"))) (fC (.int 1)) (fNeg (fC (.int 1)))) fNil))) fNextB))))))))
theorem wsD_at {W : List (List Nat)} {k : Nat} {w : List Nat} (h : W[k]? = some w) : gIx (wsD W) (.int (k : Nat)) = some (.str (tx w)) := by
  show atI (W.map fun w => PyData.str (tx w)) (k : Nat) = _
  refine atI_nat ?_
  rw [List.getElem?_map, h]
  rfl
theorem wsD_len (W : List (List Nat)) : gLen [wsD W] = some (.int (W.length : Nat)) := by
  show some (PyData.int (W.map fun w => PyData.str (tx w)).length) = _
  rw [List.length_map]
/-- an item is read: its last word stands at e -/
theorem item_read {W : List (List Nat)} {done : List SI} {at_ e : Nat} {o4 o5 : Option PyData} {p : SI} (hp : ItemOk p) (hd : done.length ≤ 1000) (hW : W.length ≤ 1000)
    (h : (p.1 = "" ∧ e = at_ ∧ W[at_]? = some (TL.numL p.2.natAbs) ∧ at_ + 1 = W.length) ∨ (p.1 ≠ "" ∧ p.2 = 1 ∧ e = at_ ∧ W[at_]? = some p.1.cps.toList) ∨ (p.1 ≠ "" ∧ p.2 ≠ 1 ∧ e = at_ + 1 ∧ W[at_]? = some (TL.numL p.2.natAbs) ∧ W[at_ + 1]? = some p.1.cps.toList)) :
    ∃ b : Bool, bT (mkT W done at_ o4 o5) = ((fSeqB (fIfB (f2T gEq (f2 gAdd (fVar 2) (fC (.int 1))) (fCall gLen (fCons (fVar 0) fNil))) (fSeqB (fRetB (fVar 1)) fNextB) fNextB) (fSeqB (fIfB (fOr (f2T gGe (f2 gAdd (fVar 2) (fC (.int 2))) (fCall gLen (fCons (fVar 0) fNil))) (f2T gNiD (f2 gIx (fVar 0) (f2 gAdd (fVar 2) (fC (.int 1)))) (fTup (fCons (fC (.str "+")) (fCons (fC (.str "-")) fNil))))) (fSeqB (fRetB (fC .none)) fNextB) fNextB) (fSeqB (fParB2 1 2 3 (fCons (f2 gAdd (fVar 2) (fC (.int 2))) (fCons (fIf (f2T gEq (f2 gIx (fVar 0) (f2 gAdd (fVar 2) (fC (.int 1)))) (fC (.str "+"))) (fC (.int 1)) (fNeg (fC (.int 1)))) fNil))) fNextB)))) (mkT W (done ++ [p]) e (some (.bool b)) (some (.int p.2))) := by
  have hz := sizeLine_eq
  have app : ∀ (b : Bool) (z : Str), p.1 = z → fIf (fT (fCall gWT (fCons (f2 gIx (fVar 0) (fVar 2)) fNil))) (f2 gIx (fVar 0) (fVar 2)) (fC (.str "")) [some (wsD W), none, some (.int (e : Nat)), some (.int 1), some (.bool b), some (.int p.2)] = some (.str z) →
      fApp 1 (fTup (fCons (fIf (fT (fCall gWT (fCons (f2 gIx (fVar 0) (fVar 2)) fNil))) (f2 gIx (fVar 0) (fVar 2)) (fC (.str ""))) (fCons (fVar 5) fNil))) [some (wsD W), some (.list (done.map siD)), some (.int (e : Nat)), some (.int 1), some (.bool b), some (.int p.2)] = some (.nx (mkT W (done ++ [p]) e (some (.bool b)) (some (.int p.2)))) := by
    rintro b z rfl h
    have := y_app (i := 1) (ev := [some (wsD W), some (.list (done.map siD)), some (.int (e : Nat)), some (.int 1), some (.bool b), some (.int p.2)]) (f := fTup (fCons (fIf (fT (fCall gWT (fCons (f2 gIx (fVar 0) (fVar 2)) fNil))) (f2 gIx (fVar 0) (fVar 2)) (fC (.str ""))) (fCons (fVar 5) fNil))) (w := siD p) (ws := done.map siD) (z_tup (z_cons h (z_cons rfl rfl)) (by show 2 ≤ sizeLine; decide)) rfl (by rw [List.length_map]; omega)
    rw [this]
    unfold mkT
    rw [List.map_append]
    rfl
  rcases h with ⟨hn, rfl, h0, hlast⟩ | ⟨hn, h1, rfl, h0⟩ | ⟨hn, h1, rfl, h0, h2⟩
  · have hb : 0 ≤ p.2 ∧ p.2 ≤ 100000 := by
      rcases hp with ⟨_, q⟩ | ⟨q, q2⟩
      · exact q
      · omega
    have ew := wsD_at h0
    refine ⟨true, ?_⟩
    unfold bT
    refine y_nx (y_set (z_call (z_cons (z_2 rfl rfl ew) rfl) (fig_num (by omega)))) (y_nx (y_ifF (z_andF rfl) rfl) (y_nx (y_set (w := .int p.2) ?_) (y_nx (y_set (w := .int (e : Nat)) ?_) (y_nx (app true "" hn ?_) rfl))))
    · refine z_2 rfl (z_ifET rfl (z_call (z_cons (z_2 rfl rfl ew) rfl) (int_of_num (by omega)))) ?_
      rw [gMul_ok (by omega) (by omega)]
      congr 2
      omega
    · refine z_2 (u := .int 0) rfl (z_call (z_cons (z_andV (a := true) (b := false) rfl ?_) rfl) rfl) ?_
      · unfold fAndV
        have hlt : f2T gLt (f2 gAdd (fVar 2) (fC (.int 1))) (fCall gLen (fCons (fVar 0) fNil)) [some (wsD W), none, some (.int (e : Nat)), some (.int 1), some (.bool true), some (.int p.2)] = some false := by
          refine z_2T (z_2 rfl rfl rfl) (z_call (z_cons rfl rfl) (wsD_len W)) ?_
          show some (decide (((e : Nat) : Int) + 1 < (W.length : Nat))) = _
          rw [decide_eq_false (by omega)]
        show (fB (f2T gLt (f2 gAdd (fVar 2) (fC (.int 1))) (fCall gLen (fCons (fVar 0) fNil))) [some (wsD W), none, some (.int (e : Nat)), some (.int 1), some (.bool true), some (.int p.2)]).bind _ = _
        rw [z_B hlt]
        rfl
      · show some (PyData.int (((e : Nat) : Int) + 0)) = _
        rw [Int.add_zero]
    · exact z_ifEF (z_T (z_call (z_cons (z_2 rfl rfl ew) rfl) (there_num (by omega)))) rfl
  · have hb : p.1 ∈ names3 := by
      rcases hp with ⟨q, _⟩ | ⟨q, q2⟩
      · exact absurd q hn
      · exact q
    have ew := wsD_at h0
    rw [tx_of] at ew
    refine ⟨false, ?_⟩
    unfold bT
    refine y_nx (y_set (z_call (z_cons (z_2 rfl rfl ew) rfl) (fig_name hb))) (y_nx (y_ifF (z_andT rfl (z_not (z_T (z_call (z_cons (z_2 rfl rfl ew) rfl) (there_ok hb))))) rfl) (y_nx (y_set (w := .int p.2) ?_) (y_nx (y_set (w := .int (e : Nat)) ?_) (y_nx (app false p.1 rfl ?_) rfl))))
    · refine z_2 rfl (z_ifEF rfl rfl) ?_
      rw [gMul_ok (by omega) (by omega), h1]
      rfl
    · refine z_2 (u := .int 0) rfl (z_call (z_cons (w := .bool false) rfl rfl) rfl) ?_
      show some (PyData.int (((e : Nat) : Int) + 0)) = _
      rw [Int.add_zero]
    · exact z_ifET (z_T (z_call (z_cons (z_2 rfl rfl ew) rfl) (there_ok hb))) (z_2 rfl rfl ew)
  · have hb : p.1 ∈ names3 ∧ 1 ≤ p.2 ∧ p.2 ≤ 100000 := by
      rcases hp with ⟨q, _⟩ | q
      · exact absurd q hn
      · exact q
    have ew := wsD_at h0
    have ew2 := wsD_at h2
    rw [tx_of] at ew2
    have hlt2 := (List.getElem?_eq_some_iff.mp h2).1
    refine ⟨true, ?_⟩
    unfold bT
    refine y_nx (y_set (z_call (z_cons (z_2 rfl rfl ew) rfl) (fig_num (by omega)))) (y_nx (y_ifF (z_andF rfl) rfl) (y_nx (y_set (w := .int p.2) ?_) (y_nx (y_set (w := .int ((at_ + 1 : Nat) : Int)) ?_) (y_nx (app true p.1 rfl ?_) rfl))))
    · refine z_2 rfl (z_ifET rfl (z_call (z_cons (z_2 rfl rfl ew) rfl) (int_of_num (by omega)))) ?_
      rw [gMul_ok (by omega) (by omega)]
      congr 2
      omega
    · have hlt : f2T gLt (f2 gAdd (fVar 2) (fC (.int 1))) (fCall gLen (fCons (fVar 0) fNil)) [some (wsD W), none, some (.int (at_ : Nat)), some (.int 1), some (.bool true), some (.int p.2)] = some true := by
        refine z_2T (z_2 rfl rfl rfl) (z_call (z_cons rfl rfl) (wsD_len W)) ?_
        show some (decide (((at_ : Nat) : Int) + 1 < (W.length : Nat))) = _
        rw [decide_eq_true (by omega)]
      refine z_2 (u := .int 1) rfl (z_call (z_cons (z_andV (a := true) (b := true) rfl (z_andV (a := true) (b := true) (z_B hlt) (z_call (z_cons (z_2 rfl (z_2 rfl rfl rfl) ew2) rfl) (there_ok hb.1)))) rfl) rfl) rfl
    · exact z_ifET (z_T (z_call (z_cons (z_2 rfl rfl ew2) rfl) (there_ok hb.1))) (z_2 rfl rfl ew2)
end K87

set_option Elab.async false
set_option linter.all false
set_option maxRecDepth 100000
set_option maxHeartbeats 4000000
namespace K87
open PySem PySem.Spec PyProof.Rows L2 Pu
theorem y_par2 {i j l : Nat} {fs : Ev → Option (List PyData)} {ev : Ev} {u v : PyData} (h : fs (ev.set i none) = some [u, v]) : fParB2 i j l fs ev = some (.nx ((ev.set j (some u)).set l (some v))) := by
  unfold fParB2 evBA
  rw [h]
  rfl
theorem wordsI_len (p : SI) : 1 ≤ (wordsI p).length ∧ (wordsI p).length ≤ 2 := by
  unfold wordsI
  split
  · simp
  · split <;> simp
theorem joinW_ne : ∀ {l : List SI}, l ≠ [] → joinW l ≠ []
  | [], h => absurd rfl h
  | [p], _ => fun e => by
    have := (wordsI_len p).1
    have e : wordsI p = [] := e
    rw [e] at this
    cases this
  | p :: q :: r, _ => by
    show wordsI p ++ ([43] :: joinW (q :: r)) ≠ []
    simp
theorem notin_plus : gNiD (.str (tx [43])) (.tuple [.str "+", .str "-"]) = some false := by
  have h : (match gNiD (.str (tx [43])) (.tuple [.str "+", .str "-"]) with | some b => !b | none => false) = true := by decide +kernel
  split at h
  · rename_i b e
    rw [e]
    cases b
    · rfl
    · cases h
  · cases h
theorem eq_plus : gEq (.str (tx [43])) (.str "+") = some true := by
  have h : (match gEq (.str (tx [43])) (.str "+") with | some b => b | none => false) = true := by decide +kernel
  split at h
  · rename_i b e
    rw [e, h]
  · cases h
theorem loop_read : ∀ (rest : List SI) (p : SI) (done : List SI) (pre W : List (List Nat)) (o4 o5 : Option PyData) (fuel : Nat), (∀ q ∈ p :: rest, ItemOk q) → (∀ q ∈ (p :: rest).dropLast, q.1 ≠ "") → W = pre ++ joinW (p :: rest) → W.length ≤ 1000 → done.length + rest.length ≤ 900 → rest.length < fuel →
    whileB cT bT fuel (mkT W done pre.length o4 o5) = some (.rt (.list ((done ++ p :: rest).map siD)))
  | rest, p, done, pre, W, o4, o5, 0, _, _, _, _, _, hf => absurd hf (Nat.not_lt_zero _)
  | [], p, done, pre, W, o4, o5, fuel + 1, hok, hl, hW, hw, hd, hf => by
    have hp := hok p List.mem_cons_self
    have hW : W = pre ++ wordsI p := hW
    have hn : p.1 ≠ "" → p.1 ∈ names3 := fun h => by
      rcases hp with ⟨q, _⟩ | ⟨q, _⟩
      · exact absurd q h
      · exact q
    obtain ⟨e, he, hcase⟩ : ∃ e, e + 1 = W.length ∧ ((p.1 = "" ∧ e = pre.length ∧ W[pre.length]? = some (TL.numL p.2.natAbs) ∧ pre.length + 1 = W.length) ∨ (p.1 ≠ "" ∧ p.2 = 1 ∧ e = pre.length ∧ W[pre.length]? = some p.1.cps.toList) ∨ (p.1 ≠ "" ∧ p.2 ≠ 1 ∧ e = pre.length + 1 ∧ W[pre.length]? = some (TL.numL p.2.natAbs) ∧ W[pre.length + 1]? = some p.1.cps.toList)) := by
      subst hW
      by_cases h1 : p.1 = ""
      · have ew : wordsI p = [TL.numL p.2.natAbs] := if_pos h1
        rw [ew]
        exact ⟨pre.length, by simp, .inl ⟨h1, rfl, by simp, by simp⟩⟩
      · by_cases h2 : p.2 = 1
        · have ew : wordsI p = [p.1.cps.toList] := by unfold wordsI; rw [if_neg h1, if_pos h2]
          rw [ew]
          exact ⟨pre.length, by simp, .inr (.inl ⟨h1, h2, rfl, by simp⟩)⟩
        · have ew : wordsI p = [TL.numL p.2.natAbs, p.1.cps.toList] := by unfold wordsI; rw [if_neg h1, if_neg h2]
          rw [ew]
          exact ⟨pre.length + 1, by simp, .inr (.inr ⟨h1, h2, rfl, by simp, by simp⟩)⟩
    obtain ⟨b, hb⟩ := item_read (W := W) (done := done) (at_ := pre.length) (o4 := o4) (o5 := o5) hp (by omega) hw hcase
    show (cT (mkT W done pre.length o4 o5)).bind _ = _
    show (bT (mkT W done pre.length o4 o5)).bind _ = _
    rw [hb]
    have hend : f2T gEq (f2 gAdd (fVar 2) (fC (.int 1))) (fCall gLen (fCons (fVar 0) fNil)) (mkT W (done ++ [p]) e (some (.bool b)) (some (.int p.2))) = some true := by
      refine z_2T (z_2 rfl rfl rfl) (z_call (z_cons rfl rfl) (wsD_len W)) ?_
      show some ((((e : Nat) : Int) + 1) == (W.length : Nat)) = _
      have : (((e : Nat) : Int) + 1) = ((W.length : Nat) : Int) := by omega
      rw [this, beq_self_eq_true]
    rw [y_rt (y_ifT hend (y_rt (y_ret (w := .list ((done ++ [p]).map siD)) rfl)))]
    rfl
  | q :: rest, p, done, pre, W, o4, o5, fuel + 1, hok, hl, hW, hw, hd, hf => by
    have hp := hok p List.mem_cons_self
    have h1 : p.1 ≠ "" := hl p (by rw [List.dropLast_cons₂]; exact List.mem_cons_self)
    have hW : W = pre ++ (wordsI p ++ ([43] :: joinW (q :: rest))) := hW
    have hn3 : p.1 ∈ names3 := by
      rcases hp with ⟨q, _⟩ | ⟨q, _⟩
      · exact absurd q h1
      · exact q
    have hjl : 1 ≤ (joinW (q :: rest)).length := List.length_pos_iff.mpr (joinW_ne (by simp))
    obtain ⟨e, he, h43, hlen, hcase⟩ : ∃ e, e = pre.length + (wordsI p).length - 1 ∧ W[e + 1]? = some [43] ∧ e + 2 < W.length ∧ ((p.1 = "" ∧ e = pre.length ∧ W[pre.length]? = some (TL.numL p.2.natAbs) ∧ pre.length + 1 = W.length) ∨ (p.1 ≠ "" ∧ p.2 = 1 ∧ e = pre.length ∧ W[pre.length]? = some p.1.cps.toList) ∨ (p.1 ≠ "" ∧ p.2 ≠ 1 ∧ e = pre.length + 1 ∧ W[pre.length]? = some (TL.numL p.2.natAbs) ∧ W[pre.length + 1]? = some p.1.cps.toList)) := by
      subst hW
      by_cases h2 : p.2 = 1
      · have ew : wordsI p = [p.1.cps.toList] := by unfold wordsI; rw [if_neg h1, if_pos h2]
        rw [ew]
        refine ⟨pre.length, by simp, ?_, ?_, .inr (.inl ⟨h1, h2, rfl, ?_⟩)⟩
        · rw [List.getElem?_append_right (by omega)]; simp
        · simp only [List.length_append, List.length_cons, List.length_nil]; omega
        · rw [List.getElem?_append_right (by omega)]; simp
      · have ew : wordsI p = [TL.numL p.2.natAbs, p.1.cps.toList] := by unfold wordsI; rw [if_neg h1, if_neg h2]
        rw [ew]
        refine ⟨pre.length + 1, by simp, ?_, ?_, .inr (.inr ⟨h1, h2, rfl, ?_, ?_⟩)⟩
        · rw [List.getElem?_append_right (by omega)]
          rw [show pre.length + 1 + 1 - pre.length = 2 by omega]
          rfl
        · simp only [List.length_append, List.length_cons, List.length_nil]; omega
        · rw [List.getElem?_append_right (by omega)]; simp
        · rw [List.getElem?_append_right (by omega)]
          rw [show pre.length + 1 - pre.length = 1 by omega]
          rfl
    obtain ⟨b, hb⟩ := item_read (W := W) (done := done) (at_ := pre.length) (o4 := o4) (o5 := o5) hp (by omega) hw hcase
    show (cT (mkT W done pre.length o4 o5)).bind _ = _
    show (bT (mkT W done pre.length o4 o5)).bind _ = _
    rw [hb]
    have hend : f2T gEq (f2 gAdd (fVar 2) (fC (.int 1))) (fCall gLen (fCons (fVar 0) fNil)) (mkT W (done ++ [p]) e (some (.bool b)) (some (.int p.2))) = some false := by
      refine z_2T (z_2 rfl rfl rfl) (z_call (z_cons rfl rfl) (wsD_len W)) ?_
      show some ((((e : Nat) : Int) + 1) == (W.length : Nat)) = _
      rw [beq_eq_false_iff_ne.mpr (by omega)]
    have e43 := wsD_at h43
    have hix : f2 gIx (fVar 0) (f2 gAdd (fVar 2) (fC (.int 1))) (mkT W (done ++ [p]) e (some (.bool b)) (some (.int p.2))) = some (.str (tx [43])) := z_2 rfl (z_2 rfl rfl rfl) e43
    have hix2 : f2 gIx (fVar 0) (f2 gAdd (fVar 2) (fC (.int 1))) ((mkT W (done ++ [p]) e (some (.bool b)) (some (.int p.2))).set 1 none) = some (.str (tx [43])) := z_2 rfl (z_2 rfl rfl rfl) e43
    have hge : f2T gGe (f2 gAdd (fVar 2) (fC (.int 2))) (fCall gLen (fCons (fVar 0) fNil)) (mkT W (done ++ [p]) e (some (.bool b)) (some (.int p.2))) = some false := by
      refine z_2T (z_2 rfl rfl rfl) (z_call (z_cons rfl rfl) (wsD_len W)) ?_
      show some (decide (((W.length : Nat) : Int) ≤ ((e : Nat) : Int) + 2)) = _
      rw [decide_eq_false (by omega)]
    have hni : f2T gNiD (f2 gIx (fVar 0) (f2 gAdd (fVar 2) (fC (.int 1)))) (fTup (fCons (fC (.str "+")) (fCons (fC (.str "-")) fNil))) (mkT W (done ++ [p]) e (some (.bool b)) (some (.int p.2))) = some false :=
      z_2T hix (z_tup (z_cons rfl (z_cons rfl rfl)) (by show 2 ≤ sizeLine; decide)) notin_plus
    have hpar : (fCons (f2 gAdd (fVar 2) (fC (.int 2))) (fCons (fIf (f2T gEq (f2 gIx (fVar 0) (f2 gAdd (fVar 2) (fC (.int 1)))) (fC (.str "+"))) (fC (.int 1)) (fNeg (fC (.int 1)))) fNil)) ((mkT W (done ++ [p]) e (some (.bool b)) (some (.int p.2))).set 1 none) = some [.int ((e + 2 : Nat) : Int), .int 1] :=
      z_cons (z_2 rfl rfl rfl) (z_cons (z_ifET (z_2T hix2 rfl eq_plus) rfl) rfl)
    rw [y_nx (y_ifF hend rfl) (y_nx (y_ifF (z_orF hge hni) rfl) (y_nx (y_par2 hpar) rfl))]
    have hpl : e + 2 = (pre ++ wordsI p ++ [[43]]).length := by
      have := (wordsI_len p).1
      rw [List.length_append, List.length_append, List.length_singleton]
      omega
    have ih := loop_read rest q (done ++ [p]) (pre ++ wordsI p ++ [[43]]) W (some (.bool b)) (some (.int p.2)) fuel (fun x hx => hok x (List.mem_cons_of_mem _ hx)) (fun x hx => hl x (by rw [List.dropLast_cons₂]; exact List.mem_cons_of_mem _ hx)) (by rw [hW]; simp) hw (by rw [List.length_append, List.length_singleton]; rw [List.length_cons] at hd; omega) (by rw [List.length_cons] at hf; omega)
    rw [← hpl] at ih
    have e2 : done ++ [p] ++ q :: rest = done ++ p :: q :: rest := by simp
    rw [e2] at ih
    exact ih
def gTr : List PyData → Option PyData := runF ["words", "found", "at", "sign", "is_number", "factor"] 1 (F_terms_read gFig gWT WNr)
theorem terms_ok {items : List SI} (hne : items ≠ []) (hok : ∀ q ∈ items, ItemOk q) (hl : ∀ q ∈ items.dropLast, q.1 ≠ "") (hn : items.length ≤ 100) (hW : (joinW items).length ≤ 1000) (hi : items.length ≤ (joinW items).length) : gTr [wsD (joinW items)] = some (.list (items.map siD)) := by
  obtain ⟨p, rest, rfl⟩ : ∃ p rest, items = p :: rest := by
    cases items with
    | nil => exact absurd rfl hne
    | cons p rest => exact ⟨p, rest, rfl⟩
  rw [List.length_cons] at hn hi
  have h := loop_read rest p [] [] (joinW (p :: rest)) none none ((joinW (p :: rest)).length + 1) hok hl rfl hW (by show 0 + _ ≤ _; omega) (by omega)
  refine z_run rfl ?_
  show F_terms_read gFig gWT WNr [some (wsD (joinW (p :: rest))), none, none, none, none, none] = _
  have hw : WNr (mkT (joinW (p :: rest)) [] 0 none none) = (joinW (p :: rest)).length + 1 := by
    show ((joinW (p :: rest)).map fun w => PyData.str (tx w)).length + 1 = _
    rw [List.length_map]
  have hwhile : (fun ev => whileB cT bT (WNr ev) ev) (mkT (joinW (p :: rest)) [] 0 none none) = some (.rt (.list ((p :: rest).map siD))) := by
    show whileB cT bT (WNr (mkT (joinW (p :: rest)) [] 0 none none)) (mkT (joinW (p :: rest)) [] 0 none none) = _
    rw [hw]
    exact h
  show ((fSeqB (fun ev => whileB cT bT (WNr ev) ev) fNextB) (mkT (joinW (p :: rest)) [] 0 none none)).bind (outB 1) = _
  rw [y_rt (F := fun ev => whileB cT bT (WNr ev) ev) hwhile]
  rfl
end K87

set_option Elab.async false
set_option linter.all false
set_option maxRecDepth 100000
set_option maxHeartbeats 4000000
namespace K87
open PySem PySem.Spec PyProof.Rows L2 Pu
/-! ### the text of a side by its words -/
theorem joinL_app : ∀ (a b : List (List Nat)), a ≠ [] → b ≠ [] → TL.joinL [32] (a ++ b) = TL.joinL [32] a ++ ([32] ++ TL.joinL [32] b)
  | [], _, h, _ => absurd rfl h
  | [x], [], _, h => absurd rfl h
  | [x], y :: ys, _, _ => rfl
  | x :: y :: r, b, _, hb => by
    have ih := joinL_app (y :: r) b (by simp) hb
    show x ++ ([32] ++ TL.joinL [32] (y :: r ++ b)) = x ++ ([32] ++ TL.joinL [32] (y :: r)) ++ ([32] ++ TL.joinL [32] b)
    rw [ih]
    simp
def textI (p : SI) : List Nat := TL.joinL [32] (wordsI p)
theorem glue_words : ∀ (l : List SI), TL.joinL [32, 43, 32] (l.map textI) = TL.joinL [32] (joinW l)
  | [] => rfl
  | [p] => rfl
  | p :: q :: r => by
    have ih := glue_words (q :: r)
    have e1 : TL.joinL [32, 43, 32] ((p :: q :: r).map textI) = textI p ++ ([32, 43, 32] ++ TL.joinL [32, 43, 32] ((q :: r).map textI)) := rfl
    have hne := joinW_ne (l := q :: r) (by simp)
    have e2 : TL.joinL [32] (joinW (p :: q :: r)) = textI p ++ ([32] ++ TL.joinL [32] ([[43]] ++ joinW (q :: r))) := by
      show TL.joinL [32] (wordsI p ++ ([43] :: joinW (q :: r))) = _
      exact joinL_app _ _ (fun e => by have := (wordsI_len p).1; rw [e] at this; cases this) (by simp)
    rw [e1, e2, ih, joinL_app [[43]] _ (by simp) hne]
    simp [TL.joinL]
theorem side_words {m : Int} {qs : List SI} (n3 : ∀ p ∈ qs, p.1 ∈ names3) : sideL m qs = TL.joinL [32] (joinW (itemsOf m qs)) := by
  rw [← glue_words]
  unfold sideL partsL itemsOf
  rw [List.map_append, List.map_append, List.map_map]
  congr 2
  · refine List.map_congr_left fun p hp => ?_
    have hn := names3_ne p.1 (n3 p hp)
    show termL p = textI p
    unfold termL textI wordsI
    rw [if_neg hn]
    by_cases h : p.2 = 1
    · rw [if_pos h, if_pos h]; rfl
    · rw [if_neg h, if_neg h]
      show _ = TL.numL p.2.natAbs ++ ([32] ++ p.1.cps.toList)
      simp
  · by_cases h : m ≠ 0 ∨ qs = []
    · rw [if_pos h, if_pos h]; rfl
    · rw [if_neg h, if_neg h]; rfl
/-- the signs of a side's words -/
def chW (c : Nat) : Bool := (48 ≤ c && c ≤ 57) || (97 ≤ c && c ≤ 103) || c == 120 || c == 122 || c == 43
theorem names3_ch : (names3.all fun z => z.cps.toList.all chW) = true := by decide +kernel
theorem item_ch {p : SI} (h : ItemOk p) : ∀ w ∈ wordsI p, (∀ c ∈ w, chW c = true) ∧ w ≠ [] ∧ w.length ≤ 8 := by
  have hnum : ∀ i : Int, 0 ≤ i ∧ i ≤ 100000 → (∀ c ∈ TL.numL i.natAbs, chW c = true) ∧ TL.numL i.natAbs ≠ [] ∧ (TL.numL i.natAbs).length ≤ 8 := fun i hi => by
    refine ⟨fun c hc => ?_, TL.numL_ne _, ?_⟩
    · have := digs _ c hc
      unfold chW
      rw [decide_eq_true this.1, decide_eq_true this.2]
      rfl
    · have := num_len hi; omega
  have hname : p.1 ∈ names3 → (∀ c ∈ p.1.cps.toList, chW c = true) ∧ p.1.cps.toList ≠ [] ∧ p.1.cps.toList.length ≤ 8 := fun hn => by
    refine ⟨fun c hc => List.all_eq_true.mp (List.all_eq_true.mp names3_ch p.1 hn) c hc, ?_⟩
    have : (names3.all fun z => decide (z.cps.toList ≠ []) && decide (z.cps.toList.length ≤ 8)) = true := by decide +kernel
    have := List.all_eq_true.mp this p.1 hn
    rw [Bool.and_eq_true] at this
    exact ⟨of_decide_eq_true this.1, of_decide_eq_true this.2⟩
  intro w hw
  unfold wordsI at hw
  rcases h with ⟨h1, h2⟩ | ⟨h1, h2⟩
  · rw [if_pos h1] at hw
    cases List.mem_singleton.mp hw
    exact hnum p.2 h2
  · rw [if_neg (names3_ne _ h1)] at hw
    split at hw
    · cases List.mem_singleton.mp hw
      exact hname h1
    · rcases List.mem_cons.mp hw with rfl | hw
      · exact hnum p.2 (by omega)
      · cases List.mem_singleton.mp hw
        exact hname h1
theorem joinW_ch : ∀ {l : List SI}, (∀ p ∈ l, ItemOk p) → ∀ w ∈ joinW l, (∀ c ∈ w, chW c = true) ∧ w ≠ [] ∧ w.length ≤ 8
  | [], _, w, h => nomatch h
  | [p], ok, w, h => item_ch (ok p List.mem_cons_self) w h
  | p :: q :: r, ok, w, h => by
    rcases List.mem_append.mp (show w ∈ wordsI p ++ ([43] :: joinW (q :: r)) from h) with h | h
    · exact item_ch (ok p List.mem_cons_self) w h
    · rcases List.mem_cons.mp h with rfl | h
      · exact ⟨fun c hc => by cases List.mem_singleton.mp hc; rfl, by simp, by decide⟩
      · exact joinW_ch (fun x hx => ok x (List.mem_cons_of_mem _ hx)) w h
theorem joinW_len : ∀ {l : List SI}, l.length ≤ (joinW l).length ∧ (joinW l).length ≤ 3 * l.length
  | [] => ⟨Nat.le_refl _, Nat.le_refl _⟩
  | [p] => by have := wordsI_len p; exact ⟨this.1, by show (wordsI p).length ≤ 3; omega⟩
  | p :: q :: r => by
    have ih := joinW_len (l := q :: r)
    have := wordsI_len p
    have e : (joinW (p :: q :: r)).length = (wordsI p).length + ((joinW (q :: r)).length + 1) := by
      show (wordsI p ++ ([43] :: joinW (q :: r))).length = _
      rw [List.length_append, List.length_cons]
    rw [e]
    simp only [List.length_cons] at ih ⊢
    omega
theorem joinL_ch {W : List (List Nat)} (h : ∀ w ∈ W, ∀ c ∈ w, chW c = true) : ∀ c ∈ TL.joinL [32] W, c = 32 ∨ chW c = true := by
  induction W with
  | nil => exact fun c hc => nomatch hc
  | cons x W ih =>
    cases W with
    | nil => exact fun c hc => .inr (h x List.mem_cons_self c hc)
    | cons y ys =>
      intro c hc
      rcases List.mem_append.mp (show c ∈ x ++ ([32] ++ TL.joinL [32] (y :: ys)) from hc) with hc | hc
      · exact .inr (h x List.mem_cons_self c hc)
      · rcases List.mem_append.mp hc with hc | hc
        · exact .inl (List.mem_singleton.mp hc)
        · exact ih (fun w hw => h w (List.mem_cons_of_mem _ hw)) c hc
theorem items_ok {m : Int} {qs : List SI} (S : SideOk m qs) (n3 : ∀ p ∈ qs, p.1 ∈ names3) : (∀ p ∈ itemsOf m qs, ItemOk p) ∧ itemsOf m qs ≠ [] ∧ (itemsOf m qs).length ≤ 8 ∧ ∀ q ∈ (itemsOf m qs).dropLast, q.1 ≠ "" := by
  have hln := S.ln
  refine ⟨fun p hp => ?_, ?_, ?_, fun q hq => ?_⟩
  · rcases List.mem_append.mp hp with h | h
    · exact .inr ⟨n3 p h, S.bd p h⟩
    · split at h
      · cases List.mem_singleton.mp h
        exact .inl ⟨rfl, S.mb⟩
      · cases h
  · unfold itemsOf
    cases qs with
    | nil => simp
    | cons p qs => simp
  · unfold itemsOf
    rw [List.length_append]
    split <;> simp <;> omega
  · unfold itemsOf at hq
    split at hq
    · rw [List.dropLast_concat] at hq
      exact names3_ne _ (n3 q hq)
    · rw [List.append_nil] at hq
      exact names3_ne _ (n3 q (List.dropLast_subset _ hq))
theorem side_ch {m : Int} {qs : List SI} (S : SideOk m qs) (n3 : ∀ p ∈ qs, p.1 ∈ names3) : ∀ c ∈ sideL m qs, c = 32 ∨ chW c = true := by
  rw [side_words n3]
  exact joinL_ch fun w hw => (joinW_ch (items_ok S n3).1 w hw).1
/-! ### split -/
theorem join_tx (W : List (List Nat)) : Txt.join " " (W.map tx) = tx (TL.joinL [32] W) := by
  refine TL.ext_tl ?_
  rw [TL.join_eq, TL.tl_join, List.map_map]
  have e : W.map (TL.tl ∘ tx) = W := by
    have : (TL.tl ∘ tx) = id := by funext l; show (tx l).cps.toList = l; simp [tx]
    rw [this, List.map_id]
  rw [e]
  show TL.joinL [32] W = (tx _).cps.toList
  simp [tx]
theorem split_words {W : List (List Nat)} (hne : W ≠ []) (h : ∀ w ∈ W, 32 ∉ w) : Txt.split (tx (TL.joinL [32] W)) " " = W.map tx := by
  rw [← join_tx]
  refine TL.split_join (y := " ") (s := 32) (S := []) rfl (by decide +kernel) (by simpa using hne) fun p hp => ?_
  obtain ⟨w, hw, rfl⟩ := List.mem_map.mp hp
  have : TL.tl (tx w) = w := by show (tx w).cps.toList = w; simp [tx]
  rw [this]
  exact h w hw
theorem fSplit_at {fo f : Ev → Option PyData} {ev : Ev} {a b : Str} {ys : List Str} (h1 : fo ev = some (.str a)) (h2 : f ev = some (.str b)) (hb : (b.length == 0) = false) (ha : a.length ≤ 1000000) (h : Txt.split a b = ys) : fSplit fo f ev = some (.list (ys.map .str)) := by
  have hz := sizeLine_eq
  unfold fSplit
  rw [h1, h2]
  show (if (b.length == 0) = false ∧ a.length + 2 ≤ sizeLine then some (PyData.list ((Txt.split a b).map .str)) else none) = _
  rw [if_pos ⟨hb, by omega⟩, h]
/-! ### form_read -/
def gFR : List PyData → Option PyData := runF ["text", "is_below", "terms", "pairs", "name", "factor", "form"] 1 (F_form_read gForm gOF gTr)
theorem side_form {m : Int} {qs : List SI} (S : SideOk m qs) (n3 : ∀ p ∈ qs, p.1 ∈ names3) : gOF [rowD m qs] = some (.bool true) :=
  own_form_gen (is_form_gen S.nm (fun p hp => by have := S.bd p hp; omega) S.srt S.ln) n3 S.ln
theorem form_read_ok {m : Int} {qs : List SI} (S : SideOk m qs) (n3 : ∀ p ∈ qs, p.1 ∈ names3) : gFR [.str (tx (sideL m qs))] = some (rowD m qs) := by
  have hz := sizeLine_eq
  obtain ⟨i1, i2, i3, i4⟩ := items_ok S n3
  have hlen := side_len S
  have hch := side_ch S n3
  have jl := joinW_len (l := itemsOf m qs)
  have jch := joinW_ch i1
  have hsw := side_words (m := m) n3
  -- not below
  have hpos : 1 ≤ (sideL m qs).length := by
    obtain ⟨w, W, e⟩ : ∃ w W, joinW (itemsOf m qs) = w :: W := by
      cases h : joinW (itemsOf m qs) with
      | nil => exact absurd h (joinW_ne i2)
      | cons w W => exact ⟨w, W, rfl⟩
    have hw := (jch w (by rw [e]; exact List.mem_cons_self)).2.1
    have h1 : 1 ≤ w.length := List.length_pos_iff.mpr hw
    rw [hsw, e]
    cases W with
    | nil => exact h1
    | cons y ys =>
      show 1 ≤ (w ++ ([32] ++ TL.joinL [32] (y :: ys))).length
      rw [List.length_append]; omega
  have hbelow : fB (f2T gEq (fSl (fVar 0) fO0 (fO (fC (.int 1)))) (fC (.str "-"))) [some (.str (tx (sideL m qs))), none, none, none, none, none, none] = some (.bool false) := by
    have c1 : fSl (fVar 0) fO0 (fO (fC (.int 1))) [some (.str (tx (sideL m qs))), none, none, none, none, none, none] = some (.str (tx ((sideL m qs).take 1))) := by
      show gSl (.str (tx (sideL m qs))) none (some ((1 : Nat) : Int)) = _
      exact gSl_to hpos (by omega)
    refine z_B (z_2T c1 rfl ?_)
    show some (tx ((sideL m qs).take 1) == tx [45]) = _
    rw [tx_beq]
    have : (sideL m qs).take 1 ≠ [45] := fun e => by
      have h45 : 45 ∈ sideL m qs := List.mem_of_mem_take (by rw [e]; exact List.mem_singleton.mpr rfl : 45 ∈ (sideL m qs).take 1)
      rcases hch 45 h45 with h | h
      · omega
      · revert h; decide
    rw [beq_eq_false_iff_ne.mpr this]
  have hsp : fSplit (fIf (fT (fVar 1)) (fSl (fVar 0) (fO (fC (.int 1))) fO0) (fVar 0)) (fC (.str " ")) [some (.str (tx (sideL m qs))), some (.bool false), none, none, none, none, none] = some (wsD (joinW (itemsOf m qs))) := by
    rw [fSplit_at (z_ifEF rfl rfl) rfl (by decide +kernel) (by rw [tx_len]; omega) (ys := (joinW (itemsOf m qs)).map tx) ?_]
    · unfold wsD
      rw [List.map_map]
      rfl
    · rw [hsw]
      refine split_words (joinW_ne i2) fun w hw h32 => ?_
      have := (jch w hw).1 32 h32
      revert this; decide
  have hterms : fCall gTr (fCons (fSplit (fIf (fT (fVar 1)) (fSl (fVar 0) (fO (fC (.int 1))) fO0) (fVar 0)) (fC (.str " "))) fNil) [some (.str (tx (sideL m qs))), some (.bool false), none, none, none, none, none] = some (.list ((itemsOf m qs).map siD)) :=
    z_call (z_cons hsp rfl) (terms_ok i2 i1 i4 (by omega) (by omega) jl.1)
  have hfil : (itemsOf m qs).filter (fun p : SI => decide (p.1 ≠ ("" : Str))) = qs := by
    unfold itemsOf
    rw [List.filter_append, List.filter_eq_self.mpr fun p hp => decide_eq_true (names3_ne _ (n3 p hp))]
    split
    · simp
    · simp
  have hc3 : fComp (fIt (fVar 2)) (asTup 2) [4, 5] [4, 5] (f2T gNe (fVar 4) (fC (.str ""))) (fTup (fCons (fVar 4) (fCons (fVar 5) fNil))) [some (.str (tx (sideL m qs))), some (.bool false), some (.list ((itemsOf m qs).map siD)), none, none, none, none] = some (.list (qs.map siD)) := by
    rw [comp_si (t := fun p : SI => decide (p.1 ≠ ("" : Str))) (e := siD) rfl (by omega), hfil]
    · intro p hp
      refine z_2T rfl rfl ?_
      show some (!(p.1 == "")) = _
      by_cases h : p.1 = ("" : Str)
      · rw [beq_iff_eq.mpr h, decide_eq_false (by simpa using h)]; rfl
      · rw [beq_eq_false_iff_ne.mpr h, decide_eq_true h]; rfl
    · intro p hp _
      exact z_tup (z_cons rfl (z_cons rfl rfl)) (by show 2 ≤ sizeLine; decide)
  have hc6 : fCall gSum (fCons (fComp (fIt (fVar 2)) (asTup 2) [4, 5] [4, 5] (f2T gEq (fVar 4) (fC (.str ""))) (fVar 5)) fNil) [some (.str (tx (sideL m qs))), some (.bool false), some (.list ((itemsOf m qs).map siD)), some (.tuple (qs.map siD)), none, none, none] = some (.int m) := by
    have h0 : fComp (fIt (fVar 2)) (asTup 2) [4, 5] [4, 5] (f2T gEq (fVar 4) (fC (.str ""))) (fVar 5) [some (.str (tx (sideL m qs))), some (.bool false), some (.list ((itemsOf m qs).map siD)), some (.tuple (qs.map siD)), none, none, none] = some (.list (((itemsOf m qs).filter fun p : SI => decide (p.1 = ("" : Str))).map fun p => .int p.2)) := by
      rw [comp_si (t := fun p : SI => decide (p.1 = ("" : Str))) (e := fun p => .int p.2) rfl (by omega)]
      · intro p hp
        refine z_2T rfl rfl ?_
        show some (p.1 == "") = _
        by_cases h : p.1 = ("" : Str)
        · rw [beq_iff_eq.mpr h, decide_eq_true h]
        · rw [beq_eq_false_iff_ne.mpr h, decide_eq_false h]
      · intro p hp _; rfl
    have h1 : (itemsOf m qs).filter (fun p : SI => decide (p.1 = ("" : Str))) = if m ≠ 0 ∨ qs = [] then [((("" : Str), m) : SI)] else [] := by
      unfold itemsOf
      rw [List.filter_append, List.filter_eq_nil_iff.mpr fun p hp h => names3_ne _ (n3 p hp) (of_decide_eq_true h), List.nil_append]
      split <;> simp
    rw [h1] at h0
    refine z_call (z_cons h0 rfl) ?_
    split
    · show some (PyData.int (List.sum [m])) = _
      simp
    · rename_i h
      have hm : m = 0 := Classical.byContradiction fun z => h (.inl z)
      subst hm
      rfl
  refine z_run rfl ?_
  show F_form_read gForm gOF gTr [some (.str (tx (sideL m qs))), none, none, none, none, none, none] = _
  refine z_nx (z_set hbelow) (z_nx (z_set hterms) (z_nx (z_ifF rfl rfl) (z_nx (z_set (z_ifEF rfl rfl)) (z_nx (z_set (z_call (z_cons hc3 rfl) rfl)) (z_nx (z_set (w := rowD m qs) (z_tup (z_cons hc6 (z_cons rfl rfl)) (by show 2 ≤ sizeLine; decide))) (z_rt (z_ret (z_ifET (z_andT (z_T (z_call (z_cons rfl rfl) (side_form S n3))) (z_2T (z_call (z_cons rfl rfl) (form_ok S)) rfl ?_)) rfl))))))))
  show some (tx (sideL m qs) == tx (sideL m qs)) = _
  rw [beq_self_eq_true]
end K87

set_option Elab.async false
set_option linter.all false
set_option maxRecDepth 100000
set_option maxHeartbeats 4000000
/-! A row's text, read as a test. -/
namespace K87
open PySem PySem.Spec PyProof.Rows L2 Pu
/-! ### splitting a row's text -/
theorem pre_no {S p : List Nat} {s : Nat} (hs : s ∈ S) (hp : s ∉ p) (i : Nat) : TL.pre S (p.drop i) = false := by
  cases h : TL.pre S (p.drop i) with
  | false => rfl
  | true =>
    have e : (p.drop i).take S.length = S := eq_of_beq h
    rw [← e] at hs
    exact absurd (List.mem_of_mem_drop (List.mem_of_mem_take hs)) hp
theorem split_none {l : List Nat} {y : Str} {s : Nat} (hs : s ∈ TL.tl y) (hk : y.cps.all (· < 256) = true) (hp : s ∉ l) : Txt.split (tx l) y = [tx l] := by
  refine TL.map_tl_inj ?_
  have e : TL.tl (tx l) = l := by show (tx l).cps.toList = l; simp [tx]
  rw [TL.split_spl _ y (fun z => by rw [z] at hs; cases hs) (TL.kind_ok hk), e, TL.spl_last fun i _ => pre_no hs hp i, List.nil_append]
  show [l] = [TL.tl (tx l)]
  rw [e]
theorem split_ge {A B : List Nat} (hA : 62 ∉ A) (hB : 62 ∉ B) : Txt.split (tx (A ++ [32, 62, 61, 32] ++ B)) " >= " = [tx A, tx B] := by
  refine TL.map_tl_inj ?_
  have e : ∀ l, TL.tl (tx l) = l := fun l => by show (tx l).cps.toList = l; simp [tx]
  have ey : TL.tl (" >= " : Str) = [32, 62, 61, 32] := by decide +kernel
  rw [TL.split_spl _ " >= " (by rw [ey]; simp) (TL.kind_ok (by decide +kernel)), e, ey, List.append_assoc]
  rw [TL.spl_part (S := [32, 62, 61, 32]) (p := A) (rest := B) (acc := []) (by simp) ?_, TL.spl_last fun i _ => pre_no (s := 62) (by simp) hB i]
  · show [A, B] = [TL.tl (tx A), TL.tl (tx B)]
    rw [e, e]
  · intro i hi
    cases h : TL.pre [32, 62, 61, 32] ((A ++ ([32, 62, 61, 32] ++ B)).drop i) with
    | false => rfl
    | true =>
      exfalso
      have h1 : ((A ++ ([32, 62, 61, 32] ++ B)).drop i).take 4 = [32, 62, 61, 32] := eq_of_beq h
      have h2 : (A ++ ([32, 62, 61, 32] ++ B))[i + 1]? = some 62 := by
        have : (((A ++ ([32, 62, 61, 32] ++ B)).drop i).take 4)[1]? = some 62 := by rw [h1]; rfl
        rw [List.getElem?_take, if_pos (by decide), List.getElem?_drop] at this
        exact this
      by_cases hlt : i + 1 < A.length
      · rw [List.getElem?_append_left hlt] at h2
        exact hA (List.mem_of_getElem? h2)
      · have : i + 1 = A.length := by omega
        rw [this, List.getElem?_append_right (Nat.le_refl _), Nat.sub_self] at h2
        cases h2
/-! ### what is shaped -/
theorem names3_str : (names3.all PyData.strOk) = true := by decide +kernel
theorem lay_si : ∀ {qs : List SI}, (∀ p ∈ qs, p.1 ∈ names3) → PyData.canLayAll0 (qs.map siD) = true ∧ PyData.depthAll (qs.map siD) ≤ 1 ∧ PyData.plainAll (qs.map siD) = true
  | [], _ => ⟨rfl, Nat.zero_le _, rfl⟩
  | p :: qs, h => by
    obtain ⟨h1, h2, h3⟩ := lay_si (qs := qs) fun q hq => h q (List.mem_cons_of_mem _ hq)
    have hs := List.all_eq_true.mp names3_str p.1 (h p List.mem_cons_self)
    refine ⟨?_, ?_, ?_⟩
    · rw [List.map_cons, PyData.canLayAll0, h1]
      simp [siD, PyData.canLay0, PyData.canLayAll0, hs]
    · rw [List.map_cons, PyData.depthAll]
      have : (siD p).depth ≤ 1 := by simp [siD, PyData.depth, PyData.depthAll]
      omega
    · rw [List.map_cons, PyData.plainAll, h3]
      rfl
theorem row_lay {n : Int} {qs : List SI} (h : ∀ p ∈ qs, p.1 ∈ names3) : (rowD n qs).canLay0 = true ∧ (rowD n qs).depth ≤ 3 ∧ (rowD n qs).plain = true := by
  obtain ⟨h1, h2, h3⟩ := lay_si h
  refine ⟨?_, ?_, ?_⟩
  · simp [rowD, PyData.canLay0, PyData.canLayAll0, h1]
  · simp [rowD, PyData.depth, PyData.depthAll]
    omega
  · simp [rowD, PyData.plain, PyData.plainAll, h3]
theorem none_in {ds : List PyData} (h : ∀ d ∈ ds, d.canLay0 = true ∧ d.depth ≤ 10 ∧ d.plain = true ∧ PyData.eqv d .none = false) : gInP .none (.list ds) = some false := by
  have h1 : PyData.canLayAll0 ds = true := by
    induction ds with
    | nil => rfl
    | cons d ds ih => rw [PyData.canLayAll0, (h d List.mem_cons_self).1, ih fun x hx => h x (List.mem_cons_of_mem _ hx)]; rfl
  have h2 : PyData.depthAll ds ≤ 10 := by
    induction ds with
    | nil => exact Nat.zero_le _
    | cons d ds ih =>
      have a := (h d List.mem_cons_self).2.1
      have b := ih (fun x hx => h x (List.mem_cons_of_mem _ hx)) (by rw [PyData.canLayAll0, Bool.and_eq_true] at h1; exact h1.2)
      rw [PyData.depthAll]
      omega
  have h3 : PyData.plainAll ds = true := by
    clear h1 h2
    induction ds with
    | nil => rfl
    | cons d ds ih => rw [PyData.plainAll, (h d List.mem_cons_self).2.2.1, ih fun x hx => h x (List.mem_cons_of_mem _ hx)]; rfl
  have h4 : (ds.any fun z => PyData.eqv z .none) = false := by
    rw [List.any_eq_false]
    intro d hd
    rw [(h d hd).2.2.2]
    exact Bool.false_ne_true
  unfold gInP
  have s1 : SeqAt.shaped .none = true := by decide
  have s2 : SeqAt.shaped (.list ds) = true := by
    unfold SeqAt.shaped
    rw [PyData.canLay0, h1, PyData.depth, decide_eq_true (by omega)]
    rfl
  show (if (SeqAt.shaped .none && SeqAt.shaped (.list ds) && PyData.none.plain && PyData.plainAll ds) = true then some (ds.any fun z => PyData.eqv z .none) else none) = _
  rw [s1, s2, h3, h4]
  rfl
/-! ### atom_read -/
theorem comp_two {g : List PyData → Option PyData} {i : Nat} {ev : Ev} {fit : Ev → Option (List PyData)} {x y u v : PyData} (hi : i < ev.length) (hit : fit ev = some [x, y]) (h1 : g [x] = some u) (h2 : g [y] = some v) : fComp fit asOne [i] [i] (fun _ => some true) (fCall g (fCons (fVar i) fNil)) ev = some (.list [u, v]) := by
  have hz := sizeLine_eq
  unfold fComp
  rw [hit, Option.bind_some, if_pos (by show 2 ≤ sizeLine; decide)]
  have hw : i < (wipeE ev [i]).length := by show i < (ev.set i none).length; rw [List.length_set]; exact hi
  have e : ∀ w : PyData, fVar i ((wipeE ev [i]).set i (some w)) = some w := fun w => fVar_set hw
  show ((fCall g (fCons (fVar i) fNil) ((wipeE ev [i]).set i (some x))).bind fun a => (compL asOne [i] (fun _ => some true) (fCall g (fCons (fVar i) fNil)) (wipeE ev [i]) [y]).bind fun as => some (a :: as)).bind _ = _
  rw [z_call (z_cons (e x) rfl) h1, Option.bind_some]
  show (((fCall g (fCons (fVar i) fNil) ((wipeE ev [i]).set i (some y))).bind fun a => some [a]).bind fun as => some (u :: as)).bind _ = _
  rw [z_call (z_cons (e y) rfl) h2]
  rfl
theorem comp_one {fe : Ev → Option PyData} {i : Nat} {ev : Ev} {fit : Ev → Option (List PyData)} {x u : PyData} (hit : fit ev = some [x]) (h1 : fe ((wipeE ev [i]).set i (some x)) = some u) : fComp fit asOne [i] [i] (fun _ => some true) fe ev = some (.list [u]) := by
  unfold fComp
  rw [hit, Option.bind_some, if_pos (by show 1 ≤ sizeLine; decide)]
  show ((fe ((wipeE ev [i]).set i (some x))).bind fun a => some [a]).bind _ = _
  rw [h1]
  rfl
theorem pos_neg {n : Int} {ps : List SI} (R : RowOk n ps) : sortSI (sdP 1 ps ++ (sdP (-1) ps).map fun p => (p.1, -p.2)) = ps := by
  have e1 : sdP 1 ps = ps.filter fun p => decide (0 < p.2 * 1) := by
    unfold sdP
    refine (List.map_congr_left (g := id) fun p hp => ?_).trans (List.map_id _)
    have h := of_decide_eq_true (List.mem_filter.mp hp).2
    show (p.1, (p.2.natAbs : Int)) = p
    exact Prod.ext rfl (by simp only; omega)
  have e2 : (sdP (-1) ps).map (fun p => (p.1, -p.2)) = ps.filter fun p => !decide (0 < p.2 * 1) := by
    unfold sdP
    rw [List.map_map]
    have e3 : ps.filter (fun p => decide (0 < p.2 * -1)) = ps.filter fun p => !decide (0 < p.2 * 1) := by
      refine List.filter_congr fun p hp => ?_
      have := R.nz p hp
      by_cases h : 0 < p.2 * 1
      · rw [decide_eq_true h, decide_eq_false (by omega)]; rfl
      · rw [decide_eq_false h, decide_eq_true (by omega)]; rfl
    rw [e3]
    refine (List.map_congr_left (g := id) fun p hp => ?_).trans (List.map_id _)
    have h := (List.mem_filter.mp hp).2
    have h : ¬ 0 < p.2 * 1 := by simpa using h
    show (p.1, -(p.2.natAbs : Int)) = p
    exact Prod.ext rfl (by simp only; omega)
  have hs : SrtO.Srtd ltSI ps := R.srt.imp fun {a b} h => by
    rw [Bool.eq_false_iff]
    intro z
    rcases ltSI_iff.mp z with w | ⟨w, _⟩
    · exact List.lt_irrefl _ (List.lt_trans h w)
    · rw [w] at h; exact List.lt_irrefl _ h
  rw [e1, e2]
  exact (sortSI_uniq hs (List.filter_append_perm _ ps).symm).symm
def gAR (m k : Nat) : List PyData → Option PyData := runF ["text", "word", "sign", "sides", "part", "pairs", "name", "factor", "test"] 1 (F_atom_read (gTold k) (gTs m k) gFR)
theorem sd3 {sg : Int} {ps : List SI} (n3 : ∀ p ∈ ps, p.1 ∈ names3) : ∀ p ∈ sdP sg ps, p.1 ∈ names3 := fun p hp => by
  obtain ⟨q, hq, rfl⟩ := List.mem_map.mp hp
  exact n3 q (List.mem_filter.mp hq).1
theorem no62 {m : Int} {qs : List SI} (S : SideOk m qs) (n3 : ∀ p ∈ qs, p.1 ∈ names3) : 62 ∉ sideL m qs := fun h => by
  rcases side_ch S n3 62 h with h | h
  · omega
  · revert h; decide
theorem row_len {n : Int} {ps : List SI} (R : RowOk n ps) : (rowL n ps).length ≤ 404 := by
  have l1 := side_len (R.side (.inl rfl))
  have l2 := side_len (R.side (.inr rfl))
  unfold rowL
  rw [List.length_append, List.length_append]
  show _ + 4 + _ ≤ _
  omega
theorem atom_read_ok {n : Int} {ps : List SI} (R : RowOk n ps) (n3 : ∀ p ∈ ps, p.1 ∈ names3) (m k : Nat) : gAR m (k + 1) [.str (tx (rowL n ps))] = some (leastD n ps) := by
  have hz := sizeLine_eq
  have S1 := R.side (.inl rfl)
  have S2 := R.side (.inr rfl)
  have a3 := sd3 (sg := 1) n3
  have b3 := sd3 (sg := -1) n3
  have hl := row_len R
  have hln := R.ln
  refine z_run rfl ?_
  show F_atom_read (gTold (k + 1)) (gTs m (k + 1)) gFR [some (.str (tx (rowL n ps))), none, none, none, none, none, none, none, none] = _
  have h0 : f2T gEq (fVar 0) (fC (.str "maybe")) [some (.str (tx (rowL n ps))), none, none, none, none, none, none, none, none] = some false := by
    refine z_2T rfl rfl ?_
    show some (tx (rowL n ps) == tx [109, 97, 121, 98, 101]) = _
    have : rowL n ps ≠ [109, 97, 121, 98, 101] := fun e => by
      have h62 : 62 ∈ rowL n ps := by unfold rowL; simp
      rw [e] at h62
      revert h62; decide
    rw [tx_beq, beq_eq_false_iff_ne.mpr this]
  refine z_nx (z_ifF h0 rfl) ?_
  refine z_rt ?_
  have hsplit : fIt (fSplit (fVar 0) (fVar 2)) [some (.str (tx (rowL n ps))), some (.str "least"), some (.str " >= "), none, none, none, none, none, none] = some [.str (tx (sideL (sdN 1 n) (sdP 1 ps))), .str (tx (sideL (sdN (-1) n) (sdP (-1) ps)))] := by
    unfold fIt
    rw [fSplit_at (a := tx (rowL n ps)) rfl rfl (by decide +kernel) (by rw [tx_len]; omega) (split_ge (no62 S1 a3) (no62 S2 b3))]
    rfl
  have hsides : fComp (fIt (fSplit (fVar 0) (fVar 2))) asOne [4] [4] (fun _ => some true) (fCall gFR (fCons (fVar 4) fNil)) [some (.str (tx (rowL n ps))), some (.str "least"), some (.str " >= "), none, none, none, none, none, none] = some (.list [rowD (sdN 1 n) (sdP 1 ps), rowD (sdN (-1) n) (sdP (-1) ps)]) :=
    comp_two (by show 4 < 9; decide) hsplit (form_read_ok S1 a3) (form_read_ok S2 b3)
  have hni : gNiP .none (.list [rowD (sdN 1 n) (sdP 1 ps), rowD (sdN (-1) n) (sdP (-1) ps)]) = some true := by
    unfold gNiP
    rw [none_in]
    · rfl
    · intro d hd
      rcases List.mem_cons.mp hd with rfl | hd
      · obtain ⟨x, y, z⟩ := row_lay (n := sdN 1 n) a3
        exact ⟨x, by omega, z, rfl⟩
      · cases List.mem_singleton.mp hd
        obtain ⟨x, y, z⟩ := row_lay (n := sdN (-1) n) b3
        exact ⟨x, by omega, z, rfl⟩
  have hsort : ∀ (ev : Ev), ev = [some (.str (tx (rowL n ps))), some (.str "least"), some (.str " >= "), some (.list [rowD (sdN 1 n) (sdP 1 ps), rowD (sdN (-1) n) (sdP (-1) ps)]), none, none, none, none, none] → fCall gSortSI (fCons (fLst (fStar (f2 gIx (f2 gIx (fVar 3) (fC (.int 0))) (fC (.int 1))) (fStar (fComp (fIt (f2 gIx (f2 gIx (fVar 3) (fC (.int 1))) (fC (.int 1)))) (asTup 2) [6, 7] [6, 7] (fun _ => some true) (fTup (fCons (fVar 6) (fCons (fNeg (fVar 7)) fNil)))) fNil))) fNil) ev = some (.list (ps.map siD)) := by
    rintro ev rfl
    have hc : fComp (fIt (f2 gIx (f2 gIx (fVar 3) (fC (.int 1))) (fC (.int 1)))) (asTup 2) [6, 7] [6, 7] (fun _ => some true) (fTup (fCons (fVar 6) (fCons (fNeg (fVar 7)) fNil))) [some (.str (tx (rowL n ps))), some (.str "least"), some (.str " >= "), some (.list [rowD (sdN 1 n) (sdP 1 ps), rowD (sdN (-1) n) (sdP (-1) ps)]), none, none, none, none, none] = some (.list (((sdP (-1) ps).map fun p => (p.1, -p.2)).map siD)) := by
      rw [comp_si (t := fun _ => true) (e := fun p => siD (p.1, -p.2)) (ps := sdP (-1) ps) rfl (by have := S2.ln; omega) (fun _ _ => rfl) fun p hp _ => z_tup (z_cons rfl (z_cons rfl rfl)) (by show 2 ≤ sizeLine; decide), filter_true, List.map_map]
      rfl
    have hst : fStar (f2 gIx (f2 gIx (fVar 3) (fC (.int 0))) (fC (.int 1))) (fStar (fComp (fIt (f2 gIx (f2 gIx (fVar 3) (fC (.int 1))) (fC (.int 1)))) (asTup 2) [6, 7] [6, 7] (fun _ => some true) (fTup (fCons (fVar 6) (fCons (fNeg (fVar 7)) fNil)))) fNil) [some (.str (tx (rowL n ps))), some (.str "least"), some (.str " >= "), some (.list [rowD (sdN 1 n) (sdP 1 ps), rowD (sdN (-1) n) (sdP (-1) ps)]), none, none, none, none, none] = some ((sdP 1 ps ++ (sdP (-1) ps).map fun p => (p.1, -p.2)).map siD) := by
      have h1 : f2 gIx (f2 gIx (fVar 3) (fC (.int 0))) (fC (.int 1)) [some (.str (tx (rowL n ps))), some (.str "least"), some (.str " >= "), some (.list [rowD (sdN 1 n) (sdP 1 ps), rowD (sdN (-1) n) (sdP (-1) ps)]), none, none, none, none, none] = some (.tuple ((sdP 1 ps).map siD)) := rfl
      unfold fStar
      rw [h1, hc]
      show some ((sdP 1 ps).map siD ++ (((sdP (-1) ps).map fun p => (p.1, -p.2)).map siD ++ [])) = _
      rw [List.append_nil, List.map_append]
    refine z_call (z_cons (z_lst hst ?_) rfl) ?_
    · have h1 := S1.ln
      have h2 := S2.ln
      rw [List.length_map, List.length_append, List.length_map]
      omega
    · show (asSIs ((sdP 1 ps ++ (sdP (-1) ps).map fun p => (p.1, -p.2)).map siD)).map (fun ps => PyData.list ((sortSI ps).map siD)) = _
      rw [asSIs_of, Option.map_some, pos_neg R]
  have hsub : gSub (.int (sdN 1 n)) (.int (sdN (-1) n)) = some (.int n) := by
    show some (PyData.int (sdN 1 n - sdN (-1) n)) = _
    congr 2
    unfold sdN
    split <;> split <;> omega
  unfold fFor
  show (forL (asTup 2) [1, 2] _ [.tuple [.str "least", .str " >= "], .tuple [.str "is", .str " == "], .tuple [.str "not", .str " != "]] [some (.str (tx (rowL n ps))), none, none, none, none, none, none, none, none]) = _
  have hbody : (fSeq (fSet 3 (fComp (fIt (fSplit (fVar 0) (fVar 2))) asOne [4] [4] (fun _ => some true) (fCall gFR (fCons (fVar 4) fNil)))) (fSeq (fIfS (fAnd (f2T gEq (fCall gLen (fCons (fVar 3) fNil)) (fC (.int 2))) (f2T gNiP (fC .none) (fVar 3))) (fSeq (fSet 5 (fCall gSortSI (fCons (fLst (fStar (f2 gIx (f2 gIx (fVar 3) (fC (.int 0))) (fC (.int 1))) (fStar (fComp (fIt (f2 gIx (f2 gIx (fVar 3) (fC (.int 1))) (fC (.int 1)))) (asTup 2) [6, 7] [6, 7] (fun _ => some true) (fTup (fCons (fVar 6) (fCons (fNeg (fVar 7)) fNil)))) fNil))) fNil))) (fSeq (fSet 8 (fTup (fCons (fVar 1) (fCons (fTup (fCons (f2 gSub (f2 gIx (f2 gIx (fVar 3) (fC (.int 0))) (fC (.int 0))) (f2 gIx (f2 gIx (fVar 3) (fC (.int 1))) (fC (.int 0)))) (fCons (fCall gTuple (fCons (fVar 5) fNil)) fNil))) fNil)))) (fSeq (fRet (fIf (fAnd (fT (fCall (gTs m (k + 1)) (fCons (fVar 8) fNil))) (f2T gEq (fCall (gTold (k + 1)) (fCons (fVar 8) fNil)) (fVar 0))) (fVar 8) (fC .none))) fNext))) fNext) fNext)) [some (.str (tx (rowL n ps))), some (.str "least"), some (.str " >= "), none, none, none, none, none, none] = some (.rt (leastD n ps)) := by
    refine z_nx (z_set hsides) (z_rt (z_ifT (z_andT rfl (z_2T rfl rfl hni)) ?_))
    refine z_nx (z_set (hsort _ rfl)) (z_nx (z_set (w := leastD n ps) (z_tup (z_cons rfl (z_cons (z_tup (z_cons (z_2 (w := .int (sdN 1 n)) (u := .int (sdN (-1) n)) rfl rfl hsub) (z_cons (z_call (z_cons rfl rfl) rfl) rfl)) (by show 2 ≤ sizeLine; decide)) rfl)) (by show 2 ≤ sizeLine; decide))) (z_rt (z_ret (z_ifET (z_andT (z_T (z_call (z_cons rfl rfl) (is_test_gen (own_form_gen (is_form_ok R) n3 R.ln) m k))) (z_2T (z_call (z_cons rfl rfl) (told_ok R k)) rfl ?_)) rfl))))
    show some (tx (rowL n ps) == tx (rowL n ps)) = _
    rw [beq_self_eq_true]
  show ((_ : Option Out)).bind _ = _
  rw [show setAllE [some (.str (tx (rowL n ps))), none, none, none, none, none, none, none, none] ([1, 2].zip [.str "least", .str " >= "]) = [some (.str (tx (rowL n ps))), some (.str "least"), some (.str " >= "), none, none, none, none, none, none] from rfl]
  rw [hbody]
  rfl
/-! ### test_read, read_test -/
def gJo : List PyData → Option PyData := runF ["word", "parts", "found", "part"] 2 F_joined
theorem joined_one {n : Int} {ps : List SI} (n3 : ∀ p ∈ ps, p.1 ∈ names3) (z : Str) : gJo [.str z, .list [leastD n ps]] = some (leastD n ps) := by
  obtain ⟨x, y, w⟩ := row_lay (n := n) n3
  have hin : gInP .none (.list [leastD n ps]) = some false := none_in fun d hd => by
    cases List.mem_singleton.mp hd
    refine ⟨?_, ?_, ?_, rfl⟩
    · unfold leastD
      rw [PyData.canLay0, PyData.canLayAll0, PyData.canLayAll0, x]
      decide +kernel
    · unfold leastD
      rw [PyData.depth, PyData.depthAll, PyData.depthAll, PyData.depthAll, PyData.depth]
      omega
    · unfold leastD
      rw [PyData.plain, PyData.plainAll, PyData.plainAll, w]
      rfl
  refine z_run rfl ?_
  show F_joined [some (.str z), some (.list [leastD n ps]), none, none] = _
  refine z_nx (z_ifF (z_2T rfl rfl hin) rfl) (z_nx (z_set (z_2 rfl rfl (atI_first _ _))) (z_nx (ev' := [some (.str z), some (.list [leastD n ps]), some (leastD n ps), none]) ?_ (z_rt (z_ret rfl))))
  unfold fFor
  have hit : fIt (fSl (fVar 1) (fO (fC (.int 1))) fO0) [some (.str z), some (.list [leastD n ps]), some (leastD n ps), none] = some [] := by
    show some (cutL [leastD n ps] (some 1) none) = _
    rw [cut_tail]
  show (fIt (fSl (fVar 1) (fO (fC (.int 1))) fO0) [some (.str z), some (.list [leastD n ps]), some (leastD n ps), none]).bind _ = _
  rw [hit]
  rfl
def gTR (m k : Nat) : List PyData → Option PyData := runF ["text", "lots", "part", "lot"] 1 (F_test_read gJo (gAR m k))
def gRT (m k : Nat) : List PyData → Option PyData := runF ["text", "test"] 1 (F_read_test (gTR m k) gChk)
theorem row_ch {n : Int} {ps : List SI} (R : RowOk n ps) (n3 : ∀ p ∈ ps, p.1 ∈ names3) : ∀ c ∈ rowL n ps, c = 32 ∨ c = 61 ∨ c = 62 ∨ chW c = true := by
  intro c hc
  unfold rowL at hc
  rcases List.mem_append.mp hc with hc | hc
  · rcases List.mem_append.mp hc with hc | hc
    · rcases side_ch (R.side (.inl rfl)) (sd3 n3) c hc with h | h
      · exact .inl h
      · exact .inr (.inr (.inr h))
    · simp only [List.mem_cons, List.not_mem_nil, or_false] at hc
      omega
  · rcases side_ch (R.side (.inr rfl)) (sd3 n3) c hc with h | h
    · exact .inl h
    · exact .inr (.inr (.inr h))
theorem chW_le {c : Nat} (h : chW c = true) : 43 ≤ c ∧ c ≤ 122 ∧ c ≠ 110 ∧ c ≠ 111 := by
  unfold chW at h
  simp only [Bool.or_eq_true, Bool.and_eq_true, decide_eq_true_eq, beq_iff_eq] at h
  omega
theorem test_read_ok {n : Int} {ps : List SI} (R : RowOk n ps) (n3 : ∀ p ∈ ps, p.1 ∈ names3) (m k : Nat) : gTR m (k + 1) [.str (tx (rowL n ps))] = some (leastD n ps) := by
  have hl := row_len R
  have hc := row_ch R n3
  have h111 : 111 ∉ rowL n ps := fun h => by
    rcases hc _ h with h | h | h | h
    · omega
    · omega
    · omega
    · exact (chW_le h).2.2.2 rfl
  have h110 : 110 ∉ rowL n ps := fun h => by
    rcases hc _ h with h | h | h | h
    · omega
    · omega
    · omega
    · exact (chW_le h).2.2.1 rfl
  refine z_run rfl ?_
  show F_test_read gJo (gAR m (k + 1)) [some (.str (tx (rowL n ps))), none, none, none] = _
  have hin : fComp (fIt (fSplit (fVar 3) (fC (.str " and ")))) asOne [2] [2] (fun _ => some true) (fCall (gAR m (k + 1)) (fCons (fVar 2) fNil)) [some (.str (tx (rowL n ps))), none, none, some (.str (tx (rowL n ps)))] = some (.list [leastD n ps]) := by
    refine comp_one (x := .str (tx (rowL n ps))) ?_ (z_call (z_cons (w := .str (tx (rowL n ps))) rfl rfl) (atom_read_ok R n3 m k))
    unfold fIt
    rw [fSplit_at rfl rfl (by decide +kernel) (by rw [tx_len]; omega) (split_none (s := 110) (by decide +kernel) (by decide +kernel) h110)]
    rfl
  have hout : fComp (fIt (fSplit (fVar 0) (fC (.str " or ")))) asOne [3] [3] (fun _ => some true) (fCall gJo (fCons (fC (.str "both")) (fCons (fComp (fIt (fSplit (fVar 3) (fC (.str " and ")))) asOne [2] [2] (fun _ => some true) (fCall (gAR m (k + 1)) (fCons (fVar 2) fNil))) fNil))) [some (.str (tx (rowL n ps))), none, none, none] = some (.list [leastD n ps]) := by
    refine comp_one (x := .str (tx (rowL n ps))) ?_ (z_call (z_cons rfl (z_cons hin rfl)) (joined_one n3 _))
    unfold fIt
    rw [fSplit_at rfl rfl (by decide +kernel) (by rw [tx_len]; omega) (split_none (s := 111) (by decide +kernel) (by decide +kernel) h111)]
    rfl
  exact z_nx (z_set hout) (z_rt (z_ret (z_call (z_cons rfl (z_cons rfl rfl)) (joined_one n3 _))))
theorem read_test_ok {n : Int} {ps : List SI} (R : RowOk n ps) (n3 : ∀ p ∈ ps, p.1 ∈ names3) (m k : Nat) : gRT m (k + 1) [.str (tx (rowL n ps))] = some (leastD n ps) := by
  have hl := row_len R
  have hc := check_ok (l := rowL n ps) (fun c hc => by
    rcases row_ch R n3 c hc with h | h | h | h
    · exact ⟨by omega, by omega⟩
    · exact ⟨by omega, by omega⟩
    · exact ⟨by omega, by omega⟩
    · have := chW_le h; exact ⟨by omega, by omega⟩) (by omega)
  refine z_run rfl ?_
  show F_read_test (gTR m (k + 1)) gChk [some (.str (tx (rowL n ps))), none] = _
  refine z_nx (ev' := [some (.str (tx (rowL n ps))), none]) ?_ (z_nx (z_set (z_call (z_cons rfl rfl) (test_read_ok R n3 m k))) (z_nx (z_ifF rfl rfl) (z_rt (z_ret rfl))))
  unfold fExp
  rw [z_call (z_cons rfl rfl) hc]
  rfl
end K87

set_option Elab.async false
set_option linter.all false
set_option maxRecDepth 100000
set_option maxHeartbeats 4000000
/-! The law's own forms. -/
namespace K87
open PySem PySem.Spec PyProof.Rows L2 Pu
/-- a form within bounds -/
structure FOk (n : Int) (ps : List SI) (N B : Int) (L : Nat) : Prop where
  nm : ∀ p ∈ ps, p.1 ∈ names7
  nz : ∀ p ∈ ps, p.2 ≠ 0
  bd : ∀ p ∈ ps, -B ≤ p.2 ∧ p.2 ≤ B
  nb : -N ≤ n ∧ n ≤ N
  srt : ps.Pairwise fun p q => p.1.cps.toList < q.1.cps.toList
  ln : ps.length ≤ L
theorem FOk.row {n : Int} {ps : List SI} {N B : Int} {L : Nat} (F : FOk n ps N B L) (hN : N ≤ 100000) (hB : B ≤ 100000) (hL : L ≤ 7) : RowOk n ps :=
  ⟨F.nm, F.nz, fun p hp => by have := F.bd p hp; omega, by have := F.nb; omega, F.srt, Nat.le_trans F.ln hL⟩
/-! ### the dict of sums, by its entries -/
def enK (e : SI) : Key × V := (.inr e.1, .int e.2)
def enD (e : SI) : PyData × PyData := (.str e.1, .int e.2)
def getE (es : List SI) (z : Str) : Option Int := (es.find? fun e => decide (e.1 = z)).map (·.2)
def putE (es : List SI) (z : Str) (i : Int) : List SI := if (es.any fun e => decide (e.1 = z)) = true then es.map (fun e => if e.1 = z then (e.1, i) else e) else es ++ [(z, i)]
theorem inr_dec (a b : Str) : decide ((Sum.inr a : Key) = Sum.inr b) = decide (a = b) := by
  by_cases h : a = b
  · subst h; simp
  · rw [decide_eq_false h, decide_eq_false fun z => h (Sum.inr.inj z)]
theorem valV_en (z : Str) : ∀ es : List SI, valV (es.map enK) (.inr z) = (getE es z).map .int
  | [] => rfl
  | e :: es => by
    by_cases h : e.1 = z
    · have h1 : valV ((e :: es).map enK) (.inr z) = some (.int e.2) := valV_pos (p := enK e) (by show (Sum.inr e.1 : Key) = _; rw [h])
      have h2 : getE (e :: es) z = some e.2 := by unfold getE; rw [List.find?_cons_of_pos (by rw [decide_eq_true h])]; rfl
      rw [h1, h2]
      rfl
    · have h1 : valV ((e :: es).map enK) (.inr z) = valV (es.map enK) (.inr z) := valV_neg (p := enK e) (fun q => h (Sum.inr.inj q))
      have h2 : getE (e :: es) z = getE es z := by unfold getE; rw [List.find?_cons_of_neg (by rw [decide_eq_false h]; exact Bool.false_ne_true)]
      rw [h1, h2, valV_en z es]
theorem putK_en (es : List SI) (z : Str) (i : Int) : putK (es.map enK) (.inr z) (.int i) = (putE es z i).map enK := by
  have ha : ((es.map enK).any fun kv => decide (kv.1 = (Sum.inr z : Key))) = es.any fun e => decide (e.1 = z) := by
    rw [List.any_map]
    congr 1
    funext e
    exact inr_dec e.1 z
  unfold putK putE
  rw [ha]
  split
  · rw [List.map_map, List.map_map]
    refine List.map_congr_left fun e _ => ?_
    show (if (Sum.inr e.1 : Key) = Sum.inr z then _ else _) = enK (if e.1 = z then (e.1, i) else e)
    by_cases h : e.1 = z
    · rw [if_pos h, if_pos (by rw [h])]
      rfl
    · rw [if_neg h, if_neg fun q => h (Sum.inr.inj q)]
  · rw [List.map_append]
    rfl
structure EOk (es : List SI) (B : Int) (c : Nat) : Prop where
  nm : ∀ e ∈ es, e.1 ∈ names7
  bd : ∀ e ∈ es, -(B * c) ≤ e.2 ∧ e.2 ≤ B * c
  nd : (es.map (·.1)).Nodup
  ln : es.length ≤ c
theorem getE_mem {es : List SI} {z : Str} {i : Int} (h : getE es z = some i) : (z, i) ∈ es := by
  unfold getE at h
  obtain ⟨e, h1, h2⟩ := Option.map_eq_some_iff.mp h
  have h3 : e.1 = z := of_decide_eq_true (p := e.1 = z) (List.find?_some (p := fun e : SI => decide (e.1 = z)) h1)
  have h4 := List.mem_of_find?_eq_some h1
  subst h2 h3
  exact h4
theorem mem_getE : ∀ {es : List SI} {z : Str}, z ∈ es.map (·.1) → ∃ i, getE es z = some i
  | e :: es, z, h => by
    by_cases hz : e.1 = z
    · exact ⟨e.2, by unfold getE; rw [List.find?_cons_of_pos (by rw [decide_eq_true hz])]; rfl⟩
    · have h : z ∈ es.map (·.1) := by
        rcases List.mem_cons.mp h with h | h
        · exact absurd h.symm hz
        · exact h
      obtain ⟨i, hi⟩ := mem_getE h
      exact ⟨i, by unfold getE at hi ⊢; rw [List.find?_cons_of_neg (by rw [decide_eq_false hz]; exact Bool.false_ne_true)]; exact hi⟩
theorem EOk.put {es : List SI} {B : Int} {c : Nat} (E : EOk es B c) (hB : 0 ≤ B) {z : Str} {f : Int} (hz : z ∈ names7) (hf : -B ≤ f ∧ f ≤ B) : EOk (putE es z ((getE es z).getD 0 + f)) B (c + 1) := by
  have hmul : B * ((c + 1 : Nat) : Int) = B * c + B := by rw [Int.natCast_add, Int.mul_add]; simp
  have h0 : 0 ≤ B * (c : Int) := Int.mul_nonneg hB (Int.natCast_nonneg c)
  have hv : -(B * c) ≤ (getE es z).getD 0 ∧ (getE es z).getD 0 ≤ B * c := by
    cases h : getE es z with
    | none => exact ⟨by show -(B * c) ≤ 0; omega, by show 0 ≤ B * c; omega⟩
    | some i => exact E.bd (z, i) (getE_mem h)
  have hn : -(B * ((c + 1 : Nat) : Int)) ≤ (getE es z).getD 0 + f ∧ (getE es z).getD 0 + f ≤ B * ((c + 1 : Nat) : Int) := by rw [hmul]; omega
  unfold putE
  split
  · rename_i hany
    refine ⟨fun e he => ?_, fun e he => ?_, ?_, by rw [List.length_map]; exact Nat.le_succ_of_le E.ln⟩
    · obtain ⟨e', h1, rfl⟩ := List.mem_map.mp he
      split
      · exact E.nm e' h1
      · exact E.nm e' h1
    · obtain ⟨e', h1, rfl⟩ := List.mem_map.mp he
      split
      · exact hn
      · have := E.bd e' h1
        rw [hmul]
        omega
    · have e : (es.map fun e => if e.1 = z then (e.1, (getE es z).getD 0 + f) else e).map (·.1) = es.map (·.1) := by
        rw [List.map_map]
        refine List.map_congr_left fun e _ => ?_
        show (if e.1 = z then (e.1, (getE es z).getD 0 + f) else e).1 = e.1
        split <;> rfl
      rw [e]
      exact E.nd
  · rename_i hany
    refine ⟨fun e he => ?_, fun e he => ?_, ?_, by rw [List.length_append, List.length_singleton]; exact Nat.succ_le_succ E.ln⟩
    · rcases List.mem_append.mp he with h | h
      · exact E.nm e h
      · cases List.mem_singleton.mp h; exact hz
    · rcases List.mem_append.mp he with h | h
      · have := E.bd e h
        rw [hmul]
        omega
      · cases List.mem_singleton.mp h; exact hn
    · rw [List.map_append, List.nodup_append]
      refine ⟨E.nd, by simp, fun a ha b hb => ?_⟩
      cases List.mem_singleton.mp hb
      intro q
      subst q
      obtain ⟨e, h1, h2⟩ := List.mem_map.mp ha
      refine hany (List.any_eq_true.mpr ⟨e, h1, ?_⟩)
      exact decide_eq_true h2
/-! ### what the entries come to -/
theorem sortS_perm (zs : List Str) : (sortS zs).Perm zs := by
  have h := (sortSI_perm (zs.map fun z => (z, (0 : Int)))).map (·.1)
  rw [List.map_map] at h
  have e : zs.map ((fun x : SI => x.1) ∘ fun z => (z, (0 : Int))) = zs := List.map_id _
  rw [e] at h
  exact h
theorem sortS_lt {zs : List Str} (h : zs.Nodup) : (sortS zs).Pairwise fun a b => a.cps.toList < b.cps.toList := by
  have hnd : (sortS zs).Nodup := (sortS_perm zs).nodup_iff.mpr h
  have hs : (sortS zs).Pairwise fun a b => ¬ b.cps.toList < a.cps.toList := by
    unfold sortS
    rw [List.pairwise_map]
    refine (sortSI_srtd _).imp fun {a b} q w => ?_
    rw [ltSI_iff.mpr (.inl w)] at q
    cases q
  refine (hnd.and hs).imp fun {a b} q => ?_
  refine Classical.byContradiction fun w => q.1 ?_
  exact str_ext (List.le_antisymm (List.not_lt.mp q.2) (List.not_lt.mp w))
def sumsOf (es : List SI) : List SI := ((sortS (es.map (·.1))).filter fun z => decide ((getE es z).getD 0 ≠ 0)).map fun z => (z, (getE es z).getD 0)
theorem sums_ok {es : List SI} {B : Int} {c : Nat} (E : EOk es B c) {n N : Int} (hn : -N ≤ n ∧ n ≤ N) : FOk n (sumsOf es) N (B * c) c := by
  have mem : ∀ p ∈ sumsOf es, p ∈ es ∧ p.2 ≠ 0 := fun p hp => by
    obtain ⟨z, hz, rfl⟩ := List.mem_map.mp hp
    obtain ⟨h1, h2⟩ := List.mem_filter.mp hz
    obtain ⟨i, hi⟩ := mem_getE ((sortS_perm _).mem_iff.mp h1)
    have h2 := of_decide_eq_true h2
    rw [hi] at h2 ⊢
    exact ⟨getE_mem hi, h2⟩
  refine ⟨fun p hp => E.nm p (mem p hp).1, fun p hp => (mem p hp).2, fun p hp => E.bd p (mem p hp).1, hn, ?_, ?_⟩
  · unfold sumsOf
    rw [List.pairwise_map]
    exact (sortS_lt E.nd).filter _
  · unfold sumsOf
    rw [List.length_map]
    refine Nat.le_trans (List.length_filter_le _ _) ?_
    rw [(sortS_perm _).length_eq, List.length_map]
    exact E.ln
theorem keysS_en : ∀ es : List SI, keysS (es.map enD) = some (es.map (·.1))
  | [] => rfl
  | e :: es => by
    show (keysS (es.map enD)).map (e.1 :: ·) = _
    rw [keysS_en es]
    rfl
theorem dGet_en (z : Str) : ∀ es : List SI, dGet (es.map enD) (.inr z) = (getE es z).map .int
  | [] => rfl
  | e :: es => by
    have ih := dGet_en z es
    unfold dGet getE at ih ⊢
    rw [List.map_cons]
    by_cases h : e.1 = z
    · rw [List.find?_cons_of_pos (p := fun p : PyData × PyData => keyB p.1 (.inr z)) (a := enD e) (show keyB (.str e.1) (.inr z) = true from decide_eq_true h), List.find?_cons_of_pos (by rw [decide_eq_true h])]
      rfl
    · rw [List.find?_cons_of_neg (p := fun p : PyData × PyData => keyB p.1 (.inr z)) (a := enD e) (show ¬ keyB (.str e.1) (.inr z) = true by show ¬ decide (e.1 = z) = true; rw [decide_eq_false h]; exact Bool.false_ne_true), List.find?_cons_of_neg (by rw [decide_eq_false h]; exact Bool.false_ne_true)]
      exact ih
theorem isOb_en (es : List SI) : isOb (es.map enD) = false := by cases es <;> rfl
theorem compL_str {ft : Ev → Option Bool} {fe : Ev → Option PyData} {ev : Ev} {i : Nat} {t : Str → Bool} {e : Str → PyData} : ∀ {zs : List Str}, (∀ z ∈ zs, ft (ev.set i (some (.str z))) = some (t z)) → (∀ z ∈ zs, t z = true → fe (ev.set i (some (.str z))) = some (e z)) →
    compL asOne [i] ft fe ev (zs.map .str) = some ((zs.filter t).map e)
  | [], _, _ => rfl
  | z :: zs, h1, h2 => by
    have ih := compL_str (zs := zs) (fun q hq => h1 q (List.mem_cons_of_mem _ hq)) fun q hq => h2 q (List.mem_cons_of_mem _ hq)
    have a1 := h1 z List.mem_cons_self
    show (ft (ev.set i (some (.str z)))).bind _ = _
    rw [a1, Option.bind_some]
    cases ht : t z with
    | true =>
      rw [if_pos rfl]
      show (fe (ev.set i (some (.str z)))).bind _ = _
      rw [h2 z List.mem_cons_self ht, Option.bind_some, ih, List.filter_cons_of_pos ht]
      rfl
    | false =>
      rw [if_neg Bool.false_ne_true, ih, List.filter_cons_of_neg (by rw [ht]; exact Bool.false_ne_true)]
def fLast : Ev → Option PyData := fTup (fCons (fVar 0) (fCons (fCall gTuple (fCons (fComp (fIt (fCall gSortD (fCons (fVar 2) fNil))) asOne [3] [3] (f2T gNe (f2 gIx (fVar 2) (fVar 3)) (fC (.int 0))) (fTup (fCons (fVar 3) (fCons (f2 gIx (fVar 2) (fVar 3)) fNil)))) fNil)) fNil))
theorem last_ok {n : Int} {es : List SI} {B : Int} {c : Nat} (E : EOk es B c) (hc : c ≤ 60) {o1 o3 o4 : Option PyData} : fLast [some (.int n), o1, some (.dict (es.map enD)), o3, o4] = some (rowD n (sumsOf es)) := by
  have hz := sizeLine_eq
  have hln := E.ln
  have hs : fCall gSortD (fCons (fVar 2) fNil) [some (.int n), o1, some (.dict (es.map enD)), o3, o4] = some (.list ((sortS (es.map (·.1))).map .str)) := by
    refine z_call (z_cons rfl rfl) ?_
    show (if isOb (es.map enD) = true then none else (keysS (es.map enD)).bind fun zs => if zs.length < 64 then some (PyData.list ((sortS zs).map .str)) else none) = _
    rw [isOb_en, if_neg Bool.false_ne_true, keysS_en, Option.bind_some, if_pos (by rw [List.length_map]; omega)]
  have hix : ∀ (ev : Ev) (z : Str), z ∈ sortS (es.map (·.1)) → fVar 2 ev = some (.dict (es.map enD)) → fVar 3 ev = some (.str z) → f2 gIx (fVar 2) (fVar 3) ev = some (.int ((getE es z).getD 0)) := by
    intro ev z hm h2 h3
    obtain ⟨i, hi⟩ := mem_getE ((sortS_perm _).mem_iff.mp hm)
    refine z_2 h2 h3 ?_
    show (if isOb (es.map enD) = true then none else (asKey (.str z)).bind fun k => dGet (es.map enD) k) = _
    rw [isOb_en, if_neg Bool.false_ne_true]
    show dGet (es.map enD) (.inr z) = _
    rw [dGet_en, hi]
    rfl
  have hcmp : fComp (fIt (fCall gSortD (fCons (fVar 2) fNil))) asOne [3] [3] (f2T gNe (f2 gIx (fVar 2) (fVar 3)) (fC (.int 0))) (fTup (fCons (fVar 3) (fCons (f2 gIx (fVar 2) (fVar 3)) fNil))) [some (.int n), o1, some (.dict (es.map enD)), o3, o4] = some (.list ((sumsOf es).map siD)) := by
    unfold fComp fIt
    rw [hs]
    show (if ((sortS (es.map (·.1))).map PyData.str).length ≤ sizeLine then _ else _) = _
    rw [if_pos (by rw [List.length_map, (sortS_perm _).length_eq, List.length_map]; omega), compL_str (t := fun z => decide ((getE es z).getD 0 ≠ 0)) (e := fun z => siD (z, (getE es z).getD 0))]
    · unfold sumsOf
      rw [List.map_map]
      rfl
    · intro z hm
      refine z_2T (hix _ z hm rfl rfl) rfl ?_
      show some (!((getE es z).getD 0 == 0)) = _
      by_cases h : (getE es z).getD 0 = 0
      · rw [beq_iff_eq.mpr h, decide_eq_false (by simpa using h)]; rfl
      · rw [beq_eq_false_iff_ne.mpr h, decide_eq_true h]; rfl
    · intro z hm _
      exact z_tup (z_cons rfl (z_cons (hix _ z hm rfl rfl) rfl)) (by show 2 ≤ sizeLine; decide)
  exact z_tup (z_cons rfl (z_cons (z_call (z_cons hcmp rfl) rfl) rfl)) (by show 2 ≤ sizeLine; decide)
end K87

set_option Elab.async false
set_option linter.all false
set_option maxRecDepth 100000
set_option maxHeartbeats 4000000
/-! The law's own forms: the walks. -/
namespace K87
open PySem PySem.Spec PyProof.Rows L2 Pu
def Big (p : Addr) (H H' : Hp) : Prop := ∀ b o, b ≠ p → H b = some o → H' b = some o
theorem Big.trans {p : Addr} {H H' H2 : Hp} (a : Big p H H') (b : Big p H' H2) : Big p H H2 := fun x o n e => b x o n (a x o n e)
def spShuf : Sp := fun vs H Q _ => ∃ (p : Addr) (Hs : Hp) (n : Nat) (ds : List PyData) (v : V), vs = [.ref p, v] ∧ Pur p H Hs n ∧ n + 5 * ds.length < 2 ^ 50 ∧ Rp Hs (.list ds) v ∧ ds.length ≤ 100 ∧
  ∀ (ds' : List PyData) (v' : V) (H' Hs' : Hp), (∀ x ∈ ds', x ∈ ds) → ds'.length = ds.length → ExtB p H Hs H' Hs' → Rp Hs' (.list ds') v' → Pur p H' Hs' (n + 5 * ds.length) → Q v' H'
abbrev s_shuf : Stmt := topS 54
theorem sc_shuf : FnScope ["purse", "some", "found", "item"] ["purse", "some"] (defScope s_shuf) := ⟨rfl, rfl, rfl, by decide +kernel, rfl, by decide +kernel, by decide +kernel⟩
def spForm : Sp := fun vs H Q _ => ∃ (Hs : Hp) (num : Int) (ps : List SI) (v : V) (B : Int), vs = [.int num, v] ∧ Same Hs H ∧ Rp Hs (.list (ps.map siD)) v ∧ 0 ≤ B ∧ (∀ p ∈ ps, p.1 ∈ names7 ∧ -B ≤ p.2 ∧ p.2 ≤ B) ∧ ps.length ≤ 50 ∧
  ∀ (qs : List SI) (v' : V) (H' Hs' : Hp), (∀ N, -N ≤ num → num ≤ N → FOk num qs N (B * ps.length) ps.length) → Ext H Hs H' Hs' → Rp Hs' (rowD num qs) v' → Q v' H'
abbrev s_form : Stmt := topS 57
theorem sc_form : FnScope ["number", "pairs", "found", "name", "factor"] ["number", "pairs"] (defScope s_form) := ⟨rfl, rfl, rfl, by decide +kernel, rfl, by decide +kernel, by decide +kernel⟩
section
variable {P : Program} {w : World} {K : PySem.W.Frag} {mg : Str → Option Value} {base : Heap}
theorem ok_shuf {f fD : Addr} {fd fdD : FuncData} {k : Nat} (F : Fun K "_law_shuffled" "_law_shuffled" s_shuf f fd) (FD : FnOk P w K mg base CX0 k fD fdD ["purse", "many"] spDraw) (mD : mg "_law_draw" = some (.ref fD)) (kD : PySem.W.keepIn K (.ref fD) = true) (bD : Binds K fdD ["purse", "many"] [])
    (m_len : mg "len" = none) : FnOk P w K mg base CX0 (k + 1) f fd ["purse", "some"] spShuf := by
  refine F.ok sc_shuf (fun vs H Q E h => ?_) (fun cdv A outer s H vs Q E hr h => ?_)
  · obtain ⟨p, Hs, n, ds, v, rfl, _⟩ := h
    rfl
  · obtain ⟨p, Hs, n, ds, v, rfl, R, hn, r, hl, q⟩ := h
    have nd := sc_shuf.nd
    have hsz := sizeLine_eq
    refine ⟨_, pss_cons (ps_set (i := 2) nd rfl (Or.inl rfl) (pe_lst pa_nil))
      (pss_cons (ps_for PassesOwn.never rfl (pi_list (pv 1)) (pg_name (i := 3) nd rfl (Or.inl rfl))
        (pss_one (ps_expr (pe_bm PySem.F.plainAttrs_list PySem.F.slot_list_insert PySem.F.type_list_insert mt_insert (pv 2)
          (pa_cons (pe_call FD hr rfl mD kD bD .nil pass0 (pa_cons (pv 0) (pa_cons (pe_op op_add (pe_callB call_len_seq (by rfl) m_len boot_len (pa_cons (pv 2) pa_nil)) pe_int) pa_nil))) (pa_cons (pv 3) pa_nil))))))
      (pss_one (ps_ret (pv 2)))), ?_⟩
    obtain ⟨a, xs, rfl, ha, ra⟩ := r.lst_of
    have hlen := ra.len
    refine ⟨Nat.zero_le _, fun D hD => ?_⟩
    have nDp : D ≠ p := fun z => R.np (z ▸ hD)
    have big0 : ∀ b o, H b = some o → (upd H D (.lst [])) b = some o := fun b o z => (upd_ne (ne_of_none z hD)).trans z
    refine ⟨_, rfl, a, rfl, ⟨_, SqL.of (big0 _ _ (R.sub _ _ ha))⟩, ?_⟩
    refine ⟨fun i m σ H' => m = xs.length - i ∧ i ≤ xs.length ∧ ∃ (o3 : Option V) (ds' : List PyData) (vs : List V), σ = [some (.ref p), some (.ref a), some (.ref D), o3] ∧ ExtB p H Hs H' Hs ∧ H' D = some (.lst vs) ∧ RpAll Hs ds' vs ∧ ds'.length = i ∧ (∀ x ∈ ds', x ∈ ds) ∧ Pur p H' Hs (n + 5 * i),
      ⟨xs.length, by simp, Nat.zero_le _, none, [], [], rfl, R.extB fun b o _ z => big0 b o z, upd_same, .nil, rfl, (fun x hx => nomatch hx), R.grow big0⟩, ?_⟩
    rintro i m σ H2 ⟨rfl, hle, o3, ds', vs, rfl, x2, hD2, rp2, hl2, ok2, R2⟩
    have nDs : Hs D = none := R.sub.free hD
    by_cases hlt : i < xs.length
    · have hax : H2 a = some (.lst xs) := R2.sub _ _ ha
      refine .inr ⟨⟨_, _, SqL.of hax, List.getElem?_eq_getElem hlt⟩, fun σ' H' => ∃ (o3 : Option V) (ds' : List PyData) (vs : List V), σ' = [some (.ref p), some (.ref a), some (.ref D), o3] ∧ ExtB p H Hs H' Hs ∧ H' D = some (.lst vs) ∧ RpAll Hs ds' vs ∧ ds'.length = i + 1 ∧ (∀ x ∈ ds', x ∈ ds) ∧ Pur p H' Hs (n + 5 * (i + 1)), fun σ' H' h => ⟨xs.length - (i + 1), by omega, rfl, hlt, h⟩, ?_⟩
      rintro x H3 ⟨rfl, hy⟩
      have hx := hy _ (SqL.of hax)
      rw [List.getElem?_eq_getElem hlt] at hx
      cases hx
      obtain ⟨w0, ew, rw0⟩ := ra.get' (List.getElem?_eq_getElem hlt)
      have hv : vs.length = i := by rw [← rp2.len]; exact hl2
      refine ⟨.ref D, rfl, .inl ⟨rfl, vs, SqL.of hD2⟩, ?_⟩
      change tCons (tCall spDraw [] _ (tCons (tVar 0) (tCons (tOp _ (tCB _ (tCons (tVar 2) tNil)) (tC (.int 1))) tNil))) (tCons (tVar 3) tNil) _ _ _
      refine ⟨_, rfl, _, rfl, _, _, rfl, .inl (SqL.of hD2), _, _, rfl, rfl, p, Hs, n + 5 * i, _, rfl, R2, by omega, by omega, by omega, fun j H4 h1 h2 x4 R4 => ?_⟩
      refine ⟨_, rfl, D, vs, j, _, rfl, rfl, x4.big _ _ nDp hD2, by omega, h1, by omega, ?_⟩
      have hx24 := x2.trans x4
      refine ⟨_, ds'.take j.toNat ++ [w0] ++ ds'.drop j.toNat, _, rfl, ⟨fun b o hb z => ?_, hx24.small, fun b o z => ?_, hx24.pn, hx24.new⟩, upd_same, ((rp2.take _).append (.cons rw0 .nil)).append (rp2.drop _), ?_, fun y hy => ?_, ?_⟩
      · have hbD : b ≠ D := fun q => by rw [q, hD] at z; cases z
        rw [upd_ne hbD]; exact hx24.big b o hb z
      · rw [upd_ne (ne_of_none z nDs)]; exact hx24.sub b o z
      · rw [List.length_append, List.length_append, List.length_take, List.length_drop, List.length_singleton]; omega
      · rcases List.mem_append.mp hy with hy | hy
        · rcases List.mem_append.mp hy with hy | hy
          · exact ok2 y (List.mem_of_mem_take hy)
          · rw [List.mem_singleton.mp hy]; exact List.mem_of_getElem? ew
        · exact ok2 y (List.mem_of_mem_drop hy)
      · obtain ⟨a', b', c', d', e5, rest⟩ := (R4.more (m := n + 5 * (i + 1)) (by omega)).at_
        exact ⟨⟨a', b', c', d', (upd_ne (Ne.symm nDp)).trans e5, rest⟩, R4.pn, fun b o z => by rw [upd_ne (ne_of_none z nDs)]; exact R4.sub b o z⟩
    · have ei : i = xs.length := by omega
      subst ei
      refine .inl ⟨⟨_, SqL.of (R2.sub _ _ ha), Nat.le_refl _⟩, ?_⟩
      have xf := extB_own x2 hD nDs hD2 nDp
      refine ⟨_, rfl, ?_⟩
      refine q ds' (.ref D) H2 _ ok2 (by omega) xf (Rp.newL nDs rp2) ?_
      have := R2.more (m := n + 5 * ds.length) (by omega)
      exact ⟨this.at_, xf.pn, xf.sub⟩
theorem rp_en {H : Hp} : ∀ es : List SI, RpKV H (es.map enD) (es.map enK)
  | [] => .nil
  | e :: es => .cons (k := .inr e.1) (.int e.2) (rp_en es)
theorem ok_form {f : Addr} {fd : FuncData} {k : Nat} (F : Fun K "_law_form" "_law_form" s_form f fd) (m_tuple : mg "tuple" = none) (m_sorted : mg "sorted" = none) : FnOk P w K mg base CX0 (k + 1) f fd ["number", "pairs"] spForm := by
  refine F.ok sc_form (fun vs H Q E h => ?_) (fun cdv A outer s H vs Q E hr h => ?_)
  · obtain ⟨Hs, num, ps, v, B, rfl, _⟩ := h
    rfl
  · obtain ⟨Hs, num, ps, v, B, rfl, s0, r, hB, hps, hl, q⟩ := h
    have nd := sc_form.nd
    have hsz := sizeLine_eq
    refine ⟨_, pss_cons (ps_set (i := 2) nd rfl (Or.inr rfl) pe_dnewK)
      (pss_cons (ps_for PassesOwn.never rfl (pi_list (pv 1)) (pg_tup rfl (pgs_cons (pg_name (i := 3) nd rfl (Or.inl rfl)) (pgs_cons (pg_name (i := 4) nd rfl (Or.inl rfl)) pgs_nil)))
        (pss_one (ps_dput (u1 hr) (pv 2) (pv 3) (pe_op op_add (pe_dget2 (u1 hr) (pv 2) (pv 3) pe_int ⟨rfl, rfl, rfl, rfl⟩) (pv 4)) rfl)))
      (pss_one (PUS.ps (F := fRet fLast) (pus_ret (pu_tup (pua_cons (pu_var 0) (pua_cons (pu_callTy call_tuple_of gc_tuple rfl m_tuple boot_tuple (pua_cons (pu_lc (own := [("name", 3)]) (is := [3]) rfl nd (pui_any (pu_callB (call_sortedD rfl) gc_sortD rfl m_sorted bootSorted (pua_cons (pu_var 2) pua_nil)))
        (blkOk_by (N := ["number", "pairs", "found", "name", "factor"]) (sc := defScope s_form) (by decide +kernel)) gp_one tp_self (by decide) (fun _ _ _ _ _ => pg_name (i := 3) nd rfl (Or.inl rfl)) (fun _ _ _ _ _ => pts_one (put_cmp (o_ne (u64 hr)) g_ne (pu_ix (u1 hr) (pu_var 2) (pu_var 3) (fun _ _ => rfl) (fun _ _ => rfl)) pu_int (nomark _)).pt)
        (fun _ _ _ _ _ => pu_tup (pua_cons (pu_var 3) (pua_cons (pu_ix (u1 hr) (pu_var 2) (pu_var 3) (fun _ _ => rfl) (fun _ _ => rfl)) pua_nil)))) pua_nil)) pua_nil))))))), ?_⟩
    obtain ⟨a, xs, rfl, ha, ra⟩ := r.lst_of
    have hlen := ra.len
    rw [List.length_map] at hlen
    refine fun D hD => ?_
    have big0 : ∀ b o, H b = some o → (upd H D (.dK [])) b = some o := fun b o z => (upd_ne (ne_of_none z hD)).trans z
    have nDs : Hs D = none := s0.free hD
    refine ⟨_, rfl, a, rfl, ⟨_, SqL.of (big0 _ _ (s0 _ _ ha))⟩, ?_⟩
    refine ⟨fun i m σ H' => m = xs.length - i ∧ i ≤ xs.length ∧ ∃ (o3 o4 : Option V) (es : List SI), σ = [some (.int num), some (.ref a), some (.ref D), o3, o4] ∧ Same H H' ∧ H' D = some (.dK (es.map enK)) ∧ EOk es B i,
      ⟨xs.length, by simp, Nat.zero_le _, none, none, [], rfl, big0, upd_same, ⟨(fun e h => nomatch h), (fun e h => nomatch h), List.nodup_nil, Nat.le_refl _⟩⟩, ?_⟩
    rintro i m σ H2 ⟨rfl, hle, o3, o4, es, rfl, x2, hD2, E2⟩
    have hax : H2 a = some (.lst xs) := x2 _ _ (s0 _ _ ha)
    by_cases hlt : i < xs.length
    · refine .inr ⟨⟨_, _, SqL.of hax, List.getElem?_eq_getElem hlt⟩, fun σ' H' => ∃ (o3 o4 : Option V) (es : List SI), σ' = [some (.int num), some (.ref a), some (.ref D), o3, o4] ∧ Same H H' ∧ H' D = some (.dK (es.map enK)) ∧ EOk es B (i + 1), fun σ' H' h => ⟨xs.length - (i + 1), by omega, rfl, hlt, h⟩, ?_⟩
      rintro x H3 ⟨rfl, hy⟩
      have hx := hy _ (SqL.of hax)
      rw [List.getElem?_eq_getElem hlt] at hx
      cases hx
      obtain ⟨w0, ew, rw0⟩ := ra.get' (List.getElem?_eq_getElem hlt)
      rw [List.getElem?_map] at ew
      obtain ⟨pr, epr, rfl⟩ := Option.map_eq_some_iff.mp ew
      obtain ⟨t, ys, et, ht, rr⟩ := rw0.tup_of
      obtain ⟨y, z, rfl, ry, rz⟩ := rr.two
      obtain rfl := ry.str_of
      obtain rfl := rz.int_of
      rw [et]
      have hpr := hps pr (List.mem_of_getElem? epr)
      have hE := E2.put hB hpr.1 hpr.2
      have hes : es.length ≤ i := E2.ln
      refine ⟨t, _, rfl, SqT.of (x2 _ _ (s0 _ _ ht)), rfl, _, _, rfl, _, _, rfl, rfl, ?_⟩
      refine ⟨_, rfl, D, rfl, .inl ⟨_, .inl hD2⟩, _, rfl, _, DGet.k (k := .inr pr.1) hD2, ?_⟩
      have hg : (valV (es.map enK) (.inr pr.1)).getD (.int 0) = .int ((getE es pr.1).getD 0) := by
        rw [valV_en]
        cases getE es pr.1 <;> rfl
      rw [hg]
      refine ⟨_, rfl, _, _, rfl, rfl, ?_⟩
      refine ⟨_, rfl, _, rfl, D, _, rfl, .inl ⟨_, .inr pr.1, hD2, rfl, by rw [List.length_map]; omega, rfl⟩, ?_⟩
      refine ⟨_, _, putE es pr.1 ((getE es pr.1).getD 0 + pr.2), rfl, fun b o z => ?_, ?_, hE⟩
      · rw [upd_ne (ne_of_none z hD)]; exact x2 b o z
      · rw [upd_same, putK_en]
    · have ei : i = xs.length := by omega
      subst ei
      refine .inl ⟨⟨_, SqL.of hax, Nat.le_refl _⟩, ?_⟩
      rw [← hlen] at E2
      have sm : Same Hs (upd Hs D (.dK (es.map enK))) := fun b o z => by rw [upd_ne (ne_of_none z nDs)]; exact z
      have sub : Same (upd Hs D (.dK (es.map enK))) H2 := fun b o z => by
        by_cases hb : b = D
        · subst hb; rw [upd_same] at z; rw [← z]; exact hD2
        · rw [upd_ne hb] at z; exact x2 b o (s0 b o z)
      have x0 : Ext H Hs H2 (upd Hs D (.dK (es.map enK))) := ⟨x2, sm, sub, fun b h h' => by
        have hb : b ≠ D := fun z => by subst z; exact h' hD
        rw [upd_ne hb]; exact h⟩
      have re : REnv (upd Hs D (.dK (es.map enK))) [some (.int num), some (.ref a), some (.ref D), o3, o4] [some (.int num), none, some (.dict (es.map enD)), none, none] := ⟨Nat.le_refl 5, fun j w hj => by
        rcases j with _ | _ | _ | _ | _ | j
        · cases hj; exact ⟨_, rfl, .int _⟩
        · cases hj
        · cases hj; exact ⟨_, rfl, .dic upd_same (rp_en es)⟩
        · cases hj
        · cases hj
        · cases hj⟩
      refine ⟨_, _, .rt (rowD num (sumsOf es)), sub, re, ?_, fun v' H' Hs' x' r' => q (sumsOf es) v' H' Hs' (fun N h1 h2 => sums_ok E2 ⟨h1, h2⟩) (x0.trans x') r'⟩
      exact z_ret (last_ok E2 (by omega))
end
end K87

set_option Elab.async false
set_option linter.all false
set_option maxRecDepth 100000
set_option maxHeartbeats 4000000
namespace K87
open PySem PySem.Spec PyProof.Rows L2 Pu
def fPl : Ev → Option (List PyData) := fCons (f2 gAdd (f2 gIx (fVar 0) (fC (.int 0))) (f2 gMul (fVar 1) (f2 gIx (fVar 2) (fC (.int 0))))) (fCons (f2 gAdd (fCall gList (fCons (f2 gIx (fVar 0) (fC (.int 1))) fNil)) (fComp (fIt (f2 gIx (fVar 2) (fC (.int 1)))) (asTup 2) [3, 4] [3, 4] (fun _ => some true) (fTup (fCons (fVar 3) (fCons (f2 gMul (fVar 1) (fVar 4)) fNil))))) fNil)
theorem pl_ok {n1 n2 m : Int} {p1 p2 : List SI} (F1 : FOk n1 p1 99 4 2) (F2 : FOk n2 p2 3 4 2) (hm : 0 ≤ m ∧ m ≤ 8) : fPl [some (rowD n1 p1), some (.int m), some (rowD n2 p2), none, none] = some [.int (n1 + m * n2), .list ((p1 ++ p2.map fun p => (p.1, m * p.2)).map siD)] := by
  have hz := sizeLine_eq
  have h1 := F1.ln
  have h2 := F2.ln
  have hc : fComp (fIt (f2 gIx (fVar 2) (fC (.int 1)))) (asTup 2) [3, 4] [3, 4] (fun _ => some true) (fTup (fCons (fVar 3) (fCons (f2 gMul (fVar 1) (fVar 4)) fNil))) [some (rowD n1 p1), some (.int m), some (rowD n2 p2), none, none] = some (.list ((p2.map fun p => (p.1, m * p.2)).map siD)) := by
    rw [comp_si (t := fun _ => true) (e := fun p => siD (p.1, m * p.2)) (ps := p2) rfl (by omega) (fun _ _ => rfl) fun p hp _ => z_tup (z_cons rfl (z_cons (z_2 rfl rfl (gMul_ok (by omega) (by have := F2.bd p hp; omega))) rfl)) (by show 2 ≤ sizeLine; decide), filter_true, List.map_map]
    rfl
  refine z_cons (z_2 rfl (z_2 rfl rfl (gMul_ok (by omega) (by have := F2.nb; omega))) rfl) (z_cons (z_2 (w := .list (p1.map siD)) (z_call (z_cons rfl rfl) rfl) hc ?_) rfl)
  show (if (p1.map siD).length + ((p2.map fun p => (p.1, m * p.2)).map siD).length ≤ sizeLine then some (PyData.list (p1.map siD ++ (p2.map fun p => (p.1, m * p.2)).map siD)) else none) = _
  rw [if_pos (by rw [List.length_map, List.length_map, List.length_map]; omega), List.map_append]
def spPlus : Sp := fun vs H Q _ => ∃ (Hs : Hp) (n1 n2 m : Int) (p1 p2 : List SI) (va vb : V), vs = [va, .int m, vb] ∧ Same Hs H ∧ Rp Hs (rowD n1 p1) va ∧ Rp Hs (rowD n2 p2) vb ∧ FOk n1 p1 99 4 2 ∧ FOk n2 p2 3 4 2 ∧ (0 ≤ m ∧ m ≤ 8) ∧
  ∀ (n : Int) (ps : List SI) (v' : V) (H' Hs' : Hp), RowOk n ps → Ext H Hs H' Hs' → Rp Hs' (rowD n ps) v' → Q v' H'
def spDF : Sp := fun vs H Q _ => ∃ (p : Addr) (Hs : Hp) (n : Nat) (zs : List Str) (v : V) (wide : Int), vs = [.ref p, v, .int wide] ∧ Pur p H Hs n ∧ n + 100 < 2 ^ 50 ∧ Rp Hs (.list (zs.map .str)) v ∧ zs ≠ [] ∧ zs.length ≤ 100 ∧ (∀ z ∈ zs, z ∈ names7) ∧ (0 ≤ wide ∧ wide ≤ 1000) ∧
  ∀ (m : Int) (ps : List SI) (v' : V) (H' Hs' : Hp), FOk m ps wide 4 2 → ExtB p H Hs H' Hs' → Rp Hs' (rowD m ps) v' → Pur p H' Hs' (n + 60) → Q v' H'
abbrev s_df : Stmt := topS 59
theorem sc_df : FnScope ["purse", "names", "wide", "pairs", "spin"] ["purse", "names", "wide"] (defScope s_df) := ⟨rfl, rfl, rfl, by decide +kernel, rfl, by decide +kernel, by decide +kernel⟩
def fTwos : Ev → Option PyData := fLst (fCons (fC (.int 1)) (fCons (fC (.int 1)) (fCons (fC (.int 1)) (fCons (f2 gSub (fC (.int 0)) (fC (.int 1))) (fCons (f2 gSub (fC (.int 0)) (fC (.int 1))) (fCons (fC (.int 2)) fNil))))))
section
variable {P : Program} {w : World} {K : PySem.W.Frag} {mg : Str → Option Value} {base : Heap}
theorem ok_plus {f fF : Addr} {fd fdF : FuncData} {k : Nat} (F : Fun K "_law_plus" "_law_plus" s__law_plus f fd) (FF : FnOk P w K mg base CX0 k fF fdF ["number", "pairs"] spForm) (mF : mg "_law_form" = some (.ref fF)) (kF : PySem.W.keepIn K (.ref fF) = true) (bF : Binds K fdF ["number", "pairs"] [])
    (m_list : mg "list" = none) : FnOk P w K mg base CX0 (k + 1) f fd ["one", "many", "other"] spPlus := by
  refine F.ok sc__law_plus (fun vs H Q E h => ?_) (fun cdv A outer s H vs Q E hr h => ?_)
  · obtain ⟨Hs, n1, n2, m, p1, p2, va, vb, rfl, _⟩ := h
    rfl
  · obtain ⟨Hs, n1, n2, m, p1, p2, va, vb, rfl, s0, ra, rb, F1, F2, hm, q⟩ := h
    have nd := sc__law_plus.nd
    refine ⟨_, pss_one (ps_ret (pe_call FF hr rfl mF kF bF .nil pass0 (PUA.pa (f := fPl) (pua_cons (pu_op o_add g_add (pu_ix (u1 hr) (pu_var 0) pu_int (fun _ _ => rfl) (fun _ _ => rfl)) (pu_op o_mul g_mul (pu_var 1) (pu_ix (u1 hr) (pu_var 2) pu_int (fun _ _ => rfl) (fun _ _ => rfl)))) (pua_cons (pu_op o_add g_add (pu_callTy call_list_of gc_list rfl m_list boot_list (pua_cons (pu_ix (u1 hr) (pu_var 0) pu_int (fun _ _ => rfl) (fun _ _ => rfl)) pua_nil)) (pu_lc (own := [("name", 3), ("factor", 4)]) (is := [3, 4]) rfl nd (pui_any (pu_ix (u1 hr) (pu_var 2) pu_int (fun _ _ => rfl) (fun _ _ => rfl))) (blkOk_by (N := ["one", "many", "other", "name", "factor"]) (sc := defScope s__law_plus) (by decide +kernel)) gp_tup2 tp_yes (by decide) (fun _ _ _ _ _ => (pg_tup rfl (pgs_cons (pg_name (i := 3) nd rfl (Or.inl rfl)) (pgs_cons (pg_name (i := 4) nd rfl (Or.inl rfl)) pgs_nil)))) (fun _ _ _ _ _ => pts_nil) (fun _ _ _ _ _ => (pu_tup (pua_cons (pu_var 3) (pua_cons (pu_op o_mul g_mul (pu_var 1) (pu_var 4)) pua_nil)))))) pua_nil))))), ?_⟩
    have re : REnv Hs [some va, some (.int m), some vb, none, none] [some (rowD n1 p1), some (.int m), some (rowD n2 p2), none, none] := ⟨Nat.le_refl 5, fun j w hj => by
      rcases j with _ | _ | _ | _ | _ | j
      · cases hj; exact ⟨_, rfl, ra⟩
      · cases hj; exact ⟨_, rfl, .int _⟩
      · cases hj; exact ⟨_, rfl, rb⟩
      · cases hj
      · cases hj
      · cases hj⟩
    refine ⟨Hs, _, _, s0, re, pl_ok F1 F2 hm, fun vs H1 Hs1 x1 r1 => ?_⟩
    obtain ⟨v1, v2, rfl, r11, r12⟩ := r1.two
    obtain rfl := r11.int_of
    have hb : ∀ p ∈ p1 ++ p2.map (fun p => (p.1, m * p.2)), p.1 ∈ names7 ∧ -32 ≤ p.2 ∧ p.2 ≤ 32 := fun p hp => by
      rcases List.mem_append.mp hp with h | h
      · have := F1.bd p h
        exact ⟨F1.nm p h, by omega, by omega⟩
      · obtain ⟨p', h', rfl⟩ := List.mem_map.mp h
        have := F2.bd p' h'
        refine ⟨F2.nm p' h', ?_, ?_⟩
        · have h1 : m * (-4) ≤ m * p'.2 := Int.mul_le_mul_of_nonneg_left this.1 hm.1
          show -32 ≤ m * p'.2
          omega
        · have h1 : m * p'.2 ≤ m * 4 := Int.mul_le_mul_of_nonneg_left this.2 hm.1
          show m * p'.2 ≤ 32
          omega
    have hl : (p1 ++ p2.map fun p => (p.1, m * p.2)).length ≤ 4 := by
      have h1 := F1.ln
      have h2 := F2.ln
      rw [List.length_append, List.length_map]
      omega
    refine ⟨Hs1, _, p1 ++ p2.map (fun p => (p.1, m * p.2)), v2, 32, rfl, x1.sub, r12, by omega, hb, by omega, fun qs v' H' Hs' hF x' r' => ?_⟩
    refine q _ qs v' H' Hs' ?_ (x1.trans x') r'
    have hn : -1000 ≤ n1 + m * n2 ∧ n1 + m * n2 ≤ 1000 := by
      have a1 := F1.nb
      have a2 := F2.nb
      have h1 : m * (-3) ≤ m * n2 := Int.mul_le_mul_of_nonneg_left a2.1 hm.1
      have h2 : m * n2 ≤ m * 3 := Int.mul_le_mul_of_nonneg_left a2.2 hm.1
      omega
    exact (hF 1000 hn.1 hn.2).row (by decide) (by omega) (by omega)
theorem ok_df {f fD fO fF : Addr} {fd fdD fdO fdF : FuncData} {k : Nat} (F : Fun K "_law_drawn_form" "_law_drawn_form" s_df f fd) (FD : FnOk P w K mg base CX0 k fD fdD ["purse", "many"] spDraw) (mD : mg "_law_draw" = some (.ref fD)) (kD : PySem.W.keepIn K (.ref fD) = true) (bD : Binds K fdD ["purse", "many"] [])
    (FO : FnOk P w K mg base CX0 k fO fdO ["purse", "some"] spOneOf) (mO : mg "_law_one_of" = some (.ref fO)) (kO : PySem.W.keepIn K (.ref fO) = true) (bO : Binds K fdO ["purse", "some"] [])
    (FF : FnOk P w K mg base CX0 k fF fdF ["number", "pairs"] spForm) (mF : mg "_law_form" = some (.ref fF)) (kF : PySem.W.keepIn K (.ref fF) = true) (bF : Binds K fdF ["number", "pairs"] []) (m_range : mg "range" = none) : FnOk P w K mg base CX0 (k + 1) f fd ["purse", "names", "wide"] spDF := by
  refine F.ok sc_df (fun vs H Q E h => ?_) (fun cdv A outer s H vs Q E hr h => ?_)
  · obtain ⟨p, Hs, n, zs, v, wide, rfl, _⟩ := h
    rfl
  · obtain ⟨p, Hs, n, zs, v, wide, rfl, R, hn, r, hne, hzl, hzs, hwd, q⟩ := h
    have nd := sc_df.nd
    have hsz := sizeLine_eq
    refine ⟨_, pss_cons (ps_setLc (i := 3) (own := [("spin", 4)]) rfl nd rfl rfl (sw_true rfl rfl rfl (by decide +kernel)) (pi_range1 rfl m_range (pa_cons (pe_call FD hr rfl mD kD bD .nil pass0 (pa_cons (pv 0) (pa_cons pe_int pa_nil))) pa_nil)) (blkOk_by (N := ["purse", "names", "wide", "pairs", "spin"]) (sc := defScope s_df) (by decide +kernel))
        (fun _ _ _ _ _ => (pg_name (i := 4) nd rfl (Or.inl rfl))) (fun _ _ _ _ _ => pts_nil) (fun _ _ _ _ _ => pe_tup (pa_cons (pe_call FO hr rfl mO kO bO .nil pass0 (pa_cons (pv 0) (pa_cons (pv 1) pa_nil))) (pa_cons (pe_call FO hr rfl mO kO bO .nil pass0 (pa_cons (pv 0) (pa_cons (PU.pe (f := fTwos) (pu_lst (pua_cons pu_int (pua_cons pu_int (pua_cons pu_int (pua_cons (pu_op o_sub g_sub pu_int pu_int) (pua_cons (pu_op o_sub g_sub pu_int pu_int) (pua_cons pu_int pua_nil)))))))) pa_nil))) pa_nil))))
      (pss_one (ps_ret (pe_call FF hr rfl mF kF bF .nil pass0 (pa_cons (pe_op op_sub (pe_call FD hr rfl mD kD bD .nil pass0 (pa_cons (pv 0) (pa_cons (pe_op op_add (pe_op op_mulW pe_int (pv 2)) pe_int) pa_nil))) (pv 2)) (pa_cons (pv 3) pa_nil))))), ?_⟩
    refine ⟨_, rfl, p, Hs, n, 3, rfl, R, by omega, by decide, by decide, fun m H2 m1 m2 x2 R2 => ⟨m, rfl, by omega, by omega, fun Dl hDl => ?_⟩⟩
    have nDp : Dl ≠ p := fun z => R2.np (z ▸ hDl)
    have hD0 : H Dl = none := by
      cases hh : H Dl with
      | none => rfl
      | some o => rw [x2.big Dl o nDp hh] at hDl; cases hDl
    have big0 : ∀ b o, H2 b = some o → (upd H2 Dl (.lst [])) b = some o := fun b o z => (upd_ne (ne_of_none z hDl)).trans z
    generalize hm : m.toNat = M
    have hM : M ≤ 2 := by omega
    refine ⟨fun i k H' => k = M - i ∧ i ≤ M ∧ ∃ (Hs' : Hp) (ps : List SI) (vs : List V), ExtB p H Hs H' Hs' ∧ H' Dl = some (.lst vs) ∧ Hs' Dl = none ∧ RpAll Hs' (ps.map siD) vs ∧ ps.length = i ∧ (∀ x ∈ ps, x.1 ∈ names7 ∧ -2 ≤ x.2 ∧ x.2 ≤ 2) ∧ Pur p H' Hs' (n + 5 + i * 10),
      ⟨M, by simp, Nat.zero_le _, Hs, [], [], x2.trans (R2.extB fun b o _ z => big0 b o z), upd_same, R2.sub.free hDl, .nil, rfl, (fun x hx => nomatch hx), by rw [Nat.zero_mul]; exact R2.grow big0⟩, ?_⟩
    rintro i k H3 ⟨rfl, hle, Hs3, ps, vs, x3, hD3, hs3, rp3, hl3, ok3, R3⟩
    have hvs : vs.length = i := by rw [← rp3.len, List.length_map]; exact hl3
    by_cases hlt : i < M
    · refine .inr ⟨hlt, fun H' => ∃ (Hs' : Hp) (ps : List SI) (vs : List V), ExtB p H Hs H' Hs' ∧ H' Dl = some (.lst vs) ∧ Hs' Dl = none ∧ RpAll Hs' (ps.map siD) vs ∧ ps.length = i + 1 ∧ (∀ x ∈ ps, x.1 ∈ names7 ∧ -2 ≤ x.2 ∧ x.2 ≤ 2) ∧ Pur p H' Hs' (n + 5 + (i + 1) * 10), fun H' h => ⟨M - (i + 1), by omega, rfl, hlt, h⟩, ?_⟩
      rintro x H4 ⟨rfl, rfl⟩
      refine ⟨rfl, ?_⟩
      unfold tYes
      dsimp only
      rw [if_pos rfl]
      have rz := r.mono x3.small
      refine ⟨_, rfl, _, rfl, p, Hs3, n + 5 + i * 10, _, v, rfl, R3, by omega, rz, by simpa using hne, by rw [List.length_map]; omega, fun w1 v1 H5 hw1 rw1 x5 R5 => ?_⟩
      obtain ⟨z, hz, rfl⟩ := List.mem_map.mp hw1
      obtain rfl := rw1.str_of
      refine ⟨_, rfl, Hs3, [], .list [.int 1, .int 1, .int 1, .int (-1), .int (-1), .int 2], R5.sub, ⟨Nat.zero_le _, fun i w z => by cases z⟩, rfl, fun v2 H6 Hs6 x6 r6 => ?_⟩
      have R6 := R5.ext x6
      refine ⟨p, Hs6, n + 5 + i * 10 + 5, _, v2, rfl, R6, by omega, r6, (fun z => nomatch z), by decide, fun w2 v3 H7 hw2 rw2 x7 R7 => ?_⟩
      obtain ⟨j, rfl, hj⟩ : ∃ j : Int, w2 = .int j ∧ -2 ≤ j ∧ j ≤ 2 := by
        simp only [List.mem_cons, List.not_mem_nil, or_false] at hw2
        rcases hw2 with rfl | rfl | rfl | rfl | rfl | rfl <;> exact ⟨_, rfl, by decide, by decide⟩
      obtain rfl := rw2.int_of
      refine ⟨by show 2 ≤ sizeLine; decide, fun t ht => ?_⟩
      have x8 := Ext.laid (Ext.refl R7.sub) ht (.tup [.str z, .int j])
      have R8 := R7.ext x8
      have x38 : ExtB p H4 Hs3 (upd H7 t (.tup [.str z, .int j])) (upd Hs6 t (.tup [.str z, .int j])) := ((x5.trans (R5.extOf x6)).trans x7).trans (R7.extOf x8)
      have hD8 : (upd H7 t (.tup [.str z, .int j])) Dl = some (.lst vs) := x38.big _ _ nDp hD3
      have hs8 : (upd Hs6 t (.tup [.str z, .int j])) Dl = none := x38.new Dl hs3 (by rw [hD3]; exact fun z => nomatch z)
      have rt : Rp (upd Hs6 t (.tup [.str z, .int j])) (siD (z, j)) (.ref t) := .tup upd_same (.cons (.str _) (.cons (.int _) .nil))
      generalize upd H7 t (.tup [.str z, .int j]) = H8 at x38 hD8 R8
      generalize upd Hs6 t (.tup [.str z, .int j]) = Hs8 at x38 hs8 R8 rt
      refine ⟨vs, hD8, by omega, Hs8, ps ++ [(z, j)], vs ++ [.ref t], ?_, upd_same, hs8, ?_, by rw [List.length_append, hl3]; rfl, fun y hy => ?_, ?_⟩
      · have xx := x3.trans x38
        refine ⟨fun b o hb e => ?_, xx.small, fun b o e => ?_, xx.pn, xx.new⟩
        · have hbD : b ≠ Dl := fun q => by rw [q, hD0] at e; cases e
          rw [upd_ne hbD]; exact xx.big b o hb e
        · rw [upd_ne (ne_of_none e hs8)]; exact xx.sub b o e
      · rw [List.map_append]
        exact (rp3.mono x38.small).append (.cons rt .nil)
      · rcases List.mem_append.mp hy with h | h
        · exact ok3 y h
        · rw [List.mem_singleton.mp h]; exact ⟨hzs z hz, hj⟩
      · obtain ⟨a, b, c, d', e5, rest⟩ := (R8.more (m := n + 5 + (i + 1) * 10) (by omega)).at_
        exact ⟨⟨a, b, c, d', (upd_ne (Ne.symm nDp)).trans e5, rest⟩, R8.pn, fun b o z => by rw [upd_ne (ne_of_none z hs8)]; exact R8.sub b o z⟩
    · have ei : i = M := by omega
      subst ei
      refine .inl ⟨Nat.le_refl _, ?_⟩
      have xf := extB_own x3 hD0 hs3 hD3 nDp
      have Rf : Pur p H3 (upd Hs3 Dl (.lst vs)) (n + 5 + i * 10) := ⟨R3.at_, xf.pn, xf.sub⟩
      have rf : Rp (upd Hs3 Dl (.lst vs)) (.list (ps.map siD)) (.ref Dl) := Rp.newL hs3 rp3
      have hmul : (2 : Int).natAbs.log2 + wide.natAbs.log2 < 1000000 := by
        have h2 : wide.natAbs.log2 < 20 := PySem.Flt.log2_lt_of (by decide) (by omega)
        have h3 : (2 : Int).natAbs.log2 = 1 := by decide
        omega
      change tCall spForm [] E0 (tCons (tOp (rI0 fun i j => V.int (i - j)) (tCall spDraw [] E0 (tCons (tVar 0) (tCons (tOp (rI0 fun i j => V.int (i + j)) (tOp (rI CMulW fun i j => V.int (i * j)) (tC (.int 2)) (tVar 2)) (tC (.int 1))) tNil))) (tVar 2)) (tCons (tVar 3) tNil)) [some (.ref p), some v, some (.int wide), some (.ref Dl), none] H3 _
      refine ⟨_, rfl, _, rfl, _, _, rfl, rfl, hmul, _, _, rfl, rfl, p, _, n + 5 + i * 10, _, rfl, Rf, by omega, by omega, by omega, fun d H4 d1 d2 x4 R4 => ?_⟩
      refine ⟨_, rfl, _, _, rfl, rfl, _, rfl, ?_⟩
      refine ⟨_, _, ps, .ref Dl, 2, rfl, R4.sub, rf, by omega, ok3, by omega, fun qs v' H' Hs' hF x' r' => ?_⟩
      have hFF := hF wide (by omega) (by omega)
      refine q _ qs v' H' Hs' ⟨hFF.nm, hFF.nz, fun p hp => ?_, hFF.nb, hFF.srt, by have := hFF.ln; omega⟩ ((xf.trans x4).trans (R4.extOf x')) r' ((R4.ext x').more (by omega))
      have := hFF.bd p hp
      have e2 : ((ps.length : Nat) : Int) ≤ 2 := by omega
      omega
end
end K87

set_option Elab.async false
set_option linter.all false
set_option maxRecDepth 100000
set_option maxHeartbeats 4000000
/-! A drawn thing, told and read back. -/
namespace K87
open PySem PySem.Spec PyProof.Rows L2 Pu
/-! ### sizes of things -/
mutual
theorem okT_sz : ∀ w, okT w = true → (txT w).length ≤ 500000 → w.plain = true ∧ small w = true
  | .none, _, _ => ⟨rfl, rfl⟩
  | .bool b, _, _ => ⟨rfl, rfl⟩
  | .int i, _, _ => ⟨rfl, rfl⟩
  | .str z, _, _ => ⟨rfl, rfl⟩
  | .list ds, h, hl => by
    rw [okT] at h
    rw [txT, br_len] at hl
    obtain ⟨p1, p2⟩ := part_len hl
    obtain ⟨a, b⟩ := okA_sz ds h p2
    exact ⟨by rw [PyData.plain]; exact a, by rw [small, b, decide_eq_true (by omega)]; rfl⟩
  | .tuple ds, h, hl => by
    rw [okT] at h
    rw [txT, br_len] at hl
    obtain ⟨p1, p2⟩ := part_len hl
    obtain ⟨a, b⟩ := okA_sz ds h p2
    exact ⟨by rw [PyData.plain]; exact a, by rw [small, b, decide_eq_true (by omega)]; rfl⟩
  | .dict _, h, _ => by rw [okT] at h; cases h
theorem okA_sz : ∀ ds, okA ds = true → (∀ x ∈ ds, (txT x).length ≤ 500000) → PyData.plainAll ds = true ∧ smallAll ds = true
  | [], _, _ => ⟨rfl, rfl⟩
  | x :: xs, h, hl => by
    rw [okA, Bool.and_eq_true] at h
    obtain ⟨a, b⟩ := okT_sz x h.1 (hl x List.mem_cons_self)
    obtain ⟨c, d⟩ := okA_sz xs h.2 fun y hy => hl y (List.mem_cons_of_mem _ hy)
    exact ⟨by rw [PyData.plainAll, a, c]; rfl, by rw [smallAll, b, d]; rfl⟩
end
def NT : Nat → Nat
  | 0 => 40
  | d + 1 => 3 * NT d + 4
theorem NT_ge : ∀ d, 40 ≤ NT d
  | 0 => Nat.le_refl _
  | d + 1 => by have := NT_ge d; show 40 ≤ 3 * NT d + 4; omega
theorem words_len : (wordsL.all fun z => decide ((Txt.replace z " " "_").cps.toList.length ≤ 40) && wordsX.contains z) = true := by decide +kernel
theorem leaf_ok {w : PyData} (h : Leaf w) : okT w = true ∧ w.depth = 0 ∧ (txT w).length ≤ 40 := by
  rcases h with rfl | ⟨b, rfl⟩ | ⟨i, rfl, h1, h2⟩ | ⟨z, hz, rfl⟩
  · exact ⟨by decide, by simp [PyData.depth], by rw [txT]; decide⟩
  · refine ⟨by rw [okT], by simp [PyData.depth], ?_⟩
    rw [txT]; cases b <;> decide
  · have ok : okT (.int i) = true := by rw [okT, decide_eq_true h1, decide_eq_true h2]; rfl
    have := (int_acc ok).2.2.2
    exact ⟨ok, by simp [PyData.depth], by omega⟩
  · have h := List.all_eq_true.mp words_len z hz
    rw [Bool.and_eq_true] at h
    refine ⟨by rw [okT]; exact h.2, by simp [PyData.depth], ?_⟩
    rw [txT]
    exact of_decide_eq_true h.1
theorem okA_of : ∀ {ds : List PyData}, (∀ x ∈ ds, okT x = true) → okA ds = true
  | [], _ => by rw [okA]
  | x :: xs, h => by rw [okA, h x List.mem_cons_self, okA_of fun y hy => h y (List.mem_cons_of_mem _ hy)]; rfl
theorem depthA_of : ∀ {ds : List PyData} {n : Nat}, (∀ x ∈ ds, x.depth ≤ n) → PyData.depthAll ds ≤ n
  | [], _, _ => Nat.zero_le _
  | x :: xs, n, h => by
    have := h x List.mem_cons_self
    have := depthA_of fun y hy => h y (List.mem_cons_of_mem _ hy)
    rw [PyData.depthAll]
    omega
theorem join3 {ds : List PyData} {n : Nat} (h : ∀ x ∈ ds, (txT x).length ≤ n) (hl : ds.length ≤ 3) : (TL.joinL [32] (txA ds)).length ≤ 3 * n + 2 := by
  rw [txA_map]
  match ds, h, hl with
  | [], _, _ => exact Nat.zero_le _
  | [a], h, _ => have := h a (by simp); show (txT a).length ≤ _; omega
  | [a, b], h, _ =>
    have := h a (by simp)
    have := h b (by simp)
    show (txT a ++ ([32] ++ txT b)).length ≤ _
    rw [List.length_append, List.length_append, List.length_singleton]; omega
  | [a, b, c], h, _ =>
    have := h a (by simp)
    have := h b (by simp)
    have := h c (by simp)
    show (txT a ++ ([32] ++ (txT b ++ ([32] ++ txT c)))).length ≤ _
    simp only [List.length_append, List.length_singleton]; omega
  | _ :: _ :: _ :: _ :: _, _, hl => simp at hl
theorem thing_ok : ∀ (d : Nat) (w : PyData), ThingOk d w → okT w = true ∧ w.depth ≤ d ∧ (txT w).length ≤ NT d
  | 0, w, h => by
    obtain ⟨a, b, c⟩ := leaf_ok h
    exact ⟨a, by omega, c⟩
  | d + 1, w, h => by
    rcases h with h | ⟨ds, hw, hlen, hds⟩
    · obtain ⟨a, b, c⟩ := leaf_ok h
      exact ⟨a, by omega, Nat.le_trans c (NT_ge _)⟩
    · have ih : ∀ x ∈ ds, _ := fun x hx => thing_ok d x (hds x hx)
      have j := join3 (n := NT d) (fun x hx => (ih x hx).2.2) hlen
      have dd := depthA_of (n := d) fun x hx => (ih x hx).2.1
      have oo := okA_of fun x hx => (ih x hx).1
      have e : NT (d + 1) = 3 * NT d + 4 := rfl
      rcases hw with rfl | rfl
      · exact ⟨by rw [okT]; exact oo, by rw [PyData.depth]; omega, by rw [txT, br_len]; omega⟩
      · exact ⟨by rw [okT]; exact oo, by rw [PyData.depth]; omega, by rw [txT, br_len]; omega⟩
theorem NT5 : ∀ d, d ≤ 5 → NT d ≤ 20000 := by decide
theorem cost5 : ∀ d, d ≤ 5 → cost d ≤ 8490 := by decide
/-! ### a def by place and by name -/
structure DefK (P : Program) (w : World) (K : PySem.W.Frag) (mg : Str → Option Value) (base : Heap) (x : Str) (k : Nat) (y : Str) (g : List PyData → Option PyData) : Prop where
  ex : ∃ (f : Addr) (fd : FuncData), FnOk P w K mg base CX0 k f fd [y] (spP g) ∧ mg x = some (.ref f) ∧ PySem.W.keepIn K (.ref f) = true ∧ Binds K fd [y] [] ∧ KB1 K fd y
theorem DefK.P {P : Program} {w : World} {K : PySem.W.Frag} {mg : Str → Option Value} {base : Heap} {x : Str} {k : Nat} {y : Str} {g : List PyData → Option PyData} (h : DefK P w K mg base x k y g) : DefP P w K mg base x k [y] g := by
  obtain ⟨f, fd, F, a, b, c, _⟩ := h.ex
  exact ⟨f, fd, F, a, b, c⟩
theorem DefK.mono {P : Program} {w : World} {K : PySem.W.Frag} {mg : Str → Option Value} {base : Heap} {x : Str} {j k : Nat} {y : Str} {g : List PyData → Option PyData} (h : DefK P w K mg base x j y g) (l : j ≤ k) : DefK P w K mg base x k y g := by
  obtain ⟨f, fd, F, r⟩ := h.ex
  exact ⟨f, fd, F.mono l, r⟩
theorem pu_callN {X : Cx} {k : Nat} {y x : Str} {p pos kpos : Pos} {e : Expr} {g : List PyData → Option PyData} {fe : Ev → Option PyData} (D : DefK X.prog X.w X.K X.mg X.base x k y g) (hr : Room k X.A) (hg : Gl X x) (he : PU X e fe)
    (hall : (backToKw pos (keywordEach [⟨some y, e, kpos⟩] X.env)).all (·.1.isSome) = true := by rfl) (hks : (backToKw pos (keywordEach [⟨some y, e, kpos⟩] X.env)).filterMap (·.1) = [y] := by rfl) (hdb : (x == ("__debug__" : Str)) = false := by decide)
    (hpl : ((backTo pos (starEach [] X.env)).any (·.1) || (backToKw pos (keywordEach [⟨some y, e, kpos⟩] X.env)).any (·.1.isNone)) = false := by rfl) :
    PU X (.Call (.Name x p) [] [⟨some y, e, kpos⟩] pos) (fCall g (fCons fe fNil)) := by
  obtain ⟨f, fd, F, hm, hk, _, hb⟩ := D.ex
  exact pu_byName F hr hg hm hk hb pass0 he hall hks hdb hpl
/-! ### _law_right -/
def spRight (c : Nat) : Sp := fun vs H Q _ => ∃ (p : Addr) (n : Nat), vs = [.ref p] ∧ Pur p H HE n ∧ n + c < 2 ^ 49 ∧ ∀ H', Big p H H' → Pur p H' HE (n + c) → Q (.bl true) H'
abbrev s_right : Stmt := topS 65
theorem sc_right : FnScope ["purse", "thing", "kept", "text", "told"] ["purse"] (defScope s_right) := ⟨rfl, rfl, rfl, by decide +kernel, rfl, by decide +kernel, by decide +kernel⟩
def f4 (gEx gth : List PyData → Option PyData) : Ev → Option Bool := fOr (fNot (fT (fCall gEx (fCons (fLst (fCons (fVar 3) (fCons (fVar 3) fNil))) (fCons (fLst (fCons (fCall gth (fCons (fVar 1) fNil)) (fCons (fCall gth (fCons (fVar 1) fNil)) fNil))) fNil))))) (fNot (fT (fCall gEx (fCons (fLst (fCons (fVar 1) (fCons (fVar 1) fNil))) (fCons (fVar 4) fNil)))))
def f6 (gEx gR_ : List PyData → Option PyData) : Ev → Option PyData := fCall gEx (fCons (fLst (fCons (fVar 2) (fCons (fVar 2) fNil))) (fCons (fLst (fCons (fVar 1) (fCons (fCall gR_ (fCons (fVar 3) fNil)) fNil))) fNil))
theorem two_exact {m : Nat} {w : PyData} (hp : w.plain = true) (hs : small w = true) (hd : w.depth ≤ m) : gE (m + 2) [.list [w, w], .list [w, w]] = some (.bool true) := by
  refine exact_refl (m + 1) _ ?_ ⟨?_, ?_⟩
  · rw [PyData.plain, PyData.plainAll, PyData.plainAll, hp]; rfl
  · rw [PyData.depth, PyData.depthAll, PyData.depthAll, PyData.depthAll]; omega
  · rw [small, smallAll, smallAll, hs]; rfl
theorem two_str {m : Nat} (z : Str) : gE (m + 2) [.list [.str z, .str z], .list [.str z, .str z]] = some (.bool true) := two_exact rfl rfl (by simp [PyData.depth])
end K87

set_option Elab.async false
set_option linter.all false
set_option maxRecDepth 100000
set_option maxHeartbeats 4000000
namespace K87
open PySem PySem.Spec PyProof.Rows L2 Pu
def fRead2 (gR_ : List PyData → Option PyData) : Ev → Option PyData := fLst (fCons (fCall gR_ (fCons (fVar 3) fNil)) (fCons (fCall gR_ (fCons (fVar 3) fNil)) fNil))
def fIsL : Ev → Option Bool := fT (fIsi (f2 gIx (fVar 4) (fC (.int 0))) ["list"])
section
variable {P : Program} {w : World} {K : PySem.W.Frag} {mg : Str → Option Value} {base : Heap}
theorem ok_right {C f fD fT : Addr} {fd fdD fdT : FuncData} {k : Nat} (F : Fun K "_law_right" "_law_right" s_right f fd)
    (FD : FnOk P w K mg base CX0 k fD fdD ["purse", "many"] spDraw) (mD : mg "_law_draw" = some (.ref fD)) (kD : PySem.W.keepIn K (.ref fD) = true) (bD : Binds K fdD ["purse", "many"] [])
    (FT : FnOk P w K mg base CX0 k fT fdT ["purse", "deep"] (spThing 6)) (mT : mg "_law_thing" = some (.ref fT)) (kT : PySem.W.keepIn K (.ref fT) = true) (bT : Binds K fdT ["purse", "deep"] [])
    (D_copied : DefP P w K mg base "_law_copied" k ["thing"] (gCp 45)) (D_text : DefP P w K mg base "_law_thing_text" k ["thing"] (gT 45)) (D_read : DefK P w K mg base "read_thing" k "text" (gRd C)) (D_tt : DefK P w K mg base "thing_text" k "thing" (gTh 45))
    (D_exact : DefP P w K mg base "_law_exact" k ["mine", "theirs"] (gE 50)) (m_isinstance : mg "isinstance" = none) (m_list : mg "list" = none) :
    FnOk P w K mg base CX0 (k + 1) f fd ["purse"] (spRight 10000) := by
  refine F.ok sc_right (fun vs H Q E h => ?_) (fun cdv A outer s H vs Q E hr h => ?_)
  · obtain ⟨p, n, rfl, _⟩ := h
    rfl
  · obtain ⟨p, n, rfl, R, hn, q⟩ := h
    have nd := sc_right.nd
    have hsz := sizeLine_eq
    refine ⟨_, pss_cons (ps_set (i := 1) nd rfl (Or.inl rfl) (pe_call FT hr rfl mT kT bT .nil pass0 (pa_cons (pv 0) (pa_cons (pe_call FD hr rfl mD kD bD .nil pass0 (pa_cons (pv 0) (pa_cons pe_int pa_nil))) pa_nil))))
      (pss_cons (PUS.ps (F := fPar2 2 3 (fCons (fCall (gCp 45) (fCons (fVar 1) fNil)) (fCons (fCall (gT 45) (fCons (fVar 1) fNil)) fNil))) (pus_par2 (i := 2) (j := 3) nd rfl rfl (by decide) rfl rfl (pua_cons (pu_callD D_copied hr rfl (pua_cons (pu_var 1) pua_nil)) (pua_cons (pu_callD D_text hr rfl (pua_cons (pu_var 1) pua_nil)) pua_nil))))
      (pss_cons (ps_set (i := 4) nd rfl (Or.inl rfl) (PU.pe (f := fRead2 (gRd C)) (pu_lst (pua_cons (pu_callD D_read.P hr rfl (pua_cons (pu_var 3) pua_nil)) (pua_cons (pu_callN D_read hr rfl (pu_var 3)) pua_nil)))))
      (pss_cons (ps_if (PUT.pt (f := f4 (gE 50) (gTh 45)) (put_w (puw_or (put_not (put_val (pu_callD D_exact hr rfl (pua_cons (pu_lst (pua_cons (pu_var 3) (pua_cons (pu_var 3) pua_nil))) (pua_cons (pu_lst (pua_cons (pu_callD D_tt.P hr rfl (pua_cons (pu_var 1) pua_nil)) (pua_cons (pu_callN D_tt hr rfl (pu_var 1)) pua_nil))) pua_nil))))) (puw_or1 (put_not (put_val (pu_callD D_exact hr rfl (pua_cons (pu_lst (pua_cons (pu_var 1) (pua_cons (pu_var 1) pua_nil))) (pua_cons (pu_var 4) pua_nil)))))))))
          (pss_one (ps_ret (PU.pe pu_bl))) pss_nil)
      (pss_cons (ps_if (PUT.pt (f := fIsL) (put_val (pu_isi (x := "list") (T := "list") (pu_ix (u1 hr) (pu_var 4) pu_int (fun _ _ => rfl) (fun _ _ => rfl)) rfl m_isinstance rfl m_list (by decide +kernel) (by decide))))
          (pss_one (ps_expr (pe_bm PySem.F.plainAttrs_list PySem.F.slot_list_append PySem.F.type_list_append mt_append (PU.pe (f := f2 gIx (fVar 4) (fC (.int 0))) (pu_ix (u1 hr) (pu_var 4) pu_int (fun _ _ => rfl) (fun _ _ => rfl))) (pa_cons pe_str pa_nil)))) pss_nil)
      (pss_one (PUS.ps (F := fRet (f6 (gE 50) (gRd C))) (pus_ret (pu_callD D_exact hr rfl (pua_cons (pu_lst (pua_cons (pu_var 2) (pua_cons (pu_var 2) pua_nil))) (pua_cons (pu_lst (pua_cons (pu_var 1) (pua_cons (pu_callD D_read.P hr rfl (pua_cons (pu_var 3) pua_nil)) pua_nil))) pua_nil)))))))))), ?_⟩
    refine ⟨_, rfl, _, rfl, p, HE, n, 6, rfl, R, by omega, by decide, by decide, fun d H0 d1 d2 x0 R0 => ?_⟩
    obtain ⟨d, rfl⟩ : ∃ m : Nat, d = (m : Nat) := ⟨d.toNat, by omega⟩
    have hd5 : d ≤ 5 := by omega
    have hc := cost5 d hd5
    refine ⟨p, HE, n + 5, d, rfl, by omega, R0, by omega, fun th v H1 Hs1 x1 r1 th1 R1 => ?_⟩
    obtain ⟨ok, hdep, hlen⟩ := thing_ok d th th1
    have hNT := NT5 d hd5
    have hlen5 : (txT th).length ≤ 500000 := by omega
    obtain ⟨hpl, hsm⟩ := okT_sz th ok hlen5
    have big1 : Big p H H1 := Big.trans x0.big x1.big
    have hCp := copied_ok 44 th ok (by omega) hlen5
    have hT := law_text 44 th ok (by omega) hlen5
    have hRd := read_ok (C := C) ok hlen5
    have hTh := thing_text_ok 44 th ok (by omega) hlen5
    have h1s : Same Hs1 H1 := R1.sub
    have re1 : REnv Hs1 [some (.ref p), some v, none, none, none] [none, some th, none, none, none] := ⟨Nat.le_refl 5, fun j w hj => by
      rcases j with _ | _ | _ | _ | _ | j
      · cases hj
      · cases hj; exact ⟨_, rfl, r1⟩
      · cases hj
      · cases hj
      · cases hj
      · cases hj⟩
    refine ⟨Hs1, _, .nx [none, some th, some th, some (.str (tx (txT th))), none], h1s, re1, ?_, ?_⟩
    · unfold fPar2
      rw [z_cons (z_call (z_cons rfl rfl) hCp) (z_cons (z_call (z_cons rfl rfl) hT) rfl)]
      rfl
    intro σ2 H2 Hs2 x2 re2 hl2
    have hp1 : H1 p ≠ none := R1.np
    have hs2p : Hs2 p = none := x2.new p R1.pn hp1
    obtain ⟨v3, e3, r3⟩ := re2.at_ 3 _ rfl
    obtain rfl := r3.str_of
    have re3 : REnv HE σ2 [none, none, none, some (.str (tx (txT th)))] := ⟨by have := re2.le; show 4 ≤ σ2.length; have : 5 ≤ σ2.length := this; omega, fun j w hj => by
      rcases j with _ | _ | _ | _ | j
      · cases hj
      · cases hj
      · cases hj
      · cases hj; exact ⟨_, e3, .str _⟩
      · cases hj⟩
    refine ⟨HE, _, .list [th, th], (fun _ _ e => nomatch e), re3, ?_, fun v4 H3 Hs3 x3 r4 => ?_⟩
    · exact z_lst (z_cons (z_call (z_cons rfl rfl) hRd) (z_cons (z_call (z_cons rfl rfl) hRd) rfl)) (by show 2 ≤ sizeLine; decide)
    have s23 : Same Hs2 H3 := x2.sub.trans x3.big
    have fresh3 : ∀ b o, Hs3 b = some o → H2 b = none := fun b o e => by
      cases h : H2 b with
      | none => rfl
      | some o' => rw [x3.new b rfl (by rw [h]; exact fun z => nomatch z)] at e; cases e
    have re4 : ∀ H', Same H3 H' → REnv H' (σ2.set 4 (some v4)) [none, some th, some th, some (.str (tx (txT th))), some (.list [th, th])] := fun H' s => by
      have := (re2.mono (s23.trans s)).set (i := 4) (r4.mono (x3.sub.trans s))
      exact this
    refine ⟨H3, _, false, Same.refl _, re4 H3 (Same.refl _), ?_, fun H4 Hs4 x4 => iteF ?_⟩
    · have a1 : fCall (gE 50) (fCons (fLst (fCons (fVar 3) (fCons (fVar 3) fNil))) (fCons (fLst (fCons (fCall (gTh 45) (fCons (fVar 1) fNil)) (fCons (fCall (gTh 45) (fCons (fVar 1) fNil)) fNil))) fNil)) [none, some th, some th, some (.str (tx (txT th))), some (.list [th, th])] = some (.bool true) :=
        z_call (z_cons (z_lst (z_cons rfl (z_cons rfl rfl)) (by show 2 ≤ sizeLine; decide)) (z_cons (z_lst (z_cons (z_call (z_cons rfl rfl) hTh) (z_cons (z_call (z_cons rfl rfl) hTh) rfl)) (by show 2 ≤ sizeLine; decide)) rfl)) (two_str _)
      have a2 : fCall (gE 50) (fCons (fLst (fCons (fVar 1) (fCons (fVar 1) fNil))) (fCons (fVar 4) fNil)) [none, some th, some th, some (.str (tx (txT th))), some (.list [th, th])] = some (.bool true) :=
        z_call (z_cons (z_lst (z_cons rfl (z_cons rfl rfl)) (by show 2 ≤ sizeLine; decide)) (z_cons rfl rfl)) (two_exact hpl hsm (by omega))
      exact z_orF (z_not (z_T a1)) (z_not (z_T a2))
    -- the end, from any heap behind
    have fin : ∀ H7, Same Hs2 H7 → (∀ b o, b ≠ p → H b = some o → H7 b = some o) → (∃ a b c d : Int, H7 p = some (.lst [.int a, .int b, .int c, .int d]) ∧ 0 ≤ a ∧ 0 ≤ b ∧ b < 2 ^ 32 ∧ 0 ≤ c ∧ c ≤ (n + 10000 : Nat) ∧ 0 ≤ d ∧ d < 2 ^ 32) →
        tPuS (fRet (f6 (gE 50) (gRd C))) { nx := fun _ H' => Q .non H', rt := Q } (σ2.set 4 (some v4)) H7 := by
      intro H7 s7 big7 at7
      refine ⟨Hs2, [none, some th, some th, some (.str (tx (txT th))), none], .rt (.bool true), s7, ?_, ?_, fun v' H' Hs' x' r' => ?_⟩
      · have := re2.unset (i := 4) (o := some v4)
        exact this
      · refine z_ret (z_call (z_cons (z_lst (z_cons rfl (z_cons rfl rfl)) (by show 2 ≤ sizeLine; decide)) (z_cons (z_lst (z_cons rfl (z_cons (z_call (z_cons rfl rfl) hRd) rfl)) (by show 2 ≤ sizeLine; decide)) rfl)) (two_exact hpl hsm (by omega)))
      · obtain rfl := r'.bl_of
        refine q H' (fun b o hb e => x'.big b o (big7 b o hb e)) ?_
        obtain ⟨a, b, c, d, e, rest⟩ := at7
        exact ⟨⟨a, b, c, d, x'.big _ _ e, rest⟩, rfl, fun _ _ e => nomatch e⟩
    have s14 : Same H1 H4 := (x2.big.trans x3.big).trans x4.big
    have pur4 : ∀ H', Same H4 H' → (∃ a b c d : Int, H' p = some (.lst [.int a, .int b, .int c, .int d]) ∧ 0 ≤ a ∧ 0 ≤ b ∧ b < 2 ^ 32 ∧ 0 ≤ c ∧ c ≤ (n + 10000 : Nat) ∧ 0 ≤ d ∧ d < 2 ^ 32) := fun H' s => by
      obtain ⟨a, b, c, d', e, rest⟩ := (R1.more (m := n + 10000) (by omega)).at_
      exact ⟨a, b, c, d', s _ _ (s14 _ _ e), rest⟩
    -- told[0] is a list
    have hix : f2 gIx (fVar 4) (fC (.int 0)) [none, some th, some th, some (.str (tx (txT th))), some (.list [th, th])] = some th := z_2 rfl rfl (atI_first _ _)
    have hob : Pu.obD th = false := by
      cases th with
      | dict ps => rw [okT] at ok; cases ok
      | _ => rfl
    refine ⟨H4, _, isTy (tyD th) "list", Same.refl _, re4 H4 x4.big, ?_, fun H5 Hs5 x5 => ?_⟩
    · have e1 : fIsi (f2 gIx (fVar 4) (fC (.int 0))) ["list"] [none, some th, some th, some (.str (tx (txT th))), some (.list [th, th])] = some (.bool (isTy (tyD th) "list")) := by
        unfold fIsi
        rw [hix, Option.bind_some, hob, if_neg Bool.false_ne_true]
        simp
      exact z_T e1
    have s45 : Same H4 H5 := x5.big
    have s25 : Same H2 H5 := (x3.big.trans x4.big).trans s45
    cases hb : isTy (tyD th) "list" with
    | false =>
      refine iteF ?_
      exact fin H5 (x2.sub.trans s25) (fun b o h e => s45 _ _ (s14 _ _ (big1 b o h e))) (pur4 H5 s45)
    | true =>
      refine iteT ?_
      obtain ⟨ds, rfl⟩ : ∃ ds, th = .list ds := by
        cases th with
        | list ds => exact ⟨ds, rfl⟩
        | none => exact absurd hb (show ¬ isTy _ "list" = true from by simp [tyD, isTy])
        | bool b => exact absurd hb (show ¬ isTy _ "list" = true from by simp [tyD, isTy])
        | int i => exact absurd hb (show ¬ isTy _ "list" = true from by simp [tyD, isTy])
        | str z => exact absurd hb (show ¬ isTy _ "list" = true from by simp [tyD, isTy])
        | tuple ds => exact absurd hb (show ¬ isTy _ "list" = true from by simp [tyD, isTy])
        | dict ps => exact absurd hb (show ¬ isTy _ "list" = true from by simp [tyD, isTy])
      have re5 : REnv Hs3 (σ2.set 4 (some v4)) [none, none, none, none, some (.list [.list ds, .list ds])] := ⟨by have := re2.le; show 5 ≤ (σ2.set 4 (some v4)).length; rw [List.length_set]; exact this, fun j w hj => by
        rcases j with _ | _ | _ | _ | _ | j
        · cases hj
        · cases hj
        · cases hj
        · cases hj
        · cases hj; exact ⟨v4, by rw [List.getElem?_set_self (by have := re2.le; have : 5 ≤ σ2.length := this; omega)], r4⟩
        · cases hj⟩
      have s35 : Same Hs3 H5 := x3.sub.trans (x4.big.trans s45)
      refine ⟨Hs3, _, .list ds, s35, re5, z_2 rfl rfl (atI_first _ _), fun v6 H6 Hs6 x6 r6 => ?_⟩
      obtain ⟨a, xs, rfl, ha, ra⟩ := r6.lst_of
      have hfr : H2 a = none := by
        cases h3 : Hs3 a with
        | some o => exact fresh3 a o h3
        | none =>
          cases h5 : H5 a with
          | none => exact s25.free h5
          | some o => rw [x6.new a h3 (by rw [h5]; exact fun z => nomatch z)] at ha; cases ha
      have hpa : p ≠ a := fun z => by subst z; exact hp1 (x2.big.free hfr)
      have haH : H6 a = some (.lst xs) := x6.sub _ _ ha
      have hdl : ds.length ≤ 1000000 := by
        rw [small, Bool.and_eq_true] at hsm
        exact of_decide_eq_true hsm.1
      refine ⟨.inl ⟨rfl, xs, SqL.of haH⟩, a, xs, .str "more", rfl, rfl, haH, by rw [← ra.len]; omega, ?_⟩
      have s26 : Same H2 H6 := s25.trans x6.big
      refine fin _ (fun b o e => ?_) (fun b o h e => ?_) ?_
      · rw [upd_ne (ne_of_none (x2.sub _ _ e) hfr)]
        exact s26 _ _ (x2.sub _ _ e)
      · have e1 := x2.big _ _ (big1 b o h e)
        rw [upd_ne (ne_of_none e1 hfr)]
        exact s26 _ _ e1
      · obtain ⟨a', b', c', d', e, rest⟩ := pur4 H6 (s45.trans x6.big)
        exact ⟨a', b', c', d', (upd_ne hpa).trans e, rest⟩
end
end K87

set_option Elab.async false
set_option linter.all false
set_option maxRecDepth 100000
set_option maxHeartbeats 4000000
namespace K87
open PySem PySem.Spec PyProof.Rows L2 Pu
abbrev s_rr : Stmt := topS 66
theorem sc_rr : FnScope ["purse", "names", "row", "text", "name", "factor"] ["purse"] (defScope s_rr) := ⟨rfl, rfl, rfl, by decide +kernel, rfl, by decide +kernel, by decide +kernel⟩
def FRR (gLT_ gEx gRow_ gTT_ gRT_ : List PyData → Option PyData) : Ev → Option Out := (fSeq (fSet 3 (fCall gLT_ (fCons (fTup (fCons (fC (.str "least")) (fCons (fVar 2) fNil))) fNil))) (fSeq (fIfS (fNot (fT (fCall gEx (fCons (fLst (fCons (fVar 3) (fCons (fVar 3) fNil))) (fCons (fLst (fCons (fCall gRow_ (fCons (fVar 2) fNil)) (fCons (fCall gRow_ (fCons (fVar 2) fNil)) fNil))) fNil))))) (fSeq (fRet (fC (.bool false))) fNext) fNext) (fSeq (fIfS (f2T gNe (fComp (fIt (f2 gIx (fVar 2) (fC (.int 1)))) (asTup 2) [4, 5] [4, 5] (fOr (f2T gInD (fC (.str "@")) (fVar 4)) (f2T gInD (fC (.str "?")) (fVar 4))) (fVar 4)) (fLst fNil)) (fSeq (fRet (fC (.bool true))) fNext) fNext) (fSeq (fRet (fCall gEx (fCons (fLst (fCons (fVar 3) (fCons (fTup (fCons (fC (.str "least")) (fCons (fVar 2) fNil))) fNil))) (fCons (fLst (fCons (fCall gTT_ (fCons (fTup (fCons (fC (.str "least")) (fCons (fVar 2) fNil))) fNil)) (fCons (fCall gRT_ (fCons (fVar 3) fNil)) fNil))) fNil)))) fNext))))
def isOdd (p : SI) : Bool := decide (64 ∈ p.1.cps.toList) || decide (63 ∈ p.1.cps.toList)
theorem names_odd : (names7.all fun z => decide (64 ∈ z.cps.toList) || decide (63 ∈ z.cps.toList) || names3.contains z) = true := by decide +kernel
theorem plainStrs : ∀ zs : List Str, PyData.plainAll (zs.map .str) = true
  | [] => rfl
  | z :: zs => by rw [List.map_cons, PyData.plainAll, plainStrs zs]; rfl
theorem ne_nil (zs : List Str) : gNe (.list (zs.map .str)) (.list []) = some (decide (zs ≠ [])) := by
  cases zs with
  | nil => rfl
  | cons z zs =>
    show (eqG (.list (.str z :: zs.map .str)) (.list [])).map (! ·) = _
    unfold eqG
    have h1 : (PyData.list (.str z :: zs.map .str)).plain = true := by rw [PyData.plain, PyData.plainAll, plainStrs zs]; rfl
    have h3 : min (PyData.list (.str z :: zs.map .str)).depth (PyData.list []).depth ≤ 64 := Nat.le_trans (Nat.min_le_right _ _) (by decide)
    rw [h1, show (PyData.list []).plain = true from rfl, decide_eq_true h3, decide_eq_true (by simp)]
    rfl
theorem smallStr : ∀ ps : List SI, PyData.depthAll (ps.map siD) ≤ 1 ∧ smallAll (ps.map siD) = true ∧ PyData.plainAll (ps.map siD) = true
  | [] => ⟨Nat.zero_le _, rfl, rfl⟩
  | p :: ps => by
    obtain ⟨a, b, c⟩ := smallStr ps
    refine ⟨?_, ?_, ?_⟩
    · rw [List.map_cons, PyData.depthAll]
      have : (siD p).depth ≤ 1 := by simp [siD, PyData.depth, PyData.depthAll]
      omega
    · rw [List.map_cons, smallAll, b]; rfl
    · rw [List.map_cons, PyData.plainAll, c]; rfl
theorem row_sz {n : Int} {ps : List SI} (h : ps.length ≤ 7) : (rowD n ps).depth ≤ 3 ∧ small (rowD n ps) = true ∧ (rowD n ps).plain = true := by
  obtain ⟨a, b, c⟩ := smallStr ps
  refine ⟨?_, ?_, ?_⟩
  · simp [rowD, PyData.depth, PyData.depthAll]; omega
  · have : ps.length ≤ 1000000 := by omega
    simp [rowD, small, smallAll, b, this]
  · simp [rowD, PyData.plain, PyData.plainAll, c]
theorem rr_ok {n : Int} {ps : List SI} (R : RowOk n ps) : FRR (gLT 2) (gE 50) (gRow 2) (gTT 2 2) (gRT 2 2) [none, none, some (rowD n ps), none, none, none] = some (.rt (.bool true)) := by
  have hln := R.ln
  have hlt := law_test R 1
  have hrow := row_told_ok R 1
  have hc : fComp (fIt (f2 gIx (fVar 2) (fC (.int 1)))) (asTup 2) [4, 5] [4, 5] (fOr (f2T gInD (fC (.str "@")) (fVar 4)) (f2T gInD (fC (.str "?")) (fVar 4))) (fVar 4) [none, none, some (rowD n ps), some (.str (tx (rowL n ps))), none, none] = some (.list (((ps.filter isOdd).map (·.1)).map .str)) := by
    rw [comp_si (t := isOdd) (e := fun p => .str p.1) (ps := ps) rfl (by omega), List.map_map]
    · rfl
    · intro p hp
      exact z_or (z_2T rfl rfl (in_one 64 p.1)) (z_2T rfl rfl (in_one 63 p.1))
    · intro p hp _; rfl
  refine z_nx (z_set (z_call (z_cons (z_tup (z_cons rfl (z_cons rfl rfl)) (by show 2 ≤ sizeLine; decide)) rfl) hlt)) ?_
  refine z_nx (z_ifF (z_not (z_T (z_call (z_cons (z_lst (z_cons rfl (z_cons rfl rfl)) (by show 2 ≤ sizeLine; decide)) (z_cons (z_lst (z_cons (z_call (z_cons rfl rfl) hrow) (z_cons (z_call (z_cons rfl rfl) hrow) rfl)) (by show 2 ≤ sizeLine; decide)) rfl)) (two_str _)))) rfl) ?_
  have hn : f2T gNe (fComp (fIt (f2 gIx (fVar 2) (fC (.int 1)))) (asTup 2) [4, 5] [4, 5] (fOr (f2T gInD (fC (.str "@")) (fVar 4)) (f2T gInD (fC (.str "?")) (fVar 4))) (fVar 4)) (fLst fNil) [none, none, some (rowD n ps), some (.str (tx (rowL n ps))), none, none] = some (decide ((ps.filter isOdd).map (·.1) ≠ [])) := z_2T hc (z_lst (fs := fNil) (ws := []) rfl (Nat.zero_le _)) (ne_nil ((ps.filter isOdd).map (·.1)))
  by_cases hodd : (ps.filter isOdd).map (·.1) = []
  · rw [decide_eq_false (by simpa using hodd)] at hn
    have n3 : ∀ p ∈ ps, p.1 ∈ names3 := fun p hp => by
      have h1 := List.all_eq_true.mp names_odd p.1 (R.nm p hp)
      have h2 : isOdd p = false := by
        rw [Bool.eq_false_iff]
        intro h
        have : p ∈ ps.filter isOdd := List.mem_filter.mpr ⟨hp, h⟩
        rw [List.map_eq_nil_iff.mp hodd] at this
        cases this
      unfold isOdd at h2
      rw [h2, Bool.false_or] at h1
      simpa using h1
    refine z_nx (z_ifF hn rfl) (z_rt (z_ret ?_))
    obtain ⟨rd, rs, rp⟩ := row_sz (n := n) hln
    refine z_call (z_cons (z_lst (z_cons rfl (z_cons (z_tup (z_cons rfl (z_cons rfl rfl)) (by show 2 ≤ sizeLine; decide)) rfl)) (by show 2 ≤ sizeLine; decide)) (z_cons (z_lst (z_cons (z_call (z_cons (z_tup (z_cons rfl (z_cons rfl rfl)) (by show 2 ≤ sizeLine; decide)) rfl) (test_text_ok R n3 2 1)) (z_cons (z_call (z_cons rfl rfl) (read_test_ok R n3 2 1)) rfl)) (by show 2 ≤ sizeLine; decide)) rfl)) ?_
    refine exact_refl 49 _ ?_ ⟨?_, ?_⟩
    · simp [leastD, PyData.plain, PyData.plainAll, rp]
    · simp [leastD, PyData.depth, PyData.depthAll]; omega
    · simp [leastD, small, smallAll, rs]
  · rw [decide_eq_true (by simpa using hodd)] at hn
    exact z_rt (z_ifT hn (z_rt (z_ret rfl)))
section
variable {P : Program} {w : World} {K : PySem.W.Frag} {mg : Str → Option Value} {base : Heap}
theorem ok_rr {f fD fS fP fF : Addr} {fd fdD fdS fdP fdF : FuncData} {k : Nat} (F : Fun K "_law_row_right" "_law_row_right" s_rr f fd)
    (FD : FnOk P w K mg base CX0 k fD fdD ["purse", "many"] spDraw) (mD : mg "_law_draw" = some (.ref fD)) (kD : PySem.W.keepIn K (.ref fD) = true) (bD : Binds K fdD ["purse", "many"] [])
    (FS : FnOk P w K mg base CX0 k fS fdS ["purse", "some"] spShuf) (mS : mg "_law_shuffled" = some (.ref fS)) (kS : PySem.W.keepIn K (.ref fS) = true) (bS : Binds K fdS ["purse", "some"] [])
    (FP : FnOk P w K mg base CX0 k fP fdP ["one", "many", "other"] spPlus) (mP : mg "_law_plus" = some (.ref fP)) (kP : PySem.W.keepIn K (.ref fP) = true) (bP : Binds K fdP ["one", "many", "other"] [])
    (FF : FnOk P w K mg base CX0 k fF fdF ["purse", "names", "wide"] spDF) (mF : mg "_law_drawn_form" = some (.ref fF)) (kF : PySem.W.keepIn K (.ref fF) = true) (bF : Binds K fdF ["purse", "names", "wide"] [])
    (D__law_test_text : DefP P w K mg base "_law_test_text" k ["test"] (gLT 2)) (D__law_exact : DefP P w K mg base "_law_exact" k ["mine", "theirs"] (gE 50)) (D_row_told : DefK P w K mg base "row_told" k "row" (gRow 2))
    (D_test_text : DefP P w K mg base "test_text" k ["test"] (gTT 2 2)) (D_read_test : DefP P w K mg base "read_test" k ["text"] (gRT 2 2)) :
    FnOk P w K mg base CX0 (k + 1) f fd ["purse"] (spRight 300) := by
  refine F.ok sc_rr (fun vs H Q E h => ?_) (fun cdv A outer s H vs Q E hr h => ?_)
  · obtain ⟨p, n, rfl, _⟩ := h
    rfl
  · obtain ⟨p, n, rfl, R, hn, q⟩ := h
    have nd := sc_rr.nd
    have hsz := sizeLine_eq
    refine ⟨_, pss_cons (ps_set (i := 1) nd rfl (Or.inl rfl) (pe_call FS hr rfl mS kS bS .nil pass0 (pa_cons (pv 0) (pa_cons (PU.pe (f := fLst (fCons (fC (.str "a")) (fCons (fC (.str "b@")) (fCons (fC (.str "?0")) (fCons (fC (.str "?1")) (fCons (fC (.str "x")) (fCons (fC (.str "x@")) (fCons (fC (.str "zabcdefg")) fNil)))))))) (pu_lst (pua_cons pu_str (pua_cons pu_str (pua_cons pu_str (pua_cons pu_str (pua_cons pu_str (pua_cons pu_str (pua_cons pu_str pua_nil))))))))) pa_nil))))
      (pss_cons (ps_set (i := 2) nd rfl (Or.inl rfl) (pe_call FP hr rfl mP kP bP .nil pass0 (pa_cons (pe_call FF hr rfl mF kF bF .nil pass0 (pa_cons (pv 0) (pa_cons (pv 1) (pa_cons pe_int pa_nil)))) (pa_cons (pe_call FD hr rfl mD kD bD .nil pass0 (pa_cons (pv 0) (pa_cons pe_int pa_nil))) (pa_cons (pe_call FF hr rfl mF kF bF .nil pass0 (pa_cons (pv 0) (pa_cons (pv 1) (pa_cons pe_int pa_nil)))) pa_nil)))))
      (PUSs.pss (F := FRR (gLT 2) (gE 50) (gRow 2) (gTT 2 2) (gRT 2 2)) (puss_cons (pus_set (i := 3) nd rfl (Or.inl rfl) (pu_callD D__law_test_text hr rfl (pua_cons (pu_tup (pua_cons pu_str (pua_cons (pu_var 2) pua_nil))) pua_nil))) (puss_cons (pus_if (put_not (put_val (pu_callD D__law_exact hr rfl (pua_cons (pu_lst (pua_cons (pu_var 3) (pua_cons (pu_var 3) pua_nil))) (pua_cons (pu_lst (pua_cons (pu_callD D_row_told.P hr rfl (pua_cons (pu_var 2) pua_nil)) (pua_cons (pu_callN D_row_told hr rfl (pu_var 2)) pua_nil))) pua_nil))))) (puss_cons (pus_ret pu_bl) puss_nil) puss_nil) (puss_cons (pus_if (put_cmp (o_ne (u64 hr)) g_ne (pu_lc (own := [("name", 4), ("factor", 5)]) (is := [4, 5]) rfl nd (pui_any (pu_ix (u1 hr) (pu_var 2) pu_int (fun _ _ => rfl) (fun _ _ => rfl))) (blkOk_by (N := ["purse", "names", "row", "text", "name", "factor"]) (sc := defScope s_rr) (by decide +kernel)) gp_tup2 tp_self (by decide) (fun _ _ _ _ _ => (pg_tup rfl (pgs_cons (pg_name (i := 4) nd rfl (Or.inl rfl)) (pgs_cons (pg_name (i := 5) nd rfl (Or.inl rfl)) pgs_nil)))) (fun _ _ _ _ _ => pts_one ((put_w (puw_or (put_in (u1 hr) pu_str (pu_var 4)) (puw_or1 (put_in (u1 hr) pu_str (pu_var 4)))))).pt) (fun _ _ _ _ _ => (pu_var 4))) (pu_lst pua_nil) (nomark _)) (puss_cons (pus_ret pu_bl) puss_nil) puss_nil) (puss_cons (pus_ret (pu_callD D__law_exact hr rfl (pua_cons (pu_lst (pua_cons (pu_var 3) (pua_cons (pu_tup (pua_cons pu_str (pua_cons (pu_var 2) pua_nil))) pua_nil))) (pua_cons (pu_lst (pua_cons (pu_callD D_test_text hr rfl (pua_cons (pu_tup (pua_cons pu_str (pua_cons (pu_var 2) pua_nil))) pua_nil)) (pua_cons (pu_callD D_read_test hr rfl (pua_cons (pu_var 3) pua_nil)) pua_nil))) pua_nil)))) puss_nil)))))), ?_⟩
    refine ⟨_, rfl, HE, [], .list (names7.map .str), R.sub, ⟨Nat.zero_le _, fun i w z => by cases z⟩, rfl, fun v1 H1 Hs1 x1 r1 => ?_⟩
    have R1 := R.ext x1
    refine ⟨p, Hs1, n, names7.map .str, v1, rfl, R1, by show n + 5 * 7 < _; omega, r1, by decide, fun ds v2 H2 Hs2 hds hdl x2 r2 R2 => ?_⟩
    obtain ⟨zs, rfl, hzs⟩ : ∃ zs : List Str, ds = zs.map .str ∧ ∀ z ∈ zs, z ∈ names7 := by
      clear r2 hdl
      induction ds with
      | nil => exact ⟨[], rfl, fun z h => nomatch h⟩
      | cons d ds ih =>
        obtain ⟨zs, e, h⟩ := ih fun x hx => hds x (List.mem_cons_of_mem _ hx)
        obtain ⟨z, hz, hd⟩ := List.mem_map.mp (hds d List.mem_cons_self)
        exact ⟨z :: zs, by rw [List.map_cons, ← e, hd], fun y hy => by
          rcases List.mem_cons.mp hy with rfl | hy
          · exact hz
          · exact h y hy⟩
    have hz7 : zs.length = 7 := by rw [List.length_map] at hdl; exact hdl
    have hzne : zs ≠ [] := fun e => by rw [e] at hz7; cases hz7
    have e35 : n + 5 * (names7.map PyData.str).length = n + 35 := rfl
    rw [e35] at R2
    refine ⟨_, rfl, _, rfl, p, Hs2, n + 35, zs, v2, 99, rfl, R2, by omega, r2, hzne, by omega, hzs, by decide, fun m1 p1 va H3 Hs3 F1 x3 r3 R3 => ?_⟩
    refine ⟨_, rfl, p, Hs3, n + 35 + 60, 9, rfl, R3, by omega, by decide, by decide, fun d H4 d1 d2 x4 R4 => ?_⟩
    have r2' := (r2.mono x3.small).mono x4.small
    refine ⟨_, rfl, _, rfl, p, Hs3, n + 35 + 60 + 5, zs, v2, 3, rfl, R4, by omega, r2', hzne, by omega, hzs, by decide, fun m2 p2 vb H5 Hs5 F2 x5 r5 R5 => ?_⟩
    have r3' := r3.mono x5.small
    refine ⟨Hs5, m1, m2, d, p1, p2, va, vb, rfl, R5.sub, r3', r5, F1, F2, by omega, fun m ps v6 H6 Hs6 hrow x6 r6 => ?_⟩
    have R6 := R5.ext x6
    have re : REnv Hs6 [some (.ref p), some v2, some v6, none, none, none] [none, none, some (rowD m ps), none, none, none] := ⟨Nat.le_refl 6, fun j w hj => by
      rcases j with _ | _ | _ | _ | _ | _ | j
      · cases hj
      · cases hj
      · cases hj; exact ⟨_, rfl, r6⟩
      · cases hj
      · cases hj
      · cases hj
      · cases hj⟩
    refine ⟨Hs6, _, .rt (.bool true), R6.sub, re, rr_ok hrow, fun v' H' Hs' x' r' => ?_⟩
    obtain rfl := r'.bl_of
    have big : Big p H H' := fun b o hb e => x'.big _ _ (x6.big _ _ (x5.big _ _ hb (x4.big _ _ hb (x3.big _ _ hb (x2.big _ _ hb (x1.big _ _ e))))))
    refine q H' big ?_
    exact ((R6.ext x').empty).more (by omega)
end
end K87

set_option Elab.async false
set_option linter.all false
set_option maxRecDepth 100000
set_option maxHeartbeats 4000000
/-! The law's body after its walk over the purses. -/
namespace K87
open PySem PySem.Spec PyProof.Rows L2 Pu
abbrev s_law : Stmt := topS 67
theorem sc_law : FnScope ["script", "purse", "spin", "deep", "told"] ["script"] (defScope s_law) := ⟨rfl, rfl, rfl, by decide +kernel, rfl, by decide +kernel, by decide +kernel⟩
def F_rest (gth gR_ gRow_ gEx : List PyData → Option PyData) : Ev → Option Out := (fSeq (fSet 3 (fLst fNil)) (fSeq (fFor (fRange (fC (.int 40))) asOne [2] (fSeq (fSet 3 (fLst (fCons (fVar 3) (fCons (fTup (fCons (fVar 2) fNil)) fNil)))) fNext)) (fSeq (fSet 4 (fLst (fCons (fCall gth (fCons (fTup (fCons (fC (.str "ends")) (fCons (fLst (fCons (fC (.int 0)) (fCons (f2 gSub (fC (.int 0)) (fC (.int 12))) (fCons (fC .none) fNil)))) (fCons (fTup (fCons (fC (.bool true)) (fCons (fC (.bool false)) fNil))) (fCons (fC (.str "comes again")) (fCons (fLst fNil) (fCons (fTup fNil) fNil))))))) fNil)) (fCons (fCall gR_ (fCons (fC (.str "((~) [! .] a_b ?7)")) fNil)) (fCons (fCall gth (fCons (fC (.int 0)) fNil)) (fCons (fCall gth (fCons (fC (.str "?")) fNil)) fNil)))))) (fSeq (fSet 4 (f2 gAdd (fVar 4) (fLst (fCons (fCall gR_ (fCons (fCall gth (fCons (fVar 3) fNil)) fNil)) (fCons (fCall gRow_ (fCons (fTup (fCons (f2 gSub (fC (.int 0)) (fC (.int 1))) (fCons (fTup fNil) fNil))) fNil)) fNil))))) (fSeq (fRet (fCall gEx (fCons (fLst (fCons (fC (.str "(ends [0 -12 ~] (! .) comes_again [] ())")) (fCons (fTup (fCons (fTup (fCons (fC .none) fNil)) (fCons (fLst (fCons (fC (.bool true)) (fCons (fC (.bool false)) fNil))) (fCons (fC (.str "a b")) (fCons (fC (.str "?7")) fNil))))) (fCons (fC (.str "0")) (fCons (fC (.str "?")) (fCons (fVar 3) (fCons (fC (.str "0 >= 1")) fNil))))))) (fCons (fVar 4) fNil)))) fNext)))))
section
variable {P : Program} {w : World} {K : PySem.W.Frag} {mg : Str → Option Value} {base : Heap}
theorem d_rest {k : Nat} {gth gR_ gRow_ gEx : List PyData → Option PyData} (D_thing_text : DefK P w K mg base "thing_text" k "thing" gth) (D_read_thing : DefK P w K mg base "read_thing" k "text" gR_) (D_row_told : DefK P w K mg base "row_told" k "row" gRow_)
    (D__law_exact : DefP P w K mg base "_law_exact" k ["mine", "theirs"] gEx) (m_range : mg "range" = none)
    {f : Addr} {cdv : Value} {A : Around} {outer : List Env} {s : Shared} {H : Hp} {E : XK} (hr : Room k (A.deeper (envOfC "law" (defScope s_law) s.heap.objs.size f cdv))) (nd : (["script", "purse", "spin", "deep", "told"] : List Str).Nodup) :
    PUSs (cxOf CX0 P w K mg base ["script", "purse", "spin", "deep", "told"] "law" (defScope s_law) f cdv A outer s H E).nox ((defBody s_law).drop 1) (F_rest gth gR_ gRow_ gEx) :=
  (puss_cons (pus_set (i := 3) nd rfl (Or.inl rfl) (pu_lst pua_nil)) (puss_cons (pus_for PassesOwn.never rfl (pui_range pu_int rfl m_range) (is := [2]) gp_one (pg_name (i := 2) nd rfl (Or.inl rfl)) (puss_cons (pus_set (i := 3) nd rfl (Or.inl rfl) (pu_lst (pua_cons (pu_var 3) (pua_cons (pu_tup (pua_cons (pu_var 2) pua_nil)) pua_nil)))) puss_nil)) (puss_cons (pus_set (i := 4) nd rfl (Or.inl rfl) (pu_lst (pua_cons (pu_callD D_thing_text.P hr rfl (pua_cons (pu_tup (pua_cons pu_str (pua_cons (pu_lst (pua_cons pu_int (pua_cons (pu_op o_sub g_sub pu_int pu_int) (pua_cons pu_non pua_nil)))) (pua_cons (pu_tup (pua_cons pu_bl (pua_cons pu_bl pua_nil))) (pua_cons pu_str (pua_cons (pu_lst pua_nil) (pua_cons (pu_tup pua_nil) pua_nil))))))) pua_nil)) (pua_cons (pu_callD D_read_thing.P hr rfl (pua_cons pu_str pua_nil)) (pua_cons (pu_callD D_thing_text.P hr rfl (pua_cons pu_int pua_nil)) (pua_cons (pu_callD D_thing_text.P hr rfl (pua_cons pu_str pua_nil)) pua_nil)))))) (puss_cons (pus_set (i := 4) nd rfl (Or.inl rfl) (pu_op o_add g_add (pu_var 4) (pu_lst (pua_cons (pu_callD D_read_thing.P hr rfl (pua_cons (pu_callD D_thing_text.P hr rfl (pua_cons (pu_var 3) pua_nil)) pua_nil)) (pua_cons (pu_callD D_row_told.P hr rfl (pua_cons (pu_tup (pua_cons (pu_op o_sub g_sub pu_int pu_int) (pua_cons (pu_tup pua_nil) pua_nil))) pua_nil)) pua_nil))))) (puss_cons (pus_ret (pu_callD D__law_exact hr rfl (pua_cons (pu_lst (pua_cons pu_str (pua_cons (pu_tup (pua_cons (pu_tup (pua_cons pu_non pua_nil)) (pua_cons (pu_lst (pua_cons pu_bl (pua_cons pu_bl pua_nil))) (pua_cons pu_str (pua_cons pu_str pua_nil))))) (pua_cons pu_str (pua_cons pu_str (pua_cons (pu_var 3) (pua_cons pu_str pua_nil))))))) (pua_cons (pu_var 4) pua_nil)))) puss_nil)))))
end
def dp : Nat → PyData
  | 0 => .list []
  | n + 1 => .list [dp n, .tuple [.int (n : Nat)]]
theorem dp_int {n : Nat} (h : n ≤ 40) : okT (.int (n : Nat)) = true := by
  rw [okT, Bool.and_eq_true, decide_eq_true_iff, decide_eq_true_iff]
  omega
theorem dp_ok : ∀ n, n ≤ 40 → okT (dp n) = true ∧ (dp n).depth ≤ n + 1 ∧ (txT (dp n)).length ≤ n * 40 + 2
  | 0, _ => by refine ⟨rfl, ?_, ?_⟩ <;> simp [dp, PyData.depth, PyData.depthAll, txT, txA, TL.joinL]
  | n + 1, h => by
    obtain ⟨a, b, c⟩ := dp_ok n (by omega)
    have hi := dp_int (n := n) (by omega)
    have hl := (int_acc hi).2.2.2
    refine ⟨?_, ?_, ?_⟩
    · rw [dp, okT, okA, okA, okA, okT, okA, okA, a, hi]; rfl
    · rw [dp, PyData.depth, PyData.depthAll, PyData.depthAll, PyData.depthAll, PyData.depth, PyData.depthAll, PyData.depthAll, PyData.depth]; omega
    · have e : txT (dp (n + 1)) = [91] ++ (txT (dp n) ++ ([32] ++ ([40] ++ txT (.int (n : Nat)) ++ [41]))) ++ [93] := by
        simp [dp, txT, txA, TL.joinL]
      rw [e]
      simp only [List.length_append, List.length_singleton]
      omega
theorem forDeep : ∀ (m i : Nat) (o : Option PyData), ∃ o' : Option PyData, forL asOne [2] (fSeq (fSet 3 (fLst (fCons (fVar 3) (fCons (fTup (fCons (fVar 2) fNil)) fNil)))) fNext) ((List.range' i m).map fun (i : Nat) => PyData.int (i : Nat)) [none, none, o, some (dp i), none] = some (.nx [none, none, o', some (dp (i + m)), none])
  | 0, i, o => ⟨o, rfl⟩
  | m + 1, i, o => by
    obtain ⟨o', h⟩ := forDeep m (i + 1) (some (.int (i : Nat)))
    refine ⟨o', ?_⟩
    rw [List.range'_succ, List.map_cons, forL]
    rw [show asOne (PyData.int (i : Nat)) = some [PyData.int (i : Nat)] from rfl, Option.bind_some]
    show Option.bind (fSeq _ fNext [none, none, some (.int (i : Nat)), some (dp i), none]) _ = _
    rw [z_nx (z_set (z_lst (z_cons rfl (z_cons (z_tup (z_cons rfl rfl) (by show 1 ≤ sizeLine; decide)) rfl)) (by show 2 ≤ sizeLine; decide))) rfl]
    rw [show i + (m + 1) = i + 1 + m by omega]
    exact h
def thA : PyData := .tuple [.str "ends", .list [.int 0, .int (-12), .none], .tuple [.bool true, .bool false], .str "comes again", .list [], .tuple []]
def thB : PyData := .tuple [.tuple [.none], .list [.bool true, .bool false], .str "a b", .str "?7"]
theorem txt_A : tx (txT thA) = ("(ends [0 -12 ~] (! .) comes_again [] ())" : Str) := by decide +kernel
theorem txt_B : tx (txT thB) = ("((~) [! .] a_b ?7)" : Str) := by decide +kernel
theorem txt_0 : tx (txT (.int 0)) = ("0" : Str) := by decide +kernel
theorem txt_q : tx (txT (.str "?")) = ("?" : Str) := by decide +kernel
theorem len_A : (txT thA).length ≤ 500000 := by decide +kernel
theorem len_B : (txT thB).length ≤ 500000 := by decide +kernel
theorem len_0 : (txT (.int 0)).length ≤ 500000 := by decide +kernel
theorem len_q : (txT (.str "?")).length ≤ 500000 := by decide +kernel
theorem ok_A : okT thA = true := by decide +kernel
theorem ok_B : okT thB = true := by decide +kernel
theorem row0 : RowOk (-1) [] := ⟨(fun p h => nomatch h), (fun p h => nomatch h), (fun p h => nomatch h), by decide, .nil, Nat.zero_le _⟩
theorem txt_r : tx (rowL (-1) []) = ("0 >= 1" : Str) := by decide +kernel
theorem dp_A : thA.depth ≤ 44 := by decide +kernel
def outD : PyData := .list [.str "(ends [0 -12 ~] (! .) comes_again [] ())", thB, .str "0", .str "?", dp 40, .str "0 >= 1"]
theorem out_exact : gE 50 [outD, outD] = some (.bool true) := by
  obtain ⟨a, b, c⟩ := dp_ok 40 (Nat.le_refl _)
  obtain ⟨p, s⟩ := okT_sz _ a (by omega)
  obtain ⟨pb, sb⟩ := okT_sz _ ok_B len_B
  refine exact_refl 49 _ ?_ ⟨?_, ?_⟩
  · simp [outD, PyData.plain, PyData.plainAll, p, pb]
  · have : thB.depth ≤ 44 := by decide +kernel
    simp [outD, PyData.depth, PyData.depthAll]; omega
  · simp [outD, small, smallAll, s, sb]
theorem rest_true {C : Addr} : F_rest (gTh 45) (gRd C) (gRow 2) (gE 50) [none, none, none, none, none] = some (.rt (.bool true)) := by
  have hsz := sizeLine_eq
  obtain ⟨a, b, c⟩ := dp_ok 40 (Nat.le_refl _)
  obtain ⟨o', hf⟩ := forDeep 40 0 none
  have hA := thing_text_ok 44 thA ok_A dp_A len_A
  have h0 := thing_text_ok 44 (.int 0) (by decide +kernel) (by decide +kernel) len_0
  have hq := thing_text_ok 44 (.str "?") (by decide +kernel) (by decide +kernel) len_q
  have hd := thing_text_ok 44 (dp 40) a (by omega) (by omega)
  have hrd := read_ok (C := C) a (by omega)
  have hB := read_ok (C := C) ok_B len_B
  have hr := row_told_ok row0 1
  rw [txt_A] at hA
  rw [txt_B] at hB
  rw [txt_0] at h0
  rw [txt_q] at hq
  rw [txt_r] at hr
  unfold F_rest
  refine z_nx (z_set (w := .list []) rfl) (z_nx (ev' := [none, none, o', some (dp 40), none]) ?_ ?_)
  · exact hf
  refine z_nx (z_set (w := .list [.str "(ends [0 -12 ~] (! .) comes_again [] ())", thB, .str "0", .str "?"]) (z_lst (z_cons (z_call (z_cons (w := thA) rfl rfl) hA) (z_cons (z_call (z_cons rfl rfl) hB) (z_cons (z_call (z_cons rfl rfl) h0) (z_cons (z_call (z_cons rfl rfl) hq) rfl)))) (by show 4 ≤ sizeLine; decide))) ?_
  refine z_nx (z_set (w := outD) ?_) (z_rt (z_ret (z_call (z_cons (w := outD) rfl (z_cons (w := outD) rfl rfl)) out_exact)))
  refine z_2 (w := .list [.str "(ends [0 -12 ~] (! .) comes_again [] ())", thB, .str "0", .str "?"]) (u := .list [dp 40, .str "0 >= 1"]) rfl (z_lst (z_cons (z_call (z_cons (z_call (z_cons (w := dp 40) rfl rfl) hd) rfl) hrd) (z_cons (z_call (z_cons (w := rowD (-1) []) rfl rfl) hr) rfl)) (by show 2 ≤ sizeLine; decide)) rfl
end K87

set_option Elab.async false
set_option linter.all false
set_option maxRecDepth 100000
set_option maxHeartbeats 4000000
namespace K87
open PySem PySem.Spec PyProof.Rows L2 Pu
section
variable {P : Program} {w : World} {K : PySem.W.Frag} {mg : Str → Option Value} {base : Heap}
def spLaw (K : PySem.W.Frag) : Sp := fun vs H Q _ => ∃ (a : Addr) (ns : List Int), vs = [.ref a] ∧ SqL K H a (ns.map V.int) ∧ ns.length ≤ 63 ∧ ∀ H', Q (.bl true) H'
theorem ok_law {C f fPS fR fRR : Addr} {fd fdPS fdR fdRR : FuncData} {k : Nat} (F : Fun K "law" "law" s_law f fd)
    (FPS : FnOk P w K mg base CX0 k fPS fdPS ["script", "few"] (spPurses K)) (mPS : mg "_law_purses" = some (.ref fPS)) (kPS : PySem.W.keepIn K (.ref fPS) = true) (bPS : Binds K fdPS ["script", "few"] [])
    (FR : FnOk P w K mg base CX0 k fR fdR ["purse"] (spRight 10000)) (mR : mg "_law_right" = some (.ref fR)) (kR : PySem.W.keepIn K (.ref fR) = true) (bR : Binds K fdR ["purse"] [])
    (FRR : FnOk P w K mg base CX0 k fRR fdRR ["purse"] (spRight 300)) (mRR : mg "_law_row_right" = some (.ref fRR)) (kRR : PySem.W.keepIn K (.ref fRR) = true) (bRR : Binds K fdRR ["purse"] [])
    (D_thing_text : DefK P w K mg base "thing_text" k "thing" (gTh 45)) (D_read_thing : DefK P w K mg base "read_thing" k "text" (gRd C)) (D_row_told : DefK P w K mg base "row_told" k "row" (gRow 2))
    (D_exact : DefP P w K mg base "_law_exact" k ["mine", "theirs"] (gE 50)) (m_range : mg "range" = none) :
    FnOk P w K mg base CX0 (k + 1) f fd ["script"] (spLaw K) := by
  refine F.ok sc_law (fun vs H Q E h => ?_) (fun cdv A outer s H vs Q E hr h => ?_)
  · obtain ⟨a, ns, rfl, _⟩ := h
    rfl
  · obtain ⟨a, ns, rfl, hS, hl, q⟩ := h
    have nd := sc_law.nd
    refine ⟨_, pss_cons (ps_for PassesOwn.never rfl (pi_list (pe_call FPS hr rfl mPS kPS bPS .nil pass0 (pa_cons (pv 0) (pa_cons pe_int pa_nil)))) (pg_name (i := 1) nd rfl (Or.inl rfl))
        (pss_one (ps_for PassesOwn.never rfl (pi_range1 rfl m_range (pa_cons pe_int pa_nil)) (pg_name (i := 2) nd rfl (Or.inl rfl))
          (pss_one (ps_if (PW.pt (pw_or (pt_not (pt_val (pe_call FR hr rfl mR kR bR .nil pass0 (pa_cons (pv 1) pa_nil)))) (pw_or1 (pt_not (pt_val (pe_call FRR hr rfl mRR kRR bRR .nil pass0 (pa_cons (pv 1) pa_nil))))))) (pss_one (ps_ret (PU.pe pu_bl))) pss_nil)))))
      (PUSs.pss (d_rest D_thing_text D_read_thing D_row_told D_exact m_range hr nd)), ?_⟩
    refine ⟨_, rfl, a, ns, rfl, hS, hl, fun lp ps H1 s1 _ nlp hlp hps hP => ?_⟩
    refine ⟨lp, rfl, ⟨_, SqL.of hlp⟩, ?_⟩
    refine ⟨fun i m σ H' => m = ps.length - i ∧ i ≤ ps.length ∧ ∃ x1 x2 : Option V, σ = [some (.ref a), x1, x2, none, none] ∧ H' lp = some (.lst (ps.map V.ref)) ∧ ∀ j p, i ≤ j → ps[j]? = some p → Pur p H' HE 0,
      ⟨ps.length, by simp, Nat.zero_le _, none, none, rfl, hlp, fun j p _ e => (hP.2 p (List.mem_of_getElem? e)).2⟩, ?_⟩
    rintro i m σ H2 ⟨rfl, hle, x1, x2, rfl, hl2, hp2⟩
    by_cases hlt : i < ps.length
    · refine .inr ⟨⟨_, _, SqL.of hl2, by rw [List.getElem?_map, List.getElem?_eq_getElem hlt]; rfl⟩, fun σ' H' => ∃ x1 x2 : Option V, σ' = [some (.ref a), x1, x2, none, none] ∧ H' lp = some (.lst (ps.map V.ref)) ∧ ∀ j p, i + 1 ≤ j → ps[j]? = some p → Pur p H' HE 0, fun σ' H' h => ⟨ps.length - (i + 1), by omega, rfl, hlt, h⟩, ?_⟩
      rintro x H3 ⟨rfl, hy⟩
      have hx := hy _ (SqL.of hl2)
      rw [List.getElem?_map, List.getElem?_eq_getElem hlt] at hx
      cases hx
      have hR := hp2 i ps[i] (Nat.le_refl _) (List.getElem?_eq_getElem hlt)
      have hne : lp ≠ ps[i] := fun z => nlp (z ▸ List.getElem_mem hlt)
      have hne2 : ∀ j p, i + 1 ≤ j → ps[j]? = some p → p ≠ ps[i] := fun j p hj e z => by
        subst z
        have := ((List.getElem?_inj hlt hP.1).mp ((List.getElem?_eq_getElem hlt).trans e.symm))
        omega
      generalize ps[i] = p at hR hne hne2
      refine ⟨12, rfl, by decide, by decide, ?_⟩
      refine ⟨fun i m σ H' => m = 12 - i ∧ i ≤ 12 ∧ ∃ x2 : Option V, σ = [some (.ref a), some (.ref p), x2, none, none] ∧ Big p H3 H' ∧ Pur p H' HE (i * 10400),
        ⟨12, rfl, Nat.zero_le _, x2, rfl, (fun _ _ _ e => e), by rw [Nat.zero_mul]; exact hR⟩, ?_⟩
      rintro t m σ H4 ⟨rfl, hle5, y2, rfl, big4, R4⟩
      by_cases ht : t < 12
      · refine .inr ⟨ht, fun σ' H' => ∃ x2 : Option V, σ' = [some (.ref a), some (.ref p), x2, none, none] ∧ Big p H3 H' ∧ Pur p H' HE ((t + 1) * 10400), fun σ' H' h => ⟨12 - (t + 1), by omega, rfl, ht, h⟩, ?_⟩
        rintro x H5 ⟨rfl, rfl⟩
        refine ⟨_, rfl, p, _, rfl, R4, by omega, fun H6 x6 R6 => ?_⟩
        refine ⟨true, rfl, ?_⟩
        refine iteF ?_
        refine ⟨_, rfl, p, _, rfl, R6, by omega, fun H7 x7 R7 => ?_⟩
        refine ⟨true, rfl, ?_⟩
        refine iteF ?_
        exact ⟨_, rfl, (big4.trans x6).trans x7, R7.more (by omega)⟩
      · have et : t = 12 := by omega
        subst et
        refine .inl ⟨Nat.le_refl _, _, _, rfl, big4 _ _ hne hl2, fun j p' hj e => ?_⟩
        obtain ⟨a', b', c', d', e', r'⟩ := (hp2 j p' (by omega) e).at_
        exact ⟨⟨a', b', c', d', big4 _ _ (hne2 j p' hj e) e', r'⟩, rfl, fun _ _ e => nomatch e⟩
    · have ei : i = ps.length := by omega
      subst ei
      refine .inl ⟨⟨_, SqL.of hl2, by rw [List.length_map]; exact Nat.le_refl _⟩, ?_⟩
      refine ⟨HE, [none, none, none, none, none], .rt (.bool true), (fun _ _ e => nomatch e), ⟨by simp, fun i w e => ?_⟩, rest_true (C := C), fun v H' Hs' _ r => ?_⟩
      · exfalso
        match i with
        | 0 | 1 | 2 | 3 | 4 => simp at e
        | j + 5 => simp at e
      · cases r; exact q H'
end
end K87

set_option Elab.async false
set_option linter.all false
set_option maxRecDepth 100000
set_option maxHeartbeats 4000000
namespace K87
open PySem PySem.Spec PyProof.Rows L2 Pu
section
variable {P : Program} {w : World} {K : PySem.W.Frag} {mg : Str → Option Value} {base : Heap}
/-! The defs called by name, and the levels. -/
theorem _root_.Pu.DefAt.no_ {x qual : Str} {st : Stmt} {ps : List Str} (D : DefAt K mg x qual st ps) (k : Nat) : DefP P w K mg base x k ps (fun _ => none) := by
  obtain ⟨f, fd, Fn, hm, hb⟩ := D.ex
  have no : ∀ vs H Q E, ¬ spP (fun _ => none) vs H Q E := fun vs H Q E h => by obtain ⟨_, _, _, _, _, e, _⟩ := h; cases e
  exact ⟨f, fd, ⟨fun vs H Q E h => absurd h (no vs H Q E), fun A outer s H args us vs Q E _ _ _ _ h => absurd h (no vs H Q E)⟩, hm, Fn.kp, hb⟩
theorem defK_of {x qual y : Str} {st : Stmt} {N : List Str} {k : Nat} {F : Ev → Option Out} {f : Addr} {fd : FuncData} (Fn : Fun K x qual st f fd) (hm : mg x = some (.ref f)) (hb : Binds K fd [y] []) (kb : KB1 K fd y) (S : FnScope N [y] (defScope st))
    (hbody : ∀ (f : Addr) (cdv : Value) (A : Around) (outer : List Env) (s : Shared) (H : Hp) (E : XK), Room k (A.deeper (envOfC qual (defScope st) s.heap.objs.size f cdv)) → N.Nodup → PUSs (cxOf CX0 P w K mg base N qual (defScope st) f cdv A outer s H E).nox (defBody st) F) :
    DefK P w K mg base x (k + 1) y (runF N 1 F) :=
  ⟨f, fd, pu_def Fn S fun cdv A outer s H E hr => hbody f cdv A outer s H E hr S.nd, hm, Fn.kp, hb, kb⟩
theorem k_thing_text {f : Addr} {fd : FuncData} {k : Nat} {g_thing_told : List PyData → Option PyData} {g_is_thing : List PyData → Option PyData} (Fn : Fun K "thing_text" "thing_text" s_thing_text f fd) (hm : mg "thing_text" = some (.ref f)) (hb : Binds K fd ["thing"] []) (kb : KB1 K fd "thing") (D_thing_told : DefP P w K mg base "thing_told" k ["thing"] g_thing_told) (D_is_thing : DefP P w K mg base "is_thing" k ["value"] g_is_thing) : DefK P w K mg base "thing_text" (k + 1) "thing" (runF ["thing"] 1 (F_thing_text g_thing_told g_is_thing)) :=
  defK_of Fn hm hb kb sc_thing_text fun f cdv A outer s H E hr nd => (puss_cons (pus_if (put_not (put_val (pu_callD D_is_thing hr rfl (pua_cons (pu_var 0) pua_nil)))) (puss_cons pus_no puss_nil) puss_nil) (puss_cons (pus_ret (pu_callD D_thing_told hr rfl (pua_cons (pu_var 0) pua_nil))) puss_nil))
theorem k_read_thing {f : Addr} {fd : FuncData} {k : Nat} {g_thing_read : List PyData → Option PyData} {g_check_row : List PyData → Option PyData} (Fn : Fun K "read_thing" "read_thing" s_read_thing f fd) (hm : mg "read_thing" = some (.ref f)) (hb : Binds K fd ["text"] []) (kb : KB1 K fd "text") (D_thing_read : DefP P w K mg base "thing_read" k ["text"] g_thing_read) (D_check_row : DefP P w K mg base "check_row" k ["text"] g_check_row) : DefK P w K mg base "read_thing" (k + 1) "text" (runF ["text", "found", "at"] 1 (F_read_thing g_thing_read g_check_row)) :=
  defK_of Fn hm hb kb sc_read_thing fun f cdv A outer s H E hr nd => (puss_cons (pus_exp (pu_callD D_check_row hr rfl (pua_cons (pu_var 0) pua_nil))) (puss_cons (pus_asg (is := [1, 2]) (pu_callD D_thing_read hr rfl (pua_cons (pu_var 0) pua_nil)) (pg_tup rfl (pgs_cons (pg_name (i := 1) nd rfl (Or.inl rfl)) (pgs_cons (pg_name (i := 2) nd rfl (Or.inl rfl)) pgs_nil))) gp_tup2) (puss_cons (pus_if (put_cmp o_isN g_isN (pu_var 2) pu_non (nomark _)) (puss_cons pus_no puss_nil) puss_nil) (puss_cons (pus_ret (pu_var 1)) puss_nil))))
theorem k_row_told {f : Addr} {fd : FuncData} {k : Nat} {g_test_told : List PyData → Option PyData} {g_is_form : List PyData → Option PyData} (Fn : Fun K "row_told" "row_told" s_row_told f fd) (hm : mg "row_told" = some (.ref f)) (hb : Binds K fd ["row"] []) (kb : KB1 K fd "row") (D_test_told : DefP P w K mg base "test_told" k ["test"] g_test_told) (D_is_form : DefP P w K mg base "is_form" k ["value"] g_is_form) : DefK P w K mg base "row_told" (k + 1) "row" (runF ["row"] 1 (F_row_told g_test_told g_is_form)) :=
  defK_of Fn hm hb kb sc_row_told fun f cdv A outer s H E hr nd => (puss_cons (pus_if (put_not (put_val (pu_callD D_is_form hr rfl (pua_cons (pu_var 0) pua_nil)))) (puss_cons pus_no puss_nil) puss_nil) (puss_cons (pus_ret (pu_callD D_test_told hr rfl (pua_cons (pu_tup (pua_cons pu_str (pua_cons (pu_var 0) pua_nil))) pua_nil))) puss_nil))
theorem lv_thing {f fD fO : Addr} {fd fdD fdO : FuncData} (F : Fun K "_law_thing" "_law_thing" s_thing f fd) (mF : mg "_law_thing" = some (.ref f)) (kF : PySem.W.keepIn K (.ref f) = true) (bF : Binds K fd ["purse", "deep"] [])
    {k : Nat} (FD : FnOk P w K mg base CX0 k fD fdD ["purse", "many"] spDraw) (mD : mg "_law_draw" = some (.ref fD)) (kD : PySem.W.keepIn K (.ref fD) = true) (bD : Binds K fdD ["purse", "many"] [])
    (FO : FnOk P w K mg base CX0 k fO fdO ["purse", "some"] spOneOf) (mO : mg "_law_one_of" = some (.ref fO)) (kO : PySem.W.keepIn K (.ref fO) = true) (bO : Binds K fdO ["purse", "some"] [])
    (m_range : mg "range" = none) (m_tuple : mg "tuple" = none) : ∀ D : Nat, FnOk P w K mg base CX0 (k + D) f fd ["purse", "deep"] (spThing D)
  | 0 => by
    have no : ∀ vs H Q E, ¬ spThing 0 vs H Q E := fun vs H Q E ⟨_, _, _, d, _, h, _⟩ => absurd h (Nat.not_lt_zero d)
    exact ⟨fun vs H Q E h => absurd h (no vs H Q E), fun A outer s H args us vs Q E _ _ _ _ h => absurd h (no vs H Q E)⟩
  | D + 1 => ok_thing F mF kF bF (lv_thing F mF kF bF FD mD kD bD FO mO kO bO m_range m_tuple D) (FD.mono (Nat.le_add_right k D)) mD kD bD (FO.mono (Nat.le_add_right k D)) mO kO bO m_range m_tuple
end
end K87

set_option Elab.async false
set_option linter.all false
set_option maxRecDepth 100000
set_option maxHeartbeats 4000000
namespace K87
open PySem PySem.Spec PyProof.Rows L2 Pu
section
variable {P : Program} {w : World} {K : PySem.W.Frag} {mg : Str → Option Value} {base : Heap}
theorem top_law {C fi ft fe fs fg fit f f42 f45 f47 : Addr} {fd fdi fdt fde fds fdg fdit fd42 fd45 fd47 : FuncData} {u_WORDS : Value} (F : Fun K "law" "law" s_law f fd)
    (T : TR K C) (M : Mk K C fi) (hC : mg "ThingReader" = some (.ref C))
    (Fi : Fun K "__init__" "ThingReader.__init__" s_init fi fdi) (bi : Binds K fdi ["self"] [])
    (Ft : Fun K "takes" "ThingReader.takes" s_takes ft fdt) (bt : Binds K fdt ["self", "sign"] []) (mt : Meth K C "takes" ft)
    (Fg : Fun K "goes_on" "ThingReader.goes_on" s_ThingReader_goes_on fg fdg) (bg : Binds K fdg ["self", "sign"] []) (mG : Meth K C "goes_on" fg)
    (Fit : Fun K "item" "ThingReader.item" s_ThingReader_item fit fdit) (bit : Binds K fdit ["self"] []) (mI : Meth K C "item" fit)
    (Fe : Fun K "ends" "ThingReader.ends" s_ends fe fde) (be : Binds K fde ["self"] []) (mE : Meth K C "ends" fe)
    (Fs : Fun K "shuts" "ThingReader.shuts" s_shuts fs fds) (bs : Binds K fds ["self", "sign"] []) (mS : Meth K C "shuts" fs)
    (c_WORDS : RelV (.str " and call draw either else from give if into maybe or pass set to while ") u_WORDS ∧ mg "WORDS" = some u_WORDS)
    (D39 : DefAt K mg "is_paper_word" "is_paper_word" s_is_paper_word ["value"])
    (D40 : DefAt K mg "is_thing" "is_thing" s_is_thing ["value"])
    (D41 : DefAt K mg "thing_told" "thing_told" s_thing_told ["thing"])
    (D55 : DefAt K mg "_law_exact" "_law_exact" s__law_exact ["mine", "theirs"])
    (D63 : DefAt K mg "_law_thing_text" "_law_thing_text" s__law_thing_text ["thing"])
    (D56 : DefAt K mg "_law_copied" "_law_copied" s__law_copied ["thing"])
    (D1 : DefAt K mg "is_whole" "is_whole" s_is_whole ["value"])
    (D2 : DefAt K mg "is_word" "is_word" s_is_word ["value"])
    (D3 : DefAt K mg "is_tuple_of" "is_tuple_of" s_is_tuple_of ["value", "size"])
    (D8 : DefAt K mg "is_name" "is_name" s_is_name ["value"])
    (D9 : DefAt K mg "is_form" "is_form" s_is_form ["value"])
    (D17 : DefAt K mg "is_word_there" "is_word_there" s_is_word_there ["value"])
    (D18 : DefAt K mg "is_own_form" "is_own_form" s_is_own_form ["value"])
    (D19 : DefAt K mg "is_headed" "is_headed" s_is_headed ["value", "words", "size"])
    (D20 : DefAt K mg "is_atom" "is_atom" s_is_atom ["value"])
    (D21 : DefAt K mg "has_one" "has_one" s_has_one ["test"])
    (D22 : DefAt K mg "is_test" "is_test" s_is_test ["value"])
    (D23 : DefAt K mg "check_test" "check_test" s_check_test ["value"])
    (D25 : DefAt K mg "term_text" "term_text" s_term_text ["name", "factor"])
    (D26 : DefAt K mg "form_told" "form_told" s_form_told ["form"])
    (D27 : DefAt K mg "side_of" "side_of" s_side_of ["form", "sign"])
    (D28 : DefAt K mg "test_told" "test_told" s_test_told ["test"])
    (D29 : DefAt K mg "test_text" "test_text" s_test_text ["test"])
    (D30 : DefAt K mg "is_figures" "is_figures" s_is_figures ["word"])
    (D31 : DefAt K mg "terms_read" "terms_read" s_terms_read ["words"])
    (D32 : DefAt K mg "form_read" "form_read" s_form_read ["text"])
    (D33 : DefAt K mg "atom_read" "atom_read" s_atom_read ["text"])
    (D34 : DefAt K mg "joined" "joined" s_joined ["word", "parts"])
    (D35 : DefAt K mg "test_read" "test_read" s_test_read ["text"])
    (D36 : DefAt K mg "check_row" "check_row" s_check_row ["text"])
    (D37 : DefAt K mg "read_test" "read_test" s_read_test ["text"])
    (D61 : DefAt K mg "_law_form_text" "_law_form_text" s__law_form_text ["form"])
    (D60 : DefAt K mg "_law_side" "_law_side" s__law_side ["form", "sign"])
    (D62 : DefAt K mg "_law_test_text" "_law_test_text" s__law_test_text ["test"])
    (F42 : Fun K "thing_text" "thing_text" s_thing_text f42 fd42) (m42 : mg "thing_text" = some (.ref f42)) (b42 : Binds K fd42 ["thing"] []) (y42 : KB1 K fd42 "thing")
    (F45 : Fun K "read_thing" "read_thing" s_read_thing f45 fd45) (m45 : mg "read_thing" = some (.ref f45)) (b45 : Binds K fd45 ["text"] []) (y45 : KB1 K fd45 "text")
    (F47 : Fun K "row_told" "row_told" s_row_told f47 fd47) (m47 : mg "row_told" = some (.ref f47)) (b47 : Binds K fd47 ["row"] []) (y47 : KB1 K fd47 "row")
    (D44 : DefAt K mg "thing_read" "thing_read" s_thing_read ["text"])
    (D49 : DefAt K mg "_law_purse" "_law_purse" s_purse ["script", "at"])
    (D50 : DefAt K mg "_law_mixed" "_law_mixed" s_mixed ["seed", "spin", "at"])
    (D51 : DefAt K mg "_law_draw" "_law_draw" s_draw ["purse", "many"])
    (D52 : DefAt K mg "_law_purses" "_law_purses" s_purses ["script", "few"])
    (D53 : DefAt K mg "_law_one_of" "_law_one_of" s_one_of ["purse", "some"])
    (D54 : DefAt K mg "_law_shuffled" "_law_shuffled" s_shuf ["purse", "some"])
    (D57 : DefAt K mg "_law_form" "_law_form" s_form ["number", "pairs"])
    (D58 : DefAt K mg "_law_plus" "_law_plus" s__law_plus ["one", "many", "other"])
    (D59 : DefAt K mg "_law_drawn_form" "_law_drawn_form" s_df ["purse", "names", "wide"])
    (D64 : DefAt K mg "_law_thing" "_law_thing" s_thing ["purse", "deep"])
    (D65 : DefAt K mg "_law_right" "_law_right" s_right ["purse"])
    (D66 : DefAt K mg "_law_row_right" "_law_row_right" s_rr ["purse"])
    (z_abs : mg "abs" = none) (z_all : mg "all" = none) (z_bool : mg "bool" = none) (z_dict : mg "dict" = none) (z_enumerate : mg "enumerate" = none) (z_int : mg "int" = none) (z_isinstance : mg "isinstance" = none) (z_len : mg "len" = none) (z_list : mg "list" = none) (z_max : mg "max" = none) (z_min : mg "min" = none) (z_range : mg "range" = none) (z_sorted : mg "sorted" = none) (z_str : mg "str" = none) (z_sum : mg "sum" = none) (z_tuple : mg "tuple" = none) (z_zip : mg "zip" = none) :
    FnOk P w K mg base CX0 65 f fd ["script"] (spLaw K) := by
  have L_is_paper_word : DefP P w K mg base "is_paper_word" 1 ["value"] (runF ["value", "sign"] 1 F_is_paper_word) := d_is_paper_word (k := 0) D39 z_all z_isinstance z_str
  have R_is_thing : ∀ n : Nat, DefP P w K mg base "is_thing" (1 + n) ["value"] (gIT n) := by
    intro n
    induction n with
    | zero => exact D40.no_ _
    | succ n ih => exact d_is_thing (k := 1 + n) D40 z_isinstance z_int z_list z_tuple z_all (L_is_paper_word.mono (by omega)) ih
  have L_is_thing := R_is_thing 45
  have R_thing_told : ∀ n : Nat, DefP P w K mg base "thing_told" (0 + n) ["thing"] (gTo n) := by
    intro n
    induction n with
    | zero => exact D41.no_ _
    | succ n ih => exact d_thing_told (k := 0 + n) D41 z_isinstance z_int z_str z_bool z_list z_tuple ih
  have L_thing_told := R_thing_told 45
  have R__law_exact : ∀ n : Nat, DefP P w K mg base "_law_exact" (0 + n) ["mine", "theirs"] (gE n) := by
    intro n
    induction n with
    | zero => exact D55.no_ _
    | succ n ih => exact d_exact2 (k := 0 + n) D55 z_isinstance z_bool z_str z_int z_list z_tuple z_dict z_zip z_all z_len ih
  have L__law_exact := R__law_exact 50
  have R__law_thing_text : ∀ n : Nat, DefP P w K mg base "_law_thing_text" (0 + n) ["thing"] (gT n) := by
    intro n
    induction n with
    | zero => exact D63.no_ _
    | succ n ih => exact d__law_thing_text (k := 0 + n) D63 z_isinstance z_int z_str z_tuple z_list ih
  have L__law_thing_text := R__law_thing_text 45
  have R__law_copied : ∀ n : Nat, DefP P w K mg base "_law_copied" (0 + n) ["thing"] (gCp n) := by
    intro n
    induction n with
    | zero => exact D56.no_ _
    | succ n ih => exact d__law_copied (k := 0 + n) D56 z_isinstance z_dict z_tuple z_list ih
  have L__law_copied := R__law_copied 45
  have L_is_whole : DefP P w K mg base "is_whole" 1 ["value"] gWh := d_is_whole (k := 0) D1 z_isinstance z_bool z_int
  have L_is_word : DefP P w K mg base "is_word" 1 ["value"] gWd := d_is_word (k := 0) D2 z_all z_len z_isinstance z_str
  have L_is_tuple_of : DefP P w K mg base "is_tuple_of" 1 ["value", "size"] gTu := d_is_tuple_of (k := 0) D3 z_len z_isinstance z_tuple
  have L_is_name : DefP P w K mg base "is_name" 2 ["value"] gNm := d_is_name (k := 1) D8 z_all z_isinstance z_str (L_is_word.mono (by omega))
  have L_is_form : DefP P w K mg base "is_form" 3 ["value"] gIF := d_is_form (k := 2) D9 z_zip z_all z_isinstance z_tuple (L_is_whole.mono (by omega)) (L_is_name.mono (by omega)) (L_is_tuple_of.mono (by omega))
  have L_is_word_there : DefP P w K mg base "is_word_there" 1 ["value"] gWT := d_is_word_there (k := 0) D17 c_WORDS z_all z_len z_isinstance z_str
  have L_is_own_form : DefP P w K mg base "is_own_form" 4 ["value"] gOF := d_is_own_form (k := 3) D18 z_all (L_is_word_there.mono (by omega)) (L_is_form.mono (by omega))
  have L_is_headed : DefP P w K mg base "is_headed" 1 ["value", "words", "size"] gHd := d_is_headed (k := 0) D19 z_isinstance z_str z_len z_tuple
  have L_is_atom : DefP P w K mg base "is_atom" 5 ["value"] gAt := d_is_atom (k := 4) D20 (L_is_headed.mono (by omega)) (L_is_own_form.mono (by omega))
  have R_has_one : ∀ n : Nat, DefP P w K mg base "has_one" (0 + n) ["test"] (gHo n) := by
    intro n
    induction n with
    | zero => exact D21.no_ _
    | succ n ih => exact d_has_one (k := 0 + n) D21 ih
  have L_has_one := R_has_one 2
  have R_is_test : ∀ n : Nat, DefP P w K mg base "is_test" (5 + n) ["value"] ((gTs 2) n) := by
    intro n
    induction n with
    | zero => exact D22.no_ _
    | succ n ih => exact d_is_test (k := 5 + n) D22 (L_is_atom.mono (by omega)) (L_is_headed.mono (by omega)) ih (L_has_one.mono (by omega))
  have L_is_test := R_is_test 2
  have L_check_test : DefP P w K mg base "check_test" 8 ["value"] (gCT 2 2) := d_check_test (k := 7) D23 (L_is_test.mono (by omega))
  have L_term_text : DefP P w K mg base "term_text" 1 ["name", "factor"] gTerm := d_term_text (k := 0) D25 z_abs z_str
  have L_form_told : DefP P w K mg base "form_told" 2 ["form"] gForm := d_form_told (k := 1) D26 z_abs z_str (L_term_text.mono (by omega))
  have L_side_of : DefP P w K mg base "side_of" 1 ["form", "sign"] gSide := d_side_of (k := 0) D27 z_abs z_tuple
  have R_test_told : ∀ n : Nat, DefP P w K mg base "test_told" (2 + n) ["test"] (gTold n) := by
    intro n
    induction n with
    | zero => exact D28.no_ _
    | succ n ih => exact d_test_told (k := 2 + n) D28 (L_form_told.mono (by omega)) (L_side_of.mono (by omega)) ih
  have L_test_told := R_test_told 2
  have L_test_text : DefP P w K mg base "test_text" 9 ["test"] (gTT 2 2) := d_test_text (k := 8) D29 (L_test_told.mono (by omega)) (L_check_test.mono (by omega))
  have L_is_figures : DefP P w K mg base "is_figures" 1 ["word"] gFig := d_is_figures (k := 0) D30 z_all
  have L_terms_read : DefP P w K mg base "terms_read" 2 ["words"] gTr := d_terms_read (k := 1) WNr D31 z_int z_len (L_is_figures.mono (by omega)) (L_is_word_there.mono (by omega))
  have L_form_read : DefP P w K mg base "form_read" 5 ["text"] gFR := d_form_read (k := 4) D32 z_sum z_tuple (L_form_told.mono (by omega)) (L_is_own_form.mono (by omega)) (L_terms_read.mono (by omega))
  have L_atom_read : DefP P w K mg base "atom_read" 8 ["text"] (gAR 2 2) := d_atom_read (k := 7) D33 z_len z_tuple z_sorted (L_test_told.mono (by omega)) (L_is_test.mono (by omega)) (L_form_read.mono (by omega))
  have L_joined : DefP P w K mg base "joined" 1 ["word", "parts"] gJo := d_joined (k := 0) D34
  have L_test_read : DefP P w K mg base "test_read" 9 ["text"] (gTR 2 2) := d_test_read (k := 8) D35 (L_joined.mono (by omega)) (L_atom_read.mono (by omega))
  have L_check_row : DefP P w K mg base "check_row" 1 ["text"] gChk := d_check_row (k := 0) D36 z_all z_isinstance z_str
  have L_read_test : DefP P w K mg base "read_test" 10 ["text"] (gRT 2 2) := d_read_test (k := 9) D37 (L_test_read.mono (by omega)) (L_check_row.mono (by omega))
  have L__law_form_text : DefP P w K mg base "_law_form_text" 1 ["form"] gLF := d__law_form_text (k := 0) D61 z_abs z_str
  have L__law_side : DefP P w K mg base "_law_side" 2 ["form", "sign"] gLS := d__law_side (k := 1) D60 z_abs (L__law_form_text.mono (by omega))
  have R__law_test_text : ∀ n : Nat, DefP P w K mg base "_law_test_text" (2 + n) ["test"] (gLT n) := by
    intro n
    induction n with
    | zero => exact D62.no_ _
    | succ n ih => exact d__law_test_text (k := 2 + n) D62 (L__law_side.mono (by omega)) ih
  have L__law_test_text := R__law_test_text 2
  obtain ⟨f44, fd44, F44, m44, b44⟩ := D44.ex
  obtain ⟨f49, fd49, F49, m49, b49⟩ := D49.ex
  obtain ⟨f50, fd50, F50, m50, b50⟩ := D50.ex
  obtain ⟨f51, fd51, F51, m51, b51⟩ := D51.ex
  obtain ⟨f52, fd52, F52, m52, b52⟩ := D52.ex
  obtain ⟨f53, fd53, F53, m53, b53⟩ := D53.ex
  obtain ⟨f54, fd54, F54, m54, b54⟩ := D54.ex
  obtain ⟨f57, fd57, F57, m57, b57⟩ := D57.ex
  obtain ⟨f58, fd58, F58, m58, b58⟩ := D58.ex
  obtain ⟨f59, fd59, F59, m59, b59⟩ := D59.ex
  obtain ⟨f64, fd64, F64, m64, b64⟩ := D64.ex
  obtain ⟨f65, fd65, F65, m65, b65⟩ := D65.ex
  obtain ⟨f66, fd66, F66, m66, b66⟩ := D66.ex
  have oI := ok_init (P := P) (w := w) (mg := mg) (base := base) (k := 4) Fi T
  have oit := d_ThingReader_item (P := P) (w := w) (mg := mg) (base := base) (k := 1) Fit T.cl T.nW z_int
  have ogo := d_ThingReader_goes_on (P := P) (w := w) (mg := mg) (base := base) (k := 3) Fg T.cl T.nW
  have oE := ok_ends (k := 2) Fe T oit bit mI
  have oS := ok_shuts (k := 3) Fs T oE be mE z_tuple
  have oT := ok_takes (k := 4) Ft T (oE.mono (by decide)) be mE oS bs mS ogo bg mG
  have oR := ok_thing_read (k := 5) F44 T M hC z_enumerate z_len oI bi (oT.mono (by decide)) bt mt (oE.mono (by decide)) be mE
  have L_thing_read : DefP P w K mg base "thing_read" 7 ["text"] (readF C) := ⟨f44, fd44, oR, m44, F44.kp, b44⟩
  have K_read_thing : DefK P w K mg base "read_thing" 8 "text" (gRd C) := k_read_thing F45 m45 b45 y45 L_thing_read (L_check_row.mono (by decide))
  have K_thing_text : DefK P w K mg base "thing_text" 60 "thing" (gTh 45) := k_thing_text F42 m42 b42 y42 (L_thing_told.mono (by decide)) (L_is_thing.mono (by decide))
  have K_row_told : DefK P w K mg base "row_told" 60 "row" (gRow 2) := k_row_told F47 m47 b47 y47 (L_test_told.mono (by decide)) (L_is_form.mono (by decide))
  have oM := ok_mixed (P := P) (w := w) (mg := mg) (base := base) (k := 0) F50 z_int
  have oD := ok_draw (k := 1) F51 oM m50 F50.kp b50 z_int z_range
  have oO := ok_one_of (k := 2) F53 oD m51 F51.kp b51 z_len
  have oTh := lv_thing (k := 3) F64 m64 F64.kp b64 (oD.mono (by decide)) m51 F51.kp b51 oO m53 F53.kp b53 z_range z_tuple 6
  have oSh := ok_shuf (k := 3) F54 (oD.mono (by decide)) m51 F51.kp b51 z_len
  have oF := ok_form (P := P) (w := w) (mg := mg) (base := base) (k := 0) F57 z_tuple z_sorted
  have oPl := ok_plus (k := 1) F58 oF m57 F57.kp b57 z_list
  have oDF := ok_df (k := 3) F59 (oD.mono (by decide)) m51 F51.kp b51 oO m53 F53.kp b53 (oF.mono (by decide)) m57 F57.kp b57 z_range
  have oP := ok_purse (P := P) (w := w) (mg := mg) (base := base) (k := 0) F49 z_int z_sum z_max
  have oPs := ok_purses (k := 1) F52 oP m49 F49.kp b49 z_range z_max z_min z_len
  have oRi := ok_right (k := 60) F65 (oD.mono (by decide)) m51 F51.kp b51 (oTh.mono (by decide)) m64 F64.kp b64 (L__law_copied.mono (by decide)) (L__law_thing_text.mono (by decide)) (K_read_thing.mono (by decide)) K_thing_text (L__law_exact.mono (by decide)) z_isinstance z_list
  have oRR := ok_rr (k := 60) F66 (oD.mono (by decide)) m51 F51.kp b51 (oSh.mono (by decide)) m54 F54.kp b54 (oPl.mono (by decide)) m58 F58.kp b58 (oDF.mono (by decide)) m59 F59.kp b59 (L__law_test_text.mono (by decide)) (L__law_exact.mono (by decide)) K_row_told (L_test_text.mono (by decide)) (L_read_test.mono (by decide))
  exact ok_law (k := 64) F (oPs.mono (by decide)) m52 F52.kp b52 (oRi.mono (by decide)) m65 F65.kp b65 (oRR.mono (by decide)) m66 F66.kp b66 (K_thing_text.mono (by decide)) (K_read_thing.mono (by decide)) (K_row_told.mono (by decide)) (L__law_exact.mono (by decide)) z_range
end
end K87

set_option Elab.async false
set_option linter.all false
set_option maxRecDepth 100000
set_option maxHeartbeats 8000000
namespace K87
open PySem PySem.Spec PyProof.Rows L2 Pu
theorem all_mk {l : PySem.W.OpenLaw} {w : World} {K : PySem.W.Frag} {h : Heap} {mg : Str → Option Value} {fa : Addr} (X : K.In h) (G : h.Ns mainGlobals mg) (hfa : mg "law" = some (.ref fa))
    {f1 f2 f3 f8 f9 f17 f18 f19 f20 f21 f22 f23 f25 f26 f27 f28 f29 f30 f31 f32 f33 f34 f35 f36 f37 f39 f40 f41 f42 f44 f45 f47 f49 f50 f51 f52 f53 f54 f55 f56 f57 f58 f59 f60 f61 f62 f63 f64 f65 f66 f67 fMI fMT fMG fMM fME fMS : Addr} {od1 an1 od2 an2 od3 an3 od8 an8 od9 an9 od17 an17 od18 an18 od19 an19 od20 an20 od21 an21 od22 an22 od23 an23 od25 an25 od26 an26 od27 an27 od28 an28 od29 an29 od30 an30 od31 an31 od32 an32 od33 an33 od34 an34 od35 an35 od36 an36 od37 an37 od39 an39 od40 an40 od41 an41 od42 an42 od44 an44 od45 an45 od47 an47 od49 an49 od50 an50 od51 an51 od52 an52 od53 an53 od54 an54 od55 an55 od56 an56 od57 an57 od58 an58 od59 an59 od60 an60 od61 an61 od62 an62 od63 an63 od64 an64 od65 an65 od66 an66 od67 an67 odMI anMI odMT anMT odMG anMG odMM anMM odME anME odMS anMS : Option Addr} {sl1 sl2 sl3 sl8 sl9 sl17 sl18 sl19 sl20 sl21 sl22 sl23 sl25 sl26 sl27 sl28 sl29 sl30 sl31 sl32 sl33 sl34 sl35 sl36 sl37 sl39 sl40 sl41 sl42 sl44 sl45 sl47 sl49 sl50 sl51 sl52 sl53 sl54 sl55 sl56 sl57 sl58 sl59 sl60 sl61 sl62 sl63 sl64 sl65 sl66 sl67 slMI slMT slMG slMM slME slMS : Array (Option Value)} {oc1 kV1 dc1 pm1 cd1 ct1 oc2 kV2 dc2 pm2 cd2 ct2 oc3 kV3 dc3 pm3 cd3 ct3 oc8 kV8 dc8 pm8 cd8 ct8 oc9 kV9 dc9 pm9 cd9 ct9 oc17 kV17 dc17 pm17 cd17 ct17 oc18 kV18 dc18 pm18 cd18 ct18 oc19 kV19 dc19 pm19 cd19 ct19 oc20 kV20 dc20 pm20 cd20 ct20 oc21 kV21 dc21 pm21 cd21 ct21 oc22 kV22 dc22 pm22 cd22 ct22 oc23 kV23 dc23 pm23 cd23 ct23 oc25 kV25 dc25 pm25 cd25 ct25 oc26 kV26 dc26 pm26 cd26 ct26 oc27 kV27 dc27 pm27 cd27 ct27 oc28 kV28 dc28 pm28 cd28 ct28 oc29 kV29 dc29 pm29 cd29 ct29 oc30 kV30 dc30 pm30 cd30 ct30 oc31 kV31 dc31 pm31 cd31 ct31 oc32 kV32 dc32 pm32 cd32 ct32 oc33 kV33 dc33 pm33 cd33 ct33 oc34 kV34 dc34 pm34 cd34 ct34 oc35 kV35 dc35 pm35 cd35 ct35 oc36 kV36 dc36 pm36 cd36 ct36 oc37 kV37 dc37 pm37 cd37 ct37 oc39 kV39 dc39 pm39 cd39 ct39 oc40 kV40 dc40 pm40 cd40 ct40 oc41 kV41 dc41 pm41 cd41 ct41 oc42 kV42 dc42 pm42 cd42 ct42 oc44 kV44 dc44 pm44 cd44 ct44 oc45 kV45 dc45 pm45 cd45 ct45 oc47 kV47 dc47 pm47 cd47 ct47 oc49 kV49 dc49 pm49 cd49 ct49 oc50 kV50 dc50 pm50 cd50 ct50 oc51 kV51 dc51 pm51 cd51 ct51 oc52 kV52 dc52 pm52 cd52 ct52 oc53 kV53 dc53 pm53 cd53 ct53 oc54 kV54 dc54 pm54 cd54 ct54 oc55 kV55 dc55 pm55 cd55 ct55 oc56 kV56 dc56 pm56 cd56 ct56 oc57 kV57 dc57 pm57 cd57 ct57 oc58 kV58 dc58 pm58 cd58 ct58 oc59 kV59 dc59 pm59 cd59 ct59 oc60 kV60 dc60 pm60 cd60 ct60 oc61 kV61 dc61 pm61 cd61 ct61 oc62 kV62 dc62 pm62 cd62 ct62 oc63 kV63 dc63 pm63 cd63 ct63 oc64 kV64 dc64 pm64 cd64 ct64 oc65 kV65 dc65 pm65 cd65 ct65 oc66 kV66 dc66 pm66 cd66 ct66 oc67 kV67 dc67 pm67 cd67 ct67 ocMI kVMI dcMI pmMI cdMI ctMI ocMT kVMT dcMT pmMT cdMT ctMT ocMG kVMG dcMG pmMG cdMG ctMG ocMM kVMM dcMM pmMM cdMM ctMM ocME kVME dcME pmME cdME ctME ocMS kVMS dcMS pmMS cdMS ctMS : Value} {C : Addr} {tW : Tok}
    (gC : PySem.W.nsIn K mainGlobals "ThingReader" = some (some (.ref C)))
    (pg : PySem.W.plainGet K C Str.empty = true)
    (hdC : PySem.W.hasDictIn K C = true)
    (po : PySem.W.plainOver K C = true)
    (saC : PySem.W.findIn K (.ref C) "__setattr__" = some (some (.builtin "object.__setattr__")))
    (mkC : PySem.W.makesIn K C = true)
    (kCC : PySem.W.keepIn K (.ref C) = true)
    (nL : PySem.W.findIn K (.ref C) "lots" = some none)
    (nS : PySem.W.findIn K (.ref C) "signs" = some none)
    (nW : PySem.W.findIn K (.ref C) "word" = some none)
    (nE : PySem.W.findIn K (.ref C) "is_ended" = some none)
    (a1 : PySem.W.nsIn K mainGlobals "is_whole" = some (some (.ref f1))) (l1 : K.lookup f1 = some ⟨oc1, od1, .func (PySem.W.fnOf "is_whole" "is_whole" (defArgs s_is_whole) (defBody s_is_whole) (defScope s_is_whole) .none kV1 dc1 pm1 an1 cd1 ct1), sl1⟩) (c1 : PySem.W.codeIn K cd1 "is_whole" = true) (k1 : PySem.W.keepIn K (.ref f1) = true)
    (a2 : PySem.W.nsIn K mainGlobals "is_word" = some (some (.ref f2))) (l2 : K.lookup f2 = some ⟨oc2, od2, .func (PySem.W.fnOf "is_word" "is_word" (defArgs s_is_word) (defBody s_is_word) (defScope s_is_word) .none kV2 dc2 pm2 an2 cd2 ct2), sl2⟩) (c2 : PySem.W.codeIn K cd2 "is_word" = true) (k2 : PySem.W.keepIn K (.ref f2) = true)
    (a3 : PySem.W.nsIn K mainGlobals "is_tuple_of" = some (some (.ref f3))) (l3 : K.lookup f3 = some ⟨oc3, od3, .func (PySem.W.fnOf "is_tuple_of" "is_tuple_of" (defArgs s_is_tuple_of) (defBody s_is_tuple_of) (defScope s_is_tuple_of) .none kV3 dc3 pm3 an3 cd3 ct3), sl3⟩) (c3 : PySem.W.codeIn K cd3 "is_tuple_of" = true) (k3 : PySem.W.keepIn K (.ref f3) = true)
    (a8 : PySem.W.nsIn K mainGlobals "is_name" = some (some (.ref f8))) (l8 : K.lookup f8 = some ⟨oc8, od8, .func (PySem.W.fnOf "is_name" "is_name" (defArgs s_is_name) (defBody s_is_name) (defScope s_is_name) .none kV8 dc8 pm8 an8 cd8 ct8), sl8⟩) (c8 : PySem.W.codeIn K cd8 "is_name" = true) (k8 : PySem.W.keepIn K (.ref f8) = true)
    (a9 : PySem.W.nsIn K mainGlobals "is_form" = some (some (.ref f9))) (l9 : K.lookup f9 = some ⟨oc9, od9, .func (PySem.W.fnOf "is_form" "is_form" (defArgs s_is_form) (defBody s_is_form) (defScope s_is_form) .none kV9 dc9 pm9 an9 cd9 ct9), sl9⟩) (c9 : PySem.W.codeIn K cd9 "is_form" = true) (k9 : PySem.W.keepIn K (.ref f9) = true)
    (a17 : PySem.W.nsIn K mainGlobals "is_word_there" = some (some (.ref f17))) (l17 : K.lookup f17 = some ⟨oc17, od17, .func (PySem.W.fnOf "is_word_there" "is_word_there" (defArgs s_is_word_there) (defBody s_is_word_there) (defScope s_is_word_there) .none kV17 dc17 pm17 an17 cd17 ct17), sl17⟩) (c17 : PySem.W.codeIn K cd17 "is_word_there" = true) (k17 : PySem.W.keepIn K (.ref f17) = true)
    (a18 : PySem.W.nsIn K mainGlobals "is_own_form" = some (some (.ref f18))) (l18 : K.lookup f18 = some ⟨oc18, od18, .func (PySem.W.fnOf "is_own_form" "is_own_form" (defArgs s_is_own_form) (defBody s_is_own_form) (defScope s_is_own_form) .none kV18 dc18 pm18 an18 cd18 ct18), sl18⟩) (c18 : PySem.W.codeIn K cd18 "is_own_form" = true) (k18 : PySem.W.keepIn K (.ref f18) = true)
    (a19 : PySem.W.nsIn K mainGlobals "is_headed" = some (some (.ref f19))) (l19 : K.lookup f19 = some ⟨oc19, od19, .func (PySem.W.fnOf "is_headed" "is_headed" (defArgs s_is_headed) (defBody s_is_headed) (defScope s_is_headed) .none kV19 dc19 pm19 an19 cd19 ct19), sl19⟩) (c19 : PySem.W.codeIn K cd19 "is_headed" = true) (k19 : PySem.W.keepIn K (.ref f19) = true)
    (a20 : PySem.W.nsIn K mainGlobals "is_atom" = some (some (.ref f20))) (l20 : K.lookup f20 = some ⟨oc20, od20, .func (PySem.W.fnOf "is_atom" "is_atom" (defArgs s_is_atom) (defBody s_is_atom) (defScope s_is_atom) .none kV20 dc20 pm20 an20 cd20 ct20), sl20⟩) (c20 : PySem.W.codeIn K cd20 "is_atom" = true) (k20 : PySem.W.keepIn K (.ref f20) = true)
    (a21 : PySem.W.nsIn K mainGlobals "has_one" = some (some (.ref f21))) (l21 : K.lookup f21 = some ⟨oc21, od21, .func (PySem.W.fnOf "has_one" "has_one" (defArgs s_has_one) (defBody s_has_one) (defScope s_has_one) .none kV21 dc21 pm21 an21 cd21 ct21), sl21⟩) (c21 : PySem.W.codeIn K cd21 "has_one" = true) (k21 : PySem.W.keepIn K (.ref f21) = true)
    (a22 : PySem.W.nsIn K mainGlobals "is_test" = some (some (.ref f22))) (l22 : K.lookup f22 = some ⟨oc22, od22, .func (PySem.W.fnOf "is_test" "is_test" (defArgs s_is_test) (defBody s_is_test) (defScope s_is_test) .none kV22 dc22 pm22 an22 cd22 ct22), sl22⟩) (c22 : PySem.W.codeIn K cd22 "is_test" = true) (k22 : PySem.W.keepIn K (.ref f22) = true)
    (a23 : PySem.W.nsIn K mainGlobals "check_test" = some (some (.ref f23))) (l23 : K.lookup f23 = some ⟨oc23, od23, .func (PySem.W.fnOf "check_test" "check_test" (defArgs s_check_test) (defBody s_check_test) (defScope s_check_test) .none kV23 dc23 pm23 an23 cd23 ct23), sl23⟩) (c23 : PySem.W.codeIn K cd23 "check_test" = true) (k23 : PySem.W.keepIn K (.ref f23) = true)
    (a25 : PySem.W.nsIn K mainGlobals "term_text" = some (some (.ref f25))) (l25 : K.lookup f25 = some ⟨oc25, od25, .func (PySem.W.fnOf "term_text" "term_text" (defArgs s_term_text) (defBody s_term_text) (defScope s_term_text) .none kV25 dc25 pm25 an25 cd25 ct25), sl25⟩) (c25 : PySem.W.codeIn K cd25 "term_text" = true) (k25 : PySem.W.keepIn K (.ref f25) = true)
    (a26 : PySem.W.nsIn K mainGlobals "form_told" = some (some (.ref f26))) (l26 : K.lookup f26 = some ⟨oc26, od26, .func (PySem.W.fnOf "form_told" "form_told" (defArgs s_form_told) (defBody s_form_told) (defScope s_form_told) .none kV26 dc26 pm26 an26 cd26 ct26), sl26⟩) (c26 : PySem.W.codeIn K cd26 "form_told" = true) (k26 : PySem.W.keepIn K (.ref f26) = true)
    (a27 : PySem.W.nsIn K mainGlobals "side_of" = some (some (.ref f27))) (l27 : K.lookup f27 = some ⟨oc27, od27, .func (PySem.W.fnOf "side_of" "side_of" (defArgs s_side_of) (defBody s_side_of) (defScope s_side_of) .none kV27 dc27 pm27 an27 cd27 ct27), sl27⟩) (c27 : PySem.W.codeIn K cd27 "side_of" = true) (k27 : PySem.W.keepIn K (.ref f27) = true)
    (a28 : PySem.W.nsIn K mainGlobals "test_told" = some (some (.ref f28))) (l28 : K.lookup f28 = some ⟨oc28, od28, .func (PySem.W.fnOf "test_told" "test_told" (defArgs s_test_told) (defBody s_test_told) (defScope s_test_told) .none kV28 dc28 pm28 an28 cd28 ct28), sl28⟩) (c28 : PySem.W.codeIn K cd28 "test_told" = true) (k28 : PySem.W.keepIn K (.ref f28) = true)
    (a29 : PySem.W.nsIn K mainGlobals "test_text" = some (some (.ref f29))) (l29 : K.lookup f29 = some ⟨oc29, od29, .func (PySem.W.fnOf "test_text" "test_text" (defArgs s_test_text) (defBody s_test_text) (defScope s_test_text) .none kV29 dc29 pm29 an29 cd29 ct29), sl29⟩) (c29 : PySem.W.codeIn K cd29 "test_text" = true) (k29 : PySem.W.keepIn K (.ref f29) = true)
    (a30 : PySem.W.nsIn K mainGlobals "is_figures" = some (some (.ref f30))) (l30 : K.lookup f30 = some ⟨oc30, od30, .func (PySem.W.fnOf "is_figures" "is_figures" (defArgs s_is_figures) (defBody s_is_figures) (defScope s_is_figures) .none kV30 dc30 pm30 an30 cd30 ct30), sl30⟩) (c30 : PySem.W.codeIn K cd30 "is_figures" = true) (k30 : PySem.W.keepIn K (.ref f30) = true)
    (a31 : PySem.W.nsIn K mainGlobals "terms_read" = some (some (.ref f31))) (l31 : K.lookup f31 = some ⟨oc31, od31, .func (PySem.W.fnOf "terms_read" "terms_read" (defArgs s_terms_read) (defBody s_terms_read) (defScope s_terms_read) .none kV31 dc31 pm31 an31 cd31 ct31), sl31⟩) (c31 : PySem.W.codeIn K cd31 "terms_read" = true) (k31 : PySem.W.keepIn K (.ref f31) = true)
    (a32 : PySem.W.nsIn K mainGlobals "form_read" = some (some (.ref f32))) (l32 : K.lookup f32 = some ⟨oc32, od32, .func (PySem.W.fnOf "form_read" "form_read" (defArgs s_form_read) (defBody s_form_read) (defScope s_form_read) .none kV32 dc32 pm32 an32 cd32 ct32), sl32⟩) (c32 : PySem.W.codeIn K cd32 "form_read" = true) (k32 : PySem.W.keepIn K (.ref f32) = true)
    (a33 : PySem.W.nsIn K mainGlobals "atom_read" = some (some (.ref f33))) (l33 : K.lookup f33 = some ⟨oc33, od33, .func (PySem.W.fnOf "atom_read" "atom_read" (defArgs s_atom_read) (defBody s_atom_read) (defScope s_atom_read) .none kV33 dc33 pm33 an33 cd33 ct33), sl33⟩) (c33 : PySem.W.codeIn K cd33 "atom_read" = true) (k33 : PySem.W.keepIn K (.ref f33) = true)
    (a34 : PySem.W.nsIn K mainGlobals "joined" = some (some (.ref f34))) (l34 : K.lookup f34 = some ⟨oc34, od34, .func (PySem.W.fnOf "joined" "joined" (defArgs s_joined) (defBody s_joined) (defScope s_joined) .none kV34 dc34 pm34 an34 cd34 ct34), sl34⟩) (c34 : PySem.W.codeIn K cd34 "joined" = true) (k34 : PySem.W.keepIn K (.ref f34) = true)
    (a35 : PySem.W.nsIn K mainGlobals "test_read" = some (some (.ref f35))) (l35 : K.lookup f35 = some ⟨oc35, od35, .func (PySem.W.fnOf "test_read" "test_read" (defArgs s_test_read) (defBody s_test_read) (defScope s_test_read) .none kV35 dc35 pm35 an35 cd35 ct35), sl35⟩) (c35 : PySem.W.codeIn K cd35 "test_read" = true) (k35 : PySem.W.keepIn K (.ref f35) = true)
    (a36 : PySem.W.nsIn K mainGlobals "check_row" = some (some (.ref f36))) (l36 : K.lookup f36 = some ⟨oc36, od36, .func (PySem.W.fnOf "check_row" "check_row" (defArgs s_check_row) (defBody s_check_row) (defScope s_check_row) .none kV36 dc36 pm36 an36 cd36 ct36), sl36⟩) (c36 : PySem.W.codeIn K cd36 "check_row" = true) (k36 : PySem.W.keepIn K (.ref f36) = true)
    (a37 : PySem.W.nsIn K mainGlobals "read_test" = some (some (.ref f37))) (l37 : K.lookup f37 = some ⟨oc37, od37, .func (PySem.W.fnOf "read_test" "read_test" (defArgs s_read_test) (defBody s_read_test) (defScope s_read_test) .none kV37 dc37 pm37 an37 cd37 ct37), sl37⟩) (c37 : PySem.W.codeIn K cd37 "read_test" = true) (k37 : PySem.W.keepIn K (.ref f37) = true)
    (a39 : PySem.W.nsIn K mainGlobals "is_paper_word" = some (some (.ref f39))) (l39 : K.lookup f39 = some ⟨oc39, od39, .func (PySem.W.fnOf "is_paper_word" "is_paper_word" (defArgs s_is_paper_word) (defBody s_is_paper_word) (defScope s_is_paper_word) .none kV39 dc39 pm39 an39 cd39 ct39), sl39⟩) (c39 : PySem.W.codeIn K cd39 "is_paper_word" = true) (k39 : PySem.W.keepIn K (.ref f39) = true)
    (a40 : PySem.W.nsIn K mainGlobals "is_thing" = some (some (.ref f40))) (l40 : K.lookup f40 = some ⟨oc40, od40, .func (PySem.W.fnOf "is_thing" "is_thing" (defArgs s_is_thing) (defBody s_is_thing) (defScope s_is_thing) .none kV40 dc40 pm40 an40 cd40 ct40), sl40⟩) (c40 : PySem.W.codeIn K cd40 "is_thing" = true) (k40 : PySem.W.keepIn K (.ref f40) = true)
    (a41 : PySem.W.nsIn K mainGlobals "thing_told" = some (some (.ref f41))) (l41 : K.lookup f41 = some ⟨oc41, od41, .func (PySem.W.fnOf "thing_told" "thing_told" (defArgs s_thing_told) (defBody s_thing_told) (defScope s_thing_told) .none kV41 dc41 pm41 an41 cd41 ct41), sl41⟩) (c41 : PySem.W.codeIn K cd41 "thing_told" = true) (k41 : PySem.W.keepIn K (.ref f41) = true)
    (a42 : PySem.W.nsIn K mainGlobals "thing_text" = some (some (.ref f42))) (l42 : K.lookup f42 = some ⟨oc42, od42, .func (PySem.W.fnOf "thing_text" "thing_text" (defArgs s_thing_text) (defBody s_thing_text) (defScope s_thing_text) .none kV42 dc42 pm42 an42 cd42 ct42), sl42⟩) (c42 : PySem.W.codeIn K cd42 "thing_text" = true) (k42 : PySem.W.keepIn K (.ref f42) = true)
    (a44 : PySem.W.nsIn K mainGlobals "thing_read" = some (some (.ref f44))) (l44 : K.lookup f44 = some ⟨oc44, od44, .func (PySem.W.fnOf "thing_read" "thing_read" (defArgs s_thing_read) (defBody s_thing_read) (defScope s_thing_read) .none kV44 dc44 pm44 an44 cd44 ct44), sl44⟩) (c44 : PySem.W.codeIn K cd44 "thing_read" = true) (k44 : PySem.W.keepIn K (.ref f44) = true)
    (a45 : PySem.W.nsIn K mainGlobals "read_thing" = some (some (.ref f45))) (l45 : K.lookup f45 = some ⟨oc45, od45, .func (PySem.W.fnOf "read_thing" "read_thing" (defArgs s_read_thing) (defBody s_read_thing) (defScope s_read_thing) .none kV45 dc45 pm45 an45 cd45 ct45), sl45⟩) (c45 : PySem.W.codeIn K cd45 "read_thing" = true) (k45 : PySem.W.keepIn K (.ref f45) = true)
    (a47 : PySem.W.nsIn K mainGlobals "row_told" = some (some (.ref f47))) (l47 : K.lookup f47 = some ⟨oc47, od47, .func (PySem.W.fnOf "row_told" "row_told" (defArgs s_row_told) (defBody s_row_told) (defScope s_row_told) .none kV47 dc47 pm47 an47 cd47 ct47), sl47⟩) (c47 : PySem.W.codeIn K cd47 "row_told" = true) (k47 : PySem.W.keepIn K (.ref f47) = true)
    (a49 : PySem.W.nsIn K mainGlobals "_law_purse" = some (some (.ref f49))) (l49 : K.lookup f49 = some ⟨oc49, od49, .func (PySem.W.fnOf "_law_purse" "_law_purse" (defArgs s_purse) (defBody s_purse) (defScope s_purse) .none kV49 dc49 pm49 an49 cd49 ct49), sl49⟩) (c49 : PySem.W.codeIn K cd49 "_law_purse" = true) (k49 : PySem.W.keepIn K (.ref f49) = true)
    (a50 : PySem.W.nsIn K mainGlobals "_law_mixed" = some (some (.ref f50))) (l50 : K.lookup f50 = some ⟨oc50, od50, .func (PySem.W.fnOf "_law_mixed" "_law_mixed" (defArgs s_mixed) (defBody s_mixed) (defScope s_mixed) .none kV50 dc50 pm50 an50 cd50 ct50), sl50⟩) (c50 : PySem.W.codeIn K cd50 "_law_mixed" = true) (k50 : PySem.W.keepIn K (.ref f50) = true)
    (a51 : PySem.W.nsIn K mainGlobals "_law_draw" = some (some (.ref f51))) (l51 : K.lookup f51 = some ⟨oc51, od51, .func (PySem.W.fnOf "_law_draw" "_law_draw" (defArgs s_draw) (defBody s_draw) (defScope s_draw) .none kV51 dc51 pm51 an51 cd51 ct51), sl51⟩) (c51 : PySem.W.codeIn K cd51 "_law_draw" = true) (k51 : PySem.W.keepIn K (.ref f51) = true)
    (a52 : PySem.W.nsIn K mainGlobals "_law_purses" = some (some (.ref f52))) (l52 : K.lookup f52 = some ⟨oc52, od52, .func (PySem.W.fnOf "_law_purses" "_law_purses" (defArgs s_purses) (defBody s_purses) (defScope s_purses) .none kV52 dc52 pm52 an52 cd52 ct52), sl52⟩) (c52 : PySem.W.codeIn K cd52 "_law_purses" = true) (k52 : PySem.W.keepIn K (.ref f52) = true)
    (a53 : PySem.W.nsIn K mainGlobals "_law_one_of" = some (some (.ref f53))) (l53 : K.lookup f53 = some ⟨oc53, od53, .func (PySem.W.fnOf "_law_one_of" "_law_one_of" (defArgs s_one_of) (defBody s_one_of) (defScope s_one_of) .none kV53 dc53 pm53 an53 cd53 ct53), sl53⟩) (c53 : PySem.W.codeIn K cd53 "_law_one_of" = true) (k53 : PySem.W.keepIn K (.ref f53) = true)
    (a54 : PySem.W.nsIn K mainGlobals "_law_shuffled" = some (some (.ref f54))) (l54 : K.lookup f54 = some ⟨oc54, od54, .func (PySem.W.fnOf "_law_shuffled" "_law_shuffled" (defArgs s_shuf) (defBody s_shuf) (defScope s_shuf) .none kV54 dc54 pm54 an54 cd54 ct54), sl54⟩) (c54 : PySem.W.codeIn K cd54 "_law_shuffled" = true) (k54 : PySem.W.keepIn K (.ref f54) = true)
    (a55 : PySem.W.nsIn K mainGlobals "_law_exact" = some (some (.ref f55))) (l55 : K.lookup f55 = some ⟨oc55, od55, .func (PySem.W.fnOf "_law_exact" "_law_exact" (defArgs s__law_exact) (defBody s__law_exact) (defScope s__law_exact) .none kV55 dc55 pm55 an55 cd55 ct55), sl55⟩) (c55 : PySem.W.codeIn K cd55 "_law_exact" = true) (k55 : PySem.W.keepIn K (.ref f55) = true)
    (a56 : PySem.W.nsIn K mainGlobals "_law_copied" = some (some (.ref f56))) (l56 : K.lookup f56 = some ⟨oc56, od56, .func (PySem.W.fnOf "_law_copied" "_law_copied" (defArgs s__law_copied) (defBody s__law_copied) (defScope s__law_copied) .none kV56 dc56 pm56 an56 cd56 ct56), sl56⟩) (c56 : PySem.W.codeIn K cd56 "_law_copied" = true) (k56 : PySem.W.keepIn K (.ref f56) = true)
    (a57 : PySem.W.nsIn K mainGlobals "_law_form" = some (some (.ref f57))) (l57 : K.lookup f57 = some ⟨oc57, od57, .func (PySem.W.fnOf "_law_form" "_law_form" (defArgs s_form) (defBody s_form) (defScope s_form) .none kV57 dc57 pm57 an57 cd57 ct57), sl57⟩) (c57 : PySem.W.codeIn K cd57 "_law_form" = true) (k57 : PySem.W.keepIn K (.ref f57) = true)
    (a58 : PySem.W.nsIn K mainGlobals "_law_plus" = some (some (.ref f58))) (l58 : K.lookup f58 = some ⟨oc58, od58, .func (PySem.W.fnOf "_law_plus" "_law_plus" (defArgs s__law_plus) (defBody s__law_plus) (defScope s__law_plus) .none kV58 dc58 pm58 an58 cd58 ct58), sl58⟩) (c58 : PySem.W.codeIn K cd58 "_law_plus" = true) (k58 : PySem.W.keepIn K (.ref f58) = true)
    (a59 : PySem.W.nsIn K mainGlobals "_law_drawn_form" = some (some (.ref f59))) (l59 : K.lookup f59 = some ⟨oc59, od59, .func (PySem.W.fnOf "_law_drawn_form" "_law_drawn_form" (defArgs s_df) (defBody s_df) (defScope s_df) .none kV59 dc59 pm59 an59 cd59 ct59), sl59⟩) (c59 : PySem.W.codeIn K cd59 "_law_drawn_form" = true) (k59 : PySem.W.keepIn K (.ref f59) = true)
    (a60 : PySem.W.nsIn K mainGlobals "_law_side" = some (some (.ref f60))) (l60 : K.lookup f60 = some ⟨oc60, od60, .func (PySem.W.fnOf "_law_side" "_law_side" (defArgs s__law_side) (defBody s__law_side) (defScope s__law_side) .none kV60 dc60 pm60 an60 cd60 ct60), sl60⟩) (c60 : PySem.W.codeIn K cd60 "_law_side" = true) (k60 : PySem.W.keepIn K (.ref f60) = true)
    (a61 : PySem.W.nsIn K mainGlobals "_law_form_text" = some (some (.ref f61))) (l61 : K.lookup f61 = some ⟨oc61, od61, .func (PySem.W.fnOf "_law_form_text" "_law_form_text" (defArgs s__law_form_text) (defBody s__law_form_text) (defScope s__law_form_text) .none kV61 dc61 pm61 an61 cd61 ct61), sl61⟩) (c61 : PySem.W.codeIn K cd61 "_law_form_text" = true) (k61 : PySem.W.keepIn K (.ref f61) = true)
    (a62 : PySem.W.nsIn K mainGlobals "_law_test_text" = some (some (.ref f62))) (l62 : K.lookup f62 = some ⟨oc62, od62, .func (PySem.W.fnOf "_law_test_text" "_law_test_text" (defArgs s__law_test_text) (defBody s__law_test_text) (defScope s__law_test_text) .none kV62 dc62 pm62 an62 cd62 ct62), sl62⟩) (c62 : PySem.W.codeIn K cd62 "_law_test_text" = true) (k62 : PySem.W.keepIn K (.ref f62) = true)
    (a63 : PySem.W.nsIn K mainGlobals "_law_thing_text" = some (some (.ref f63))) (l63 : K.lookup f63 = some ⟨oc63, od63, .func (PySem.W.fnOf "_law_thing_text" "_law_thing_text" (defArgs s__law_thing_text) (defBody s__law_thing_text) (defScope s__law_thing_text) .none kV63 dc63 pm63 an63 cd63 ct63), sl63⟩) (c63 : PySem.W.codeIn K cd63 "_law_thing_text" = true) (k63 : PySem.W.keepIn K (.ref f63) = true)
    (a64 : PySem.W.nsIn K mainGlobals "_law_thing" = some (some (.ref f64))) (l64 : K.lookup f64 = some ⟨oc64, od64, .func (PySem.W.fnOf "_law_thing" "_law_thing" (defArgs s_thing) (defBody s_thing) (defScope s_thing) .none kV64 dc64 pm64 an64 cd64 ct64), sl64⟩) (c64 : PySem.W.codeIn K cd64 "_law_thing" = true) (k64 : PySem.W.keepIn K (.ref f64) = true)
    (a65 : PySem.W.nsIn K mainGlobals "_law_right" = some (some (.ref f65))) (l65 : K.lookup f65 = some ⟨oc65, od65, .func (PySem.W.fnOf "_law_right" "_law_right" (defArgs s_right) (defBody s_right) (defScope s_right) .none kV65 dc65 pm65 an65 cd65 ct65), sl65⟩) (c65 : PySem.W.codeIn K cd65 "_law_right" = true) (k65 : PySem.W.keepIn K (.ref f65) = true)
    (a66 : PySem.W.nsIn K mainGlobals "_law_row_right" = some (some (.ref f66))) (l66 : K.lookup f66 = some ⟨oc66, od66, .func (PySem.W.fnOf "_law_row_right" "_law_row_right" (defArgs s_rr) (defBody s_rr) (defScope s_rr) .none kV66 dc66 pm66 an66 cd66 ct66), sl66⟩) (c66 : PySem.W.codeIn K cd66 "_law_row_right" = true) (k66 : PySem.W.keepIn K (.ref f66) = true)
    (a67 : PySem.W.nsIn K mainGlobals "law" = some (some (.ref f67))) (l67 : K.lookup f67 = some ⟨oc67, od67, .func (PySem.W.fnOf "law" "law" (defArgs s_law) (defBody s_law) (defScope s_law) .none kV67 dc67 pm67 an67 cd67 ct67), sl67⟩) (c67 : PySem.W.codeIn K cd67 "law" = true) (k67 : PySem.W.keepIn K (.ref f67) = true)
    (aMI : PySem.W.findIn K (.ref C) "__init__" = some (some (.ref fMI))) (iMI : PySem.W.isFn K (.ref fMI) = true) (lMI : K.lookup fMI = some ⟨ocMI, odMI, .func (PySem.W.fnOf "__init__" "ThingReader.__init__" (defArgs s_init) (defBody s_init) (defScope s_init) .none kVMI dcMI pmMI anMI cdMI ctMI), slMI⟩) (cMI : PySem.W.codeIn K cdMI "ThingReader.__init__" = true) (kMI : PySem.W.keepIn K (.ref fMI) = true)
    (aMT : PySem.W.findIn K (.ref C) "takes" = some (some (.ref fMT))) (iMT : PySem.W.isFn K (.ref fMT) = true) (lMT : K.lookup fMT = some ⟨ocMT, odMT, .func (PySem.W.fnOf "takes" "ThingReader.takes" (defArgs s_takes) (defBody s_takes) (defScope s_takes) .none kVMT dcMT pmMT anMT cdMT ctMT), slMT⟩) (cMT : PySem.W.codeIn K cdMT "ThingReader.takes" = true) (kMT : PySem.W.keepIn K (.ref fMT) = true)
    (aMG : PySem.W.findIn K (.ref C) "goes_on" = some (some (.ref fMG))) (iMG : PySem.W.isFn K (.ref fMG) = true) (lMG : K.lookup fMG = some ⟨ocMG, odMG, .func (PySem.W.fnOf "goes_on" "ThingReader.goes_on" (defArgs s_ThingReader_goes_on) (defBody s_ThingReader_goes_on) (defScope s_ThingReader_goes_on) .none kVMG dcMG pmMG anMG cdMG ctMG), slMG⟩) (cMG : PySem.W.codeIn K cdMG "ThingReader.goes_on" = true) (kMG : PySem.W.keepIn K (.ref fMG) = true)
    (aMM : PySem.W.findIn K (.ref C) "item" = some (some (.ref fMM))) (iMM : PySem.W.isFn K (.ref fMM) = true) (lMM : K.lookup fMM = some ⟨ocMM, odMM, .func (PySem.W.fnOf "item" "ThingReader.item" (defArgs s_ThingReader_item) (defBody s_ThingReader_item) (defScope s_ThingReader_item) .none kVMM dcMM pmMM anMM cdMM ctMM), slMM⟩) (cMM : PySem.W.codeIn K cdMM "ThingReader.item" = true) (kMM : PySem.W.keepIn K (.ref fMM) = true)
    (aME : PySem.W.findIn K (.ref C) "ends" = some (some (.ref fME))) (iME : PySem.W.isFn K (.ref fME) = true) (lME : K.lookup fME = some ⟨ocME, odME, .func (PySem.W.fnOf "ends" "ThingReader.ends" (defArgs s_ends) (defBody s_ends) (defScope s_ends) .none kVME dcME pmME anME cdME ctME), slME⟩) (cME : PySem.W.codeIn K cdME "ThingReader.ends" = true) (kME : PySem.W.keepIn K (.ref fME) = true)
    (aMS : PySem.W.findIn K (.ref C) "shuts" = some (some (.ref fMS))) (iMS : PySem.W.isFn K (.ref fMS) = true) (lMS : K.lookup fMS = some ⟨ocMS, odMS, .func (PySem.W.fnOf "shuts" "ThingReader.shuts" (defArgs s_shuts) (defBody s_shuts) (defScope s_shuts) .none kVMS dcMS pmMS anMS cdMS ctMS), slMS⟩) (cMS : PySem.W.codeIn K cdMS "ThingReader.shuts" = true) (kMS : PySem.W.keepIn K (.ref fMS) = true)
    (z_abs : PySem.W.nsIn K mainGlobals "abs" = some none)
    (z_all : PySem.W.nsIn K mainGlobals "all" = some none)
    (z_bool : PySem.W.nsIn K mainGlobals "bool" = some none)
    (z_dict : PySem.W.nsIn K mainGlobals "dict" = some none)
    (z_enumerate : PySem.W.nsIn K mainGlobals "enumerate" = some none)
    (z_int : PySem.W.nsIn K mainGlobals "int" = some none)
    (z_isinstance : PySem.W.nsIn K mainGlobals "isinstance" = some none)
    (z_len : PySem.W.nsIn K mainGlobals "len" = some none)
    (z_list : PySem.W.nsIn K mainGlobals "list" = some none)
    (z_max : PySem.W.nsIn K mainGlobals "max" = some none)
    (z_min : PySem.W.nsIn K mainGlobals "min" = some none)
    (z_range : PySem.W.nsIn K mainGlobals "range" = some none)
    (z_sorted : PySem.W.nsIn K mainGlobals "sorted" = some none)
    (z_str : PySem.W.nsIn K mainGlobals "str" = some none)
    (z_sum : PySem.W.nsIn K mainGlobals "sum" = some none)
    (z_tuple : PySem.W.nsIn K mainGlobals "tuple" = some none)
    (z_zip : PySem.W.nsIn K mainGlobals "zip" = some none)
    (gW : PySem.W.nsIn K mainGlobals "WORDS" = some (some (.str " and call draw either else from give if into maybe or pass set to while " tW)))
    : ∃ fd : FuncData, (∀ (s : Shared) (v : Value), BindsTo s fd ⟨[v], []⟩ [("script", v)]) ∧ ∀ base : Heap, K.In base → base.Ns mainGlobals mg → FnOk l.prog w K mg base CX0 65 fa fd ["script"] (spLaw K) := by
  have e := hfa.symm.trans (PySem.W.mg_of X G a67)
  cases e
  have F1 := fun_mk (st := s_is_whole) l1 c1 k1
  have b1 := F1.binds (ps := ["value"]) fun _ _ _ _ _ _ us hl => match us, hl with | [_], _ => rfl
  have F2 := fun_mk (st := s_is_word) l2 c2 k2
  have b2 := F2.binds (ps := ["value"]) fun _ _ _ _ _ _ us hl => match us, hl with | [_], _ => rfl
  have F3 := fun_mk (st := s_is_tuple_of) l3 c3 k3
  have b3 := F3.binds (ps := ["value", "size"]) fun _ _ _ _ _ _ us hl => match us, hl with | [_, _], _ => rfl
  have F8 := fun_mk (st := s_is_name) l8 c8 k8
  have b8 := F8.binds (ps := ["value"]) fun _ _ _ _ _ _ us hl => match us, hl with | [_], _ => rfl
  have F9 := fun_mk (st := s_is_form) l9 c9 k9
  have b9 := F9.binds (ps := ["value"]) fun _ _ _ _ _ _ us hl => match us, hl with | [_], _ => rfl
  have F17 := fun_mk (st := s_is_word_there) l17 c17 k17
  have b17 := F17.binds (ps := ["value"]) fun _ _ _ _ _ _ us hl => match us, hl with | [_], _ => rfl
  have F18 := fun_mk (st := s_is_own_form) l18 c18 k18
  have b18 := F18.binds (ps := ["value"]) fun _ _ _ _ _ _ us hl => match us, hl with | [_], _ => rfl
  have F19 := fun_mk (st := s_is_headed) l19 c19 k19
  have b19 := F19.binds (ps := ["value", "words", "size"]) fun _ _ _ _ _ _ us hl => match us, hl with | [_, _, _], _ => rfl
  have F20 := fun_mk (st := s_is_atom) l20 c20 k20
  have b20 := F20.binds (ps := ["value"]) fun _ _ _ _ _ _ us hl => match us, hl with | [_], _ => rfl
  have F21 := fun_mk (st := s_has_one) l21 c21 k21
  have b21 := F21.binds (ps := ["test"]) fun _ _ _ _ _ _ us hl => match us, hl with | [_], _ => rfl
  have F22 := fun_mk (st := s_is_test) l22 c22 k22
  have b22 := F22.binds (ps := ["value"]) fun _ _ _ _ _ _ us hl => match us, hl with | [_], _ => rfl
  have F23 := fun_mk (st := s_check_test) l23 c23 k23
  have b23 := F23.binds (ps := ["value"]) fun _ _ _ _ _ _ us hl => match us, hl with | [_], _ => rfl
  have F25 := fun_mk (st := s_term_text) l25 c25 k25
  have b25 := F25.binds (ps := ["name", "factor"]) fun _ _ _ _ _ _ us hl => match us, hl with | [_, _], _ => rfl
  have F26 := fun_mk (st := s_form_told) l26 c26 k26
  have b26 := F26.binds (ps := ["form"]) fun _ _ _ _ _ _ us hl => match us, hl with | [_], _ => rfl
  have F27 := fun_mk (st := s_side_of) l27 c27 k27
  have b27 := F27.binds (ps := ["form", "sign"]) fun _ _ _ _ _ _ us hl => match us, hl with | [_, _], _ => rfl
  have F28 := fun_mk (st := s_test_told) l28 c28 k28
  have b28 := F28.binds (ps := ["test"]) fun _ _ _ _ _ _ us hl => match us, hl with | [_], _ => rfl
  have F29 := fun_mk (st := s_test_text) l29 c29 k29
  have b29 := F29.binds (ps := ["test"]) fun _ _ _ _ _ _ us hl => match us, hl with | [_], _ => rfl
  have F30 := fun_mk (st := s_is_figures) l30 c30 k30
  have b30 := F30.binds (ps := ["word"]) fun _ _ _ _ _ _ us hl => match us, hl with | [_], _ => rfl
  have F31 := fun_mk (st := s_terms_read) l31 c31 k31
  have b31 := F31.binds (ps := ["words"]) fun _ _ _ _ _ _ us hl => match us, hl with | [_], _ => rfl
  have F32 := fun_mk (st := s_form_read) l32 c32 k32
  have b32 := F32.binds (ps := ["text"]) fun _ _ _ _ _ _ us hl => match us, hl with | [_], _ => rfl
  have F33 := fun_mk (st := s_atom_read) l33 c33 k33
  have b33 := F33.binds (ps := ["text"]) fun _ _ _ _ _ _ us hl => match us, hl with | [_], _ => rfl
  have F34 := fun_mk (st := s_joined) l34 c34 k34
  have b34 := F34.binds (ps := ["word", "parts"]) fun _ _ _ _ _ _ us hl => match us, hl with | [_, _], _ => rfl
  have F35 := fun_mk (st := s_test_read) l35 c35 k35
  have b35 := F35.binds (ps := ["text"]) fun _ _ _ _ _ _ us hl => match us, hl with | [_], _ => rfl
  have F36 := fun_mk (st := s_check_row) l36 c36 k36
  have b36 := F36.binds (ps := ["text"]) fun _ _ _ _ _ _ us hl => match us, hl with | [_], _ => rfl
  have F37 := fun_mk (st := s_read_test) l37 c37 k37
  have b37 := F37.binds (ps := ["text"]) fun _ _ _ _ _ _ us hl => match us, hl with | [_], _ => rfl
  have F39 := fun_mk (st := s_is_paper_word) l39 c39 k39
  have b39 := F39.binds (ps := ["value"]) fun _ _ _ _ _ _ us hl => match us, hl with | [_], _ => rfl
  have F40 := fun_mk (st := s_is_thing) l40 c40 k40
  have b40 := F40.binds (ps := ["value"]) fun _ _ _ _ _ _ us hl => match us, hl with | [_], _ => rfl
  have F41 := fun_mk (st := s_thing_told) l41 c41 k41
  have b41 := F41.binds (ps := ["thing"]) fun _ _ _ _ _ _ us hl => match us, hl with | [_], _ => rfl
  have F42 := fun_mk (st := s_thing_text) l42 c42 k42
  have b42 := F42.binds (ps := ["thing"]) fun _ _ _ _ _ _ us hl => match us, hl with | [_], _ => rfl
  have F44 := fun_mk (st := s_thing_read) l44 c44 k44
  have b44 := F44.binds (ps := ["text"]) fun _ _ _ _ _ _ us hl => match us, hl with | [_], _ => rfl
  have F45 := fun_mk (st := s_read_thing) l45 c45 k45
  have b45 := F45.binds (ps := ["text"]) fun _ _ _ _ _ _ us hl => match us, hl with | [_], _ => rfl
  have F47 := fun_mk (st := s_row_told) l47 c47 k47
  have b47 := F47.binds (ps := ["row"]) fun _ _ _ _ _ _ us hl => match us, hl with | [_], _ => rfl
  have F49 := fun_mk (st := s_purse) l49 c49 k49
  have b49 := F49.binds (ps := ["script", "at"]) fun _ _ _ _ _ _ us hl => match us, hl with | [_, _], _ => rfl
  have F50 := fun_mk (st := s_mixed) l50 c50 k50
  have b50 := F50.binds (ps := ["seed", "spin", "at"]) fun _ _ _ _ _ _ us hl => match us, hl with | [_, _, _], _ => rfl
  have F51 := fun_mk (st := s_draw) l51 c51 k51
  have b51 := F51.binds (ps := ["purse", "many"]) fun _ _ _ _ _ _ us hl => match us, hl with | [_, _], _ => rfl
  have F52 := fun_mk (st := s_purses) l52 c52 k52
  have b52 := F52.binds (ps := ["script", "few"]) fun _ _ _ _ _ _ us hl => match us, hl with | [_, _], _ => rfl
  have F53 := fun_mk (st := s_one_of) l53 c53 k53
  have b53 := F53.binds (ps := ["purse", "some"]) fun _ _ _ _ _ _ us hl => match us, hl with | [_, _], _ => rfl
  have F54 := fun_mk (st := s_shuf) l54 c54 k54
  have b54 := F54.binds (ps := ["purse", "some"]) fun _ _ _ _ _ _ us hl => match us, hl with | [_, _], _ => rfl
  have F55 := fun_mk (st := s__law_exact) l55 c55 k55
  have b55 := F55.binds (ps := ["mine", "theirs"]) fun _ _ _ _ _ _ us hl => match us, hl with | [_, _], _ => rfl
  have F56 := fun_mk (st := s__law_copied) l56 c56 k56
  have b56 := F56.binds (ps := ["thing"]) fun _ _ _ _ _ _ us hl => match us, hl with | [_], _ => rfl
  have F57 := fun_mk (st := s_form) l57 c57 k57
  have b57 := F57.binds (ps := ["number", "pairs"]) fun _ _ _ _ _ _ us hl => match us, hl with | [_, _], _ => rfl
  have F58 := fun_mk (st := s__law_plus) l58 c58 k58
  have b58 := F58.binds (ps := ["one", "many", "other"]) fun _ _ _ _ _ _ us hl => match us, hl with | [_, _, _], _ => rfl
  have F59 := fun_mk (st := s_df) l59 c59 k59
  have b59 := F59.binds (ps := ["purse", "names", "wide"]) fun _ _ _ _ _ _ us hl => match us, hl with | [_, _, _], _ => rfl
  have F60 := fun_mk (st := s__law_side) l60 c60 k60
  have b60 := F60.binds (ps := ["form", "sign"]) fun _ _ _ _ _ _ us hl => match us, hl with | [_, _], _ => rfl
  have F61 := fun_mk (st := s__law_form_text) l61 c61 k61
  have b61 := F61.binds (ps := ["form"]) fun _ _ _ _ _ _ us hl => match us, hl with | [_], _ => rfl
  have F62 := fun_mk (st := s__law_test_text) l62 c62 k62
  have b62 := F62.binds (ps := ["test"]) fun _ _ _ _ _ _ us hl => match us, hl with | [_], _ => rfl
  have F63 := fun_mk (st := s__law_thing_text) l63 c63 k63
  have b63 := F63.binds (ps := ["thing"]) fun _ _ _ _ _ _ us hl => match us, hl with | [_], _ => rfl
  have F64 := fun_mk (st := s_thing) l64 c64 k64
  have b64 := F64.binds (ps := ["purse", "deep"]) fun _ _ _ _ _ _ us hl => match us, hl with | [_, _], _ => rfl
  have F65 := fun_mk (st := s_right) l65 c65 k65
  have b65 := F65.binds (ps := ["purse"]) fun _ _ _ _ _ _ us hl => match us, hl with | [_], _ => rfl
  have F66 := fun_mk (st := s_rr) l66 c66 k66
  have b66 := F66.binds (ps := ["purse"]) fun _ _ _ _ _ _ us hl => match us, hl with | [_], _ => rfl
  have F67 := fun_mk (st := s_law) l67 c67 k67
  have b67 := F67.binds (ps := ["script"]) fun _ _ _ _ _ _ us hl => match us, hl with | [_], _ => rfl
  have FMI := fun_mk (st := s_init) lMI cMI kMI
  have bMI := FMI.binds (ps := ["self"]) fun _ _ _ _ _ _ us hl => match us, hl with | [_], _ => rfl
  have FMT := fun_mk (st := s_takes) lMT cMT kMT
  have bMT := FMT.binds (ps := ["self", "sign"]) fun _ _ _ _ _ _ us hl => match us, hl with | [_, _], _ => rfl
  have FMG := fun_mk (st := s_ThingReader_goes_on) lMG cMG kMG
  have bMG := FMG.binds (ps := ["self", "sign"]) fun _ _ _ _ _ _ us hl => match us, hl with | [_, _], _ => rfl
  have FMM := fun_mk (st := s_ThingReader_item) lMM cMM kMM
  have bMM := FMM.binds (ps := ["self"]) fun _ _ _ _ _ _ us hl => match us, hl with | [_], _ => rfl
  have FME := fun_mk (st := s_ends) lME cME kME
  have bME := FME.binds (ps := ["self"]) fun _ _ _ _ _ _ us hl => match us, hl with | [_], _ => rfl
  have FMS := fun_mk (st := s_shuts) lMS cMS kMS
  have bMS := FMS.binds (ps := ["self", "sign"]) fun _ _ _ _ _ _ us hl => match us, hl with | [_, _], _ => rfl
  have y42 : KB1 K (PySem.W.fnOf "thing_text" "thing_text" (defArgs s_thing_text) (defBody s_thing_text) (defScope s_thing_text) .none kV42 dc42 pm42 an42 cd42 ct42) "thing" := kb_one (fun s v => .of_eq rfl) (fun s v => .of_eq rfl)
  have y45 : KB1 K (PySem.W.fnOf "read_thing" "read_thing" (defArgs s_read_thing) (defBody s_read_thing) (defScope s_read_thing) .none kV45 dc45 pm45 an45 cd45 ct45) "text" := kb_one (fun s v => .of_eq rfl) (fun s v => .of_eq rfl)
  have y47 : KB1 K (PySem.W.fnOf "row_told" "row_told" (defArgs s_row_told) (defBody s_row_told) (defScope s_row_told) .none kV47 dc47 pm47 an47 cd47 ct47) "row" := kb_one (fun s v => .of_eq rfl) (fun s v => .of_eq rfl)
  refine ⟨PySem.W.fnOf "law" "law" (defArgs s_law) (defBody s_law) (defScope s_law) .none kV67 dc67 pm67 an67 cd67 ct67, fun s v => .of_eq rfl, fun base _ _ => ?_⟩
  exact top_law F67 ⟨⟨pg, hdC, po, saC⟩, nL, nS, nW, nE⟩ ⟨mkC, aMI, iMI, kCC⟩ (PySem.W.mg_of X G gC) FMI bMI FMT bMT ⟨aMT, iMT, kMT⟩ FMG bMG ⟨aMG, iMG, kMG⟩ FMM bMM ⟨aMM, iMM, kMM⟩ FME bME ⟨aME, iME, kME⟩ FMS bMS ⟨aMS, iMS, kMS⟩ ⟨⟨tW, rfl⟩, PySem.W.mg_of X G gW⟩ ⟨_, _, F39, PySem.W.mg_of X G a39, b39⟩ ⟨_, _, F40, PySem.W.mg_of X G a40, b40⟩ ⟨_, _, F41, PySem.W.mg_of X G a41, b41⟩ ⟨_, _, F55, PySem.W.mg_of X G a55, b55⟩ ⟨_, _, F63, PySem.W.mg_of X G a63, b63⟩ ⟨_, _, F56, PySem.W.mg_of X G a56, b56⟩ ⟨_, _, F1, PySem.W.mg_of X G a1, b1⟩ ⟨_, _, F2, PySem.W.mg_of X G a2, b2⟩ ⟨_, _, F3, PySem.W.mg_of X G a3, b3⟩ ⟨_, _, F8, PySem.W.mg_of X G a8, b8⟩ ⟨_, _, F9, PySem.W.mg_of X G a9, b9⟩ ⟨_, _, F17, PySem.W.mg_of X G a17, b17⟩ ⟨_, _, F18, PySem.W.mg_of X G a18, b18⟩ ⟨_, _, F19, PySem.W.mg_of X G a19, b19⟩ ⟨_, _, F20, PySem.W.mg_of X G a20, b20⟩ ⟨_, _, F21, PySem.W.mg_of X G a21, b21⟩ ⟨_, _, F22, PySem.W.mg_of X G a22, b22⟩ ⟨_, _, F23, PySem.W.mg_of X G a23, b23⟩ ⟨_, _, F25, PySem.W.mg_of X G a25, b25⟩ ⟨_, _, F26, PySem.W.mg_of X G a26, b26⟩ ⟨_, _, F27, PySem.W.mg_of X G a27, b27⟩ ⟨_, _, F28, PySem.W.mg_of X G a28, b28⟩ ⟨_, _, F29, PySem.W.mg_of X G a29, b29⟩ ⟨_, _, F30, PySem.W.mg_of X G a30, b30⟩ ⟨_, _, F31, PySem.W.mg_of X G a31, b31⟩ ⟨_, _, F32, PySem.W.mg_of X G a32, b32⟩ ⟨_, _, F33, PySem.W.mg_of X G a33, b33⟩ ⟨_, _, F34, PySem.W.mg_of X G a34, b34⟩ ⟨_, _, F35, PySem.W.mg_of X G a35, b35⟩ ⟨_, _, F36, PySem.W.mg_of X G a36, b36⟩ ⟨_, _, F37, PySem.W.mg_of X G a37, b37⟩ ⟨_, _, F61, PySem.W.mg_of X G a61, b61⟩ ⟨_, _, F60, PySem.W.mg_of X G a60, b60⟩ ⟨_, _, F62, PySem.W.mg_of X G a62, b62⟩ F42 (PySem.W.mg_of X G a42) b42 y42 F45 (PySem.W.mg_of X G a45) b45 y45 F47 (PySem.W.mg_of X G a47) b47 y47 ⟨_, _, F44, PySem.W.mg_of X G a44, b44⟩ ⟨_, _, F49, PySem.W.mg_of X G a49, b49⟩ ⟨_, _, F50, PySem.W.mg_of X G a50, b50⟩ ⟨_, _, F51, PySem.W.mg_of X G a51, b51⟩ ⟨_, _, F52, PySem.W.mg_of X G a52, b52⟩ ⟨_, _, F53, PySem.W.mg_of X G a53, b53⟩ ⟨_, _, F54, PySem.W.mg_of X G a54, b54⟩ ⟨_, _, F57, PySem.W.mg_of X G a57, b57⟩ ⟨_, _, F58, PySem.W.mg_of X G a58, b58⟩ ⟨_, _, F59, PySem.W.mg_of X G a59, b59⟩ ⟨_, _, F64, PySem.W.mg_of X G a64, b64⟩ ⟨_, _, F65, PySem.W.mg_of X G a65, b65⟩ ⟨_, _, F66, PySem.W.mg_of X G a66, b66⟩ (PySem.W.mg_none_of X G z_abs) (PySem.W.mg_none_of X G z_all) (PySem.W.mg_none_of X G z_bool) (PySem.W.mg_none_of X G z_dict) (PySem.W.mg_none_of X G z_enumerate) (PySem.W.mg_none_of X G z_int) (PySem.W.mg_none_of X G z_isinstance) (PySem.W.mg_none_of X G z_len) (PySem.W.mg_none_of X G z_list) (PySem.W.mg_none_of X G z_max) (PySem.W.mg_none_of X G z_min) (PySem.W.mg_none_of X G z_range) (PySem.W.mg_none_of X G z_sorted) (PySem.W.mg_none_of X G z_str) (PySem.W.mg_none_of X G z_sum) (PySem.W.mg_none_of X G z_tuple) (PySem.W.mg_none_of X G z_zip)
end K87

set_option Elab.async false
set_option linter.all false
set_option maxRecDepth 100000
set_option maxHeartbeats 8000000
namespace K87
open PySem PySem.Spec PyProof.Rows L2 Pu
theorem walk {l : PySem.W.OpenLaw} {q : Program} {loose : List Str} {XP : (Str → Option Value) → Heap → Prop} {YP : World → Heap → Prop} {d : DefRec} {K : Params → PySem.W.Frag} (hn : l.most = some 63) (hdf : d.params.defaults = [])
    (hY : ∀ (w : World) (h : Heap), YP w h → (K w.params).In h)
    (F : ∀ (w : World) (mg : Str → Option Value) (fa : Addr) (h : Heap), (K w.params).In h → h.Ns mainGlobals mg → mg d.name = some (.ref fa) →
      ∃ fd : FuncData, (∀ (s : Shared) (u : Value), BindsTo s fd ⟨[u], []⟩ [("script", u)]) ∧ ∀ base : Heap, (K w.params).In base → base.Ns mainGlobals mg → FnOk l.prog w (K w.params) mg base CX0 65 fa fd ["script"] (spLaw (K w.params))) :
    PySem.W.WalkO q loose XP YP l.row.toRowW d [] (fun f vs => PySem.call f vs) :=
  L2.walk_of (n := 63) (k := 65) (x := "script") (CX := fun _ => CX0) (sp := fun w => spLaw (K w.params)) hn (by decide) hdf ⟨rfl, by decide, by decide⟩ hY F (fun _ _ a ns hl _ hS => ⟨a, ns, rfl, hS, hl, fun _ => rfl⟩) fun _ _ _ _ _ z => z
end K87
open PySem PySem.W PyProof.Rows in
set_option maxRecDepth 100000 in
set_option maxHeartbeats 0 in
theorem PySem.Challenge.cw_comestoend_k87_whole_things_told_and_rea_holds : PySem.Challenge.rw_comestoend_k87_whole_things_told_and_rea.Holds := by
  w_on; o_law; k_head; (case hw => w_witness2)
  k_fill
  refine K87.walk (l := PySem.Challenge.rw_comestoend_k87_whole_things_told_and_rea) rfl rfl (fun w h Y => PySem.W.kIn_of Y) ?F
  case F =>
    intro w mg fa h KX G hmg
    refine' K87.all_mk KX G hmg ?gC ?pg ?hdC ?po ?saC ?mkC ?kCC ?nL ?nS ?nW ?nE ?a1 ?l1 ?c1 ?k1 ?a2 ?l2 ?c2 ?k2 ?a3 ?l3 ?c3 ?k3 ?a8 ?l8 ?c8 ?k8 ?a9 ?l9 ?c9 ?k9 ?a17 ?l17 ?c17 ?k17 ?a18 ?l18 ?c18 ?k18 ?a19 ?l19 ?c19 ?k19 ?a20 ?l20 ?c20 ?k20 ?a21 ?l21 ?c21 ?k21 ?a22 ?l22 ?c22 ?k22 ?a23 ?l23 ?c23 ?k23 ?a25 ?l25 ?c25 ?k25 ?a26 ?l26 ?c26 ?k26 ?a27 ?l27 ?c27 ?k27 ?a28 ?l28 ?c28 ?k28 ?a29 ?l29 ?c29 ?k29 ?a30 ?l30 ?c30 ?k30 ?a31 ?l31 ?c31 ?k31 ?a32 ?l32 ?c32 ?k32 ?a33 ?l33 ?c33 ?k33 ?a34 ?l34 ?c34 ?k34 ?a35 ?l35 ?c35 ?k35 ?a36 ?l36 ?c36 ?k36 ?a37 ?l37 ?c37 ?k37 ?a39 ?l39 ?c39 ?k39 ?a40 ?l40 ?c40 ?k40 ?a41 ?l41 ?c41 ?k41 ?a42 ?l42 ?c42 ?k42 ?a44 ?l44 ?c44 ?k44 ?a45 ?l45 ?c45 ?k45 ?a47 ?l47 ?c47 ?k47 ?a49 ?l49 ?c49 ?k49 ?a50 ?l50 ?c50 ?k50 ?a51 ?l51 ?c51 ?k51 ?a52 ?l52 ?c52 ?k52 ?a53 ?l53 ?c53 ?k53 ?a54 ?l54 ?c54 ?k54 ?a55 ?l55 ?c55 ?k55 ?a56 ?l56 ?c56 ?k56 ?a57 ?l57 ?c57 ?k57 ?a58 ?l58 ?c58 ?k58 ?a59 ?l59 ?c59 ?k59 ?a60 ?l60 ?c60 ?k60 ?a61 ?l61 ?c61 ?k61 ?a62 ?l62 ?c62 ?k62 ?a63 ?l63 ?c63 ?k63 ?a64 ?l64 ?c64 ?k64 ?a65 ?l65 ?c65 ?k65 ?a66 ?l66 ?c66 ?k66 ?a67 ?l67 ?c67 ?k67 ?aMI ?iMI ?lMI ?cMI ?kMI ?aMT ?iMT ?lMT ?cMT ?kMT ?aMG ?iMG ?lMG ?cMG ?kMG ?aMM ?iMM ?lMM ?cMM ?kMM ?aME ?iME ?lME ?cME ?kME ?aMS ?iMS ?lMS ?cMS ?kMS ?z_abs ?z_all ?z_bool ?z_dict ?z_enumerate ?z_int ?z_isinstance ?z_len ?z_list ?z_max ?z_min ?z_range ?z_sorted ?z_str ?z_sum ?z_tuple ?z_zip ?gW
    (case gC => k_is)
    (case pg => k_is)
    (case hdC => k_is)
    (case po => k_is)
    (case saC => k_is)
    (case mkC => k_is)
    (case kCC => k_is)
    (case nL => k_is)
    (case nS => k_is)
    (case nW => k_is)
    (case nE => k_is)
    (case a1 => k_is)
    (case l1 => k_is)
    (case c1 => k_is)
    (case k1 => k_is)
    (case a2 => k_is)
    (case l2 => k_is)
    (case c2 => k_is)
    (case k2 => k_is)
    (case a3 => k_is)
    (case l3 => k_is)
    (case c3 => k_is)
    (case k3 => k_is)
    (case a8 => k_is)
    (case l8 => k_is)
    (case c8 => k_is)
    (case k8 => k_is)
    (case a9 => k_is)
    (case l9 => k_is)
    (case c9 => k_is)
    (case k9 => k_is)
    (case a17 => k_is)
    (case l17 => k_is)
    (case c17 => k_is)
    (case k17 => k_is)
    (case a18 => k_is)
    (case l18 => k_is)
    (case c18 => k_is)
    (case k18 => k_is)
    (case a19 => k_is)
    (case l19 => k_is)
    (case c19 => k_is)
    (case k19 => k_is)
    (case a20 => k_is)
    (case l20 => k_is)
    (case c20 => k_is)
    (case k20 => k_is)
    (case a21 => k_is)
    (case l21 => k_is)
    (case c21 => k_is)
    (case k21 => k_is)
    (case a22 => k_is)
    (case l22 => k_is)
    (case c22 => k_is)
    (case k22 => k_is)
    (case a23 => k_is)
    (case l23 => k_is)
    (case c23 => k_is)
    (case k23 => k_is)
    (case a25 => k_is)
    (case l25 => k_is)
    (case c25 => k_is)
    (case k25 => k_is)
    (case a26 => k_is)
    (case l26 => k_is)
    (case c26 => k_is)
    (case k26 => k_is)
    (case a27 => k_is)
    (case l27 => k_is)
    (case c27 => k_is)
    (case k27 => k_is)
    (case a28 => k_is)
    (case l28 => k_is)
    (case c28 => k_is)
    (case k28 => k_is)
    (case a29 => k_is)
    (case l29 => k_is)
    (case c29 => k_is)
    (case k29 => k_is)
    (case a30 => k_is)
    (case l30 => k_is)
    (case c30 => k_is)
    (case k30 => k_is)
    (case a31 => k_is)
    (case l31 => k_is)
    (case c31 => k_is)
    (case k31 => k_is)
    (case a32 => k_is)
    (case l32 => k_is)
    (case c32 => k_is)
    (case k32 => k_is)
    (case a33 => k_is)
    (case l33 => k_is)
    (case c33 => k_is)
    (case k33 => k_is)
    (case a34 => k_is)
    (case l34 => k_is)
    (case c34 => k_is)
    (case k34 => k_is)
    (case a35 => k_is)
    (case l35 => k_is)
    (case c35 => k_is)
    (case k35 => k_is)
    (case a36 => k_is)
    (case l36 => k_is)
    (case c36 => k_is)
    (case k36 => k_is)
    (case a37 => k_is)
    (case l37 => k_is)
    (case c37 => k_is)
    (case k37 => k_is)
    (case a39 => k_is)
    (case l39 => k_is)
    (case c39 => k_is)
    (case k39 => k_is)
    (case a40 => k_is)
    (case l40 => k_is)
    (case c40 => k_is)
    (case k40 => k_is)
    (case a41 => k_is)
    (case l41 => k_is)
    (case c41 => k_is)
    (case k41 => k_is)
    (case a42 => k_is)
    (case l42 => k_is)
    (case c42 => k_is)
    (case k42 => k_is)
    (case a44 => k_is)
    (case l44 => k_is)
    (case c44 => k_is)
    (case k44 => k_is)
    (case a45 => k_is)
    (case l45 => k_is)
    (case c45 => k_is)
    (case k45 => k_is)
    (case a47 => k_is)
    (case l47 => k_is)
    (case c47 => k_is)
    (case k47 => k_is)
    (case a49 => k_is)
    (case l49 => k_is)
    (case c49 => k_is)
    (case k49 => k_is)
    (case a50 => k_is)
    (case l50 => k_is)
    (case c50 => k_is)
    (case k50 => k_is)
    (case a51 => k_is)
    (case l51 => k_is)
    (case c51 => k_is)
    (case k51 => k_is)
    (case a52 => k_is)
    (case l52 => k_is)
    (case c52 => k_is)
    (case k52 => k_is)
    (case a53 => k_is)
    (case l53 => k_is)
    (case c53 => k_is)
    (case k53 => k_is)
    (case a54 => k_is)
    (case l54 => k_is)
    (case c54 => k_is)
    (case k54 => k_is)
    (case a55 => k_is)
    (case l55 => k_is)
    (case c55 => k_is)
    (case k55 => k_is)
    (case a56 => k_is)
    (case l56 => k_is)
    (case c56 => k_is)
    (case k56 => k_is)
    (case a57 => k_is)
    (case l57 => k_is)
    (case c57 => k_is)
    (case k57 => k_is)
    (case a58 => k_is)
    (case l58 => k_is)
    (case c58 => k_is)
    (case k58 => k_is)
    (case a59 => k_is)
    (case l59 => k_is)
    (case c59 => k_is)
    (case k59 => k_is)
    (case a60 => k_is)
    (case l60 => k_is)
    (case c60 => k_is)
    (case k60 => k_is)
    (case a61 => k_is)
    (case l61 => k_is)
    (case c61 => k_is)
    (case k61 => k_is)
    (case a62 => k_is)
    (case l62 => k_is)
    (case c62 => k_is)
    (case k62 => k_is)
    (case a63 => k_is)
    (case l63 => k_is)
    (case c63 => k_is)
    (case k63 => k_is)
    (case a64 => k_is)
    (case l64 => k_is)
    (case c64 => k_is)
    (case k64 => k_is)
    (case a65 => k_is)
    (case l65 => k_is)
    (case c65 => k_is)
    (case k65 => k_is)
    (case a66 => k_is)
    (case l66 => k_is)
    (case c66 => k_is)
    (case k66 => k_is)
    (case a67 => k_is)
    (case l67 => k_is)
    (case c67 => k_is)
    (case k67 => k_is)
    (case aMI => k_is)
    (case iMI => k_is)
    (case lMI => k_is)
    (case cMI => k_is)
    (case kMI => k_is)
    (case aMT => k_is)
    (case iMT => k_is)
    (case lMT => k_is)
    (case cMT => k_is)
    (case kMT => k_is)
    (case aMG => k_is)
    (case iMG => k_is)
    (case lMG => k_is)
    (case cMG => k_is)
    (case kMG => k_is)
    (case aMM => k_is)
    (case iMM => k_is)
    (case lMM => k_is)
    (case cMM => k_is)
    (case kMM => k_is)
    (case aME => k_is)
    (case iME => k_is)
    (case lME => k_is)
    (case cME => k_is)
    (case kME => k_is)
    (case aMS => k_is)
    (case iMS => k_is)
    (case lMS => k_is)
    (case cMS => k_is)
    (case kMS => k_is)
    (case z_abs => k_is)
    (case z_all => k_is)
    (case z_bool => k_is)
    (case z_dict => k_is)
    (case z_enumerate => k_is)
    (case z_int => k_is)
    (case z_isinstance => k_is)
    (case z_len => k_is)
    (case z_list => k_is)
    (case z_max => k_is)
    (case z_min => k_is)
    (case z_range => k_is)
    (case z_sorted => k_is)
    (case z_str => k_is)
    (case z_sum => k_is)
    (case z_tuple => k_is)
    (case z_zip => k_is)
    (case gW => k_is)

